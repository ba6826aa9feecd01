import PyProof.Rows.All
import Wide.All
import OpenK.AllK
import Wide.FinOn
import HandS.ForMost
import HandS.Gcd
import HandS.IsInst
import HandS.NoneIn
import HandS.Wide
import HandS.WideBits
import HandS.Flow
import HandS.Style
import HandS.Replace
import HandS.ReplaceLit
import HandS.StrMore
import HandS.StrSplit
import HandS.HeadHook2
import HandS.TupAny
import HandS.Zip
import HandS.Walk
import HandS.Rev
import HandS.SortRule
import HandS.SortInts
import HandS.Defaults
import KE.GoesMore
import KE.GoesEnum
import KE.KDictZip
import KE.GoesZip
import HandS.Head2
import HandS.Head3
import HandS.HeadEnd
import HandS.HeadHook4
import HandS.EndBits
import KE.KEqSeq
import PySem.Challenge.RW_fractionmills_k61_across_primes_named_an
set_option Elab.async false
set_option linter.all false
set_option maxRecDepth 100000
set_option maxHeartbeats 4000000
/-! Dn, part A: plain data, what stands for it in the heap; a frame's slots as data. -/
namespace Dn
open PySem L2

abbrev D := PyData

/-! ### extensions of a heap -/
def Ex (H H' : Hp) : Prop := ∀ a o, H a = some o → H' a = some o
theorem Ex.refl (H : Hp) : Ex H H := fun _ _ h => h
theorem Ex.trans {H H1 H2 : Hp} (a : Ex H H1) (b : Ex H1 H2) : Ex H H2 := fun x o h => b x o (a x o h)
theorem Ex.lst {K : PySem.W.Frag} {H H' : Hp} (e : Ex H H') {a : Addr} {xs : List V} (h : SqL K H a xs) : SqL K H' a xs := by
  rcases h with (h | ⟨o, h⟩) | h
  · exact .inl (.inl (e _ _ h))
  · exact .inl (.inr ⟨o, e _ _ h⟩)
  · exact .inr h
theorem Ex.new {H : Hp} {p : Addr} {o : HO} (h : H p = none) : Ex H (upd H p o) := fun a u e => by
  rw [upd_ne (ne_of_none e h)]
  exact e
theorem Ex.tup {K : PySem.W.Frag} {H H' : Hp} (e : Ex H H') {a : Addr} {xs : List V} (h : SqT K H a xs) : SqT K H' a xs := by
  rcases h with (h | ⟨o, h⟩) | h
  · exact .inl (.inl (e _ _ h))
  · exact .inl (.inr ⟨o, e _ _ h⟩)
  · exact .inr h

/-! ### data at a value -/
/-- a dict's key as data -/
def kD : Key → D
  | .inl i => .int i
  | .inr x => .str x
mutual
inductive RD (K : PySem.W.Frag) (H : Hp) : V → D → Prop
  | non : RD K H .non .none
  | bl (b : Bool) : RD K H (.bl b) (.bool b)
  | int (i : Int) : RD K H (.int i) (.int i)
  | str (x : Str) : RD K H (.str x) (.str x)
  | lst {a : Addr} {xs : List V} {ds : List D} : H a = some (.lst xs) → RDs K H xs ds → RD K H (.ref a) (.list ds)
  | tup {a : Addr} {xs : List V} {ds : List D} : SqT K H a xs → RDs K H xs ds → RD K H (.ref a) (.tuple ds)
  | dct {a : Addr} {kvs : List (Key × V)} {ds : List (D × D)} : H a = some (.dK kvs) → RDk K H kvs ds → RD K H (.ref a) (.dict ds)
inductive RDs (K : PySem.W.Frag) (H : Hp) : List V → List D → Prop
  | nil : RDs K H [] []
  | cons {v : V} {vs : List V} {d : D} {ds : List D} : RD K H v d → RDs K H vs ds → RDs K H (v :: vs) (d :: ds)
inductive RDk (K : PySem.W.Frag) (H : Hp) : List (Key × V) → List (D × D) → Prop
  | nil : RDk K H [] []
  | cons {k : Key} {v : V} {vs : List (Key × V)} {d : D} {ds : List (D × D)} : RD K H v d → RDk K H vs ds → RDk K H ((k, v) :: vs) ((kD k, d) :: ds)
end
section
variable {K : PySem.W.Frag} {H H' : Hp}
mutual
theorem RD.mono (e : Ex H H') : ∀ {v : V} {d : D}, RD K H v d → RD K H' v d
  | _, _, .non => .non
  | _, _, .bl b => .bl b
  | _, _, .int i => .int i
  | _, _, .str x => .str x
  | _, _, .lst h r => .lst (e _ _ h) (RDs.mono e r)
  | _, _, .tup h r => .tup (e.tup h) (RDs.mono e r)
  | _, _, .dct h r => .dct (e _ _ h) (RDk.mono e r)
theorem RDs.mono (e : Ex H H') : ∀ {v : List V} {d : List D}, RDs K H v d → RDs K H' v d
  | _, _, .nil => .nil
  | _, _, .cons h r => .cons (RD.mono e h) (RDs.mono e r)
theorem RDk.mono (e : Ex H H') : ∀ {v : List (Key × V)} {d : List (D × D)}, RDk K H v d → RDk K H' v d
  | _, _, .nil => .nil
  | _, _, .cons h r => .cons (RD.mono e h) (RDk.mono e r)
end
theorem RDs.length : ∀ {vs : List V} {ds : List D}, RDs K H vs ds → vs.length = ds.length
  | _, _, .nil => rfl
  | _, _, .cons _ r => congrArg (· + 1) r.length
theorem RDs.append : ∀ {vs ws : List V} {ds es : List D}, RDs K H vs ds → RDs K H ws es → RDs K H (vs ++ ws) (ds ++ es)
  | _, _, _, _, .nil, s => s
  | _, _, _, _, .cons h r, s => .cons h (RDs.append r s)
theorem RDs.get : ∀ {vs : List V} {ds : List D} {i : Nat} {d : D}, RDs K H vs ds → ds[i]? = some d → ∃ v, vs[i]? = some v ∧ RD K H v d
  | _, _, _, _, .nil, e => by simp at e
  | _, _, 0, _, .cons h _, e => by simp at e; subst e; exact ⟨_, rfl, h⟩
  | _, _, i + 1, d, .cons _ r, e => by
    obtain ⟨v, h1, h2⟩ := RDs.get (i := i) (d := d) r (by simpa using e)
    exact ⟨v, by simpa using h1, h2⟩
theorem RDs.getV : ∀ {vs : List V} {ds : List D} {i : Nat} {v : V}, RDs K H vs ds → vs[i]? = some v → ∃ d, ds[i]? = some d ∧ RD K H v d
  | _, _, _, _, .nil, e => by simp at e
  | _, _, 0, _, .cons h _, e => by simp at e; subst e; exact ⟨_, rfl, h⟩
  | _, _, i + 1, d, .cons _ r, e => by
    obtain ⟨v, h1, h2⟩ := RDs.getV (i := i) (v := d) r (by simpa using e)
    exact ⟨v, by simpa using h1, h2⟩
theorem RDs.take : ∀ {vs : List V} {ds : List D} (n : Nat), RDs K H vs ds → RDs K H (vs.take n) (ds.take n)
  | _, _, 0, _ => .nil
  | _, _, _ + 1, .nil => .nil
  | _, _, n + 1, .cons h r => .cons h (RDs.take n r)
theorem RDs.drop : ∀ {vs : List V} {ds : List D} (n : Nat), RDs K H vs ds → RDs K H (vs.drop n) (ds.drop n)
  | _, _, 0, r => r
  | _, _, _ + 1, .nil => .nil
  | _, _, n + 1, .cons _ r => RDs.drop n r
theorem RDs.set {v : V} {d : D} (q : RD K H v d) : ∀ {vs : List V} {ds : List D} (i : Nat), RDs K H vs ds → RDs K H (vs.set i v) (ds.set i d)
  | _, _, _, .nil => .nil
  | _, _, 0, .cons _ r => .cons q r
  | _, _, i + 1, .cons h r => .cons h (RDs.set q i r)
theorem RDs.eraseIdx : ∀ {vs : List V} {ds : List D} (i : Nat), RDs K H vs ds → RDs K H (vs.eraseIdx i) (ds.eraseIdx i)
  | _, _, _, .nil => .nil
  | _, _, 0, .cons _ r => r
  | _, _, i + 1, .cons h r => .cons h (RDs.eraseIdx i r)
theorem RDs.reverse : ∀ {vs : List V} {ds : List D}, RDs K H vs ds → RDs K H vs.reverse ds.reverse
  | _, _, .nil => .nil
  | _, _, .cons h r => by
    rw [List.reverse_cons, List.reverse_cons]
    exact (RDs.reverse r).append (.cons h .nil)
theorem RDs.dropLast {vs : List V} {ds : List D} (h : RDs K H vs ds) : RDs K H vs.dropLast ds.dropLast := by
  rw [List.dropLast_eq_take, List.dropLast_eq_take, h.length]
  exact h.take _

/-- an object of one's own: a list, a dict; its items are plain data -/
inductive OV where
  | lst (xs : List D) | dct (kvs : List (D × D))
def ovD : OV → D
  | .lst xs => .list xs
  | .dct kvs => .dict kvs
def OVat (K : PySem.W.Frag) (Hf H : Hp) (a : Addr) : OV → Prop
  | .lst xs => ∃ vs, H a = some (.lst vs) ∧ RDs K Hf vs xs
  | .dct kvs => ∃ ws, H a = some (.dK ws) ∧ RDk K Hf ws kvs
theorem OVat.mono {Hf Hf' : Hp} {a : Addr} {o : OV} (e : Ex Hf Hf') (hh : ∀ u, H a = some u → H' a = some u) (h : OVat K Hf H a o) : OVat K Hf' H' a o := by
  cases o with
  | lst xs => obtain ⟨vs, h1, h2⟩ := h; exact ⟨vs, hh _ h1, h2.mono e⟩
  | dct xs => obtain ⟨vs, h1, h2⟩ := h; exact ⟨vs, hh _ h1, h2.mono e⟩
theorem OVat.some {Hf : Hp} {a : Addr} {o : OV} (h : OVat K Hf H a o) : ∃ u, H a = some u := by
  cases o with
  | lst xs => obtain ⟨vs, h1, _⟩ := h; exact ⟨_, h1⟩
  | dct xs => obtain ⟨vs, h1, _⟩ := h; exact ⟨_, h1⟩
/-- data whose outermost list or dict may be one's own; what is in it is plain -/
def RDo (K : PySem.W.Frag) (Hf H : Hp) (v : V) : D → Prop
  | .list xs => ∃ a, v = .ref a ∧ OVat K Hf H a (.lst xs)
  | .dict xs => ∃ a, v = .ref a ∧ OVat K Hf H a (.dct xs)
  | d => RD K Hf v d
theorem RD.o {Hf : Hp} (e : Ex Hf H) {v : V} {d : D} (h : RD K Hf v d) : RDo K Hf H v d := by
  cases h with
  | lst h r => exact ⟨_, rfl, _, e _ _ h, r⟩
  | dct h r => exact ⟨_, rfl, _, e _ _ h, r⟩
  | non => exact .non
  | bl b => exact .bl b
  | int b => exact .int b
  | str b => exact .str b
  | tup h r => exact .tup h r
theorem OVat.o {Hf : Hp} {a : Addr} {o : OV} (h : OVat K Hf H a o) : RDo K Hf H (.ref a) (ovD o) := by
  cases o with
  | lst xs => exact ⟨a, rfl, h⟩
  | dct xs => exact ⟨a, rfl, h⟩
inductive RDos (K : PySem.W.Frag) (Hf H : Hp) : List V → List D → Prop
  | nil : RDos K Hf H [] []
  | cons {v : V} {vs : List V} {d : D} {ds : List D} : RDo K Hf H v d → RDos K Hf H vs ds → RDos K Hf H (v :: vs) (d :: ds)
end

/-! ### slots -/
inductive SV where
  | un | d (x : D) | own (r : Bool) (o : OV) | ro (xs : List D)
inductive Vl where
  | p (x : D) | al (i : Nat)
abbrev Rho := List SV

/-- a list that is only read: the script -/
def RoAt (K : PySem.W.Frag) (Hf : Hp) (v : V) (xs : List D) : Prop := ∃ a vs, v = .ref a ∧ SqL K Hf a vs ∧ RDs K Hf vs xs
theorem RoAt.mono {K : PySem.W.Frag} {Hf Hf' : Hp} (e : Ex Hf Hf') {v : V} {xs : List D} (h : RoAt K Hf v xs) : RoAt K Hf' v xs := by
  obtain ⟨a, vs, h1, h2, h3⟩ := h
  exact ⟨a, vs, h1, e.lst h2, h3.mono e⟩
structure Sta (K : PySem.W.Frag) (ρ : Rho) (σ : L2.St) (Hf H : Hp) : Prop where
  len : σ.length = ρ.length
  ex : Ex Hf H
  pure : ∀ (i : Nat) (x : D), ρ[i]? = some (.d x) → ∃ v, σ[i]? = some (some v) ∧ RD K Hf v x
  own : ∀ (i : Nat) (r : Bool) (o : OV), ρ[i]? = some (.own r o) → ∃ a, σ[i]? = some (some (.ref a)) ∧ Hf a = none ∧ OVat K Hf H a o
  dis : ∀ (i j : Nat) (r : Bool) (o : OV) (r' : Bool) (o' : OV) (a : Addr), ρ[i]? = some (.own r o) → ρ[j]? = some (.own r' o') → σ[i]? = some (some (.ref a)) → σ[j]? = some (some (.ref a)) → i = j
  ro : ∀ (i : Nat) (xs : List D), ρ[i]? = some (.ro xs) → ∃ v, σ[i]? = some (some v) ∧ RoAt K Hf v xs

/-- what a value of an expression is -/
def RV (K : PySem.W.Frag) (ρ : Rho) (σ : L2.St) (Hf : Hp) (v : V) : Vl → Prop
  | .p d => RD K Hf v d
  | .al i => σ[i]? = some (some v) ∧ ∃ r o, ρ[i]? = some (.own r o)
inductive RVs (K : PySem.W.Frag) (ρ : Rho) (σ : L2.St) (Hf : Hp) : List V → List Vl → Prop
  | nil : RVs K ρ σ Hf [] []
  | cons {v : V} {vs : List V} {d : Vl} {ds : List Vl} : RV K ρ σ Hf v d → RVs K ρ σ Hf vs ds → RVs K ρ σ Hf (v :: vs) (d :: ds)
/-- its data, as the slots stand -/
def rdV (ρ : Rho) : Vl → D
  | .p d => d
  | .al i => match ρ[i]? with
    | some (.own _ o) => ovD o
    | _ => .none

/-- a piece of the run that stores no name -/
structure Step (K : PySem.W.Frag) (ρ : Rho) (σ : L2.St) (Hf H : Hp) (ρ' : Rho) (Hf' H' : Hp) : Prop where
  st : Sta K ρ' σ Hf' H'
  ex : Ex Hf Hf'
  fr : ∀ a, H a ≠ none → Hf a = none → Hf' a = none
  fm : ∀ a o, H a = some o → (∀ (i : Nat) (r : Bool) (ov : OV), ρ[i]? = some (.own r ov) → σ[i]? ≠ some (some (.ref a))) → H' a = some o
  ow : ∀ (i : Nat) (r : Bool), (∃ o, ρ[i]? = some (.own r o)) ↔ (∃ o, ρ'[i]? = some (.own r o))
section
variable {K : PySem.W.Frag} {ρ ρ1 ρ2 : Rho} {σ : L2.St} {Hf H Hf1 H1 Hf2 H2 : Hp}
theorem Step.refl (s : Sta K ρ σ Hf H) : Step K ρ σ Hf H ρ Hf H := ⟨s, Ex.refl _, fun _ _ h => h, fun _ _ h _ => h, fun _ _ => Iff.rfl⟩
theorem Step.dom (s : Sta K ρ σ Hf H) (a : Step K ρ σ Hf H ρ1 Hf1 H1) {b : Addr} (h : H b ≠ none) : H1 b ≠ none := by
  by_cases q : ∀ (i : Nat) (r : Bool) (ov : OV), ρ[i]? = some (.own r ov) → σ[i]? ≠ some (some (.ref b))
  · cases e : H b with
    | none => exact absurd e h
    | some o =>
      rw [a.fm b o e q]
      exact fun z => by cases z
  · have q' : ∃ (i : Nat) (r : Bool) (ov : OV), ρ[i]? = some (.own r ov) ∧ σ[i]? = some (some (.ref b)) := by
      apply Classical.byContradiction
      intro z
      exact q fun i r ov h1 h2 => z ⟨i, r, ov, h1, h2⟩
    obtain ⟨i, r, ov, h1, h2⟩ := q'
    obtain ⟨o', h3⟩ := (a.ow i r).mp ⟨ov, h1⟩
    obtain ⟨a', h4, h5, h6⟩ := a.st.own i r o' h3
    rw [h2] at h4
    cases h4
    obtain ⟨u, hu⟩ := h6.some
    rw [hu]
    exact fun z => by cases z
theorem Step.trans (s : Sta K ρ σ Hf H) (a : Step K ρ σ Hf H ρ1 Hf1 H1) (b : Step K ρ1 σ Hf1 H1 ρ2 Hf2 H2) : Step K ρ σ Hf H ρ2 Hf2 H2 := by
  refine ⟨b.st, a.ex.trans b.ex, fun x h1 h2 => b.fr x (a.dom s h1) (a.fr x h1 h2), fun x o h q => ?_, fun i r => (a.ow i r).trans (b.ow i r)⟩
  refine b.fm x o (a.fm x o h q) fun i r ov h1 => ?_
  obtain ⟨o', h3⟩ := (a.ow i r).mpr ⟨ov, h1⟩
  exact q i r o' h3
theorem RV.step (a : Step K ρ σ Hf H ρ1 Hf1 H1) {v : V} {x : Vl} (h : RV K ρ σ Hf v x) : RV K ρ1 σ Hf1 v x := by
  cases x with
  | p d => exact RD.mono a.ex h
  | al i =>
    obtain ⟨h1, r, o, h2⟩ := h
    obtain ⟨o', h3⟩ := (a.ow i r).mp ⟨o, h2⟩
    exact ⟨h1, r, o', h3⟩
theorem RVs.step (a : Step K ρ σ Hf H ρ1 Hf1 H1) : ∀ {vs : List V} {xs : List Vl}, RVs K ρ σ Hf vs xs → RVs K ρ1 σ Hf1 vs xs
  | _, _, .nil => .nil
  | _, _, .cons h r => .cons (RV.step a h) (RVs.step a r)
theorem RV.rdo (s : Sta K ρ σ Hf H) {v : V} {x : Vl} (h : RV K ρ σ Hf v x) : RDo K Hf H v (rdV ρ x) := by
  cases x with
  | p d => exact RD.o s.ex h
  | al i =>
    obtain ⟨h1, r, o, h2⟩ := h
    obtain ⟨a, h3, h4, h5⟩ := s.own i r o h2
    rw [h1] at h3
    cases h3
    have e : rdV ρ (.al i) = ovD o := by
      show (match ρ[i]? with | some (.own _ o) => ovD o | _ => .none) = ovD o
      rw [h2]
    rw [e]
    exact h5.o
theorem RVs.rdo (s : Sta K ρ σ Hf H) : ∀ {vs : List V} {xs : List Vl}, RVs K ρ σ Hf vs xs → RDos K Hf H vs (xs.map (rdV ρ))
  | _, _, .nil => .nil
  | _, _, .cons h r => .cons (RV.rdo s h) (RVs.rdo s r)
theorem RVs.length : ∀ {vs : List V} {xs : List Vl}, RVs K ρ σ Hf vs xs → vs.length = xs.length
  | _, _, .nil => rfl
  | _, _, .cons _ r => congrArg (· + 1) r.length
/-- a new plain object -/
structure New (Hf H Hf' H' : Hp) : Prop where
  exf : Ex Hf Hf'
  exh : Ex H H'
  sub : Ex Hf' H'
  fr : ∀ a, H a ≠ none → Hf a = none → Hf' a = none
theorem New.refl (e : Ex Hf H) : New Hf H Hf H := ⟨Ex.refl _, Ex.refl _, e, fun _ _ h => h⟩
theorem New.at_ {p : Addr} {o : HO} (e : Ex Hf H) (h : H p = none) : New Hf H (upd Hf p o) (upd H p o) := by
  have hf : Hf p = none := by
    cases q : Hf p with
    | none => rfl
    | some u => rw [e _ _ q] at h; cases h
  refine ⟨Ex.new hf, Ex.new h, fun a u q => ?_, fun a h1 h2 => ?_⟩
  · by_cases z : a = p
    · subst z
      rw [upd_same] at q ⊢
      exact q
    · rw [upd_ne z] at q ⊢
      exact e _ _ q
  · have z : a ≠ p := fun z => h1 (by rw [z]; exact h)
    rw [upd_ne z]
    exact h2
theorem New.trans (a : New Hf H Hf1 H1) (b : New Hf1 H1 Hf2 H2) : New Hf H Hf2 H2 :=
  ⟨a.exf.trans b.exf, a.exh.trans b.exh, b.sub, fun x h1 h2 => b.fr x (fun z => by
    cases e : H x with
    | none => exact h1 e
    | some o => rw [a.exh _ _ e] at z; cases z) (a.fr x h1 h2)⟩
theorem New.step (s : Sta K ρ σ Hf H) (n : New Hf H Hf1 H1) : Step K ρ σ Hf H ρ Hf1 H1 := by
  refine ⟨⟨s.len, n.sub, fun i x h => ?_, fun i r o h => ?_, s.dis, fun i xs h => (s.ro i xs h).imp fun v q => ⟨q.1, q.2.mono n.exf⟩⟩, n.exf, n.fr, fun a o h _ => n.exh a o h, fun _ _ => Iff.rfl⟩
  · obtain ⟨v, h1, h2⟩ := s.pure i x h
    exact ⟨v, h1, h2.mono n.exf⟩
  · obtain ⟨a, h1, h2, h3⟩ := s.own i r o h
    obtain ⟨u, hu⟩ := h3.some
    exact ⟨a, h1, n.fr a (fun z => by rw [hu] at z; cases z) h2, h3.mono n.exf fun w hw => n.exh _ _ hw⟩
end
end Dn
set_option Elab.async false
set_option linter.all false
set_option maxRecDepth 100000
set_option maxHeartbeats 4000000
/-! Dn, part B: a small language of plain data and what its pieces come to. -/
namespace Dn
open PySem L2

/-! ### operations on data -/
def cap : Nat := 1000000
def bigB (i : Int) : Bool := i.natAbs.log2 < 8000
def intsD : List D → Option (List Int)
  | [] => some []
  | .int i :: r => (intsD r).map (i :: ·)
  | _ :: _ => none
def boolsD : List D → Option (List Bool)
  | [] => some []
  | .bool i :: r => (boolsD r).map (i :: ·)
  | _ :: _ => none
def pairsD : List D → Option (List (Int × Int))
  | [] => some []
  | .tuple [.int i, .int j] :: r => (pairsD r).map ((i, j) :: ·)
  | _ :: _ => none
def binF : Operator → D → D → Option D
  | .Add, .int i, .int j => some (.int (i + j))
  | .Add, .tuple xs, .tuple ys => if xs.length + ys.length ≤ cap then some (.tuple (xs ++ ys)) else none
  | .Add, .list xs, .list ys => if xs.length + ys.length ≤ cap then some (.list (xs ++ ys)) else none
  | .Add, .str x, .str y => if x.length + y.length ≤ cap then some (.str (x ++ y)) else none
  | .Sub, .int i, .int j => some (.int (i - j))
  | .Mult, .int i, .int j => if i.natAbs.log2 + j.natAbs.log2 < 134000000 then some (.int (i * j)) else none
  | .FloorDiv, .int i, .int j => if 0 < j && bigB j then some (.int (i / j)) else none
  | .Mod, .int i, .int j => if 0 < j then some (.int (i % j)) else none
  | .Pow, .int i, .int j => if 0 ≤ j && (j ≤ 1000 && i.natAbs < 18446744073709551616) then some (.int (i ^ j.toNat)) else none
  | _, _, _ => none
def vOf : D → V
  | .bool b => .bl b
  | .int i => .int i
  | .str x => .str x
  | _ => .non
def flatD : D → Bool
  | .none => true
  | .bool _ => true
  | .int _ => true
  | .str _ => true
  | _ => false
def inF (x : D) (xs : List D) : Option Bool := if flatD x && xs.all flatD then some (xs.any fun y => eqV (vOf y) (vOf x)) else none
def inS (x : D) (y : D) : Option Bool := match x, y with
  | x, .list ys => inF x ys
  | x, .tuple ys => inF x ys
  | .str x, .str z => (match x.cps.toList with
    | [c] => some (decide (c ∈ z.cps.toList))
    | _ => none)
  | _, _ => none
def eqF : D → D → Option Bool
  | .int i, .int j => some (decide (i = j))
  | .bool i, .bool j => some (decide (i = j))
  | .str i, .str j => some (decide (i = j))
  | x, y => if SeqAt.shaped x && SeqAt.shaped y then some (PyData.eqv x y) else none
def ltF : D → D → Option Bool
  | .int i, .int j => some (decide (i < j))
  | .tuple xs, .tuple ys => match intsD xs, intsD ys with
    | some ns, some ms => some (HT.lexLt ns ms)
    | _, _ => none
  | _, _ => none
def isN : D → Bool
  | .none => true
  | _ => false
def cmpF : CmpOp → D → D → Option Bool
  | .Eq, x, y => eqF x y
  | .NotEq, x, y => (eqF x y).map (!·)
  | .Lt, x, y => ltF x y
  | .LtE, .int i, .int j => some (decide (i ≤ j))
  | .Gt, .int i, .int j => some (decide (j < i))
  | .GtE, .int i, .int j => some (decide (j ≤ i))
  | .Is, x, .none => some (isN x)
  | .IsNot, x, .none => some (!isN x)
  | .In, x, y => inS x y
  | .NotIn, x, y => (inS x y).map (!·)
  | _, _, _ => none
def ixF : D → D → Option D
  | .list xs, .int i => atI xs i
  | .tuple xs, .int i => atI xs i
  | .str z, .int i => if z.length ≤ cap then (atI z.cps.toList i).map fun c => .str ⟨#[c]⟩ else none
  | _, _ => none
def cutD (xs : List D) (lo hi : Option Int) : List D := (xs.drop (HT.sIx xs.length 0 lo)).take (HT.sIx xs.length xs.length hi - HT.sIx xs.length 0 lo)
def slcF : D → Option Int → Option Int → Option D
  | .list xs, lo, hi => some (.list (cutD xs lo hi))
  | .tuple xs, lo, hi => some (.tuple (cutD xs lo hi))
  | .str z, lo, hi => if z.length ≤ cap then some (.str (cutS z lo hi)) else none
  | _, _, _ => none
inductive Blt where
  | len | all | any | sum | tuple | list | sorted | max2 | min2 | abs | int | gcd | str
def insP (x : Int × Int) : List (Int × Int) → List (Int × Int)
  | [] => [x]
  | y :: r => if x.1 < y.1 || (x.1 == y.1 && x.2 ≤ y.2) then x :: y :: r else y :: insP x r
def sortP : List (Int × Int) → List (Int × Int)
  | [] => []
  | x :: r => insP x (sortP r)
def pD (p : Int × Int) : D := .tuple [.int p.1, .int p.2]
def bltF : Blt → List D → Option D
  | .len, [.list xs] => some (.int xs.length)
  | .len, [.tuple xs] => some (.int xs.length)
  | .len, [.str z] => if z.length ≤ cap then some (.int z.length) else none
  | .all, [.list xs] => (boolsD xs).map fun bs => .bool (bs.all id)
  | .any, [.list xs] => (boolsD xs).map fun bs => .bool (bs.any id)
  | .sum, [.list xs] => (intsD xs).map fun ns => .int ns.sum
  | .tuple, [.list xs] => some (.tuple xs)
  | .tuple, [.tuple xs] => some (.tuple xs)
  | .list, [.list xs] => some (.list xs)
  | .list, [.tuple xs] => some (.list xs)
  | .sorted, [.list xs] => (pairsD xs).map fun ps => .list ((sortP ps).map pD)
  | .max2, [.int i, .int j] => some (.int (if j > i then j else i))
  | .min2, [.int i, .int j] => some (.int (if j < i then j else i))
  | .abs, [.int i] => some (.int (if i < 0 then -i else i))
  | .int, [.int i] => some (.int i)
  | .int, [.bool b] => some (.int (if b then 1 else 0))
  | .gcd, [.int a, .int b] => some (.int ((Nat.gcd a.natAbs b.natAbs : Nat) : Int))
  | .str, [.int i] => if i.natAbs.log2 < 1920 then some (.str (toString i)) else none
  | _, _ => none
inductive Ty where
  | int | bool | str | tuple | list
def isiF : D → Ty → Bool
  | .int _, .int => true
  | .bool _, .int => true
  | .bool _, .bool => true
  | .str _, .str => true
  | .tuple _, .tuple => true
  | .list _, .list => true
  | _, _ => false
def keyOf : D → Option Key
  | .int i => some (.inl i)
  | .str x => some (.inr x)
  | _ => none
def lookD (kvs : List (D × D)) (k : Key) : Option D := match kvs with
  | [] => none
  | (d, x) :: r => if keyOf d = some k then some x else lookD r k
def putD (kvs : List (D × D)) (k : Key) (x : D) : List (D × D) :=
  if (kvs.any fun p => decide (keyOf p.1 = some k)) = true then kvs.map (fun p => if keyOf p.1 = some k then (p.1, x) else p) else kvs ++ [(kD k, x)]
/-- dict(zip(ks, xs)) -/
def keysD : List D → Option (List Key)
  | [] => some []
  | d :: ds => match keyOf d, keysD ds with
    | some k, some ks => some (k :: ks)
    | _, _ => none
def mgD (kvs : List (D × D)) : List (Key × D) → List (D × D)
  | [] => kvs
  | p :: r => mgD (putD kvs p.1 p.2) r
def zipD (ks xs : List D) : Option (List (D × D)) := match keysD ks with
  | some qs => some (mgD [] (qs.zip xs))
  | none => none

/-! ### the language -/
inductive Tg where
  | nm (i : Nat) | tp (is : List Nat)
def Tg.sl : Tg → List Nat
  | .nm i => [i]
  | .tp is => is
mutual
inductive E where
  | int (i : Int) | bl (b : Bool) | non | str (s : Str)
  | pl (i : Nat) | gl (k : Nat)
  | tup (es : Es) | lst (es : Es)
  | bin (o : Operator) (a b : E) | neg (a : E)
  | cmp (o : CmpOp) (a b : E) | chn (o1 o2 : CmpOp) (a b c : E)
  | and (a b : E) | or (a b : E) | one (a : E) | not (a : E)
  | ife (t : T) (a b : E)
  | ix (a b : E) | slc (a : E) (lo hi : Eo)
  | call (f : Nat) (es : Es) | blt (b : Blt) (es : Es) | isi (a : E) (t : Ty) | isis (a : E) (ts : List Ty)
  | comp (tg : Tg) (it : It) (c : T) (e : E)
  | pop (i : Nat) | popAt (i : Nat) (e : E)
  | dget (a b : E) | din (n : Bool) (a b : E) | dzip (a b : E)
  | scl (i : Nat) (lo hi : Eo) | callR (f i : Nat) (es : Es)
inductive Es where
  | nil | cons (e : E) (es : Es)
inductive Eo where
  | no | so (e : E)
inductive T where
  | yes | val (e : E) | cmp (o : CmpOp) (a b : E) | chn (o1 o2 : CmpOp) (a b c : E) | din (n : Bool) (a b : E) | and (a b : T) | or (a b : T) | one (a : T) | not (a : T)
inductive It where
  | sq (e : E) | rng1 (e : E) | rng2 (a b : E) | enm (e : E) | zp (a b : E) | rev (e : E)
end
inductive Fr where
  | lst (es : Es) | cpy (e : E) | dct0 | cal (f : Nat) (es : Es) | orF (f g : Fr)
inductive Rv where
  | e (e : E) | f (f : Fr)
mutual
inductive S where
  | set (i : Nat) (e : E) | setO (i : Nat) (f : Fr) | par (i j : Nat) (a b : Rv) | unp (is : List Nat) (e : E)
  | sto (i : Nat) (a b : E) | dput (i : Nat) (a b : E)
  | aug (i : Nat) (o : Operator) (e : E)
  | xp (e : E) | app (i : Nat) (e : E) | ext (i : Nat) (e : E)
  | ret (e : E) | retO (f : Fr)
  | ife (t : T) (a b : Ss) | whl (t : T) (b : Ss) | for (tg : Tg) (it : It) (b : Ss)
  | brk | cont | rse
inductive Ss where
  | nil | cons (s : S) (ss : Ss)
end

/-! ### what it comes to -/
inductive Out where
  | nx (ρ : Rho) | rt (d : D) (ρ : Rho) | bk (ρ : Rho) | ct (ρ : Rho) | ro (o : OV) (ρ : Rho)
def unS (ρ : Rho) : List Nat → Rho
  | [] => ρ
  | v :: vs => (unS ρ vs).set v .un
def asgL : List Nat → List D → Rho → Option Rho
  | [], [], ρ => some ρ
  | i :: is, x :: xs, ρ => match ρ[i]? with
    | some (.own _ _) => none
    | some _ => asgL is xs (ρ.set i (.d x))
    | none => none
  | _, _, _ => none
def asg : Tg → D → Rho → Option Rho
  | .nm i, x, ρ => asgL [i] [x] ρ
  | .tp is, .tuple xs, ρ => asgL is xs ρ
  | .tp is, .list xs, ρ => asgL is xs ρ
  | _, _, _ => none
def pvD : Vl → Option D
  | .p d => some d
  | .al _ => none
def pvDs : List Vl → Option (List D)
  | [] => some []
  | .p d :: r => (pvDs r).map (d :: ·)
  | .al _ :: _ => none
def argS (ρ : Rho) : List Vl → Option (List SV)
  | [] => some []
  | .p d :: r => (argS ρ r).map (.d d :: ·)
  | .al i :: r => match ρ[i]? with
    | some (.own _ o) => (argS ρ r).map (.own true o :: ·)
    | _ => none
def als : List Vl → List Nat
  | [] => []
  | .p _ :: r => als r
  | .al i :: r => i :: als r
def setO (ρ : Rho) (i : Nat) (o : OV) : Rho := match ρ[i]? with
  | some (.own r _) => ρ.set i (.own r o)
  | _ => ρ
def wrB : List Vl → List SV → Rho → Rho
  | .al i :: vs, .own _ o :: as, ρ => wrB vs as (setO ρ i o)
  | _ :: vs, _ :: as, ρ => wrB vs as ρ
  | _, _, ρ => ρ
def cmpL (f : D → Rho → Option (Option D × Rho)) : List D → Rho → Option (List D × Rho)
  | [], ρ => some ([], ρ)
  | x :: xs, ρ => match f x ρ with
    | none => none
    | some (r, ρ1) => match cmpL f xs ρ1 with
      | none => none
      | some (ys, ρ2) => some (match r with
        | some y => y :: ys
        | none => ys, ρ2)
def forL (g : D → Rho → Option Rho) (b : Rho → Option Out) : List D → Rho → Option Out
  | [], ρ => some (.nx ρ)
  | x :: xs, ρ => match g x ρ with
    | none => none
    | some ρ1 => match b ρ1 with
      | some (.nx ρ2) => forL g b xs ρ2
      | some (.ct ρ2) => forL g b xs ρ2
      | some (.bk ρ2) => some (.nx ρ2)
      | some (.rt d ρ2) => some (.rt d ρ2)
      | some (.ro d ρ2) => some (.ro d ρ2)
      | none => none
def whlL (t : Rho → Option (Bool × Rho)) (b : Rho → Option Out) : Nat → Rho → Option Out
  | 0, _ => none
  | n + 1, ρ => match t ρ with
    | none => none
    | some (false, ρ1) => some (.nx ρ1)
    | some (true, ρ1) => match b ρ1 with
      | some (.nx ρ2) => whlL t b n ρ2
      | some (.ct ρ2) => whlL t b n ρ2
      | some (.bk ρ2) => some (.nx ρ2)
      | some (.rt d ρ2) => some (.rt d ρ2)
      | some (.ro d ρ2) => some (.ro d ρ2)
      | none => none
def seqD : D → Option (List D)
  | .list xs => some xs
  | .tuple xs => some xs
  | _ => none
def rngD (lo : Int) (n : Nat) : List D := (List.range n).map fun i => .int (lo + (i : Nat))
def enmD (xs : List D) : Nat → List D
  | k => match xs with
    | [] => []
    | x :: r => .tuple [.int (k : Nat), x] :: enmD r (k + 1)
def zpD : List D → List D → List D
  | x :: xs, y :: ys => .tuple [x, y] :: zpD xs ys
  | _, _ => []
/-- the slots at is as they were -/
def restS (ρ0 : Rho) : Rho → List Nat → Rho
  | ρ, [] => ρ
  | ρ, i :: is => (restS ρ0 ρ is).set i ((ρ0[i]?).getD .un)
def isOwn (ρ : Rho) (i : Nat) : Bool := match ρ[i]? with
  | some (.own _ _) => true
  | _ => false
def isLst (ρ : Rho) (i : Nat) : Bool := match ρ[i]? with
  | some (.own _ (.lst _)) => true
  | _ => false
def isRef (ρ : Rho) (i : Nat) : Bool := match ρ[i]? with
  | some (.own true _) => true
  | none => true
  | _ => false

section
variable (fu : Nat) (G : List D) (Φ : Nat → List SV → Option (D × List SV))
mutual
def evE : E → Rho → Option (Vl × Rho)
  | .int i, ρ => some (.p (.int i), ρ)
  | .bl b, ρ => some (.p (.bool b), ρ)
  | .non, ρ => some (.p .none, ρ)
  | .str s, ρ => some (.p (.str s), ρ)
  | .pl i, ρ => match ρ[i]? with
    | some (.d x) => some (.p x, ρ)
    | some (.own _ _) => some (.al i, ρ)
    | _ => none
  | .gl k, ρ => match G[k]? with
    | some x => some (.p x, ρ)
    | none => none
  | .tup es, ρ => match evEs es ρ with
    | some (vs, ρ1) => (match pvDs vs with
      | some xs => if xs.length ≤ cap then some (.p (.tuple xs), ρ1) else none
      | none => none)
    | none => none
  | .lst es, ρ => match evEs es ρ with
    | some (vs, ρ1) => (match pvDs vs with
      | some xs => if xs.length ≤ cap then some (.p (.list xs), ρ1) else none
      | none => none)
    | none => none
  | .bin o a b, ρ => match evE a ρ with
    | some (x, ρ1) => (match evE b ρ1 with
      | some (y, ρ2) => (match binF o (rdV ρ2 x) (rdV ρ2 y) with
        | some z => some (.p z, ρ2)
        | none => none)
      | none => none)
    | none => none
  | .neg a, ρ => match evE a ρ with
    | some (.p (.int i), ρ1) => some (.p (.int (-i)), ρ1)
    | _ => none
  | .cmp o a b, ρ => match evE a ρ with
    | some (x, ρ1) => (match evE b ρ1 with
      | some (y, ρ2) => (match cmpF o (rdV ρ2 x) (rdV ρ2 y) with
        | some z => some (.p (.bool z), ρ2)
        | none => none)
      | none => none)
    | none => none
  | .chn o1 o2 a b c, ρ => match evE a ρ with
    | some (x, ρ1) => (match evE b ρ1 with
      | some (y, ρ2) => (match cmpF o1 (rdV ρ2 x) (rdV ρ2 y) with
        | some false => some (.p (.bool false), ρ2)
        | some true => (match evE c ρ2 with
          | some (z, ρ3) => (match cmpF o2 (rdV ρ3 y) (rdV ρ3 z) with
            | some r => some (.p (.bool r), ρ3)
            | none => none)
          | none => none)
        | none => none)
      | none => none)
    | none => none
  | .and a b, ρ => match evE a ρ with
    | some (.p (.bool false), ρ1) => some (.p (.bool false), ρ1)
    | some (.p (.bool true), ρ1) => evE b ρ1
    | _ => none
  | .or a b, ρ => match evE a ρ with
    | some (.p (.bool true), ρ1) => some (.p (.bool true), ρ1)
    | some (.p (.bool false), ρ1) => evE b ρ1
    | _ => none
  | .one a, ρ => evE a ρ
  | .not a, ρ => match evE a ρ with
    | some (.p (.bool b), ρ1) => some (.p (.bool (!b)), ρ1)
    | _ => none
  | .ife t a b, ρ => match evT t ρ with
    | some (true, ρ1) => evE a ρ1
    | some (false, ρ1) => evE b ρ1
    | none => none
  | .ix a b, ρ => match evE a ρ with
    | some (x, ρ1) => (match evE b ρ1 with
      | some (y, ρ2) => (match ixF (rdV ρ2 x) (rdV ρ2 y) with
        | some z => some (.p z, ρ2)
        | none => none)
      | none => none)
    | none => none
  | .slc a lo hi, ρ => match evE a ρ with
    | some (x, ρ1) => (match evEo lo ρ1 with
      | some (l, ρ2) => (match evEo hi ρ2 with
        | some (h, ρ3) => (match slcF (rdV ρ3 x) l h with
          | some z => some (.p z, ρ3)
          | none => none)
        | none => none)
      | none => none)
    | none => none
  | .call f es, ρ => match evEs es ρ with
    | some (vs, ρ1) => (match argS ρ1 vs with
      | some as => if (als vs).Nodup then (match Φ f as with
        | some (d, as') => some (.p d, wrB vs as' ρ1)
        | none => none) else none
      | none => none)
    | none => none
  | .blt b es, ρ => match evEs es ρ with
    | some (vs, ρ1) => (match bltF b (vs.map (rdV ρ1)) with
      | some z => some (.p z, ρ1)
      | none => none)
    | none => none
  | .isi a t, ρ => match evE a ρ with
    | some (x, ρ1) => some (.p (.bool (isiF (rdV ρ1 x) t)), ρ1)
    | none => none
  | .isis a ts, ρ => match evE a ρ with
    | some (x, ρ1) => some (.p (.bool (ts.any fun t => isiF (rdV ρ1 x) t)), ρ1)
    | none => none
  | .comp tg it c e, ρ => match evI it ρ with
    | some (items, ρ1) => if tg.sl.any (isOwn ρ1) then none else
      (match cmpL (fun x ρ2 => match asg tg x ρ2 with
        | none => none
        | some ρ3 => match evT c ρ3 with
          | none => none
          | some (false, ρ4) => some (none, unS ρ4 tg.sl)
          | some (true, ρ4) => match evE e ρ4 with
            | some (.p d, ρ5) => some (some d, unS ρ5 tg.sl)
            | _ => none) items (unS ρ1 tg.sl) with
      | some (ds, ρ6) => if ds.length ≤ cap then some (.p (.list ds), restS ρ1 ρ6 tg.sl) else none
      | none => none)
    | none => none
  | .pop i, ρ => match ρ[i]? with
    | some (.own r (.lst xs)) => (match xs[xs.length - 1]? with
      | some x => some (.p x, ρ.set i (.own r (.lst xs.dropLast)))
      | none => none)
    | _ => none
  | .popAt i e, ρ => if isLst ρ i then (match evE e ρ with
    | some (.p (.int k), ρ1) => (match ρ1[i]? with
      | some (.own r (.lst xs)) => if 0 ≤ k ∧ k < 1000000 then (match xs[k.toNat]? with
        | some x => some (.p x, ρ1.set i (.own r (.lst (xs.eraseIdx k.toNat))))
        | none => none) else none
      | _ => none)
    | _ => none) else none
  | .dget a b, ρ => match evE a ρ with
    | some (x, ρ1) => (match evE b ρ1 with
      | some (y, ρ2) => (match rdV ρ2 x, keyOf (rdV ρ2 y) with
        | .dict kvs, some k => (match lookD kvs k with
          | some z => some (.p z, ρ2)
          | none => none)
        | _, _ => none)
      | none => none)
    | none => none
  | .din n a b, ρ => match evE a ρ with
    | some (x, ρ1) => (match evE b ρ1 with
      | some (y, ρ2) => (match keyOf (rdV ρ2 x), rdV ρ2 y with
        | some k, .dict kvs => some (.p (.bool (if n then !(lookD kvs k).isSome else (lookD kvs k).isSome)), ρ2)
        | _, _ => none)
      | none => none)
    | none => none
  | .dzip a b, ρ => match evE a ρ with
    | some (x, ρ1) => (match evE b ρ1 with
      | some (y, ρ2) => (match rdV ρ2 x, rdV ρ2 y with
        | .tuple ks, .list xs => (match zipD ks xs with
          | some kvs => some (.p (.dict kvs), ρ2)
          | none => none)
        | _, _ => none)
      | none => none)
    | none => none
  | .scl i lo hi, ρ => match ρ[i]? with
    | some (.ro xs) => (match evEo lo ρ with
      | some (l, ρ2) => (match evEo hi ρ2 with
        | some (h, ρ3) => some (.p (.list (cutD xs l h)), ρ3)
        | none => none)
      | none => none)
    | _ => none
  | .callR f i es, ρ => match ρ[i]? with
    | some (.ro xs) => (match evEs es ρ with
      | some (vs, ρ1) => (match argS ρ1 vs with
        | some as => if (als vs).Nodup then (match Φ f (.ro xs :: as) with
          | some (d, _ :: as') => some (.p d, wrB vs as' ρ1)
          | _ => none) else none
        | none => none)
      | none => none)
    | _ => none
def evEs : Es → Rho → Option (List Vl × Rho)
  | .nil, ρ => some ([], ρ)
  | .cons e es, ρ => match evE e ρ with
    | some (x, ρ1) => (match evEs es ρ1 with
      | some (xs, ρ2) => some (x :: xs, ρ2)
      | none => none)
    | none => none
def evEo : Eo → Rho → Option (Option Int × Rho)
  | .no, ρ => some (none, ρ)
  | .so e, ρ => match evE e ρ with
    | some (.p (.int i), ρ1) => some (some i, ρ1)
    | _ => none
def evT : T → Rho → Option (Bool × Rho)
  | .yes, ρ => some (true, ρ)
  | .val e, ρ => match evE e ρ with
    | some (.p (.bool b), ρ1) => some (b, ρ1)
    | _ => none
  | .cmp o a b, ρ => match evE a ρ with
    | some (x, ρ1) => (match evE b ρ1 with
      | some (y, ρ2) => (match cmpF o (rdV ρ2 x) (rdV ρ2 y) with
        | some z => some (z, ρ2)
        | none => none)
      | none => none)
    | none => none
  | .chn o1 o2 a b c, ρ => match evE a ρ with
    | some (x, ρ1) => (match evE b ρ1 with
      | some (y, ρ2) => (match cmpF o1 (rdV ρ2 x) (rdV ρ2 y) with
        | some false => some (false, ρ2)
        | some true => (match evE c ρ2 with
          | some (z, ρ3) => (match cmpF o2 (rdV ρ3 y) (rdV ρ3 z) with
            | some r => some (r, ρ3)
            | none => none)
          | none => none)
        | none => none)
      | none => none)
    | none => none
  | .din n a b, ρ => match evE a ρ with
    | some (x, ρ1) => (match evE b ρ1 with
      | some (y, ρ2) => (match keyOf (rdV ρ2 x), rdV ρ2 y with
        | some k, .dict kvs => some (if n then !(lookD kvs k).isSome else (lookD kvs k).isSome, ρ2)
        | _, _ => none)
      | none => none)
    | none => none
  | .and a b, ρ => match evT a ρ with
    | some (false, ρ1) => some (false, ρ1)
    | some (true, ρ1) => evT b ρ1
    | none => none
  | .or a b, ρ => match evT a ρ with
    | some (true, ρ1) => some (true, ρ1)
    | some (false, ρ1) => evT b ρ1
    | none => none
  | .one a, ρ => evT a ρ
  | .not a, ρ => match evT a ρ with
    | some (b, ρ1) => some (!b, ρ1)
    | none => none
def evI : It → Rho → Option (List D × Rho)
  | .sq e, ρ => match evE e ρ with
    | some (.p x, ρ1) => (match seqD x with
      | some xs => some (xs, ρ1)
      | none => none)
    | _ => none
  | .rng1 e, ρ => match evE e ρ with
    | some (.p (.int j), ρ1) => if -1000000 ≤ j ∧ j ≤ 1000000 then some (rngD 0 j.toNat, ρ1) else none
    | _ => none
  | .rng2 a b, ρ => match evE a ρ with
    | some (.p (.int i), ρ1) => (match evE b ρ1 with
      | some (.p (.int j), ρ2) => if -1000000 ≤ i ∧ i ≤ 1000000 ∧ -1000000 ≤ j ∧ j ≤ 1000000 then some (rngD i (j - i).toNat, ρ2) else none
      | _ => none)
    | _ => none
  | .enm e, ρ => match evE e ρ with
    | some (.p x, ρ1) => (match seqD x with
      | some xs => some (enmD xs 0, ρ1)
      | none => none)
    | _ => none
  | .zp a b, ρ => match evE a ρ with
    | some (.p x, ρ1) => (match evE b ρ1 with
      | some (.p y, ρ2) => (match x, y with
        | .list xs, .list ys => some (zpD xs ys, ρ2)
        | .tuple xs, .tuple ys => some (zpD xs ys, ρ2)
        | _, _ => none)
      | _ => none)
    | _ => none
  | .rev e, ρ => match evE e ρ with
    | some (.p x, ρ1) => (match seqD x with
      | some xs => some (xs.reverse, ρ1)
      | none => none)
    | _ => none
end
variable (Ψ : Nat → List SV → Option (OV × List SV))
def evF : Fr → Rho → Option (OV × Rho)
  | .lst es, ρ => match evEs G Φ es ρ with
    | some (vs, ρ1) => (match pvDs vs with
      | some xs => if xs.length ≤ cap then some (.lst xs, ρ1) else none
      | none => none)
    | none => none
  | .cpy e, ρ => match evE G Φ e ρ with
    | some (x, ρ1) => (match seqD (rdV ρ1 x) with
      | some xs => some (.lst xs, ρ1)
      | none => none)
    | none => none
  | .dct0, ρ => some (.dct [], ρ)
  | .cal f es, ρ => match evEs G Φ es ρ with
    | some (vs, ρ1) => (match argS ρ1 vs with
      | some as => if (als vs).Nodup then (match Ψ f as with
        | some (o, as') => some (o, wrB vs as' ρ1)
        | none => none) else none
      | none => none)
    | none => none
  | .orF f g, ρ => match evF f ρ with
    | some (.lst (x :: xs), ρ1) => some (.lst (x :: xs), ρ1)
    | some (.lst [], ρ1) => evF g ρ1
    | _ => none
def evR : Rv → Rho → Option (SV × Rho)
  | .e e, ρ => match evE G Φ e ρ with
    | some (.p d, ρ1) => some (.d d, ρ1)
    | _ => none
  | .f f, ρ => match evF G Φ Ψ f ρ with
    | some (o, ρ1) => some (.own false o, ρ1)
    | none => none
mutual
def evS : S → Rho → Option Out
  | .set i e, ρ => match evE G Φ e ρ with
    | some (.p d, ρ1) => if isRef ρ1 i then none else some (.nx (ρ1.set i (.d d)))
    | _ => none
  | .setO i f, ρ => match evF G Φ Ψ f ρ with
    | some (o, ρ1) => if isRef ρ1 i then none else some (.nx (ρ1.set i (.own false o)))
    | none => none
  | .par i j a b, ρ => match evR G Φ Ψ a ρ with
    | some (x, ρ1) => (match evR G Φ Ψ b ρ1 with
      | some (y, ρ2) => if isRef ρ2 i || isRef ρ2 j then none else some (.nx ((ρ2.set i x).set j y))
      | none => none)
    | none => none
  | .unp is e, ρ => match evE G Φ e ρ with
    | some (.p x, ρ1) => (match asg (.tp is) x ρ1 with
      | some ρ2 => some (.nx ρ2)
      | none => none)
    | _ => none
  | .sto i a b, ρ => match evE G Φ b ρ with
    | some (.p y, ρ1) => if isOwn ρ1 i then (match evE G Φ a ρ1 with
      | some (.p (.int k), ρ2) => (match ρ2[i]? with
        | some (.own r (.lst xs)) => (match ixN xs.length k with
          | some j => some (.nx (ρ2.set i (.own r (.lst (xs.set j y)))))
          | none => none)
        | _ => none)
      | _ => none) else none
    | _ => none
  | .dput i a b, ρ => match evE G Φ b ρ with
    | some (.p y, ρ1) => if isOwn ρ1 i then (match evE G Φ a ρ1 with
      | some (.p x, ρ2) => (match ρ2[i]?, keyOf x with
        | some (.own r (.dct kvs)), some k => if kvs.length < cap then some (.nx (ρ2.set i (.own r (.dct (putD kvs k y))))) else none
        | _, _ => none)
      | _ => none) else none
    | _ => none
  | .aug i o e, ρ => match ρ[i]? with
    | some (.d x) => (match evE G Φ e ρ with
      | some (y, ρ1) => (match o, x, rdV ρ1 y with
        | .Add, .int a, .int b => if isRef ρ1 i then none else some (.nx (ρ1.set i (.d (.int (a + b)))))
        | .Sub, .int a, .int b => if isRef ρ1 i then none else some (.nx (ρ1.set i (.d (.int (a - b)))))
        | _, _, _ => none)
      | none => none)
    | _ => none
  | .xp e, ρ => match evE G Φ e ρ with
    | some (_, ρ1) => some (.nx ρ1)
    | none => none
  | .app i e, ρ => if isLst ρ i then (match evE G Φ e ρ with
    | some (.p y, ρ1) => (match ρ1[i]? with
      | some (.own r (.lst xs)) => if xs.length < cap then some (.nx (ρ1.set i (.own r (.lst (xs ++ [y]))))) else none
      | _ => none)
    | _ => none) else none
  | .ext i e, ρ => if isLst ρ i then (match evE G Φ e ρ with
    | some (.p (.list ys), ρ1) => (match ρ1[i]? with
      | some (.own r (.lst xs)) => if xs.length + ys.length ≤ cap then some (.nx (ρ1.set i (.own r (.lst (xs ++ ys))))) else none
      | _ => none)
    | _ => none) else none
  | .ret e, ρ => match evE G Φ e ρ with
    | some (.p d, ρ1) => some (.rt d ρ1)
    | some (.al i, ρ1) => (match ρ1[i]? with
      | some (.own false o) => some (.rt (ovD o) ρ1)
      | _ => none)
    | none => none
  | .retO f, ρ => match evF G Φ Ψ f ρ with
    | some (o, ρ1) => some (.ro o ρ1)
    | none => none
  | .ife t a b, ρ => match evT G Φ t ρ with
    | some (true, ρ1) => evSs a ρ1
    | some (false, ρ1) => evSs b ρ1
    | none => none
  | .whl t b, ρ => whlL (fun ρ => evT G Φ t ρ) (fun ρ => evSs b ρ) fu ρ
  | .for tg it b, ρ => match evI G Φ it ρ with
    | some (items, ρ1) => forL (asg tg) (fun ρ => evSs b ρ) items ρ1
    | none => none
  | .brk, ρ => some (.bk ρ)
  | .cont, ρ => some (.ct ρ)
  | .rse, _ => none
def evSs : Ss → Rho → Option Out
  | .nil, ρ => some (.nx ρ)
  | .cons s ss, ρ => match evS s ρ with
    | some (.nx ρ1) => evSs ss ρ1
    | some (.rt d ρ1) => some (.rt d ρ1)
    | some (.ro d ρ1) => some (.ro d ρ1)
    | some (.bk ρ1) => some (.bk ρ1)
    | some (.ct ρ1) => some (.ct ρ1)
    | none => none
end
end
end Dn
set_option Elab.async false
set_option linter.all false
set_option maxRecDepth 100000
set_option maxHeartbeats 4000000
/-! Dn, part C1: each operation on data is the machine's. -/
namespace Dn
open PySem L2

def R2S (K : PySem.W.Frag) (r : R2) (f : D → D → Option D) : Prop := ∀ {Hf H : Hp} {vx vy : V} {dx dy dz : D} {Q : VK}, Ex Hf H → RDo K Hf H vx dx → RDo K Hf H vy dy → f dx dy = some dz →
  (∀ v Hf' H', New Hf H Hf' H' → RD K Hf' v dz → Q v H') → r vx vy H Q
def CS (K : PySem.W.Frag) (r : List V → Hp → VK → Prop) (f : List D → Option D) : Prop := ∀ {Hf H : Hp} {vs : List V} {ds : List D} {dz : D} {Q : VK}, Ex Hf H → RDos K Hf H vs ds → f ds = some dz →
  (∀ v Hf' H', New Hf H Hf' H' → RD K Hf' v dz → Q v H') → r vs H Q
theorem cap_le : cap ≤ sizeLine := by decide
theorem le_line {n : Nat} (h : n ≤ cap) : n ≤ sizeLine := Nat.le_trans h cap_le
theorem lt_line {n : Nat} (h : n < cap) : n < sizeLine := Nat.lt_of_lt_of_le h cap_le
section
variable {K : PySem.W.Frag} {Hf H : Hp} {v : V}
theorem rdo_int {i : Int} (h : RDo K Hf H v (.int i)) : v = .int i := by
  cases (show RD K Hf v (.int i) from h)
  rfl
theorem rdo_bool {i : Bool} (h : RDo K Hf H v (.bool i)) : v = .bl i := by
  cases (show RD K Hf v (.bool i) from h)
  rfl
theorem rdo_str {i : Str} (h : RDo K Hf H v (.str i)) : v = .str i := by
  cases (show RD K Hf v (.str i) from h)
  rfl
theorem rdo_tup {ds : List D} (e : Ex Hf H) (h : RDo K Hf H v (.tuple ds)) : ∃ a xs, v = .ref a ∧ SqT K Hf a xs ∧ SqT K H a xs ∧ RDs K Hf xs ds := by
  cases (show RD K Hf v (.tuple ds) from h) with
  | tup h1 h2 => exact ⟨_, _, rfl, h1, e.tup h1, h2⟩
theorem rdo_lst {ds : List D} (h : RDo K Hf H v (.list ds)) : ∃ a xs, v = .ref a ∧ H a = some (.lst xs) ∧ RDs K Hf xs ds := by
  obtain ⟨a, h1, xs, h2, h3⟩ := h
  exact ⟨a, xs, h1, h2, h3⟩
theorem log2_of {i : Int} (h : bigB i = true) : i.natAbs.log2 < 8000 := of_decide_eq_true h

theorem mulX_of {i j : Int} (h : i.natAbs.log2 + j.natAbs.log2 < 134000000) : CMulX i j := by
  have b : ∀ x : Int, Builtin.Int.intBits x ≤ x.natAbs.log2 + 1 := fun x => by
    unfold Builtin.Int.intBits
    split <;> omega
  have h1 := b i
  have h2 := b j
  unfold CMulX
  omega
def rBin (K : PySem.W.Frag) : Operator → R2
  | .Add => fun x y H Q => (rI0 fun i j => .int (i + j)) x y H Q ∨ (rCatA K x y H Q ∨ (rCat x y H Q ∨ ∃ i j, x = .str i ∧ y = .str j ∧ i.length + j.length ≤ sizeLine ∧ Q (.str (i ++ j)) H))
  | .Sub => rI0 fun i j => .int (i - j)
  | .Mult => rI CMulX fun i j => .int (i * j)
  | .FloorDiv => rI CDivW fun i j => .int (i / j)
  | .Mod => rI (fun _ j => 0 < j) fun i j => .int (i % j)
  | .Pow => rI CPow fun i j => .int (i ^ j.toNat)
  | _ => fun _ _ _ _ => False
theorem bin_op (o : Operator) {X : Cx} (hK : X.K = K) : OpR X (binaryOp o) (rBin K o) := by
  subst hK
  cases o
  case Add => exact op_add.or (op_catA.or (op_cat.or op_add_str))
  case Sub => exact op_sub
  case Mult => exact op_mulX
  case FloorDiv => exact op_fdivW
  case Mod => exact op_mod
  case Pow => exact op_pow
  all_goals exact fun _ _ _ _ _ _ _ _ _ _ _ _ h => False.elim h
theorem bin_s (o : Operator) : R2S K (rBin K o) (binF o) := by
  intro Hf H vx vy dx dy dz Q e hx hy hf k
  cases o
  case Add =>
    unfold binF at hf
    split at hf
    · rw [rdo_int hx, rdo_int hy]
      cases hf
      exact .inl ⟨_, _, rfl, rfl, k _ _ _ (New.refl e) (.int _)⟩
    · obtain ⟨a, xs, rfl, ha, ha', r⟩ := rdo_tup e hx
      obtain ⟨b, ys, rfl, hb, hb', q⟩ := rdo_tup e hy
      split at hf
      case isFalse => cases hf
      case isTrue hc =>
      cases hf
      refine .inr (.inl ⟨a, b, xs, ys, rfl, rfl, ha', hb', by rw [r.length, q.length]; exact le_line hc, fun z => ?_, fun z1 z2 => ?_, fun _ _ p hp => ?_⟩)
      · subst z
        cases r
        exact k _ _ _ (New.refl e) (.tup hb q)
      · subst z2
        cases q
        rw [List.append_nil] at k
        exact k _ _ _ (New.refl e) (.tup ha r)
      · have n := New.at_ (o := .tup (xs ++ ys)) e hp
        exact k _ _ _ n (.tup (SqT.of upd_same) ((r.mono n.exf).append (q.mono n.exf)))
    · obtain ⟨a, xs, rfl, ha, r⟩ := rdo_lst hx
      obtain ⟨b, ys, rfl, hb, q⟩ := rdo_lst hy
      split at hf
      case isFalse => cases hf
      case isTrue hc =>
      cases hf
      refine .inr (.inr (.inl ⟨a, b, xs, ys, rfl, rfl, ha, hb, by rw [r.length, q.length]; exact le_line hc, fun p hp => ?_⟩))
      have n := New.at_ (o := .lst (xs ++ ys)) e hp
      exact k _ _ _ n (.lst upd_same ((r.mono n.exf).append (q.mono n.exf)))
    · split at hf
      case isFalse => cases hf
      case isTrue hc =>
      rw [rdo_str hx, rdo_str hy]
      cases hf
      exact .inr (.inr (.inr ⟨_, _, rfl, rfl, le_line hc, k _ _ _ (New.refl e) (.str _)⟩))
    all_goals first | contradiction | (rename_i z _ _; cases z) | cases hf
  case Sub =>
    unfold binF at hf
    split at hf
    case h_5 =>
      rw [rdo_int hx, rdo_int hy]
      cases hf
      exact ⟨_, _, rfl, rfl, k _ _ _ (New.refl e) (.int _)⟩
    all_goals first | contradiction | cases hf
  case Mult =>
    unfold binF at hf
    split at hf
    case h_6 =>
      split at hf
      case isFalse => cases hf
      case isTrue hc =>
      rw [rdo_int hx, rdo_int hy]
      cases hf
      exact ⟨_, _, rfl, rfl, mulX_of hc, k _ _ _ (New.refl e) (.int _)⟩
    all_goals first | contradiction | cases hf
  case FloorDiv =>
    unfold binF at hf
    split at hf
    case h_7 =>
      split at hf
      case isFalse => cases hf
      case isTrue hc =>
      obtain ⟨h1, h2⟩ := Bool.and_eq_true_iff.mp hc
      rw [rdo_int hx, rdo_int hy]
      cases hf
      have a2 := log2_of h2
      exact ⟨_, _, rfl, rfl, ⟨of_decide_eq_true h1, by omega⟩, k _ _ _ (New.refl e) (.int _)⟩
    all_goals first | contradiction | cases hf
  case Mod =>
    unfold binF at hf
    split at hf
    case h_8 =>
      split at hf
      case isFalse => cases hf
      case isTrue hc =>
      rw [rdo_int hx, rdo_int hy]
      cases hf
      exact ⟨_, _, rfl, rfl, hc, k _ _ _ (New.refl e) (.int _)⟩
    all_goals first | contradiction | cases hf
  case Pow =>
    unfold binF at hf
    split at hf
    case h_9 =>
      split at hf
      case isFalse => cases hf
      case isTrue hc =>
      obtain ⟨h1, h2⟩ := Bool.and_eq_true_iff.mp hc
      obtain ⟨h2, h3⟩ := Bool.and_eq_true_iff.mp h2
      have h1 := of_decide_eq_true h1
      have h2 := of_decide_eq_true h2
      have h3 := of_decide_eq_true h3
      rw [rdo_int hx, rdo_int hy]
      cases hf
      exact ⟨_, _, rfl, rfl, ⟨h1, by omega, h3⟩, k _ _ _ (New.refl e) (.int _)⟩
    all_goals first | contradiction | cases hf
  all_goals
    unfold binF at hf
    split at hf
    all_goals first | contradiction | cases hf
end
end Dn
set_option Elab.async false
set_option linter.all false
set_option maxRecDepth 100000
set_option maxHeartbeats 4000000
/-! Dn, part C2: comparisons, items, slices. -/
namespace Dn
open PySem L2
section
variable {K : PySem.W.Frag} {Hf H : Hp} {v : V}
mutual
theorem RD.dp (e : Ex Hf H) : ∀ {v : V} {d : D}, RD K Hf v d → d.canLay0 = true → Dp K H v d
  | _, _, .non, _ => .non
  | _, _, .bl b, _ => .bl b
  | _, _, .int b, _ => .int b
  | _, _, .str b, _ => .str b
  | _, _, .lst h r, c => .lst (SqL.of (e _ _ h)) (RDs.dp e r (by simpa [PyData.canLay0] using c))
  | _, _, .tup h r, c => .tup (e.tup h) (RDs.dp e r (by simpa [PyData.canLay0] using c))
  | _, _, .dct h r, c => by simp [PyData.canLay0] at c
theorem RDs.dp (e : Ex Hf H) : ∀ {v : List V} {d : List D}, RDs K Hf v d → PyData.canLayAll0 d = true → DpAll K H v d
  | _, _, .nil, _ => .nil
  | _, _, .cons h r, c => by
    have c' := c
    simp only [PyData.canLayAll0, Bool.and_eq_true] at c'
    exact .cons (RD.dp e h c'.1) (RDs.dp e r c'.2)
end
theorem RDo.dp (e : Ex Hf H) {d : D} (h : RDo K Hf H v d) (c : SeqAt.shaped d = true) : Dp K H v d := by
  have c := SeqAt.canLay_of_shaped c
  cases d with
  | list xs =>
    obtain ⟨a, ys, rfl, h1, h2⟩ := rdo_lst h
    exact .lst (SqL.of h1) (RDs.dp e h2 (by simpa [PyData.canLay0] using c))
  | dict kvs => simp [PyData.canLay0] at c
  | none => exact RD.dp e (show RD K Hf v _ from h) c
  | bool _ => exact RD.dp e (show RD K Hf v _ from h) c
  | int _ => exact RD.dp e (show RD K Hf v _ from h) c
  | str _ => exact RD.dp e (show RD K Hf v _ from h) c
  | tuple _ => exact RD.dp e (show RD K Hf v _ from h) c
theorem rd_flat {d : D} (h : RD K Hf v d) (f : flatD d = true) : v = vOf d ∧ flatV v = true := by
  cases h <;> first | exact ⟨rfl, rfl⟩ | cases f
theorem rdo_flat {d : D} (h : RDo K Hf H v d) (f : flatD d = true) : v = vOf d ∧ flatV v = true := by
  cases d with
  | list xs => cases f
  | dict kvs => cases f
  | tuple _ => cases f
  | none => exact rd_flat (show RD K Hf v _ from h) f
  | bool _ => exact rd_flat (show RD K Hf v _ from h) f
  | int _ => exact rd_flat (show RD K Hf v _ from h) f
  | str _ => exact rd_flat (show RD K Hf v _ from h) f
theorem rds_flat : ∀ {vs : List V} {ds : List D}, RDs K Hf vs ds → ds.all flatD = true → vs = ds.map vOf ∧ vs.all flatV = true
  | _, _, .nil, _ => ⟨rfl, rfl⟩
  | _, _, .cons h r, f => by
    rw [List.all_cons, Bool.and_eq_true] at f
    obtain ⟨e1, e2⟩ := rd_flat h f.1
    obtain ⟨e3, e4⟩ := rds_flat r f.2
    subst e1
    subst e3
    refine ⟨rfl, ?_⟩
    rw [List.all_cons, Bool.and_eq_true]
    exact ⟨e2, e4⟩
theorem rds_ints : ∀ {vs : List V} {ds : List D} {ns : List Int}, RDs K Hf vs ds → intsD ds = some ns → vs = ns.map V.int
  | _, _, _, .nil, e => by cases e; rfl
  | _, _, ns, .cons h r, e => by
    cases h with
    | int i =>
      unfold intsD at e
      cases q : intsD _ with
      | none => rw [q] at e; cases e
      | some ms =>
        rw [q] at e
        cases e
        rw [rds_ints r q]
        rfl
    | _ => cases e
theorem rds_bools : ∀ {vs : List V} {ds : List D} {ns : List Bool}, RDs K Hf vs ds → boolsD ds = some ns → vs = ns.map V.bl
  | _, _, _, .nil, e => by cases e; rfl
  | _, _, ns, .cons h r, e => by
    cases h with
    | bl i =>
      unfold boolsD at e
      cases q : boolsD _ with
      | none => rw [q] at e; cases e
      | some ms =>
        rw [q] at e
        cases e
        rw [rds_bools r q]
        rfl
    | _ => cases e
def rSign (neg : Bool) : R2 := fun x y H Q => ∃ (c : Nat) (z : Str), x = .str ⟨#[c]⟩ ∧ y = .str z ∧ Q (.bl (if neg then !decide (c ∈ z.cps.toList) else decide (c ∈ z.cps.toList))) H
def rCmp (K : PySem.W.Frag) : CmpOp → R2
  | .Eq => fun x y H Q => rEq x y H Q ∨ rEqD K x y H Q
  | .NotEq => fun x y H Q => rNe x y H Q ∨ rNeD K x y H Q
  | .Lt => fun x y H Q => (rI0 fun i j => .bl (decide (i < j))) x y H Q ∨ rLtT K x y H Q
  | .LtE => rI0 fun i j => .bl (decide (i ≤ j))
  | .Gt => rI0 fun i j => .bl (decide (j < i))
  | .GtE => rI0 fun i j => .bl (decide (j ≤ i))
  | .Is => fun x y H Q => y = .non ∧ Q (.bl (decide (x = .non))) H
  | .IsNot => fun x y H Q => y = .non ∧ Q (.bl (!decide (x = .non))) H
  | .In => fun x y H Q => rIn K false x y H Q ∨ rSign false x y H Q
  | .NotIn => fun x y H Q => rIn K true x y H Q ∨ rSign true x y H Q
theorem cmp_op (o : CmpOp) {X : Cx} (hK : X.K = K) (hu : X.A.units + 64 < cLine) : OpR X (compareOp o) (rCmp K o) := by
  subst hK
  cases o with
  | Eq => exact op_eq.or (op_eqD hu)
  | NotEq => exact op_ne.or (op_neD hu)
  | Lt => exact op_lt.or (op_ltT (by omega))
  | LtE => exact op_le
  | Gt => exact op_gt
  | GtE => exact op_ge
  | Is => exact op_isN
  | IsNot => exact op_notN
  | In => exact op_in_seq.or op_in_sign
  | NotIn => exact op_notIn_seq.or op_notIn_sign
theorem eqF_s {vx vy : V} {dx dy : D} {r : Bool} (e : Ex Hf H) (hx : RDo K Hf H vx dx) (hy : RDo K Hf H vy dy) (h : eqF dx dy = some r) :
    (scal vx vy = true ∧ r = decide (vx = vy)) ∨ ∃ d e, Dp K H vx d ∧ Dp K H vy e ∧ SeqAt.shaped d = true ∧ SeqAt.shaped e = true ∧ r = PyData.eqv d e := by
  unfold eqF at h
  split at h
  · rw [rdo_int hx, rdo_int hy]
    cases h
    refine .inl ⟨rfl, ?_⟩
    rw [dec_int]
    exact (Bool.beq_eq_decide_eq _ _).symm
  · rw [rdo_bool hx, rdo_bool hy]
    cases h
    refine .inl ⟨rfl, ?_⟩
    rw [dec_bl]
    exact (Bool.beq_eq_decide_eq _ _).symm
  · rw [rdo_str hx, rdo_str hy]
    cases h
    refine .inl ⟨rfl, ?_⟩
    rw [dec_str]
    exact (Bool.beq_eq_decide_eq _ _).symm
  · split at h
    case isFalse => cases h
    case isTrue hc =>
    obtain ⟨h1, h2⟩ := Bool.and_eq_true_iff.mp hc
    cases h
    exact .inr ⟨_, _, hx.dp e h1, hy.dp e h2, h1, h2, rfl⟩
theorem isN_s {vx : V} {dx : D} (hx : RDo K Hf H vx dx) : isN dx = decide (vx = .non) := by
  cases dx with
  | list xs =>
    obtain ⟨a, ys, rfl, _⟩ := rdo_lst hx
    rfl
  | dict xs =>
    obtain ⟨a, rfl, _⟩ := hx
    rfl
  | none => cases (show RD K Hf vx _ from hx); rfl
  | bool _ => cases (show RD K Hf vx _ from hx); rfl
  | int _ => cases (show RD K Hf vx _ from hx); rfl
  | str _ => cases (show RD K Hf vx _ from hx); rfl
  | tuple _ => cases (show RD K Hf vx _ from hx); rfl
theorem inS_s {vx vy : V} {dx dy : D} {r : Bool} (e : Ex Hf H) (hx : RDo K Hf H vx dx) (hy : RDo K Hf H vy dy) (h : inS dx dy = some r) :
    (∃ p xs, vy = .ref p ∧ (SqL K H p xs ∨ SqT K H p xs) ∧ flatV vx = true ∧ xs.all flatV = true ∧ r = inV vx xs) ∨ ∃ (c : Nat) (z : Str), vx = .str ⟨#[c]⟩ ∧ vy = .str z ∧ r = decide (c ∈ z.cps.toList) := by
  have key : ∀ {ys : List D} {vs : List V}, RDs K Hf vs ys → inF dx ys = some r → flatV vx = true ∧ vs.all flatV = true ∧ r = inV vx vs := by
    intro ys vs hr hq
    unfold inF at hq
    split at hq
    case isFalse => cases hq
    case isTrue hc =>
    obtain ⟨h1, h2⟩ := Bool.and_eq_true_iff.mp hc
    obtain ⟨e1, e2⟩ := rdo_flat hx h1
    obtain ⟨e3, e4⟩ := rds_flat hr h2
    refine ⟨e2, e4, ?_⟩
    have hq' := Option.some.inj hq
    rw [← hq', e1, e3]
    unfold inV
    rw [List.any_map]
    rfl
  unfold inS at h
  split at h
  · obtain ⟨a, xs, rfl, h1, h2⟩ := rdo_lst hy
    obtain ⟨k1, k2, k3⟩ := key h2 h
    exact .inl ⟨a, xs, rfl, .inl (SqL.of h1), k1, k2, k3⟩
  · obtain ⟨a, xs, rfl, _, h1, h2⟩ := rdo_tup e hy
    obtain ⟨k1, k2, k3⟩ := key h2 h
    exact .inl ⟨a, xs, rfl, .inr h1, k1, k2, k3⟩
  · rw [rdo_str hx, rdo_str hy]
    split at h
    · rename_i x z _ c hc
      cases h
      refine .inr ⟨c, z, ?_, rfl, rfl⟩
      obtain ⟨cp⟩ := x
      have hc' : cp.toList = [c] := hc
      rw [show cp = #[c] from by rw [← Array.toArray_toList (xs := cp), hc']]
    · cases h
  · cases h
theorem ltF_s {vx vy : V} {dx dy : D} {r : Bool} {Q : VK} (e : Ex Hf H) (hx : RDo K Hf H vx dx) (hy : RDo K Hf H vy dy) (h : ltF dx dy = some r) (k : Q (.bl r) H) : rCmp K .Lt vx vy H Q := by
  unfold ltF at h
  split at h
  · rw [rdo_int hx, rdo_int hy]
    cases h
    exact .inl ⟨_, _, rfl, rfl, k⟩
  · obtain ⟨a, xs, rfl, _, h1, h2⟩ := rdo_tup e hx
    obtain ⟨b, ys, rfl, _, h3, h4⟩ := rdo_tup e hy
    split at h
    · rename_i q1 q2
      cases h
      rw [rds_ints h2 q1] at h1
      rw [rds_ints h4 q2] at h3
      exact .inr ⟨a, b, _, _, rfl, rfl, h1, h3, k⟩
    · cases h
  · cases h
theorem cmp_s (o : CmpOp) {vx vy : V} {dx dy : D} {r : Bool} {Q : VK} (e : Ex Hf H) (hx : RDo K Hf H vx dx) (hy : RDo K Hf H vy dy) (h : cmpF o dx dy = some r) (k : Q (.bl r) H) : rCmp K o vx vy H Q := by
  cases o with
  | Eq =>
    have h' : eqF dx dy = some r := h
    rcases eqF_s e hx hy h' with ⟨q1, q2⟩ | ⟨d, e', q1, q2, q3, q4, q5⟩
    · exact .inl ⟨q1, by rw [← q2]; exact k⟩
    · exact .inr ⟨d, e', q1, q2, q3, q4, by rw [← q5]; exact k⟩
  | NotEq =>
    have h' : (eqF dx dy).map (!·) = some r := h
    cases q : eqF dx dy with
    | none => rw [q] at h'; cases h'
    | some r' =>
      rw [q] at h'
      cases h'
      rcases eqF_s e hx hy q with ⟨q1, q2⟩ | ⟨d, e', q1, q2, q3, q4, q5⟩
      · exact .inl ⟨q1, by rw [← q2]; exact k⟩
      · exact .inr ⟨d, e', q1, q2, q3, q4, by rw [← q5]; exact k⟩
  | Lt => exact ltF_s e hx hy h k
  | LtE =>
    cases dx <;> cases dy <;> first | (cases h; done) | skip
    rw [rdo_int hx, rdo_int hy]
    have h' := Option.some.inj (show some (decide (_ ≤ _)) = some r from h)
    rw [← h'] at k
    exact ⟨_, _, rfl, rfl, k⟩
  | Gt =>
    cases dx <;> cases dy <;> first | (cases h; done) | skip
    rw [rdo_int hx, rdo_int hy]
    have h' := Option.some.inj (show some (decide (_ < _)) = some r from h)
    rw [← h'] at k
    exact ⟨_, _, rfl, rfl, k⟩
  | GtE =>
    cases dx <;> cases dy <;> first | (cases h; done) | skip
    rw [rdo_int hx, rdo_int hy]
    have h' := Option.some.inj (show some (decide (_ ≤ _)) = some r from h)
    rw [← h'] at k
    exact ⟨_, _, rfl, rfl, k⟩
  | Is =>
    unfold cmpF at h
    split at h <;> first | contradiction | skip
    cases h
    cases (show RD K Hf vy _ from hy)
    refine ⟨rfl, ?_⟩
    rw [← isN_s hx]
    exact k
  | IsNot =>
    unfold cmpF at h
    split at h <;> first | contradiction | skip
    cases h
    cases (show RD K Hf vy _ from hy)
    refine ⟨rfl, ?_⟩
    rw [← isN_s hx]
    exact k
  | In =>
    have h' : inS dx dy = some r := h
    rcases inS_s e hx hy h' with ⟨p, xs, q1, q2, q3, q4, q5⟩ | ⟨c, z, q1, q2, q3⟩
    · exact .inl ⟨p, xs, q1, q2, q3, q4, by rw [q5] at k; exact k⟩
    · exact .inr ⟨c, z, q1, q2, by rw [q3] at k; exact k⟩
  | NotIn =>
    have h' : (inS dx dy).map (!·) = some r := h
    cases q : inS dx dy with
    | none => rw [q] at h'; cases h'
    | some r' =>
      rw [q] at h'
      cases h'
      rcases inS_s e hx hy q with ⟨p, xs, q1, q2, q3, q4, q5⟩ | ⟨c, z, q1, q2, q3⟩
      · exact .inl ⟨p, xs, q1, q2, q3, q4, by rw [q5] at k; exact k⟩
      · exact .inr ⟨c, z, q1, q2, by rw [q3] at k; exact k⟩
/-! items -/
theorem atI_rd : ∀ {vs : List V} {ds : List D} {i : Int} {d : D}, RDs K Hf vs ds → atI ds i = some d → ∃ v, atI vs i = some v ∧ RD K Hf v d := by
  intro vs ds i d r h
  unfold atI at h ⊢
  rw [r.length]
  cases q : ixN ds.length i with
  | none => rw [q] at h; cases h
  | some j =>
    rw [q] at h
    exact r.get h
theorem ix_s {vx vy : V} {dx dy dz : D} {Q : VK} (e : Ex Hf H) (hx : RDo K Hf H vx dx) (hy : RDo K Hf H vy dy) (h : ixF dx dy = some dz) (k : ∀ v, RD K Hf v dz → Q v H) : rIx K vx vy H Q := by
  unfold ixF at h
  split at h
  · obtain ⟨a, xs, rfl, h1, h2⟩ := rdo_lst hx
    rw [rdo_int hy]
    obtain ⟨v, h3, h4⟩ := atI_rd h2 h
    exact .inl ⟨a, xs, _, v, rfl, rfl, SqL.of h1, h3, k v h4⟩
  · obtain ⟨a, xs, rfl, _, h1, h2⟩ := rdo_tup e hx
    rw [rdo_int hy]
    obtain ⟨v, h3, h4⟩ := atI_rd h2 h
    exact .inr (.inl ⟨a, xs, _, v, rfl, rfl, h1, h3, k v h4⟩)
  · rw [rdo_str hx, rdo_int hy]
    split at h
    case isFalse => cases h
    case isTrue hc =>
    rename_i z i
    cases q : atI z.cps.toList i with
    | none => rw [q] at h; cases h
    | some c =>
      rw [q] at h
      cases h
      exact .inr (.inr ⟨_, _, c, rfl, rfl, le_line hc, q, k _ (.str _)⟩)
  · cases h
def rSlc (K : PySem.W.Frag) : V → Option Int → Option Int → Hp → VK → Prop := fun x lo hi H Q => rSlL K x lo hi H Q ∨ (rSlA K x lo hi H Q ∨ ∃ z, x = .str z ∧ z.length ≤ sizeLine ∧ Q (.str (cutS z lo hi)) H)
theorem slc_op {X : Cx} (hK : X.K = K) : SlR X (rSlc K) := by
  subst hK
  exact sl_list.or (sl_tupA.or sl_str)
theorem cut_rd {vs : List V} {ds : List D} (r : RDs K Hf vs ds) (lo hi : Option Int) : RDs K Hf (cutV vs lo hi) (cutD ds lo hi) := by
  unfold cutV cutD
  rw [r.length]
  exact (r.drop _).take _
theorem slc_s {vx : V} {dx dz : D} {lo hi : Option Int} {Q : VK} (e : Ex Hf H) (hx : RDo K Hf H vx dx) (h : slcF dx lo hi = some dz) (k : ∀ v Hf' H', New Hf H Hf' H' → RD K Hf' v dz → Q v H') : rSlc K vx lo hi H Q := by
  unfold slcF at h
  split at h
  · obtain ⟨a, xs, rfl, h1, h2⟩ := rdo_lst hx
    cases h
    refine .inl ⟨a, xs, rfl, SqL.of h1, fun p hp => ?_⟩
    have n := New.at_ (o := .lst (cutV xs lo hi)) e hp
    exact k _ _ _ n (.lst upd_same ((cut_rd h2 lo hi).mono n.exf))
  · obtain ⟨a, xs, rfl, h0, h1, h2⟩ := rdo_tup e hx
    cases h
    refine .inr (.inl ⟨a, xs, rfl, h1, fun hw => ?_, fun _ p hp => ?_⟩)
    · rename_i ds
      have e2 : cutD ds lo hi = ds := by
        unfold cutD
        rw [← h2.length, hw.1, hw.2, List.drop_zero, Nat.sub_zero, h2.length, List.take_length]
      rw [e2] at k
      exact k _ _ _ (New.refl e) (.tup h0 h2)
    · have n := New.at_ (o := .tup (cutV xs lo hi)) e hp
      exact k _ _ _ n (.tup (SqT.of upd_same) ((cut_rd h2 lo hi).mono n.exf))
  · rw [rdo_str hx]
    split at h
    case isFalse => cases h
    case isTrue hc =>
    cases h
    exact .inr (.inr ⟨_, rfl, le_line hc, k _ _ _ (New.refl e) (.str _)⟩)
  · cases h
end
end Dn
set_option Elab.async false
set_option linter.all false
set_option maxRecDepth 100000
set_option maxHeartbeats 4000000
/-! Dn, part C3: built-in functions. -/
namespace Dn
open PySem L2
/-! ### sorted of pairs of ints, by data -/
theorem insP_perm (x : Int × Int) : ∀ l, (insP x l).Perm (x :: l)
  | [] => .refl _
  | y :: r => by
    unfold insP
    split
    · exact .refl _
    · exact ((insP_perm x r).cons y).trans (.swap x y r)
theorem sortP_perm : ∀ l, (sortP l).Perm l
  | [] => .refl _
  | x :: r => (insP_perm x _).trans ((sortP_perm r).cons x)
def leP (a b : Int × Int) : Prop := a.1 < b.1 ∨ (a.1 = b.1 ∧ a.2 ≤ b.2)
theorem insP_srt (x : Int × Int) : ∀ l, l.Pairwise leP → (insP x l).Pairwise leP
  | [], _ => by simp [insP]
  | y :: r, h => by
    obtain ⟨h1, h2⟩ := List.pairwise_cons.mp h
    unfold insP
    split
    · rename_i c
      have c' : leP x y := by
        simp only [Bool.or_eq_true, decide_eq_true_eq, Bool.and_eq_true, beq_iff_eq] at c
        exact c
      refine List.pairwise_cons.mpr ⟨fun z hz => ?_, h⟩
      rcases List.mem_cons.mp hz with e | hz
      · rw [e]; exact c'
      · have := h1 z hz
        unfold leP at *
        omega
    · rename_i c
      have c' : leP y x := by
        simp only [Bool.or_eq_true, decide_eq_true_eq, Bool.and_eq_true, beq_iff_eq] at c
        unfold leP
        omega
      refine List.pairwise_cons.mpr ⟨fun z hz => ?_, insP_srt x r h2⟩
      rcases List.mem_cons.mp ((insP_perm x r).mem_iff.mp hz) with e | hz
      · rw [e]; exact c'
      · exact h1 z hz
theorem sortP_srt : ∀ l, (sortP l).Pairwise leP
  | [] => .nil
  | x :: r => insP_srt x _ (sortP_srt r)
theorem sortP_uniq {l m : List (Int × Int)} (hp : l.Perm m) (hs : l.Pairwise leP) : l = sortP m :=
  List.Perm.eq_of_pairwise (le := leP) (fun a b _ _ h1 h2 => by
    unfold leP at h1 h2
    exact Prod.ext (by omega) (by omega)) hs (sortP_srt m) (hp.trans (sortP_perm m).symm)
def PrAt (K : PySem.W.Frag) (H : Hp) (x : V) (p : Int × Int) : Prop := ∃ t, x = .ref t ∧ SqT K H t [.int p.1, .int p.2]
def rSrt (K : PySem.W.Frag) : List V → Hp → VK → Prop := fun vs H Q => ∃ (a : Addr) (xs : List V) (ps : List (Int × Int)) (A : V → Int × Int → Prop), vs = [V.ref a] ∧ SqL K H a xs ∧ (∀ x p, A x p → PrAt K H x p) ∧ Paired A xs ps ∧
  ∀ ys p, Paired A ys (sortP ps) → H p = none → Q (.ref p) (upd H p (.lst ys))
theorem paired_map {α β : Type} {R : α → β → Prop} {f : α → β} : ∀ {xs : List α} {ys : List β}, Paired R xs ys → (∀ x y, R x y → f x = y) → xs.map f = ys
  | _, _, .nil, _ => rfl
  | _, _, .cons r t, h => by rw [List.map_cons, h _ _ r, paired_map t h]
theorem paired_of {α β : Type} {R : α → β → Prop} {f : α → β} : ∀ {xs : List α}, (∀ x ∈ xs, R x (f x)) → Paired R xs (xs.map f)
  | [], _ => .nil
  | x :: xs, h => .cons (h x (by simp)) (paired_of fun y hy => h y (by simp [hy]))
theorem paired_mem {α β : Type} {R : α → β → Prop} : ∀ {xs : List α} {ys : List β}, Paired R xs ys → ∀ x ∈ xs, ∃ y, R x y
  | _, _, .nil, x, h => by cases h
  | _, _, .cons r t, x, h => by
    rcases List.mem_cons.mp h with e | h
    · exact ⟨_, e ▸ r⟩
    · exact paired_mem t x h
open Classical in
theorem cr_srt {X : Cx} : CallR X (.builtin "sorted") (rSrt X.K) := by
  intro pins s σ H vs us Q I r h
  obtain ⟨a, xs, ps, A, rfl, hs, hA, hx, q⟩ := h
  obtain ⟨its, rv, hl, hz⟩ := I.list hs
  obtain ⟨u, rfl, ru⟩ := vals1 r
  obtain rfl : u = Value.ref a := ru
  have hk : ∃ k : V → Int × Int, ∀ x p, PrAt X.K H x p → k x = p := by
    refine ⟨fun x => if h : ∃ p, PrAt X.K H x p then Classical.choose h else (0, 0), fun x p hp => ?_⟩
    have hh : ∃ p, PrAt X.K H x p := ⟨p, hp⟩
    show (if h : ∃ p, PrAt X.K H x p then Classical.choose h else (0, 0)) = p
    rw [dif_pos hh]
    obtain ⟨t, e1, h1⟩ := Classical.choose_spec hh
    obtain ⟨t', e2, h2⟩ := hp
    rw [e1] at e2
    cases e2
    have := I.tuple_inj h1 h2
    simp only [List.cons.injEq, V.int.injEq, and_true] at this
    exact Prod.ext this.1 this.2
  obtain ⟨k, hk⟩ := hk
  have halA : ∀ x ∈ xs, A x (k x) := fun x hm => by
    obtain ⟨p, hp⟩ := paired_mem hx x hm
    rw [hk x p (hA x p hp)]
    exact hp
  have hall : ∀ x ∈ xs, PrAt X.K H x (k x) := fun x hm => hA x _ (halA x hm)
  have hps : xs.map k = ps := paired_map hx fun x p h => hk x p (hA x p h)
  obtain ⟨e1, e2⟩ := refs_back rv fun x m => by
    obtain ⟨t, e, _⟩ := hall x m
    exact ⟨t, e⟩
  refine SrtO.sorted_pairsO (k := fun u => k (backV u)) hl.isList (by rw [← rv.length]; exact hz) (fun v hv => ?_) fun h' d out h1 h2 kp hd hn => ?_
  · obtain ⟨t, rfl⟩ := e2 v hv
    have hm : V.ref t ∈ xs := by rw [e1]; exact List.mem_map.mpr ⟨_, hv, rfl⟩
    obtain ⟨t', e, ht⟩ := hall _ hm
    cases e
    obtain ⟨its2, r2, ⟨o, ho, hc, n, hd⟩, _⟩ := I.tuple ht
    obtain ⟨u1, u2, rfl, ri, rj⟩ := vals2 r2
    obtain ⟨t1, rfl⟩ := ri
    obtain ⟨t2, rfl⟩ := rj
    exact ⟨t, o, t1, t2, n, rfl, ho, hc, hd⟩
  · have h3 : ∀ u ∈ out, ∃ a, u = Value.ref a := fun u hu => e2 u (h2.perm.mem_iff.mp hu)
    obtain ⟨n, hn⟩ := hn
    have hb : SrtO.Stb (ltP k) (out.map backV) xs := by
      rw [e1]
      exact SrtO.Stb.map (ltP_swo k) backV h2
    have hsrt : SrtO.Srtd (ltP k) (out.map backV) := SrtO.srtd_map h1
    have hys : (out.map backV).map k = sortP ps := by
      refine sortP_uniq ?_ ?_
      · rw [← hps]
        exact hb.perm.map k
      · refine List.pairwise_map.mpr (List.Pairwise.imp (fun {x y} hxy => ?_) hsrt)
        have := SrtO.lexB_no.mp hxy
        unfold leP
        omega
    refine ⟨.ref d, upd H d (.lst (out.map backV)), I.laid (t' := s.toks) kp hd ⟨?_, out, n, vals_back h3, hn⟩, rfl, q _ d ?_ (I.hok.fresh hd)⟩
    · rw [hb.len]
      exact hz
    · rw [← hys]
      exact paired_of fun x hm => halA x (hb.perm.mem_iff.mp hm)
theorem rds_prs {K : PySem.W.Frag} {Hf H : Hp} (e : Ex Hf H) : ∀ {vs : List V} {ds : List D} {ps : List (Int × Int)}, RDs K Hf vs ds → pairsD ds = some ps → Paired (PrAt K H) vs ps
  | _, _, _, .nil, h => by cases h; exact .nil
  | _, d :: ds, ps, .cons h r, q => by
    unfold pairsD at q
    split at q
    · contradiction
    · rename_i i j r' z
      cases z
      cases e2 : pairsD ds with
      | none => rw [e2] at q; cases q
      | some ms =>
        rw [e2] at q
        cases q
        cases h with
        | tup h1 h2 =>
          cases h2 with
          | cons a b =>
            cases b with
            | cons b c =>
              cases c
              cases a
              cases b
              exact .cons ⟨_, rfl, e.tup h1⟩ (rds_prs e r e2)
    · cases q
theorem prs_rds {K : PySem.W.Frag} {Hf Hf' : Hp} (e : Ex Hf Hf') : ∀ {vs : List V} {ps : List (Int × Int)}, Paired (PrAt K Hf) vs ps → RDs K Hf' vs (ps.map pD)
  | _, _, .nil => .nil
  | _, _, .cons h r => by
    obtain ⟨t, rfl, ht⟩ := h
    exact .cons (.tup (e.tup ht) (.cons (.int _) (.cons (.int _) .nil))) (prs_rds e r)

/-! ### the built-ins -/
inductive BK where
  | b (id : String) | t (T : String) | m (id : String)
def bltK : Blt → BK
  | .len => .b "len"
  | .all => .b "all"
  | .any => .b "any"
  | .sum => .b "sum"
  | .tuple => .t "tuple"
  | .list => .t "list"
  | .sorted => .b "sorted"
  | .max2 => .b "max"
  | .min2 => .b "min"
  | .abs => .b "abs"
  | .int => .t "int"
  | .gcd => .m "math.gcd"
  | .str => .t "str"
def bltX : Blt → Str
  | .len => "len"
  | .all => "all"
  | .any => "any"
  | .sum => "sum"
  | .tuple => "tuple"
  | .list => "list"
  | .sorted => "sorted"
  | .max2 => "max"
  | .min2 => "min"
  | .abs => "abs"
  | .int => "int"
  | .gcd => "gcd"
  | .str => "str"
def bkV : BK → Value
  | .b id => .builtin id
  | .t T => .type T
  | .m id => .builtin id
abbrev RC := List V → Hp → VK → Prop
def rBlt (K : PySem.W.Frag) : Blt → RC
  | .len => fun xs H Q => ∃ x n, xs = [x] ∧ LenV K x H n ∧ Q (.int n) H
  | .all => rAll K
  | .any => rAny K
  | .sum => rSum K
  | .tuple => fun xs H Q => ∃ p ys, xs = [.ref p] ∧ ((SqL K H p ys ∧ ∀ l, H l = none → Q (.ref l) (upd H l (.tup ys))) ∨ (SqT K H p ys ∧ Q (.ref p) H))
  | .list => fun xs H Q => ∃ p ys, xs = [.ref p] ∧ (SqL K H p ys ∨ SqT K H p ys) ∧ ∀ l, H l = none → Q (.ref l) (upd H l (.lst ys))
  | .sorted => rSrt K
  | .max2 => fun xs H Q => ∃ i j, xs = [.int i, .int j] ∧ Q (.int (if j > i then j else i)) H
  | .min2 => fun xs H Q => ∃ i j, xs = [.int i, .int j] ∧ Q (.int (if j < i then j else i)) H
  | .abs => fun xs H Q => ∃ i, xs = [.int i] ∧ Q (.int (if i < 0 then -i else i)) H
  | .int => fun xs H Q => (∃ i, xs = [.int i] ∧ Q (.int i) H) ∨ ∃ k, xs = [.bl k] ∧ Q (.int (if k then 1 else 0)) H
  | .gcd => rGcd
  | .str => fun xs H Q => ∃ i, xs = [.int i] ∧ i.natAbs.log2 < 1920 ∧ Q (.str (toString i)) H
theorem blt_c (b : Blt) {X : Cx} {K : PySem.W.Frag} (hK : X.K = K) (hc : X.calm = true) : CallR X (bkV (bltK b)) (rBlt K b) := by
  subst hK
  cases b with
  | len => exact call_len
  | all => exact cr_all hc
  | any => exact cr_any hc
  | sum => exact cr_sum hc
  | tuple => exact call_tuple_of
  | list => exact call_list_of
  | sorted => exact cr_srt
  | max2 => exact call_max2 hc
  | min2 => exact call_min2 hc
  | abs => exact call_abs
  | int => exact call_int1
  | gcd => exact cr_gcd
  | str => exact call_str_int
section
variable {K : PySem.W.Frag} {Hf H : Hp}
theorem rdos1 {vs : List V} {d : D} (h : RDos K Hf H vs [d]) : ∃ v, vs = [v] ∧ RDo K Hf H v d := by
  cases h with
  | cons a b => cases b; exact ⟨_, rfl, a⟩
theorem rdos2 {vs : List V} {d e : D} (h : RDos K Hf H vs [d, e]) : ∃ v w, vs = [v, w] ∧ RDo K Hf H v d ∧ RDo K Hf H w e := by
  cases h with
  | cons a b =>
    cases b with
    | cons b c => cases c; exact ⟨_, _, rfl, a, b⟩
theorem blt_s (b : Blt) : CS K (rBlt K b) (bltF b) := by
  intro Hf H vs ds dz Q e hv hf k
  cases b
  case len =>
    unfold bltF at hf
    split at hf <;> first | contradiction | skip
    · obtain ⟨v, rfl, h⟩ := rdos1 hv
      obtain ⟨a, xs, rfl, h1, h2⟩ := rdo_lst h
      cases hf
      exact ⟨_, _, rfl, .inl ⟨xs, SqL.of h1, rfl⟩, k _ _ _ (New.refl e) (by rw [h2.length]; exact .int _)⟩
    · obtain ⟨v, rfl, h⟩ := rdos1 hv
      obtain ⟨a, xs, rfl, _, h1, h2⟩ := rdo_tup e h
      cases hf
      exact ⟨_, _, rfl, .inr ⟨xs, h1, rfl⟩, k _ _ _ (New.refl e) (by rw [h2.length]; exact .int _)⟩
    · obtain ⟨v, rfl, h⟩ := rdos1 hv
      rw [rdo_str h]
      split at hf
      case isFalse => cases hf
      case isTrue hc =>
      cases hf
      exact ⟨_, _, rfl, ⟨le_line hc, rfl⟩, k _ _ _ (New.refl e) (.int _)⟩
  case all =>
    unfold bltF at hf
    split at hf <;> first | contradiction | skip
    obtain ⟨v, rfl, h⟩ := rdos1 hv
    obtain ⟨a, xs, rfl, h1, h2⟩ := rdo_lst h
    rename_i ys _
    cases q : boolsD ys with
    | none => rw [q] at hf; cases hf
    | some bs =>
      rw [q] at hf
      cases hf
      rw [rds_bools h2 q] at h1
      exact ⟨a, bs, rfl, SqL.of h1, k _ _ _ (New.refl e) (.bl _)⟩
  case any =>
    unfold bltF at hf
    split at hf <;> first | contradiction | skip
    obtain ⟨v, rfl, h⟩ := rdos1 hv
    obtain ⟨a, xs, rfl, h1, h2⟩ := rdo_lst h
    rename_i ys _
    cases q : boolsD ys with
    | none => rw [q] at hf; cases hf
    | some bs =>
      rw [q] at hf
      cases hf
      rw [rds_bools h2 q] at h1
      exact ⟨a, bs, rfl, SqL.of h1, k _ _ _ (New.refl e) (.bl _)⟩
  case sum =>
    unfold bltF at hf
    split at hf <;> first | contradiction | skip
    obtain ⟨v, rfl, h⟩ := rdos1 hv
    obtain ⟨a, xs, rfl, h1, h2⟩ := rdo_lst h
    rename_i ys _
    cases q : intsD ys with
    | none => rw [q] at hf; cases hf
    | some bs =>
      rw [q] at hf
      cases hf
      rw [rds_ints h2 q] at h1
      exact ⟨a, bs, rfl, SqL.of h1, k _ _ _ (New.refl e) (.int _)⟩
  case tuple =>
    unfold bltF at hf
    split at hf <;> first | contradiction | skip
    · obtain ⟨v, rfl, h⟩ := rdos1 hv
      obtain ⟨a, xs, rfl, h1, h2⟩ := rdo_lst h
      cases hf
      refine ⟨a, xs, rfl, .inl ⟨SqL.of h1, fun l hl => ?_⟩⟩
      have n := New.at_ (o := .tup xs) e hl
      exact k _ _ _ n (.tup (SqT.of upd_same) (h2.mono n.exf))
    · obtain ⟨v, rfl, h⟩ := rdos1 hv
      obtain ⟨a, xs, rfl, h0, h1, h2⟩ := rdo_tup e h
      cases hf
      exact ⟨a, xs, rfl, .inr ⟨h1, k _ _ _ (New.refl e) (.tup h0 h2)⟩⟩
  case list =>
    unfold bltF at hf
    split at hf <;> first | contradiction | skip
    · obtain ⟨v, rfl, h⟩ := rdos1 hv
      obtain ⟨a, xs, rfl, h1, h2⟩ := rdo_lst h
      cases hf
      refine ⟨a, xs, rfl, .inl (SqL.of h1), fun l hl => ?_⟩
      have n := New.at_ (o := .lst xs) e hl
      exact k _ _ _ n (.lst upd_same (h2.mono n.exf))
    · obtain ⟨v, rfl, h⟩ := rdos1 hv
      obtain ⟨a, xs, rfl, h0, h1, h2⟩ := rdo_tup e h
      cases hf
      refine ⟨a, xs, rfl, .inr h1, fun l hl => ?_⟩
      have n := New.at_ (o := .lst xs) e hl
      exact k _ _ _ n (.lst upd_same (h2.mono n.exf))
  case sorted =>
    unfold bltF at hf
    split at hf <;> first | contradiction | skip
    obtain ⟨v, rfl, h⟩ := rdos1 hv
    obtain ⟨a, xs, rfl, h1, h2⟩ := rdo_lst h
    rename_i ys _
    cases q : pairsD ys with
    | none => rw [q] at hf; cases hf
    | some ps =>
      rw [q] at hf
      cases hf
      have hpf := rds_prs (Ex.refl Hf) h2 q
      refine ⟨a, xs, ps, PrAt K Hf, rfl, SqL.of h1, fun x p ⟨t, e1, e2⟩ => ⟨t, e1, e.tup e2⟩, hpf, fun zs p hz hn => ?_⟩
      have n := New.at_ (o := .lst zs) e hn
      exact k _ _ _ n (.lst upd_same (prs_rds n.exf hz))
  case max2 =>
    unfold bltF at hf
    split at hf <;> first | contradiction | skip
    obtain ⟨v, w, rfl, h, h'⟩ := rdos2 hv
    rw [rdo_int h, rdo_int h']
    cases hf
    exact ⟨_, _, rfl, k _ _ _ (New.refl e) (.int _)⟩
  case min2 =>
    unfold bltF at hf
    split at hf <;> first | contradiction | skip
    obtain ⟨v, w, rfl, h, h'⟩ := rdos2 hv
    rw [rdo_int h, rdo_int h']
    cases hf
    exact ⟨_, _, rfl, k _ _ _ (New.refl e) (.int _)⟩
  case abs =>
    unfold bltF at hf
    split at hf <;> first | contradiction | skip
    obtain ⟨v, rfl, h⟩ := rdos1 hv
    rw [rdo_int h]
    cases hf
    exact ⟨_, rfl, k _ _ _ (New.refl e) (.int _)⟩
  case int =>
    unfold bltF at hf
    split at hf <;> first | contradiction | skip
    · obtain ⟨v, rfl, h⟩ := rdos1 hv
      rw [rdo_int h]
      cases hf
      exact .inl ⟨_, rfl, k _ _ _ (New.refl e) (.int _)⟩
    · obtain ⟨v, rfl, h⟩ := rdos1 hv
      rw [rdo_bool h]
      cases hf
      exact .inr ⟨_, rfl, k _ _ _ (New.refl e) (.int _)⟩
  case gcd =>
    unfold bltF at hf
    split at hf <;> first | contradiction | skip
    obtain ⟨v, w, rfl, h, h'⟩ := rdos2 hv
    rw [rdo_int h, rdo_int h']
    cases hf
    exact ⟨_, _, rfl, k _ _ _ (New.refl e) (.int _)⟩
  case str =>
    unfold bltF at hf
    split at hf <;> first | contradiction | skip
    obtain ⟨v, rfl, h⟩ := rdos1 hv
    rw [rdo_int h]
    split at hf
    case isFalse => cases hf
    case isTrue hc =>
    cases hf
    exact ⟨_, rfl, hc, k _ _ _ (New.refl e) (.str _)⟩
end
end Dn
set_option Elab.async false
set_option linter.all false
set_option maxRecDepth 100000
set_option maxHeartbeats 4000000
/-! Dn, part C4: a piece of the language stands for a piece of the text. -/
namespace Dn
open PySem L2

/-- names: the def's by slot, the built-ins that no global covers, the constants, the defs -/
structure Nm where
  N : List Str
  fr : List Str
  GN : List Str
  fnm : List Str
def visB (sc : Scope) (x : Str) : Bool := match sc.names.lookup x with
  | some .local => true
  | some .cell => true
  | some .free => true
  | _ => false
def glB (sc : Scope) (x : Str) : Bool := match sc.names.lookup x with
  | some .globalImplicit => true
  | _ => false
def locB (sc : Scope) (x : Str) : Bool := match sc.names.lookup x with
  | some .local => true
  | some .cell => true
  | _ => false
def onlyLoc (sc : Scope) (x : Str) : Bool := match sc.names.lookup x with
  | some .local => true
  | _ => false
def nmB (x : Str) : Bool := !(x == ("__debug__" : Str)) && (!(x == ("__classdict__" : Str)) && !decide (x = "__name__"))
def noStar : Expr → Bool
  | .Starred .. => false
  | _ => true
def noSlice : Expr → Bool
  | .Slice .. => false
  | _ => true
def noComp : Expr → Bool
  | .ListComp .. => false
  | .SetComp .. => false
  | .DictComp .. => false
  | _ => true
def noSet : Expr → Bool
  | .Set .. => false
  | _ => true
def plainT : Expr → Bool
  | .BoolOp .. => false
  | .UnaryOp .Not _ _ => false
  | .IfExp .. => false
  | .Compare .. => false
  | _ => true
def tyN : Ty → String
  | .int => "int"
  | .bool => "bool"
  | .str => "str"
  | .tuple => "tuple"
  | .list => "list"
def tyS (t : Ty) : Str := tyN t
def okTys (m : Nm) (sc : Scope) : List Ty → List Expr → Bool
  | [], [] => true
  | t :: ts, .Name z _ :: es => decide (z = tyS t) && (glB sc z && (m.fr.contains z && okTys m sc ts es))
  | _, _ => false
def okNm (m : Nm) (sc : Scope) : List Nat → List Expr → Bool
  | [], [] => true
  | i :: is, .Name x _ :: es => decide (m.N[i]? = some x) && (locB sc x && okNm m sc is es)
  | _, _ => false
def okTg (m : Nm) (sc : Scope) : Tg → Expr → Bool
  | .nm i, .Name x _ => decide (m.N[i]? = some x) && locB sc x
  | .tp is, .Tuple es _ _ => okNm m sc is es
  | _, _ => false
def isTupE : Expr → Bool
  | .Tuple .. => true
  | _ => false
def isYes : T → Bool
  | .yes => true
  | _ => false
def bltOk (m : Nm) (b : Blt) (x : Str) : Bool := decide (x = bltX b) && (match b with
  | .gcd => !(m.fr.contains x)
  | _ => m.fr.contains x)
/-- the comprehension's own names with their slots -/
def ownOf (m : Nm) (is : List Nat) : List (Str × Nat) := is.map fun i => (m.N.getD i Str.empty, i)
mutual
def okE (m : Nm) (sc : Scope) : E → Expr → Bool
  | .int i, x0 => (match x0 with
    | .Constant (.int j) _ _ => decide (i = j)
    | _ => false)
  | .bl b, x0 => (match x0 with
    | .Constant (.bool c) _ _ => decide (b = c)
    | _ => false)
  | .non, x0 => (match x0 with
    | .Constant .none _ _ => true
    | _ => false)
  | .str s, x0 => (match x0 with
    | .Constant (.str z) _ _ => decide (s = z)
    | _ => false)
  | .pl i, x0 => (match x0 with
    | .Name x _ => decide (m.N[i]? = some x) && (visB sc x && nmB x)
    | _ => false)
  | .gl k, x0 => (match x0 with
    | .Name x _ => decide (m.GN[k]? = some x) && (glB sc x && nmB x)
    | _ => false)
  | .tup es, x0 => (match x0 with
    | .Tuple as _ _ => okEs m sc es as
    | _ => false)
  | .lst es, x0 => (match x0 with
    | .List as _ => okEs m sc es as
    | _ => false)
  | .bin o a b, x0 => (match x0 with
    | .BinOp x o' y _ => decide (o = o') && (okE m sc a x && okE m sc b y)
    | _ => false)
  | .neg a, x0 => (match x0 with
    | .UnaryOp .USub x _ => okE m sc a x
    | _ => false)
  | .cmp o a b, x0 => (match x0 with
    | .Compare x [o'] [y] _ => decide (o = o') && (okE m sc a x && (okE m sc b y && !behindInMarks o' y))
    | _ => false)
  | .chn o1 o2 a b c, x0 => (match x0 with
    | .Compare x [p1, p2] [y, z] _ => decide (o1 = p1) && (decide (o2 = p2) && (okE m sc a x && (okE m sc b y && (okE m sc c z && !lastMarks [p1, p2] [y, z]))))
    | _ => false)
  | .and a b, x0 => (match x0 with
    | .BoolOp .And (x :: y :: r) p => okE m sc a x && okE m sc b (.BoolOp .And (y :: r) p)
    | _ => false)
  | .or a b, x0 => (match x0 with
    | .BoolOp .Or (x :: y :: r) p => okE m sc a x && okE m sc b (.BoolOp .Or (y :: r) p)
    | _ => false)
  | .one e, x0 => (match x0 with
    | .BoolOp _ [x] _ => okE m sc e x
    | _ => false)
  | .not a, x0 => (match x0 with
    | .UnaryOp .Not x _ => okE m sc a x
    | _ => false)
  | .ife t a b, x0 => (match x0 with
    | .IfExp c x y _ => okT m sc t c && (okE m sc a x && okE m sc b y)
    | _ => false)
  | .ix a b, x0 => (match x0 with
    | .Subscript x y _ => okE m sc a x && (okE m sc b y && noSlice y)
    | _ => false)
  | .slc a lo hi, x0 => (match x0 with
    | .Subscript x (.Slice l h none _) _ => okE m sc a x && (okEo m sc lo l && okEo m sc hi h)
    | _ => false)
  | .call f es, x0 => (match x0 with
    | .Call (.Name x _) as [] _ => decide (m.fnm[f]? = some x) && (glB sc x && (nmB x && okEs m sc es as))
    | _ => false)
  | .blt b es, x0 => (match x0 with
    | .Call (.Name x _) (a :: as) [] _ => bltOk m b x && (glB sc x && okEs m sc es (a :: as))
    | _ => false)
  | .isi a t, x0 => (match x0 with
    | .Call (.Name x _) [y, .Name z _] [] _ => decide (x = "isinstance") && (glB sc x && (m.fr.contains x && (okE m sc a y && (noStar y && okTys m sc [t] [.Name z default]))))
    | _ => false)
  | .isis a ts, x0 => (match x0 with
    | .Call (.Name x _) [y, .Tuple zs _ _] [] _ => decide (x = "isinstance") && (glB sc x && (m.fr.contains x && (okE m sc a y && (noStar y && (okTys m sc ts zs && decide (ts.length ≤ 100))))))
    | _ => false)
  | .comp tg it c e, x0 => (match x0 with
    | .ListComp elt [⟨t, i, ifs, 0⟩] scope _ => blkC m.N sc scope (ownOf m tg.sl) && (okTg m scope tg t && (okI m sc it i t &&
      ((match ifs with
        | [] => isYes c
        | [g] => okT m (relS scope sc) c g
        | _ => false) && (okE m (relS scope sc) e elt && (noSet i && decide tg.sl.Nodup)))))
    | _ => false)
  | .pop i, x0 => (match x0 with
    | .Call (.Attribute (.Name x _) f ap) [] [] p => decide (f = "pop") && (decide (m.N[i]? = some x) && (visB sc x && (nmB x && (ap.endLine == p.line))))
    | _ => false)
  | .popAt i e, x0 => (match x0 with
    | .Call (.Attribute (.Name x _) f ap) [a] [] p => decide (f = "pop") && (decide (m.N[i]? = some x) && (visB sc x && (nmB x && ((ap.endLine == p.line) && (okE m sc e a && noStar a)))))
    | _ => false)
  | .dget a b, x0 => (match x0 with
    | .Subscript x y _ => okE m sc a x && (okE m sc b y && noSlice y)
    | _ => false)
  | .din n a b, x0 => (match x0 with
    | .Compare x [o] [y] _ => decide (o = if n then .NotIn else .In) && (okE m sc a x && (okE m sc b y && !behindInMarks o y))
    | _ => false)
  | .dzip a b, x0 => (match x0 with
    | .Call (.Name x _) [.Call (.Name z _) [p, q] [] _] [] _ => decide (x = "dict") && (decide (z = "zip") && (glB sc x && (glB sc z && (m.fr.contains x && (m.fr.contains z && (okE m sc a p && (okE m sc b q && (noStar p && noStar q))))))))
    | _ => false)
  | .scl i lo hi, x0 => (match x0 with
    | .Subscript (.Name x _) (.Slice l h none _) _ => decide (m.N[i]? = some x) && (visB sc x && (nmB x && (okEo m sc lo l && okEo m sc hi h)))
    | _ => false)
  | .callR f i es, x0 => (match x0 with
    | .Call (.Name x _) (.Name z _ :: as) [] _ => decide (m.fnm[f]? = some x) && (glB sc x && (nmB x && (decide (m.N[i]? = some z) && (visB sc z && (nmB z && okEs m sc es as)))))
    | _ => false)
def okEs (m : Nm) (sc : Scope) : Es → List Expr → Bool
  | .nil, [] => true
  | .cons e es, a :: as => okE m sc e a && (noStar a && okEs m sc es as)
  | _, _ => false
def okEo (m : Nm) (sc : Scope) : Eo → Option Expr → Bool
  | .no, none => true
  | .so e, some a => okE m sc e a
  | _, _ => false
def okT (m : Nm) (sc : Scope) : T → Expr → Bool
  | .yes, _ => false
  | .val e, x => okE m sc e x && plainT x
  | .cmp o a b, x0 => (match x0 with
    | .Compare x [o'] [y] _ => decide (o = o') && (okE m sc a x && (okE m sc b y && !behindInMarks o' y))
    | _ => false)
  | .chn o1 o2 a b c, x0 => (match x0 with
    | .Compare x [p1, p2] [y, z] _ => decide (o1 = p1) && (decide (o2 = p2) && (okE m sc a x && (okE m sc b y && (okE m sc c z && !lastMarks [p1, p2] [y, z]))))
    | _ => false)
  | .din n a b, x0 => (match x0 with
    | .Compare x [o] [y] _ => decide (o = if n then .NotIn else .In) && (okE m sc a x && (okE m sc b y && !behindInMarks o y))
    | _ => false)
  | .and a b, x0 => (match x0 with
    | .BoolOp .And (x :: y :: r) p => okT m sc a x && okT m sc b (.BoolOp .And (y :: r) p)
    | _ => false)
  | .or a b, x0 => (match x0 with
    | .BoolOp .Or (x :: y :: r) p => okT m sc a x && okT m sc b (.BoolOp .Or (y :: r) p)
    | _ => false)
  | .one e, x0 => (match x0 with
    | .BoolOp _ [x] _ => okT m sc e x
    | _ => false)
  | .not a, x0 => (match x0 with
    | .UnaryOp .Not x _ => okT m sc a x
    | _ => false)
def okI (m : Nm) (sc : Scope) : It → Expr → Expr → Bool
  | .sq e, x, _ => okE m sc e x && noSet x
  | .rng1 e, x0, t => (match x0 with
    | .Call (.Name x _) [a] [] _ => decide (x = "range") && (glB sc x && (m.fr.contains x && (okE m sc e a && noStar a)))
    | _ => false)
  | .rng2 e g, x0, t => (match x0 with
    | .Call (.Name x _) [a, b] [] _ => decide (x = "range") && (glB sc x && (m.fr.contains x && (okE m sc e a && (noStar a && (okE m sc g b && noStar b)))))
    | _ => false)
  | .enm e, x0, t => (match x0 with
    | .Call (.Name x _) [a] [] _ => decide (x = "enumerate") && (glB sc x && (m.fr.contains x && (okE m sc e a && (noStar a && isTupE t))))
    | _ => false)
  | .zp e g, x0, t => (match x0 with
    | .Call (.Name x _) [a, b] [] _ => decide (x = "zip") && (glB sc x && (m.fr.contains x && (okE m sc e a && (noStar a && (okE m sc g b && (noStar b && isTupE t))))))
    | _ => false)
  | .rev e, x0, t => (match x0 with
    | .Call (.Name x _) [a] [] _ => decide (x = "reversed") && (glB sc x && (m.fr.contains x && (okE m sc e a && noStar a)))
    | _ => false)
end

/-! ### side conditions, from the shape -/
theorem star_cons {a : Expr} {as : List Expr} {env : Env} (h : noStar a = true) : starEach (a :: as) env = (false, eval a env) :: starEach as env := by
  cases a <;> first | rfl | cases h
theorem plain_star {m : Nm} {sc : Scope} : ∀ {es : Es} {as : List Expr} {pos : Pos} {env : Env}, okEs m sc es as = true → (backTo pos (starEach as env)).any (·.1) = false
  | .nil, [], _, _, _ => rfl
  | .cons e es, a :: as, pos, env, h => by
    unfold okEs at h
    simp only [Bool.and_eq_true] at h
    rw [star_cons h.2.1]
    exact plain_star (pos := pos) (env := env) h.2.2
  | .nil, _ :: _, _, _, h => by simp [okEs] at h
  | .cons _ _, [], _, _, h => by simp [okEs] at h
theorem swaps_no {e : Expr} {env : Env} {n : Nat} {t : Option Expr} (h : noComp e = true) : swapsWith e t n env = pure false := by
  cases e <;> first | rfl | cases h
theorem plainIx_of {b : Expr} (h : noSlice b = true) : PlainIx b := by
  intro o i
  cases b <;> first | rfl | cases h
theorem fold_no {e : Expr} {env : Env} (h : noSet e = true) : ∀ x, foldedSetIterable e env x = pure x := by
  intro x
  cases e <;> first | rfl | cases h
theorem test_plain {e : Expr} {env : Env} (h : plainT e = true) (whole : Sem Value) : isTrue e env whole = (do let v ← whole; standAt e.pos; holding [v] (truthy v)) := by
  cases e <;> first | rfl | (cases h; done) | skip
  rename_i o x p
  cases o <;> first | rfl | cases h
theorem vis_of {sc : Scope} {x : Str} (h : visB sc x = true) : Vis sc x := by
  unfold visB at h
  unfold Vis
  split at h <;> first | contradiction | simp_all
theorem gl_of {sc : Scope} {x : Str} (h : glB sc x = true) : sc.names.lookup x = some .globalImplicit := by
  unfold glB at h
  split at h <;> first | contradiction | assumption
theorem loc_of {sc : Scope} {x : Str} (h : locB sc x = true) : sc.names.lookup x = some .local ∨ sc.names.lookup x = some .cell := by
  unfold locB at h
  split at h <;> first | contradiction | simp_all
theorem nm_of {x : Str} (h : nmB x = true) : (x == ("__debug__" : Str)) = false ∧ (x == ("__classdict__" : Str)) = false ∧ x ≠ "__name__" := by
  unfold nmB at h
  simp only [Bool.and_eq_true, Bool.not_eq_true', decide_eq_false_iff_not] at h
  exact h

/-! ### the context -/
structure Ct where
  P : Program
  w : World
  K : PySem.W.Frag
  mg : Str → Option Value
  base : Heap
  n : Nat
  nm : Nm
  G : List D
  Φ : Nat → List SV → Option (D × List SV)
  Ψ : Nat → List SV → Option (OV × List SV)
/-- a def's arguments as data -/
structure Args (K : PySem.W.Frag) (Hf H : Hp) (vs : List V) (as : List SV) : Prop where
  ex : Ex Hf H
  len : vs.length = as.length
  pure : ∀ (i : Nat) (x : D), as[i]? = some (.d x) → ∃ v, vs[i]? = some v ∧ RD K Hf v x
  own : ∀ (i : Nat) (r : Bool) (o : OV), as[i]? = some (.own r o) → r = true ∧ ∃ a, vs[i]? = some (.ref a) ∧ Hf a = none ∧ OVat K Hf H a o
  dis : ∀ (i j : Nat) (r : Bool) (o : OV) (r' : Bool) (o' : OV) (a : Addr), as[i]? = some (.own r o) → as[j]? = some (.own r' o') → vs[i]? = some (.ref a) → vs[j]? = some (.ref a) → i = j
  noun : ∀ (i : Nat), as[i]? ≠ some .un
  ro : ∀ (i : Nat) (xs : List D), as[i]? = some (.ro xs) → ∃ v, vs[i]? = some v ∧ RoAt K Hf v xs
/-- behind a call -/
structure Back (K : PySem.W.Frag) (Hf H : Hp) (vs : List V) (as as' : List SV) (Hf' H' : Hp) : Prop where
  ex : Ex Hf Hf'
  exh : Ex Hf' H'
  fr : ∀ a, H a ≠ none → Hf a = none → Hf' a = none
  fm : ∀ a o, H a = some o → (∀ (i : Nat) (r : Bool) (ov : OV), as[i]? = some (.own r ov) → vs[i]? ≠ some (.ref a)) → H' a = some o
  len : as'.length = as.length
  own : ∀ (i : Nat) (r : Bool) (o : OV), as[i]? = some (.own r o) → ∃ o', as'[i]? = some (.own r o') ∧ ∀ a, vs[i]? = some (.ref a) → Hf' a = none ∧ OVat K Hf' H' a o'
def spD (K : PySem.W.Frag) (k : Nat) (g : List SV → Option (D × List SV)) : Sp := fun vs H Q _ => vs.length = k ∧ ∃ (as : List SV) (Hf : Hp) (d : D) (as' : List SV), Args K Hf H vs as ∧ g as = some (d, as') ∧
  ∀ v Hf' H', Back K Hf H vs as as' Hf' H' → RD K Hf' v d → Q v H'
/-- .. that gives a new object of one's own -/
def spF (K : PySem.W.Frag) (k : Nat) (g : List SV → Option (OV × List SV)) : Sp := fun vs H Q _ => vs.length = k ∧ ∃ (as : List SV) (Hf : Hp) (o : OV) (as' : List SV), Args K Hf H vs as ∧ g as = some (o, as') ∧
  ∀ a Hf' H', Back K Hf H vs as as' Hf' H' → H a = none → Hf' a = none → OVat K Hf' H' a o → Q (.ref a) H'
structure Ct.Ok (c : Ct) : Prop where
  nd : c.nm.N.Nodup
  free : ∀ x, c.nm.fr.contains x = true → c.mg x = none
  gcd : c.nm.fr.contains "gcd" = false → c.mg "gcd" = some (.builtin "math.gcd")
  glob : ∀ (k : Nat) (x : Str) (d : D), c.nm.GN[k]? = some x → c.G[k]? = some d → ∃ u v, c.mg x = some u ∧ RelV v u ∧ ∀ H, RD c.K H v d
  call : ∀ (i : Nat) (x : Str), c.nm.fnm[i]? = some x → ∃ f fd ps, c.mg x = some (.ref f) ∧ PySem.W.keepIn c.K (.ref f) = true ∧ Binds c.K fd ps [] ∧ FnOk c.P c.w c.K c.mg c.base CX0 c.n f fd ps (spD c.K ps.length (c.Φ i)) ∧ FnOk c.P c.w c.K c.mg c.base CX0 c.n f fd ps (spF c.K ps.length (c.Ψ i)) ∧ (∀ as r, c.Φ i as = some r → as.length = ps.length) ∧ ∀ as r, c.Ψ i as = some r → as.length = ps.length
structure XOk (c : Ct) (X : Cx) (sc st : Scope) : Prop where
  prog : X.prog = c.P
  w : X.w = c.w
  K : X.K = c.K
  mg : X.mg = c.mg
  base : X.base = c.base
  N : X.N = c.nm.N
  scp : X.env.scope = sc
  kind : sc.kind = .function
  calm : X.calm = true
  room : Room c.n X.A
  nox : X.xe = fun _ _ => False
  sto : ∀ x, (st.names.lookup x = some .local ∨ st.names.lookup x = some .cell) → Loc X.env.scope x ∧ (X.fn x = true ∨ X.env.scope.names.lookup x = some .local)

/-! ### what a reading comes to -/
def SemE (K : PySem.W.Frag) (t : TE) (f : Rho → Option (Vl × Rho)) : Prop := ∀ {ρ : Rho} {σ : L2.St} {Hf H : Hp} {Q : VK} {x : Vl} {ρ' : Rho}, Sta K ρ σ Hf H → f ρ = some (x, ρ') →
  (∀ v Hf' H', Step K ρ σ Hf H ρ' Hf' H' → RV K ρ' σ Hf' v x → Q v H') → t σ H Q
def SemT (K : PySem.W.Frag) (t : TT) (f : Rho → Option (Bool × Rho)) : Prop := ∀ {ρ : Rho} {σ : L2.St} {Hf H : Hp} {Q : Bool → Hp → Prop} {x : Bool} {ρ' : Rho}, Sta K ρ σ Hf H → f ρ = some (x, ρ') →
  (∀ Hf' H', Step K ρ σ Hf H ρ' Hf' H' → Q x H') → t σ H Q
def SemA (K : PySem.W.Frag) (t : TA) (f : Rho → Option (List Vl × Rho)) : Prop := ∀ {ρ : Rho} {σ : L2.St} {Hf H : Hp} {Q : List V → Hp → Prop} {x : List Vl} {ρ' : Rho}, Sta K ρ σ Hf H → f ρ = some (x, ρ') →
  (∀ v Hf' H', Step K ρ σ Hf H ρ' Hf' H' → RVs K ρ' σ Hf' v x → Q v H') → t σ H Q
def SemO (K : PySem.W.Frag) (t : TO) (f : Rho → Option (Option Int × Rho)) : Prop := ∀ {ρ : Rho} {σ : L2.St} {Hf H : Hp} {Q : Option Int → Hp → Prop} {x : Option Int} {ρ' : Rho}, Sta K ρ σ Hf H → f ρ = some (x, ρ') →
  (∀ Hf' H', Step K ρ σ Hf H ρ' Hf' H' → Q x H') → t σ H Q
/-- the items of a walk as data -/
def WalkD (K : PySem.W.Frag) (J : L2.It) (items : List D) (Hf : Hp) : Prop := Walk J items.length (fun H => Ex Hf H) fun i H x H' => ∃ d, items[i]? = some d ∧ ∀ Hc, Ex Hf Hc → Ex Hc H → ∃ Hc', New Hc H Hc' H' ∧ RD K Hc' x d
def SemI (K : PySem.W.Frag) (t : TI) (f : Rho → Option (List D × Rho)) : Prop := ∀ {ρ : Rho} {σ : L2.St} {Hf H : Hp} {R : L2.It → Hp → Prop} {x : List D} {ρ' : Rho}, Sta K ρ σ Hf H → f ρ = some (x, ρ') →
  (∀ J Hf' H', Step K ρ σ Hf H ρ' Hf' H' → WalkD K J x Hf' → R J H') → t σ H R
end Dn
set_option Elab.async false
set_option linter.all false
set_option maxRecDepth 100000
set_option maxHeartbeats 4000000
/-! Dn, part C5: from the check to the shape. (Printed by geninv.py.) -/
namespace Dn
open PySem L2
section
variable {m : Nm} {sc : Scope} {x t : Expr}
theorem inv_int {i : Int} (h : okE m sc (.int i) x = true) : ∃ k p, x = .Constant (.int i) k p := by
  have h' : ((match (generalizing := false) x with
    | .Constant (.int j) _ _ => decide (i = j)
    | _ => false)) = true := h
  clear h
  split at h' <;> first | contradiction | skip
  (try simp only [Bool.and_eq_true, decide_eq_true_eq, Bool.not_eq_true'] at h')
  subst h'
  exact ⟨_, _, rfl⟩

theorem inv_bl {b : Bool} (h : okE m sc (.bl b) x = true) : ∃ k p, x = .Constant (.bool b) k p := by
  have h' : ((match (generalizing := false) x with
    | .Constant (.bool c) _ _ => decide (b = c)
    | _ => false)) = true := h
  clear h
  split at h' <;> first | contradiction | skip
  (try simp only [Bool.and_eq_true, decide_eq_true_eq, Bool.not_eq_true'] at h')
  subst h'
  exact ⟨_, _, rfl⟩

theorem inv_non  (h : okE m sc .non x = true) : ∃ k p, x = .Constant .none k p := by
  have h' : ((match (generalizing := false) x with
    | .Constant .none _ _ => true
    | _ => false)) = true := h
  clear h
  split at h' <;> first | contradiction | skip
  exact ⟨_, _, rfl⟩

theorem inv_str {s : Str} (h : okE m sc (.str s) x = true) : ∃ k p, x = .Constant (.str s) k p := by
  have h' : ((match (generalizing := false) x with
    | .Constant (.str z) _ _ => decide (s = z)
    | _ => false)) = true := h
  clear h
  split at h' <;> first | contradiction | skip
  (try simp only [Bool.and_eq_true, decide_eq_true_eq, Bool.not_eq_true'] at h')
  subst h'
  exact ⟨_, _, rfl⟩

theorem inv_pl {i : Nat} (h : okE m sc (.pl i) x = true) : ∃ y p, x = .Name y p ∧ m.N[i]? = some y ∧ visB sc y = true ∧ nmB y = true := by
  have h' : ((match (generalizing := false) x with
    | .Name x _ => decide (m.N[i]? = some x) && (visB sc x && nmB x)
    | _ => false)) = true := h
  clear h
  split at h' <;> first | contradiction | skip
  (try simp only [Bool.and_eq_true, decide_eq_true_eq, Bool.not_eq_true'] at h')
  exact ⟨_, _, rfl, h'⟩

theorem inv_gl {k : Nat} (h : okE m sc (.gl k) x = true) : ∃ y p, x = .Name y p ∧ m.GN[k]? = some y ∧ glB sc y = true ∧ nmB y = true := by
  have h' : ((match (generalizing := false) x with
    | .Name x _ => decide (m.GN[k]? = some x) && (glB sc x && nmB x)
    | _ => false)) = true := h
  clear h
  split at h' <;> first | contradiction | skip
  (try simp only [Bool.and_eq_true, decide_eq_true_eq, Bool.not_eq_true'] at h')
  exact ⟨_, _, rfl, h'⟩

theorem inv_tup {es : Es} (h : okE m sc (.tup es) x = true) : ∃ as k p, x = .Tuple as k p ∧ okEs m sc es as = true := by
  have h' : ((match (generalizing := false) x with
    | .Tuple as _ _ => okEs m sc es as
    | _ => false)) = true := h
  clear h
  split at h' <;> first | contradiction | skip
  (try simp only [Bool.and_eq_true, decide_eq_true_eq, Bool.not_eq_true'] at h')
  exact ⟨_, _, _, rfl, h'⟩

theorem inv_lst {es : Es} (h : okE m sc (.lst es) x = true) : ∃ as p, x = .List as p ∧ okEs m sc es as = true := by
  have h' : ((match (generalizing := false) x with
    | .List as _ => okEs m sc es as
    | _ => false)) = true := h
  clear h
  split at h' <;> first | contradiction | skip
  (try simp only [Bool.and_eq_true, decide_eq_true_eq, Bool.not_eq_true'] at h')
  exact ⟨_, _, rfl, h'⟩

theorem inv_bin {o : Operator} {a b : E} (h : okE m sc (.bin o a b) x = true) : ∃ l r p, x = .BinOp l o r p ∧ okE m sc a l = true ∧ okE m sc b r = true := by
  have h' : ((match (generalizing := false) x with
    | .BinOp x o' y _ => decide (o = o') && (okE m sc a x && okE m sc b y)
    | _ => false)) = true := h
  clear h
  split at h' <;> first | contradiction | skip
  (try simp only [Bool.and_eq_true, decide_eq_true_eq, Bool.not_eq_true'] at h')
  obtain ⟨rfl, h'⟩ := h'
  exact ⟨_, _, _, rfl, h'⟩

theorem inv_neg {a : E} (h : okE m sc (.neg a) x = true) : ∃ l p, x = .UnaryOp .USub l p ∧ okE m sc a l = true := by
  have h' : ((match (generalizing := false) x with
    | .UnaryOp .USub x _ => okE m sc a x
    | _ => false)) = true := h
  clear h
  split at h' <;> first | contradiction | skip
  (try simp only [Bool.and_eq_true, decide_eq_true_eq, Bool.not_eq_true'] at h')
  exact ⟨_, _, rfl, h'⟩

theorem inv_cmp {o : CmpOp} {a b : E} (h : okE m sc (.cmp o a b) x = true) : ∃ l r p, x = .Compare l [o] [r] p ∧ okE m sc a l = true ∧ okE m sc b r = true ∧ behindInMarks o r = false := by
  have h' : ((match (generalizing := false) x with
    | .Compare x [o'] [y] _ => decide (o = o') && (okE m sc a x && (okE m sc b y && !behindInMarks o' y))
    | _ => false)) = true := h
  clear h
  split at h' <;> first | contradiction | skip
  (try simp only [Bool.and_eq_true, decide_eq_true_eq, Bool.not_eq_true'] at h')
  obtain ⟨rfl, h'⟩ := h'
  exact ⟨_, _, _, rfl, h'⟩

theorem inv_chn {o1 o2 : CmpOp} {a b c : E} (h : okE m sc (.chn o1 o2 a b c) x = true) : ∃ l r s p, x = .Compare l [o1, o2] [r, s] p ∧ okE m sc a l = true ∧ okE m sc b r = true ∧ okE m sc c s = true ∧ lastMarks [o1, o2] [r, s] = false := by
  have h' : ((match (generalizing := false) x with
    | .Compare x [p1, p2] [y, z] _ => decide (o1 = p1) && (decide (o2 = p2) && (okE m sc a x && (okE m sc b y && (okE m sc c z && !lastMarks [p1, p2] [y, z]))))
    | _ => false)) = true := h
  clear h
  split at h' <;> first | contradiction | skip
  (try simp only [Bool.and_eq_true, decide_eq_true_eq, Bool.not_eq_true'] at h')
  obtain ⟨rfl, rfl, h'⟩ := h'
  exact ⟨_, _, _, _, rfl, h'⟩

theorem inv_and {a b : E} (h : okE m sc (.and a b) x = true) : ∃ l y r p, x = .BoolOp .And (l :: y :: r) p ∧ okE m sc a l = true ∧ okE m sc b (.BoolOp .And (y :: r) p) = true := by
  have h' : ((match (generalizing := false) x with
    | .BoolOp .And (x :: y :: r) p => okE m sc a x && okE m sc b (.BoolOp .And (y :: r) p)
    | _ => false)) = true := h
  clear h
  split at h' <;> first | contradiction | skip
  (try simp only [Bool.and_eq_true, decide_eq_true_eq, Bool.not_eq_true'] at h')
  exact ⟨_, _, _, _, rfl, h'⟩

theorem inv_or {a b : E} (h : okE m sc (.or a b) x = true) : ∃ l y r p, x = .BoolOp .Or (l :: y :: r) p ∧ okE m sc a l = true ∧ okE m sc b (.BoolOp .Or (y :: r) p) = true := by
  have h' : ((match (generalizing := false) x with
    | .BoolOp .Or (x :: y :: r) p => okE m sc a x && okE m sc b (.BoolOp .Or (y :: r) p)
    | _ => false)) = true := h
  clear h
  split at h' <;> first | contradiction | skip
  (try simp only [Bool.and_eq_true, decide_eq_true_eq, Bool.not_eq_true'] at h')
  exact ⟨_, _, _, _, rfl, h'⟩

theorem inv_one {e : E} (h : okE m sc (.one e) x = true) : ∃ o l p, x = .BoolOp o [l] p ∧ okE m sc e l = true := by
  have h' : ((match (generalizing := false) x with
    | .BoolOp _ [x] _ => okE m sc e x
    | _ => false)) = true := h
  clear h
  split at h' <;> first | contradiction | skip
  (try simp only [Bool.and_eq_true, decide_eq_true_eq, Bool.not_eq_true'] at h')
  exact ⟨_, _, _, rfl, h'⟩

theorem inv_not {a : E} (h : okE m sc (.not a) x = true) : ∃ l p, x = .UnaryOp .Not l p ∧ okE m sc a l = true := by
  have h' : ((match (generalizing := false) x with
    | .UnaryOp .Not x _ => okE m sc a x
    | _ => false)) = true := h
  clear h
  split at h' <;> first | contradiction | skip
  (try simp only [Bool.and_eq_true, decide_eq_true_eq, Bool.not_eq_true'] at h')
  exact ⟨_, _, rfl, h'⟩

theorem inv_ife {t : T} {a b : E} (h : okE m sc (.ife t a b) x = true) : ∃ q l r p, x = .IfExp q l r p ∧ okT m sc t q = true ∧ okE m sc a l = true ∧ okE m sc b r = true := by
  have h' : ((match (generalizing := false) x with
    | .IfExp c x y _ => okT m sc t c && (okE m sc a x && okE m sc b y)
    | _ => false)) = true := h
  clear h
  split at h' <;> first | contradiction | skip
  (try simp only [Bool.and_eq_true, decide_eq_true_eq, Bool.not_eq_true'] at h')
  exact ⟨_, _, _, _, rfl, h'⟩

theorem inv_ix {a b : E} (h : okE m sc (.ix a b) x = true) : ∃ l r p, x = .Subscript l r p ∧ okE m sc a l = true ∧ okE m sc b r = true ∧ noSlice r = true := by
  have h' : ((match (generalizing := false) x with
    | .Subscript x y _ => okE m sc a x && (okE m sc b y && noSlice y)
    | _ => false)) = true := h
  clear h
  split at h' <;> first | contradiction | skip
  (try simp only [Bool.and_eq_true, decide_eq_true_eq, Bool.not_eq_true'] at h')
  exact ⟨_, _, _, rfl, h'⟩

theorem inv_slc {a : E} {lo hi : Eo} (h : okE m sc (.slc a lo hi) x = true) : ∃ l u v p q, x = .Subscript l (.Slice u v none p) q ∧ okE m sc a l = true ∧ okEo m sc lo u = true ∧ okEo m sc hi v = true := by
  have h' : ((match (generalizing := false) x with
    | .Subscript x (.Slice l h none _) _ => okE m sc a x && (okEo m sc lo l && okEo m sc hi h)
    | _ => false)) = true := h
  clear h
  split at h' <;> first | contradiction | skip
  (try simp only [Bool.and_eq_true, decide_eq_true_eq, Bool.not_eq_true'] at h')
  exact ⟨_, _, _, _, _, rfl, h'⟩

theorem inv_call {f : Nat} {es : Es} (h : okE m sc (.call f es) x = true) : ∃ y p as p', x = .Call (.Name y p) as [] p' ∧ m.fnm[f]? = some y ∧ glB sc y = true ∧ nmB y = true ∧ okEs m sc es as = true := by
  have h' : ((match (generalizing := false) x with
    | .Call (.Name x _) as [] _ => decide (m.fnm[f]? = some x) && (glB sc x && (nmB x && okEs m sc es as))
    | _ => false)) = true := h
  clear h
  split at h' <;> first | contradiction | skip
  (try simp only [Bool.and_eq_true, decide_eq_true_eq, Bool.not_eq_true'] at h')
  exact ⟨_, _, _, _, rfl, h'⟩

theorem inv_blt {b : Blt} {es : Es} (h : okE m sc (.blt b es) x = true) : ∃ y p e as p', x = .Call (.Name y p) (e :: as) [] p' ∧ bltOk m b y = true ∧ glB sc y = true ∧ okEs m sc es (e :: as) = true := by
  have h' : ((match (generalizing := false) x with
    | .Call (.Name x _) (a :: as) [] _ => bltOk m b x && (glB sc x && okEs m sc es (a :: as))
    | _ => false)) = true := h
  clear h
  split at h' <;> first | contradiction | skip
  (try simp only [Bool.and_eq_true, decide_eq_true_eq, Bool.not_eq_true'] at h')
  exact ⟨_, _, _, _, _, rfl, h'⟩

theorem inv_isi {a : E} {t : Ty} (h : okE m sc (.isi a t) x = true) : ∃ y p l z q p', x = .Call (.Name y p) [l, .Name z q] [] p' ∧ y = "isinstance" ∧ glB sc y = true ∧ m.fr.contains y = true ∧ okE m sc a l = true ∧ noStar l = true ∧ okTys m sc [t] [.Name z default] = true := by
  have h' : ((match (generalizing := false) x with
    | .Call (.Name x _) [y, .Name z _] [] _ => decide (x = "isinstance") && (glB sc x && (m.fr.contains x && (okE m sc a y && (noStar y && okTys m sc [t] [.Name z default]))))
    | _ => false)) = true := h
  clear h
  split at h' <;> first | contradiction | skip
  (try simp only [Bool.and_eq_true, decide_eq_true_eq, Bool.not_eq_true'] at h')
  exact ⟨_, _, _, _, _, _, rfl, h'⟩

theorem inv_isis {a : E} {ts : List Ty} (h : okE m sc (.isis a ts) x = true) : ∃ y p l zs k q p', x = .Call (.Name y p) [l, .Tuple zs k q] [] p' ∧ y = "isinstance" ∧ glB sc y = true ∧ m.fr.contains y = true ∧ okE m sc a l = true ∧ noStar l = true ∧ okTys m sc ts zs = true ∧ ts.length ≤ 100 := by
  have h' : ((match (generalizing := false) x with
    | .Call (.Name x _) [y, .Tuple zs _ _] [] _ => decide (x = "isinstance") && (glB sc x && (m.fr.contains x && (okE m sc a y && (noStar y && (okTys m sc ts zs && decide (ts.length ≤ 100))))))
    | _ => false)) = true := h
  clear h
  split at h' <;> first | contradiction | skip
  (try simp only [Bool.and_eq_true, decide_eq_true_eq, Bool.not_eq_true'] at h')
  exact ⟨_, _, _, _, _, _, _, rfl, h'⟩

theorem inv_pop {i : Nat} (h : okE m sc (.pop i) x = true) : ∃ y p f ap p', x = .Call (.Attribute (.Name y p) f ap) [] [] p' ∧ f = "pop" ∧ m.N[i]? = some y ∧ visB sc y = true ∧ nmB y = true ∧ (ap.endLine == p'.line) = true := by
  have h' : ((match (generalizing := false) x with
    | .Call (.Attribute (.Name x _) f ap) [] [] p => decide (f = "pop") && (decide (m.N[i]? = some x) && (visB sc x && (nmB x && (ap.endLine == p.line))))
    | _ => false)) = true := h
  clear h
  split at h' <;> first | contradiction | skip
  (try simp only [Bool.and_eq_true, decide_eq_true_eq, Bool.not_eq_true'] at h')
  exact ⟨_, _, _, _, _, rfl, h'⟩

theorem inv_popAt {i : Nat} {e : E} (h : okE m sc (.popAt i e) x = true) : ∃ y p f ap a p', x = .Call (.Attribute (.Name y p) f ap) [a] [] p' ∧ f = "pop" ∧ m.N[i]? = some y ∧ visB sc y = true ∧ nmB y = true ∧ (ap.endLine == p'.line) = true ∧ okE m sc e a = true ∧ noStar a = true := by
  have h' : ((match (generalizing := false) x with
    | .Call (.Attribute (.Name x _) f ap) [a] [] p => decide (f = "pop") && (decide (m.N[i]? = some x) && (visB sc x && (nmB x && ((ap.endLine == p.line) && (okE m sc e a && noStar a)))))
    | _ => false)) = true := h
  clear h
  split at h' <;> first | contradiction | skip
  (try simp only [Bool.and_eq_true, decide_eq_true_eq, Bool.not_eq_true'] at h')
  exact ⟨_, _, _, _, _, _, rfl, h'⟩

theorem inv_dget {a b : E} (h : okE m sc (.dget a b) x = true) : ∃ l r p, x = .Subscript l r p ∧ okE m sc a l = true ∧ okE m sc b r = true ∧ noSlice r = true := by
  have h' : ((match (generalizing := false) x with
    | .Subscript x y _ => okE m sc a x && (okE m sc b y && noSlice y)
    | _ => false)) = true := h
  clear h
  split at h' <;> first | contradiction | skip
  (try simp only [Bool.and_eq_true, decide_eq_true_eq, Bool.not_eq_true'] at h')
  exact ⟨_, _, _, rfl, h'⟩

theorem inv_din {n : Bool} {a b : E} (h : okE m sc (.din n a b) x = true) : ∃ l o r p, x = .Compare l [o] [r] p ∧ o = (if n then .NotIn else .In) ∧ okE m sc a l = true ∧ okE m sc b r = true ∧ behindInMarks o r = false := by
  have h' : ((match (generalizing := false) x with
    | .Compare x [o] [y] _ => decide (o = if n then .NotIn else .In) && (okE m sc a x && (okE m sc b y && !behindInMarks o y))
    | _ => false)) = true := h
  clear h
  split at h' <;> first | contradiction | skip
  (try simp only [Bool.and_eq_true, decide_eq_true_eq, Bool.not_eq_true'] at h')
  exact ⟨_, _, _, _, rfl, h'⟩

theorem inv_dzip {a b : E} (h : okE m sc (.dzip a b) x = true) : ∃ y p z q u v p1 p2, x = .Call (.Name y p) [.Call (.Name z q) [u, v] [] p1] [] p2 ∧ y = "dict" ∧ z = "zip" ∧ glB sc y = true ∧ glB sc z = true ∧ m.fr.contains y = true ∧ m.fr.contains z = true ∧ okE m sc a u = true ∧ okE m sc b v = true ∧ noStar u = true ∧ noStar v = true := by
  have h' : ((match (generalizing := false) x with
    | .Call (.Name x _) [.Call (.Name z _) [p, q] [] _] [] _ => decide (x = "dict") && (decide (z = "zip") && (glB sc x && (glB sc z && (m.fr.contains x && (m.fr.contains z && (okE m sc a p && (okE m sc b q && (noStar p && noStar q))))))))
    | _ => false)) = true := h
  clear h
  split at h' <;> first | contradiction | skip
  (try simp only [Bool.and_eq_true, decide_eq_true_eq, Bool.not_eq_true'] at h')
  exact ⟨_, _, _, _, _, _, _, _, rfl, h'⟩

theorem inv_comp {tg : Tg} {it : It} {c : T} {e : E} (h : okE m sc (.comp tg it c e) x = true) : ∃ elt t i ifs scope p, x = .ListComp elt [⟨t, i, ifs, 0⟩] scope p ∧ blkC m.N sc scope (ownOf m tg.sl) = true ∧ okTg m scope tg t = true ∧ okI m sc it i t = true ∧ (match ifs with | [] => isYes c | [g] => okT m (relS scope sc) c g | _ => false) = true ∧ okE m (relS scope sc) e elt = true ∧ noSet i = true ∧ tg.sl.Nodup := by
  have h' : ((match (generalizing := false) x with
    | .ListComp elt [⟨t, i, ifs, 0⟩] scope _ => blkC m.N sc scope (ownOf m tg.sl) && (okTg m scope tg t && (okI m sc it i t &&
      ((match (generalizing := false) ifs with
        | [] => isYes c
        | [g] => okT m (relS scope sc) c g
        | _ => false) && (okE m (relS scope sc) e elt && (noSet i && decide tg.sl.Nodup)))))
    | _ => false)) = true := h
  clear h
  split at h' <;> first | contradiction | skip
  (try simp only [Bool.and_eq_true, decide_eq_true_eq, Bool.not_eq_true'] at h')
  exact ⟨_, _, _, _, _, _, rfl, h'⟩

theorem inv_scl {i : Nat} {lo hi : Eo} (h : okE m sc (.scl i lo hi) x = true) : ∃ y p' u v p q, x = .Subscript (.Name y p') (.Slice u v none p) q ∧ m.N[i]? = some y ∧ visB sc y = true ∧ nmB y = true ∧ okEo m sc lo u = true ∧ okEo m sc hi v = true := by
  have h' : ((match (generalizing := false) x with
    | .Subscript (.Name x _) (.Slice l h none _) _ => decide (m.N[i]? = some x) && (visB sc x && (nmB x && (okEo m sc lo l && okEo m sc hi h)))
    | _ => false)) = true := h
  clear h
  split at h' <;> first | contradiction | skip
  (try simp only [Bool.and_eq_true, decide_eq_true_eq, Bool.not_eq_true'] at h')
  exact ⟨_, _, _, _, _, _, rfl, h'⟩

theorem inv_callR {f i : Nat} {es : Es} (h : okE m sc (.callR f i es) x = true) : ∃ y p z q as p', x = .Call (.Name y p) (.Name z q :: as) [] p' ∧ m.fnm[f]? = some y ∧ glB sc y = true ∧ nmB y = true ∧ m.N[i]? = some z ∧ visB sc z = true ∧ nmB z = true ∧ okEs m sc es as = true := by
  have h' : ((match (generalizing := false) x with
    | .Call (.Name x _) (.Name z _ :: as) [] _ => decide (m.fnm[f]? = some x) && (glB sc x && (nmB x && (decide (m.N[i]? = some z) && (visB sc z && (nmB z && okEs m sc es as)))))
    | _ => false)) = true := h
  clear h
  split at h' <;> first | contradiction | skip
  (try simp only [Bool.and_eq_true, decide_eq_true_eq, Bool.not_eq_true'] at h')
  exact ⟨_, _, _, _, _, _, rfl, h'⟩

theorem inv_tval {e : E} (h : okT m sc (.val e) x = true) : okE m sc e x = true ∧ plainT x = true := by
  have h' : (okE m sc e x && plainT x) = true := h
  clear h
  (try simp only [Bool.and_eq_true, decide_eq_true_eq, Bool.not_eq_true'] at h')
  exact h'

theorem inv_tcmp {o : CmpOp} {a b : E} (h : okT m sc (.cmp o a b) x = true) : ∃ l r p, x = .Compare l [o] [r] p ∧ okE m sc a l = true ∧ okE m sc b r = true ∧ behindInMarks o r = false := by
  have h' : ((match (generalizing := false) x with
    | .Compare x [o'] [y] _ => decide (o = o') && (okE m sc a x && (okE m sc b y && !behindInMarks o' y))
    | _ => false)) = true := h
  clear h
  split at h' <;> first | contradiction | skip
  (try simp only [Bool.and_eq_true, decide_eq_true_eq, Bool.not_eq_true'] at h')
  obtain ⟨rfl, h'⟩ := h'
  exact ⟨_, _, _, rfl, h'⟩

theorem inv_tchn {o1 o2 : CmpOp} {a b c : E} (h : okT m sc (.chn o1 o2 a b c) x = true) : ∃ l r s p, x = .Compare l [o1, o2] [r, s] p ∧ okE m sc a l = true ∧ okE m sc b r = true ∧ okE m sc c s = true ∧ lastMarks [o1, o2] [r, s] = false := by
  have h' : ((match (generalizing := false) x with
    | .Compare x [p1, p2] [y, z] _ => decide (o1 = p1) && (decide (o2 = p2) && (okE m sc a x && (okE m sc b y && (okE m sc c z && !lastMarks [p1, p2] [y, z]))))
    | _ => false)) = true := h
  clear h
  split at h' <;> first | contradiction | skip
  (try simp only [Bool.and_eq_true, decide_eq_true_eq, Bool.not_eq_true'] at h')
  obtain ⟨rfl, rfl, h'⟩ := h'
  exact ⟨_, _, _, _, rfl, h'⟩

theorem inv_tdin {n : Bool} {a b : E} (h : okT m sc (.din n a b) x = true) : ∃ l o r p, x = .Compare l [o] [r] p ∧ o = (if n then .NotIn else .In) ∧ okE m sc a l = true ∧ okE m sc b r = true ∧ behindInMarks o r = false := by
  have h' : ((match (generalizing := false) x with
    | .Compare x [o] [y] _ => decide (o = if n then .NotIn else .In) && (okE m sc a x && (okE m sc b y && !behindInMarks o y))
    | _ => false)) = true := h
  clear h
  split at h' <;> first | contradiction | skip
  (try simp only [Bool.and_eq_true, decide_eq_true_eq, Bool.not_eq_true'] at h')
  exact ⟨_, _, _, _, rfl, h'⟩

theorem inv_tand {a b : T} (h : okT m sc (.and a b) x = true) : ∃ l y r p, x = .BoolOp .And (l :: y :: r) p ∧ okT m sc a l = true ∧ okT m sc b (.BoolOp .And (y :: r) p) = true := by
  have h' : ((match (generalizing := false) x with
    | .BoolOp .And (x :: y :: r) p => okT m sc a x && okT m sc b (.BoolOp .And (y :: r) p)
    | _ => false)) = true := h
  clear h
  split at h' <;> first | contradiction | skip
  (try simp only [Bool.and_eq_true, decide_eq_true_eq, Bool.not_eq_true'] at h')
  exact ⟨_, _, _, _, rfl, h'⟩

theorem inv_tor {a b : T} (h : okT m sc (.or a b) x = true) : ∃ l y r p, x = .BoolOp .Or (l :: y :: r) p ∧ okT m sc a l = true ∧ okT m sc b (.BoolOp .Or (y :: r) p) = true := by
  have h' : ((match (generalizing := false) x with
    | .BoolOp .Or (x :: y :: r) p => okT m sc a x && okT m sc b (.BoolOp .Or (y :: r) p)
    | _ => false)) = true := h
  clear h
  split at h' <;> first | contradiction | skip
  (try simp only [Bool.and_eq_true, decide_eq_true_eq, Bool.not_eq_true'] at h')
  exact ⟨_, _, _, _, rfl, h'⟩

theorem inv_tone {e : T} (h : okT m sc (.one e) x = true) : ∃ o l p, x = .BoolOp o [l] p ∧ okT m sc e l = true := by
  have h' : ((match (generalizing := false) x with
    | .BoolOp _ [x] _ => okT m sc e x
    | _ => false)) = true := h
  clear h
  split at h' <;> first | contradiction | skip
  (try simp only [Bool.and_eq_true, decide_eq_true_eq, Bool.not_eq_true'] at h')
  exact ⟨_, _, _, rfl, h'⟩

theorem inv_tnot {a : T} (h : okT m sc (.not a) x = true) : ∃ l p, x = .UnaryOp .Not l p ∧ okT m sc a l = true := by
  have h' : ((match (generalizing := false) x with
    | .UnaryOp .Not x _ => okT m sc a x
    | _ => false)) = true := h
  clear h
  split at h' <;> first | contradiction | skip
  (try simp only [Bool.and_eq_true, decide_eq_true_eq, Bool.not_eq_true'] at h')
  exact ⟨_, _, rfl, h'⟩

theorem inv_isq {e : E} (h : okI m sc (.sq e) x t = true) : okE m sc e x = true ∧ noSet x = true := by
  have h' : (okE m sc e x && noSet x) = true := h
  clear h
  (try simp only [Bool.and_eq_true, decide_eq_true_eq, Bool.not_eq_true'] at h')
  exact h'

theorem inv_irng1 {e : E} (h : okI m sc (.rng1 e) x t = true) : ∃ y p a q, x = .Call (.Name y p) [a] [] q ∧ y = "range" ∧ glB sc y = true ∧ m.fr.contains y = true ∧ okE m sc e a = true ∧ noStar a = true := by
  have h' : ((match (generalizing := false) x with
    | .Call (.Name x _) [a] [] _ => decide (x = "range") && (glB sc x && (m.fr.contains x && (okE m sc e a && noStar a)))
    | _ => false)) = true := h
  clear h
  split at h' <;> first | contradiction | skip
  (try simp only [Bool.and_eq_true, decide_eq_true_eq, Bool.not_eq_true'] at h')
  exact ⟨_, _, _, _, rfl, h'⟩

theorem inv_irng2 {e g : E} (h : okI m sc (.rng2 e g) x t = true) : ∃ y p a b q, x = .Call (.Name y p) [a, b] [] q ∧ y = "range" ∧ glB sc y = true ∧ m.fr.contains y = true ∧ okE m sc e a = true ∧ noStar a = true ∧ okE m sc g b = true ∧ noStar b = true := by
  have h' : ((match (generalizing := false) x with
    | .Call (.Name x _) [a, b] [] _ => decide (x = "range") && (glB sc x && (m.fr.contains x && (okE m sc e a && (noStar a && (okE m sc g b && noStar b)))))
    | _ => false)) = true := h
  clear h
  split at h' <;> first | contradiction | skip
  (try simp only [Bool.and_eq_true, decide_eq_true_eq, Bool.not_eq_true'] at h')
  exact ⟨_, _, _, _, _, rfl, h'⟩

theorem inv_ienm {e : E} (h : okI m sc (.enm e) x t = true) : ∃ y p a q, x = .Call (.Name y p) [a] [] q ∧ y = "enumerate" ∧ glB sc y = true ∧ m.fr.contains y = true ∧ okE m sc e a = true ∧ noStar a = true ∧ isTupE t = true := by
  have h' : ((match (generalizing := false) x with
    | .Call (.Name x _) [a] [] _ => decide (x = "enumerate") && (glB sc x && (m.fr.contains x && (okE m sc e a && (noStar a && isTupE t))))
    | _ => false)) = true := h
  clear h
  split at h' <;> first | contradiction | skip
  (try simp only [Bool.and_eq_true, decide_eq_true_eq, Bool.not_eq_true'] at h')
  exact ⟨_, _, _, _, rfl, h'⟩

theorem inv_izp {e g : E} (h : okI m sc (.zp e g) x t = true) : ∃ y p a b q, x = .Call (.Name y p) [a, b] [] q ∧ y = "zip" ∧ glB sc y = true ∧ m.fr.contains y = true ∧ okE m sc e a = true ∧ noStar a = true ∧ okE m sc g b = true ∧ noStar b = true ∧ isTupE t = true := by
  have h' : ((match (generalizing := false) x with
    | .Call (.Name x _) [a, b] [] _ => decide (x = "zip") && (glB sc x && (m.fr.contains x && (okE m sc e a && (noStar a && (okE m sc g b && (noStar b && isTupE t))))))
    | _ => false)) = true := h
  clear h
  split at h' <;> first | contradiction | skip
  (try simp only [Bool.and_eq_true, decide_eq_true_eq, Bool.not_eq_true'] at h')
  exact ⟨_, _, _, _, _, rfl, h'⟩

theorem inv_irev {e : E} (h : okI m sc (.rev e) x t = true) : ∃ y p a q, x = .Call (.Name y p) [a] [] q ∧ y = "reversed" ∧ glB sc y = true ∧ m.fr.contains y = true ∧ okE m sc e a = true ∧ noStar a = true := by
  have h' : ((match (generalizing := false) x with
    | .Call (.Name x _) [a] [] _ => decide (x = "reversed") && (glB sc x && (m.fr.contains x && (okE m sc e a && noStar a)))
    | _ => false)) = true := h
  clear h
  split at h' <;> first | contradiction | skip
  (try simp only [Bool.and_eq_true, decide_eq_true_eq, Bool.not_eq_true'] at h')
  exact ⟨_, _, _, _, rfl, h'⟩
end
end Dn
set_option Elab.async false
set_option linter.all false
set_option maxRecDepth 100000
set_option maxHeartbeats 4000000
/-! Dn, part C6: readings and the evaluator, construct by construct. -/
namespace Dn
open PySem L2
section
variable {K : PySem.W.Frag} {ta tb tc : TE} {fa fb fc : Rho → Option (Vl × Rho)} {ρ ρ1 ρ2 : Rho} {σ : L2.St} {Hf H : Hp}
theorem sem_c {v : V} {d : D} (h : ∀ Hf, RD K Hf v d) : SemE K (tC v) (fun ρ => some (.p d, ρ)) := by
  intro ρ σ Hf H Q x ρ' s e k
  cases e
  exact k _ _ _ (Step.refl s) (h _)
theorem sem_pl {i : Nat} : SemE K (tVar i) (fun ρ => match ρ[i]? with
    | some (.d x) => some (.p x, ρ)
    | some (.own _ _) => some (.al i, ρ)
    | _ => none) := by
  intro ρ σ Hf H Q x ρ' s e k
  dsimp only at e
  split at e <;> first | contradiction | skip
  · rename_i y h
    cases e
    obtain ⟨v, h1, h2⟩ := s.pure _ _ h
    exact ⟨v, h1, k _ _ _ (Step.refl s) h2⟩
  · rename_i r o h
    cases e
    obtain ⟨a, h1, h2, h3⟩ := s.own _ _ _ h
    exact ⟨_, h1, k _ _ _ (Step.refl s) ⟨h1, r, o, h⟩⟩
/-- two operands -/
theorem sem2 (sa : SemE K ta fa) (sb : SemE K tb fb) {R : V → V → Hp → Prop} (s : Sta K ρ σ Hf H) {x y : Vl} (h1 : fa ρ = some (x, ρ1)) (h2 : fb ρ1 = some (y, ρ2))
    (k : ∀ vx vy Hf' H', Step K ρ σ Hf H ρ2 Hf' H' → RV K ρ2 σ Hf' vx x → RV K ρ2 σ Hf' vy y → R vx vy H') : ta σ H fun vx H1 => tb σ H1 fun vy H2 => R vx vy H2 :=
  sa s h1 fun vx Hf1 H1 st1 r1 => sb st1.st h2 fun vy Hf2 H2 st2 r2 => k vx vy Hf2 H2 (st1.trans s st2) (r1.step st2) r2
theorem sem_r2 {r : R2} {f : D → D → Option D} (hr : R2S K r f) (sa : SemE K ta fa) (sb : SemE K tb fb) : SemE K (tOp r ta tb) (fun ρ => match fa ρ with
    | some (x, ρ1) => (match fb ρ1 with
      | some (y, ρ2) => (match f (rdV ρ2 x) (rdV ρ2 y) with
        | some z => some (.p z, ρ2)
        | none => none)
      | none => none)
    | none => none) := by
  intro ρ σ Hf H Q x ρ' s e k
  dsimp only at e
  split at e <;> first | contradiction | skip
  rename_i x1 ρ1 h1
  split at e <;> first | contradiction | skip
  rename_i x2 ρ2 h2
  split at e <;> first | contradiction | skip
  rename_i z hz
  cases e
  refine sem2 sa sb s h1 h2 fun vx vy Hf2 H2 st rx ry => ?_
  refine hr st.st.ex (RV.rdo st.st rx) (RV.rdo st.st ry) hz fun v Hf3 H3 n q => ?_
  exact k v Hf3 H3 (st.trans s (n.step st.st)) q
theorem r2_cmp (o : CmpOp) : R2S K (rCmp K o) (fun x y => (cmpF o x y).map .bool) := by
  intro Hf H vx vy dx dy dz Q e hx hy h k
  dsimp only at h
  cases q : cmpF o dx dy with
  | none => rw [q] at h; cases h
  | some r =>
    rw [q] at h
    cases h
    exact cmp_s o e hx hy q (k _ _ _ (New.refl e) (.bl _))
theorem sem_cmp {o : CmpOp} (sa : SemE K ta fa) (sb : SemE K tb fb) : SemE K (tOp (rCmp K o) ta tb) (fun ρ => match fa ρ with
    | some (x, ρ1) => (match fb ρ1 with
      | some (y, ρ2) => (match cmpF o (rdV ρ2 x) (rdV ρ2 y) with
        | some z => some (.p (.bool z), ρ2)
        | none => none)
      | none => none)
    | none => none) := by
  intro ρ σ Hf H Q x ρ' s e k
  refine sem_r2 (r2_cmp o) sa sb s (x := x) (ρ' := ρ') ?_ k
  dsimp only at e ⊢
  split at e <;> first | contradiction | skip
  split at e <;> first | contradiction | skip
  split at e <;> first | contradiction | skip
  rename_i z hz
  rw [hz]
  exact e
/-- a chain's reading, for values -/
theorem sem_chn {o1 o2 : CmpOp} (sa : SemE K ta fa) (sb : SemE K tb fb) (sc : SemE K tc fc) : SemE K (tChain (rCmp K o1) (rCmp K o2) ta tb tc) (fun ρ => match fa ρ with
    | some (x, ρ1) => (match fb ρ1 with
      | some (y, ρ2) => (match cmpF o1 (rdV ρ2 x) (rdV ρ2 y) with
        | some false => some (.p (.bool false), ρ2)
        | some true => (match fc ρ2 with
          | some (z, ρ3) => (match cmpF o2 (rdV ρ3 y) (rdV ρ3 z) with
            | some r => some (.p (.bool r), ρ3)
            | none => none)
          | none => none)
        | none => none)
      | none => none)
    | none => none) := by
  intro ρ σ Hf H Q x ρ' s e k
  dsimp only at e
  split at e <;> first | contradiction | skip
  rename_i x1 ρ1 h1
  split at e <;> first | contradiction | skip
  rename_i x2 ρ2 h2
  refine sem2 sa sb s h1 h2 fun vx vy Hf2 H2 st rx ry => ?_
  split at e <;> first | contradiction | skip
  · rename_i hz
    cases e
    exact cmp_s o1 st.st.ex (RV.rdo st.st rx) (RV.rdo st.st ry) hz ⟨false, rfl, k _ _ _ st (.bl _)⟩
  · rename_i hz
    split at e <;> first | contradiction | skip
    rename_i x3 ρ3 h3
    split at e <;> first | contradiction | skip
    rename_i r hr
    cases e
    refine cmp_s o1 st.st.ex (RV.rdo st.st rx) (RV.rdo st.st ry) hz ⟨true, rfl, ?_⟩
    rw [if_pos rfl]
    refine sc st.st h3 fun vz Hf3 H3 st3 rz => ?_
    exact cmp_s o2 st3.st.ex (RV.rdo st3.st (ry.step st3)) (RV.rdo st3.st rz) hr (k _ _ _ (st.trans s st3) (.bl _))
theorem sem_neg (sa : SemE K ta fa) : SemE K (tUn (rU fun i => .int (-i)) ta) (fun ρ => match fa ρ with
    | some (.p (.int i), ρ1) => some (.p (.int (-i)), ρ1)
    | _ => none) := by
  intro ρ σ Hf H Q x ρ' s e k
  dsimp only at e
  split at e <;> first | contradiction | skip
  rename_i i ρ1 h1
  cases e
  refine sa s h1 fun v Hf1 H1 st r => ?_
  rw [show v = .int i from rdo_int (RV.rdo st.st r)]
  exact ⟨i, rfl, k _ _ _ st (.int _)⟩
theorem rv_bool {v : V} {b : Bool} (r : RV K ρ σ Hf v (.p (.bool b))) : v = .bl b := by
  cases (show RD K Hf v (.bool b) from r)
  rfl
theorem rv_int {v : V} {b : Int} (r : RV K ρ σ Hf v (.p (.int b))) : v = .int b := by
  cases (show RD K Hf v (.int b) from r)
  rfl
theorem sem_and (sa : SemE K ta fa) (sb : SemE K tb fb) : SemE K (tAndV ta tb) (fun ρ => match fa ρ with
    | some (.p (.bool false), ρ1) => some (.p (.bool false), ρ1)
    | some (.p (.bool true), ρ1) => fb ρ1
    | _ => none) := by
  intro ρ σ Hf H Q x ρ' s e k
  dsimp only at e
  split at e <;> first | contradiction | skip
  · rename_i ρ1 h1
    cases e
    exact sa s h1 fun v Hf1 H1 st r => ⟨false, rv_bool r, k _ _ _ st (.bl _)⟩
  · rename_i ρ1 h1
    refine sa s h1 fun v Hf1 H1 st r => ⟨true, rv_bool r, ?_⟩
    rw [if_pos rfl]
    exact sb st.st e fun v Hf2 H2 st2 r2 => k _ _ _ (st.trans s st2) r2
theorem sem_or (sa : SemE K ta fa) (sb : SemE K tb fb) : SemE K (tOrV ta tb) (fun ρ => match fa ρ with
    | some (.p (.bool true), ρ1) => some (.p (.bool true), ρ1)
    | some (.p (.bool false), ρ1) => fb ρ1
    | _ => none) := by
  intro ρ σ Hf H Q x ρ' s e k
  dsimp only at e
  split at e <;> first | contradiction | skip
  · rename_i ρ1 h1
    cases e
    refine sa s h1 fun v Hf1 H1 st r => ⟨true, rv_bool r, ?_⟩
    rw [if_pos rfl]
    exact k _ _ _ st (.bl _)
  · rename_i ρ1 h1
    refine sa s h1 fun v Hf1 H1 st r => ⟨false, rv_bool r, ?_⟩
    rw [if_neg Bool.false_ne_true]
    exact sb st.st e fun v Hf2 H2 st2 r2 => k _ _ _ (st.trans s st2) r2
theorem sem_not (sa : SemE K ta fa) : SemE K (tNotV ta) (fun ρ => match fa ρ with
    | some (.p (.bool b), ρ1) => some (.p (.bool (!b)), ρ1)
    | _ => none) := by
  intro ρ σ Hf H Q x ρ' s e k
  dsimp only at e
  split at e <;> first | contradiction | skip
  rename_i b ρ1 h1
  cases e
  exact sa s h1 fun v Hf1 H1 st r => ⟨b, rv_bool r, k _ _ _ st (.bl _)⟩
theorem sem_ife {tt : TT} {ft : Rho → Option (Bool × Rho)} (st : SemT K tt ft) (sa : SemE K ta fa) (sb : SemE K tb fb) : SemE K (tIf tt ta tb) (fun ρ => match ft ρ with
    | some (true, ρ1) => fa ρ1
    | some (false, ρ1) => fb ρ1
    | none => none) := by
  intro ρ σ Hf H Q x ρ' s e k
  dsimp only at e
  split at e <;> first | contradiction | skip
  · rename_i ρ1 h1
    refine st s h1 fun Hf1 H1 st1 => ?_
    rw [if_pos rfl]
    exact sa st1.st e fun v Hf2 H2 st2 r2 => k _ _ _ (st1.trans s st2) r2
  · rename_i ρ1 h1
    refine st s h1 fun Hf1 H1 st1 => ?_
    rw [if_neg Bool.false_ne_true]
    exact sb st1.st e fun v Hf2 H2 st2 r2 => k _ _ _ (st1.trans s st2) r2
theorem r2_ix : R2S K (rIx K) ixF := by
  intro Hf H vx vy dx dy dz Q e hx hy h k
  exact ix_s e hx hy h fun v r => k v _ _ (New.refl e) r
theorem sem_slc {tl th : TO} {fl fh : Rho → Option (Option Int × Rho)} (sa : SemE K ta fa) (sl : SemO K tl fl) (sh : SemO K th fh) : SemE K (tSl (rSlc K) ta tl th) (fun ρ => match fa ρ with
    | some (x, ρ1) => (match fl ρ1 with
      | some (l, ρ2) => (match fh ρ2 with
        | some (h, ρ3) => (match slcF (rdV ρ3 x) l h with
          | some z => some (.p z, ρ3)
          | none => none)
        | none => none)
      | none => none)
    | none => none) := by
  intro ρ σ Hf H Q x ρ' s e k
  dsimp only at e
  split at e <;> first | contradiction | skip
  rename_i x1 ρ1 h1
  split at e <;> first | contradiction | skip
  rename_i l ρ2 h2
  split at e <;> first | contradiction | skip
  rename_i h ρ3 h3
  split at e <;> first | contradiction | skip
  rename_i z hz
  cases e
  refine sa s h1 fun v Hf1 H1 st1 r1 => sl st1.st h2 fun Hf2 H2 st2 => sh st2.st h3 fun Hf3 H3 st3 => ?_
  have st := (st1.trans s st2).trans s st3
  refine slc_s st.st.ex (RV.rdo st.st ((r1.step st2).step st3)) hz fun w Hf4 H4 n q => ?_
  exact k _ _ _ (st.trans s (n.step st.st)) q
theorem sem_no : SemO K tNoPart (fun ρ => some (none, ρ)) := by
  intro ρ σ Hf H Q x ρ' s e k
  cases e
  exact k _ _ (Step.refl s)
theorem sem_so (sa : SemE K ta fa) : SemO K (tPart ta) (fun ρ => match fa ρ with
    | some (.p (.int i), ρ1) => some (some i, ρ1)
    | _ => none) := by
  intro ρ σ Hf H Q x ρ' s e k
  dsimp only at e
  split at e <;> first | contradiction | skip
  rename_i b ρ1 h1
  cases e
  exact sa s h1 fun v Hf1 H1 st r => ⟨b, rv_int r, k _ _ st⟩
/-! arguments -/
variable {t1 : TA} {f1 : Rho → Option (List Vl × Rho)}
theorem sem_nil : SemA K tNil (fun ρ => some ([], ρ)) := by
  intro ρ σ Hf H Q x ρ' s e k
  cases e
  exact k _ _ _ (Step.refl s) .nil
theorem sem_cons (sa : SemE K ta fa) (s1 : SemA K t1 f1) : SemA K (tCons ta t1) (fun ρ => match fa ρ with
    | some (x, ρ1) => (match f1 ρ1 with
      | some (xs, ρ2) => some (x :: xs, ρ2)
      | none => none)
    | none => none) := by
  intro ρ σ Hf H Q x ρ' s e k
  dsimp only at e
  split at e <;> first | contradiction | skip
  rename_i x1 ρ1 h1
  split at e <;> first | contradiction | skip
  rename_i x2 ρ2 h2
  cases e
  exact sa s h1 fun v Hf1 H1 st1 r1 => s1 st1.st h2 fun vs Hf2 H2 st2 r2 => k _ _ _ (st1.trans s st2) (.cons (r1.step st2) r2)
theorem pvDs_rd {ρ : Rho} {σ : L2.St} {Hf : Hp} : ∀ {vs : List V} {xs : List Vl} {ds : List D}, RVs K ρ σ Hf vs xs → pvDs xs = some ds → RDs K Hf vs ds
  | _, _, _, .nil, e => by cases e; exact .nil
  | _, x :: xs, ds, .cons h r, e => by
    cases x with
    | al i => cases e
    | p d =>
      unfold pvDs at e
      cases q : pvDs xs with
      | none => rw [q] at e; cases e
      | some es =>
        rw [q] at e
        cases e
        exact .cons h (pvDs_rd r q)
theorem sem_tup (s1 : SemA K t1 f1) : SemE K (tTup t1) (fun ρ => match f1 ρ with
    | some (vs, ρ1) => (match pvDs vs with
      | some xs => if xs.length ≤ cap then some (.p (.tuple xs), ρ1) else none
      | none => none)
    | none => none) := by
  intro ρ σ Hf H Q x ρ' s e k
  dsimp only at e
  split at e <;> first | contradiction | skip
  rename_i x1 ρ1 h1
  split at e <;> first | contradiction | skip
  rename_i xs h2
  split at e <;> first | contradiction | skip
  rename_i hc
  cases e
  refine s1 s h1 fun vs Hf1 H1 st1 r1 => ?_
  have r := pvDs_rd r1 h2
  refine ⟨by rw [r.length]; exact le_line hc, fun p hp => ?_⟩
  have n := New.at_ (o := .tup vs) st1.st.ex hp
  exact k _ _ _ (st1.trans s (n.step st1.st)) (.tup (SqT.of upd_same) (r.mono n.exf))
theorem sem_lst (s1 : SemA K t1 f1) : SemE K (tLst t1) (fun ρ => match f1 ρ with
    | some (vs, ρ1) => (match pvDs vs with
      | some xs => if xs.length ≤ cap then some (.p (.list xs), ρ1) else none
      | none => none)
    | none => none) := by
  intro ρ σ Hf H Q x ρ' s e k
  dsimp only at e
  split at e <;> first | contradiction | skip
  rename_i x1 ρ1 h1
  split at e <;> first | contradiction | skip
  rename_i xs h2
  split at e <;> first | contradiction | skip
  rename_i hc
  cases e
  refine s1 s h1 fun vs Hf1 H1 st1 r1 => ?_
  have r := pvDs_rd r1 h2
  refine ⟨by rw [r.length]; exact le_line hc, fun p hp => ?_⟩
  have n := New.at_ (o := .lst vs) st1.st.ex hp
  exact k _ _ _ (st1.trans s (n.step st1.st)) (.lst upd_same (r.mono n.exf))
theorem sem_cs {r : List V → Hp → VK → Prop} {f : List D → Option D} (hr : CS K r f) (s1 : SemA K t1 f1) : SemE K (tCB r t1) (fun ρ => match f1 ρ with
    | some (vs, ρ1) => (match f (vs.map (rdV ρ1)) with
      | some z => some (.p z, ρ1)
      | none => none)
    | none => none) := by
  intro ρ σ Hf H Q x ρ' s e k
  dsimp only at e
  split at e <;> first | contradiction | skip
  rename_i x1 ρ1 h1
  split at e <;> first | contradiction | skip
  rename_i z h2
  cases e
  refine s1 s h1 fun vs Hf1 H1 st1 r1 => hr st1.st.ex (RVs.rdo st1.st r1) h2 fun v Hf2 H2 n q => ?_
  exact k _ _ _ (st1.trans s (n.step st1.st)) q
/-! tests -/
variable {tt tu : TT} {ft fu : Rho → Option (Bool × Rho)}
theorem semT_yes : SemT K tYes (fun ρ => some (true, ρ)) := by
  intro ρ σ Hf H Q x ρ' s e k
  cases e
  exact k _ _ (Step.refl s)
theorem semT_val (sa : SemE K ta fa) : SemT K (tB ta) (fun ρ => match fa ρ with
    | some (.p (.bool b), ρ1) => some (b, ρ1)
    | _ => none) := by
  intro ρ σ Hf H Q x ρ' s e k
  dsimp only at e
  split at e <;> first | contradiction | skip
  rename_i b ρ1 h1
  cases e
  exact sa s h1 fun v Hf1 H1 st r => ⟨_, rv_bool r, k _ _ st⟩
theorem semT_test (sa : SemE K ta fa) : SemT K (tTest ta) (fun ρ => match fa ρ with
    | some (.p (.bool b), ρ1) => some (b, ρ1)
    | _ => none) := semT_val sa
theorem semT_and (sa : SemT K tt ft) (sb : SemT K tu fu) : SemT K (tAnd tt tu) (fun ρ => match ft ρ with
    | some (false, ρ1) => some (false, ρ1)
    | some (true, ρ1) => fu ρ1
    | none => none) := by
  intro ρ σ Hf H Q x ρ' s e k
  dsimp only at e
  split at e <;> first | contradiction | skip
  · rename_i ρ1 h1
    cases e
    refine sa s h1 fun Hf1 H1 st => ?_
    rw [if_neg Bool.false_ne_true]
    exact k _ _ st
  · rename_i ρ1 h1
    refine sa s h1 fun Hf1 H1 st => ?_
    rw [if_pos rfl]
    exact sb st.st e fun Hf2 H2 st2 => k _ _ (st.trans s st2)
theorem semT_or (sa : SemT K tt ft) (sb : SemT K tu fu) : SemT K (tOr tt tu) (fun ρ => match ft ρ with
    | some (true, ρ1) => some (true, ρ1)
    | some (false, ρ1) => fu ρ1
    | none => none) := by
  intro ρ σ Hf H Q x ρ' s e k
  dsimp only at e
  split at e <;> first | contradiction | skip
  · rename_i ρ1 h1
    cases e
    refine sa s h1 fun Hf1 H1 st => ?_
    rw [if_pos rfl]
    exact k _ _ st
  · rename_i ρ1 h1
    refine sa s h1 fun Hf1 H1 st => ?_
    rw [if_neg Bool.false_ne_true]
    exact sb st.st e fun Hf2 H2 st2 => k _ _ (st.trans s st2)
theorem semT_not (sa : SemT K tt ft) : SemT K (tNot tt) (fun ρ => match ft ρ with
    | some (b, ρ1) => some (!b, ρ1)
    | none => none) := by
  intro ρ σ Hf H Q x ρ' s e k
  dsimp only at e
  split at e <;> first | contradiction | skip
  rename_i b ρ1 h1
  cases e
  exact sa s h1 fun Hf1 H1 st => k _ _ st
/-- the same answers -/
theorem SemT.congr {f g : Rho → Option (Bool × Rho)} (h : SemT K tt f) (e : ∀ ρ, f ρ = g ρ) : SemT K tt g := by
  rw [show g = f from funext fun ρ => (e ρ).symm]
  exact h
end
end Dn
set_option Elab.async false
set_option linter.all false
set_option maxRecDepth 100000
set_option maxHeartbeats 4000000
/-! Dn, part C7: calls, dicts, isinstance, pops. -/
namespace Dn
open PySem L2
section
variable {K : PySem.W.Frag} {ta tb tc : TE} {fa fb fc : Rho → Option (Vl × Rho)} {ρ ρ1 ρ2 : Rho} {σ : L2.St} {Hf H Hf' H' : Hp}
/-! ### dicts -/
theorem kD_key (k : Key) : keyOf (kD k) = some k := by cases k <;> rfl
theorem key_v {d : D} {k : Key} {v : V} (h : RDo K Hf H v d) (e : keyOf d = some k) : v = kV k := by
  cases d with
  | int i => cases e; exact rdo_int h
  | str i => cases e; exact rdo_str h
  | _ => cases e
theorem look_rd : ∀ {ws : List (Key × V)} {kvs : List (D × D)} {k : Key}, RDk K Hf ws kvs → (lookD kvs k = none ∧ valV ws k = none) ∨ ∃ x v, lookD kvs k = some x ∧ valV ws k = some v ∧ RD K Hf v x
  | _, _, _, .nil => .inl ⟨rfl, rfl⟩
  | (k', v) :: ws, (_, d) :: kvs, k, .cons h r => by
    by_cases e : k' = k
    · subst e
      refine .inr ⟨d, v, ?_, ?_, h⟩
      · unfold lookD
        rw [kD_key, if_pos rfl]
      · unfold valV
        rw [List.find?_cons_of_pos (by simp)]
        rfl
    · have e1 : lookD ((kD k', d) :: kvs) k = lookD kvs k := by
        rw [lookD, kD_key, if_neg (fun z => e (Option.some.inj z))]
      have e2 : valV ((k', v) :: ws) k = valV ws k := by
        unfold valV
        rw [List.find?_cons_of_neg (by simp [e])]
      rw [e1, e2]
      exact look_rd r
theorem rdo_dct {ds : List (D × D)} {v : V} (h : RDo K Hf H v (.dict ds)) : ∃ a ws, v = .ref a ∧ H a = some (.dK ws) ∧ RDk K Hf ws ds := by
  obtain ⟨a, h1, xs, h2, h3⟩ := h
  exact ⟨a, xs, h1, h2, h3⟩
theorem sem_dget (sa : SemE K ta fa) (sb : SemE K tb fb) : SemE K (tDGet ta tb) (fun ρ => match fa ρ with
    | some (x, ρ1) => (match fb ρ1 with
      | some (y, ρ2) => (match rdV ρ2 x, keyOf (rdV ρ2 y) with
        | .dict kvs, some k => (match lookD kvs k with
          | some z => some (.p z, ρ2)
          | none => none)
        | _, _ => none)
      | none => none)
    | none => none) := by
  intro ρ σ Hf H Q x ρ' s e k
  dsimp only at e
  split at e <;> first | contradiction | skip
  rename_i x1 ρ1 h1
  split at e <;> first | contradiction | skip
  rename_i x2 ρ2 h2
  split at e <;> first | contradiction | skip
  rename_i kvs q hd hk
  split at e <;> first | contradiction | skip
  rename_i z hz
  cases e
  refine sem2 sa sb s h1 h2 fun vx vy Hf2 H2 st rx ry => ?_
  have rx' := RV.rdo st.st rx
  rw [hd] at rx'
  obtain ⟨a, ws, rfl, h3, h4⟩ := rdo_dct rx'
  have ey := key_v (RV.rdo st.st ry) hk
  rcases look_rd (k := q) h4 with ⟨z1, _⟩ | ⟨x', v, z1, z2, z3⟩
  · rw [hz] at z1; cases z1
  · rw [hz] at z1
    cases z1
    exact ⟨a, v, rfl, .inl ⟨ws, q, .inl h3, ey, z2.symm⟩, k _ _ _ st z3⟩
theorem sem_din {n : Bool} (sa : SemE K ta fa) (sb : SemE K tb fb) : SemE K (if n then tDNotIn ta tb else tDIn ta tb) (fun ρ => match fa ρ with
    | some (x, ρ1) => (match fb ρ1 with
      | some (y, ρ2) => (match keyOf (rdV ρ2 x), rdV ρ2 y with
        | some k, .dict kvs => some (.p (.bool (if n then !(lookD kvs k).isSome else (lookD kvs k).isSome)), ρ2)
        | _, _ => none)
      | none => none)
    | none => none) := by
  intro ρ σ Hf H Q x ρ' s e k
  dsimp only at e
  split at e <;> first | contradiction | skip
  rename_i x1 ρ1 h1
  split at e <;> first | contradiction | skip
  rename_i x2 ρ2 h2
  split at e <;> first | contradiction | skip
  rename_i q kvs hk hd
  cases e
  have key : ta σ H fun y H1 => tb σ H1 fun x H2 => ∃ a o, x = .ref a ∧ DGet H2 a y o ∧ Q (.bl (if n then !o.isSome else o.isSome)) H2 := by
    refine sem2 sa sb s h1 h2 fun vx vy Hf2 H2 st rx ry => ?_
    have ry' := RV.rdo st.st ry
    rw [hd] at ry'
    obtain ⟨a, ws, rfl, h3, h4⟩ := rdo_dct ry'
    have ey := key_v (RV.rdo st.st rx) hk
    refine ⟨a, _, rfl, .inl ⟨ws, q, .inl h3, ey, rfl⟩, ?_⟩
    have e3 : (valV ws q).isSome = (lookD kvs q).isSome := by
      rcases look_rd (k := q) h4 with ⟨z1, z2⟩ | ⟨x', v, z1, z2, _⟩
      · rw [z1, z2]; rfl
      · rw [z1, z2]; rfl
    rw [e3]
    exact k _ _ _ st (.bl _)
  cases n with
  | true => exact key
  | false => exact key
theorem semT_of {t : TE} {tt : TT} {f : Rho → Option (Vl × Rho)} {g : Rho → Option (Bool × Rho)} (se : SemE K t f) (ht : ∀ {σ H} {Q : Bool → Hp → Prop}, (t σ H fun x H1 => ∃ b, x = .bl b ∧ Q b H1) → tt σ H Q)
    (hg : ∀ ρ b ρ', g ρ = some (b, ρ') → f ρ = some (.p (.bool b), ρ')) : SemT K tt g := by
  intro ρ σ Hf H Q x ρ' s e k
  exact ht (se s (hg _ _ _ e) fun v Hf' H' st r => ⟨x, rv_bool r, k _ _ st⟩)
/-! ### isinstance -/
theorem ty_x {v : V} {d : D} (e : Ex Hf H) (h : RDo K Hf H v d) : (d = .none ∧ TyX K H v (.type "NoneType")) ∨ (∃ b, d = .bool b ∧ TyX K H v (.type "bool")) ∨ (∃ b, d = .int b ∧ TyX K H v (.type "int")) ∨ (∃ b, d = .str b ∧ TyX K H v (.type "str")) ∨
    (∃ b, d = .tuple b ∧ TyX K H v (.type "tuple")) ∨ (∃ b, d = .list b ∧ TyX K H v (.type "list")) ∨ ∃ b, d = .dict b ∧ TyX K H v (.type "dict") := by
  cases d with
  | none => cases (show RD K Hf v _ from h); exact .inl ⟨rfl, .base .non⟩
  | bool b => rw [rdo_bool h]; exact .inr (.inl ⟨b, rfl, .base (.bl b)⟩)
  | int b => rw [rdo_int h]; exact .inr (.inr (.inl ⟨b, rfl, .base (.int b)⟩))
  | str b => rw [rdo_str h]; exact .inr (.inr (.inr (.inl ⟨b, rfl, .base (.str b)⟩)))
  | tuple b =>
    obtain ⟨a, xs, rfl, _, h1, h2⟩ := rdo_tup e h
    refine .inr (.inr (.inr (.inr (.inl ⟨b, rfl, ?_⟩))))
    rcases h1 with (h1 | ⟨o, h1⟩) | ⟨o, its, n, h3, h4, _⟩
    · exact .base (.tup h1)
    · exact .fTuple h1
    · exact .kTuple h3 h4
  | list b =>
    obtain ⟨a, xs, rfl, h1, h2⟩ := rdo_lst h
    exact .inr (.inr (.inr (.inr (.inr (.inl ⟨b, rfl, .base (.lst h1)⟩)))))
  | dict b =>
    obtain ⟨a, xs, rfl, h1, h2⟩ := rdo_dct h
    exact .inr (.inr (.inr (.inr (.inr (.inr ⟨b, rfl, .base (.dK h1)⟩)))))
def kndN : D → String
  | .none => "NoneType"
  | .bool _ => "bool"
  | .int _ => "int"
  | .str _ => "str"
  | .tuple _ => "tuple"
  | .list _ => "list"
  | .dict _ => "dict"
def isiN (a b : String) : Bool := a == b || (a == "bool" && b == "int")
theorem ty_knd {v : V} {d : D} (e : Ex Hf H) (h : RDo K Hf H v d) : TyX K H v (.type (kndN d)) := by
  rcases ty_x e h with ⟨rfl, g⟩ | ⟨_, rfl, g⟩ | ⟨_, rfl, g⟩ | ⟨_, rfl, g⟩ | ⟨_, rfl, g⟩ | ⟨_, rfl, g⟩ | ⟨_, rfl, g⟩ <;> exact g
theorem kit_isi (d : D) (t : Ty) : kitB (kndN d) (tyN t) = some (isiF d t) := by
  have h1 : ∀ t : Ty, kitB "NoneType" (tyN t) = some false := fun t => by cases t <;> decide +kernel
  have h2 : ∀ t : Ty, kitB "bool" (tyN t) = some (isiF (.bool true) t) := fun t => by cases t <;> decide +kernel
  have h3 : ∀ t : Ty, kitB "int" (tyN t) = some (isiF (.int 0) t) := fun t => by cases t <;> decide +kernel
  have h4 : ∀ t : Ty, kitB "str" (tyN t) = some (isiF (.str Str.empty) t) := fun t => by cases t <;> decide +kernel
  have h5 : ∀ t : Ty, kitB "tuple" (tyN t) = some (isiF (.tuple []) t) := fun t => by cases t <;> decide +kernel
  have h6 : ∀ t : Ty, kitB "list" (tyN t) = some (isiF (.list []) t) := fun t => by cases t <;> decide +kernel
  have h7 : ∀ t : Ty, kitB "dict" (tyN t) = some false := fun t => by cases t <;> decide +kernel
  cases d with
  | none => rw [show kndN .none = "NoneType" from rfl, h1]; cases t <;> rfl
  | bool b => rw [show kndN (.bool b) = "bool" from rfl, h2]; cases t <;> rfl
  | int b => rw [show kndN (.int b) = "int" from rfl, h3]; cases t <;> rfl
  | str b => rw [show kndN (.str b) = "str" from rfl, h4]; cases t <;> rfl
  | tuple b => rw [show kndN (.tuple b) = "tuple" from rfl, h5]; cases t <;> rfl
  | list b => rw [show kndN (.list b) = "list" from rfl, h6]; cases t <;> rfl
  | dict b => rw [show kndN (.dict b) = "dict" from rfl, h7]; cases t <;> rfl
theorem kit_isis (d : D) : ∀ ts : List Ty, PySem.W.kitAny K (.type (kndN d)) (ts.map fun t => .type (tyN t)) = some (ts.any fun t => isiF d t)
  | [] => kitAny_nil
  | t :: ts => by
    rw [List.map_cons, List.any_cons]
    refine kitAny_cons (b := isiF d t) (kit_ty (kit_isi d t)) (fun e => ?_) (fun e => ?_)
    · rw [e]
      exact kit_isis d ts
    · rw [e]
      rfl
theorem sem_isi {t : Ty} (sa : SemE K ta fa) : SemE K (tCB (rIsi K) (tCons ta (tCons (tC (.ty (tyN t))) tNil))) (fun ρ => match fa ρ with
    | some (x, ρ1) => some (.p (.bool (isiF (rdV ρ1 x) t)), ρ1)
    | none => none) := by
  intro ρ σ Hf H Q x ρ' s e k
  dsimp only at e
  split at e <;> first | contradiction | skip
  rename_i x1 ρ1 h1
  cases e
  refine sa s h1 fun v Hf1 H1 st r => ?_
  exact ⟨v, _, _, _, _, rfl, .ty _, ty_knd st.st.ex (RV.rdo st.st r), kit_ty (kit_isi _ t), k _ _ _ st (.bl _)⟩
/-- the types of an isinstance's tuple, laid -/
def tTys : List Ty → TA
  | [] => tNil
  | t :: ts => tCons (tC (.ty (tyN t))) (tTys ts)
theorem tTys_run : ∀ {ts : List Ty} {σ : L2.St} {H : Hp} {Q : List V → Hp → Prop}, Q (ts.map fun t => .ty (tyN t)) H → tTys ts σ H Q
  | [], _, _, _, q => q
  | t :: ts, σ, H, Q, q => by
    show tTys ts σ H fun xs H2 => Q (.ty (tyN t) :: xs) H2
    exact tTys_run q
theorem cls_tys : ∀ ts : List Ty, Paired ClsV (ts.map fun t => V.ty (tyN t)) (ts.map fun t => Value.type (tyN t))
  | [] => .nil
  | t :: ts => .cons (.ty _) (cls_tys ts)
theorem sem_isis {ts : List Ty} (hl : ts.length ≤ 100) (sa : SemE K ta fa) : SemE K (tCB (rIsiT K) (tCons ta (tCons (tTup (tTys ts)) tNil))) (fun ρ => match fa ρ with
    | some (x, ρ1) => some (.p (.bool (ts.any fun t => isiF (rdV ρ1 x) t)), ρ1)
    | none => none) := by
  intro ρ σ Hf H Q x ρ' s e k
  dsimp only at e
  split at e <;> first | contradiction | skip
  rename_i x1 ρ1 h1
  cases e
  refine sa s h1 fun v Hf1 H1 st r => ?_
  show tTys ts σ H1 _
  refine tTys_run ⟨by rw [List.length_map]; exact Nat.le_trans hl (by decide), fun p hp => ?_⟩
  have n := New.at_ (o := .tup (ts.map fun t => V.ty (tyN t))) st.st.ex hp
  have st2 := n.step st.st
  exact ⟨v, p, _, _, _, _, rfl, upd_same, cls_tys ts, ty_knd st2.st.ex (RV.rdo st2.st (r.step st2)), kit_isis _ ts, k _ _ _ (st.trans s st2) (.bl _)⟩
/-! ### an own list is changed -/
theorem own_set {i : Nat} {r : Bool} {o o' : OV} {a : Addr} {u : HO} (s : Sta K ρ σ Hf H) (h : ρ[i]? = some (.own r o)) (ha : σ[i]? = some (some (.ref a))) (ho : OVat K Hf (upd H a u) a o') :
    Step K ρ σ Hf H (ρ.set i (.own r o')) Hf (upd H a u) := by
  obtain ⟨a', h1, h2, h3⟩ := s.own i r o h
  rw [ha] at h1
  cases h1
  have hi : i < ρ.length := (List.getElem?_eq_some_iff.mp h).1
  have ne : ∀ (j : Nat) (r' : Bool) (o'' : OV) (b : Addr), j ≠ i → ρ[j]? = some (.own r' o'') → σ[j]? = some (some (.ref b)) → b ≠ a := fun j r' o'' b hj h4 h5 z => by
    subst z
    exact hj (s.dis j i r' o'' r o b h4 h h5 ha)
  refine ⟨⟨by rw [List.length_set]; exact s.len, fun b w hb => ?_, fun j x hj => ?_, fun j r' o'' hj => ?_, fun j l r1 o1 r2 o2 b h4 h5 h6 h7 => ?_, fun j xs hj => s.ro j xs (by
    by_cases e : i = j
    · subst e
      rw [List.getElem?_set_self hi] at hj
      cases hj
    · rw [List.getElem?_set_ne e] at hj
      exact hj)⟩, Ex.refl _, fun _ _ q => q, fun b w hb hn => ?_, fun j r' => ?_⟩
  · have nb : b ≠ a := fun z => by subst z; rw [h2] at hb; cases hb
    rw [upd_ne nb]
    exact s.ex _ _ hb
  · by_cases e : i = j
    · subst e
      rw [List.getElem?_set_self hi] at hj
      cases hj
    · rw [List.getElem?_set_ne e] at hj
      exact s.pure j x hj
  · by_cases e : i = j
    · subst e
      rw [List.getElem?_set_self hi] at hj
      cases hj
      exact ⟨a, ha, h2, ho⟩
    · rw [List.getElem?_set_ne e] at hj
      obtain ⟨b, h4, h5, h6⟩ := s.own j r' o'' hj
      refine ⟨b, h4, h5, h6.mono (Ex.refl _) fun w hw => ?_⟩
      rw [upd_ne (ne j r' o'' b (Ne.symm e) hj h4)]
      exact hw
  · have g : ∀ (j : Nat) (r1 : Bool) (o1 : OV), (ρ.set i (.own r o'))[j]? = some (.own r1 o1) → ∃ r2 o2, ρ[j]? = some (.own r2 o2) := fun j r1 o1 q => by
      by_cases e : i = j
      · subst e; exact ⟨r, o, h⟩
      · rw [List.getElem?_set_ne e] at q
        exact ⟨r1, o1, q⟩
    obtain ⟨_, _, g1⟩ := g j _ _ h4
    obtain ⟨_, _, g2⟩ := g l _ _ h5
    exact s.dis j l _ _ _ _ b g1 g2 h6 h7
  · have nb : b ≠ a := fun z => by subst z; exact hn i r o h ha
    rw [upd_ne nb]
    exact hb
  · by_cases e : i = j
    · subst e
      rw [List.getElem?_set_self hi, h]
      constructor
      · rintro ⟨o1, q⟩; cases q; exact ⟨_, rfl⟩
      · rintro ⟨o1, q⟩; cases q; exact ⟨_, rfl⟩
    · rw [List.getElem?_set_ne e]
theorem tyV_list {a : Addr} {xs : List V} (h : H a = some (.lst xs)) : tyV K "list" (.ref a) H := Or.inl ⟨rfl, _, Or.inl (Or.inl h)⟩
theorem sem_pop {i : Nat} : SemE K (tBM0 K "list" rPop (tVar i)) (fun ρ => match ρ[i]? with
    | some (.own r (.lst xs)) => (match xs[xs.length - 1]? with
      | some x => some (.p x, ρ.set i (.own r (.lst xs.dropLast)))
      | none => none)
    | _ => none) := by
  intro ρ σ Hf H Q x ρ' s e k
  dsimp only at e
  split at e <;> first | contradiction | skip
  rename_i r xs h
  split at e <;> first | contradiction | skip
  rename_i y hy
  cases e
  obtain ⟨a, h1, h2, vs, h3, h4⟩ := s.own _ _ _ h
  obtain ⟨v, h5, h6⟩ := h4.get hy
  refine ⟨_, h1, tyV_list h3, a, vs, v, rfl, rfl, h3, by rw [h4.length]; exact h5, ?_⟩
  exact k _ _ _ (own_set s h h1 ⟨_, upd_same, h4.dropLast⟩) h6
theorem lst_at {i : Nat} (s : Sta K ρ σ Hf H) (h : isLst ρ i = true) : ∃ r xs a vs, ρ[i]? = some (.own r (.lst xs)) ∧ σ[i]? = some (some (.ref a)) ∧ H a = some (.lst vs) ∧ RDs K Hf vs xs := by
  unfold isLst at h
  split at h <;> first | contradiction | skip
  rename_i r xs h1
  obtain ⟨a, h2, _, vs, h3, h4⟩ := s.own _ _ _ h1
  exact ⟨r, xs, a, vs, h1, h2, h3, h4⟩
theorem sem_popAt {i : Nat} (sa : SemE K ta fa) : SemE K (tBM K "list" rPopAt (tVar i) (tCons ta tNil)) (fun ρ => if isLst ρ i then (match fa ρ with
    | some (.p (.int k), ρ1) => (match ρ1[i]? with
      | some (.own r (.lst xs)) => if 0 ≤ k ∧ k < 1000000 then (match xs[k.toNat]? with
        | some x => some (.p x, ρ1.set i (.own r (.lst (xs.eraseIdx k.toNat))))
        | none => none) else none
      | _ => none)
    | _ => none) else none) := by
  intro ρ σ Hf H Q x ρ' s e k
  dsimp only at e
  split at e <;> first | contradiction | skip
  rename_i hl
  obtain ⟨r0, xs0, a, vs0, g1, g2, g3, g4⟩ := lst_at s hl
  split at e <;> first | contradiction | skip
  rename_i j ρ1 h1
  split at e <;> first | contradiction | skip
  rename_i r xs h
  split at e <;> first | contradiction | skip
  rename_i hj
  split at e <;> first | contradiction | skip
  rename_i y hy
  cases e
  refine ⟨_, g2, tyV_list g3, sa s h1 fun v Hf1 H1 st rv => ?_⟩
  obtain ⟨a', h4, h5, vs, h6, h7⟩ := st.st.own _ _ _ h
  rw [g2] at h4
  cases h4
  obtain ⟨w, h8, h9⟩ := h7.get hy
  have hlt : j.toNat < vs.length := (List.getElem?_eq_some_iff.mp h8).1
  have hsq : seqIndex? j vs.length = some j.toNat := by
    have q : ixN vs.length j = some j.toNat := by
      unfold ixN
      rw [if_pos hj.1, if_pos (by omega)]
    exact (ixN_seq q).1
  refine ⟨a, vs, j, j.toNat, w, rfl, by rw [rv_int rv], h6, by omega, by omega, hsq, h8, ?_⟩
  exact k _ _ _ (st.trans s (own_set st.st h g2 ⟨_, upd_same, h7.eraseIdx _⟩)) h9
end
end Dn
set_option Elab.async false
set_option linter.all false
set_option maxRecDepth 100000
set_option maxHeartbeats 4000000
/-! Dn, part C8: calls. -/
namespace Dn
open PySem L2
theorem setO_ne {ρ : Rho} {i j : Nat} {o : OV} (h : i ≠ j) : (setO ρ i o)[j]? = ρ[j]? := by
  unfold setO
  split
  · rw [List.getElem?_set_ne h]
  · rfl
theorem setO_at {ρ : Rho} {i : Nat} {r : Bool} {o o' : OV} (h : ρ[i]? = some (.own r o')) : (setO ρ i o)[i]? = some (.own r o) := by
  have hi : i < ρ.length := (List.getElem?_eq_some_iff.mp h).1
  unfold setO
  rw [h]
  show (ρ.set i (.own r o))[i]? = _
  rw [List.getElem?_set_self hi]
theorem setO_no {ρ : Rho} {i j : Nat} {o : OV} (h : ∀ r o', ρ[i]? ≠ some (.own r o')) : (setO ρ i o)[j]? = ρ[j]? := by
  unfold setO
  split
  · rename_i r o' q
    exact absurd q (h r o')
  · rfl
theorem setO_len {ρ : Rho} {i : Nat} {o : OV} : (setO ρ i o).length = ρ.length := by
  unfold setO
  split
  · rw [List.length_set]
  · rfl
theorem setO_st {ρ : Rho} {i j : Nat} {o : OV} {r : Bool} : (∃ o', ρ[j]? = some (.own r o')) ↔ (∃ o', (setO ρ i o)[j]? = some (.own r o')) := by
  by_cases e : i = j
  · subst e
    by_cases q : ∃ r' o', ρ[i]? = some (.own r' o')
    · obtain ⟨r', o', h⟩ := q
      rw [setO_at h, h]
      constructor
      · rintro ⟨_, z⟩; cases z; exact ⟨_, rfl⟩
      · rintro ⟨_, z⟩; cases z; exact ⟨_, rfl⟩
    · rw [setO_no fun r' o' h => q ⟨r', o', h⟩]
  · rw [setO_ne e]
theorem setO_pure {ρ : Rho} {i j : Nat} {o : OV} {x : SV} (hx : ∀ r o', x ≠ .own r o') (h : (setO ρ i o)[j]? = some x) : ρ[j]? = some x := by
  by_cases e : i = j
  · subst e
    by_cases q : ∃ r' o', ρ[i]? = some (.own r' o')
    · obtain ⟨r', o', h'⟩ := q
      rw [setO_at h'] at h
      cases h
      exact absurd rfl (hx _ _)
    · rw [setO_no fun r' o' h => q ⟨r', o', h⟩] at h
      exact h
  · rw [setO_ne e] at h
    exact h
theorem wrB_len : ∀ (vs : List Vl) (as : List SV) (ρ : Rho), (wrB vs as ρ).length = ρ.length
  | [], _, _ => by simp [wrB]
  | .p _ :: vs, [], _ => by simp [wrB]
  | .al _ :: vs, [], _ => by simp [wrB]
  | .p _ :: vs, a :: as, ρ => by
    show (wrB vs as ρ).length = _
    exact wrB_len vs as ρ
  | .al i :: vs, a :: as, ρ => by
    cases a with
    | own r o =>
      show (wrB vs as (setO ρ i o)).length = _
      rw [wrB_len, setO_len]
    | un => exact wrB_len vs as ρ
    | d _ => exact wrB_len vs as ρ
    | ro _ => exact wrB_len vs as ρ
theorem wrB_st {j : Nat} {r : Bool} : ∀ (vs : List Vl) (as : List SV) (ρ : Rho), (∃ o, ρ[j]? = some (.own r o)) ↔ (∃ o, (wrB vs as ρ)[j]? = some (.own r o))
  | [], _, _ => by simp [wrB]
  | .p _ :: vs, [], _ => by simp [wrB]
  | .al _ :: vs, [], _ => by simp [wrB]
  | .p _ :: vs, a :: as, ρ => wrB_st vs as ρ
  | .al i :: vs, a :: as, ρ => by
    cases a with
    | own r' o => exact setO_st.trans (wrB_st vs as (setO ρ i o))
    | un => exact wrB_st vs as ρ
    | d _ => exact wrB_st vs as ρ
    | ro _ => exact wrB_st vs as ρ
theorem wrB_pure {j : Nat} {x : SV} (hx : ∀ r o', x ≠ .own r o') : ∀ (vs : List Vl) (as : List SV) (ρ : Rho), (wrB vs as ρ)[j]? = some x → ρ[j]? = some x
  | [], _, _, h => by simpa [wrB] using h
  | .p _ :: vs, [], _, h => by simpa [wrB] using h
  | .al _ :: vs, [], _, h => by simpa [wrB] using h
  | .p _ :: vs, a :: as, ρ, h => wrB_pure hx vs as ρ h
  | .al i :: vs, a :: as, ρ, h => by
    cases a with
    | own r' o => exact setO_pure hx (wrB_pure hx vs as (setO ρ i o) h)
    | un => exact wrB_pure hx vs as ρ h
    | d _ => exact wrB_pure hx vs as ρ h
    | ro _ => exact wrB_pure hx vs as ρ h
theorem wrB_ne {j : Nat} : ∀ (vs : List Vl) (as : List SV) (ρ : Rho), j ∉ als vs → (wrB vs as ρ)[j]? = ρ[j]?
  | [], _, _, h => by simp [wrB]
  | .p _ :: vs, [], _, h => by simp [wrB]
  | .al _ :: vs, [], _, h => by simp [wrB]
  | .p _ :: vs, a :: as, ρ, h => wrB_ne vs as ρ h
  | .al i :: vs, a :: as, ρ, h => by
    have h1 : i ≠ j := fun e => h (by subst e; exact List.mem_cons_self)
    have h2 : j ∉ als vs := fun e => h (List.mem_cons_of_mem _ e)
    cases a with
    | own r' o =>
      show (wrB vs as (setO ρ i o))[j]? = _
      rw [wrB_ne vs as _ h2, setO_ne h1]
    | un => exact wrB_ne vs as ρ h2
    | d _ => exact wrB_ne vs as ρ h2
    | ro _ => exact wrB_ne vs as ρ h2
theorem wrB_at {j : Nat} {r r1 : Bool} {o o' : OV} : ∀ (vs : List Vl) (as : List SV) (ρ : Rho) (i : Nat), (als vs).Nodup → vs[i]? = some (.al j) → as[i]? = some (.own r1 o') → ρ[j]? = some (.own r o) → (wrB vs as ρ)[j]? = some (.own r o')
  | [], _, _, _, _, h, _, _ => by simp at h
  | _ :: _, [], _, _, _, _, h, _ => by simp at h
  | .p _ :: vs, a :: as, ρ, 0, _, h, _, _ => by simp at h
  | .p _ :: vs, a :: as, ρ, i + 1, hn, h, h1, h2 => wrB_at vs as ρ i hn (by simpa using h) (by simpa using h1) h2
  | .al l :: vs, a :: as, ρ, 0, hn, h, h1, h2 => by
    simp only [List.getElem?_cons_zero, Option.some.injEq, Vl.al.injEq] at h h1
    subst h h1
    have hn' := (List.nodup_cons.mp (show (l :: als vs).Nodup from hn)).1
    show (wrB vs as (setO ρ l o'))[l]? = _
    rw [wrB_ne vs as _ hn', setO_at h2]
  | .al l :: vs, a :: as, ρ, i + 1, hn, h, h1, h2 => by
    obtain ⟨hn1, hn2⟩ := List.nodup_cons.mp (show (l :: als vs).Nodup from hn)
    have hm : j ∈ als vs := by
      have mem : ∀ (vs : List Vl) (i : Nat), vs[i]? = some (.al j) → j ∈ als vs := by
        intro vs
        induction vs with
        | nil => intro i h; simp at h
        | cons v vs ih =>
          intro i h
          cases i with
          | zero =>
            simp at h
            subst h
            exact List.mem_cons_self
          | succ i =>
            have := ih i (by simpa using h)
            cases v with
            | p _ => exact this
            | al _ => exact List.mem_cons_of_mem _ this
      exact mem vs i (by simpa using h)
    have hne : l ≠ j := fun e => hn1 (e ▸ hm)
    cases a with
    | own r' o2 =>
      show (wrB vs as (setO ρ l o2))[j]? = _
      exact wrB_at vs as _ i hn2 (by simpa using h) (by simpa using h1) (by rw [setO_ne hne]; exact h2)
    | un => exact wrB_at vs as ρ i hn2 (by simpa using h) (by simpa using h1) h2
    | d _ => exact wrB_at vs as ρ i hn2 (by simpa using h) (by simpa using h1) h2
    | ro _ => exact wrB_at vs as ρ i hn2 (by simpa using h) (by simpa using h1) h2
theorem als_mem {j : Nat} : ∀ {vs : List Vl}, j ∈ als vs → ∃ i : Nat, vs[i]? = some (.al j)
  | [], h => by cases h
  | .p _ :: vs, h => by
    obtain ⟨i, q⟩ := als_mem (vs := vs) h
    exact ⟨i + 1, by simpa using q⟩
  | .al l :: vs, h => by
    rcases List.mem_cons.mp (show j ∈ l :: als vs from h) with e | h
    · exact ⟨0, by simp [e]⟩
    · obtain ⟨i, q⟩ := als_mem (vs := vs) h
      exact ⟨i + 1, by simpa using q⟩
theorem mem_als {j : Nat} : ∀ {vs : List Vl} {i : Nat}, vs[i]? = some (.al j) → j ∈ als vs
  | [], _, h => by simp at h
  | .p _ :: vs, 0, h => by simp at h
  | .p _ :: vs, i + 1, h => mem_als (vs := vs) (i := i) (by simpa using h)
  | .al l :: vs, 0, h => by
    simp at h
    subst h
    exact List.mem_cons_self
  | .al l :: vs, i + 1, h => List.mem_cons_of_mem _ (mem_als (vs := vs) (i := i) (by simpa using h))
theorem als_inj {j : Nat} : ∀ {vs : List Vl} {i l : Nat}, (als vs).Nodup → vs[i]? = some (.al j) → vs[l]? = some (.al j) → i = l
  | [], _, _, _, h, _ => by simp at h
  | .p _ :: vs, 0, _, _, h, _ => by simp at h
  | .p _ :: vs, _ + 1, 0, _, _, h => by simp at h
  | .p _ :: vs, i + 1, l + 1, hn, h, h' => congrArg (· + 1) (als_inj (vs := vs) hn (by simpa using h) (by simpa using h'))
  | .al m :: vs, 0, 0, _, _, _ => rfl
  | .al m :: vs, 0, l + 1, hn, h, h' => by
    simp at h
    subst h
    exact absurd (mem_als (vs := vs) (i := l) (by simpa using h')) (List.nodup_cons.mp (show (m :: als vs).Nodup from hn)).1
  | .al m :: vs, i + 1, 0, hn, h, h' => by
    simp at h'
    subst h'
    exact absurd (mem_als (vs := vs) (i := i) (by simpa using h)) (List.nodup_cons.mp (show (m :: als vs).Nodup from hn)).1
  | .al m :: vs, i + 1, l + 1, hn, h, h' => congrArg (· + 1) (als_inj (vs := vs) (List.nodup_cons.mp (show (m :: als vs).Nodup from hn)).2 (by simpa using h) (by simpa using h'))
theorem argS_spec {ρ : Rho} : ∀ {vs : List Vl} {as : List SV}, argS ρ vs = some as → as.length = vs.length ∧ ∀ (i : Nat),
    (∀ d, vs[i]? = some (.p d) → as[i]? = some (.d d)) ∧ (∀ j, vs[i]? = some (.al j) → ∃ r o, ρ[j]? = some (.own r o) ∧ as[i]? = some (.own true o))
  | [], _, h => by
    cases h
    exact ⟨rfl, fun i => ⟨fun d h => by simp at h, fun j h => by simp at h⟩⟩
  | .p d :: vs, as, h => by
    unfold argS at h
    cases q : argS ρ vs with
    | none => rw [q] at h; cases h
    | some as1 =>
      rw [q] at h
      cases h
      obtain ⟨h1, h2⟩ := argS_spec q
      refine ⟨by simp [h1], fun i => ?_⟩
      cases i with
      | zero => exact ⟨fun d h => by simp at h; subst h; rfl, fun j h => by simp at h⟩
      | succ i => exact ⟨fun d h => by simpa using (h2 i).1 d (by simpa using h), fun j h => by simpa using (h2 i).2 j (by simpa using h)⟩
  | .al l :: vs, as, h => by
    unfold argS at h
    split at h <;> first | contradiction | skip
    rename_i r o hl
    cases q : argS ρ vs with
    | none => rw [q] at h; cases h
    | some as1 =>
      rw [q] at h
      cases h
      obtain ⟨h1, h2⟩ := argS_spec q
      refine ⟨by simp [h1], fun i => ?_⟩
      cases i with
      | zero => exact ⟨fun d h => by simp at h, fun j h => by simp at h; subst h; exact ⟨r, o, hl, rfl⟩⟩
      | succ i => exact ⟨fun d h => by simpa using (h2 i).1 d (by simpa using h), fun j h => by simpa using (h2 i).2 j (by simpa using h)⟩
section
variable {K : PySem.W.Frag} {ρ : Rho} {σ : L2.St} {Hf H : Hp}
theorem RVs.get : ∀ {vs : List V} {xs : List Vl} {i : Nat} {v : V}, RVs K ρ σ Hf vs xs → vs[i]? = some v → ∃ x, xs[i]? = some x ∧ RV K ρ σ Hf v x
  | _, _, _, _, .nil, h => by simp at h
  | _, _, 0, v, .cons a _, h => by simp at h; subst h; exact ⟨_, rfl, a⟩
  | _, _, i + 1, v, .cons _ r, h => by
    obtain ⟨x, h1, h2⟩ := RVs.get (i := i) r (by simpa using h)
    exact ⟨x, by simpa using h1, h2⟩
theorem RVs.getX : ∀ {vs : List V} {xs : List Vl} {i : Nat} {x : Vl}, RVs K ρ σ Hf vs xs → xs[i]? = some x → ∃ v, vs[i]? = some v ∧ RV K ρ σ Hf v x
  | _, _, _, _, .nil, h => by simp at h
  | _, _, 0, v, .cons a _, h => by simp at h; subst h; exact ⟨_, rfl, a⟩
  | _, _, i + 1, v, .cons _ r, h => by
    obtain ⟨x, h1, h2⟩ := RVs.getX (i := i) r (by simpa using h)
    exact ⟨x, by simpa using h1, h2⟩
theorem args_of (s : Sta K ρ σ Hf H) {vs : List V} {xs : List Vl} {as : List SV} (r : RVs K ρ σ Hf vs xs) (h : argS ρ xs = some as) (hn : (als xs).Nodup) : Args K Hf H vs as := by
  obtain ⟨hl, hs⟩ := argS_spec h
  have inv : ∀ (i : Nat) (y : SV), as[i]? = some y → (∃ d, xs[i]? = some (.p d) ∧ y = .d d) ∨ ∃ j r o, xs[i]? = some (.al j) ∧ ρ[j]? = some (.own r o) ∧ y = .own true o := fun i y hy => by
    have hi : i < xs.length := by rw [← hl]; exact (List.getElem?_eq_some_iff.mp hy).1
    cases q : xs[i] with
    | p d =>
      have q' : xs[i]? = some (.p d) := by rw [List.getElem?_eq_getElem hi, q]
      have := (hs i).1 d q'
      rw [hy] at this
      cases this
      exact .inl ⟨d, q', rfl⟩
    | al j =>
      have q' : xs[i]? = some (.al j) := by rw [List.getElem?_eq_getElem hi, q]
      obtain ⟨r, o, h1, h2⟩ := (hs i).2 j q'
      rw [hy] at h2
      cases h2
      exact .inr ⟨j, r, o, q', h1, rfl⟩
  refine ⟨s.ex, r.length.trans hl.symm, fun i x hx => ?_, fun i b o ho => ?_, fun i j b o b' o' a h1 h2 h3 h4 => ?_, fun i hu => ?_, fun i zs hz => by
    rcases inv i _ hz with ⟨d, _, z⟩ | ⟨p, r1, o1, q1, q2, q3⟩
    · cases z
    · cases q3⟩
  · rcases inv i _ hx with ⟨d, h1, h2⟩ | ⟨j, r, o, h1, h2, h3⟩
    · cases h2
      exact r.getX h1
    · cases h3
  · rcases inv i _ ho with ⟨d, h1, h2⟩ | ⟨j, r', o', h1, h2, h3⟩
    · cases h2
    · cases h3
      refine ⟨rfl, ?_⟩
      obtain ⟨v, h4, h5, _⟩ := r.getX h1
      obtain ⟨a, h6, h7, h8⟩ := s.own _ _ _ h2
      rw [h5] at h6
      cases h6
      exact ⟨a, h4, h7, h8⟩
  · rcases inv i _ h1 with ⟨d, _, z⟩ | ⟨p, r1, o1, q1, q2, q3⟩
    · cases z
    rcases inv j _ h2 with ⟨d, _, z⟩ | ⟨p', r2, o2, q4, q5, q6⟩
    · cases z
    obtain ⟨v, e1, e2, _⟩ := r.getX q1
    obtain ⟨v', e3, e4, _⟩ := r.getX q4
    rw [h3] at e1
    rw [h4] at e3
    cases e1
    cases e3
    have e := s.dis p p' _ _ _ _ a q2 q5 e2 e4
    subst e
    exact als_inj hn q1 q4
  · rcases inv i _ hu with ⟨d, _, z⟩ | ⟨p, r1, o1, q1, q2, q3⟩
    · cases z
    · cases q3
theorem step_back (s : Sta K ρ σ Hf H) {vs : List V} {xs : List Vl} {as as' : List SV} {Hf' H' : Hp} (r : RVs K ρ σ Hf vs xs) (h : argS ρ xs = some as) (hn : (als xs).Nodup) (b : Back K Hf H vs as as' Hf' H') :
    Step K ρ σ Hf H (wrB xs as' ρ) Hf' H' := by
  obtain ⟨hl, hs⟩ := argS_spec h
  refine ⟨⟨by rw [wrB_len]; exact s.len, b.exh, fun i x hx => ?_, fun j r' o hj => ?_, fun i j r1 o1 r2 o2 a h1 h2 h3 h4 => ?_, fun i zs hz => (s.ro i zs (wrB_pure (fun _ _ z => by cases z) xs as' ρ hz)).imp fun v q => ⟨q.1, q.2.mono b.ex⟩⟩, b.ex, b.fr, fun a o ha hno => b.fm a o ha fun i r' ov hi hv => ?_, fun i r' => wrB_st xs as' ρ⟩
  · obtain ⟨v, h1, h2⟩ := s.pure i x (wrB_pure (fun _ _ z => by cases z) xs as' ρ hx)
    exact ⟨v, h1, h2.mono b.ex⟩
  · by_cases hm : j ∈ als xs
    · obtain ⟨i, hi⟩ := als_mem hm
      obtain ⟨r0, o0, h1, h2⟩ := (hs i).2 j hi
      obtain ⟨o', h3, h4⟩ := b.own i _ _ h2
      have e := wrB_at xs as' ρ i hn hi h3 h1
      rw [hj] at e
      cases e
      obtain ⟨a, h5, h6, h7⟩ := s.own _ _ _ h1
      obtain ⟨v, h8, h9, _⟩ := r.getX hi
      rw [h5] at h9
      cases h9
      obtain ⟨g1, g2⟩ := h4 a h8
      exact ⟨a, h5, g1, g2⟩
    · rw [wrB_ne xs as' ρ hm] at hj
      obtain ⟨a, h5, h6, h7⟩ := s.own _ _ _ hj
      obtain ⟨u, hu⟩ := h7.some
      refine ⟨a, h5, b.fr a (fun z => by rw [hu] at z; cases z) h6, h7.mono b.ex fun w hw => b.fm a w hw fun i r1 ov hi hv => ?_⟩
      -- an argument at the same address
      have hil : i < xs.length := by rw [← hl]; exact (List.getElem?_eq_some_iff.mp hi).1
      cases q : xs[i] with
      | p d =>
        have q' : xs[i]? = some (.p d) := by rw [List.getElem?_eq_getElem hil, q]
        rw [(hs i).1 d q'] at hi
        cases hi
      | al p =>
        have q' : xs[i]? = some (.al p) := by rw [List.getElem?_eq_getElem hil, q]
        obtain ⟨r0, o0, h1, h2⟩ := (hs i).2 p q'
        obtain ⟨v, h8, h9, _⟩ := r.getX q'
        rw [hv] at h8
        cases h8
        have e := s.dis j p _ _ _ _ a hj h1 h5 h9
        subst e
        exact hm (mem_als q')
  · obtain ⟨o3, h5⟩ := (wrB_st xs as' ρ).mpr ⟨o1, h1⟩
    obtain ⟨o4, h6⟩ := (wrB_st xs as' ρ).mpr ⟨o2, h2⟩
    exact s.dis i j _ _ _ _ a h5 h6 h3 h4
  · have hil : i < xs.length := by rw [← hl]; exact (List.getElem?_eq_some_iff.mp hi).1
    cases q : xs[i] with
    | p d =>
      have q' : xs[i]? = some (.p d) := by rw [List.getElem?_eq_getElem hil, q]
      rw [(hs i).1 d q'] at hi
      cases hi
    | al p =>
      have q' : xs[i]? = some (.al p) := by rw [List.getElem?_eq_getElem hil, q]
      obtain ⟨r0, o0, h1, h2⟩ := (hs i).2 p q'
      obtain ⟨v, h8, h9, _⟩ := r.getX q'
      rw [hv] at h8
      cases h8
      exact hno p _ _ h1 h9
theorem sem_call {t1 : TA} {f1 : Rho → Option (List Vl × Rho)} {k : Nat} {g : List SV → Option (D × List SV)} (hk : ∀ as r, g as = some r → as.length = k) (s1 : SemA K t1 f1) : SemE K (tCall (spD K k g) [] E0 t1) (fun ρ => match f1 ρ with
    | some (vs, ρ1) => (match argS ρ1 vs with
      | some as => if (als vs).Nodup then (match g as with
        | some (d, as') => some (.p d, wrB vs as' ρ1)
        | none => none) else none
      | none => none)
    | none => none) := by
  intro ρ σ Hf H Q x ρ' s e kq
  dsimp only at e
  split at e <;> first | contradiction | skip
  rename_i xs ρ1 h1
  split at e <;> first | contradiction | skip
  rename_i as h2
  split at e <;> first | contradiction | skip
  rename_i hn
  split at e <;> first | contradiction | skip
  rename_i d as' h3
  cases e
  refine s1 s h1 fun vs Hf1 H1 st r => ?_
  have ha := args_of st.st r h2 hn
  refine ⟨?_, as, Hf1, d, as', ?_, h3, fun v Hf2 H2 b rd => ?_⟩
  · rw [List.append_nil, ha.len]
    exact hk as _ h3
  · rw [List.append_nil]
    exact ha
  · rw [List.append_nil] at b
    exact kq v _ _ (st.trans s (step_back st.st r h2 hn b)) rd
theorem sem_scl {i : Nat} {tl th : TO} {fl fh : Rho → Option (Option Int × Rho)} (sl : SemO K tl fl) (sh : SemO K th fh) : SemE K (tSl (rSlc K) (tVar i) tl th) (fun ρ => match ρ[i]? with
    | some (.ro xs) => (match fl ρ with
      | some (l, ρ2) => (match fh ρ2 with
        | some (h, ρ3) => some (.p (.list (cutD xs l h)), ρ3)
        | none => none)
      | none => none)
    | _ => none) := by
  intro ρ σ Hf H Q x ρ' s e k
  dsimp only at e
  split at e <;> first | contradiction | skip
  rename_i xs h1
  split at e <;> first | contradiction | skip
  rename_i l ρ2 h2
  split at e <;> first | contradiction | skip
  rename_i h ρ3 h3
  cases e
  obtain ⟨v, g1, a, vs, rfl, g2, g3⟩ := s.ro i xs h1
  refine ⟨_, g1, sl s h2 fun Hf1 H1 st1 => sh st1.st h3 fun Hf2 H2 st2 => ?_⟩
  have e2 := st1.ex.trans st2.ex
  refine .inl ⟨a, vs, rfl, (e2.trans st2.st.ex).lst g2, fun p hp => ?_⟩
  have n := New.at_ (o := .lst (cutV vs l h)) st2.st.ex hp
  exact k _ _ _ ((st1.trans s st2).trans s (n.step st2.st)) (.lst upd_same ((cut_rd (g3.mono e2) l h).mono n.exf))
theorem sem_callR {i : Nat} {t1 : TA} {f1 : Rho → Option (List Vl × Rho)} {k : Nat} {g : List SV → Option (D × List SV)} (hk : ∀ as r, g as = some r → as.length = k) (s1 : SemA K t1 f1) : SemE K (tCall (spD K k g) [] E0 (tCons (tVar i) t1)) (fun ρ => match ρ[i]? with
    | some (.ro xs) => (match f1 ρ with
      | some (vs, ρ1) => (match argS ρ1 vs with
        | some as => if (als vs).Nodup then (match g (.ro xs :: as) with
          | some (d, _ :: as') => some (.p d, wrB vs as' ρ1)
          | _ => none) else none
        | none => none)
      | none => none)
    | _ => none) := by
  intro ρ σ Hf H Q x ρ' s e kq
  dsimp only at e
  split at e <;> first | contradiction | skip
  rename_i zs h0
  split at e <;> first | contradiction | skip
  rename_i xs ρ1 h1
  split at e <;> first | contradiction | skip
  rename_i as h2
  split at e <;> first | contradiction | skip
  rename_i hn
  split at e <;> first | contradiction | skip
  rename_i d y as' h3
  cases e
  obtain ⟨v, g1, g2⟩ := s.ro i zs h0
  refine ⟨_, g1, s1 s h1 fun vs Hf1 H1 st r => ?_⟩
  have ha := args_of st.st r h2 hn
  have ha2 : Args K Hf1 H1 (v :: vs) (.ro zs :: as) := by
    refine ⟨ha.ex, congrArg (· + 1) ha.len, fun j x hx => ?_, fun j b o ho => ?_, fun j l b o b' o' a h1 h2 h3 h4 => ?_, fun j hu => ?_, fun j ws hw => ?_⟩
    · cases j with
      | zero => cases hx
      | succ j => exact ha.pure j x hx
    · cases j with
      | zero => cases ho
      | succ j => exact ha.own j b o ho
    · cases j with
      | zero => cases h1
      | succ j =>
        cases l with
        | zero => cases h2
        | succ l => exact congrArg (· + 1) (ha.dis j l b o b' o' a h1 h2 h3 h4)
    · cases j with
      | zero => cases hu
      | succ j => exact ha.noun j hu
    · cases j with
      | zero =>
        cases hw
        exact ⟨v, rfl, g2.mono st.ex⟩
      | succ j => exact ha.ro j ws hw
  refine ⟨?_, .ro zs :: as, Hf1, d, y :: as', ?_, h3, fun u Hf2 H2 b rd => ?_⟩
  · rw [List.append_nil, ha2.len]
    exact hk _ _ h3
  · rw [List.append_nil]
    exact ha2
  · rw [List.append_nil] at b
    have b2 : Back K Hf1 H1 vs as as' Hf2 H2 := ⟨b.ex, b.exh, b.fr, fun a o h q => b.fm a o h fun j r ov h4 h5 => by
      cases j with
      | zero => cases h4
      | succ j => exact q j r ov h4 h5, Nat.succ.inj b.len, fun j r o h => b.own (j + 1) r o h⟩
    exact kq u _ _ (st.trans s (step_back st.st r h2 hn b2)) rd
end
end Dn
set_option Elab.async false
set_option linter.all false
set_option maxRecDepth 100000
set_option maxHeartbeats 4000000
/-! Dn: enumerate of a list or a tuple, as a walk. -/
namespace Dn
open PySem PySem.Spec PyProof.Rows L2 PySem.AutoSeq1
/-- what enumerate(v) lays behind v's own iterator, which lies at n -/
def numO (n : Addr) : Obj := { cls := .type "enumerate", data := .fields #[.none, .bool false, .ref n, rawInt 0, .none, .none] }
theorem new_num {v : Value} {o : Obj} {H : Heap → Prop} (B : Begins v o H) : Meets (Builtin.«enumerate.__new__» ⟨[.type "enumerate", v], []⟩) fun _ R s =>
    H s.heap ∧ R (.ok (.ret (.ref (s.heap.push o).objs.size))) { s with heap := (s.heap.push o).push (numO s.heap.objs.size) } := by
  refine .of_wp fun prog w A R s hs => ?_
  obtain ⟨h, gens, drawn, toks, os⟩ := s
  have sub := sub_enumerate
  have begin_ : ∀ {A' : Around} {E Q : Value → Shared → Prop}, Q (.ref h.objs.size) ⟨h.push o, gens, drawn, toks, os⟩ → wpAny (model prog w) A' (pyIter v) Q E ⟨h, gens, drawn, toks, os⟩ := fun q => B.iter prog w _ _ _ _ hs.1 q
  wp_walk using begin_
  refine wpAny_stack_any fun st => wpAny_pure ?_
  split
  · next c _ _ _ _ _ =>
    cases (c == Value.type "enumerate") <;> (wp_walk using begin_; exact ⟨_, rfl, hs.2⟩)
  · wp_walk using begin_
    exact ⟨_, rfl, hs.2⟩
theorem call_num {prog : Program} {w : World} {A : Around} {E Q : Value → Shared → Prop} {s : Shared} {v : Value} {o : Obj} {H : Heap → Prop} (B : Begins v o H) (hH : H s.heap)
    (go : ∀ h', IsEnum h' (s.heap.objs.size + 1) s.heap.objs.size 0 .none → h'.get? s.heap.objs.size = some o → (∀ b q, s.heap.get? b = some q → h'.get? b = some q) → Q (.ref (s.heap.objs.size + 1)) { s with heap := h' }) :
    wpAny (model prog w) A (call (.type "enumerate") [v]) Q E s := by
  refine callType_new F.called_enumerate (by decide) (F.typeCall_enumerate_1 _) (F.newCall_enumerate_1 _) (fun obj => F.args_object_init_2 obj _) F.entry_enumerate_new (new_num B) ⟨hH, ?_⟩
  have size : (s.heap.push o).objs.size = s.heap.objs.size + 1 := Heap.size_push ..
  have last : ((s.heap.push o).push (numO s.heap.objs.size)).get? (s.heap.objs.size + 1) = some (numO s.heap.objs.size) := by
    have := Heap.get?_push_size (s.heap.push o) (o := numO s.heap.objs.size) rfl
    rwa [size] at this
  have up : ∀ b q, (s.heap.push o).get? b = some q → ((s.heap.push o).push (numO s.heap.objs.size)).get? b = some q := fun b q g => Heap.get?_push_of_some _ g
  rw [size]
  exact ⟨⟨_, last, rfl⟩, go _ last (up _ _ (Heap.get?_push_size _ B.free)) fun b q g => up b q (Heap.get?_push_of_some _ g)⟩
/-- the items of the tuple at t, each behind its number in a new pair -/
def NumT (K : PySem.W.Frag) (t : Addr) : L2.It where
  go n H := ∃ (vs : List V) (v : V), SqT K H t vs ∧ vs[n]? = some v
  yld n H y H' := ∃ p v, y = .ref p ∧ H p = none ∧ H' = upd H p (.tup [.int (n : Nat), v]) ∧ ∀ vs, SqT K H t vs → vs[n]? = some v
  stop n H := ∃ vs : List V, SqT K H t vs ∧ vs.length = n
/-- the cells of such a walk, n items behind it -/
def NumAt (t e k : Addr) (n : Nat) (h : Heap) : Prop := e ≠ k ∧ h.IsTupleIter k t n ∧ ∃ old, IsEnum h e k ((n : Nat) : Int) old
theorem of_two {e k b : Addr} (h : b ∈ [e, k]) {p : Addr → Prop} (he : p e) (hk : p k) : p b := by
  rcases List.mem_cons.mp h with z | z
  · exact z ▸ he
  · exact List.mem_singleton.mp z ▸ hk
theorem turn_num {P : Program} {w : World} {K : PySem.W.Frag} {elts : List Expr} {kk : Nat} {tpos : Pos} {t e k : Addr} (tk : t ≠ k) (et : e ≠ t) : Turn P w K (.Tuple elts kk tpos) (NumT K t) [e, k] e (NumAt t e k) := by
  refine { mem := List.mem_cons_self, obj := fun n h st b hb => ?_, keep := fun n h h' st kp => ?_, item := ?_, done := ?_, self := fun A n s Q E st h => ?_ }
  · obtain ⟨_, ⟨o, g, _, dt⟩, old, he⟩ := st
    refine of_two hb (p := fun b => ∃ o, h.get? b = some o ∧ ∀ v, o.data ≠ .cell v) ⟨_, he, fun v q => nomatch q⟩ ⟨o, g, fun v q => ?_⟩
    rw [dt] at q
    cases q
  · obtain ⟨ne, ki, old, he⟩ := st
    exact ⟨ne, ki.at fun o g => kp k (by simp) o g, old, kp e List.mem_cons_self _ he⟩
  · intro X hP hw hK hc n pins s σ H E I fp st ⟨vs, v, hS, hv⟩
    subst hP hw hK
    obtain ⟨ne, ki, old, he⟩ := st
    obtain ⟨us, rel, tup, _⟩ := I.tuple hS
    obtain ⟨u, hu, ru⟩ := rel.get hv
    have below : e < s.heap.objs.size ∧ k < s.heap.objs.size := ⟨Heap.lt_size he, let ⟨_, g, _⟩ := ki; Heap.lt_size g⟩
    have isT : s.heap.IsTuple t us.toArray := tup
    have D := Draws.tuple (prog := X.prog) (w := X.w) (A := X.A.in1) (I.ok.hd hc) k t tk us.toArray
    have lt : n < us.toArray.size := (List.getElem?_eq_some_iff.mp hu).1
    refine wpAny_pyNext_enum_itemD D he ⟨ki, isT⟩ lt ne (by simp [ne, et]) fun y h1 tk1 hy e1 st1 g1 z1 old1 => ?_
    have yu : y = u := Option.some.inj (hy.symm.trans (by simpa using hu))
    subst yu
    refine ⟨_, rfl, wpAny_letOwnedTupleGo_enum (s := { s with heap := h1, toks := tk1 + 1 }) e1 fun h2 e2 b2 => ?_⟩
    have pair : h2.get? s.heap.objs.size = some { cls := .type "tuple", data := .seq #[.int n tk1, y] } := (b2.2 _ (Nat.ne_of_gt below.1)).trans g1
    have okp : ObjOk X.prog X.w (upd H s.heap.objs.size (.tup [.int (n : Nat), v])) h2 s.heap.objs.size (.tup [.int (n : Nat), v]) := ⟨show 2 ≤ sizeLine by decide, [.int n tk1, y], .cons ⟨_, rfl⟩ (.cons ru .nil), _, pair, rfl, _, rfl⟩
    have others : ∀ b o, b ∉ [e, k] → b ≠ s.heap.objs.size → s.heap.get? b = some o → h2.get? b = some o := fun b o hb _ q =>
      (b2.2 b fun z => hb (by simp [z])).trans (old1 b o (fun z => hb (by simp [z])) (fun z => hb (by simp [z])) q)
    have I2 : Inv X pins σ (upd H s.heap.objs.size (.tup [.int (n : Nat), v])) { s with heap := h2, toks := tk1 + 1 } :=
      I.turnedNew (ch := [e, k]) (fun b o hb q => others b o hb (Nat.ne_of_lt (Heap.lt_size q)) q) fp (Nat.le_refl _) okp
    refine ⟨.ref s.heap.objs.size, _, I2, rfl, ⟨_, v, rfl, I.hok.fresh (Nat.le_refl _), rfl, fun ws hw => I.tuple_inj hw hS ▸ hv⟩, ⟨ne, st1.1.at fun o q => (b2.2 k (Ne.symm ne)).trans q, y, ?_⟩, fun b hb => ?_⟩
    · rw [Int.natCast_succ]
      exact e2
    · have b' : b < s.heap.objs.size := of_two hb (p := fun b => b < s.heap.objs.size) below.1 below.2
      rw [upd_ne (Nat.ne_of_lt b')]
      exact (fp b hb).1
  · intro X hP hw hK hc n pins s σ H E I fp st ⟨vs, hS, hn⟩
    subst hP hw hK
    obtain ⟨ne, ki, old, he⟩ := st
    obtain ⟨us, rel, tup, _⟩ := I.tuple hS
    have en : n = us.toArray.size := hn.symm.trans rel.length
    have isT : s.heap.IsTuple t us.toArray := tup
    obtain ⟨w0, w1, _, w3, w4, w5⟩ := fp k (by simp)
    rw [en] at he ki
    exact wpAny_pyNext_enum_endD (Draws.tuple (prog := X.prog) (w := X.w) (A := X.A.in1) (I.ok.hd hc) k t tk us.toArray) he ⟨ki, isT⟩ fun h1 kept => ⟨rfl, I.turned (t' := s.toks) (fun b o hb g => kept b o hb g) w0 w1 w3 w4 w5⟩
  · obtain ⟨_, _, old, he⟩ := st
    exact wpAny_pyIter_enum he h
def iNum (K : PySem.W.Frag) (ta : TA) : TI := fun σ H R => ta σ H fun vs H1 => ∃ t xs, vs = [.ref t] ∧ ((SqL K H1 t xs ∧ R (Ite K t) H1) ∨ (SqT K H1 t xs ∧ R (NumT K t) H1))
theorem pi_num {X : Cx} {e : Expr} {ta : TA} {p pos tpos : Pos} {elts : List Expr} {kk : Nat} (hg : Gl X "enumerate") (hm : X.mg "enumerate" = none) (ha : PA X [e] ta) (hs : starEach [e] X.env = [(false, eval e X.env)] := by rfl) :
    PI X (.Tuple elts kk tpos) (.Call (.Name "enumerate" p) [e] [] pos) (iNum X.K ta) := by
  constructor
  intro pins s σ H R I h
  refine Call_ (ld_blt I hg hm boot_enumerate (PyProof.Rows.callWith_type1 (thn (ha.run pos pins s σ H _ I h) fun us s1 ⟨vs, H1, I1, r1, t, xs, ex, hq⟩ => ?_) hs rfl))
  subst ex
  obtain _ | ⟨r, rr⟩ := r1
  cases rr
  cases r
  have fresh : ∀ b ∈ [s1.heap.objs.size + 1, s1.heap.objs.size], FpOk X pins H1 b := fun b hb => by
    have le : s1.heap.objs.size ≤ b := of_two hb (p := fun b => s1.heap.objs.size ≤ b) (Nat.le_succ _) (Nat.le_refl _)
    exact I1.fpOk le (I1.hok.fresh le)
  have ne : s1.heap.objs.size + 1 ≠ s1.heap.objs.size := Nat.succ_ne_self _
  rcases hq with ⟨hq, q⟩ | ⟨hq, q⟩
  · obtain ⟨is, _, pl, _⟩ := I1.list hq
    refine call_num (begins_list t is.toArray) pl.isList fun h' he hk keep => wpAny_pyIter_enum he ?_
    exact ⟨_, _, _, _, H1, rfl, I1.kept (t' := s1.toks) keep, turn_enum t (s1.heap.objs.size + 1) s1.heap.objs.size, ⟨⟨.none, he⟩, ⟨_, hk, rfl, rfl⟩, ne⟩, fresh, q⟩
  · obtain ⟨is, _, pl, _⟩ := I1.tuple hq
    have lt : t < s1.heap.objs.size := pl.lt
    refine call_num (begins_tuple t is.toArray) (show s1.heap.IsTuple t is.toArray from pl) fun h' he hk keep => wpAny_pyIter_enum he ?_
    exact ⟨_, _, _, _, H1, rfl, I1.kept (t' := s1.toks) keep, turn_num (Nat.ne_of_lt lt) (Nat.ne_of_gt (Nat.lt_succ_of_lt lt)), ⟨ne, ⟨_, hk, rfl, rfl⟩, .none, he⟩, fresh, q⟩
theorem walk_num {K : PySem.W.Frag} {t : Addr} {xs : List V} : Walk (NumT K t) xs.length (fun H => SqT K H t xs) (YPair (fun i => some (.int (i : Nat))) (fun i => xs[i]?)) := by
  refine ⟨fun n _ hn q => ⟨xs, _, q, List.getElem?_eq_getElem hn⟩, fun _ q => ⟨xs, q, rfl⟩, fun n H v H' _ q y => ?_⟩
  obtain ⟨p, x, e1, e2, e3, e4⟩ := y
  exact ⟨p, .int (n : Nat), x, e1, e2, e3, rfl, e4 xs q⟩
end Dn
set_option Elab.async false
set_option linter.all false
set_option maxRecDepth 100000
set_option maxHeartbeats 4000000
/-! Dn, part C9: walks. -/
namespace Dn
open PySem L2 RZ RT
section
variable {K : PySem.W.Frag} {ta tb tc : TE} {fa fb fc : Rho → Option (Vl × Rho)} {ρ ρ1 ρ2 : Rho} {σ : L2.St} {Hf H Hf' H' : Hp}
theorem PI.or {X : Cx} {tg e : Expr} {w1 w2 : TI} (h1 : PI X tg e w1) (h2 : PI X tg e w2) : PI X tg e (fun σ H R => w1 σ H R ∨ w2 σ H R) :=
  ⟨fun pins s σ H R I h => h.elim (h1.run pins s σ H R I) (h2.run pins s σ H R I)⟩
/-- the items as they stand -/
theorem walkD_at {J : L2.It} {vs : List V} {ds : List D} {G : Hp → Prop} (w : Walk J vs.length G (YAt vs)) (hG : ∀ H, Ex Hf H → G H) (r : RDs K Hf vs ds) : WalkD K J ds Hf := by
  unfold WalkD
  rw [← r.length]
  refine w.mono hG fun i H x H' hi hg ⟨e1, e2⟩ => ?_
  subst e1
  obtain ⟨d, h1, h2⟩ := r.getV e2
  exact ⟨d, h1, fun Hc a b => ⟨Hc, New.refl b, h2.mono a⟩⟩
theorem semI_sq (sa : SemE K ta fa) : SemI K (fun σ H R => iList K ta σ H R ∨ iTup K ta σ H R) (fun ρ => match fa ρ with
    | some (.p x, ρ1) => (match seqD x with
      | some xs => some (xs, ρ1)
      | none => none)
    | _ => none) := by
  intro ρ σ Hf H R x ρ' s e k
  dsimp only at e
  split at e <;> first | contradiction | skip
  rename_i d ρ1 h1
  cases d with
  | list xs =>
    cases e
    refine .inl (sa s h1 fun v Hf1 H1 st r => ?_)
    cases (show RD K Hf1 v (.list _) from r) with
    | lst h2 h3 => exact ⟨_, rfl, ⟨_, SqL.of (st.st.ex _ _ h2)⟩, k _ _ _ st (walkD_at (walk_list (K := K)) (fun H e => SqL.of (e _ _ h2)) h3)⟩
  | tuple xs =>
    cases e
    refine .inr (sa s h1 fun v Hf1 H1 st r => ?_)
    cases (show RD K Hf1 v (.tuple _) from r) with
    | tup h2 h3 => exact ⟨_, rfl, ⟨_, st.st.ex.tup h2⟩, k _ _ _ st (walkD_at (walk_tup (K := K)) (fun H e => e.tup h2) h3)⟩
  | _ => cases e
theorem rngD_len {lo : Int} {n : Nat} : (rngD lo n).length = n := by
  unfold rngD
  rw [List.length_map, List.length_range]
theorem walkD_rng {lo : Int} {n : Nat} : WalkD K (Itr lo n) (rngD lo n) Hf := by
  unfold WalkD
  rw [rngD_len]
  refine walk_range.mono (fun _ _ => trivial) fun i H x H' hi hg ⟨e1, e2⟩ => ?_
  subst e1
  refine ⟨.int (lo + (i : Nat)), ?_, fun Hc a b => ⟨Hc, New.refl b, ?_⟩⟩
  · unfold rngD
    rw [List.getElem?_map, List.getElem?_range hi]
    rfl
  · rw [e2]
    exact .int _
theorem semI_rng1 (sa : SemE K ta fa) : SemI K (iRng1 (tCons ta tNil)) (fun ρ => match fa ρ with
    | some (.p (.int j), ρ1) => if -1000000 ≤ j ∧ j ≤ 1000000 then some (rngD 0 j.toNat, ρ1) else none
    | _ => none) := by
  intro ρ σ Hf H R x ρ' s e k
  dsimp only at e
  split at e <;> first | contradiction | skip
  rename_i j ρ1 h1
  split at e <;> first | contradiction | skip
  rename_i hj
  cases e
  refine sa s h1 fun v Hf1 H1 st r => ?_
  rw [rv_int r]
  exact ⟨j, rfl, by omega, by omega, k _ _ _ st walkD_rng⟩
theorem semI_rng2 (sa : SemE K ta fa) (sb : SemE K tb fb) : SemI K (iRng2 (tCons ta (tCons tb tNil))) (fun ρ => match fa ρ with
    | some (.p (.int i), ρ1) => (match fb ρ1 with
      | some (.p (.int j), ρ2) => if -1000000 ≤ i ∧ i ≤ 1000000 ∧ -1000000 ≤ j ∧ j ≤ 1000000 then some (rngD i (j - i).toNat, ρ2) else none
      | _ => none)
    | _ => none) := by
  intro ρ σ Hf H R x ρ' s e k
  dsimp only at e
  split at e <;> first | contradiction | skip
  rename_i i ρ1 h1
  split at e <;> first | contradiction | skip
  rename_i j ρ2 h2
  split at e <;> first | contradiction | skip
  rename_i hj
  cases e
  refine sa s h1 fun v Hf1 H1 st r => sb st.st h2 fun v' Hf2 H2 st2 r2 => ?_
  rw [rv_int r, rv_int r2]
  exact ⟨i, j, rfl, ⟨by omega, by omega, by omega, by omega⟩, k _ _ _ (st.trans s st2) walkD_rng⟩
theorem enmD_len : ∀ (xs : List D) (n : Nat), (enmD xs n).length = xs.length
  | [], _ => rfl
  | x :: xs, n => by
    show (enmD xs (n + 1)).length + 1 = xs.length + 1
    rw [enmD_len xs (n + 1)]
theorem enmD_get : ∀ (xs : List D) (n i : Nat) (x : D), xs[i]? = some x → (enmD xs n)[i]? = some (.tuple [.int ((n + i : Nat) : Int), x])
  | [], _, _, _, h => by simp at h
  | y :: xs, n, 0, x, h => by
    simp at h
    subst h
    rfl
  | y :: xs, n, i + 1, x, h => by
    have := enmD_get xs (n + 1) i x (by simpa using h)
    show (enmD xs (n + 1))[i]? = _
    rw [this, show n + 1 + i = n + (i + 1) by omega]
/-- pairs just made -/
theorem pair_new {x y : V} {dx dy : D} {Hc H H' : Hp} {T : Addr} (hx : RD K Hc x dx) (hy : RD K Hc y dy) (b : Ex Hc H) (hT : H T = none) (e : H' = upd H T (.tup [x, y])) : ∃ Hc', New Hc H Hc' H' ∧ RD K Hc' (.ref T) (.tuple [dx, dy]) := by
  subst e
  have n := New.at_ (o := .tup [x, y]) b hT
  exact ⟨_, n, .tup (SqT.of upd_same) (.cons (hx.mono n.exf) (.cons (hy.mono n.exf) .nil))⟩
theorem walkD_enm {J : L2.It} {vs : List V} {ds : List D} {G : Hp → Prop} (w : Walk J vs.length G (YPair (fun i => some (.int (i : Nat))) (fun i => vs[i]?))) (hG : ∀ H, Ex Hf H → G H) (r : RDs K Hf vs ds) : WalkD K J (enmD ds 0) Hf := by
  unfold WalkD
  rw [enmD_len, ← r.length]
  refine w.mono hG fun i H x H' hi hg ⟨T, a, b, e1, e2, e3, e4, e5⟩ => ?_
  cases e4
  obtain ⟨d, h1, h2⟩ := r.getV e5
  refine ⟨_, enmD_get ds 0 i d h1, fun Hc p q => ?_⟩
  subst e1
  rw [Nat.zero_add]
  exact pair_new (.int _) (h2.mono p) q e2 e3
theorem semI_enm (sa : SemE K ta fa) : SemI K (iNum K (tCons ta tNil)) (fun ρ => match fa ρ with
    | some (.p x, ρ1) => (match seqD x with
      | some xs => some (enmD xs 0, ρ1)
      | none => none)
    | _ => none) := by
  intro ρ σ Hf H R x ρ' s e k
  dsimp only at e
  split at e <;> first | contradiction | skip
  rename_i d ρ1 h1
  cases d with
  | list xs =>
    cases e
    refine sa s h1 fun v Hf1 H1 st r => ?_
    cases (show RD K Hf1 v (.list _) from r) with
    | lst h2 h3 => exact ⟨_, _, rfl, .inl ⟨SqL.of (st.st.ex _ _ h2), k _ _ _ st (walkD_enm (walk_enum (K := K)) (fun H e => SqL.of (e _ _ h2)) h3)⟩⟩
  | tuple xs =>
    cases e
    refine sa s h1 fun v Hf1 H1 st r => ?_
    cases (show RD K Hf1 v (.tuple _) from r) with
    | tup h2 h3 => exact ⟨_, _, rfl, .inr ⟨st.st.ex.tup h2, k _ _ _ st (walkD_enm (walk_num (K := K)) (fun H e => e.tup h2) h3)⟩⟩
  | _ => cases e
theorem zpD_len : ∀ (xs ys : List D), (zpD xs ys).length = min xs.length ys.length
  | [], _ => by simp [zpD]
  | _ :: _, [] => by simp [zpD]
  | x :: xs, y :: ys => by
    show (zpD xs ys).length + 1 = _
    rw [zpD_len xs ys, List.length_cons, List.length_cons]
    omega
theorem zpD_get : ∀ (xs ys : List D) (i : Nat) (x y : D), xs[i]? = some x → ys[i]? = some y → (zpD xs ys)[i]? = some (.tuple [x, y])
  | [], _, _, _, _, h, _ => by simp at h
  | _ :: _, [], _, _, _, _, h => by simp at h
  | a :: xs, b :: ys, 0, x, y, h, h' => by
    simp at h h'
    subst h h'
    rfl
  | a :: xs, b :: ys, i + 1, x, y, h, h' => zpD_get xs ys i x y (by simpa using h) (by simpa using h')
theorem walk_zipT {a b : Addr} {xs ys : List V} {n : Nat} (hn : n = min xs.length ys.length) : Walk (ItzT K a b) n (fun H => SqT K H a xs ∧ SqT K H b ys) (YPair (fun i => xs[i]?) (fun i => ys[i]?)) := by
  subst hn
  refine ⟨fun i _ hi q => ?_, fun _ q => ⟨xs, ys, q.1, q.2, by omega⟩, fun i H v H' _ q y => ?_⟩
  · have h1 : i < xs.length := by omega
    have h2 : i < ys.length := by omega
    exact ⟨xs, ys, xs[i], ys[i], q.1, q.2, by simp [h1], by simp [h2]⟩
  · obtain ⟨T, x, z, h1, h2, h3, h4, h5⟩ := y
    exact ⟨T, x, z, h1, h2, h3, h4 xs q.1, h5 ys q.2⟩
theorem walkD_zp {J : L2.It} {vs ws : List V} {ds es : List D} {G : Hp → Prop} {n : Nat} (hn : n = min vs.length ws.length) (w : Walk J n G (YPair (fun i => vs[i]?) (fun i => ws[i]?))) (hG : ∀ H, Ex Hf H → G H) (r : RDs K Hf vs ds) (q : RDs K Hf ws es) : WalkD K J (zpD ds es) Hf := by
  unfold WalkD
  rw [zpD_len, ← r.length, ← q.length, ← hn]
  refine w.mono hG fun i H x H' hi hg ⟨T, a, b, e1, e2, e3, e4, e5⟩ => ?_
  obtain ⟨d, h1, h2⟩ := r.getV e4
  obtain ⟨d', h3, h4⟩ := q.getV e5
  refine ⟨_, zpD_get ds es i d d' h1 h3, fun Hc p q => ?_⟩
  subst e1
  exact pair_new (h2.mono p) (h4.mono p) q e2 e3
theorem semI_zp (sa : SemE K ta fa) (sb : SemE K tb fb) : SemI K (iZipA K (tCons ta (tCons tb tNil))) (fun ρ => match fa ρ with
    | some (.p x, ρ1) => (match fb ρ1 with
      | some (.p y, ρ2) => (match x, y with
        | .list xs, .list ys => some (zpD xs ys, ρ2)
        | .tuple xs, .tuple ys => some (zpD xs ys, ρ2)
        | _, _ => none)
      | _ => none)
    | _ => none) := by
  intro ρ σ Hf H R x ρ' s e k
  dsimp only at e
  split at e <;> first | contradiction | skip
  rename_i d ρ1 h1
  split at e <;> first | contradiction | skip
  rename_i d' ρ2 h2
  split at e <;> first | contradiction | skip
  · rename_i xs ys
    cases e
    refine sa s h1 fun v Hf1 H1 st r => sb st.st h2 fun v' Hf2 H2 st2 r2 => ?_
    have st3 := st.trans s st2
    cases (show RD K Hf2 v (.list xs) from r.step st2) with
    | lst h3 h4 =>
      cases (show RD K Hf2 v' (.list ys) from r2) with
      | lst h5 h6 => exact ⟨_, _, _, _, rfl, .inl ⟨SqL.of (st3.st.ex _ _ h3), SqL.of (st3.st.ex _ _ h5), k _ _ _ st3 (walkD_zp rfl (walk_zip (K := K) rfl) (fun H e => ⟨SqL.of (e _ _ h3), SqL.of (e _ _ h5)⟩) h4 h6)⟩⟩
  · rename_i xs ys
    cases e
    refine sa s h1 fun v Hf1 H1 st r => sb st.st h2 fun v' Hf2 H2 st2 r2 => ?_
    have st3 := st.trans s st2
    cases (show RD K Hf2 v (.tuple xs) from r.step st2) with
    | tup h3 h4 =>
      cases (show RD K Hf2 v' (.tuple ys) from r2) with
      | tup h5 h6 => exact ⟨_, _, _, _, rfl, .inr ⟨st3.st.ex.tup h3, st3.st.ex.tup h5, k _ _ _ st3 (walkD_zp rfl (walk_zipT (K := K) rfl) (fun H e => ⟨e.tup h3, e.tup h5⟩) h4 h6)⟩⟩
theorem walkD_rev {J : L2.It} {vs : List V} {ds : List D} {G : Hp → Prop} (w : Walk J vs.length G (fun i H x H' => H' = H ∧ vs[vs.length - 1 - i]? = some x)) (hG : ∀ H, Ex Hf H → G H) (r : RDs K Hf vs ds) : WalkD K J ds.reverse Hf := by
  unfold WalkD
  rw [List.length_reverse, ← r.length]
  refine w.mono hG fun i H x H' hi hg ⟨e1, e2⟩ => ?_
  subst e1
  obtain ⟨d, h1, h2⟩ := r.getV e2
  refine ⟨d, ?_, fun Hc a b => ⟨Hc, New.refl b, h2.mono a⟩⟩
  rw [List.getElem?_reverse (by rw [← r.length]; exact hi), ← r.length]
  exact h1
theorem walk_revT {a : Addr} {xs : List V} : Walk (ItvT K a xs.length) xs.length (fun H => SqT K H a xs) (fun i H x H' => H' = H ∧ xs[xs.length - 1 - i]? = some x) :=
  ⟨fun i _ hi q => ⟨hi, xs, xs[xs.length - 1 - i]'(by omega), q, by simp [show xs.length - 1 - i < xs.length by omega]⟩, fun _ _ => Nat.le_refl _, fun _ _ _ _ _ q y => ⟨y.1, y.2 xs q⟩⟩
theorem semI_rev (sa : SemE K ta fa) : SemI K (iRevA K ta) (fun ρ => match fa ρ with
    | some (.p x, ρ1) => (match seqD x with
      | some xs => some (xs.reverse, ρ1)
      | none => none)
    | _ => none) := by
  intro ρ σ Hf H R x ρ' s e k
  dsimp only at e
  split at e <;> first | contradiction | skip
  rename_i d ρ1 h1
  cases d with
  | list xs =>
    cases e
    refine sa s h1 fun v Hf1 H1 st r => ?_
    cases (show RD K Hf1 v (.list _) from r) with
    | lst h2 h3 => exact ⟨_, _, rfl, .inl ⟨SqL.of (st.st.ex _ _ h2), k _ _ _ st (walkD_rev (walk_rev (K := K)) (fun H e => SqL.of (e _ _ h2)) h3)⟩⟩
  | tuple xs =>
    cases e
    refine sa s h1 fun v Hf1 H1 st r => ?_
    cases (show RD K Hf1 v (.tuple _) from r) with
    | tup h2 h3 => exact ⟨_, _, rfl, .inr ⟨st.st.ex.tup h2, k _ _ _ st (walkD_rev (walk_revT (K := K)) (fun H e => e.tup h2) h3)⟩⟩
  | _ => cases e
end
end Dn
set_option Elab.async false
set_option linter.all false
set_option maxRecDepth 100000
set_option maxHeartbeats 4000000
/-! Dn, part C10: targets, comprehensions. -/
namespace Dn
open PySem L2
theorem unS_len (ρ : Rho) : ∀ vs, (unS ρ vs).length = ρ.length
  | [] => rfl
  | v :: vs => by unfold unS; rw [List.length_set, unS_len ρ vs]
theorem unS_in {ρ : Rho} {j : Nat} : ∀ {vs : List Nat}, j ∈ vs → ∀ y, (unS ρ vs)[j]? = some y → y = .un
  | v :: vs, h, y, e => by
    unfold unS at e
    by_cases q : v = j
    · subst q
      have hl : v < (unS ρ vs).length := by
        have := (List.getElem?_eq_some_iff.mp e).1
        simpa using this
      rw [List.getElem?_set_self hl] at e
      cases e
      rfl
    · rw [List.getElem?_set_ne q] at e
      exact unS_in ((List.mem_cons.mp h).resolve_left (Ne.symm q)) y e
theorem unS_out {ρ : Rho} {j : Nat} : ∀ {vs : List Nat}, j ∉ vs → (unS ρ vs)[j]? = ρ[j]?
  | [], _ => rfl
  | v :: vs, h => by
    unfold unS
    rw [List.getElem?_set_ne (fun q => h (by rw [q]; exact List.mem_cons_self))]
    exact unS_out fun q => h (List.mem_cons_of_mem _ q)
theorem restS_len (ρ0 : Rho) (ρ : Rho) : ∀ vs, (restS ρ0 ρ vs).length = ρ.length
  | [] => rfl
  | v :: vs => by unfold restS; rw [List.length_set, restS_len ρ0 ρ vs]
theorem restS_in {ρ0 ρ : Rho} {j : Nat} : ∀ {vs : List Nat}, j ∈ vs → ∀ y, (restS ρ0 ρ vs)[j]? = some y → y = (ρ0[j]?).getD .un
  | v :: vs, h, y, e => by
    unfold restS at e
    by_cases q : v = j
    · subst q
      have hl : v < (restS ρ0 ρ vs).length := by
        have := (List.getElem?_eq_some_iff.mp e).1
        simpa using this
      rw [List.getElem?_set_self hl] at e
      exact (Option.some.inj e).symm
    · rw [List.getElem?_set_ne q] at e
      exact restS_in ((List.mem_cons.mp h).resolve_left (Ne.symm q)) y e
theorem restS_out {ρ0 ρ : Rho} {j : Nat} : ∀ {vs : List Nat}, j ∉ vs → (restS ρ0 ρ vs)[j]? = ρ[j]?
  | [], _ => rfl
  | v :: vs, h => by
    unfold restS
    rw [List.getElem?_set_ne (fun q => h (by rw [q]; exact List.mem_cons_self))]
    exact restS_out fun q => h (List.mem_cons_of_mem _ q)
theorem wipe_none {σ : L2.St} {j : Nat} : ∀ {vs : List Nat}, j ∈ vs → ∀ v, (wipe σ vs)[j]? ≠ some (some v) := fun h v e => (wipe_some e).2 h
theorem wipe_ext {σ σ' : L2.St} : ∀ {vs : List Nat}, σ'.length = σ.length → (∀ j, j ∉ vs → σ'[j]? = σ[j]?) → wipe σ' vs = wipe σ vs := by
  intro vs hl h
  refine List.ext_getElem? fun j => ?_
  by_cases hj : j ∈ vs
  · have hn : ∀ (τ : L2.St), (wipe τ vs)[j]? = if j < τ.length then some none else none := fun τ => by
      cases q : (wipe τ vs)[j]? with
      | none =>
        have := List.getElem?_eq_none_iff.mp q
        rw [wipe_length] at this
        rw [if_neg (by omega)]
      | some o =>
        have := (List.getElem?_eq_some_iff.mp q).1
        rw [wipe_length] at this
        rw [if_pos this]
        cases o with
        | none => rfl
        | some v => exact absurd q (wipe_none hj v)
    rw [hn σ', hn σ, hl]
  · rw [wipe_out hj, wipe_out hj, h j hj]
section
variable {K : PySem.W.Frag} {ρ ρ1 ρ2 : Rho} {σ σ' : L2.St} {Hf H Hf' H' : Hp}
/-- a plain slot is stored -/
theorem sta_set {i : Nat} {v : V} {d : D} {y : SV} (s : Sta K ρ σ Hf H) (h : ρ[i]? = some y) (hy : ∀ r o, y ≠ .own r o) (r : RD K Hf v d) : Sta K (ρ.set i (.d d)) (σ.set i (some v)) Hf H := by
  have hi : i < ρ.length := (List.getElem?_eq_some_iff.mp h).1
  have hs : i < σ.length := by rw [s.len]; exact hi
  have g : ∀ (j : Nat) (r1 : Bool) (o1 : OV), (ρ.set i (.d d))[j]? = some (.own r1 o1) → i ≠ j ∧ ρ[j]? = some (.own r1 o1) := fun j r1 o1 q => by
    by_cases e : i = j
    · subst e; rw [List.getElem?_set_self hi] at q; cases q
    · rw [List.getElem?_set_ne e] at q; exact ⟨e, q⟩
  refine ⟨by rw [List.length_set, List.length_set]; exact s.len, s.ex, fun j x hj => ?_, fun j r1 o1 hj => ?_, fun j l r1 o1 r2 o2 b h4 h5 h6 h7 => ?_, fun j xs hj => by
    by_cases e : i = j
    · subst e
      rw [List.getElem?_set_self hi] at hj
      cases hj
    · rw [List.getElem?_set_ne e] at hj ⊢
      exact s.ro j xs hj⟩
  · by_cases e : i = j
    · subst e
      rw [List.getElem?_set_self hi] at hj
      cases hj
      exact ⟨v, by rw [List.getElem?_set_self hs], r⟩
    · rw [List.getElem?_set_ne e] at hj ⊢
      exact s.pure j x hj
  · obtain ⟨e, q⟩ := g j r1 o1 hj
    rw [List.getElem?_set_ne e]
    exact s.own j r1 o1 q
  · obtain ⟨e1, q1⟩ := g j _ _ h4
    obtain ⟨e2, q2⟩ := g l _ _ h5
    rw [List.getElem?_set_ne e1] at h6
    rw [List.getElem?_set_ne e2] at h7
    exact s.dis j l _ _ _ _ b q1 q2 h6 h7
/-- off vs nothing but plain slots -/
structure Off (vs : List Nat) (ρ ρ' : Rho) (σ σ' : L2.St) : Prop where
  len : ρ'.length = ρ.length
  lens : σ'.length = σ.length
  out : ∀ j, j ∉ vs → ρ'[j]? = ρ[j]?
  outs : ∀ j, j ∉ vs → σ'[j]? = σ[j]?
  no : ∀ (j : Nat), j ∈ vs → ∀ (r : Bool) (o : OV), ρ[j]? ≠ some (.own r o)
  no' : ∀ (j : Nat), j ∈ vs → ∀ (r : Bool) (o : OV), ρ'[j]? ≠ some (.own r o)
theorem Off.nil : Off [] ρ ρ σ σ := ⟨rfl, rfl, fun _ _ => rfl, fun _ _ => rfl, fun _ h => by simp at h, fun _ h => by simp at h⟩
def SemG (K : PySem.W.Frag) (g : TG) (tg : Tg) : Prop := ∀ {ρ : Rho} {σ : L2.St} {Hf H : Hp} {Q : L2.St → Hp → Prop} {v : V} {d : D} {ρ' : Rho}, Sta K ρ σ Hf H → RD K Hf v d → asg tg d ρ = some ρ' →
  (∀ σ', Sta K ρ' σ' Hf H → Off tg.sl ρ ρ' σ σ' → Q σ' H) → g v σ H Q
def gNs : List Nat → TGs
  | [] => gNil
  | i :: is => gCons (gName i) (gNs is)
theorem asgL_sem : ∀ {is : List Nat} {vs : List V} {ds : List D} {ρ ρ' : Rho} {σ : L2.St} {Q : L2.St → Hp → Prop}, Sta K ρ σ Hf H → RDs K Hf vs ds → asgL is ds ρ = some ρ' →
    (∀ σ', Sta K ρ' σ' Hf H → Off is ρ ρ' σ σ' → Q σ' H) → gNs is vs σ H Q
  | [], vs, [], ρ, ρ', σ, Q, s, r, e, k => by
    cases r
    cases e
    exact ⟨rfl, k σ s Off.nil⟩
  | [], _, _ :: _, _, _, _, _, _, _, e, _ => by cases e
  | _ :: _, _, [], _, _, _, _, _, _, e, _ => by cases e
  | i :: is, vs, d :: ds, ρ, ρ', σ, Q, s, r, e, k => by
    cases r with
    | @cons v vr _ _ r1 r2 =>
      have main : ∀ y, ρ[i]? = some y → (∀ r o, y ≠ .own r o) → asgL is ds (ρ.set i (.d d)) = some ρ' → gNs (i :: is) (v :: vr) σ H Q := fun y hy hn e' => by
        refine ⟨v, vr, rfl, ?_⟩
        have hi : i < ρ.length := (List.getElem?_eq_some_iff.mp hy).1
        have hs : i < σ.length := by rw [s.len]; exact hi
        refine asgL_sem (sta_set s hy hn r1) r2 e' fun σ' s' o => k σ' s' ?_
        refine ⟨by rw [o.len, List.length_set], by rw [o.lens, List.length_set], fun j hj => ?_, fun j hj => ?_, fun j hj r' o' q => ?_, fun j hj r' o' q => ?_⟩
        · rw [o.out j fun z => hj (List.mem_cons_of_mem _ z), List.getElem?_set_ne fun z => hj (by rw [z]; exact List.mem_cons_self)]
        · rw [o.outs j fun z => hj (List.mem_cons_of_mem _ z), List.getElem?_set_ne fun z => hj (by rw [z]; exact List.mem_cons_self)]
        · by_cases z : i = j
          · subst z
            rw [hy] at q
            exact hn r' o' (Option.some.inj q)
          · have hj' := (List.mem_cons.mp hj).resolve_left (Ne.symm z)
            refine o.no j hj' r' o' ?_
            rw [List.getElem?_set_ne z]
            exact q
        · by_cases hj' : j ∈ is
          · exact o.no' j hj' r' o' q
          · have z : j = i := (List.mem_cons.mp hj).resolve_right hj'
            subst z
            rw [o.out j hj', List.getElem?_set_self hi] at q
            cases q
      unfold asgL at e
      split at e
      · cases e
      · rename_i y hn hy
        exact main y hy (fun r o z => hn r o z) e
      · cases e
theorem sem_gName {i : Nat} : SemG K (gName i) (.nm i) := by
  intro ρ σ Hf H Q v d ρ' s r e k
  have h := asgL_sem (Q := Q) s (.cons r .nil) (show asgL [i] [d] ρ = some ρ' from e) k
  obtain ⟨v', vr, e1, h⟩ := h
  cases e1
  exact h.2
theorem sem_gTup {is : List Nat} : SemG K (fun v σ H Q => gTup K is.length (gNs is) v σ H Q ∨ gUnl K is.length (gNs is) v σ H Q) (.tp is) := by
  intro ρ σ Hf H Q v d ρ' s r e k
  have hl : ∀ {is : List Nat} {xs : List D} {ρ ρ' : Rho}, asgL is xs ρ = some ρ' → xs.length = is.length := by
    intro is
    induction is with
    | nil => intro xs ρ ρ' e; cases xs with
      | nil => rfl
      | cons _ _ => cases e
    | cons i is ih => intro xs ρ ρ' e; cases xs with
      | nil => cases e
      | cons x xs =>
        unfold asgL at e
        split at e
        · cases e
        · exact congrArg (· + 1) (ih e)
        · cases e
  cases d with
  | tuple xs =>
    cases r with
    | tup h1 h2 => exact .inl ⟨_, _, rfl, s.ex.tup h1, h2.length.trans (hl (show asgL is xs ρ = some ρ' from e)), asgL_sem s h2 e k⟩
  | list xs =>
    cases r with
    | lst h1 h2 => exact .inr ⟨_, _, rfl, SqL.of (s.ex _ _ h1), h2.length.trans (hl (show asgL is xs ρ = some ρ' from e)), asgL_sem s h2 e k⟩
  | _ => cases e
/-- a for's target is a tuple just made, or one in a list: never a list -/
theorem PG.or {X : Cx} {t : Expr} {g1 g2 : TG} (h1 : PG X t g1) (h2 : PG X t g2) : PG X t (fun v σ H Q => g1 v σ H Q ∨ g2 v σ H Q) :=
  ⟨fun pins s σ H v u Q I r h => h.elim (h1.run pins s σ H v u Q I r) (h2.run pins s σ H v u Q I r)⟩

/-! ### a block's slots -/
theorem sta_off {vs : List Nat} (hl : σ'.length = σ.length) (ho : ∀ j, j ∉ vs → σ'[j]? = σ[j]?) (s : Sta K ρ1 σ' Hf H) : Sta K (unS ρ1 vs) (wipe σ vs) Hf H := by
  have h1 : ∀ (j : Nat) (y : SV), y ≠ .un → (unS ρ1 vs)[j]? = some y → j ∉ vs ∧ ρ1[j]? = some y := fun j y hy q => by
    by_cases hj : j ∈ vs
    · exact absurd (unS_in hj y q) hy
    · rw [unS_out hj] at q
      exact ⟨hj, q⟩
  have h2 : ∀ j, j ∉ vs → (wipe σ vs)[j]? = σ'[j]? := fun j hj => by rw [wipe_out hj, ho j hj]
  refine ⟨by rw [wipe_length, unS_len, ← hl]; exact s.len, s.ex, fun j x hj => ?_, fun j r ov hj => ?_, fun i j r ov r' ov' a q1 q2 q3 q4 => ?_, fun j xs hj => by
    obtain ⟨g1, g2⟩ := h1 j _ (by intro z; cases z) hj
    rw [h2 j g1]
    exact s.ro j xs g2⟩
  · obtain ⟨g1, g2⟩ := h1 j _ (by intro z; cases z) hj
    rw [h2 j g1]
    exact s.pure j x g2
  · obtain ⟨g1, g2⟩ := h1 j _ (by intro z; cases z) hj
    rw [h2 j g1]
    exact s.own j r ov g2
  · obtain ⟨g1, g2⟩ := h1 i _ (by intro z; cases z) q1
    obtain ⟨g3, g4⟩ := h1 j _ (by intro z; cases z) q2
    rw [h2 i g1] at q3
    rw [h2 j g3] at q4
    exact s.dis i j _ _ _ _ a g2 g4 q3 q4
theorem wipe_wipe {vs : List Nat} : wipe (wipe σ vs) vs = wipe σ vs := wipe_ext (wipe_length _ _) fun j hj => wipe_out hj
/-- a turn of a block, told of the slots outside -/
theorem step_off {vs : List Nat} (o : Off vs ρ ρ1 (wipe σ vs) σ') (st : Step K ρ1 σ' Hf H ρ2 Hf' H') : Step K ρ (wipe σ vs) Hf H (unS ρ2 vs) Hf' H' := by
  have no2 : ∀ (j : Nat), j ∈ vs → ∀ (r : Bool) (ov : OV), ρ2[j]? ≠ some (.own r ov) := fun j hj r ov q => by
    obtain ⟨ov', h⟩ := (st.ow j r).mpr ⟨ov, q⟩
    exact o.no' j hj r ov' h
  have s2 := sta_off (vs := vs) (σ := wipe σ vs) o.lens o.outs st.st
  rw [wipe_wipe] at s2
  refine ⟨s2, st.ex, st.fr, fun a u ha hn => st.fm a u ha fun j r ov hj hs => ?_, fun j r => ?_⟩
  · by_cases hm : j ∈ vs
    · exact o.no' j hm r ov hj
    · rw [o.out j hm] at hj
      rw [o.outs j hm] at hs
      exact hn j r ov hj hs
  · by_cases hm : j ∈ vs
    · constructor
      · rintro ⟨ov, q⟩; exact absurd q (o.no j hm r ov)
      · rintro ⟨ov, q⟩; cases unS_in hm _ q
    · rw [unS_out hm, ← o.out j hm]
      exact st.ow j r
/-- into a block: its own names forgotten -/
theorem step_in {vs : List Nat} (s : Sta K ρ σ Hf H) : Sta K (unS ρ vs) (wipe σ vs) Hf H := sta_off rfl (fun _ _ => rfl) s
/-- out of a block -/
theorem step_out {vs : List Nat} (s : Sta K ρ σ Hf H) (hno : vs.any (isOwn ρ) = false) (st : Step K (unS ρ vs) (wipe σ vs) Hf H ρ1 Hf' H') : Step K ρ σ Hf H (restS ρ ρ1 vs) Hf' H' := by
  have no : ∀ (j : Nat), j ∈ vs → ∀ (r : Bool) (ov : OV), ρ[j]? ≠ some (.own r ov) := fun j hj r ov q => by
    have h := List.any_eq_false.mp hno j hj
    unfold isOwn at h
    rw [q] at h
    exact h rfl
  have h1 : ∀ (j : Nat) (r : Bool) (ov : OV), (restS ρ ρ1 vs)[j]? = some (.own r ov) → j ∉ vs ∧ ρ1[j]? = some (.own r ov) := fun j r ov q => by
    by_cases hj : j ∈ vs
    · have e := restS_in hj _ q
      cases z : ρ[j]? with
      | none => rw [z] at e; cases e
      | some y =>
        rw [z] at e
        have e' : SV.own r ov = y := e
        subst e'
        exact absurd z (no j hj r ov)
    · rw [restS_out hj] at q
      exact ⟨hj, q⟩
  have hl : ρ1.length = ρ.length := by
    have a := st.st.len
    rw [wipe_length, s.len] at a
    exact a.symm
  refine ⟨⟨by rw [restS_len, hl]; exact s.len, st.st.ex, fun j x hj => ?_, fun j r ov hj => ?_, fun i j r ov r' ov' a q1 q2 q3 q4 => ?_, fun j x hj => by
    by_cases hm : j ∈ vs
    · have e := restS_in hm _ hj
      cases z : ρ[j]? with
      | none => rw [z] at e; cases e
      | some y =>
        rw [z] at e
        have e' : SV.ro x = y := e
        subst e'
        obtain ⟨v, g1, g2⟩ := s.ro j x z
        exact ⟨v, g1, g2.mono st.ex⟩
    · rw [restS_out hm] at hj
      obtain ⟨v, g1, g2⟩ := st.st.ro j x hj
      rw [wipe_out hm] at g1
      exact ⟨v, g1, g2⟩⟩, st.ex, st.fr, fun a u ha hn => st.fm a u ha fun j r ov hj hs => ?_, fun j r => ?_⟩
  · by_cases hm : j ∈ vs
    · have e := restS_in hm _ hj
      cases z : ρ[j]? with
      | none => rw [z] at e; cases e
      | some y =>
        rw [z] at e
        have e' : SV.d x = y := e
        subst e'
        obtain ⟨v, g1, g2⟩ := s.pure j x z
        exact ⟨v, g1, g2.mono st.ex⟩
    · rw [restS_out hm] at hj
      obtain ⟨v, g1, g2⟩ := st.st.pure j x hj
      rw [wipe_out hm] at g1
      exact ⟨v, g1, g2⟩
  · obtain ⟨g1, g2⟩ := h1 j r ov hj
    obtain ⟨a, g3, g4, g5⟩ := st.st.own j r ov g2
    rw [wipe_out g1] at g3
    exact ⟨a, g3, g4, g5⟩
  · obtain ⟨g1, g2⟩ := h1 i _ _ q1
    obtain ⟨g3, g4⟩ := h1 j _ _ q2
    rw [← wipe_out (vs := vs) g1] at q3
    rw [← wipe_out (vs := vs) g3] at q4
    exact st.st.dis i j _ _ _ _ a g2 g4 q3 q4
  · by_cases hm : j ∈ vs
    · cases unS_in hm _ hj
    · rw [unS_out hm] at hj
      rw [wipe_out hm] at hs
      exact hn j r ov hj hs
  · by_cases hm : j ∈ vs
    · constructor
      · rintro ⟨ov, q⟩; exact absurd q (no j hm r ov)
      · rintro ⟨ov, q⟩; exact absurd hm (h1 j r ov q).1
    · rw [restS_out hm, ← st.ow j r, unS_out hm]
/-- an address that no own slot has -/
theorem not_own {D : Addr} (s : Sta K ρ σ Hf H) (hD : H D = none) : ∀ (j : Nat) (r : Bool) (ov : OV), ρ[j]? = some (.own r ov) → σ[j]? ≠ some (some (.ref D)) := fun j r ov hj hs => by
  obtain ⟨a, g1, _, g3⟩ := s.own j r ov hj
  rw [hs] at g1
  cases g1
  obtain ⟨u, hu⟩ := g3.some
  rw [hD] at hu
  cases hu
/-- an object beside is laid or changed -/
theorem step_side {D : Addr} {u : HO} (s : Sta K ρ σ Hf H) (hf : Hf D = none) (hn : ∀ (j : Nat) (r : Bool) (ov : OV), ρ[j]? = some (.own r ov) → σ[j]? ≠ some (some (.ref D))) : Sta K ρ σ Hf (upd H D u) := by
  refine ⟨s.len, fun b w hb => ?_, s.pure, fun j r o hj => ?_, s.dis, s.ro⟩
  · rw [upd_ne (fun z => by subst z; rw [hf] at hb; cases hb)]
    exact s.ex _ _ hb
  · obtain ⟨a, g1, g2, g3⟩ := s.own j r o hj
    refine ⟨a, g1, g2, g3.mono (Ex.refl _) fun w hw => ?_⟩
    rw [upd_ne (fun z => by subst z; exact hn j r o hj g1)]
    exact hw
end

/-! ### comprehensions -/
section
variable {K : PySem.W.Frag} {wi : TI} {fi : Rho → Option (List D × Rho)} {g : TG} {tg : Tg} {tt : TT} {ft : Rho → Option (Bool × Rho)} {te : TE} {fe : Rho → Option (Vl × Rho)}
def cmpF1 (tg : Tg) (ft : Rho → Option (Bool × Rho)) (fe : Rho → Option (Vl × Rho)) : D → Rho → Option (Option D × Rho) := fun x ρ2 => match asg tg x ρ2 with
  | none => none
  | some ρ3 => match ft ρ3 with
    | none => none
    | some (false, ρ4) => some (none, unS ρ4 tg.sl)
    | some (true, ρ4) => match fe ρ4 with
      | some (.p d, ρ5) => some (some d, unS ρ5 tg.sl)
      | _ => none
theorem cmpL_cons {f : D → Rho → Option (Option D × Rho)} {x : D} {xs rest : List D} {ρ ρ6 : Rho} (h : cmpL f (x :: xs) ρ = some (rest, ρ6)) :
    ∃ r ρ1 ys, f x ρ = some (r, ρ1) ∧ cmpL f xs ρ1 = some (ys, ρ6) ∧ rest = (match r with
      | some y => y :: ys
      | none => ys) := by
  unfold cmpL at h
  split at h
  · cases h
  · rename_i r ρ1 h1
    split at h
    · cases h
    · rename_i ys ρ2 h2
      cases h
      exact ⟨r, ρ1, ys, h1, h2, rfl⟩
theorem cmpF1_inv {d : D} {r : Option D} {ρ ρn : Rho} (h : cmpF1 tg ft fe d ρ = some (r, ρn)) :
    ∃ ρ3, asg tg d ρ = some ρ3 ∧ ((∃ ρ4, ft ρ3 = some (false, ρ4) ∧ r = none ∧ ρn = unS ρ4 tg.sl) ∨ ∃ ρ4 d' ρ5, ft ρ3 = some (true, ρ4) ∧ fe ρ4 = some (.p d', ρ5) ∧ r = some d' ∧ ρn = unS ρ5 tg.sl) := by
  unfold cmpF1 at h
  split at h
  · cases h
  · rename_i ρ3 h1
    split at h
    · cases h
    · rename_i ρ4 h2
      cases h
      exact ⟨ρ3, h1, .inl ⟨ρ4, h2, rfl, rfl⟩⟩
    · rename_i ρ4 h2
      split at h
      · rename_i d' ρ5 h3
        cases h
        exact ⟨ρ3, h1, .inr ⟨ρ4, d', ρ5, h2, h3, rfl, rfl⟩⟩
      · cases h
structure CInv (K : PySem.W.Frag) (f : D → Rho → Option (Option D × Rho)) (items : List D) (ds : List D) (ρ6 ρu : Rho) (σw : L2.St) (Hf1 H1 : Hp) (Dl : Addr) (i : Nat) (H : Hp) : Prop where
  ex : ∃ ρc Hfc accV acc rest, Step K ρu σw Hf1 H1 ρc Hfc (H) ∧ H Dl = some (.lst accV) ∧ RDs K Hfc accV acc ∧ Hfc Dl = none ∧ cmpL f (items.drop i) ρc = some (rest, ρ6) ∧ acc ++ rest = ds
theorem sem_comp (si : SemI K wi fi) (sg : SemG K g tg) (st : SemT K tt ft) (se : SemE K te fe) : SemE K (tLc wi g tt te tg.sl) (fun ρ => match fi ρ with
    | some (items, ρ1) => if tg.sl.any (isOwn ρ1) then none else
      (match cmpL (cmpF1 tg ft fe) items (unS ρ1 tg.sl) with
      | some (ds, ρ6) => if ds.length ≤ cap then some (.p (.list ds), restS ρ1 ρ6 tg.sl) else none
      | none => none)
    | none => none) := by
  intro ρ σ Hf H Q x ρ' s e k
  dsimp only at e
  split at e <;> first | contradiction | skip
  rename_i items ρ1 h1
  split at e <;> first | contradiction | skip
  rename_i hno
  split at e <;> first | contradiction | skip
  rename_i ds ρ6 h2
  split at e <;> first | contradiction | skip
  rename_i hc
  cases e
  have hno' : tg.sl.any (isOwn ρ1) = false := by
    cases q : tg.sl.any (isOwn ρ1) with
    | false => rfl
    | true => exact absurd q hno
  refine si s h1 fun J Hf1 H1 st1 wd => fun Dl hD => ?_
  have su : Sta K (unS ρ1 tg.sl) (wipe σ tg.sl) Hf1 H1 := step_in st1.st
  have hfD : Hf1 Dl = none := by
    cases q : Hf1 Dl with
    | none => rfl
    | some u => rw [st1.st.ex _ _ q] at hD; cases hD
  have nD := not_own su hD
  have su' : Sta K (unS ρ1 tg.sl) (wipe σ tg.sl) Hf1 (upd H1 Dl (.lst [])) := step_side su hfD nD
  have hex1 : ∀ a u, H1 a = some u → a ≠ Dl := fun a u ha z => by subst z; rw [hD] at ha; cases ha
  refine lc_it wd (CInv K (cmpF1 tg ft fe) items ds ρ6 (unS ρ1 tg.sl) (wipe σ tg.sl) Hf1 H1 Dl) ?_ (fun i H _ p => ?_) (fun i x H H' hi p y => ?_) (fun H p => ?_)
  · refine ⟨unS ρ1 tg.sl, Hf1, [], [], ds, ⟨su', Ex.refl _, fun _ _ h => h, fun a u ha _ => ?_, fun _ _ => Iff.rfl⟩, upd_same, .nil, hfD, by rw [List.drop_zero]; exact h2, rfl⟩
    rw [upd_ne (hex1 a u ha)]
    exact ha
  · obtain ⟨ρc, Hfc, accV, acc, rest, a1, _⟩ := p
    exact a1.ex.trans a1.st.ex
  · obtain ⟨ρc, Hfc, accV, acc, rest, a1, a2, a3, a4, a5, a6⟩ := p
    obtain ⟨d, hd, mk⟩ := y
    obtain ⟨Hc', nw, rd⟩ := mk Hfc a1.ex a1.st.ex
    have b1 := nw.step a1.st
    have b2 := a1.trans su b1
    have hdr : items.drop i = d :: items.drop (i + 1) := by
      obtain ⟨hl, e⟩ := List.getElem?_eq_some_iff.mp hd
      rw [List.drop_eq_getElem_cons hl, e]
    rw [hdr] at a5
    obtain ⟨r, ρn, ys, b3, b4, b5⟩ := cmpL_cons a5
    obtain ⟨ρ3, q1, b6⟩ := cmpF1_inv b3
    have hD' : H' Dl = some (.lst accV) := nw.exh _ _ a2
    have hcD : Hc' Dl = none := nw.fr Dl (fun z => by rw [a2] at z; cases z) a4
    have nDc : ∀ (j : Nat) (r : Bool) (ov : OV), ρc[j]? = some (.own r ov) → (wipe σ tg.sl)[j]? ≠ some (some (.ref Dl)) := fun j r ov hj => by
      obtain ⟨ov', hj'⟩ := (a1.ow j r).mpr ⟨ov, hj⟩
      exact nD j r ov' hj'
    refine sg b1.st rd q1 fun σ' s3 of => ⟨by rw [wipe_ext of.lens of.outs, wipe_wipe], ?_⟩
    have nD3 : ∀ (j : Nat) (r : Bool) (ov : OV), ρ3[j]? = some (.own r ov) → σ'[j]? ≠ some (some (.ref Dl)) := fun j r ov hj hs => by
      by_cases hm : j ∈ tg.sl
      · exact of.no' j hm r ov hj
      · rw [of.out j hm] at hj
        rw [of.outs j hm] at hs
        exact nDc j r ov hj hs
    rcases b6 with ⟨ρ4, q2, rfl, rfl⟩ | ⟨ρ4, d', ρ5, q2, q3, rfl, rfl⟩
    · refine st s3 q2 fun Hf4 H4 st4 => ?_
      have hD4 : H4 Dl = some (.lst accV) := st4.fm _ _ hD' nD3
      have hf4D : Hf4 Dl = none := st4.fr Dl (fun z => by rw [hD'] at z; cases z) hcD
      rw [if_neg Bool.false_ne_true]
      exact ⟨unS ρ4 tg.sl, Hf4, accV, acc, ys, b2.trans su (step_off of st4), hD4, a3.mono (b1.ex.trans st4.ex), hf4D, b4, by rw [← a6, b5]⟩
    · refine st s3 q2 fun Hf4 H4 st4 => ?_
      rw [if_pos rfl]
      refine se st4.st q3 fun v Hf5 H5 st5 r5 => ?_
      have st45 := st4.trans s3 st5
      have hD5 : H5 Dl = some (.lst accV) := st45.fm _ _ hD' nD3
      have hf5D : Hf5 Dl = none := st45.fr Dl (fun z => by rw [hD'] at z; cases z) hcD
      have so := b2.trans su (step_off of st45)
      have hlen : acc.length + ys.length + 1 = ds.length := by
        rw [← a6, b5]
        simp
        omega
      have raccV := a3.mono (b1.ex.trans st45.ex)
      refine ⟨accV, hD5, by rw [a3.length]; exact lt_line (by omega), ?_⟩
      refine ⟨unS ρ5 tg.sl, Hf5, accV ++ [v], acc ++ [d'], ys, ?_, upd_same, raccV.append (.cons r5 .nil), hf5D, b4, by rw [← a6, b5, List.append_assoc]; rfl⟩
      have nD5 : ∀ (j : Nat) (r : Bool) (ov : OV), (unS ρ5 tg.sl)[j]? = some (.own r ov) → (wipe σ tg.sl)[j]? ≠ some (some (.ref Dl)) := fun j r ov hj => by
        obtain ⟨ov', hj'⟩ := (so.ow j r).mpr ⟨ov, hj⟩
        exact nD j r ov' hj'
      exact ⟨step_side so.st hf5D nD5, so.ex, so.fr, fun a u ha hn => by rw [upd_ne (hex1 a u ha)]; exact so.fm a u ha hn, so.ow⟩
  · obtain ⟨ρc, Hfc, accV, acc, rest, a1, a2, a3, a4, a5, a6⟩ := p
    rw [List.drop_length] at a5
    cases a5
    rw [List.append_nil] at a6
    subst a6
    have so := step_out st1.st hno' a1
    have nDo : ∀ (j : Nat) (r : Bool) (ov : OV), (restS ρ1 ρ6 tg.sl)[j]? = some (.own r ov) → σ[j]? ≠ some (some (.ref Dl)) := fun j r ov hj => by
      obtain ⟨ov', hj'⟩ := (so.ow j r).mpr ⟨ov, hj⟩
      exact not_own st1.st hD j r ov' hj'
    have fin : Step K ρ1 σ Hf1 H1 (restS ρ1 ρ6 tg.sl) (upd Hfc Dl (.lst accV)) H := by
      have exf : Ex Hfc (upd Hfc Dl (.lst accV)) := Ex.new a4
      refine ⟨⟨so.st.len, fun b w hb => ?_, fun j x hj => ?_, fun j r o hj => ?_, so.st.dis, fun j x hj => (so.st.ro j x hj).imp fun v q => ⟨q.1, q.2.mono exf⟩⟩, so.ex.trans exf, fun b hb hn => ?_, so.fm, so.ow⟩
      · by_cases z : b = Dl
        · subst z
          rw [upd_same] at hb
          cases hb
          exact a2
        · rw [upd_ne z] at hb
          exact so.st.ex _ _ hb
      · obtain ⟨v, g1, g2⟩ := so.st.pure j x hj
        exact ⟨v, g1, g2.mono exf⟩
      · obtain ⟨a, g1, g2, g3⟩ := so.st.own j r o hj
        refine ⟨a, g1, ?_, g3.mono exf fun w hw => hw⟩
        rw [upd_ne (fun z => nDo j r o hj (by rw [← z]; exact g1))]
        exact g2
      · have z : b ≠ Dl := fun z => by subst z; exact hb hD
        rw [upd_ne z]
        exact so.fr b hb hn
    exact k _ _ _ (st1.trans s fin) (.lst upd_same (a3.mono (Ex.new a4)))
end
end Dn
set_option Elab.async false
set_option linter.all false
set_option maxRecDepth 100000
set_option maxHeartbeats 4000000
/-! Dn: a dict of a zip over two iterators of any kind (the library's Draws). Its own pair is out from the first turn on: what the library tells of it is the first turn. -/
namespace Dz
open PySem PySem.W RZ
section
variable {prog : Program} {w : World} {A : Around} {s : Shared} {z TI TO i1 i2 T : Addr} {r1 r2 : List Addr} {n1 n2 i : Nat} {P1 P2 : Nat → Value → Prop} {St1 St2 : Nat → Heap → Prop}
/-- next(z): a value, or the end -/
theorem next_zip {E : Value → Shared → Prop} {Q : Option Value → Shared → Prop} (ht : s.TypeIs (.ref z) "zip")
    (h : wpAny (model prog w) A.in1 (Builtin.«zip.__next__» ⟨[.ref z], []⟩) (fun f t => ∃ v, f = .done (.ret v) ∧ Q (some v) t) (fun e t => ∃ c, e = .ref c ∧ (∃ o, t.heap.get? c = some o ∧ o.cls = .type "StopIteration") ∧ Q none t) s) :
    wpAny (model prog w) A (pyNext (.ref z)) Q E s := by
  unfold pyNext
  apply wpAny_bind
  apply wpAny_attempt
  refine wpAny_callSpecial?_slot (name := Str.ofString "__next__") ht F.slot_zip_next ?_
  refine wpAny_call_entry F.slot_zip_next ht F.entry_zip_next (Q := fun v t => wpAny _ _ _ _ _ t) ?_ (F.args_zip_next_1 _)
  refine wpAny_mono h (fun f t ⟨v, hf, hq⟩ => ⟨v, hf, wpAny_pure hq⟩) fun e t ⟨c, he, ⟨o, ho, hc⟩, hq⟩ => ?_
  subst he
  exact wpAny_bind (wpAny_isInstance (T := "StopIteration") (b := true) ⟨o, ho, hc⟩ isSubtype_stop (wpAny_pure hq))
/-- one turn of a zip whose pair is out -/
theorem turn_out {Q R : Value → Shared → Prop} {f : Bool} {oT : Obj} (S : ZipSep2 z TI TO i1 i2 r1 r2) (D1 : Draws prog w A i1 r1 n1 P1 St1) (D2 : Draws prog w A i2 r2 n2 P2 St2)
    (hz : IsZipHeld s.heap z TI TO T f) (hT : s.heap.get? T = some oT) (hTI : IsTupOf2 s.heap TI (.ref i1) (.ref i2)) (q1 : St1 i s.heap) (q2 : St2 i s.heap) (l1 : i ≤ n1) (l2 : i ≤ n2)
    (more : i < n1 → i < n2 → ∀ x y h' tk, P1 i x → P2 i y → IsZipHeld h' z TI TO T true → St1 (i + 1) h' → St2 (i + 1) h' → IsTupOf2 h' s.heap.objs.size x y →
      (∀ c o, c ≠ z ∧ c ≠ i1 ∧ c ≠ i2 → s.heap.get? c = some o → h'.get? c = some o) → Q (.ref s.heap.objs.size) { s with heap := h', toks := tk })
    (stop : i = n1 ∨ i = n2 → ∀ h' tk e, (∀ c o, c ≠ z ∧ c ≠ i1 ∧ c ≠ i2 → s.heap.get? c = some o → h'.get? c = some o) → (∃ o, h'.get? e = some o ∧ o.cls = .type "StopIteration") → R (.ref e) { s with heap := h', toks := tk }) :
    wpAny (model prog w) A (Builtin.«zip.__next__» ⟨[.ref z], []⟩) (fun f t => ∃ v, f = .done (.ret v) ∧ Q v t) R s := by
  have two : ∀ {α : Type} {m : Sem α} {k : α → Sem Fin} {B : Fin → Shared → Prop} {t : Shared}, wpAny (model prog w) A m (fun v t => wpAny (model prog w) A (k v) B R t) R t → wpAny (model prog w) A (m >>= k) B R t := fun h => wpAny_bind h
  show wpAny _ _ (field (.ref z) 2 >>= _) _ _ _
  refine two (wpAny_field hz rfl (x := .bool false) rfl ?_)
  show wpAny _ _ (field (.ref z) 3 >>= _) _ _ _
  refine two (wpAny_field hz rfl (x := .ref TI) rfl ?_)
  refine two (wpAny_seqItems hTI rfl ?_)
  show wpAny _ _ (Builtin.SmallTypes.ownedTupleIsFree (.ref z) >>= _) _ _ _
  refine two (wpAny_tupleHeld_zip hz hT fun u1 c1 b1 => ?_)
  simp only [Bool.false_eq_true, if_false]
  apply wpAny_bind
  rw [← Array.forIn_toList]
  simp only [List.forIn_cons, List.forIn_nil]
  have p1 : St1 i u1 := D1.over q1 b1 S.zf1
  have p2 : St2 i u1 := D2.over q2 b1 S.zf2
  apply wpAny_bind
  apply wpAny_bind
  apply wpAny_holding
  show wpAny _ _ (Builtin.SmallTypes.nextOf (.ref i1) >>= _) _ _ { s with heap := u1 }
  apply wpAny_bind
  rcases Nat.eq_or_lt_of_le l1 with e1 | e1
  · subst e1
    exact D1.done _ _ _ p1 fun u2 e x1 x2 => stop (.inl rfl) u2 s.toks e (fun c o hc y => x1 c o hc.2.1 (b1.extBut c o hc.1 y)) x2
  refine D1.item i _ _ _ e1 p1 fun x u2 t2 hx p3 b2 => wpAny_pure (wpAny_pure ?_)
  have b2' : Heap.SameBut i1 u1 u2 := b2
  have p4 : St2 i u2 := D2.over p2 b2' S.sep1_2
  apply wpAny_bind
  apply wpAny_bind
  apply wpAny_holding
  show wpAny _ _ (Builtin.SmallTypes.nextOf (.ref i2) >>= _) _ _ { s with heap := u2, toks := t2 }
  apply wpAny_bind
  rcases Nat.eq_or_lt_of_le l2 with e2 | e2
  · subst e2
    exact D2.done _ _ _ p4 fun u3 e x1 x2 => stop (.inr rfl) u3 t2 e (fun c o hc y => x1 c o hc.2.2 (b2'.extBut c o hc.2.1 (b1.extBut c o hc.1 y))) x2
  refine D2.item i _ _ _ e2 p4 fun y u3 t3 hy p5 b3 => wpAny_pure (wpAny_pure (wpAny_pure ?_))
  have b3' : Heap.SameBut i2 u2 u3 := b3
  have p6 : St1 (i + 1) u3 := D1.over p3 b3' S.sep2_1
  have size : u3.objs.size = s.heap.objs.size := (b3'.1.trans b2'.1).trans b1.1
  have kz : IsZipHeld u3 z TI TO T true := b3'.extBut z _ S.zi2 (b2'.extBut z _ S.zi1 c1)
  show wpAny _ _ (newTuple [x, y] >>= _) _ _ { s with heap := u3, toks := t3 }
  refine two (wpAny_newTuple (wpAny_pure ⟨_, rfl, ?_⟩))
  have new : (u3.push { cls := .type "tuple", data := .seq #[x, y] }).get? u3.objs.size = some { cls := .type "tuple", data := .seq #[x, y] } := Heap.get?_push_size u3 rfl
  have up : ∀ c o, u3.get? c = some o → (u3.push { cls := .type "tuple", data := .seq #[x, y] }).get? c = some o := fun c o g => Heap.get?_push_of_some _ g
  show Q (.ref u3.objs.size) { s with heap := u3.push { cls := .type "tuple", data := .seq #[x, y] }, toks := t3 }
  rw [size] at new ⊢
  exact more e1 e2 x y _ t3 hx hy (up _ _ kz) (D1.frame _ _ _ p6 fun c _ o g => up c o g) (D2.frame _ _ _ p5 fun c _ o g => up c o g) new fun c o hc g => up c o (b3'.extBut c o hc.2.2 (b2'.extBut c o hc.2.1 (b1.extBut c o hc.1 g)))
/-- a zip's state while a dict is filled from it -/
def ZipAt (z TI TO i1 i2 d : Addr) (St1 St2 : Nat → Heap → Prop) (i : Nat) (h : Heap) : Prop :=
  IsTupOf2 h TI (.ref i1) (.ref i2) ∧ St1 i h ∧ St2 i h ∧ ((IsZip h z TI TO .none ∧ ∃ a b, IsTupOf2 h TO a b) ∨ ∃ T f o, IsZipHeld h z TI TO T f ∧ h.get? T = some o ∧ T ∉ [z, i1, i2, d])
theorem zip_source {d : Addr} (hA : A.handled = none) (S : ZipSep2 z TI TO i1 i2 r1 r2) (D1 : ∀ B : Around, B.handled = none → Draws prog w B i1 r1 n1 P1 St1) (D2 : ∀ B : Around, B.handled = none → Draws prog w B i2 r2 n2 P2 St2)
    (hd : d ∉ z :: TI :: TO :: (r1 ++ r2)) : PairSrc prog w A z d [z, TO, i1, i2] (min n1 n2) (fun i k v => P1 i k ∧ P2 i v) (ZipAt z TI TO i1 i2 d St1 St2) := by
  have B1 := D1 A.in1 hA
  have B2 := D2 A.in1 hA
  simp only [List.mem_cons, List.mem_append, not_or] at hd
  obtain ⟨dz, dTI, dTO, d1, d2⟩ := hd
  have di1 : d ≠ i1 := fun e => d1 (e ▸ S.mem1)
  have di2 : d ≠ i2 := fun e => d2 (e ▸ S.mem2)
  have off : ∀ {c : Addr}, c ∉ [z, TO, i1, i2] → c ≠ z ∧ c ≠ TO ∧ c ≠ i1 ∧ c ≠ i2 := fun h => by simpa using h
  refine ⟨by simp [dz, dTO, di1, di2], fun j g h st hk => ?_, fun j t Q E hj st hdt hQ => ?_, fun t Q E st hQ => ?_⟩
  · obtain ⟨hTI, q1, q2, hz⟩ := st
    refine ⟨hk _ _ (Ne.symm dTI) hTI, B1.frame _ _ _ q1 fun c hc o => hk c o fun e => d1 (e ▸ hc), B2.frame _ _ _ q2 fun c hc o => hk c o fun e => d2 (e ▸ hc), ?_⟩
    rcases hz with ⟨hz, a, b, hTO⟩ | ⟨T, f, o, hz, hT, hn⟩
    · exact .inl ⟨hk _ _ (Ne.symm dz) hz, a, b, hk _ _ (Ne.symm dTO) hTO⟩
    · exact .inr ⟨T, f, o, hk _ _ (Ne.symm dz) hz, hk _ _ (fun e => hn (by simp [e])) hT, hn⟩
  · obtain ⟨hTI, q1, q2, hz⟩ := st
    have j1 : j < n1 := Nat.lt_of_lt_of_le hj (Nat.min_le_left _ _)
    have j2 : j < n2 := Nat.lt_of_lt_of_le hj (Nat.min_le_right _ _)
    have new : ∀ {c : Addr} {o : Obj}, t.heap.get? c = some o → t.heap.objs.size ≠ c := fun g => Nat.ne_of_gt (Heap.lt_size g)
    obtain ⟨o1, g1⟩ := B1.live _ _ q1
    obtain ⟨o2, g2⟩ := B2.live _ _ q2
    rcases hz with ⟨hz, a, b, hTO⟩ | ⟨T, f, o, hz, hT, hn⟩
    · refine wpAny_pyNext_zipD2_item S B1 B2 hz hTI hTO q1 q2 j1 j2 fun x y h' tk hx hy k1 _ k3 k4 k5 _ k7 => ?_
      refine hQ t.heap.objs.size x y h' tk ⟨hx, hy⟩ (.inl ⟨_, k5, rfl, 0, rfl⟩) ⟨k7 _ _ S.TIz S.TITO S.TIi1 S.TIi2 hTI, k3, k4, .inr ⟨_, false, _, k1, k5, ?_⟩⟩ fun c o hc g => ?_
      · simp [new hz, new g1, new g2, Nat.ne_of_gt hdt]
      · obtain ⟨n0, n3, n4, n5⟩ := off hc
        exact k7 c o n0 n3 n4 n5 g
    · have out := turn_out S B1 B2 hz hT hTI q1 q2 (Nat.le_of_lt j1) (Nat.le_of_lt j2) (Q := fun v t => Q (some v) t) (R := fun e t => ∃ c, e = .ref c ∧ (∃ o, t.heap.get? c = some o ∧ o.cls = .type "StopIteration") ∧ Q none t)
        (fun _ _ x y h' tk hx hy k1 k3 k4 k5 k7 => by
          have hn' : T ≠ z ∧ T ≠ i1 ∧ T ≠ i2 ∧ T ≠ d := by simpa using hn
          refine hQ t.heap.objs.size x y h' tk ⟨hx, hy⟩ (.inl ⟨_, k5, rfl, 0, rfl⟩) ⟨k7 _ _ ⟨S.TIz, S.TIi1, S.TIi2⟩ hTI, k3, k4, .inr ⟨T, true, o, k1, k7 _ _ ⟨hn'.1, hn'.2.1, hn'.2.2.1⟩ hT, hn⟩⟩ fun c o hc g => ?_
          obtain ⟨n0, _, n4, n5⟩ := off hc
          exact k7 c o ⟨n0, n4, n5⟩ g)
        (fun e => by omega)
      exact next_zip ⟨_, hz, rfl⟩ out
  · obtain ⟨hTI, q1, q2, hz⟩ := st
    have e : min n1 n2 = n1 ∨ min n1 n2 = n2 := by omega
    rcases hz with ⟨hz, a, b, hTO⟩ | ⟨T, f, o, hz, hT, hn⟩
    · refine wpAny_pyNext_zipD2_end S B1 B2 hz hTI hTO q1 q2 (Nat.min_le_left _ _) (Nat.min_le_right _ _) e fun h' tk k7 => hQ h' tk fun c o hc g => ?_
      obtain ⟨n0, n3, n4, n5⟩ := off hc
      exact k7 c o n0 n3 n4 n5 g
    · have out := turn_out S B1 B2 hz hT hTI q1 q2 (Nat.min_le_left _ _) (Nat.min_le_right _ _) (Q := fun v t => Q (some v) t) (R := fun e t => ∃ c, e = .ref c ∧ (∃ o, t.heap.get? c = some o ∧ o.cls = .type "StopIteration") ∧ Q none t)
        (fun a1 a2 => by omega)
        (fun _ h' tk c k7 hs => ⟨c, rfl, hs, hQ h' tk fun c o hc g => by
          obtain ⟨n0, _, n4, n5⟩ := off hc
          exact k7 c o ⟨n0, n4, n5⟩ g⟩)
      exact next_zip ⟨_, hz, rfl⟩ out
end
/-- such a zip as the argument of dict() -/
theorem zip_pairs {prog : Program} {w : World} {z TI TO i1 i2 : Addr} {r1 r2 : List Addr} {n1 n2 : Nat} {P1 P2 : Nat → Value → Prop} {St1 St2 : Nat → Heap → Prop} (S : ZipSep2 z TI TO i1 i2 r1 r2)
    (D1 : ∀ B : Around, B.handled = none → Draws prog w B i1 r1 n1 P1 St1) (D2 : ∀ B : Around, B.handled = none → Draws prog w B i2 r2 n2 P2 St2)
    (t1 : ∀ h, St1 0 h → ∀ b ∈ r1, ∃ o, h.get? b = some o) (t2 : ∀ h, St2 0 h → ∀ b ∈ r2, ∃ o, h.get? b = some o) (f1 : ∀ h h', St1 0 h → (∀ b o, h.get? b = some o → h'.get? b = some o) → St1 0 h') (f2 : ∀ h h', St2 0 h → (∀ b o, h.get? b = some o → h'.get? b = some o) → St2 0 h') :
    PairArg prog w "zip" z (z :: TI :: TO :: (r1 ++ r2)) [z, TO, i1, i2] (min n1 n2) (fun i k v => P1 i k ∧ P2 i v)
      (fun h => IsTupOf2 h TI (.ref i1) (.ref i2) ∧ St1 0 h ∧ St2 0 h ∧ IsZip h z TI TO .none ∧ ∃ a b, IsTupOf2 h TO a b) := by
  refine { type := fun s ok => ⟨_, ok.2.2.2.1, rfl⟩, notDict := by decide, keep := ?_, there := ?_, sub := ?_, noKeys := ?_, iter := ?_ }
  · rintro h h' ⟨hTI, q1, q2, hz, a, b, hTO⟩ hk
    exact ⟨hk _ _ hTI, f1 h h' q1 hk, f2 h h' q2 hk, hk _ _ hz, a, b, hk _ _ hTO⟩
  · rintro h ⟨hTI, q1, q2, hz, a, b, hTO⟩ c hc
    simp only [List.mem_cons, List.mem_append] at hc
    rcases hc with e | e | e | e | e
    · exact ⟨_, e ▸ hz⟩
    · exact ⟨_, e ▸ hTI⟩
    · exact ⟨_, e ▸ hTO⟩
    · exact t1 h q1 c e
    · exact t2 h q2 c e
  · intro c hc
    simp only [List.mem_cons, List.not_mem_nil, or_false] at hc
    rcases hc with e | e | e | e <;> subst e
    · exact List.mem_cons_self
    · simp
    · simp [S.mem1]
    · simp [S.mem2]
  · rintro A s Q E hA ⟨_, _, _, hz, _⟩ h
    exact getAttrOr_miss_zip hz rfl rfl rfl zip_no_keys (by decide +kernel) hA h
  · rintro A s d Q E hA ⟨hTI, q1, q2, hz, hTO⟩ hd hn h
    exact wpAny_pyIter_zip hz (h z [z, TO, i1, i2] (ZipAt z TI TO i1 i2 d St1 St2) s.heap s.toks (zip_source hA S D1 D2 hn) ⟨hTI, q1, q2, .inl ⟨hz, hTO⟩⟩ (fun _ _ e => e) fun b hb => .inl hb)
end Dz
set_option Elab.async false
set_option linter.all false
set_option maxRecDepth 100000
set_option maxHeartbeats 4000000
/-! Dn: dict(zip(a tuple, a list)). -/
namespace Dz
open PySem PySem.Spec PyProof.Rows L2
variable {X : Cx}
def tDZip (K : PySem.W.Frag) (t : TA) : TE := fun σ H Q => t σ H fun vs H1 => ∃ (a b : Addr) (ks : List Key) (ys : List V), vs = [.ref a, .ref b] ∧ SqT K H1 a (ks.map kV) ∧ SqL K H1 b ys ∧ ∀ p, H1 p = none → Q (.ref p) (upd H1 p (.dK (mergeK [] (ks.zip ys))))
theorem kv_zip : ∀ {ks : List Key} {ys : List V} {us : List Value}, Vals ys us → KV (ks.zip ys) (ks.zip us)
  | [], _, _, _ => .nil
  | _ :: _, _, _, .nil => .nil
  | k :: ks, _, _, .cons r t => .cons ⟨rfl, r⟩ (kv_zip t)
theorem vals_at : ∀ {xs : List V} {us : List Value} {i : Nat} {u : Value}, Vals xs us → us[i]? = some u → ∃ x, xs[i]? = some x ∧ RelV x u
  | _, _, _, _, .nil, e => by simp at e
  | _, _, 0, _, .cons r _, e => by
    cases e
    exact ⟨_, rfl, r⟩
  | _, _, i + 1, _, .cons _ t, e => vals_at (i := i) t (by simpa using e)
theorem pe_dzip {e e2 : Expr} {ta : TA} {p p2 pos pos2 : Pos} (hc : X.calm = true) (hg : Gl X "dict") (hm : X.mg "dict" = none) (hg2 : Gl X "zip") (hm2 : X.mg "zip" = none) (ha : PA X [e, e2] ta)
    (hs : starEach [e, e2] X.env = (false, eval e X.env) :: starEach [e2] X.env) (hpl : (backTo pos2 (starEach [e2] X.env)).any (·.1) = false) :
    PE X (.Call (.Name "dict" p) [.Call (.Name "zip" p2) [e, e2] [] pos2] [] pos) (tDZip X.K ta) := by
  refine ⟨fun pins s σ H Q I h => ?_⟩
  refine Call_ (ld_blt I hg hm (by decide +kernel : bootBuiltins ("dict" : Str) = some (.type "dict")) (PyProof.Rows.callWith_type1 (args_cons ?_ rfl) rfl))
  refine Call_ (ld_blt I hg2 hm2 PyProof.Rows.boot_zip (PyProof.Rows.callWith_type1 (thn (ha.run pos2 pins s σ H _ I h) fun us s1 ⟨vs, H1, I1, r1, q1⟩ => ?_) hs hpl))
  obtain ⟨a, b, ks, ys, ex, hqx, hqy, q⟩ := q1
  subst ex
  cases r1 with
  | cons r rr =>
    cases rr with
    | cons r' rr =>
      cases rr
      cases r
      cases r'
      obtain ⟨its, rv, p1, z1⟩ := I1.tuple hqx
      obtain ⟨its2, rv2, p2', z2⟩ := I1.list hqy
      obtain ⟨o1, ho1, _⟩ := id p1
      have lta : a < s1.heap.objs.size := Heap.lt_size ho1
      have ltb : b < s1.heap.objs.size := p2'.lt
      refine zip_begins2 (begins_tuple a its.toArray) (begins_list b its2.toArray) (show s1.heap.IsTuple a its.toArray from p1) p2'.isList fun h' hz hTI hTO h1 h2 hsz hk => ?_
      refine args_nil ?_
      have ap := zip_sep2 (N := s1.heap.objs.size) (fp1 := [a]) (fp2 := [b]) (fun c hc => by rw [List.mem_singleton.mp hc]; exact lta) (fun c hc => by rw [List.mem_singleton.mp hc]; exact ltb)
      have ka : a ≠ s1.heap.objs.size := Nat.ne_of_lt lta
      have kb : b ≠ s1.heap.objs.size + 1 := Nat.ne_of_lt (Nat.lt_succ_of_lt ltb)
      have two : ∀ {h : Heap} {x y : Addr}, (∃ o, h.get? x = some o) → (∃ o, h.get? y = some o) → ∀ c ∈ [x, y], ∃ o, h.get? c = some o := fun p q c hc => by
        simp only [List.mem_cons, List.not_mem_nil, or_false] at hc
        rcases hc with e | e
        · rw [e]; exact p
        · rw [e]; exact q
      have pa := zip_pairs (prog := X.prog) (w := X.w) ap (fun B hB => Draws.tuple hB s1.heap.objs.size a ka its.toArray) (fun B hB => Draws.list hB (s1.heap.objs.size + 1) b kb its2.toArray)
        (fun h ⟨⟨o, g, _⟩, ⟨o2, g2, _⟩⟩ => two ⟨o, g⟩ ⟨o2, g2⟩) (fun h ⟨⟨o, g, _⟩, ⟨o2, g2, _⟩⟩ => two ⟨o, g⟩ ⟨o2, g2⟩)
        (fun h h2 q hk => ⟨q.1.at fun o e => hk _ o e, q.2.at fun o e => hk _ o e⟩) (fun h h2 q hk => ⟨q.1.at fun o e => hk _ o e, q.2.at fun o e => hk _ o e⟩)
      have hn : min its.toArray.size its2.toArray.size = (ks.zip its2).length := by
        rw [List.length_zip, List.size_toArray, List.size_toArray]
        have e : (ks.map kV).length = its.length := rv.length
        rw [List.length_map] at e
        rw [e]
      refine PySem.call_dict_pairs (knd := mixKind X.prog X.w) (kvs := ks.zip its2) pa (I1.ok.hd hc)
        ⟨hTI, ⟨⟨_, h1, rfl, rfl⟩, (show s1.heap.IsTuple a its.toArray from p1).at fun o e => hk _ o e⟩, ⟨⟨_, h2, rfl, rfl⟩, p2'.isList.at fun o e => hk _ o e⟩, hz, _, _, hTO⟩ ⟨hn.symm, fun i key v ⟨e1, e2⟩ => ?_⟩ ?_ fun h3 tk hd hfr => ?_
      · have e1' : its[i]? = some key := by simpa using e1
        have e2' : its2[i]? = some v := by simpa using e2
        obtain ⟨x, g1, g2⟩ := vals_at rv e1'
        rw [List.getElem?_map] at g1
        cases hk' : ks[i]? with
        | none => rw [hk'] at g1; cases g1
        | some k =>
          rw [hk'] at g1
          cases g1
          exact ⟨k, List.getElem?_zip_eq_some.mpr ⟨hk', e2'⟩, kV_is (P := X.prog) (w := X.w) g2⟩
      · rw [hn, List.length_zip]
        have e : ys.length = its2.length := rv2.length
        exact Nat.le_trans (Nat.min_le_right _ _) (by rw [← e]; exact z2)
      · have hgt : s1.heap.objs.size ≤ h'.objs.size := by rw [hsz]; omega
        have hm' : (h'.objs.size == sysModules) = false := beq_eq_false_iff_ne.mpr (Nat.ne_of_gt (Nat.lt_of_lt_of_le I1.big hgt))
        have hlen : (mergeK [] (ks.zip ys)).length ≤ sizeLine := by
          refine Nat.le_trans (length_mergeK _ []) ?_
          rw [List.length_nil, Nat.zero_add, List.length_zip]
          exact Nat.le_trans (Nat.min_le_right _ _) z2
        have keep : ∀ c o, s1.heap.get? c = some o → h3.get? c = some o := fun c o e => by
          have hc' : c < s1.heap.objs.size := Heap.lt_size e
          refine hfr c o (fun z => ?_) (hk c o e)
          have z' : c = s1.heap.objs.size + 4 ∨ c = s1.heap.objs.size + 3 ∨ c = s1.heap.objs.size ∨ c = s1.heap.objs.size + 1 := by simpa using z
          rcases z' with e | e | e | e
          · exact Nat.not_lt.mpr (Nat.le_add_right _ _) (e ▸ hc')
          · exact Nat.not_lt.mpr (Nat.le_add_right _ _) (e ▸ hc')
          · exact Nat.lt_irrefl _ (e ▸ hc')
          · exact Nat.not_lt.mpr (Nat.le_add_right _ _) (e ▸ hc')
        exact ⟨.ref h'.objs.size, upd H1 h'.objs.size (.dK (mergeK [] (ks.zip ys))), I1.laid (t' := tk) keep hgt (show ObjOk X.prog X.w _ _ _ (.dK (mergeK [] (ks.zip ys))) from ⟨hlen, hm', merged [] (ks.zip its2), KV.merge (kv_zip rv2) .nil, hd⟩), rfl, q _ (I1.hok.fresh hgt)⟩
end Dz
namespace Dn
open PySem L2
section
variable {K : PySem.W.Frag} {ta tb : TE} {fa fb : Rho → Option (Vl × Rho)}
theorem key_rd {Hf : Hp} {d : D} {k : Key} {v : V} (h : RD K Hf v d) (e : keyOf d = some k) : v = kV k := by
  cases d <;> first | (cases e; done) | skip
  · cases h
    cases e
    rfl
  · cases h
    cases e
    rfl
theorem keys_rd {Hf : Hp} : ∀ {vs : List V} {ds : List D} {ks : List Key}, RDs K Hf vs ds → keysD ds = some ks → vs = ks.map kV
  | _, _, _, .nil, e => by
    cases e
    rfl
  | _, _, _, .cons (d := d) (ds := ds) h r, e => by
    have e' : (match keyOf d, keysD ds with
      | some k, some ks => some (k :: ks)
      | _, _ => none) = some _ := e
    clear e
    split at e' <;> first | contradiction | skip
    rename_i h1 h2
    cases e'
    rw [key_rd h h1, keys_rd r h2]
    rfl
theorem rdk_any2 {Hf : Hp} {k : Key} : ∀ {ws : List (Key × V)} {kvs : List (D × D)}, RDk K Hf ws kvs → (ws.any fun kv => decide (kv.1 = k)) = (kvs.any fun p => decide (keyOf p.1 = some k))
  | _, _, .nil => rfl
  | _, _, .cons (k := k2) h r => by
    rw [List.any_cons, List.any_cons, rdk_any2 r, kD_key]
    congr 1
    by_cases q : k2 = k
    · rw [decide_eq_true q, decide_eq_true (by rw [q])]
    · rw [decide_eq_false q, decide_eq_false fun z => q (Option.some.inj z)]
theorem rdk_map2 {Hf : Hp} {k : Key} {v : V} {x : D} (hx : RD K Hf v x) : ∀ {ws : List (Key × V)} {kvs : List (D × D)}, RDk K Hf ws kvs → RDk K Hf (ws.map fun kv => if kv.1 = k then (kv.1, v) else kv) (kvs.map fun p => if keyOf p.1 = some k then (p.1, x) else p)
  | _, _, .nil => .nil
  | _, _, .cons (k := k2) (v := v2) (d := d2) h r => by
    rw [List.map_cons, List.map_cons]
    by_cases q : k2 = k
    · rw [if_pos q, if_pos (by rw [kD_key, q])]
      exact .cons hx (rdk_map2 hx r)
    · rw [if_neg q, if_neg (by rw [kD_key]; exact fun z => q (Option.some.inj z))]
      exact .cons h (rdk_map2 hx r)
theorem RDk.append2 {Hf : Hp} : ∀ {vs ws : List (Key × V)} {ds es : List (D × D)}, RDk K Hf vs ds → RDk K Hf ws es → RDk K Hf (vs ++ ws) (ds ++ es)
  | _, _, _, _, .nil, s => s
  | _, _, _, _, .cons h r, s => .cons h (RDk.append2 r s)
theorem rdk_put2 {Hf : Hp} {k : Key} {v : V} {x : D} (hx : RD K Hf v x) {ws : List (Key × V)} {kvs : List (D × D)} (r : RDk K Hf ws kvs) : RDk K Hf (putK ws k v) (putD kvs k x) := by
  unfold putK putD
  rw [rdk_any2 r]
  split
  · exact rdk_map2 hx r
  · exact r.append2 (.cons hx .nil)
theorem rdk_merge {Hf : Hp} : ∀ {ks : List Key} {vs : List V} {ds : List D} {ws : List (Key × V)} {kvs : List (D × D)}, RDs K Hf vs ds → RDk K Hf ws kvs → RDk K Hf (mergeK ws (ks.zip vs)) (mgD kvs (ks.zip ds))
  | [], _, _, _, _, _, s => s
  | _ :: _, _, _, _, _, .nil, s => s
  | k :: ks, _, _, _, _, .cons h r, s => rdk_merge (ks := ks) r (rdk_put2 h s)
theorem sem_dzip (sa : SemE K ta fa) (sb : SemE K tb fb) : SemE K (Dz.tDZip K (tCons ta (tCons tb tNil))) (fun ρ => match fa ρ with
    | some (x, ρ1) => (match fb ρ1 with
      | some (y, ρ2) => (match rdV ρ2 x, rdV ρ2 y with
        | .tuple ks, .list xs => (match zipD ks xs with
          | some kvs => some (.p (.dict kvs), ρ2)
          | none => none)
        | _, _ => none)
      | none => none)
    | none => none) := by
  intro ρ σ Hf H Q x ρ' s e k
  dsimp only at e
  split at e <;> first | contradiction | skip
  rename_i x1 ρ1 h1
  split at e <;> first | contradiction | skip
  rename_i y1 ρ2 h2
  split at e <;> first | contradiction | skip
  rename_i ks xs h3 h4
  split at e <;> first | contradiction | skip
  rename_i kvs h5
  cases e
  refine sa s h1 fun v Hf1 H1 st1 r1 => ?_
  refine sb st1.st h2 fun u Hf2 H2 st2 r2 => ?_
  have q1 := RV.rdo st2.st (r1.step st2)
  have q2 := RV.rdo st2.st r2
  rw [h3] at q1
  rw [h4] at q2
  obtain ⟨a, vs, rfl, _, q3, q4⟩ := rdo_tup st2.st.ex q1
  obtain ⟨b, us, rfl, q5, q6⟩ := rdo_lst q2
  unfold zipD at h5
  split at h5 <;> first | contradiction | skip
  rename_i qs h6
  cases h5
  have hk := keys_rd q4 h6
  subst hk
  refine ⟨a, b, qs, us, rfl, q3, SqL.of q5, fun p hp => ?_⟩
  have n := New.at_ (o := .dK (mergeK [] (qs.zip us))) st2.st.ex hp
  exact k _ _ _ ((st1.trans s st2).trans s (n.step st2.st)) (.dct upd_same ((rdk_merge q6 .nil).mono n.exf))
end
end Dn
set_option Elab.async false
set_option linter.all false
set_option maxRecDepth 100000
set_option maxHeartbeats 4000000
/-! Dn, part C11: every checked expression is read as the evaluator reckons. -/
namespace Dn
open PySem L2 RZ RT
variable {c : Ct}
abbrev SndE (c : Ct) (sc : Scope) (e : E) (a : Expr) : Prop := ∃ t, (∀ X st, XOk c X sc st → PE X a t) ∧ SemE c.K t (evE c.G c.Φ e)
abbrev SndA (c : Ct) (sc : Scope) (e : Es) (a : List Expr) : Prop := ∃ t, (∀ X st, XOk c X sc st → PA X a t) ∧ SemA c.K t (evEs c.G c.Φ e)
abbrev SndO (c : Ct) (sc : Scope) (e : Eo) (a : Option Expr) : Prop := ∃ t, (∀ X st, XOk c X sc st → PO X a t) ∧ SemO c.K t (evEo c.G c.Φ e)
def isBool : Expr → Bool
  | .BoolOp .. => true
  | _ => false
abbrev SndT (c : Ct) (sc : Scope) (e : T) (a : Expr) : Prop := ∃ t, (∀ X st, XOk c X sc st → PT X a t ∧ (isBool a = true → PW X a t)) ∧ SemT c.K t (evT c.G c.Φ e)
abbrev SndI (c : Ct) (sc : Scope) (e : Dn.It) (a tg : Expr) : Prop := ∃ t, (∀ X st, XOk c X sc st → PI X tg a t) ∧ SemI c.K t (evI c.G c.Φ e)
section
variable {X : Cx} {sc st : Scope}
theorem XOk.gl (ok : XOk c X sc st) {x : Str} (h : glB sc x = true) : Gl X x := by
  show X.env.scope.names.lookup x = _
  rw [ok.scp]
  exact gl_of h
theorem XOk.none (ok : XOk c X sc st) (o : c.Ok) {x : Str} (h : c.nm.fr.contains x = true) : X.mg x = none := by
  rw [ok.mg]
  exact o.free x h
theorem XOk.hu (ok : XOk c X sc st) : X.A.units + 1 < cLine := hu_of ok.room
theorem XOk.nd (ok : XOk c X sc st) (o : c.Ok) : X.N.Nodup := by
  rw [ok.N]
  exact o.nd
theorem pe_pl (ok : XOk c X sc st) {i : Nat} {y : Str} {p : Pos} (h1 : c.nm.N[i]? = some y) (h2 : visB sc y = true) (h3 : nmB y = true) : PE X (.Name y p) (tVar i) := by
  obtain ⟨n1, n2, _⟩ := nm_of h3
  exact pe_var (by rw [ok.N]; exact h1) (by rw [ok.scp]; exact vis_of h2) n1 n2
end
theorem s_pl {sc : Scope} {i : Nat} {a : Expr} (h : okE c.nm sc (.pl i) a = true) : SndE c sc (.pl i) a := by
  obtain ⟨y, p, rfl, h1, h2, h3⟩ := inv_pl h
  exact ⟨_, fun X st ok => pe_pl ok h1 h2 h3, sem_pl⟩
theorem s_gl (o : c.Ok) {sc : Scope} {k : Nat} {a : Expr} (h : okE c.nm sc (.gl k) a = true) : SndE c sc (.gl k) a := by
  obtain ⟨y, p, rfl, h1, h2, h3⟩ := inv_gl h
  cases hd : c.G[k]? with
  | none =>
    refine ⟨fun _ _ _ => False, fun X st ok => ⟨fun _ _ _ _ _ _ z => z.elim⟩, ?_⟩
    intro ρ σ Hf H Q x ρ' s e kq
    have e' : (match c.G[k]? with
      | some x => some (Vl.p x, ρ)
      | none => none) = some (x, ρ') := e
    rw [hd] at e'
    cases e'
  | some d =>
    obtain ⟨u, v, g1, g2, g3⟩ := o.glob k y d h1 hd
    refine ⟨tC v, fun X st ok => pe_glob (ok.gl h2) (by rw [ok.mg]; exact g1) g2 (nm_of h3).1, ?_⟩
    intro ρ σ Hf H Q x ρ' s e kq
    have e' : (match c.G[k]? with
      | some x => some (Vl.p x, ρ)
      | none => none) = some (x, ρ') := e
    rw [hd] at e'
    cases e'
    exact kq _ _ _ (Step.refl s) (g3 _)
theorem s_call (o : c.Ok) {sc : Scope} {f : Nat} {es : Es} {a : Expr} (h : okE c.nm sc (.call f es) a = true) (ih : ∀ as, okEs c.nm sc es as = true → SndA c sc es as) : SndE c sc (.call f es) a := by
  obtain ⟨y, p, as, p', rfl, h1, h2, h3, h4⟩ := inv_call h
  obtain ⟨fa, fd, ps, g1, g2, g3, g4, _, g5, _⟩ := o.call f y h1
  obtain ⟨t, ht, hs⟩ := ih as h4
  cases as with
  | nil =>
    cases es with
    | cons _ _ => simp [okEs] at h4
    | nil =>
      refine ⟨_, fun X st ok => pe_call0 (CX := CX0) (k := c.n) (f := fa) (fd := fd) (ps := ps) (sp := spD c.K ps.length (c.Φ f)) (dvs := []) (ds := []) (E := E0) (by rw [ok.prog, ok.w, ok.K, ok.mg, ok.base]; exact g4) ok.room (ok.gl h2) (by rw [ok.mg]; exact g1) (by rw [ok.K]; exact g2) (by rw [ok.K]; exact g3) .nil pass0 (nm_of h3).1, ?_⟩
      exact sem_call g5 sem_nil
  | cons b bs =>
    have hb : noStar b = true := by
      cases es with
      | nil => simp [okEs] at h4
      | cons _ _ =>
        unfold okEs at h4
        simp only [Bool.and_eq_true] at h4
        exact h4.2.1
    refine ⟨_, fun X st ok => pe_call (CX := CX0) (k := c.n) (f := fa) (fd := fd) (ps := ps) (sp := spD c.K ps.length (c.Φ f)) (dvs := []) (ds := []) (E := E0) (by rw [ok.prog, ok.w, ok.K, ok.mg, ok.base]; exact g4) ok.room (ok.gl h2) (by rw [ok.mg]; exact g1) (by rw [ok.K]; exact g2) (by rw [ok.K]; exact g3) .nil pass0 (ht X st ok) (nm_of h3).1 (star_cons hb) ?_, sem_call g5 hs⟩
    cases es with
    | nil => simp [okEs] at h4
    | cons _ _ =>
      unfold okEs at h4
      simp only [Bool.and_eq_true] at h4
      exact plain_star h4.2.2
theorem blt_boot (b : Blt) : (∀ id, bltK b = .b id → bootBuiltins (bltX b) = some (.builtin id)) ∧ (∀ T, bltK b = .t T → bootBuiltins (bltX b) = some (.type T)) ∧ bltX b ≠ "__name__" ∧ (bltX b == ("__debug__" : Str)) = false := by
  cases b <;> refine ⟨fun id e => ?_, fun T e => ?_, by decide +kernel, by decide +kernel⟩ <;> cases e <;> decide +kernel
theorem s_blt (o : c.Ok) {sc : Scope} {b : Blt} {es : Es} {a : Expr} (h : okE c.nm sc (.blt b es) a = true) (ih : ∀ as, okEs c.nm sc es as = true → SndA c sc es as) : SndE c sc (.blt b es) a := by
  obtain ⟨y, p, e, as, p', rfl, h1, h2, h4⟩ := inv_blt h
  obtain ⟨t, ht, hs⟩ := ih (e :: as) h4
  have hst : noStar e = true ∧ ∀ pos env, (backTo pos (starEach as env)).any (·.1) = false := by
    cases es with
    | nil => simp [okEs] at h4
    | cons _ _ =>
      unfold okEs at h4
      simp only [Bool.and_eq_true] at h4
      exact ⟨h4.2.1, fun _ _ => plain_star h4.2.2⟩
  unfold bltOk at h1
  obtain ⟨e1, h1⟩ := Bool.and_eq_true_iff.mp h1
  have e1 : y = bltX b := of_decide_eq_true e1
  subst e1
  obtain ⟨b1, b2, b3, b4⟩ := blt_boot b
  refine ⟨tCB (rBlt c.K b) t, fun X st ok => ?_, sem_cs (blt_s b) hs⟩
  have hc := blt_c b ok.K ok.calm
  cases hk : bltK b with
  | b id =>
    rw [hk] at hc
    have hfr : c.nm.fr.contains (bltX b) = true := by
      cases b <;> first | exact h1 | cases hk
    exact pe_callB hc (ok.gl h2) (ok.none o hfr) (b1 id hk) (ht X st ok) b3 b4 (star_cons hst.1) (hst.2 _ _)
  | t T =>
    rw [hk] at hc
    have hfr : c.nm.fr.contains (bltX b) = true := by
      cases b <;> first | exact h1 | cases hk
    exact pe_callTy hc (ok.gl h2) (ok.none o hfr) (b2 T hk) (ht X st ok) b3 b4 (star_cons hst.1) (hst.2 _ _)
  | m id =>
    rw [hk] at hc
    have hg : c.mg (bltX b) = some (.builtin id) := by
      cases b <;> first | (cases hk; done) | skip
      cases hk
      rw [Bool.not_eq_true'] at h1
      exact o.gcd h1
    exact pe_callBfun hc (ok.gl h2) (by rw [ok.mg]; exact hg) (ht X st ok) b4 (star_cons hst.1) (hst.2 _ _)
theorem boot_ty (t : Ty) : bootBuiltins (tyS t) = some (.type (tyN t)) ∧ tyS t ≠ "__name__" ∧ (tyS t == ("__debug__" : Str)) = false := by
  cases t <;> exact ⟨by decide +kernel, by decide +kernel, by decide +kernel⟩
theorem pe_ty (o : c.Ok) {X : Cx} {sc st : Scope} (ok : XOk c X sc st) {t : Ty} {z : Str} {p : Pos} (h : okTys c.nm sc [t] [.Name z default] = true) : PE X (.Name z p) (tC (.ty (tyN t))) := by
  unfold okTys at h
  simp only [Bool.and_eq_true, decide_eq_true_eq] at h
  obtain ⟨rfl, h1, h2, _⟩ := h
  obtain ⟨b1, b2, b3⟩ := boot_ty t
  exact pe_bltn (ok.gl h1) (ok.none o h2) b1 rfl b2 b3
theorem pa_tys (o : c.Ok) {X : Cx} {sc st : Scope} (ok : XOk c X sc st) : ∀ {ts : List Ty} {zs : List Expr}, okTys c.nm sc ts zs = true → PA X zs (tTys ts)
  | [], [], _ => pa_nil
  | [], _ :: _, h => by simp [okTys] at h
  | _ :: _, [], h => by simp [okTys] at h
  | t :: ts, z :: zs, h => by
    cases z <;> first | (simp [okTys] at h; done) | skip
    rename_i z p
    have h' := h
    unfold okTys at h'
    simp only [Bool.and_eq_true, decide_eq_true_eq] at h'
    obtain ⟨g1, g2, g3, g4⟩ := h'
    refine pa_cons (pe_ty (p := p) o ok (t := t) (z := z) ?_) (pa_tys o ok g4)
    unfold okTys okTys
    simp only [Bool.and_eq_true, decide_eq_true_eq]
    exact ⟨g1, g2, g3, trivial⟩
theorem boot_isi : bootBuiltins ("isinstance" : Str) = some (.builtin "isinstance") := by decide +kernel
theorem s_isi (o : c.Ok) {sc : Scope} {e : E} {t : Ty} {a : Expr} (h : okE c.nm sc (.isi e t) a = true) (ih : ∀ a, okE c.nm sc e a = true → SndE c sc e a) : SndE c sc (.isi e t) a := by
  obtain ⟨y, p, l, z, q, p', rfl, rfl, h1, h2, h3, h4, h5⟩ := inv_isi h
  obtain ⟨tr, ht, hs⟩ := ih l h3
  refine ⟨_, fun X st ok => pe_callB (K_isi ok) (ok.gl h1) (ok.none o h2) boot_isi (pa_cons (ht X st ok) (pa_cons (pe_ty o ok h5) pa_nil) (star_cons h4)) (by decide +kernel) (by decide +kernel) (star_cons h4) rfl, sem_isi hs⟩
where
  K_isi {X : Cx} {sc st : Scope} (ok : XOk c X sc st) : CallR X (.builtin "isinstance") (rIsi c.K) := by rw [← ok.K]; exact call_isi
theorem okTys_len {m : Nm} {sc : Scope} : ∀ {ts : List Ty} {zs : List Expr}, okTys m sc ts zs = true → ts.length = zs.length
  | [], [], _ => rfl
  | [], _ :: _, h => by simp [okTys] at h
  | _ :: _, [], h => by simp [okTys] at h
  | t :: ts, z :: zs, h => by
    cases z <;> first | (simp [okTys] at h; done) | skip
    unfold okTys at h
    simp only [Bool.and_eq_true] at h
    exact congrArg (· + 1) (okTys_len h.2.2.2)
theorem s_isis (o : c.Ok) {sc : Scope} {e : E} {ts : List Ty} {a : Expr} (h : okE c.nm sc (.isis e ts) a = true) (ih : ∀ a, okE c.nm sc e a = true → SndE c sc e a) : SndE c sc (.isis e ts) a := by
  obtain ⟨y, p, l, zs, kk, q, p', rfl, rfl, h1, h2, h3, h4, h5, h6⟩ := inv_isis h
  obtain ⟨tr, ht, hs⟩ := ih l h3
  refine ⟨_, fun X st ok => pe_callB (r := rIsiT c.K) (by rw [← ok.K]; exact call_isiT) (ok.gl h1) (ok.none o h2) boot_isi (pa_cons (ht X st ok) (pa_cons (pe_tup (pa_tys o ok h5)) pa_nil) (star_cons h4)) (by decide +kernel) (by decide +kernel) (star_cons h4) rfl, sem_isis h6 hs⟩
theorem s_slc {sc : Scope} {e : E} {lo hi : Eo} {a : Expr} (h : okE c.nm sc (.slc e lo hi) a = true) (ih : ∀ a, okE c.nm sc e a = true → SndE c sc e a) (i1 : ∀ a, okEo c.nm sc lo a = true → SndO c sc lo a) (i2 : ∀ a, okEo c.nm sc hi a = true → SndO c sc hi a) : SndE c sc (.slc e lo hi) a := by
  obtain ⟨l, u, v, p, q, rfl, h1, h2, h3⟩ := inv_slc h
  obtain ⟨t1, ht1, hs1⟩ := ih l h1
  obtain ⟨t2, ht2, hs2⟩ := i1 u h2
  obtain ⟨t3, ht3, hs3⟩ := i2 v h3
  exact ⟨_, fun X st ok => pe_slice (slc_op ok.K) (ht1 X st ok) (ht2 X st ok) (ht3 X st ok), sem_slc hs1 hs2 hs3⟩
theorem boot_nm : bootBuiltins ("range" : Str) = some (.type "range") ∧ bootBuiltins ("dict" : Str) = some (.type "dict") ∧ bootBuiltins ("zip" : Str) = some (.type "zip") := by decide +kernel
/-! ### targets -/
theorem asgE_len {m : Nm} {sc : Scope} {env : Env} : ∀ {is : List Nat} {es : List Expr}, okNm m sc is es = true → (assignEach es env).length = is.length ∧ (assignEach es env).findIdx? (·.1) = none
  | [], [], _ => ⟨rfl, rfl⟩
  | [], _ :: _, h => by simp [okNm] at h
  | _ :: _, [], h => by simp [okNm] at h
  | i :: is, x :: es, h => by
    cases x <;> first | (simp [okNm] at h; done) | skip
    unfold okNm at h
    simp only [Bool.and_eq_true] at h
    obtain ⟨g1, g2⟩ := asgE_len (env := env) h.2.2
    refine ⟨congrArg (· + 1) g1, ?_⟩
    show List.findIdx? _ ((false, _) :: assignEach es env) = none
    rw [List.findIdx?_cons]
    simp only [Bool.false_eq_true, if_false, g2]
    rfl
theorem pg_nm (o : c.Ok) {X : Cx} {sc st : Scope} (ok : XOk c X sc st) {i : Nat} {x : Str} {p : Pos} (h1 : c.nm.N[i]? = some x) (h2 : locB st x = true) : PG X (.Name x p) (gName i) := by
  obtain ⟨q1, q2⟩ := ok.sto x (loc_of h2)
  exact pg_name (ok.nd o) (by rw [ok.N]; exact h1) q1 q2
theorem pgs_nms (o : c.Ok) {X : Cx} {sc st : Scope} (ok : XOk c X sc st) : ∀ {is : List Nat} {es : List Expr}, okNm c.nm st is es = true → PGs X es (gNs is)
  | [], [], _ => pgs_nil
  | [], _ :: _, h => by simp [okNm] at h
  | _ :: _, [], h => by simp [okNm] at h
  | i :: is, x :: es, h => by
    cases x <;> first | (simp [okNm] at h; done) | skip
    unfold okNm at h
    simp only [Bool.and_eq_true, decide_eq_true_eq] at h
    exact pgs_cons (pg_nm o ok h.1 h.2.1) (pgs_nms o ok h.2.2)
/-- a target's reading -/
def gOf (K : PySem.W.Frag) : Tg → TG
  | .nm i => gName i
  | .tp is => fun v σ H Q => gTup K is.length (gNs is) v σ H Q ∨ gUnl K is.length (gNs is) v σ H Q
theorem gOf_sem {K : PySem.W.Frag} : ∀ tg, SemG K (gOf K tg) tg
  | .nm i => sem_gName
  | .tp is => sem_gTup
theorem pg_of (o : c.Ok) {X : Cx} {sc st : Scope} (ok : XOk c X sc st) {tg : Tg} {t : Expr} (h : okTg c.nm st tg t = true) : PG X t (gOf c.K tg) := by
  unfold okTg at h
  split at h
  · simp only [Bool.and_eq_true, decide_eq_true_eq] at h
    exact pg_nm o ok h.1 h.2
  · rename_i is es k p
    obtain ⟨g1, g2⟩ := asgE_len (env := X.env) h
    have a := pg_tup (k := k) (pos := p) ok.calm (pgs_nms o ok h) g1 g2
    have b := pg_unl (k := k) (pos := p) ok.calm (pgs_nms o ok h) g1 g2
    rw [ok.K] at a b
    exact PG.or a b
  · cases h
/-- the block of a comprehension -/
theorem XOk.blk {X : Cx} {sc st scope : Scope} {own : List (Str × Nat)} (ok : XOk c X sc st) (hb : blkC c.nm.N sc scope own = true) (s : Shared) (H : Hp) (C : Addr) (cl : List (Str × Addr)) (fp : List Addr) : XOk c (X.blk s H scope (compEnvC scope cl C X.env) fp) (relS scope sc) scope := by
  have hk : scope.kind = .function := (blkOk_by hb).kind
  have hsc : (compEnvC scope cl C X.env).scope = relS scope sc := by
    rw [← ok.scp]
    rfl
  refine ⟨ok.prog, ok.w, ok.K, ok.mg, ok.base, ok.N, hsc, hk, ok.calm, ok.room, rfl, fun x hx => ?_⟩
  have hl : ∀ {k : NameKind}, k ≠ .free → scope.names.lookup x = some k → (compEnvC scope cl C X.env).scope.names.lookup x = some k := fun hn h => by
    rw [hsc]
    exact lookup_relS_keep hn h
  rcases hx with h | h
  · exact ⟨.inl (hl (by decide) h), .inr (hl (by decide) h)⟩
  · refine ⟨.inr (hl (by decide) h), .inl ?_⟩
    show (scope.names.lookup x == some .cell) = true
    rw [h]
    rfl
theorem own_snd (m : Nm) (is : List Nat) : (ownOf m is).map (·.2) = is := by
  unfold ownOf
  rw [List.map_map]
  exact List.map_id' is
/-! ### everything -/
mutual
theorem sndE (o : c.Ok) : ∀ (e : E) {sc : Scope} {a : Expr}, okE c.nm sc e a = true → SndE c sc e a
  | .int i, _, _, h => by
    obtain ⟨k, p, rfl⟩ := inv_int h
    exact ⟨_, fun X st ok => pe_int, sem_c fun _ => .int i⟩
  | .bl i, _, _, h => by
    obtain ⟨k, p, rfl⟩ := inv_bl h
    exact ⟨_, fun X st ok => pe_bl, sem_c fun _ => .bl i⟩
  | .non, _, _, h => by
    obtain ⟨k, p, rfl⟩ := inv_non h
    exact ⟨_, fun X st ok => pe_non, sem_c fun _ => .non⟩
  | .str i, _, _, h => by
    obtain ⟨k, p, rfl⟩ := inv_str h
    exact ⟨_, fun X st ok => pe_str, sem_c fun _ => .str i⟩
  | .pl i, _, _, h => s_pl h
  | .gl i, _, _, h => s_gl o h
  | .tup es, _, _, h => by
    obtain ⟨as, k, p, rfl, h1⟩ := inv_tup h
    obtain ⟨t, ht, hs⟩ := sndA o es h1
    exact ⟨_, fun X st ok => pe_tup (ht X st ok), sem_tup hs⟩
  | .lst es, _, _, h => by
    obtain ⟨as, p, rfl, h1⟩ := inv_lst h
    obtain ⟨t, ht, hs⟩ := sndA o es h1
    exact ⟨_, fun X st ok => pe_lst (ht X st ok), sem_lst hs⟩
  | .bin op a b, _, _, h => by
    obtain ⟨l, r, p, rfl, h1, h2⟩ := inv_bin h
    obtain ⟨t1, ht1, hs1⟩ := sndE o a h1
    obtain ⟨t2, ht2, hs2⟩ := sndE o b h2
    exact ⟨_, fun X st ok => pe_op (bin_op op ok.K) (ht1 X st ok) (ht2 X st ok), sem_r2 (bin_s op) hs1 hs2⟩
  | .neg a, _, _, h => by
    obtain ⟨l, p, rfl, h1⟩ := inv_neg h
    obtain ⟨t1, ht1, hs1⟩ := sndE o a h1
    exact ⟨_, fun X st ok => pe_un un_neg (ht1 X st ok), sem_neg hs1⟩
  | .cmp op a b, _, _, h => by
    obtain ⟨l, r, p, rfl, h1, h2, h3⟩ := inv_cmp h
    obtain ⟨t1, ht1, hs1⟩ := sndE o a h1
    obtain ⟨t2, ht2, hs2⟩ := sndE o b h2
    exact ⟨_, fun X st ok => pe_cmpR (cmp_op op ok.K ok.room.units) (ht1 X st ok) (ht2 X st ok) h3, sem_cmp hs1 hs2⟩
  | .chn o1 o2 a b d, _, _, h => by
    obtain ⟨l, r, s, p, rfl, h1, h2, h3, h4⟩ := inv_chn h
    obtain ⟨t1, ht1, hs1⟩ := sndE o a h1
    obtain ⟨t2, ht2, hs2⟩ := sndE o b h2
    obtain ⟨t3, ht3, hs3⟩ := sndE o d h3
    exact ⟨_, fun X st ok => pe_chain (cmp_op o1 ok.K ok.room.units) (cmp_op o2 ok.K ok.room.units) (ht1 X st ok) (ht2 X st ok) (ht3 X st ok) h4, sem_chn hs1 hs2 hs3⟩
  | .and a b, _, _, h => by
    obtain ⟨l, y, r, p, rfl, h1, h2⟩ := inv_and h
    obtain ⟨t1, ht1, hs1⟩ := sndE o a h1
    obtain ⟨t2, ht2, hs2⟩ := sndE o b h2
    exact ⟨_, fun X st ok => pe_and (ht1 X st ok) (ht2 X st ok), sem_and hs1 hs2⟩
  | .or a b, _, _, h => by
    obtain ⟨l, y, r, p, rfl, h1, h2⟩ := inv_or h
    obtain ⟨t1, ht1, hs1⟩ := sndE o a h1
    obtain ⟨t2, ht2, hs2⟩ := sndE o b h2
    exact ⟨_, fun X st ok => pe_or (ht1 X st ok) (ht2 X st ok), sem_or hs1 hs2⟩
  | .one a, _, _, h => by
    obtain ⟨op, l, p, rfl, h1⟩ := inv_one h
    obtain ⟨t1, ht1, hs1⟩ := sndE o a h1
    exact ⟨_, fun X st ok => pe_one (ht1 X st ok), hs1⟩
  | .not a, _, _, h => by
    obtain ⟨l, p, rfl, h1⟩ := inv_not h
    obtain ⟨t1, ht1, hs1⟩ := sndE o a h1
    exact ⟨_, fun X st ok => pe_not (ht1 X st ok), sem_not hs1⟩
  | .ife t a b, _, _, h => by
    obtain ⟨q, l, r, p, rfl, h0, h1, h2⟩ := inv_ife h
    obtain ⟨t0, ht0, hs0⟩ := sndT o t h0
    obtain ⟨t1, ht1, hs1⟩ := sndE o a h1
    obtain ⟨t2, ht2, hs2⟩ := sndE o b h2
    exact ⟨_, fun X st ok => pe_ifExp (ht0 X st ok).1 (ht1 X st ok) (ht2 X st ok), sem_ife hs0 hs1 hs2⟩
  | .ix a b, _, _, h => by
    obtain ⟨l, r, p, rfl, h1, h2, h3⟩ := inv_ix h
    obtain ⟨t1, ht1, hs1⟩ := sndE o a h1
    obtain ⟨t2, ht2, hs2⟩ := sndE o b h2
    exact ⟨_, fun X st ok => pe_ix (r := rIx c.K) (by rw [← ok.K]; exact ix_seq) (ht1 X st ok) (ht2 X st ok) (plainIx_of h3), sem_r2 r2_ix hs1 hs2⟩
  | .slc a lo hi, _, _, h => s_slc h (fun _ h => sndE o a h) (fun _ h => sndO o lo h) (fun _ h => sndO o hi h)
  | .call f es, _, _, h => s_call o h fun _ h => sndA o es h
  | .blt b es, _, _, h => s_blt o h fun _ h => sndA o es h
  | .isi a t, _, _, h => s_isi o h fun _ h => sndE o a h
  | .isis a ts, _, _, h => s_isis o h fun _ h => sndE o a h
  | .comp tg it t e, sc, _, h => by
    obtain ⟨elt, tt, i, ifs, scope, p, rfl, h1, h2, h3, h4, h5, h6, h7⟩ := inv_comp h
    obtain ⟨t1, ht1, hs1⟩ := sndI o it h3
    obtain ⟨t2, ht2, hs2⟩ := sndE o e h5
    have hT : ∃ tT, (∀ X st, XOk c X (relS scope sc) st → PTs X ifs tT) ∧ SemT c.K tT (evT c.G c.Φ t) := by
      cases ifs with
      | nil =>
        have h4' : isYes t = true := h4
        cases t <;> first | (cases h4'; done) | skip
        exact ⟨_, fun X st ok => pts_nil, semT_yes⟩
      | cons g r =>
        cases r with
        | nil =>
          obtain ⟨t0, ht0, hs0⟩ := sndT o t (show okT c.nm (relS scope sc) t g = true from h4)
          exact ⟨_, fun X st ok => pts_one (ht0 X st ok).1, hs0⟩
        | cons _ _ => exact absurd (show false = true from h4) Bool.false_ne_true
    obtain ⟨tT, htT, hsT⟩ := hT
    refine ⟨tLc t1 (gOf c.K tg) tT t2 tg.sl, fun X st ok => ?_, sem_comp hs1 (gOf_sem tg) hsT hs2⟩
    have hb : BlkOk X.N X.env.scope scope (ownOf c.nm tg.sl) := by
      rw [ok.N, ok.scp]
      exact blkOk_by h1
    have := pe_lc (pos := p) ok.calm (ok.nd o) (ht1 X st ok) hb (fun s H C cl fp => pg_of o (ok.blk h1 s H C cl fp) h2) (fun s H C cl fp => htT _ _ (ok.blk h1 s H C cl fp)) (fun s H C cl fp => ht2 _ _ (ok.blk h1 s H C cl fp)) (fold_no h6)
    rw [own_snd] at this
    exact this
  | .pop i, _, _, h => by
    obtain ⟨y, p, f, ap, p', rfl, rfl, h1, h2, h3, h4⟩ := inv_pop h
    refine ⟨_, fun X st ok => ?_, sem_pop⟩
    have := pe_bm0 (X := X) PySem.F.plainAttrs_list PySem.F.slot_list_pop PySem.F.type_list_pop mt_pop (pe_pl (p := p) ok h1 h2 h3) rfl h4
    rw [ok.K] at this
    exact this
  | .popAt i e, _, _, h => by
    obtain ⟨y, p, f, ap, b, p', rfl, rfl, h1, h2, h3, h4, h5, h6⟩ := inv_popAt h
    obtain ⟨t1, ht1, hs1⟩ := sndE o e h5
    refine ⟨_, fun X st ok => ?_, sem_popAt hs1⟩
    have := pe_bm (X := X) PySem.F.plainAttrs_list PySem.F.slot_list_pop PySem.F.type_list_pop mt_popAt (pe_pl (p := p) ok h1 h2 h3) (pa_cons (ht1 X st ok) pa_nil (star_cons h6)) rfl (by rw [star_cons h6]; rfl) h4 (star_cons h6) rfl
    rw [ok.K] at this
    exact this
  | .dget a b, _, _, h => by
    obtain ⟨l, r, p, rfl, h1, h2, h3⟩ := inv_dget h
    obtain ⟨t1, ht1, hs1⟩ := sndE o a h1
    obtain ⟨t2, ht2, hs2⟩ := sndE o b h2
    exact ⟨_, fun X st ok => pe_dget ok.hu (ht1 X st ok) (ht2 X st ok) (plainIx_of h3), sem_dget hs1 hs2⟩
  | .din n a b, _, _, h => by
    obtain ⟨l, op, r, p, rfl, h0, h1, h2, h3⟩ := inv_din h
    obtain ⟨t1, ht1, hs1⟩ := sndE o a h1
    obtain ⟨t2, ht2, hs2⟩ := sndE o b h2
    refine ⟨_, fun X st ok => ?_, sem_din (n := n) hs1 hs2⟩
    cases n with
    | true =>
      subst h0
      exact pe_cmp (pc_dnotin ok.hu (ht1 X st ok) (ht2 X st ok)) h3
    | false =>
      subst h0
      exact pe_cmp (pc_din ok.hu (ht1 X st ok) (ht2 X st ok)) h3
  | .dzip a b, _, _, h => by
    obtain ⟨y, p, z, q, u, v, p1, p2, rfl, rfl, rfl, h1, h2, h3, h4, h5, h6, h7, h8⟩ := inv_dzip h
    obtain ⟨t1, ht1, hs1⟩ := sndE o a h5
    obtain ⟨t2, ht2, hs2⟩ := sndE o b h6
    refine ⟨_, fun X st ok => ?_, sem_dzip hs1 hs2⟩
    have := Dz.pe_dzip (X := X) (p := p) (p2 := q) (pos := p2) (pos2 := p1) ok.calm (ok.gl h1) (ok.none o h3) (ok.gl h2) (ok.none o h4) (pa_cons (ht1 X st ok) (pa_cons (ht2 X st ok) pa_nil (star_cons h8)) (star_cons h7)) (star_cons h7) (by rw [star_cons h8]; rfl)
    rw [ok.K] at this
    exact this
  | .scl i lo hi, _, _, h => by
    obtain ⟨y, p', u, v, p, q, rfl, h1, h2, h3, h4, h5⟩ := inv_scl h
    obtain ⟨t2, ht2, hs2⟩ := sndO o lo h4
    obtain ⟨t3, ht3, hs3⟩ := sndO o hi h5
    exact ⟨_, fun X st ok => pe_slice (slc_op ok.K) (pe_pl ok h1 h2 h3) (ht2 X st ok) (ht3 X st ok), sem_scl hs2 hs3⟩
  | .callR f i es, _, _, h => by
    obtain ⟨y, p, z, q, as, p', rfl, h1, h2, h3, h4, h5, h6, h7⟩ := inv_callR h
    obtain ⟨fa, fd, ps, g1, g2, g3, g4, _, g5, _⟩ := o.call f y h1
    obtain ⟨t, ht, hs⟩ := sndA o es h7
    exact ⟨_, fun X st ok => pe_call (CX := CX0) (k := c.n) (f := fa) (fd := fd) (ps := ps) (sp := spD c.K ps.length (c.Φ f)) (dvs := []) (ds := []) (E := E0) (by rw [ok.prog, ok.w, ok.K, ok.mg, ok.base]; exact g4) ok.room (ok.gl h2) (by rw [ok.mg]; exact g1) (by rw [ok.K]; exact g2) (by rw [ok.K]; exact g3) .nil pass0 (pa_cons (pe_pl ok h4 h5 h6) (ht X st ok) (star_cons rfl)) (nm_of h3).1 (star_cons rfl) (plain_star h7), sem_callR g5 hs⟩
theorem sndA (o : c.Ok) : ∀ (es : Es) {sc : Scope} {as : List Expr}, okEs c.nm sc es as = true → SndA c sc es as
  | .nil, _, [], _ => ⟨_, fun X st ok => pa_nil, sem_nil⟩
  | .nil, _, _ :: _, h => by simp [okEs] at h
  | .cons _ _, _, [], h => by simp [okEs] at h
  | .cons e es, _, a :: as, h => by
    unfold okEs at h
    simp only [Bool.and_eq_true] at h
    obtain ⟨t1, ht1, hs1⟩ := sndE o e h.1
    obtain ⟨t2, ht2, hs2⟩ := sndA o es h.2.2
    exact ⟨_, fun X st ok => pa_cons (ht1 X st ok) (ht2 X st ok) (star_cons h.2.1), sem_cons hs1 hs2⟩
theorem sndO (o : c.Ok) : ∀ (e : Eo) {sc : Scope} {a : Option Expr}, okEo c.nm sc e a = true → SndO c sc e a
  | .no, _, none, _ => ⟨_, fun X st ok => po_none, sem_no⟩
  | .no, _, some _, h => by simp [okEo] at h
  | .so _, _, none, h => by simp [okEo] at h
  | .so e, _, some a, h => by
    unfold okEo at h
    obtain ⟨t1, ht1, hs1⟩ := sndE o e h
    exact ⟨_, fun X st ok => po_some (ht1 X st ok), sem_so hs1⟩
theorem sndT (o : c.Ok) : ∀ (e : T) {sc : Scope} {a : Expr}, okT c.nm sc e a = true → SndT c sc e a
  | .yes, _, _, h => by simp [okT] at h
  | .val e, _, a, h => by
    obtain ⟨h1, h2⟩ := inv_tval h
    obtain ⟨t1, ht1, hs1⟩ := sndE o e h1
    refine ⟨_, fun X st ok => ⟨pt_val (ht1 X st ok) (test_plain h2), fun z => ?_⟩, semT_val hs1⟩
    cases a <;> first | (cases z; done) | cases h2
  | .cmp op a b, _, _, h => by
    obtain ⟨l, r, p, rfl, h1, h2, h3⟩ := inv_tcmp h
    obtain ⟨t1, ht1, hs1⟩ := sndE o a h1
    obtain ⟨t2, ht2, hs2⟩ := sndE o b h2
    refine ⟨_, fun X st ok => ⟨pt_cmpR (cmp_op op ok.K ok.room.units) (ht1 X st ok) (ht2 X st ok) h3, fun z => nomatch z⟩, semT_of (sem_cmp hs1 hs2) (fun q => q) fun ρ b' ρ' e => ?_⟩
    have e' : (match evE c.G c.Φ a ρ with
      | some (x, ρ1) => (match evE c.G c.Φ b ρ1 with
        | some (y, ρ2) => (match cmpF op (rdV ρ2 x) (rdV ρ2 y) with
          | some z => some (z, ρ2)
          | none => none)
        | none => none)
      | none => none) = some (b', ρ') := e
    clear e
    split at e' <;> first | contradiction | skip
    rename_i g1
    split at e' <;> first | contradiction | skip
    rename_i g2
    split at e' <;> first | contradiction | skip
    rename_i g3
    cases e'
    simp only [g1, g2, g3]
  | .chn o1 o2 a b d, _, _, h => by
    obtain ⟨l, r, s, p, rfl, h1, h2, h3, h4⟩ := inv_tchn h
    obtain ⟨t1, ht1, hs1⟩ := sndE o a h1
    obtain ⟨t2, ht2, hs2⟩ := sndE o b h2
    obtain ⟨t3, ht3, hs3⟩ := sndE o d h3
    refine ⟨_, fun X st ok => ⟨pt_chain (cmp_op o1 ok.K ok.room.units) (cmp_op o2 ok.K ok.room.units) (ht1 X st ok) (ht2 X st ok) (ht3 X st ok) h4, fun z => nomatch z⟩, semT_of (sem_chn hs1 hs2 hs3) (fun q => q) fun ρ b' ρ' e => ?_⟩
    have e' : (match evE c.G c.Φ a ρ with
      | some (x, ρ1) => (match evE c.G c.Φ b ρ1 with
        | some (y, ρ2) => (match cmpF o1 (rdV ρ2 x) (rdV ρ2 y) with
          | some false => some (false, ρ2)
          | some true => (match evE c.G c.Φ d ρ2 with
            | some (z, ρ3) => (match cmpF o2 (rdV ρ3 y) (rdV ρ3 z) with
              | some r => some (r, ρ3)
              | none => none)
            | none => none)
          | none => none)
        | none => none)
      | none => none) = some (b', ρ') := e
    clear e
    split at e' <;> first | contradiction | skip
    rename_i g1
    split at e' <;> first | contradiction | skip
    rename_i g2
    split at e' <;> first | contradiction | skip
    · rename_i g3
      cases e'
      simp only [g1, g2, g3]
    · rename_i g3
      split at e' <;> first | contradiction | skip
      rename_i g4
      split at e' <;> first | contradiction | skip
      rename_i g5
      cases e'
      simp only [g1, g2, g3, g4, g5]
  | .din n a b, _, _, h => by
    obtain ⟨l, op, r, p, rfl, h0, h1, h2, h3⟩ := inv_tdin h
    obtain ⟨t1, ht1, hs1⟩ := sndE o a h1
    obtain ⟨t2, ht2, hs2⟩ := sndE o b h2
    refine ⟨_, fun X st ok => ⟨?_, fun z => nomatch z⟩, semT_of (tt := tB (if n then tDNotIn t1 t2 else tDIn t1 t2)) (sem_din (n := n) hs1 hs2) (fun q => q) fun ρ b' ρ' e => ?_⟩
    · cases n with
      | true =>
        subst h0
        exact pt_cmp (pc_dnotin ok.hu (ht1 X st ok) (ht2 X st ok)) h3
      | false =>
        subst h0
        exact pt_cmp (pc_din ok.hu (ht1 X st ok) (ht2 X st ok)) h3
    · have e' : (match evE c.G c.Φ a ρ with
        | some (x, ρ1) => (match evE c.G c.Φ b ρ1 with
          | some (y, ρ2) => (match keyOf (rdV ρ2 x), rdV ρ2 y with
            | some k, .dict kvs => some (if n then !(lookD kvs k).isSome else (lookD kvs k).isSome, ρ2)
            | _, _ => none)
          | none => none)
        | none => none) = some (b', ρ') := e
      clear e
      split at e' <;> first | contradiction | skip
      rename_i g1
      split at e' <;> first | contradiction | skip
      rename_i g2
      split at e' <;> first | contradiction | skip
      rename_i g3 g4
      cases e'
      simp only [g1, g2, g3, g4]
  | .and a b, _, _, h => by
    obtain ⟨l, y, r, p, rfl, h1, h2⟩ := inv_tand h
    obtain ⟨t1, ht1, hs1⟩ := sndT o a h1
    obtain ⟨t2, ht2, hs2⟩ := sndT o b h2
    have w := fun X st (ok : XOk c X _ st) => pw_and (ht1 X st ok).1 ((ht2 X st ok).2 rfl)
    exact ⟨_, fun X st ok => ⟨(w X st ok).pt, fun _ => w X st ok⟩, semT_and hs1 hs2⟩
  | .or a b, _, _, h => by
    obtain ⟨l, y, r, p, rfl, h1, h2⟩ := inv_tor h
    obtain ⟨t1, ht1, hs1⟩ := sndT o a h1
    obtain ⟨t2, ht2, hs2⟩ := sndT o b h2
    have w := fun X st (ok : XOk c X _ st) => pw_or (ht1 X st ok).1 ((ht2 X st ok).2 rfl)
    exact ⟨_, fun X st ok => ⟨(w X st ok).pt, fun _ => w X st ok⟩, semT_or hs1 hs2⟩
  | .one a, _, _, h => by
    obtain ⟨op, l, p, rfl, h1⟩ := inv_tone h
    obtain ⟨t1, ht1, hs1⟩ := sndT o a h1
    have w : ∀ X st, XOk c X _ st → PW X (.BoolOp op [l] p) t1 := fun X st ok => by
      cases op with
      | And => exact pw_and1 (ht1 X st ok).1
      | Or => exact pw_or1 (ht1 X st ok).1
    exact ⟨_, fun X st ok => ⟨(w X st ok).pt, fun _ => w X st ok⟩, hs1⟩
  | .not a, _, _, h => by
    obtain ⟨l, p, rfl, h1⟩ := inv_tnot h
    obtain ⟨t1, ht1, hs1⟩ := sndT o a h1
    exact ⟨_, fun X st ok => ⟨pt_not (ht1 X st ok).1, fun z => nomatch z⟩, semT_not hs1⟩
theorem sndI (o : c.Ok) : ∀ (e : Dn.It) {sc : Scope} {a tg : Expr}, okI c.nm sc e a tg = true → SndI c sc e a tg
  | .sq e, _, _, tg, h => by
    obtain ⟨h1, h2⟩ := inv_isq h
    obtain ⟨t1, ht1, hs1⟩ := sndE o e h1
    refine ⟨_, fun X st ok => ?_, semI_sq hs1⟩
    have a := pi_list (tg := tg) (ht1 X st ok)
    have b := pi_tup (tg := tg) (ht1 X st ok)
    rw [ok.K] at a b
    exact PI.or a b
  | .rng1 e, _, _, _, h => by
    obtain ⟨y, p, a, q, rfl, rfl, h1, h2, h3, h4⟩ := inv_irng1 h
    obtain ⟨t1, ht1, hs1⟩ := sndE o e h3
    exact ⟨_, fun X st ok => pi_range1 (ok.gl h1) (ok.none o h2) (pa_cons (ht1 X st ok) pa_nil (star_cons h4)) (star_cons h4), semI_rng1 hs1⟩
  | .rng2 e g, _, _, _, h => by
    obtain ⟨y, p, a, b, q, rfl, rfl, h1, h2, h3, h4, h5, h6⟩ := inv_irng2 h
    obtain ⟨t1, ht1, hs1⟩ := sndE o e h3
    obtain ⟨t2, ht2, hs2⟩ := sndE o g h5
    exact ⟨_, fun X st ok => pi_range2 (ok.gl h1) (ok.none o h2) (pa_cons (ht1 X st ok) (pa_cons (ht2 X st ok) pa_nil (star_cons h6)) (star_cons h4)) (by rw [star_cons h4, star_cons h6]; rfl) (star_cons h6), semI_rng2 hs1 hs2⟩
  | .enm e, _, _, t, h => by
    obtain ⟨y, p, a, q, rfl, rfl, h1, h2, h3, h4, h5⟩ := inv_ienm h
    obtain ⟨t1, ht1, hs1⟩ := sndE o e h3
    cases t <;> first | (cases h5; done) | skip
    rename_i elts kk tp
    refine ⟨_, fun X st ok => ?_, semI_enm hs1⟩
    have := pi_num (X := X) (elts := elts) (kk := kk) (tpos := tp) (p := p) (pos := q) (ok.gl h1) (ok.none o h2) (pa_cons (ht1 X st ok) pa_nil (star_cons h4)) (star_cons h4)
    rw [ok.K] at this
    exact this
  | .zp e g, _, _, t, h => by
    obtain ⟨y, p, a, b, q, rfl, rfl, h1, h2, h3, h4, h5, h6, h7⟩ := inv_izp h
    obtain ⟨t1, ht1, hs1⟩ := sndE o e h3
    obtain ⟨t2, ht2, hs2⟩ := sndE o g h5
    cases t <;> first | (cases h7; done) | skip
    rename_i elts kk tp
    refine ⟨_, fun X st ok => ?_, semI_zp hs1 hs2⟩
    have := pi_zipA (X := X) (elts := elts) (kk := kk) (tpos := tp) (p := p) (pos := q) (ok.gl h1) (ok.none o h2) (pa_cons (ht1 X st ok) (pa_cons (ht2 X st ok) pa_nil (star_cons h6)) (star_cons h4)) (star_cons h4) (by rw [star_cons h6]; rfl)
    rw [ok.K] at this
    exact this
  | .rev e, _, _, tg, h => by
    obtain ⟨y, p, a, q, rfl, rfl, h1, h2, h3, h4⟩ := inv_irev h
    obtain ⟨t1, ht1, hs1⟩ := sndE o e h3
    refine ⟨_, fun X st ok => ?_, semI_rev hs1⟩
    have := pi_revA (X := X) (tg := tg) (p := p) (pos := q) (ok.gl h1) (ok.none o h2) (ht1 X st ok) (star_cons h4)
    rw [ok.K] at this
    exact this
end
end Dn
set_option Elab.async false
set_option linter.all false
set_option maxRecDepth 100000
set_option maxHeartbeats 4000000
/-! Dn, part C12: statements. -/
namespace Dn
open PySem L2
/-- how a def's body stands, seen from its entry -/
structure Gd (K : PySem.W.Frag) (ρ0 : Rho) (σ0 : L2.St) (Hf0 H0 : Hp) (ρ : Rho) (σ : L2.St) (Hf H : Hp) : Prop where
  st : Sta K ρ σ Hf H
  ex : Ex Hf0 Hf
  fr : ∀ a, H0 a ≠ none → Hf0 a = none → Hf a = none
  fm : ∀ a o, H0 a = some o → (∀ (i : Nat) (ov : OV), ρ0[i]? = some (.own true ov) → σ0[i]? ≠ some (some (.ref a))) → H a = some o
  rf : ∀ (i : Nat), (∃ o, ρ0[i]? = some (.own true o)) ↔ (∃ o, ρ[i]? = some (.own true o))
  rs : ∀ (i : Nat) (o : OV), ρ0[i]? = some (.own true o) → σ[i]? = σ0[i]?
  nw : ∀ (i : Nat) (o : OV) (a : Addr), ρ[i]? = some (.own false o) → σ[i]? = some (some (.ref a)) → H0 a = none
  ln : ρ.length = ρ0.length
structure Fin (K : PySem.W.Frag) (ρ0 : Rho) (σ0 : L2.St) (Hf0 H0 : Hp) (ρ : Rho) (Hf H : Hp) (R : Prop) : Prop where
  ex : Ex Hf0 Hf
  exh : Ex Hf H
  fr : ∀ a, H0 a ≠ none → Hf0 a = none → Hf a = none
  fm : ∀ a o, H0 a = some o → (∀ (i : Nat) (ov : OV), ρ0[i]? = some (.own true ov) → σ0[i]? ≠ some (some (.ref a))) → H a = some o
  rf : ∀ (i : Nat) (o : OV), ρ0[i]? = some (.own true o) → ∃ o', ρ[i]? = some (.own true o') ∧ ∀ a, σ0[i]? = some (some (.ref a)) → Hf a = none ∧ OVat K Hf H a o'
  rd : R
  ln : ρ.length = ρ0.length
section
variable {K : PySem.W.Frag} {ρ0 : Rho} {σ0 : L2.St} {Hf0 H0 : Hp} {ρ ρ1 ρ2 : Rho} {σ σ1 σ' : L2.St} {Hf H Hf1 H1 Hf' H' : Hp}
theorem Gd.dom (g : Gd K ρ0 σ0 Hf0 H0 ρ σ Hf H) {b : Addr} (h : H0 b ≠ none) : H b ≠ none := by
  by_cases q : ∀ (i : Nat) (ov : OV), ρ0[i]? = some (.own true ov) → σ0[i]? ≠ some (some (.ref b))
  · cases e : H0 b with
    | none => exact absurd e h
    | some o =>
      rw [g.fm b o e q]
      exact fun z => by cases z
  · have q' : ∃ (i : Nat) (ov : OV), ρ0[i]? = some (.own true ov) ∧ σ0[i]? = some (some (.ref b)) := by
      apply Classical.byContradiction
      intro z
      exact q fun i ov h1 h2 => z ⟨i, ov, h1, h2⟩
    obtain ⟨i, ov, h1, h2⟩ := q'
    obtain ⟨o', h3⟩ := (g.rf i).mp ⟨ov, h1⟩
    obtain ⟨a', h4, h5, h6⟩ := g.st.own i true o' h3
    rw [g.rs i ov h1, h2] at h4
    cases h4
    obtain ⟨u, hu⟩ := h6.some
    rw [hu]
    exact fun z => by cases z
/-- no slot of one's own stands where an outer object is, but the ones by reference -/
theorem Gd.apart (g : Gd K ρ0 σ0 Hf0 H0 ρ σ Hf H) {a : Addr} {o : HO} (h : H0 a = some o) (q : ∀ (i : Nat) (ov : OV), ρ0[i]? = some (.own true ov) → σ0[i]? ≠ some (some (.ref a))) :
    ∀ (i : Nat) (r : Bool) (ov : OV), ρ[i]? = some (.own r ov) → σ[i]? ≠ some (some (.ref a)) := fun i r ov h1 h2 => by
  cases r with
  | true =>
    obtain ⟨o', h3⟩ := (g.rf i).mpr ⟨ov, h1⟩
    refine q i o' h3 ?_
    rw [← g.rs i o' h3]
    exact h2
  | false =>
    have := g.nw i ov a h1 h2
    rw [h] at this
    cases this
theorem Gd.start (s : Sta K ρ σ Hf H) (hn : ∀ (i : Nat) (o : OV), ρ[i]? ≠ some (.own false o)) : Gd K ρ σ Hf H ρ σ Hf H :=
  ⟨s, Ex.refl _, fun _ _ h => h, fun _ _ h _ => h, fun _ => Iff.rfl, fun _ _ _ => rfl, fun i o a h => absurd h (hn i o), rfl⟩
theorem Gd.step (g : Gd K ρ0 σ0 Hf0 H0 ρ σ Hf H) (s : Step K ρ σ Hf H ρ1 Hf1 H1) : Gd K ρ0 σ0 Hf0 H0 ρ1 σ Hf1 H1 :=
  ⟨s.st, g.ex.trans s.ex, fun a h1 h2 => s.fr a (g.dom h1) (g.fr a h1 h2), fun a o h q => s.fm a o (g.fm a o h q) (g.apart h q), fun i => (g.rf i).trans (s.ow i true), fun i o h => g.rs i o h,
    fun i o a h1 h2 => by
      obtain ⟨o', h3⟩ := (s.ow i false).mpr ⟨o, h1⟩
      exact g.nw i o' a h3 h2, by rw [← s.st.len, g.st.len, g.ln]⟩
theorem Gd.off {vs : List Nat} (g : Gd K ρ0 σ0 Hf0 H0 ρ σ Hf H) (s : Sta K ρ1 σ' Hf H) (o : Off vs ρ ρ1 σ σ') : Gd K ρ0 σ0 Hf0 H0 ρ1 σ' Hf H := by
  have iff_ : ∀ (i : Nat) (r : Bool), (∃ o, ρ[i]? = some (.own r o)) ↔ (∃ o, ρ1[i]? = some (.own r o)) := fun i r => by
    by_cases h : i ∈ vs
    · exact ⟨fun ⟨o1, q⟩ => absurd q (o.no i h r o1), fun ⟨o1, q⟩ => absurd q (o.no' i h r o1)⟩
    · rw [o.out i h]
  refine ⟨s, g.ex, g.fr, g.fm, fun i => (g.rf i).trans (iff_ i true), fun i o1 h => ?_, fun i o1 a h1 h2 => ?_, by rw [o.len, g.ln]⟩
  · by_cases hv : i ∈ vs
    · obtain ⟨o2, q⟩ := (g.rf i).mp ⟨o1, h⟩
      exact absurd q (o.no i hv true o2)
    · rw [o.outs i hv]
      exact g.rs i o1 h
  · by_cases hv : i ∈ vs
    · exact absurd h1 (o.no' i hv false o1)
    · rw [o.out i hv] at h1
      rw [o.outs i hv] at h2
      exact g.nw i o1 a h1 h2
theorem Gd.base (g : Gd K ρ0 σ0 Hf0 H0 ρ σ Hf H) : Gd K ρ0 σ0 Hf H0 ρ σ Hf H :=
  ⟨g.st, Ex.refl _, fun _ _ h => h, g.fm, g.rf, g.rs, g.nw, g.ln⟩
theorem Gd.unbase (g : Gd K ρ0 σ0 Hf0 H0 ρ σ Hf H) (k : Gd K ρ0 σ0 Hf H0 ρ1 σ1 Hf1 H1) : Gd K ρ0 σ0 Hf0 H0 ρ1 σ1 Hf1 H1 :=
  ⟨k.st, g.ex.trans k.ex, fun a h1 h2 => k.fr a h1 (g.fr a h1 h2), k.fm, k.rf, k.rs, k.nw, k.ln⟩
theorem Fin.unbase {R : Prop} (g : Gd K ρ0 σ0 Hf0 H0 ρ σ Hf H) (k : Fin K ρ0 σ0 Hf H0 ρ1 Hf1 H1 R) : Fin K ρ0 σ0 Hf0 H0 ρ1 Hf1 H1 R :=
  ⟨g.ex.trans k.ex, k.exh, fun a h1 h2 => k.fr a h1 (g.fr a h1 h2), k.fm, k.rf, k.rd, k.ln⟩
theorem Gd.fin (g : Gd K ρ0 σ0 Hf0 H0 ρ σ Hf H) {R : Prop} (h : R) : Fin K ρ0 σ0 Hf0 H0 ρ Hf H R :=
  ⟨g.ex, g.st.ex, g.fr, g.fm, fun i o h1 => by
    obtain ⟨o', h2⟩ := (g.rf i).mp ⟨o, h1⟩
    refine ⟨o', h2, fun a ha => ?_⟩
    obtain ⟨b, h3, h4, h5⟩ := g.st.own i true o' h2
    rw [g.rs i o h1, ha] at h3
    cases h3
    exact ⟨h4, h5⟩, h, g.ln⟩
/-- an own object is given away: from now on it is plain -/
theorem Gd.finO (g : Gd K ρ0 σ0 Hf0 H0 ρ σ Hf H) {i : Nat} {o : OV} {v : V} (h : ρ[i]? = some (.own false o)) (hv : σ[i]? = some (some v)) : ∃ Hf', Fin K ρ0 σ0 Hf0 H0 ρ Hf' H (RD K Hf' v (ovD o)) := by
  obtain ⟨p, h1, h2, h3⟩ := g.st.own i false o h
  rw [hv] at h1
  cases h1
  obtain ⟨u, hu⟩ := h3.some
  have e : Ex Hf (upd Hf p u) := Ex.new h2
  refine ⟨upd Hf p u, g.ex.trans e, fun a w hw => ?_, fun a q1 q2 => ?_, g.fm, fun j oj hj => ?_, ?_, g.ln⟩
  · by_cases z : a = p
    · subst z
      rw [upd_same] at hw
      cases hw
      exact hu
    · rw [upd_ne z] at hw
      exact g.st.ex _ _ hw
  · have z : a ≠ p := fun z => by
      subst z
      exact q1 (g.nw i o a h hv)
    rw [upd_ne z]
    exact g.fr a q1 q2
  · obtain ⟨o', h4⟩ := (g.rf j).mp ⟨oj, hj⟩
    refine ⟨o', h4, fun a ha => ?_⟩
    obtain ⟨b, h5, h6, h7⟩ := g.st.own j true o' h4
    rw [g.rs j oj hj, ha] at h5
    cases h5
    have z : a ≠ p := fun z => by
      subst z
      have ij := g.st.dis i j false o true o' a h h4 hv (by rw [g.rs j oj hj]; exact ha)
      subst ij
      rw [h] at h4
      cases h4
    rw [upd_ne z]
    exact ⟨h6, h7.mono e fun _ q => q⟩
  · cases o with
    | lst xs =>
      obtain ⟨vs, q1, q2⟩ := h3
      rw [hu] at q1
      cases q1
      exact .lst upd_same (q2.mono e)
    | dct xs =>
      obtain ⟨vs, q1, q2⟩ := h3
      rw [hu] at q1
      cases q1
      exact .dct upd_same (q2.mono e)
/-- a new object is given away -/
theorem Fin.frz {o : OV} {v : V} (F : Fin K ρ0 σ0 Hf0 H0 ρ Hf H (∃ a, v = .ref a ∧ H0 a = none ∧ Hf a = none ∧ OVat K Hf H a o)) (hd : ∀ (i : Nat) (ov : OV) (a : Addr), ρ0[i]? = some (.own true ov) → σ0[i]? = some (some (.ref a)) → H0 a ≠ none) :
    ∃ Hf', Fin K ρ0 σ0 Hf0 H0 ρ Hf' H (RD K Hf' v (ovD o)) := by
  obtain ⟨p, rfl, h0, h2, h3⟩ := F.rd
  obtain ⟨u, hu⟩ := h3.some
  have e : Ex Hf (upd Hf p u) := Ex.new h2
  refine ⟨upd Hf p u, F.ex.trans e, fun a w hw => ?_, fun a q1 q2 => ?_, F.fm, fun j oj hj => ?_, ?_, F.ln⟩
  · by_cases z : a = p
    · subst z
      rw [upd_same] at hw
      cases hw
      exact hu
    · rw [upd_ne z] at hw
      exact F.exh _ _ hw
  · have z : a ≠ p := fun z => by
      subst z
      exact q1 h0
    rw [upd_ne z]
    exact F.fr a q1 q2
  · obtain ⟨o', h4, h5⟩ := F.rf j oj hj
    refine ⟨o', h4, fun a ha => ?_⟩
    obtain ⟨h6, h7⟩ := h5 a ha
    have z : a ≠ p := fun z => by
      subst z
      exact hd j oj a hj ha h0
    rw [upd_ne z]
    exact ⟨h6, h7.mono e fun _ q => q⟩
  · cases o with
    | lst xs =>
      obtain ⟨vs, q1, q2⟩ := h3
      rw [hu] at q1
      cases q1
      exact .lst upd_same (q2.mono e)
    | dct xs =>
      obtain ⟨vs, q1, q2⟩ := h3
      rw [hu] at q1
      cases q1
      exact .dct upd_same (q2.mono e)
/-! ### a name is stored -/
theorem sta_put {i : Nat} {v : V} {y : SV} (s : Sta K ρ σ Hf H) (hi : i < ρ.length)
    (hy : (∃ d, y = .d d ∧ RD K Hf v d) ∨ ∃ o a, y = .own false o ∧ v = .ref a ∧ Hf a = none ∧ OVat K Hf H a o ∧ ∀ (j : Nat) (r : Bool) (o' : OV), ρ[j]? = some (.own r o') → σ[j]? ≠ some (some (.ref a))) :
    Sta K (ρ.set i y) (σ.set i (some v)) Hf H := by
  have hs : i < σ.length := by rw [s.len]; exact hi
  refine ⟨by rw [List.length_set, List.length_set]; exact s.len, s.ex, fun j x hj => ?_, fun j r1 o1 hj => ?_, fun j l r1 o1 r2 o2 b h4 h5 h6 h7 => ?_, fun j xs hj => by
    by_cases e : i = j
    · subst e
      rw [List.getElem?_set_self hi] at hj
      rcases hy with ⟨d, rfl, _⟩ | ⟨o, a, rfl, _⟩ <;> cases hj
    · rw [List.getElem?_set_ne e] at hj ⊢
      exact s.ro j xs hj⟩
  · by_cases e : i = j
    · subst e
      rw [List.getElem?_set_self hi] at hj
      rcases hy with ⟨d, rfl, q⟩ | ⟨o, a, rfl, _⟩
      · cases hj
        exact ⟨v, by rw [List.getElem?_set_self hs], q⟩
      · cases hj
    · rw [List.getElem?_set_ne e] at hj ⊢
      exact s.pure j x hj
  · by_cases e : i = j
    · subst e
      rw [List.getElem?_set_self hi] at hj
      rcases hy with ⟨d, rfl, q⟩ | ⟨o, a, rfl, rfl, q1, q2, _⟩
      · cases hj
      · cases hj
        exact ⟨a, by rw [List.getElem?_set_self hs], q1, q2⟩
    · rw [List.getElem?_set_ne e] at hj ⊢
      exact s.own j r1 o1 hj
  · have no : ∀ (j : Nat) (r : Bool) (o : OV), i ≠ j → (ρ.set i y)[j]? = some (.own r o) → (ρ.set i y)[i]? = some (.own r1 o1) ∨ (ρ.set i y)[i]? = some (.own r2 o2) → (σ.set i (some v))[i]? = some (some (.ref b)) → (σ.set i (some v))[j]? ≠ some (some (.ref b)) := fun j r o e q1 q2 q3 q4 => by
      rw [List.getElem?_set_ne e] at q1 q4
      rw [List.getElem?_set_self hs] at q3
      cases q3
      rw [List.getElem?_set_self hi] at q2
      rcases hy with ⟨d, rfl, _⟩ | ⟨o, a, rfl, hv, _, _, hn⟩
      · rcases q2 with q2 | q2 <;> cases q2
      · cases hv
        exact hn j r _ q1 q4
    by_cases e1 : i = j
    · by_cases e2 : i = l
      · exact e1.symm.trans e2
      · subst e1
        exact absurd h7 (no l _ _ e2 h5 (.inl h4) h6)
    · by_cases e2 : i = l
      · subst e2
        exact absurd h6 (no j _ _ e1 h4 (.inr h5) h7)
      · rw [List.getElem?_set_ne e1] at h4 h6
        rw [List.getElem?_set_ne e2] at h5 h7
        exact s.dis j l _ _ _ _ b h4 h5 h6 h7
theorem ref_not {i : Nat} (h : isRef ρ i = false) : i < ρ.length ∧ ∀ o, ρ[i]? ≠ some (.own true o) := by
  unfold isRef at h
  split at h
  · cases h
  · cases h
  · rename_i h1 h2
    refine ⟨?_, fun o => h1 o⟩
    cases q : ρ[i]? with
    | none => exact absurd q h2
    | some _ => exact (List.getElem?_eq_some_iff.mp q).1
/-- what a store wants of its value -/
def Sto (K : PySem.W.Frag) (ρ : Rho) (σ : L2.St) (H0 Hf H : Hp) (v : V) : SV → Prop
  | .d d => RD K Hf v d
  | .own false o => ∃ a, v = .ref a ∧ Hf a = none ∧ OVat K Hf H a o ∧ H0 a = none ∧ ∀ (j : Nat) (r : Bool) (o' : OV), ρ[j]? = some (.own r o') → σ[j]? ≠ some (some (.ref a))
  | _ => False
theorem Gd.put {i : Nat} {v : V} {y : SV} (g : Gd K ρ0 σ0 Hf0 H0 ρ σ Hf H) (hi : isRef ρ i = false) (hy : Sto K ρ σ H0 Hf H v y) : Gd K ρ0 σ0 Hf0 H0 (ρ.set i y) (σ.set i (some v)) Hf H := by
  obtain ⟨hl, hn⟩ := ref_not hi
  have hs : i < σ.length := by rw [g.st.len]; exact hl
  have yn : ∀ o, y ≠ .own true o := fun o e => by
    subst e
    exact hy
  refine ⟨sta_put g.st hl ?_, g.ex, g.fr, g.fm, fun j => ?_, fun j o h => ?_, fun j o a h1 h2 => ?_, by rw [List.length_set, g.ln]⟩
  · cases y with
    | un => exact hy.elim
    | d d => exact .inl ⟨d, rfl, hy⟩
    | ro xs => exact hy.elim
    | own r o =>
      cases r with
      | true => exact hy.elim
      | false =>
        obtain ⟨a, q1, q2, q3, _, q4⟩ := hy
        exact .inr ⟨o, a, rfl, q1, q2, q3, q4⟩
  · refine (g.rf j).trans ?_
    by_cases e : i = j
    · subst e
      rw [List.getElem?_set_self hl]
      exact ⟨fun ⟨o, q⟩ => absurd q (hn o), fun ⟨o, q⟩ => absurd (Option.some.inj q) (yn o)⟩
    · rw [List.getElem?_set_ne e]
  · have e : i ≠ j := fun e => by
      subst e
      obtain ⟨o', q⟩ := (g.rf i).mp ⟨o, h⟩
      exact hn o' q
    rw [List.getElem?_set_ne e]
    exact g.rs j o h
  · by_cases e : i = j
    · subst e
      rw [List.getElem?_set_self hl] at h1
      rw [List.getElem?_set_self hs] at h2
      cases h1
      cases h2
      obtain ⟨a', q1, _, _, q2, _⟩ := hy
      cases q1
      exact q2
    · rw [List.getElem?_set_ne e] at h1 h2
      exact g.nw j o a h1 h2
end
end Dn
set_option Elab.async false
set_option linter.all false
set_option maxRecDepth 100000
set_option maxHeartbeats 4000000
/-! Dn, part C13: what statements come to. -/
namespace Dn
open PySem L2
def WOut (K : PySem.W.Frag) (ρ0 : Rho) (σ0 : L2.St) (Hf0 H0 : Hp) (D : Ends) : Out → Prop
  | .nx ρ => ∀ σ Hf H, Gd K ρ0 σ0 Hf0 H0 ρ σ Hf H → D.nx σ H
  | .bk ρ => ∀ σ Hf H, Gd K ρ0 σ0 Hf0 H0 ρ σ Hf H → D.bk σ H
  | .ct ρ => ∀ σ Hf H, Gd K ρ0 σ0 Hf0 H0 ρ σ Hf H → D.ct σ H
  | .rt d ρ => ∀ v Hf H, Fin K ρ0 σ0 Hf0 H0 ρ Hf H (RD K Hf v d) → D.rt v H
  | .ro o ρ => ∀ v Hf H, Fin K ρ0 σ0 Hf0 H0 ρ Hf H (∃ a, v = .ref a ∧ H0 a = none ∧ Hf a = none ∧ OVat K Hf H a o) → D.rt v H
def SemS (K : PySem.W.Frag) (t : TS) (f : Rho → Option Out) : Prop := ∀ {ρ0 : Rho} {σ0 : L2.St} {Hf0 H0 : Hp} {ρ : Rho} {σ : L2.St} {Hf H : Hp} {D : Ends} {out : Out}, Gd K ρ0 σ0 Hf0 H0 ρ σ Hf H → f ρ = some out → WOut K ρ0 σ0 Hf0 H0 D out → t D σ H
section
variable {K : PySem.W.Frag} {te ta tb : TE} {fe fa fb : Rho → Option (Vl × Rho)} {t u : TS} {f g : Rho → Option Out} {tt : TT} {ft : Rho → Option (Bool × Rho)}
theorem semS_nil : SemS K tNext (fun ρ => some (.nx ρ)) := by
  intro ρ0 σ0 Hf0 H0 ρ σ Hf H D out g e w
  cases e
  exact w σ Hf H g
theorem semS_brk : SemS K tBreak (fun ρ => some (.bk ρ)) := by
  intro ρ0 σ0 Hf0 H0 ρ σ Hf H D out g e w
  cases e
  exact w σ Hf H g
theorem semS_cont : SemS K tCont (fun ρ => some (.ct ρ)) := by
  intro ρ0 σ0 Hf0 H0 ρ σ Hf H D out g e w
  cases e
  exact w σ Hf H g
theorem semS_rse : SemS K tNever (fun _ => none) := by
  intro ρ0 σ0 Hf0 H0 ρ σ Hf H D out g e w
  cases e
theorem semS_cons (s1 : SemS K t f) (s2 : SemS K u g) : SemS K (tSeq t u) (fun ρ => match f ρ with
    | some (.nx ρ1) => g ρ1
    | some (.rt d ρ1) => some (.rt d ρ1)
    | some (.ro d ρ1) => some (.ro d ρ1)
    | some (.bk ρ1) => some (.bk ρ1)
    | some (.ct ρ1) => some (.ct ρ1)
    | none => none) := by
  intro ρ0 σ0 Hf0 H0 ρ σ Hf H D out gd e w
  dsimp only at e
  split at e <;> first | contradiction | skip
  · rename_i ρ1 h1
    exact s1 gd h1 fun σ1 Hf1 H1 g1 => s2 g1 e w
  · rename_i d ρ1 h1
    cases e
    exact s1 gd h1 w
  · rename_i d ρ1 h1
    cases e
    exact s1 gd h1 w
  · rename_i ρ1 h1
    cases e
    exact s1 gd h1 w
  · rename_i ρ1 h1
    cases e
    exact s1 gd h1 w
theorem semS_ife (st : SemT K tt ft) (s1 : SemS K t f) (s2 : SemS K u g) : SemS K (tIfS tt t u) (fun ρ => match ft ρ with
    | some (true, ρ1) => f ρ1
    | some (false, ρ1) => g ρ1
    | none => none) := by
  intro ρ0 σ0 Hf0 H0 ρ σ Hf H D out gd e w
  dsimp only at e
  split at e <;> first | contradiction | skip
  · rename_i ρ1 h1
    refine st gd.st h1 fun Hf1 H1 st1 => ?_
    rw [if_pos rfl]
    exact s1 (gd.step st1) e w
  · rename_i ρ1 h1
    refine st gd.st h1 fun Hf1 H1 st1 => ?_
    rw [if_neg (by decide)]
    exact s2 (gd.step st1) e w
theorem semS_whl {fu : Nat} (st : SemT K tt ft) (s1 : SemS K t f) : SemS K (tWhile tt t) (whlL ft f fu) := by
  intro ρ0 σ0 Hf0 H0 ρ σ Hf H D out gd e w
  refine ⟨fun m σ H => ∃ ρ Hf, Gd K ρ0 σ0 Hf0 H0 ρ σ Hf H ∧ whlL ft f m ρ = some out, ⟨fu, ρ, Hf, gd, e⟩, ?_⟩
  clear e gd
  rintro m σ H ⟨ρ, Hf, gd, e⟩
  cases m with
  | zero => cases e
  | succ n =>
    have e' : (match ft ρ with
      | none => none
      | some (false, ρ1) => some (Out.nx ρ1)
      | some (true, ρ1) => match f ρ1 with
        | some (.nx ρ2) => whlL ft f n ρ2
        | some (.ct ρ2) => whlL ft f n ρ2
        | some (.bk ρ2) => some (.nx ρ2)
        | some (.rt d ρ2) => some (.rt d ρ2)
        | some (.ro d ρ2) => some (.ro d ρ2)
        | none => none) = some out := e
    clear e
    split at e' <;> first | contradiction | skip
    · rename_i ρ1 h1
      cases e'
      refine st gd.st h1 fun Hf1 H1 st1 => ?_
      rw [if_neg (by decide)]
      exact w _ _ _ (gd.step st1)
    · rename_i ρ1 h1
      refine st gd.st h1 fun Hf1 H1 st1 => ?_
      rw [if_pos rfl]
      refine ⟨fun σ H => ∃ ρ Hf, Gd K ρ0 σ0 Hf0 H0 ρ σ Hf H ∧ whlL ft f n ρ = some out, fun σ' H' q => ⟨n, Nat.lt_succ_self n, q⟩, ?_⟩
      have g1 := gd.step st1
      split at e' <;> first | contradiction | skip
      · rename_i ρ2 h2
        exact s1 g1 h2 fun σ2 Hf2 H2 g2 => ⟨ρ2, Hf2, g2, e'⟩
      · rename_i ρ2 h2
        exact s1 g1 h2 fun σ2 Hf2 H2 g2 => ⟨ρ2, Hf2, g2, e'⟩
      · rename_i ρ2 h2
        cases e'
        exact s1 g1 h2 w
      · rename_i d ρ2 h2
        cases e'
        exact s1 g1 h2 w
      · rename_i d ρ2 h2
        cases e'
        exact s1 g1 h2 w
theorem semS_for {wi : TI} {gg : TG} {tg : Tg} {fi : Rho → Option (List D × Rho)} (si : SemI K wi fi) (sg : SemG K gg tg) (s1 : SemS K t f) : SemS K (tFor wi gg t) (fun ρ => match fi ρ with
    | some (items, ρ1) => forL (asg tg) f items ρ1
    | none => none) := by
  intro ρ0 σ0 Hf0 H0 ρ σ Hf H D out gd e w
  dsimp only at e
  split at e <;> first | contradiction | skip
  rename_i items ρ1 h1
  refine si gd.st h1 fun J Hf1 H1 st1 wk => ?_
  have g1 := gd.step st1
  clear gd st1
  refine for_it wk (fun i σ H => ∃ ρ Hf, Gd K ρ0 σ0 Hf1 H0 ρ σ Hf H ∧ forL (asg tg) f (items.drop i) ρ = some out) ⟨ρ1, Hf1, g1.base, e⟩ ?_ ?_ ?_
  · rintro i σ H _ ⟨ρ, Hf, g, _⟩
    exact g.ex.trans g.st.ex
  · rintro i x σ H H' hi ⟨ρ, Hf, g, e⟩ ⟨d, hd, y⟩
    obtain ⟨Hc, n, rd⟩ := y Hf g.ex g.st.ex
    have g2 := g.step (n.step g.st)
    have hdrop : items.drop i = d :: items.drop (i + 1) := by
      obtain ⟨hl, hq⟩ := List.getElem?_eq_some_iff.mp hd
      rw [List.drop_eq_getElem_cons hl, hq]
    rw [hdrop] at e
    have e' : (match asg tg d ρ with
      | none => none
      | some ρ1 => match f ρ1 with
        | some (.nx ρ2) => forL (asg tg) f (items.drop (i + 1)) ρ2
        | some (.ct ρ2) => forL (asg tg) f (items.drop (i + 1)) ρ2
        | some (.bk ρ2) => some (Out.nx ρ2)
        | some (.rt d ρ2) => some (Out.rt d ρ2)
        | some (.ro d ρ2) => some (Out.ro d ρ2)
        | none => none) = some out := e
    clear e
    split at e' <;> first | contradiction | skip
    rename_i ρ3 h3
    refine sg g2.st rd h3 fun σ3 s3 o3 => ?_
    have g3 := g2.off s3 o3
    split at e' <;> first | contradiction | skip
    · rename_i ρ4 h4
      exact s1 g3 h4 fun σ5 Hf5 H5 g5 => ⟨ρ4, Hf5, g5, e'⟩
    · rename_i ρ4 h4
      exact s1 g3 h4 fun σ5 Hf5 H5 g5 => ⟨ρ4, Hf5, g5, e'⟩
    · rename_i ρ4 h4
      cases e'
      exact s1 g3 h4 fun σ5 Hf5 H5 g5 => w σ5 Hf5 H5 (g1.unbase g5)
    · rename_i dd ρ4 h4
      cases e'
      exact s1 g3 h4 fun v Hf5 H5 g5 => w v Hf5 H5 (Fin.unbase g1 g5)
    · rename_i dd ρ4 h4
      cases e'
      exact s1 g3 h4 fun v Hf5 H5 g5 => w v Hf5 H5 (Fin.unbase g1 g5)
  · rintro σ H ⟨ρ, Hf, g, e⟩
    rw [List.drop_length] at e
    cases e
    exact w σ Hf H (g1.unbase g)
theorem semS_set {i : Nat} (se : SemE K te fe) : SemS K (tAsg te (gName i)) (fun ρ => match fe ρ with
    | some (.p d, ρ1) => if isRef ρ1 i then none else some (.nx (ρ1.set i (.d d)))
    | _ => none) := by
  intro ρ0 σ0 Hf0 H0 ρ σ Hf H D out gd e w
  dsimp only at e
  split at e <;> first | contradiction | skip
  rename_i d ρ1 h1
  split at e <;> first | contradiction | skip
  rename_i hr
  cases e
  refine se gd.st h1 fun v Hf1 H1 st1 r => ?_
  exact w _ _ _ ((gd.step st1).put (by simpa using hr) r)
theorem semS_unp {is : List Nat} (se : SemE K te fe) : SemS K (tAsg te (fun v σ H Q => gTup K is.length (gNs is) v σ H Q ∨ gUnl K is.length (gNs is) v σ H Q)) (fun ρ => match fe ρ with
    | some (.p x, ρ1) => (match asg (.tp is) x ρ1 with
      | some ρ2 => some (.nx ρ2)
      | none => none)
    | _ => none) := by
  intro ρ0 σ0 Hf0 H0 ρ σ Hf H D out gd e w
  dsimp only at e
  split at e <;> first | contradiction | skip
  rename_i d ρ1 h1
  split at e <;> first | contradiction | skip
  rename_i ρ2 h2
  cases e
  refine se gd.st h1 fun v Hf1 H1 st1 r => ?_
  have g1 := gd.step st1
  exact sem_gTup g1.st r h2 fun σ3 s3 o3 => w _ _ _ (g1.off s3 o3)
theorem semS_xp (se : SemE K te fe) : SemS K (tDrop te) (fun ρ => match fe ρ with
    | some (_, ρ1) => some (.nx ρ1)
    | none => none) := by
  intro ρ0 σ0 Hf0 H0 ρ σ Hf H D out gd e w
  dsimp only at e
  split at e <;> first | contradiction | skip
  rename_i d ρ1 h1
  cases e
  exact se gd.st h1 fun v Hf1 H1 st1 r => w _ _ _ (gd.step st1)
theorem semS_ret (se : SemE K te fe) : SemS K (tRet te) (fun ρ => match fe ρ with
    | some (.p d, ρ1) => some (.rt d ρ1)
    | some (.al i, ρ1) => (match ρ1[i]? with
      | some (.own false o) => some (.rt (ovD o) ρ1)
      | _ => none)
    | none => none) := by
  intro ρ0 σ0 Hf0 H0 ρ σ Hf H D out gd e w
  dsimp only at e
  split at e <;> first | contradiction | skip
  · rename_i d ρ1 h1
    cases e
    exact se gd.st h1 fun v Hf1 H1 st1 r => w _ _ _ ((gd.step st1).fin r)
  · rename_i i ρ1 h1
    split at e <;> first | contradiction | skip
    rename_i o h2
    cases e
    refine se gd.st h1 fun v Hf1 H1 st1 r => ?_
    obtain ⟨Hf2, fin⟩ := (gd.step st1).finO h2 r.1
    exact w _ _ _ fin
theorem semS_aug {i : Nat} {op : Operator} {n : Int → Int → Int} (hop : (op = .Add ∧ n = fun a b => a + b) ∨ (op = .Sub ∧ n = fun a b => a - b)) (se : SemE K te fe) : SemS K (tAug i te (ipI n)) (fun ρ => match ρ[i]? with
    | some (.d x) => (match fe ρ with
      | some (y, ρ1) => (match (generalizing := false) op, x, rdV ρ1 y with
        | .Add, .int a, .int b => if isRef ρ1 i then none else some (.nx (ρ1.set i (.d (.int (a + b)))))
        | .Sub, .int a, .int b => if isRef ρ1 i then none else some (.nx (ρ1.set i (.d (.int (a - b)))))
        | _, _, _ => none)
      | none => none)
    | _ => none) := by
  intro ρ0 σ0 Hf0 H0 ρ σ Hf H D out gd e w
  dsimp only at e
  split at e <;> first | contradiction | skip
  rename_i x hx
  split at e <;> first | contradiction | skip
  rename_i y ρ1 h1
  obtain ⟨v, hv, rv⟩ := gd.st.pure i x hx
  have key : ∃ a b, x = .int a ∧ rdV ρ1 y = .int b ∧ (if isRef ρ1 i then none else some (Out.nx (ρ1.set i (.d (.int (n a b)))))) = some out := by
    rcases hop with ⟨rfl, rfl⟩ | ⟨rfl, rfl⟩
    · split at e <;> first | contradiction | skip
      · rename_i a b hb
        exact ⟨_, _, rfl, hb, e⟩
    · split at e <;> first | contradiction | skip
      · rename_i a b hb
        exact ⟨_, _, rfl, hb, e⟩
  obtain ⟨a, b, rfl, hb, e2⟩ := key
  split at e2 <;> first | contradiction | skip
  rename_i hr
  cases e2
  refine ⟨v, hv, se gd.st h1 fun v2 Hf1 H1 st1 r => ?_⟩
  have rr := RV.rdo st1.st r
  rw [hb] at rr
  cases rv
  cases rr
  exact ⟨a, b, rfl, rfl, w _ _ _ ((gd.step st1).put (by simpa using hr) (.int _))⟩
/-! ### changes of an own object -/
theorem own_at {ρ : Rho} {σ : L2.St} {Hf H : Hp} {i : Nat} (s : Sta K ρ σ Hf H) (h : isOwn ρ i = true) : ∃ a, σ[i]? = some (some (.ref a)) := by
  unfold isOwn at h
  split at h <;> first | contradiction | skip
  rename_i r o h1
  obtain ⟨a, h2, _⟩ := s.own _ _ _ h1
  exact ⟨a, h2⟩
theorem semS_sto {i : Nat} (sb : SemE K tb fb) (sa : SemE K ta fa) : SemS K (tAsg tb (gSub (tVar i) ta rSetL)) (fun ρ => match fb ρ with
    | some (.p y, ρ1) => if isOwn ρ1 i then (match fa ρ1 with
      | some (.p (.int k), ρ2) => (match ρ2[i]? with
        | some (.own r (.lst xs)) => (match ixN xs.length k with
          | some j => some (.nx (ρ2.set i (.own r (.lst (xs.set j y)))))
          | none => none)
        | _ => none)
      | _ => none) else none
    | _ => none) := by
  intro ρ0 σ0 Hf0 H0 ρ σ Hf H D out gd e w
  dsimp only at e
  split at e <;> first | contradiction | skip
  rename_i y ρ1 h1
  split at e <;> first | contradiction | skip
  rename_i ho
  split at e <;> first | contradiction | skip
  rename_i k ρ2 h2
  split at e <;> first | contradiction | skip
  rename_i r xs h3
  split at e <;> first | contradiction | skip
  rename_i j hj
  cases e
  refine sb gd.st h1 fun v Hf1 H1 st1 rv => ?_
  have g1 := gd.step st1
  obtain ⟨a, ha⟩ := own_at g1.st ho
  refine ⟨_, ha, sa g1.st h2 fun u Hf2 H2 st2 ru => ?_⟩
  have g2 := g1.step st2
  obtain ⟨a', h4, h5, vs, h6, h7⟩ := g2.st.own _ _ _ h3
  rw [ha] at h4
  cases h4
  refine ⟨a, vs, k, j, rfl, rv_int ru, h6, by rw [h7.length]; exact hj, w _ _ _ (g2.step (own_set g2.st h3 ha ⟨_, upd_same, h7.set (RD.mono st2.ex rv) _⟩))⟩
theorem rdk_any {Hf : Hp} {k : Key} : ∀ {ws : List (Key × V)} {kvs : List (D × D)}, RDk K Hf ws kvs → (ws.any fun kv => decide (kv.1 = k)) = (kvs.any fun p => decide (keyOf p.1 = some k))
  | _, _, .nil => rfl
  | _, _, .cons (k := k2) h r => by
    rw [List.any_cons, List.any_cons, rdk_any r, kD_key]
    congr 1
    by_cases q : k2 = k
    · rw [decide_eq_true q, decide_eq_true (by rw [q])]
    · rw [decide_eq_false q, decide_eq_false fun z => q (Option.some.inj z)]
theorem rdk_map {Hf : Hp} {k : Key} {v : V} {x : D} (hx : RD K Hf v x) : ∀ {ws : List (Key × V)} {kvs : List (D × D)}, RDk K Hf ws kvs → RDk K Hf (ws.map fun kv => if kv.1 = k then (kv.1, v) else kv) (kvs.map fun p => if keyOf p.1 = some k then (p.1, x) else p)
  | _, _, .nil => .nil
  | _, _, .cons (k := k2) (v := v2) (d := d2) h r => by
    rw [List.map_cons, List.map_cons]
    by_cases q : k2 = k
    · rw [if_pos q, if_pos (by rw [kD_key, q])]
      exact .cons hx (rdk_map hx r)
    · rw [if_neg q, if_neg (by rw [kD_key]; exact fun z => q (Option.some.inj z))]
      exact .cons h (rdk_map hx r)
theorem RDk.append {Hf : Hp} : ∀ {vs ws : List (Key × V)} {ds es : List (D × D)}, RDk K Hf vs ds → RDk K Hf ws es → RDk K Hf (vs ++ ws) (ds ++ es)
  | _, _, _, _, .nil, s => s
  | _, _, _, _, .cons h r, s => .cons h (RDk.append r s)
theorem rdk_put {Hf : Hp} {k : Key} {v : V} {x : D} (hx : RD K Hf v x) {ws : List (Key × V)} {kvs : List (D × D)} (r : RDk K Hf ws kvs) : RDk K Hf (putK ws k v) (putD kvs k x) := by
  unfold putK putD
  rw [rdk_any r]
  split
  · exact rdk_map hx r
  · exact r.append (.cons hx .nil)
theorem RDk.length {Hf : Hp} : ∀ {ws : List (Key × V)} {kvs : List (D × D)}, RDk K Hf ws kvs → ws.length = kvs.length
  | _, _, .nil => rfl
  | _, _, .cons _ r => congrArg (· + 1) (RDk.length r)
theorem semS_dput {i : Nat} (sb : SemE K tb fb) (sa : SemE K ta fa) : SemS K (sDPut (tVar i) ta tb) (fun ρ => match fb ρ with
    | some (.p y, ρ1) => if isOwn ρ1 i then (match fa ρ1 with
      | some (.p x, ρ2) => (match ρ2[i]?, keyOf x with
        | some (.own r (.dct kvs)), some k => if kvs.length < cap then some (.nx (ρ2.set i (.own r (.dct (putD kvs k y))))) else none
        | _, _ => none)
      | _ => none) else none
    | _ => none) := by
  intro ρ0 σ0 Hf0 H0 ρ σ Hf H D out gd e w
  dsimp only at e
  split at e <;> first | contradiction | skip
  rename_i y ρ1 h1
  split at e <;> first | contradiction | skip
  rename_i ho
  split at e <;> first | contradiction | skip
  rename_i x ρ2 h2
  split at e <;> first | contradiction | skip
  rename_i r kvs k h3 hk
  split at e <;> first | contradiction | skip
  rename_i hc
  cases e
  refine sb gd.st h1 fun v Hf1 H1 st1 rv => ?_
  have g1 := gd.step st1
  obtain ⟨a, ha⟩ := own_at g1.st ho
  refine ⟨_, ha, sa g1.st h2 fun u Hf2 H2 st2 ru => ?_⟩
  have g2 := g1.step st2
  obtain ⟨a', h4, h5, ws, h6, h7⟩ := g2.st.own _ _ _ h3
  rw [ha] at h4
  cases h4
  have hv := key_v (RD.o g2.st.ex ru) hk
  subst hv
  refine ⟨a, _, rfl, DPut.k h6 (by rw [h7.length]; exact Nat.lt_of_lt_of_le hc (by decide)), w _ _ _ (g2.step (own_set g2.st h3 ha ⟨_, upd_same, rdk_put (RD.mono st2.ex rv) h7⟩))⟩
theorem semS_app {i : Nat} (sa : SemE K ta fa) : SemS K (tDrop (tBM K "list" rAppend (tVar i) (tCons ta tNil))) (fun ρ => if isLst ρ i then (match fa ρ with
    | some (.p y, ρ1) => (match ρ1[i]? with
      | some (.own r (.lst xs)) => if xs.length < cap then some (.nx (ρ1.set i (.own r (.lst (xs ++ [y]))))) else none
      | _ => none)
    | _ => none) else none) := by
  intro ρ0 σ0 Hf0 H0 ρ σ Hf H D out gd e w
  dsimp only at e
  split at e <;> first | contradiction | skip
  rename_i hl
  obtain ⟨r0, xs0, a, vs0, q1, q2, q3, q4⟩ := lst_at gd.st hl
  split at e <;> first | contradiction | skip
  rename_i y ρ1 h1
  split at e <;> first | contradiction | skip
  rename_i r xs h
  split at e <;> first | contradiction | skip
  rename_i hc
  cases e
  refine ⟨_, q2, tyV_list q3, sa gd.st h1 fun v Hf1 H1 st rv => ?_⟩
  have g1 := gd.step st
  obtain ⟨a', h4, h5, vs, h6, h7⟩ := g1.st.own _ _ _ h
  rw [q2] at h4
  cases h4
  exact ⟨a, vs, v, rfl, rfl, h6, by rw [h7.length]; exact Nat.lt_of_lt_of_le hc (by decide), w _ _ _ (g1.step (own_set g1.st h q2 ⟨_, upd_same, h7.append (.cons rv .nil)⟩))⟩
theorem semS_ext {i : Nat} (sa : SemE K ta fa) : SemS K (tDrop (tBM K "list" rExtend (tVar i) (tCons ta tNil))) (fun ρ => if isLst ρ i then (match fa ρ with
    | some (.p (.list ys), ρ1) => (match ρ1[i]? with
      | some (.own r (.lst xs)) => if xs.length + ys.length ≤ cap then some (.nx (ρ1.set i (.own r (.lst (xs ++ ys))))) else none
      | _ => none)
    | _ => none) else none) := by
  intro ρ0 σ0 Hf0 H0 ρ σ Hf H D out gd e w
  dsimp only at e
  split at e <;> first | contradiction | skip
  rename_i hl
  obtain ⟨r0, xs0, a, vs0, q1, q2, q3, q4⟩ := lst_at gd.st hl
  split at e <;> first | contradiction | skip
  rename_i y ρ1 h1
  split at e <;> first | contradiction | skip
  rename_i r xs h
  split at e <;> first | contradiction | skip
  rename_i hc
  cases e
  refine ⟨_, q2, tyV_list q3, sa gd.st h1 fun v Hf1 H1 st rv => ?_⟩
  have g1 := gd.step st
  obtain ⟨a', h4, h5, vs, h6, h7⟩ := g1.st.own _ _ _ h
  rw [q2] at h4
  cases h4
  cases rv with
  | @lst b zs _ h8 h9 => exact ⟨a, b, vs, zs, rfl, rfl, h6, g1.st.ex _ _ h8, by rw [h7.length, h9.length]; exact Nat.le_trans hc (by decide), w _ _ _ (g1.step (own_set g1.st h q2 ⟨_, upd_same, h7.append h9⟩))⟩
/-! ### fresh objects into names -/
/-- a value that is to be stored: plain, or a new object of one's own -/
def SemR (K : PySem.W.Frag) (t : TE) (f : Rho → Option (SV × Rho)) : Prop := ∀ {ρ : Rho} {σ : L2.St} {Hf H : Hp} {Q : VK} {y : SV} {ρ' : Rho}, Sta K ρ σ Hf H → f ρ = some (y, ρ') →
  (∀ v Hf' H', Step K ρ σ Hf H ρ' Hf' H' → ((∃ d, y = .d d ∧ RD K Hf' v d) ∨ ∃ o a, y = .own false o ∧ v = .ref a ∧ H a = none ∧ Hf' a = none ∧ OVat K Hf' H' a o) → Q v H') → t σ H Q
theorem semR_e (se : SemE K te fe) : SemR K te (fun ρ => match fe ρ with
    | some (.p d, ρ1) => some (.d d, ρ1)
    | _ => none) := by
  intro ρ σ Hf H Q y ρ' s e k
  dsimp only at e
  split at e <;> first | contradiction | skip
  rename_i d ρ1 h1
  cases e
  exact se s h1 fun v Hf1 H1 st r => k _ _ _ st (.inl ⟨d, rfl, r⟩)
/-- a new object beside the plain ones -/
theorem step_new {ρ ρ1 : Rho} {σ : L2.St} {Hf H Hf1 H1 : Hp} {p : Addr} {u : HO} (s : Sta K ρ σ Hf H) (st : Step K ρ σ Hf H ρ1 Hf1 H1) (hp : H1 p = none) : Step K ρ σ Hf H ρ1 Hf1 (upd H1 p u) ∧ H p = none ∧ Hf1 p = none := by
  have h0 : H p = none := by
    cases q : H p with
    | none => rfl
    | some o => exact absurd hp (st.dom s (by rw [q]; exact fun z => by cases z))
  have hf : Hf1 p = none := by
    cases q : Hf1 p with
    | none => rfl
    | some o =>
      have := st.st.ex _ _ q
      rw [hp] at this
      cases this
  refine ⟨⟨step_side st.st hf (not_own st.st hp), st.ex, st.fr, fun a o h q => ?_, st.ow⟩, h0, hf⟩
  have z : a ≠ p := fun z => by
    subst z
    rw [h0] at h
    cases h
  rw [upd_ne z]
  exact st.fm a o h q
theorem semR_lst {t1 : TA} {f1 : Rho → Option (List Vl × Rho)} (s1 : SemA K t1 f1) : SemR K (tLst t1) (fun ρ => match (match f1 ρ with
    | some (vs, ρ1) => (match pvDs vs with
      | some xs => if xs.length ≤ cap then some (OV.lst xs, ρ1) else none
      | none => none)
    | none => none) with
    | some (o, ρ1) => some (.own false o, ρ1)
    | none => none) := by
  intro ρ σ Hf H Q y ρ' s e k
  dsimp only at e
  split at e <;> first | contradiction | skip
  rename_i o ρ1 h1
  cases e
  split at h1 <;> first | contradiction | skip
  rename_i vs ρ2 h2
  split at h1 <;> first | contradiction | skip
  rename_i xs h3
  split at h1 <;> first | contradiction | skip
  rename_i hc
  cases h1
  refine s1 s h2 fun us Hf1 H1 st r => ?_
  have r' := pvDs_rd r h3
  refine ⟨by rw [r'.length]; exact le_line hc, fun p hp => ?_⟩
  obtain ⟨st', h0, hf⟩ := step_new (u := .lst us) s st hp
  exact k _ _ _ st' (.inr ⟨_, p, rfl, rfl, h0, hf, us, upd_same, r'⟩)
theorem semR_cpy (se : SemE K te fe) : SemR K (tCB (rBlt K .list) (tCons te tNil)) (fun ρ => match (match fe ρ with
    | some (x, ρ1) => (match seqD (rdV ρ1 x) with
      | some xs => some (OV.lst xs, ρ1)
      | none => none)
    | none => none) with
    | some (o, ρ1) => some (.own false o, ρ1)
    | none => none) := by
  intro ρ σ Hf H Q y ρ' s e k
  dsimp only at e
  split at e <;> first | contradiction | skip
  rename_i o ρ1 h1
  cases e
  split at h1 <;> first | contradiction | skip
  rename_i x ρ2 h2
  split at h1 <;> first | contradiction | skip
  rename_i xs h3
  cases h1
  refine se s h2 fun v Hf1 H1 st r => ?_
  have rr := RV.rdo st.st r
  have main : ∃ a ys, v = .ref a ∧ (SqL K H1 a ys ∨ SqT K H1 a ys) ∧ RDs K Hf1 ys xs := by
    generalize rdV ρ' x = dd at h3 rr
    cases dd <;> first | (cases h3; done) | skip
    · cases h3
      obtain ⟨a, rfl, ys, q1, q2⟩ := rr
      exact ⟨a, ys, rfl, .inl (SqL.of q1), q2⟩
    · cases h3
      cases rr with
      | tup q1 q2 => exact ⟨_, _, rfl, .inr (st.st.ex.tup q1), q2⟩
  obtain ⟨a, ys, rfl, hq, r'⟩ := main
  refine ⟨a, ys, rfl, hq, fun p hp => ?_⟩
  obtain ⟨st', h0, hf⟩ := step_new (u := .lst ys) s st hp
  exact k _ _ _ st' (.inr ⟨_, p, rfl, rfl, h0, hf, ys, upd_same, r'⟩)
theorem semR_dct0 : SemR K tDNewK (fun ρ => match (some (OV.dct [], ρ) : Option (OV × Rho)) with
    | some (o, ρ1) => some (.own false o, ρ1)
    | none => none) := by
  intro ρ σ Hf H Q y ρ' s e k
  cases e
  intro p hp
  obtain ⟨st', h0, hf⟩ := step_new (u := .dK []) s (Step.refl s) hp
  exact k _ _ _ st' (.inr ⟨_, p, rfl, rfl, h0, hf, [], upd_same, .nil⟩)
theorem semR_orF {f g : Rho → Option (OV × Rho)} (sf : SemR K ta (fun ρ => match f ρ with
    | some (o, ρ1) => some (.own false o, ρ1)
    | none => none)) (sg : SemR K tb (fun ρ => match g ρ with
    | some (o, ρ1) => some (.own false o, ρ1)
    | none => none)) : SemR K (tOrT K ta tb) (fun ρ => match (match f ρ with
      | some (.lst (x :: xs), ρ1) => some (.lst (x :: xs), ρ1)
      | some (.lst [], ρ1) => g ρ1
      | _ => none) with
    | some (o, ρ1) => some (.own false o, ρ1)
    | none => none) := by
  intro ρ σ Hf H Q y ρ' s e k
  dsimp only at e
  split at e <;> first | contradiction | skip
  rename_i o ρ1 h1
  cases e
  split at h1 <;> first | contradiction | skip
  · rename_i x xs ρ2 h2
    cases h1
    refine sf s (by dsimp only; rw [h2]) fun v Hf1 H1 st r => ?_
    rcases r with ⟨d, z, _⟩ | ⟨o', a, z, rfl, h3, h4, h5⟩
    · cases z
    · cases z
      obtain ⟨vs, q1, q2⟩ := h5
      refine ⟨true, ?_, ?_⟩
      · refine .inl ⟨vs, SqL.of q1, ?_⟩
        cases q2
        rfl
      · rw [if_pos rfl]
        exact k _ _ _ st (.inr ⟨_, a, rfl, rfl, h3, h4, vs, q1, q2⟩)
  · rename_i ρ2 h2
    refine sf s (by dsimp only; rw [h2]) fun v Hf1 H1 st r => ?_
    rcases r with ⟨d, z, _⟩ | ⟨o', a, z, rfl, h3, h4, h5⟩
    · cases z
    · cases z
      obtain ⟨vs, q1, q2⟩ := h5
      refine ⟨false, ?_, ?_⟩
      · refine .inl ⟨vs, SqL.of q1, ?_⟩
        cases q2
        rfl
      · rw [if_neg Bool.false_ne_true]
        refine sg st.st (by dsimp only; rw [h1]) fun v2 Hf2 H2 st2 r2 => k _ _ _ (st.trans s st2) ?_
        rcases r2 with ⟨d, z, _⟩ | ⟨o', a2, z, rfl, h6, h7, h8⟩
        · cases z
        · cases z
          refine .inr ⟨_, a2, rfl, rfl, ?_, h7, h8⟩
          cases q : H a2 with
          | none => rfl
          | some w => exact absurd h6 (st.dom s (by rw [q]; exact fun z => by cases z))
theorem semR_cal {t1 : TA} {f1 : Rho → Option (List Vl × Rho)} {k : Nat} {g : List SV → Option (OV × List SV)} (hk : ∀ as r, g as = some r → as.length = k) (s1 : SemA K t1 f1) : SemR K (tCall (spF K k g) [] E0 t1) (fun ρ => match (match f1 ρ with
    | some (vs, ρ1) => (match argS ρ1 vs with
      | some as => if (als vs).Nodup then (match g as with
        | some (d, as') => some (d, wrB vs as' ρ1)
        | none => none) else none
      | none => none)
    | none => none) with
    | some (o, ρ1) => some (.own false o, ρ1)
    | none => none) := by
  intro ρ σ Hf H Q y ρ' s e kq
  dsimp only at e
  split at e <;> first | contradiction | skip
  rename_i o ρ1 h1
  cases e
  split at h1 <;> first | contradiction | skip
  rename_i xs ρ2 h2
  split at h1 <;> first | contradiction | skip
  rename_i as h3
  split at h1 <;> first | contradiction | skip
  rename_i hn
  split at h1 <;> first | contradiction | skip
  rename_i d as' h4
  cases h1
  refine s1 s h2 fun vs Hf1 H1 st r => ?_
  have ha := args_of st.st r h3 hn
  refine ⟨?_, as, Hf1, o, as', ?_, h4, fun a Hf2 H2 b h0 hf ov => ?_⟩
  · rw [List.append_nil, ha.len]
    exact hk as _ h4
  · rw [List.append_nil]
    exact ha
  · rw [List.append_nil] at b
    refine kq _ _ _ (st.trans s (step_back st.st r h3 hn b)) (.inr ⟨o, a, rfl, rfl, ?_, hf, ov⟩)
    cases q : H a with
    | none => rfl
    | some w => exact absurd h0 (st.dom s (by rw [q]; exact fun z => by cases z))
theorem gd_new {ρ0 : Rho} {σ0 : L2.St} {Hf0 H0 : Hp} {ρ : Rho} {σ : L2.St} {Hf H : Hp} (gd : Gd K ρ0 σ0 Hf0 H0 ρ σ Hf H) {a : Addr} (h : H a = none) : H0 a = none := by
  cases q : H0 a with
  | none => rfl
  | some o => exact absurd h (gd.dom (by rw [q]; exact fun z => by cases z))
theorem step_notown {ρ ρ1 : Rho} {σ : L2.St} {Hf H Hf1 H1 : Hp} {a : Addr} (s : Sta K ρ σ Hf H) (st : Step K ρ σ Hf H ρ1 Hf1 H1) (h : H a = none) : ∀ (j : Nat) (r : Bool) (o' : OV), ρ1[j]? = some (.own r o') → σ[j]? ≠ some (some (.ref a)) := fun j r o' q1 q2 => by
  obtain ⟨o2, q3⟩ := (st.ow j r).mpr ⟨o', q1⟩
  exact not_own s h j r o2 q3 q2
theorem semS_setR {i : Nat} {fr : Rho → Option (SV × Rho)} (se : SemR K te fr) : SemS K (tAsg te (gName i)) (fun ρ => match fr ρ with
    | some (y, ρ1) => if isRef ρ1 i then none else some (.nx (ρ1.set i y))
    | none => none) := by
  intro ρ0 σ0 Hf0 H0 ρ σ Hf H D out gd e w
  dsimp only at e
  split at e <;> first | contradiction | skip
  rename_i y ρ1 h1
  split at e <;> first | contradiction | skip
  rename_i hr
  cases e
  refine se gd.st h1 fun v Hf1 H1 st1 r => ?_
  have g1 := gd.step st1
  refine w _ _ _ (g1.put (by simpa using hr) ?_)
  rcases r with ⟨d, rfl, q⟩ | ⟨o, a, rfl, rfl, q0, q1, q2⟩
  · exact q
  · exact ⟨a, rfl, q1, q2, gd_new gd q0, step_notown gd.st st1 q0⟩
theorem semS_retO {f : Rho → Option (OV × Rho)} (sf : SemR K ta (fun ρ => match f ρ with
    | some (o, ρ1) => some (.own false o, ρ1)
    | none => none)) : SemS K (tRet ta) (fun ρ => match f ρ with
    | some (o, ρ1) => some (.ro o ρ1)
    | none => none) := by
  intro ρ0 σ0 Hf0 H0 ρ σ Hf H D out gd e w
  dsimp only at e
  split at e <;> first | contradiction | skip
  rename_i o ρ1 h1
  cases e
  refine sf gd.st (by dsimp only; rw [h1]) fun v Hf1 H1 st r => ?_
  rcases r with ⟨d, z, _⟩ | ⟨o', a, z, rfl, h3, h4, h5⟩
  · cases z
  · cases z
    exact w _ _ _ ((gd.step st).fin ⟨a, rfl, gd_new gd h3, h4, h5⟩)
theorem semS_par {i j : Nat} {fx fy : Rho → Option (SV × Rho)} (hij : i ≠ j) (sx : SemR K ta fx) (sy : SemR K tb fy) : SemS K (tPar i j (tCons ta (tCons tb tNil))) (fun ρ => match fx ρ with
    | some (x, ρ1) => (match fy ρ1 with
      | some (y, ρ2) => if isRef ρ2 i || isRef ρ2 j then none else some (.nx ((ρ2.set i x).set j y))
      | none => none)
    | none => none) := by
  intro ρ0 σ0 Hf0 H0 ρ σ Hf H D out gd e w
  dsimp only at e
  split at e <;> first | contradiction | skip
  rename_i x ρ1 h1
  split at e <;> first | contradiction | skip
  rename_i y ρ2 h2
  split at e <;> first | contradiction | skip
  rename_i hr
  cases e
  have hr' : isRef ρ2 i = false ∧ isRef ρ2 j = false := by
    revert hr
    cases isRef ρ2 i <;> cases isRef ρ2 j <;> simp
  refine sx gd.st h1 fun v Hf1 H1 st1 r => ?_
  have g1 := gd.step st1
  refine sy g1.st h2 fun u Hf2 H2 st2 q => ?_
  have g2 := g1.step st2
  refine ⟨v, u, rfl, w _ Hf2 _ ?_⟩
  have hx : Sto K ρ2 σ H0 Hf2 H2 v x := by
    rcases r with ⟨d, rfl, q⟩ | ⟨o, a, rfl, rfl, q0, q1, q2⟩
    · exact RD.mono st2.ex q
    · obtain ⟨w', hw⟩ := q2.some
      have na := step_notown gd.st st1 q0
      have keep : ∀ z, H1 a = some z → H2 a = some z := fun z hz => st2.fm a z hz na
      refine ⟨a, rfl, st2.fr a (by rw [hw]; exact fun z => by cases z) q1, q2.mono st2.ex keep, gd_new gd q0, fun l r' o' z1 z2 => ?_⟩
      obtain ⟨o2, z3⟩ := (st2.ow l r').mpr ⟨o', z1⟩
      exact na l r' o2 z3 z2
  have g3 := g2.put hr'.1 hx
  have hj : isRef (ρ2.set i x) j = false := by
    have e : (ρ2.set i x)[j]? = ρ2[j]? := List.getElem?_set_ne hij
    have := hr'.2
    unfold isRef at this ⊢
    rw [e]
    exact this
  refine g3.put hj ?_
  rcases q with ⟨d, rfl, q⟩ | ⟨o, a, rfl, rfl, q0, q1, q2⟩
  · exact q
  · have na := step_notown g1.st st2 q0
    refine ⟨a, rfl, q1, q2, gd_new g1 q0, fun l r' o' z1 z2 => ?_⟩
    by_cases e : i = l
    · subst e
      obtain ⟨hl, _⟩ := ref_not hr'.1
      rw [List.getElem?_set_self hl] at z1
      rw [List.getElem?_set_self (by rw [g2.st.len]; exact hl)] at z2
      cases z1
      cases z2
      rcases r with ⟨d, z, _⟩ | ⟨o2, a2, z, z', y0, y1, y2⟩
      · cases z
      · cases z'
        obtain ⟨w', hw⟩ := y2.some
        rw [hw] at q0
        cases q0
    · rw [List.getElem?_set_ne e] at z1 z2
      exact na l r' o' z1 z2
end
end Dn
set_option Elab.async false
set_option linter.all false
set_option maxRecDepth 100000
set_option maxHeartbeats 4000000
/-! Dn, part C14: checked statements are run as the evaluator reckons. -/
namespace Dn
open PySem L2
def notTup : Expr → Bool
  | .Tuple .. => false
  | _ => true
def okF (m : Nm) (sc : Scope) : Fr → Expr → Bool
  | .lst es, x0 => (match x0 with
    | .List as _ => okEs m sc es as
    | _ => false)
  | .cpy e, x0 => (match x0 with
    | .Call (.Name x _) [a] [] _ => decide (x = "list") && (glB sc x && (m.fr.contains x && (okE m sc e a && noStar a)))
    | _ => false)
  | .dct0, x0 => (match x0 with
    | .Dict [] [] _ => true
    | _ => false)
  | .cal f es, x0 => (match x0 with
    | .Call (.Name x _) as [] _ => decide (m.fnm[f]? = some x) && (glB sc x && (nmB x && okEs m sc es as))
    | _ => false)
  | .orF f g, x0 => (match x0 with
    | .BoolOp .Or [x, y] _ => okF m sc f x && okF m sc g y
    | _ => false)
def okR (m : Nm) (sc : Scope) : Rv → Expr → Bool
  | .e e, a => okE m sc e a
  | .f f, a => okF m sc f a
/-- name = value: whether the value is a comprehension that is stored within -/
def okSw (sc : Scope) (x : Str) (px : Pos) : Expr → Bool
  | .ListComp _ [⟨_, _, _, 0⟩] scope p => (px.line == p.line) && (onlyLoc sc x && !(scope.names.any fun (n, k) => n == x && (k == .local || k == .cell)))
  | v => noComp v
def augOp (o : Operator) : Option (Int → Int → Int) := match o with
  | .Add => some fun a b => a + b
  | .Sub => some fun a b => a - b
  | _ => none
mutual
def okS (m : Nm) (sc : Scope) : S → Stmt → Bool
  | .set i e, x0 => (match x0 with
    | .Assign [.Name y q] v p => decide (m.N[i]? = some y) && (locB sc y && (okE m sc e v && okSw sc y q v))
    | _ => false)
  | .setO i f, x0 => (match x0 with
    | .Assign [.Name y q] v p => decide (m.N[i]? = some y) && (locB sc y && (okF m sc f v && noComp v))
    | _ => false)
  | .par i j a b, x0 => (match x0 with
    | .Assign [.Tuple [.Name y q, .Name z r] _ _] (.Tuple [v, u] _ _) p => decide (m.N[i]? = some y) && (decide (m.N[j]? = some z) && (decide (i ≠ j) && (decide (y ≠ z) && (onlyLoc sc y && (onlyLoc sc z && ((q.line == r.line) && (okR m sc a v && (okR m sc b u && (noStar v && (noStar u && (!([v, u].all (foldedForSure 8)) && !([v, u].all (constantsAlone 8)))))))))))))
    | _ => false)
  | .unp is e, x0 => (match x0 with
    | .Assign [.Tuple es k t] v p => okNm m sc is es && (okE m sc e v && (notTup v || ((match (generalizing := false) v with
      | .Tuple vs _ _ => vs.all (foldedForSure 8)
      | _ => false) || (!(es.length == 2 || es.length == 3) || es.any fun t => match (generalizing := false) t with
      | .Name x _ => !onlyLoc sc x
      | _ => false))))
    | _ => false)
  | .sto i a b, x0 => (match x0 with
    | .Assign [.Subscript (.Name y q) k t] v p => decide (m.N[i]? = some y) && (visB sc y && (nmB y && (okE m sc a k && (noSlice k && (okE m sc b v && noComp v)))))
    | _ => false)
  | .dput i a b, x0 => (match x0 with
    | .Assign [.Subscript (.Name y q) k t] v p => decide (m.N[i]? = some y) && (visB sc y && (nmB y && (okE m sc a k && (noSlice k && (okE m sc b v && noComp v)))))
    | _ => false)
  | .aug i o e, x0 => (match x0 with
    | .AugAssign (.Name y q) o' v p => decide (m.N[i]? = some y) && (locB sc y && (decide (o = o') && ((augOp o).isSome && okE m sc e v)))
    | _ => false)
  | .xp e, x0 => (match x0 with
    | .Expr v p => okE m sc e v && noComp v
    | _ => false)
  | .app i e, x0 => (match x0 with
    | .Expr (.Call (.Attribute (.Name y q) f ap) [a] [] p) p2 => decide (f = "append") && (decide (m.N[i]? = some y) && (visB sc y && (nmB y && ((ap.endLine == p.line) && (okE m sc e a && noStar a)))))
    | _ => false)
  | .ext i e, x0 => (match x0 with
    | .Expr (.Call (.Attribute (.Name y q) f ap) [a] [] p) p2 => decide (f = "extend") && (decide (m.N[i]? = some y) && (visB sc y && (nmB y && ((ap.endLine == p.line) && (okE m sc e a && noStar a)))))
    | _ => false)
  | .ret e, x0 => (match x0 with
    | .Return (some v) p => okE m sc e v
    | _ => false)
  | .retO f, x0 => (match x0 with
    | .Return (some v) p => okF m sc f v
    | _ => false)
  | .ife t a b, x0 => (match x0 with
    | .If c u v p => okT m sc t c && (okSs m sc a u && okSs m sc b v)
    | _ => false)
  | .whl t b, x0 => (match x0 with
    | .While c u [] p => okT m sc t c && okSs m sc b u
    | _ => false)
  | .for tg it b, x0 => (match x0 with
    | .For t i u [] p => okTg m sc tg t && (okI m sc it i t && (okSs m sc b u && noSet i))
    | _ => false)
  | .brk, x0 => (match x0 with
    | .Break p => true
    | _ => false)
  | .cont, x0 => (match x0 with
    | .Continue p => true
    | _ => false)
  | .rse, _ => true
def okSs (m : Nm) (sc : Scope) : Ss → List Stmt → Bool
  | .nil, [] => true
  | .cons s ss, a :: as => okS m sc s a && okSs m sc ss as
  | _, _ => false
end
theorem onlyLoc_of {sc : Scope} {x : Str} (h : onlyLoc sc x = true) : sc.names.lookup x = some .local := by
  unfold onlyLoc at h
  split at h <;> first | contradiction | assumption
variable {c : Ct} {fu : Nat}
abbrev SndS (c : Ct) (fu : Nat) (sc : Scope) (s : S) (a : Stmt) : Prop := ∃ t, (∀ X, XOk c X sc sc → PS X a t) ∧ SemS c.K t (evS fu c.G c.Φ c.Ψ s)
abbrev SndSs (c : Ct) (fu : Nat) (sc : Scope) (s : Ss) (a : List Stmt) : Prop := ∃ t, (∀ X, XOk c X sc sc → PSs X a t) ∧ SemS c.K t (evSs fu c.G c.Φ c.Ψ s)
section
variable {X : Cx} {sc : Scope}
theorem XOk.loc (ok : XOk c X sc sc) {y : Str} (h : locB sc y = true) : Loc X.env.scope y ∧ (X.fn y = true ∨ X.env.scope.names.lookup y = some .local) := ok.sto y (loc_of h)
theorem XOk.only (ok : XOk c X sc sc) {y : Str} (h : onlyLoc sc y = true) : X.env.scope.names.lookup y = some .local := by rw [ok.scp]; exact onlyLoc_of h
theorem XOk.passes (ok : XOk c X sc sc) : PassesOwn (model X.prog X.w) X.A X.env X.xe := by rw [ok.nox]; exact PassesOwn.never
end
theorem swap_par {y z : Str} {q r pt p2 : Pos} {k1 k2 : Nat} {v u : Expr} {env : Env} (hk : env.scope.kind = .function) (hy : env.scope.names.lookup y = some .local) (hz : env.scope.names.lookup z = some .local) (hyz : y ≠ z) (hl : (q.line == r.line) = true)
    (s1 : noStar v = true) (s2 : noStar u = true) (f1 : ([v, u].all (foldedForSure 8)) = false) (f2 : ([v, u].all (constantsAlone 8)) = false) :
    swappedStores [.Tuple [.Name y q, .Name z r] k1 pt] (.Tuple [v, u] k2 p2) env = pure (some [y, z]) := by
  have hb : env.blockKind = .function := by unfold Env.blockKind; rw [hk]; rfl
  have ky : env.kindOf y = some .local := hy
  have kz : env.kindOf z = some .local := hz
  have hrl : (r.line == q.line) = true := by rw [beq_iff_eq] at hl ⊢; exact hl.symm
  have hn : [y, z].eraseDups.length = 2 := by
    have : (z == y) = false := by rw [beq_eq_false_iff_ne]; exact fun e => hyz e.symm
    simp [List.eraseDups_cons, this]
  unfold swappedStores
  simp only [hb, f1, f2, Expr.pos, List.head?_cons, Option.map_some, Option.getD_some, List.filterMap_cons, List.filterMap_nil, ky, kz, hrl]
  simp
  rw [if_neg, if_pos hn]
  rintro (h | h)
  · cases v <;> first | (cases s1; done) | (cases h; done)
  · cases u <;> first | (cases s2; done) | (cases h; done)
theorem fmap_len {α β : Type} {f : α → Option β} : ∀ {l : List α}, (∃ x ∈ l, f x = none) → (l.filterMap f).length < l.length
  | [], ⟨_, h, _⟩ => nomatch h
  | a :: l, ⟨x, h, e⟩ => by
    rw [List.filterMap_cons]
    rcases List.mem_cons.mp h with rfl | h
    · rw [e]
      exact Nat.lt_succ_of_le (List.length_filterMap_le f l)
    · have := fmap_len ⟨x, h, e⟩
      split
      · exact Nat.lt_succ_of_lt this
      · exact Nat.succ_lt_succ this
theorem swap_not {ts : List Expr} {v : Expr} {k : Nat} {p : Pos} {sc : Scope} {env : Env} (hs : env.scope = sc) (h : (notTup v || ((match (generalizing := false) v with
      | .Tuple vs _ _ => vs.all (foldedForSure 8)
      | _ => false) || (!(ts.length == 2 || ts.length == 3) || ts.any fun t => match (generalizing := false) t with
      | .Name x _ => !onlyLoc sc x
      | _ => false))) = true) : swappedStores [.Tuple ts k p] v env = pure none := by
  cases v <;> first | rfl | skip
  rename_i vs k2 p2
  have h' : (vs.all (foldedForSure 8) || (!(ts.length == 2 || ts.length == 3) || ts.any fun t => match (generalizing := false) t with
      | .Name x _ => !onlyLoc sc x
      | _ => false)) = true := h
  clear h
  rcases Bool.or_eq_true_iff.mp h' with h | h
  · unfold swappedStores
    simp only [h]
    split
    · rfl
    · split
      · rfl
      · split
        · rfl
        · rfl
  · rcases Bool.or_eq_true_iff.mp h with h | h
    · unfold swappedStores
      simp only [h, Bool.true_or, if_true]
    · obtain ⟨x, hx, hq⟩ := List.any_eq_true.mp h
      have key : ∀ line : Nat, ((ts.filterMap fun
        | .Name id pos => if env.kindOf id == some .local && pos.line == line then some id else none
        | _ => none).length != ts.length) = true := fun line => by
        rw [bne_iff_ne]
        refine Nat.ne_of_lt (fmap_len ⟨x, hx, ?_⟩)
        cases x <;> first | (cases hq; done) | skip
        rename_i y q
        have hq' : (!onlyLoc sc y) = true := hq
        have hk : (env.kindOf y == some .local) = false := by
          unfold Env.kindOf
          rw [hs]
          unfold onlyLoc at hq'
          cases e : sc.names.lookup y with
          | none => rfl
          | some kk =>
            rw [e] at hq'
            cases kk <;> first | rfl | cases hq'
        simp only [hk, Bool.false_and]
        rfl
      unfold swappedStores
      simp only []
      split
      · rfl
      · split
        · rfl
        · exact if_pos (Bool.or_eq_true_iff.mpr (.inl (key _)))
theorem swaps_tup {ts : List Expr} {k : Nat} {p : Pos} {v : Expr} {l : Nat} {env : Env} : swapsWithSole [.Tuple ts k p] v l env = pure false := by
  cases v <;> rfl
/-! ### every checked statement -/
theorem sem_augop {o : Operator} {n : Int → Int → Int} (h : augOp o = some n) : (o = .Add ∧ n = fun a b => a + b) ∨ (o = .Sub ∧ n = fun a b => a - b) := by
  cases o <;> first | (cases h; done) | (cases h; exact .inl ⟨rfl, rfl⟩) | (cases h; exact .inr ⟨rfl, rfl⟩)
theorem ip_of {X : Cx} {o : Operator} {n : Int → Int → Int} (h : augOp o = some n) : PIp X o (ipI n) := by
  cases o <;> first | (cases h; done) | (cases h; exact ip_add) | (cases h; exact ip_sub)
theorem sndF (o : c.Ok) : ∀ {f : Fr} {sc : Scope} {a : Expr}, okF c.nm sc f a = true → ∃ t, (∀ X st, XOk c X sc st → PE X a t) ∧ SemR c.K t (fun ρ => match evF c.G c.Φ c.Ψ f ρ with
    | some (o, ρ1) => some (.own false o, ρ1)
    | none => none)
  | .lst es, sc, x, h => by
    have h' : (match (generalizing := false) x with
      | .List as _ => okEs c.nm sc es as
      | _ => false) = true := h
    clear h
    split at h' <;> first | contradiction | skip
    obtain ⟨t, ht, hs⟩ := sndA o es h'
    exact ⟨_, fun X st ok => pe_lst (ht X st ok), semR_lst hs⟩
  | .cpy e, sc, x, h => by
    have h' : (match (generalizing := false) x with
      | .Call (.Name x _) [a] [] _ => decide (x = "list") && (glB sc x && (c.nm.fr.contains x && (okE c.nm sc e a && noStar a)))
      | _ => false) = true := h
    clear h
    split at h' <;> first | contradiction | skip
    rename_i y p a q
    simp only [Bool.and_eq_true, decide_eq_true_eq] at h'
    obtain ⟨rfl, h1, h2, h3, h4⟩ := h'
    obtain ⟨t, ht, hs⟩ := sndE o e h3
    refine ⟨_, fun X st ok => ?_, semR_cpy hs⟩
    obtain ⟨b1, b2, b3, b4⟩ := blt_boot .list
    exact pe_callTy (blt_c .list ok.K ok.calm) (ok.gl h1) (ok.none o h2) (b2 _ rfl) (pa_cons (ht X st ok) pa_nil (star_cons h4)) b3 b4 (star_cons h4) rfl
  | .dct0, sc, x, h => by
    have h' : (match (generalizing := false) x with
      | .Dict [] [] _ => true
      | _ => false) = true := h
    clear h
    split at h' <;> first | contradiction | skip
    exact ⟨_, fun X st ok => pe_dnewK, semR_dct0⟩
  | .cal f es, sc, x, h => by
    have h' : (match (generalizing := false) x with
      | .Call (.Name x _) as [] _ => decide (c.nm.fnm[f]? = some x) && (glB sc x && (nmB x && okEs c.nm sc es as))
      | _ => false) = true := h
    clear h
    split at h' <;> first | contradiction | skip
    rename_i y p as q
    simp only [Bool.and_eq_true, decide_eq_true_eq] at h'
    obtain ⟨h1, h2, h3, h4⟩ := h'
    obtain ⟨fa, fd, ps, g1, g2, g3, _, g4, _, g5⟩ := o.call f y h1
    obtain ⟨t, ht, hs⟩ := sndA o es h4
    cases as with
    | nil =>
      cases es with
      | cons _ _ => simp [okEs] at h4
      | nil =>
        refine ⟨_, fun X st ok => pe_call0 (CX := CX0) (k := c.n) (f := fa) (fd := fd) (ps := ps) (sp := spF c.K ps.length (c.Ψ f)) (dvs := []) (ds := []) (E := E0) (by rw [ok.prog, ok.w, ok.K, ok.mg, ok.base]; exact g4) ok.room (ok.gl h2) (by rw [ok.mg]; exact g1) (by rw [ok.K]; exact g2) (by rw [ok.K]; exact g3) .nil pass0 (nm_of h3).1, ?_⟩
        exact semR_cal g5 sem_nil
    | cons b bs =>
      have hb : noStar b = true := by
        cases es with
        | nil => simp [okEs] at h4
        | cons _ _ =>
          unfold okEs at h4
          simp only [Bool.and_eq_true] at h4
          exact h4.2.1
      refine ⟨_, fun X st ok => pe_call (CX := CX0) (k := c.n) (f := fa) (fd := fd) (ps := ps) (sp := spF c.K ps.length (c.Ψ f)) (dvs := []) (ds := []) (E := E0) (by rw [ok.prog, ok.w, ok.K, ok.mg, ok.base]; exact g4) ok.room (ok.gl h2) (by rw [ok.mg]; exact g1) (by rw [ok.K]; exact g2) (by rw [ok.K]; exact g3) .nil pass0 (ht X st ok) (nm_of h3).1 (star_cons hb) ?_, semR_cal g5 hs⟩
      cases es with
      | nil => simp [okEs] at h4
      | cons _ _ =>
        unfold okEs at h4
        simp only [Bool.and_eq_true] at h4
        exact plain_star h4.2.2
  | .orF f g, sc, x, h => by
    have h' : (match (generalizing := false) x with
      | .BoolOp .Or [x, y] _ => okF c.nm sc f x && okF c.nm sc g y
      | _ => false) = true := h
    clear h
    split at h' <;> first | contradiction | skip
    rename_i e1 e2 ps
    obtain ⟨h1, h2⟩ := Bool.and_eq_true_iff.mp h'
    obtain ⟨t1, ht1, hs1⟩ := sndF o h1
    obtain ⟨t2, ht2, hs2⟩ := sndF o h2
    refine ⟨_, fun X st ok => ?_, semR_orF hs1 hs2⟩
    have := pe_orT (pos := ps) (ht1 X st ok) (pe_one (ht2 X st ok))
    rw [ok.K] at this
    exact this
theorem sndR (o : c.Ok) : ∀ {r : Rv} {sc : Scope} {a : Expr}, okR c.nm sc r a = true → ∃ t, (∀ X st, XOk c X sc st → PE X a t) ∧ SemR c.K t (evR c.G c.Φ c.Ψ r)
  | .e e, sc, a, h => by
    obtain ⟨t, ht, hs⟩ := sndE o e (show okE c.nm sc e a = true from h)
    exact ⟨t, ht, semR_e hs⟩
  | .f f, sc, a, h => sndF o (show okF c.nm sc f a = true from h)
/-- name = value -/
theorem s_set (o : c.Ok) {sc : Scope} {i : Nat} {e : E} {y : Str} {q p : Pos} {v : Expr} (h1 : c.nm.N[i]? = some y) (h2 : locB sc y = true) (h3 : okE c.nm sc e v = true) (h4 : okSw sc y q v = true) : SndS c fu sc (.set i e) (.Assign [.Name y q] v p) := by
  by_cases hc : noComp v = true
  · obtain ⟨t, ht, hs⟩ := sndE o e h3
    exact ⟨_, fun X ok => ps_set (ok.nd o) (by rw [ok.N]; exact h1) (ok.loc h2).1 (ht X sc ok) (swaps_no hc) (ok.loc h2).2, semS_set hs⟩
  · unfold okSw at h4
    split at h4
    · rename_i elt tt0 it0 ifs0 scope p0
      simp only [Bool.and_eq_true, Bool.not_eq_true'] at h4
      obtain ⟨k1, k2, k3⟩ := h4
      cases e <;> first | (cases h3; done) | skip
      rename_i tg it t e
      obtain ⟨elt', tt', i', ifs, scope', p', he, g1, g2, g3, g4, g5, g6, g7⟩ := inv_comp h3
      cases he
      obtain ⟨t1, ht1, hs1⟩ := sndI o it g3
      obtain ⟨t2, ht2, hs2⟩ := sndE o e g5
      have hT : ∃ tT, (∀ X st, XOk c X (relS scope sc) st → PTs X ifs0 tT) ∧ SemT c.K tT (evT c.G c.Φ t) := by
        cases ifs0 with
        | nil =>
          have h4' : isYes t = true := g4
          cases t <;> first | (cases h4'; done) | skip
          exact ⟨_, fun X st ok => pts_nil, semT_yes⟩
        | cons g r =>
          cases r with
          | nil =>
            obtain ⟨t0, ht0, hs0⟩ := sndT o t (show okT c.nm (relS scope sc) t g = true from g4)
            exact ⟨_, fun X st ok => pts_one (ht0 X st ok).1, hs0⟩
          | cons _ _ => exact absurd (show false = true from g4) Bool.false_ne_true
      obtain ⟨tT, htT, hsT⟩ := hT
      refine ⟨tAsg (tLc t1 (gOf c.K tg) tT t2 tg.sl) (gName i), fun X ok => ?_, semS_set (sem_comp hs1 (gOf_sem tg) hsT hs2)⟩
      have hb : BlkOk X.N X.env.scope scope (ownOf c.nm tg.sl) := by
        rw [ok.N, ok.scp]
        exact blkOk_by g1
      have := ps_setLc (py := q) (pos := p0) (spos := p) ok.calm (ok.nd o) (i := i) (y := y) (by rw [ok.N]; exact h1) (ok.only k2) (sw_true (by rw [ok.scp]; exact ok.kind) (ok.only k2) k1 k3) (ht1 X sc ok) hb (fun s H C cl fp => pg_of o (ok.blk g1 s H C cl fp) g2) (fun s H C cl fp => htT _ _ (ok.blk g1 s H C cl fp)) (fun s H C cl fp => ht2 _ _ (ok.blk g1 s H C cl fp)) (fold_no g6)
      rw [own_snd] at this
      exact this
    · exact absurd h4 hc
theorem sub_asg {x k : Expr} {p : Pos} {env : Env} (h : noSlice k = true) : ∀ v, assign (.Subscript x k p) env v = (do
      let ov ← holding [v] (eval x env)
      let iv ← holding [v, ov] (eval k env)
      standAt p
      holding [v, ov, iv] (setItem ov iv v)
      release [v, ov, iv] []) := by
  intro v
  cases k <;> first | (cases h; done) | rfl
theorem swaps_sole {t v : Expr} {l : Nat} {env : Env} (h : noComp v = true) : swapsWithSole [t] v l env = pure false := by
  cases v <;> first | rfl | (cases h; done)
mutual
theorem sndS (o : c.Ok) : ∀ (s : S) {sc : Scope} {a : Stmt}, okS c.nm sc s a = true → SndS c fu sc s a
  | .set i e, sc, x, h => by
    have h' : (match (generalizing := false) x with
      | .Assign [.Name y q] v p => decide (c.nm.N[i]? = some y) && (locB sc y && (okE c.nm sc e v && okSw sc y q v))
      | _ => false) = true := h
    clear h
    split at h' <;> first | contradiction | skip
    simp only [Bool.and_eq_true, decide_eq_true_eq] at h'
    exact s_set o h'.1 h'.2.1 h'.2.2.1 h'.2.2.2
  | .setO i f, sc, x, h => by
    have h' : (match (generalizing := false) x with
      | .Assign [.Name y q] v p => decide (c.nm.N[i]? = some y) && (locB sc y && (okF c.nm sc f v && noComp v))
      | _ => false) = true := h
    clear h
    split at h' <;> first | contradiction | skip
    simp only [Bool.and_eq_true, decide_eq_true_eq] at h'
    obtain ⟨h1, h2, h3, h4⟩ := h'
    obtain ⟨t, ht, hs⟩ := sndF o h3
    refine ⟨_, fun X ok => ps_set (ok.nd o) (by rw [ok.N]; exact h1) (ok.loc h2).1 (ht X sc ok) (swaps_no h4) (ok.loc h2).2, ?_⟩
    intro ρ0 σ0 Hf0 H0 ρ σ Hf H D out gd e w
    refine semS_setR (i := i) hs gd ?_ w
    have e' : (match evF c.G c.Φ c.Ψ f ρ with
      | some (o, ρ1) => if isRef ρ1 i then none else some (Out.nx (ρ1.set i (.own false o)))
      | none => none) = some out := e
    clear e
    split at e' <;> first | contradiction | skip
    rename_i g1
    simp only [g1]
    exact e'
  | .par i j a b, sc, x, h => by
    have h' : (match (generalizing := false) x with
      | .Assign [.Tuple [.Name y q, .Name z r] _ _] (.Tuple [v, u] _ _) p => decide (c.nm.N[i]? = some y) && (decide (c.nm.N[j]? = some z) && (decide (i ≠ j) && (decide (y ≠ z) && (onlyLoc sc y && (onlyLoc sc z && ((q.line == r.line) && (okR c.nm sc a v && (okR c.nm sc b u && (noStar v && (noStar u && (!([v, u].all (foldedForSure 8)) && !([v, u].all (constantsAlone 8)))))))))))))
      | _ => false) = true := h
    clear h
    split at h' <;> first | contradiction | skip
    simp only [Bool.and_eq_true, decide_eq_true_eq, Bool.not_eq_true'] at h'
    obtain ⟨h1, h2, h3, h4, h5, h6, h7, h8, h9, h10, h11, h12, h13⟩ := h'
    obtain ⟨t1, ht1, hs1⟩ := sndR o h8
    obtain ⟨t2, ht2, hs2⟩ := sndR o h9
    exact ⟨_, fun X ok => ps_par ok.calm (ok.nd o) (by rw [ok.N]; exact h1) (by rw [ok.N]; exact h2) h3 (ok.only h5) (ok.only h6) (pa_cons (ht1 X sc ok) (pa_cons (ht2 X sc ok) pa_nil (star_cons h11)) (star_cons h10))
      (swap_par (by rw [ok.scp]; exact ok.kind) (ok.only h5) (ok.only h6) h4 h7 h10 h11 h12 h13), semS_par h3 hs1 hs2⟩
  | .unp is e, sc, x, h => by
    have h' : (match (generalizing := false) x with
      | .Assign [.Tuple es k t] v p => okNm c.nm sc is es && (okE c.nm sc e v && (notTup v || ((match (generalizing := false) v with
        | .Tuple vs _ _ => vs.all (foldedForSure 8)
        | _ => false) || (!(es.length == 2 || es.length == 3) || es.any fun t => match (generalizing := false) t with
        | .Name x _ => !onlyLoc sc x
        | _ => false))))
      | _ => false) = true := h
    clear h
    split at h' <;> first | contradiction | skip
    rename_i es k tp v p
    obtain ⟨h1, h'⟩ := Bool.and_eq_true_iff.mp h'
    obtain ⟨h2, h4⟩ := Bool.and_eq_true_iff.mp h'
    obtain ⟨t, ht, hs⟩ := sndE o e h2
    exact ⟨_, fun X ok => ps_asg (ht X sc ok) (pg_of (tg := .tp is) o ok (t := .Tuple es k tp) (by unfold okTg; exact h1)) swaps_tup (swap_not ok.scp h4), semS_unp hs⟩
  | .sto i a b, sc, x, h => by
    have h' : (match (generalizing := false) x with
      | .Assign [.Subscript (.Name y q) k t] v p => decide (c.nm.N[i]? = some y) && (visB sc y && (nmB y && (okE c.nm sc a k && (noSlice k && (okE c.nm sc b v && noComp v)))))
      | _ => false) = true := h
    clear h
    split at h' <;> first | contradiction | skip
    simp only [Bool.and_eq_true, decide_eq_true_eq] at h'
    obtain ⟨h1, h2, h3, h4, h5, h6, h7⟩ := h'
    obtain ⟨t1, ht1, hs1⟩ := sndE o a h4
    obtain ⟨t2, ht2, hs2⟩ := sndE o b h6
    exact ⟨_, fun X ok => ps_asg (ht2 X sc ok) (pg_sub (pe_pl ok h1 h2 h3) (ht1 X sc ok) set_list (sub_asg h5)) (swaps_sole h7) rfl rfl, semS_sto hs2 hs1⟩
  | .dput i a b, sc, x, h => by
    have h' : (match (generalizing := false) x with
      | .Assign [.Subscript (.Name y q) k t] v p => decide (c.nm.N[i]? = some y) && (visB sc y && (nmB y && (okE c.nm sc a k && (noSlice k && (okE c.nm sc b v && noComp v)))))
      | _ => false) = true := h
    clear h
    split at h' <;> first | contradiction | skip
    simp only [Bool.and_eq_true, decide_eq_true_eq] at h'
    obtain ⟨h1, h2, h3, h4, h5, h6, h7⟩ := h'
    obtain ⟨t1, ht1, hs1⟩ := sndE o a h4
    obtain ⟨t2, ht2, hs2⟩ := sndE o b h6
    exact ⟨_, fun X ok => ps_dput ok.hu (pe_pl ok h1 h2 h3) (ht1 X sc ok) (ht2 X sc ok) (swaps_no h7), semS_dput hs2 hs1⟩
  | .aug i op e, sc, x, h => by
    have h' : (match (generalizing := false) x with
      | .AugAssign (.Name y q) o' v p => decide (c.nm.N[i]? = some y) && (locB sc y && (decide (op = o') && ((augOp op).isSome && okE c.nm sc e v)))
      | _ => false) = true := h
    clear h
    split at h' <;> first | contradiction | skip
    simp only [Bool.and_eq_true, decide_eq_true_eq] at h'
    obtain ⟨h1, h2, rfl, h4, h5⟩ := h'
    obtain ⟨n, hn⟩ := Option.isSome_iff_exists.mp h4
    obtain ⟨t, ht, hs⟩ := sndE o e h5
    exact ⟨_, fun X ok => ps_aug (ok.nd o) (by rw [ok.N]; exact h1) (ok.loc h2).1 (ht X sc ok) (ip_of hn) (ok.loc h2).2, semS_aug (sem_augop hn) hs⟩
  | .xp e, sc, x, h => by
    have h' : (match (generalizing := false) x with
      | .Expr v p => okE c.nm sc e v && noComp v
      | _ => false) = true := h
    clear h
    split at h' <;> first | contradiction | skip
    obtain ⟨h1, h2⟩ := Bool.and_eq_true_iff.mp h'
    obtain ⟨t, ht, hs⟩ := sndE o e h1
    exact ⟨_, fun X ok => ps_expr (ht X sc ok) (swaps_no h2), semS_xp hs⟩
  | .app i e, sc, x, h => by
    have h' : (match (generalizing := false) x with
      | .Expr (.Call (.Attribute (.Name y q) f ap) [a] [] p) p2 => decide (f = "append") && (decide (c.nm.N[i]? = some y) && (visB sc y && (nmB y && ((ap.endLine == p.line) && (okE c.nm sc e a && noStar a)))))
      | _ => false) = true := h
    clear h
    split at h' <;> first | contradiction | skip
    rename_i y q f ap a p p2
    simp only [Bool.and_eq_true, decide_eq_true_eq] at h'
    obtain ⟨rfl, h1, h2, h3, h4, h5, h6⟩ := h'
    obtain ⟨t, ht, hs⟩ := sndE o e h5
    refine ⟨_, fun X ok => ?_, semS_app hs⟩
    have := ps_expr (pos := p2) (pe_bm (X := X) PySem.F.plainAttrs_list PySem.F.slot_list_append PySem.F.type_list_append mt_append (pe_pl (p := q) ok h1 h2 h3) (pa_cons (ht X sc ok) pa_nil (star_cons h6)) rfl (by rw [star_cons h6]; rfl) h4 (star_cons h6) rfl) rfl
    rw [ok.K] at this
    exact this
  | .ext i e, sc, x, h => by
    have h' : (match (generalizing := false) x with
      | .Expr (.Call (.Attribute (.Name y q) f ap) [a] [] p) p2 => decide (f = "extend") && (decide (c.nm.N[i]? = some y) && (visB sc y && (nmB y && ((ap.endLine == p.line) && (okE c.nm sc e a && noStar a)))))
      | _ => false) = true := h
    clear h
    split at h' <;> first | contradiction | skip
    rename_i y q f ap a p p2
    simp only [Bool.and_eq_true, decide_eq_true_eq] at h'
    obtain ⟨rfl, h1, h2, h3, h4, h5, h6⟩ := h'
    obtain ⟨t, ht, hs⟩ := sndE o e h5
    refine ⟨_, fun X ok => ?_, semS_ext hs⟩
    have := ps_expr (pos := p2) (pe_bm (X := X) PySem.F.plainAttrs_list PySem.F.slot_list_extend PySem.F.type_list_extend mt_extend (pe_pl (p := q) ok h1 h2 h3) (pa_cons (ht X sc ok) pa_nil (star_cons h6)) rfl (by rw [star_cons h6]; rfl) h4 (star_cons h6) rfl) rfl
    rw [ok.K] at this
    exact this
  | .ret e, sc, x, h => by
    have h' : (match (generalizing := false) x with
      | .Return (some v) p => okE c.nm sc e v
      | _ => false) = true := h
    clear h
    split at h' <;> first | contradiction | skip
    obtain ⟨t, ht, hs⟩ := sndE o e h'
    exact ⟨_, fun X ok => ps_ret (ht X sc ok), semS_ret hs⟩
  | .retO f, sc, x, h => by
    have h' : (match (generalizing := false) x with
      | .Return (some v) p => okF c.nm sc f v
      | _ => false) = true := h
    clear h
    split at h' <;> first | contradiction | skip
    obtain ⟨t, ht, hs⟩ := sndF o h'
    exact ⟨_, fun X ok => ps_ret (ht X sc ok), semS_retO hs⟩
  | .ife t a b, sc, x, h => by
    have h' : (match (generalizing := false) x with
      | .If q u v p => okT c.nm sc t q && (okSs c.nm sc a u && okSs c.nm sc b v)
      | _ => false) = true := h
    clear h
    split at h' <;> first | contradiction | skip
    obtain ⟨h1, h'⟩ := Bool.and_eq_true_iff.mp h'
    obtain ⟨h2, h3⟩ := Bool.and_eq_true_iff.mp h'
    obtain ⟨t0, ht0, hs0⟩ := sndT o t h1
    obtain ⟨t1, ht1, hs1⟩ := sndSs o a h2
    obtain ⟨t2, ht2, hs2⟩ := sndSs o b h3
    exact ⟨_, fun X ok => ps_if (ht0 X sc ok).1 (ht1 X ok) (ht2 X ok), semS_ife hs0 hs1 hs2⟩
  | .whl t b, sc, x, h => by
    have h' : (match (generalizing := false) x with
      | .While q u [] p => okT c.nm sc t q && okSs c.nm sc b u
      | _ => false) = true := h
    clear h
    split at h' <;> first | contradiction | skip
    obtain ⟨h1, h2⟩ := Bool.and_eq_true_iff.mp h'
    obtain ⟨t0, ht0, hs0⟩ := sndT o t h1
    obtain ⟨t1, ht1, hs1⟩ := sndSs o b h2
    exact ⟨_, fun X ok => ps_while ok.passes (ht0 X sc ok).1 (ht1 X ok), semS_whl hs0 hs1⟩
  | .for tg it b, sc, x, h => by
    have h' : (match (generalizing := false) x with
      | .For t i u [] p => okTg c.nm sc tg t && (okI c.nm sc it i t && (okSs c.nm sc b u && noSet i))
      | _ => false) = true := h
    clear h
    split at h' <;> first | contradiction | skip
    obtain ⟨h1, h'⟩ := Bool.and_eq_true_iff.mp h'
    obtain ⟨h2, h'⟩ := Bool.and_eq_true_iff.mp h'
    obtain ⟨h3, h4⟩ := Bool.and_eq_true_iff.mp h'
    obtain ⟨t0, ht0, hs0⟩ := sndI o it h2
    obtain ⟨t1, ht1, hs1⟩ := sndSs o b h3
    exact ⟨_, fun X ok => ps_for ok.passes ok.calm (ht0 X sc ok) (pg_of o ok h1) (ht1 X ok) (fold_no h4), semS_for hs0 (gOf_sem tg) hs1⟩
  | .brk, sc, x, h => by
    have h' : (match (generalizing := false) x with
      | .Break p => true
      | _ => false) = true := h
    clear h
    split at h' <;> first | contradiction | skip
    exact ⟨_, fun X ok => ps_break, semS_brk⟩
  | .cont, sc, x, h => by
    have h' : (match (generalizing := false) x with
      | .Continue p => true
      | _ => false) = true := h
    clear h
    split at h' <;> first | contradiction | skip
    exact ⟨_, fun X ok => ps_continue, semS_cont⟩
  | .rse, sc, x, h => ⟨_, fun X ok => ps_never, semS_rse⟩
theorem sndSs (o : c.Ok) : ∀ (s : Ss) {sc : Scope} {a : List Stmt}, okSs c.nm sc s a = true → SndSs c fu sc s a
  | .nil, _, [], _ => ⟨_, fun X ok => pss_nil, semS_nil⟩
  | .nil, _, _ :: _, h => by exact absurd (show false = true from h) Bool.false_ne_true
  | .cons _ _, _, [], h => by exact absurd (show false = true from h) Bool.false_ne_true
  | .cons s ss, sc, a :: as, h => by
    obtain ⟨h1, h2⟩ := Bool.and_eq_true_iff.mp (show (okS c.nm sc s a && okSs c.nm sc ss as) = true from h)
    obtain ⟨t1, ht1, hs1⟩ := sndS o s h1
    obtain ⟨t2, ht2, hs2⟩ := sndSs o ss h2
    exact ⟨_, fun X ok => pss_cons (ht1 X ok) (ht2 X ok), semS_cons hs1 hs2⟩
end
end Dn
set_option Elab.async false
set_option linter.all false
set_option maxRecDepth 100000
set_option maxHeartbeats 4000000
/-! Dn, part C15: a table of defs that call one another. -/
namespace Dn
open PySem L2
structure Fn where
  np : Nat
  nl : Nat
  body : Ss
inductive Res where
  | d (x : D) (as : List SV) | o (o : OV) (as : List SV)
def asD (r : Nat → List SV → Option Res) (i : Nat) (as : List SV) : Option (D × List SV) := match r i as with
  | some (.d x as') => some (x, as')
  | some (.o o as') => some (ovD o, as')
  | none => none
def asO (r : Nat → List SV → Option Res) (i : Nat) (as : List SV) : Option (OV × List SV) := match r i as with
  | some (.o o as') => some (o, as')
  | _ => none
/-- def i at these arguments; no deeper than the count -/
def runN (tab : List Fn) (fu : Nat) (G : List D) : Nat → Nat → List SV → Option Res
  | 0, _, _ => none
  | n + 1, i, as => match tab[i]? with
    | none => none
    | some f => if as.length = f.np then (match evSs fu G (asD (runN tab fu G n)) (asO (runN tab fu G n)) f.body (as ++ List.replicate (f.nl - f.np) .un) with
      | some (.rt d ρ) => some (.d d (ρ.take f.np))
      | some (.ro o ρ) => some (.o o (ρ.take f.np))
      | some (.nx ρ) => some (.d .none (ρ.take f.np))
      | _ => none) else none
section
variable {K : PySem.W.Frag} {N : List Str} {vs : List V} {as : List SV} {Hf H : Hp}
theorem start_get {i : Nat} {v : V} (h : vs[i]? = some v) : (start N vs)[i]? = some (some v) := by
  unfold L2.start
  have hi : i < vs.length := (List.getElem?_eq_some_iff.mp h).1
  rw [List.getElem?_append_left (by simpa using hi), List.getElem?_map, h]
  rfl
theorem start_len (h : vs.length ≤ N.length) : (start N vs).length = N.length := by
  unfold L2.start
  rw [List.length_append, List.length_map, List.length_replicate]
  omega
theorem un_get {k i : Nat} {y : SV} (hy : y ≠ .un) (h : (as ++ List.replicate k .un)[i]? = some y) : as[i]? = some y := by
  by_cases hi : i < as.length
  · rw [List.getElem?_append_left hi] at h
    exact h
  · rw [List.getElem?_append_right (by omega), List.getElem?_replicate] at h
    split at h
    · exact absurd (Option.some.inj h).symm hy
    · cases h
theorem get_un {k i : Nat} {y : SV} (h : as[i]? = some y) : (as ++ List.replicate k .un)[i]? = some y := by
  rw [List.getElem?_append_left (List.getElem?_eq_some_iff.mp h).1]
  exact h
theorem sta_start {k : Nat} (A : Args K Hf H vs as) (hk : k = N.length - as.length) (hN : as.length ≤ N.length) : Sta K (as ++ List.replicate k .un) (start N vs) Hf H := by
  subst hk
  refine ⟨?_, A.ex, fun i x h => ?_, fun i r o h => ?_, fun i j r o r' o' a h1 h2 h3 h4 => ?_, fun i xs h => by
    obtain ⟨v, h1, h2⟩ := A.ro i xs (un_get (by simp) h)
    exact ⟨v, start_get h1, h2⟩⟩
  · rw [start_len (by rw [A.len]; exact hN), List.length_append, List.length_replicate]
    omega
  · obtain ⟨v, h1, h2⟩ := A.pure i x (un_get (by simp) h)
    exact ⟨v, start_get h1, h2⟩
  · obtain ⟨_, a, h1, h2, h3⟩ := A.own i r o (un_get (by simp) h)
    exact ⟨a, start_get h1, h2, h3⟩
  · have q1 := un_get (by simp) h1
    have q2 := un_get (by simp) h2
    obtain ⟨_, a1, g1, _⟩ := A.own i r o q1
    obtain ⟨_, a2, g2, _⟩ := A.own j r' o' q2
    have e1 := start_get (N := N) g1
    have e2 := start_get (N := N) g2
    rw [h3] at e1
    rw [h4] at e2
    cases e1
    cases e2
    exact A.dis i j r o r' o' a q1 q2 g1 g2
theorem back_fin {k : Nat} {ρ : Rho} {R : Prop} {Hf' H' : Hp} (A : Args K Hf H vs as) (F : Fin K (as ++ List.replicate k .un) (start N vs) Hf H ρ Hf' H' R) : Back K Hf H vs as (ρ.take as.length) Hf' H' := by
  have hl : as.length ≤ ρ.length := by rw [F.ln, List.length_append]; omega
  refine ⟨F.ex, F.exh, F.fr, fun a o h q => F.fm a o h fun i ov h1 h2 => ?_, by rw [List.length_take]; omega, fun i r o h => ?_⟩
  · have q1 := un_get (by simp) h1
    obtain ⟨_, a1, g1, _⟩ := A.own i true ov q1
    have e1 := start_get (N := N) g1
    rw [h2] at e1
    cases e1
    exact q i true ov q1 g1
  · obtain ⟨hr, a1, g1, _⟩ := A.own i r o h
    subst hr
    obtain ⟨o', q1, q2⟩ := F.rf i o (get_un h)
    refine ⟨o', ?_, fun a ha => q2 a (start_get ha)⟩
    rw [List.getElem?_take_of_lt (List.getElem?_eq_some_iff.mp h).1]
    exact q1
end
/-- what is known of the text and of the machine at the law's call -/
structure Sys (P : Program) (w : World) (K : PySem.W.Frag) (mg : Str → Option Value) (base : Heap) (fr GN fnm : List Str) (G : List D) (tab : List Fn) : Prop where
  free : ∀ x, fr.contains x = true → mg x = none
  gcd : fr.contains "gcd" = false → mg "gcd" = some (.builtin "math.gcd")
  glob : ∀ (k : Nat) (x : Str) (d : D), GN[k]? = some x → G[k]? = some d → ∃ u v, mg x = some u ∧ RelV v u ∧ ∀ H, RD K H v d
  fns : ∀ (i : Nat) (x : Str), fnm[i]? = some x → ∃ (f : Addr) (fd : FuncData) (ps : List Str) (qual : Str) (params : Arguments) (body : List Stmt) (scope : Scope) (N : List Str) (fn : Fn), mg x = some (.ref f) ∧ FunD K x qual params body scope [] [] f fd ∧ Binds K fd ps [] ∧
    FnScope N ps scope ∧ tab[i]? = some fn ∧ fn.np = ps.length ∧ fn.nl = N.length ∧ okSs ⟨N, fr, GN, fnm⟩ scope fn.body body = true
section
variable {P : Program} {w : World} {K : PySem.W.Frag} {mg : Str → Option Value} {base : Heap} {fr GN fnm : List Str} {G : List D} {tab : List Fn} {fu : Nat}
def ctN (P : Program) (w : World) (K : PySem.W.Frag) (mg : Str → Option Value) (base : Heap) (fr GN fnm : List Str) (G : List D) (tab : List Fn) (fu n : Nat) (N : List Str) : Ct := ⟨P, w, K, mg, base, n, ⟨N, fr, GN, fnm⟩, G, asD (runN tab fu G n), asO (runN tab fu G n)⟩
theorem Sys.ok (S : Sys P w K mg base fr GN fnm G tab) : ∀ (n : Nat) (N : List Str), N.Nodup → (ctN P w K mg base fr GN fnm G tab fu n N).Ok
  | 0, N, hN => ⟨hN, S.free, S.gcd, S.glob, fun i x h => by
    obtain ⟨f, fd, ps, qual, params, body, scope, N', fn, h1, h2, h3, h4, h5, h6, h7, h8⟩ := S.fns i x h
    refine ⟨f, fd, ps, h1, h2.kp, h3, ⟨fun vs H Q E q => q.1, fun A outer s H args us vs Q E hr he hb hv hs => ?_⟩, ⟨fun vs H Q E q => q.1, fun A outer s H args us vs Q E hr he hb hv hs => ?_⟩, fun as r e => (nomatch e), fun as r e => (nomatch e)⟩
    · obtain ⟨_, as, Hf, d, as', _, e, _⟩ := hs
      cases e
    · obtain ⟨_, as, Hf, d, as', _, e, _⟩ := hs
      cases e⟩
  | n + 1, N, hN => ⟨hN, S.free, S.gcd, S.glob, fun i x h => by
    obtain ⟨f, fd, ps, qual, params, body, scope, N', fn, h1, h2, h3, h4, h5, h6, h7, h8⟩ := S.fns i x h
    have o := Sys.ok S n N' h4.nd
    have hpl : ps.length ≤ N'.length := by have := congrArg List.length h4.pre; rw [List.length_take] at this; omega
    have arity : ∀ as r, runN tab fu G (n + 1) i as = some r → as.length = ps.length ∧ (match evSs fu G (asD (runN tab fu G n)) (asO (runN tab fu G n)) fn.body (as ++ List.replicate (N'.length - ps.length) .un) with
      | some (.rt d ρ) => some (Res.d d (ρ.take ps.length))
      | some (.ro o ρ) => some (Res.o o (ρ.take ps.length))
      | some (.nx ρ) => some (Res.d .none (ρ.take ps.length))
      | _ => none) = some r := fun as r e => by
      unfold runN at e
      rw [h5] at e
      dsimp only at e
      rw [h6, h7] at e
      split at e
      · rename_i hl
        exact ⟨hl, e⟩
      · cases e
    have ofD : ∀ as r, asD (runN tab fu G (n + 1)) i as = some r → ∃ z, runN tab fu G (n + 1) i as = some z ∧ (z = .d r.1 r.2 ∨ ∃ o, z = .o o r.2 ∧ r.1 = ovD o) := fun as r e => by
      unfold asD at e
      split at e <;> first | contradiction | skip
      · rename_i e2
        cases e
        exact ⟨_, e2, .inl rfl⟩
      · rename_i e2
        cases e
        exact ⟨_, e2, .inr ⟨_, rfl, rfl⟩⟩
    have ofO : ∀ as r, asO (runN tab fu G (n + 1)) i as = some r → runN tab fu G (n + 1) i as = some (.o r.1 r.2) := fun as r e => by
      unfold asO at e
      split at e <;> first | contradiction | skip
      rename_i e2
      cases e
      exact e2
    have real : ∀ {vs : List V} {as : List SV} {Hf H : Hp}, Args K Hf H vs as → ∀ (j : Nat) (ov : OV) (a : Addr), (as ++ List.replicate (N'.length - ps.length) .un)[j]? = some (.own true ov) → (start N' vs)[j]? = some (some (.ref a)) → H a ≠ none := fun {vs as Hf H} hA j ov a q1 q2 => by
      obtain ⟨_, a1, g1, _, g3⟩ := hA.own j true ov (un_get (by simp) q1)
      have e1 := start_get (N := N') g1
      rw [q2] at e1
      cases e1
      obtain ⟨u, hu⟩ := g3.some
      rw [hu]
      exact fun z => by cases z
    refine ⟨f, fd, ps, h1, h2.kp, h3, ?_, ?_, fun as r e => ?_, fun as r e => (arity _ _ (ofO as r e)).1⟩
    · refine FunD.ok h2 h4 (fun vs H Q E q => q.1) fun cdv A outer s H vs Q E hr hsp => ?_
      obtain ⟨t, ht, hs⟩ := sndSs (fu := fu) o fn.body h8
      refine ⟨t, (ht (cxOf CX0 P w K mg base N' qual scope f cdv A outer s H E).nox ⟨rfl, rfl, rfl, rfl, rfl, rfl, rfl, h4.kind, rfl, hr, rfl, fun y hy => ⟨hy, .inl rfl⟩⟩).nox, ?_⟩
      obtain ⟨hl, as, Hf, d, as', hA, e, hq⟩ := hsp
      obtain ⟨z, e0, ez⟩ := ofD _ _ e
      obtain ⟨e1, e2⟩ := arity _ _ e0
      have st : Sta K (as ++ List.replicate (N'.length - ps.length) .un) (start N' vs) Hf H := sta_start hA (by rw [e1]) (by omega)
      have gd := Gd.start st fun i o q => by
        have := (hA.own i false o (un_get (by simp) q)).1
        cases this
      split at e2 <;> first | contradiction | skip
      · rename_i d0 ρ he
        cases e2
        rcases ez with ez | ⟨o, ez, _⟩
        · cases ez
          refine hs gd he fun v Hf' H' fin => ?_
          have b := back_fin hA fin
          rw [e1] at b
          exact hq v Hf' H' b fin.rd
        · cases ez
      · rename_i o0 ρ he
        cases e2
        rcases ez with ez | ⟨o, ez, ed⟩
        · cases ez
        · cases ez
          refine hs gd he fun v Hf' H' fin => ?_
          obtain ⟨Hf2, fin2⟩ := fin.frz (real hA)
          have b := back_fin hA fin2
          rw [e1] at b
          refine hq v Hf2 H' b ?_
          have ed' : d = ovD o0 := ed
          rw [ed']
          exact fin2.rd
      · rename_i ρ he
        cases e2
        rcases ez with ez | ⟨o, ez, _⟩
        · cases ez
          refine hs gd he fun σ' Hf' H' g => ?_
          have fin := g.fin (R := True) trivial
          have b := back_fin hA fin
          rw [e1] at b
          exact hq .non Hf' H' b .non
        · cases ez
    · refine FunD.ok h2 h4 (fun vs H Q E q => q.1) fun cdv A outer s H vs Q E hr hsp => ?_
      obtain ⟨t, ht, hs⟩ := sndSs (fu := fu) o fn.body h8
      refine ⟨t, (ht (cxOf CX0 P w K mg base N' qual scope f cdv A outer s H E).nox ⟨rfl, rfl, rfl, rfl, rfl, rfl, rfl, h4.kind, rfl, hr, rfl, fun y hy => ⟨hy, .inl rfl⟩⟩).nox, ?_⟩
      obtain ⟨hl, as, Hf, d, as', hA, e, hq⟩ := hsp
      obtain ⟨e1, e2⟩ := arity _ _ (ofO _ _ e)
      have st : Sta K (as ++ List.replicate (N'.length - ps.length) .un) (start N' vs) Hf H := sta_start hA (by rw [e1]) (by omega)
      have gd := Gd.start st fun i o q => by
        have := (hA.own i false o (un_get (by simp) q)).1
        cases this
      split at e2 <;> first | contradiction | skip
      · cases e2
      · rename_i o0 ρ he
        cases e2
        refine hs gd he fun v Hf' H' fin => ?_
        have b := back_fin hA fin
        rw [e1] at b
        obtain ⟨a, rfl, q1, q2, q3⟩ := fin.rd
        exact hq a Hf' H' b q1 q2 q3
      · cases e2
    · obtain ⟨z, e0, _⟩ := ofD _ _ e
      exact (arity _ _ e0).1⟩
theorem Sys.fnOk {x qual : Str} {params : Arguments} {body : List Stmt} {scope : Scope} {f : Addr} {fd : FuncData} {N' ps : List Str} {fn : Fn} (S : Sys P w K mg base fr GN fnm G tab) (n i : Nat) (h2 : FunD K x qual params body scope [] [] f fd) (h4 : FnScope N' ps scope) (h5 : tab[i]? = some fn) (h6 : fn.np = ps.length) (h7 : fn.nl = N'.length) (h8 : okSs ⟨N', fr, GN, fnm⟩ scope fn.body body = true) :
    FnOk P w K mg base CX0 (n + 1) f fd ps (spD K ps.length (asD (runN tab fu G (n + 1)) i)) := by
  have o := Sys.ok (fu := fu) S n N' h4.nd
  have hpl : ps.length ≤ N'.length := by have := congrArg List.length h4.pre; rw [List.length_take] at this; omega
  have arity : ∀ as r, runN tab fu G (n + 1) i as = some r → as.length = ps.length ∧ (match evSs fu G (asD (runN tab fu G n)) (asO (runN tab fu G n)) fn.body (as ++ List.replicate (N'.length - ps.length) .un) with
    | some (.rt d ρ) => some (Res.d d (ρ.take ps.length))
    | some (.ro o ρ) => some (Res.o o (ρ.take ps.length))
    | some (.nx ρ) => some (Res.d .none (ρ.take ps.length))
    | _ => none) = some r := fun as r e => by
    unfold runN at e
    rw [h5] at e
    dsimp only at e
    rw [h6, h7] at e
    split at e
    · rename_i hl
      exact ⟨hl, e⟩
    · cases e
  have ofD : ∀ as r, asD (runN tab fu G (n + 1)) i as = some r → ∃ z, runN tab fu G (n + 1) i as = some z ∧ (z = .d r.1 r.2 ∨ ∃ o, z = .o o r.2 ∧ r.1 = ovD o) := fun as r e => by
    unfold asD at e
    split at e <;> first | contradiction | skip
    · rename_i e2
      cases e
      exact ⟨_, e2, .inl rfl⟩
    · rename_i e2
      cases e
      exact ⟨_, e2, .inr ⟨_, rfl, rfl⟩⟩
  have ofO : ∀ as r, asO (runN tab fu G (n + 1)) i as = some r → runN tab fu G (n + 1) i as = some (.o r.1 r.2) := fun as r e => by
    unfold asO at e
    split at e <;> first | contradiction | skip
    rename_i e2
    cases e
    exact e2
  have real : ∀ {vs : List V} {as : List SV} {Hf H : Hp}, Args K Hf H vs as → ∀ (j : Nat) (ov : OV) (a : Addr), (as ++ List.replicate (N'.length - ps.length) .un)[j]? = some (.own true ov) → (start N' vs)[j]? = some (some (.ref a)) → H a ≠ none := fun {vs as Hf H} hA j ov a q1 q2 => by
    obtain ⟨_, a1, g1, _, g3⟩ := hA.own j true ov (un_get (by simp) q1)
    have e1 := start_get (N := N') g1
    rw [q2] at e1
    cases e1
    obtain ⟨u, hu⟩ := g3.some
    rw [hu]
    exact fun z => by cases z
  refine FunD.ok h2 h4 (fun vs H Q E q => q.1) fun cdv A outer s H vs Q E hr hsp => ?_
  obtain ⟨t, ht, hs⟩ := sndSs (fu := fu) o fn.body h8
  refine ⟨t, (ht (cxOf CX0 P w K mg base N' qual scope f cdv A outer s H E).nox ⟨rfl, rfl, rfl, rfl, rfl, rfl, rfl, h4.kind, rfl, hr, rfl, fun y hy => ⟨hy, .inl rfl⟩⟩).nox, ?_⟩
  obtain ⟨hl, as, Hf, d, as', hA, e, hq⟩ := hsp
  obtain ⟨z, e0, ez⟩ := ofD _ _ e
  obtain ⟨e1, e2⟩ := arity _ _ e0
  have st : Sta K (as ++ List.replicate (N'.length - ps.length) .un) (start N' vs) Hf H := sta_start hA (by rw [e1]) (by omega)
  have gd := Gd.start st fun i o q => by
    have := (hA.own i false o (un_get (by simp) q)).1
    cases this
  split at e2 <;> first | contradiction | skip
  · rename_i d0 ρ he
    cases e2
    rcases ez with ez | ⟨o, ez, _⟩
    · cases ez
      refine hs gd he fun v Hf' H' fin => ?_
      have b := back_fin hA fin
      rw [e1] at b
      exact hq v Hf' H' b fin.rd
    · cases ez
  · rename_i o0 ρ he
    cases e2
    rcases ez with ez | ⟨o, ez, ed⟩
    · cases ez
    · cases ez
      refine hs gd he fun v Hf' H' fin => ?_
      obtain ⟨Hf2, fin2⟩ := fin.frz (real hA)
      have b := back_fin hA fin2
      rw [e1] at b
      refine hq v Hf2 H' b ?_
      have ed' : d = ovD o0 := ed
      rw [ed']
      exact fin2.rd
  · rename_i ρ he
    cases e2
    rcases ez with ez | ⟨o, ez, _⟩
    · cases ez
      refine hs gd he fun σ' Hf' H' g => ?_
      have fin := g.fin (R := True) trivial
      have b := back_fin hA fin
      rw [e1] at b
      exact hq .non Hf' H' b .non
    · cases ez

end
end Dn
set_option Elab.async false
set_option linter.all false
set_option maxRecDepth 100000
set_option maxHeartbeats 4000000
/-! Dn, part C16: what the head tells, for the table of defs. -/
namespace Dn
open PySem L2
/-! ### constants -/
mutual
def valB (K : PySem.W.Frag) (u : Value) : D → Bool
  | .none => (match u with
    | .none => true
    | _ => false)
  | .bool b => (match u with
    | .bool c => decide (c = b)
    | _ => false)
  | .int i => (match u with
    | .int j _ => decide (j = i)
    | _ => false)
  | .str x => (match u with
    | .str y _ => decide (y = x)
    | _ => false)
  | .tuple ds => (match u with
    | .ref a => (match K.lookup a with
      | some ⟨.type c, _, .seq its _, _⟩ => decide (c = "tuple") && (decide (its.size ≤ sizeLine) && valsB K its.toList ds)
      | _ => false)
    | _ => false)
  | _ => false
def valsB (K : PySem.W.Frag) (us : List Value) : List D → Bool
  | [] => (match us with
    | [] => true
    | _ => false)
  | d :: ds => (match us with
    | u :: us => valB K u d && valsB K us ds
    | [] => false)
end
mutual
theorem valB_ok {K : PySem.W.Frag} : ∀ {d : D} {u : Value}, valB K u d = true → ∃ v, RelV v u ∧ ∀ H, RD K H v d
  | .none, u, h => by
    cases u <;> first | (cases h; done) | exact ⟨.non, rfl, fun _ => .non⟩
  | .bool b, u, h => by
    cases u <;> first | (cases h; done) | skip
    rename_i c
    have e : c = b := of_decide_eq_true h
    subst e
    exact ⟨.bl c, rfl, fun _ => .bl c⟩
  | .int i, u, h => by
    cases u <;> first | (cases h; done) | skip
    rename_i j t
    have e : j = i := of_decide_eq_true h
    subst e
    exact ⟨.int j, ⟨t, rfl⟩, fun _ => .int j⟩
  | .str x, u, h => by
    cases u <;> first | (cases h; done) | skip
    rename_i y t
    have e : y = x := of_decide_eq_true h
    subst e
    exact ⟨.str y, ⟨t, rfl⟩, fun _ => .str y⟩
  | .tuple ds, u, h => by
    cases u <;> first | (cases h; done) | skip
    rename_i a
    have h' : (match K.lookup a with
      | some ⟨.type c, _, .seq its _, _⟩ => decide (c = "tuple") && (decide (its.size ≤ sizeLine) && valsB K its.toList ds)
      | _ => false) = true := h
    clear h
    split at h' <;> first | contradiction | skip
    rename_i c od its n sl hk
    obtain ⟨h1, h2⟩ := Bool.and_eq_true_iff.mp h'
    obtain ⟨h3, h4⟩ := Bool.and_eq_true_iff.mp h2
    obtain ⟨vs, r, q⟩ := valsB_ok h4
    exact ⟨.ref a, rfl, fun H => .tup (.inr ⟨_, its, n, hk, congrArg Value.type (of_decide_eq_true h1), rfl, of_decide_eq_true h3, r⟩) (q H)⟩
  | .list ds, u, h => by cases h
  | .dict ds, u, h => by cases h
theorem valsB_ok {K : PySem.W.Frag} : ∀ {ds : List D} {us : List Value}, valsB K us ds = true → ∃ vs, Vals vs us ∧ ∀ H, RDs K H vs ds
  | [], [], _ => ⟨[], .nil, fun _ => .nil⟩
  | [], _ :: _, h => by cases h
  | _ :: _, [], h => by cases h
  | d :: ds, u :: us, h => by
    obtain ⟨h1, h2⟩ := Bool.and_eq_true_iff.mp (show (valB K u d && valsB K us ds) = true from h)
    obtain ⟨v, r, q⟩ := valB_ok h1
    obtain ⟨vs, rs, qs⟩ := valsB_ok h2
    exact ⟨v :: vs, .cons r rs, fun H => .cons (q H) (qs H)⟩
end
def gB (K : PySem.W.Frag) (GN : List Str) (G : List D) : Bool := (GN.zip G).all fun p => match PySem.W.nsIn K mainGlobals p.1 with
  | some (some u) => valB K u p.2
  | _ => false
def gcdB (K : PySem.W.Frag) : Bool := match PySem.W.nsIn K mainGlobals "gcd" with
  | some (some (.builtin id)) => decide (id = "math.gcd")
  | _ => false
section
variable {K : PySem.W.Frag} {h : Heap} {mg : Str → Option Value} {GN : List Str} {G : List D}
theorem glob_ok (X : K.In h) (Gm : h.Ns mainGlobals mg) (c : gB K GN G = true) (k : Nat) (x : Str) (d : D) (h1 : GN[k]? = some x) (h2 : G[k]? = some d) : ∃ u v, mg x = some u ∧ RelV v u ∧ ∀ H, RD K H v d := by
  have hm : (x, d) ∈ GN.zip G := by
    have : (GN.zip G)[k]? = some (x, d) := by
      rw [List.getElem?_zip_eq_some]
      exact ⟨h1, h2⟩
    exact List.mem_of_getElem? this
  have q := List.all_eq_true.mp c (x, d) hm
  dsimp only at q
  split at q <;> first | contradiction | skip
  rename_i u hu
  obtain ⟨v, r, f⟩ := valB_ok q
  exact ⟨u, v, PySem.W.mg_of X Gm hu, r, f⟩
theorem gcd_ok (X : K.In h) (Gm : h.Ns mainGlobals mg) (c : gcdB K = true) : mg "gcd" = some (.builtin "math.gcd") := by
  unfold gcdB at c
  split at c <;> first | contradiction | skip
  rename_i id hu
  have e : id = "math.gcd" := of_decide_eq_true c
  subst e
  exact PySem.W.mg_of X Gm hu
end
/-! ### defs -/
def scopeB (N ps : List Str) (sc : Scope) : Bool := (match sc.kind with
    | .function => true
    | _ => false) && (!sc.isCoroutine && (!sc.isGenerator && (decide N.Nodup && (decide (N.take ps.length = ps) && ((ps.all fun x => match sc.names.lookup x with
    | some .local => true
    | some .cell => true
    | _ => false) && sc.names.all fun y => match y.2 with
    | .free => false
    | _ => true)))))
theorem scopeB_ok {N ps : List Str} {sc : Scope} (h : scopeB N ps sc = true) : FnScope N ps sc := by
  unfold scopeB at h
  obtain ⟨h1, h⟩ := Bool.and_eq_true_iff.mp h
  obtain ⟨h2, h⟩ := Bool.and_eq_true_iff.mp h
  obtain ⟨h3, h⟩ := Bool.and_eq_true_iff.mp h
  obtain ⟨h4, h⟩ := Bool.and_eq_true_iff.mp h
  obtain ⟨h5, h⟩ := Bool.and_eq_true_iff.mp h
  obtain ⟨h6, h7⟩ := Bool.and_eq_true_iff.mp h
  refine ⟨?_, by simpa using h2, by simpa using h3, of_decide_eq_true h4, of_decide_eq_true h5, fun x hx => ?_, fun y hy e => ?_⟩
  · split at h1
    · assumption
    · cases h1
  · have q := List.all_eq_true.mp h6 x hx
    split at q <;> first | contradiction | skip
    · exact .inl (by assumption)
    · exact .inr (by assumption)
  · have q := List.all_eq_true.mp h7 y hy
    rw [e] at q
    cases q
def FnFact (K : PySem.W.Frag) (mg : Str → Option Value) (fr GN fnm : List Str) (tab : List Fn) (i : Nat) (x : Str) : Prop := ∃ (f : Addr) (fd : FuncData) (ps : List Str) (qual : Str) (params : Arguments) (body : List Stmt) (scope : Scope) (N : List Str) (fn : Fn), mg x = some (.ref f) ∧ FunD K x qual params body scope [] [] f fd ∧ Binds K fd ps [] ∧
    FnScope N ps scope ∧ tab[i]? = some fn ∧ fn.np = ps.length ∧ fn.nl = N.length ∧ okSs ⟨N, fr, GN, fnm⟩ scope fn.body body = true
theorem FnFact.mk {K : PySem.W.Frag} {mg : Str → Option Value} {fr GN fnm : List Str} {tab : List Fn} {i : Nat} {x : Str} {f : Addr} {params : Arguments} {body : List Stmt} {scope : Scope} (N ps : List Str) (b : Ss) (F : ∃ fd, FunD K x x params body scope [] [] f fd) (hg : mg x = some (.ref f))
    (hb : ∀ (kV doc pm : Value) (an : Option Addr) (cdv ct : Value) (us : List Value), us.length = ps.length → bindArgs (PySem.W.fnOf x x params body scope .none kV doc pm an cdv ct) ⟨us, []⟩ = pure (ps.zip us)) (hs : scopeB N ps scope = true)
    (ht : tab[i]? = some ⟨ps.length, N.length, b⟩) (ok : okSs ⟨N, fr, GN, fnm⟩ scope b body = true) : FnFact K mg fr GN fnm tab i x := by
  obtain ⟨fd, F⟩ := F
  exact ⟨f, fd, ps, x, params, body, scope, N, _, hg, F, F.bindsN hb, scopeB_ok hs, ht, rfl, rfl, ok⟩
/-! ### the law -/
def spLaw (K : PySem.W.Frag) : Sp := fun vs H Q _ => ∃ (a : Addr) (ns : List Int), vs = [.ref a] ∧ ns.length ≤ 63 ∧ SqL K H a (ns.map V.int) ∧ ∀ H', Q (.bl true) H'
theorem rds_intsL {K : PySem.W.Frag} {H : Hp} : ∀ ns : List Int, RDs K H (ns.map V.int) (ns.map .int)
  | [] => .nil
  | n :: ns => .cons (.int n) (rds_intsL ns)
theorem sp_law {K : PySem.W.Frag} {r : Nat → List SV → Option Res} {i : Nat} (hp : ∀ ns : List Int, ns.length ≤ 63 → ∃ as, r i [.ro (ns.map .int)] = some (.d (.bool true) as)) : ∀ vs H Q E, spLaw K vs H Q E → spD K 1 (asD r i) vs H Q E := by
  rintro vs H Q E ⟨a, ns, rfl, hl, hS, hQ⟩
  obtain ⟨as, e⟩ := hp ns hl
  refine ⟨rfl, [.ro (ns.map .int)], H, .bool true, as, ⟨Ex.refl _, rfl, fun i x h => ?_, fun i b o h => ?_, fun i j r o r' o' a h => ?_, fun i h => ?_, fun i xs h => ?_⟩, ?_, fun v Hf' H' _ rd => ?_⟩
  · cases i with
    | zero => cases h
    | succ i => simp at h
  · cases i with
    | zero => cases h
    | succ i => simp at h
  · cases i with
    | zero => cases h
    | succ i => simp at h
  · cases i with
    | zero => cases h
    | succ i => simp at h
  · cases i with
    | zero =>
      cases h
      exact ⟨_, rfl, a, _, rfl, hS, rds_intsL ns⟩
    | succ i => simp at h
  · unfold asD
    rw [e]
  · cases rd
    exact hQ H'
end Dn
set_option Elab.async false
set_option linter.all false
set_option maxRecDepth 100000
set_option maxHeartbeats 4000000
/-! Dn, part C17: the law's end, the bits of the script told. -/
namespace Dn
open PySem L2
/-- none of a script's numbers has more bits than a script may have in all -/
def FewBits (ns : List Int) : Prop := ∀ z ∈ ns, Builtin.Int.intBits z ≤ 1048576
theorem abs_of_bits {z : Int} {k : Nat} (h : Builtin.Int.intBits z ≤ k) : z.natAbs < 2 ^ k := by
  unfold Builtin.Int.intBits at h
  by_cases e : z = 0
  · subst e
    exact Nat.two_pow_pos k
  · rw [if_neg (by simpa using e)] at h
    exact Nat.lt_of_lt_of_le Nat.lt_log2_self (Nat.pow_le_pow_right (by decide) h)
def spLawB (K : PySem.W.Frag) : Sp := fun vs H Q _ => ∃ (p : Addr) (ns : List Int), vs = [.ref p] ∧ (ns.length ≤ 63 ∧ FewBits ns) ∧ SqL K H p (ns.map V.int) ∧ ∀ H', Q (.bl true) H'
theorem sp_lawB {K : PySem.W.Frag} {r : Nat → List SV → Option Res} {i : Nat} (hp : ∀ ns : List Int, ns.length ≤ 63 → FewBits ns → ∃ as, r i [.ro (ns.map .int)] = some (.d (.bool true) as)) : ∀ vs H Q E, spLawB K vs H Q E → spD K 1 (asD r i) vs H Q E := by
  rintro vs H Q E ⟨p, ns, rfl, ⟨hl, hb⟩, hS, hQ⟩
  have one : ∀ {j : Nat} {y : SV}, [SV.ro (ns.map .int)][j]? = some y → j = 0 ∧ y = .ro (ns.map .int) := fun {j y} h => by
    cases j with
    | zero => exact ⟨rfl, by simpa using h.symm⟩
    | succ j => simp at h
  obtain ⟨as, e⟩ := hp ns hl hb
  refine ⟨rfl, [.ro (ns.map .int)], H, .bool true, as, ⟨Ex.refl _, rfl, fun j x h => ?_, fun j b o h => ?_, fun j l r1 o1 r2 o2 q h => ?_, fun j h => ?_, fun j xs h => ?_⟩, ?_, fun v Hf' H' _ rd => ?_⟩
  · exact absurd (one h).2 (by simp)
  · exact absurd (one h).2 (by simp)
  · exact absurd (one h).2 (by simp)
  · exact absurd (one h).2 (by simp)
  · obtain ⟨rfl, hx⟩ := one h
    cases hx
    exact ⟨_, rfl, p, _, rfl, hS, rds_intsL ns⟩
  · unfold asD
    rw [e]
  · cases rd
    exact hQ H'
theorem end_bits {l : PySem.W.OpenLaw} {k : Nat} {q : Program} {lo : List Str} {X : (Str → Option Value) → Heap → Prop} {Y : World → Heap → Prop} {d : PySem.DefRec}
    (h1 : l.most = some 63) (h2 : d.params.defaults = []) (h3 : Room k callerA)
    (walk : ∀ (w : World) (g : Str → Option Value) (fa : Addr) (h : Heap), Y w h → h.Ns mainGlobals g → g d.name = some (.ref fa) →
      ∃ (K : PySem.W.Frag) (fd : FuncData) (sp : Sp), (K.In h ∧ ∀ (s : Shared) (u : Value), BindsTo s fd ⟨[u], []⟩ [("script", u)]) ∧
        (∀ (H : Hp) (p : Addr) (ns : List Int), ns.length ≤ 63 ∧ FewBits ns → SqL K H p (ns.map V.int) → sp [.ref p] H (fun v _ => v = .bl true) fun _ _ _ => False) ∧
        ∀ base : Heap, K.In base → base.Ns mainGlobals g → FnOk l.prog w K g base CX0 k fa fd ["script"] sp) :
    PySem.W.WalkO q lo X Y l.row.toRowW d [] (fun f vs => PySem.call f vs) := by
  refine Att.attach_callB h1 h2 fun w s s' g gb fa o pm cd doc p vs ns G y ho hd hcd hg hobj hin hlen hbits hgen => ?_
  obtain ⟨K, fd, sp, ⟨k1, k2⟩, k3, k4⟩ := walk w g fa _ y G.T.g hg
  exact law_call k1 G.T.g G.T.b G.T.builtins G.T.nolimit hgen hobj hin (Nat.le_trans hlen (by decide)) h3 k4 k2 (fun H _ hS => k3 H p ns ⟨hlen, hbits⟩ hS) fun H e t => fun z => z
end Dn
set_option Elab.async false
set_option linter.all false
set_option maxRecDepth 100000
set_option maxHeartbeats 0
namespace Ir
open PySem PySem.Spec PyProof.Rows L2 Dn
def top (i : Nat) : Stmt := PySem.Challenge.pw_fractionmills_k61_across_primes_named_an.main.body.getD i (.Pass ⟨0, 0, 0, 0⟩)
def fr : List Str := ["len", "all", "sum", "tuple", "list", "sorted", "max", "min", "abs", "int", "str", "bool", "isinstance", "range", "enumerate", "zip", "dict"]
def GN : List Str := ["GREAT", "MOST_NUMBER", "MOST_STEPS", "MOST_FRACTIONS", "NONE", "MOST_PRIME", "MOST_WEIGHT", "MOST_LOOKED", "KINDS", "MOST_RUN"]
def fnm_0 : List Str := ["is_number", "is_within", "is_long", "tupled", "sure_within", "sure_steps", "sure_number", "common", "least_multiple", "is_prime", "how_often", "without", "is_fraction_in", "is_mill_in", "sure_mill", "place_in", "taken", "walk_in", "place_taken", "walk_mill"]
def fnm_1 : List Str := ["places_taken", "ahead_in", "ahead_of", "meets", "walk_few", "told_by", "parting_in", "idle_in", "alike", "idle", "lessened", "swapped", "can_swap", "are_weights_in", "sure_weights", "weight_in", "is_fall_in", "keeps_going", "is_stretch_in", "stretch_in"]
def fnm_2 : List Str := ["weight_of", "is_fall", "is_stretch", "is_claim_in", "ended", "walk_looked", "multiples_of", "barred_by", "reason_of_first", "earlier_divisor", "holds_in", "reason_in", "sure_claim", "holds", "claim_reason", "_law_box", "_law_take", "_law_cells", "_law_of", "_law_pick"]
def fnm_3 : List Str := ["_law_same", "_law_rest", "_law_gcd", "_law_takes", "_law_milled", "_law_led", "_law_drawn", "_law_of_primes", "_law_right", "law"]
def fnm : List Str := fnm_0 ++ fnm_1 ++ fnm_2 ++ fnm_3
def GREAT : Int := 10 ^ 60
def MOSTN : Int := 10 ^ 600
def G : List D := [.int GREAT, .int MOSTN, .int 20000, .int 2000, .tuple [.int 0, .int 1], .int 20000, .int 1000000, .int 200, .tuple [.str "ends", .str "alike", .str "first", .str "idle"], .int 2000]
def N0 : List Str := ["thing"]
/-- is_number -/
def b0 : Ss :=
  (.cons (.ret (.and (.isi (.pl 0) .int) (.one (.not (.isi (.pl 0) .bool)))))
  .nil)
theorem k0 : okSs ⟨N0, fr, GN, fnm⟩ (defScope (top 9)) b0 (defBody (top 9)) = true := by decide +kernel
def N1 : List Str := ["thing", "least", "most"]
/-- is_within -/
def b1 : Ss :=
  (.cons (.ret (.and (.call 0 (.cons (.pl 0) .nil)) (.one (.chn .LtE .LtE (.pl 1) (.pl 0) (.pl 2)))))
  .nil)
theorem k1 : okSs ⟨N1, fr, GN, fnm⟩ (defScope (top 10)) b1 (defBody (top 10)) = true := by decide +kernel
def N2 : List Str := ["thing", "length"]
/-- is_long -/
def b2 : Ss :=
  (.cons (.ret (.and (.isi (.pl 0) .tuple) (.one (.cmp .Eq (.blt .len (.cons (.pl 0) .nil)) (.pl 1)))))
  .nil)
theorem k2 : okSs ⟨N2, fr, GN, fnm⟩ (defScope (top 11)) b2 (defBody (top 11)) = true := by decide +kernel
def N3 : List Str := ["value", "own"]
/-- tupled -/
def b3 : Ss :=
  (.cons (.ret (.ife (.val (.isis (.pl 0) [.list, .tuple])) (.blt .tuple (.cons (.comp (.nm 1) (.sq (.pl 0)) .yes (.call 3 (.cons (.pl 1) .nil))) .nil)) (.pl 0)))
  .nil)
theorem k3 : okSs ⟨N3, fr, GN, fnm⟩ (defScope (top 12)) b3 (defBody (top 12)) = true := by decide +kernel
def N4 : List Str := ["thing", "least", "most"]
/-- sure_within -/
def b4 : Ss :=
  (.cons (.ife (.not (.val (.call 1 (.cons (.pl 0) (.cons (.pl 1) (.cons (.pl 2) .nil)))))) (.cons .rse
  .nil) .nil)
  (.cons (.ret (.pl 0))
  .nil))
theorem k4 : okSs ⟨N4, fr, GN, fnm⟩ (defScope (top 13)) b4 (defBody (top 13)) = true := by decide +kernel
def N5 : List Str := ["thing"]
/-- sure_steps -/
def b5 : Ss :=
  (.cons (.ife (.cmp .Gt (.call 4 (.cons (.pl 0) (.cons (.int 0) (.cons (.gl 0) .nil)))) (.gl 2)) (.cons .rse
  .nil) .nil)
  (.cons (.ret (.pl 0))
  .nil))
theorem k5 : okSs ⟨N5, fr, GN, fnm⟩ (defScope (top 14)) b5 (defBody (top 14)) = true := by decide +kernel
def N6 : List Str := ["thing"]
/-- sure_number -/
def b6 : Ss :=
  (.cons (.ret (.call 4 (.cons (.pl 0) (.cons (.int 1) (.cons (.gl 1) .nil)))))
  .nil)
theorem k6 : okSs ⟨N6, fr, GN, fnm⟩ (defScope (top 15)) b6 (defBody (top 15)) = true := by decide +kernel
def N7 : List Str := ["one", "other"]
/-- common -/
def b7 : Ss :=
  (.cons (.ret (.blt .gcd (.cons (.pl 0) (.cons (.pl 1) .nil))))
  .nil)
theorem k7 : okSs ⟨N7, fr, GN, fnm⟩ (defScope (top 16)) b7 (defBody (top 16)) = true := by decide +kernel
def N8 : List Str := ["one", "other"]
/-- least_multiple -/
def b8 : Ss :=
  (.cons (.ret (.bin .Mult (.bin .FloorDiv (.pl 0) (.blt .gcd (.cons (.pl 0) (.cons (.pl 1) .nil)))) (.pl 1)))
  .nil)
theorem k8 : okSs ⟨N8, fr, GN, fnm⟩ (defScope (top 17)) b8 (defBody (top 17)) = true := by decide +kernel
def N9 : List Str := ["number", "least"]
/-- is_prime -/
def b9 : Ss :=
  (.cons (.ife (.cmp .Lt (.pl 0) (.int 2)) (.cons (.ret (.bl false))
  .nil) .nil)
  (.cons (.set 1 (.int 2))
  (.cons (.whl (.cmp .LtE (.bin .Mult (.pl 1) (.pl 1)) (.pl 0)) (.cons (.ife (.cmp .Eq (.bin .Mod (.pl 0) (.pl 1)) (.int 0)) (.cons (.ret (.bl false))
  .nil) .nil)
  (.cons (.aug 1 .Add (.int 1))
  .nil)))
  (.cons (.ret (.bl true))
  .nil))))
theorem k9 : okSs ⟨N9, fr, GN, fnm⟩ (defScope (top 18)) b9 (defBody (top 18)) = true := by decide +kernel
def N10 : List Str := ["number", "divisor", "found"]
/-- how_often -/
def b10 : Ss :=
  (.cons (.set 2 (.int 0))
  (.cons (.whl (.cmp .Eq (.bin .Mod (.pl 0) (.pl 1)) (.int 0)) (.cons (.set 0 (.bin .FloorDiv (.pl 0) (.pl 1)))
  (.cons (.aug 2 .Add (.int 1))
  .nil)))
  (.cons (.ret (.pl 2))
  .nil)))
theorem k10 : okSs ⟨N10, fr, GN, fnm⟩ (defScope (top 19)) b10 (defBody (top 19)) = true := by decide +kernel
def N11 : List Str := ["number", "other", "part"]
/-- without -/
def b11 : Ss :=
  (.cons (.set 2 (.blt .gcd (.cons (.pl 0) (.cons (.pl 1) .nil))))
  (.cons (.whl (.cmp .Gt (.pl 2) (.int 1)) (.cons (.set 0 (.bin .FloorDiv (.pl 0) (.pl 2)))
  (.cons (.set 2 (.blt .gcd (.cons (.pl 0) (.cons (.pl 1) .nil))))
  .nil)))
  (.cons (.ret (.pl 0))
  .nil)))
theorem k11 : okSs ⟨N11, fr, GN, fnm⟩ (defScope (top 20)) b11 (defBody (top 20)) = true := by decide +kernel
def N12 : List Str := ["thing", "own"]
/-- is_fraction_in -/
def b12 : Ss :=
  (.cons (.ife (.or (.not (.val (.call 2 (.cons (.pl 0) (.cons (.int 2) .nil))))) (.one (.not (.val (.blt .all (.cons (.comp (.nm 1) (.sq (.pl 0)) .yes (.call 1 (.cons (.pl 1) (.cons (.int 1) (.cons (.gl 0) .nil))))) .nil)))))) (.cons (.ret (.bl false))
  .nil) .nil)
  (.cons (.ret (.cmp .Eq (.call 7 (.cons (.ix (.pl 0) (.int 0)) (.cons (.ix (.pl 0) (.int 1)) .nil))) (.int 1)))
  .nil))
theorem k12 : okSs ⟨N12, fr, GN, fnm⟩ (defScope (top 23)) b12 (defBody (top 23)) = true := by decide +kernel
def N13 : List Str := ["thing", "own"]
/-- is_mill_in -/
def b13 : Ss :=
  (.cons (.ret (.and (.isi (.pl 0) .tuple) (.and (.cmp .LtE (.blt .len (.cons (.pl 0) .nil)) (.gl 3)) (.one (.blt .all (.cons (.comp (.nm 1) (.sq (.pl 0)) .yes (.call 12 (.cons (.pl 1) .nil))) .nil))))))
  .nil)
theorem k13 : okSs ⟨N13, fr, GN, fnm⟩ (defScope (top 24)) b13 (defBody (top 24)) = true := by decide +kernel
def N14 : List Str := ["value", "own"]
/-- sure_mill -/
def b14 : Ss :=
  (.cons (.set 1 (.call 3 (.cons (.pl 0) .nil)))
  (.cons (.ife (.not (.val (.call 13 (.cons (.pl 1) .nil)))) (.cons .rse
  .nil) .nil)
  (.cons (.ret (.pl 1))
  .nil)))
theorem k14 : okSs ⟨N14, fr, GN, fnm⟩ (defScope (top 25)) b14 (defBody (top 25)) = true := by decide +kernel
def N15 : List Str := ["mill", "number", "place", "own"]
/-- place_in -/
def b15 : Ss :=
  (.cons (.for (.tp [2, 3]) (.enm (.pl 0)) (.cons (.ife (.cmp .Eq (.bin .Mod (.pl 1) (.ix (.pl 3) (.int 1))) (.int 0)) (.cons (.ret (.pl 2))
  .nil) .nil)
  .nil))
  (.cons (.ret (.neg (.int 1)))
  .nil))
theorem k15 : okSs ⟨N15, fr, GN, fnm⟩ (defScope (top 26)) b15 (defBody (top 26)) = true := by decide +kernel
def N16 : List Str := ["mill", "place", "number", "found"]
/-- taken -/
def b16 : Ss :=
  (.cons (.set 3 (.bin .Mult (.bin .FloorDiv (.pl 2) (.ix (.ix (.pl 0) (.pl 1)) (.int 1))) (.ix (.ix (.pl 0) (.pl 1)) (.int 0))))
  (.cons (.ife (.cmp .Gt (.pl 3) (.gl 1)) (.cons .rse
  .nil) .nil)
  (.cons (.ret (.pl 3))
  .nil)))
theorem k16 : okSs ⟨N16, fr, GN, fnm⟩ (defScope (top 27)) b16 (defBody (top 27)) = true := by decide +kernel
def N17 : List Str := ["mill", "number", "many", "found", "lap", "place"]
/-- walk_in -/
def b17 : Ss :=
  (.cons (.setO 3 (.lst (.cons (.pl 1) .nil)))
  (.cons (.for (.nm 4) (.rng1 (.pl 2)) (.cons (.set 5 (.call 15 (.cons (.pl 0) (.cons (.ix (.pl 3) (.neg (.int 1))) .nil))))
  (.cons (.ife (.cmp .Lt (.pl 5) (.int 0)) (.cons .brk
  .nil) .nil)
  (.cons (.app 3 (.call 16 (.cons (.pl 0) (.cons (.pl 5) (.cons (.ix (.pl 3) (.neg (.int 1))) .nil)))))
  .nil))))
  (.cons (.ret (.pl 3))
  .nil)))
theorem k17 : okSs ⟨N17, fr, GN, fnm⟩ (defScope (top 28)) b17 (defBody (top 28)) = true := by decide +kernel
def N18 : List Str := ["mill", "number", "own"]
/-- place_taken -/
def b18 : Ss :=
  (.cons (.set 2 (.call 14 (.cons (.pl 0) .nil)))
  (.cons (.ret (.call 15 (.cons (.pl 2) (.cons (.call 6 (.cons (.pl 1) .nil)) .nil))))
  .nil))
theorem k18 : okSs ⟨N18, fr, GN, fnm⟩ (defScope (top 29)) b18 (defBody (top 29)) = true := by decide +kernel
def N19 : List Str := ["mill", "number", "many", "own", "here"]
/-- walk_mill -/
def b19 : Ss :=
  (.cons (.set 3 (.call 14 (.cons (.pl 0) .nil)))
  (.cons (.set 4 (.call 6 (.cons (.pl 1) .nil)))
  (.cons (.ret (.call 17 (.cons (.pl 3) (.cons (.pl 4) (.cons (.call 5 (.cons (.pl 2) .nil)) .nil)))))
  .nil)))
theorem k19 : okSs ⟨N19, fr, GN, fnm⟩ (defScope (top 30)) b19 (defBody (top 30)) = true := by decide +kernel
def N20 : List Str := ["mill", "number", "many", "own", "here", "numbers", "its"]
/-- places_taken -/
def b20 : Ss :=
  (.cons (.set 3 (.call 14 (.cons (.pl 0) .nil)))
  (.cons (.set 4 (.call 6 (.cons (.pl 1) .nil)))
  (.cons (.set 5 (.call 17 (.cons (.pl 3) (.cons (.pl 4) (.cons (.blt .max2 (.cons (.int 0) (.cons (.bin .Sub (.call 5 (.cons (.pl 2) .nil)) (.int 1)) .nil))) .nil)))))
  (.cons (.ret (.blt .tuple (.cons (.comp (.nm 6) (.sq (.slc (.pl 5) .no (.so (.pl 2)))) (.cmp .GtE (.call 15 (.cons (.pl 3) (.cons (.pl 6) .nil))) (.int 0)) (.call 15 (.cons (.pl 3) (.cons (.pl 6) .nil)))) .nil)))
  .nil))))
theorem k20 : okSs ⟨N20, fr, GN, fnm⟩ (defScope (top 31)) b20 (defBody (top 31)) = true := by decide +kernel
def N21 : List Str := ["mill", "number", "found", "place", "own", "earlier"]
/-- ahead_in -/
def b21 : Ss :=
  (.cons (.setO 2 (.lst .nil))
  (.cons (.for (.tp [3, 4]) (.enm (.pl 0)) (.cons (.ife (.cmp .Eq (.bin .Mod (.pl 1) (.ix (.pl 4) (.int 0))) (.int 0)) (.cons (.set 5 (.bin .Mult (.bin .FloorDiv (.pl 1) (.ix (.pl 4) (.int 0))) (.ix (.pl 4) (.int 1))))
  (.cons (.ife (.and (.cmp .LtE (.pl 5) (.gl 1)) (.one (.cmp .Eq (.call 15 (.cons (.pl 0) (.cons (.pl 5) .nil))) (.pl 3)))) (.cons (.app 2 (.tup (.cons (.pl 5) (.cons (.pl 3) .nil))))
  .nil) .nil)
  .nil)) .nil)
  .nil))
  (.cons (.ret (.blt .sorted (.cons (.pl 2) .nil)))
  .nil)))
theorem k21 : okSs ⟨N21, fr, GN, fnm⟩ (defScope (top 33)) b21 (defBody (top 33)) = true := by decide +kernel
def N22 : List Str := ["mill", "number", "own"]
/-- ahead_of -/
def b22 : Ss :=
  (.cons (.set 2 (.call 14 (.cons (.pl 0) .nil)))
  (.cons (.ret (.call 21 (.cons (.pl 2) (.cons (.call 6 (.cons (.pl 1) .nil)) .nil))))
  .nil))
theorem k22 : okSs ⟨N22, fr, GN, fnm⟩ (defScope (top 34)) b22 (defBody (top 34)) = true := by decide +kernel
def N23 : List Str := ["mill", "one", "other", "most", "own", "here", "there", "first", "second", "places", "best", "place", "number", "told"]
/-- meets -/
def b23 : Ss :=
  (.cons (.set 4 (.call 14 (.cons (.pl 0) .nil)))
  (.cons (.set 5 (.call 6 (.cons (.pl 1) .nil)))
  (.cons (.set 6 (.call 6 (.cons (.pl 2) .nil)))
  (.cons (.set 7 (.call 24 (.cons (.pl 4) (.cons (.pl 5) (.cons (.pl 3) .nil)))))
  (.cons (.set 8 (.call 24 (.cons (.pl 4) (.cons (.pl 6) (.cons (.pl 3) .nil)))))
  (.cons (.par 9 10 (.f .dct0) (.e (.tup .nil)))
  (.cons (.for (.tp [11, 12]) (.enm (.pl 8)) (.cons (.ife (.din true (.pl 12) (.pl 9)) (.cons (.dput 9 (.pl 12) (.pl 11))
  .nil) .nil)
  .nil))
  (.cons (.for (.tp [11, 12]) (.enm (.pl 7)) (.cons (.ife (.din false (.pl 12) (.pl 9)) (.cons (.set 13 (.tup (.cons (.bin .Add (.pl 11) (.dget (.pl 9) (.pl 12))) (.cons (.pl 11) (.cons (.dget (.pl 9) (.pl 12)) .nil)))))
  (.cons (.set 10 (.ife (.or (.cmp .Eq (.pl 10) (.tup .nil)) (.one (.cmp .Lt (.pl 13) (.pl 10)))) (.pl 13) (.pl 10)))
  .nil)) .nil)
  .nil))
  (.cons (.ret (.slc (.pl 10) (.so (.int 1)) .no))
  .nil)))))))))
theorem k23 : okSs ⟨N23, fr, GN, fnm⟩ (defScope (top 35)) b23 (defBody (top 35)) = true := by decide +kernel
def N24 : List Str := ["mill", "number", "most", "found", "lap", "place", "later"]
/-- walk_few -/
def b24 : Ss :=
  (.cons (.setO 3 (.lst (.cons (.pl 1) .nil)))
  (.cons (.for (.nm 4) (.rng1 (.call 4 (.cons (.pl 2) (.cons (.int 0) (.cons (.int 500) .nil))))) (.cons (.set 5 (.call 15 (.cons (.pl 0) (.cons (.ix (.pl 3) (.neg (.int 1))) .nil))))
  (.cons (.ife (.cmp .Lt (.pl 5) (.int 0)) (.cons .brk
  .nil) .nil)
  (.cons (.set 6 (.bin .Mult (.bin .FloorDiv (.ix (.pl 3) (.neg (.int 1))) (.ix (.ix (.pl 0) (.pl 5)) (.int 1))) (.ix (.ix (.pl 0) (.pl 5)) (.int 0))))
  (.cons (.ife (.cmp .Gt (.pl 6) (.gl 1)) (.cons .rse
  .nil) .nil)
  (.cons (.app 3 (.pl 6))
  .nil))))))
  (.cons (.ret (.pl 3))
  .nil)))
theorem k24 : okSs ⟨N24, fr, GN, fnm⟩ (defScope (top 36)) b24 (defBody (top 36)) = true := by decide +kernel
def N25 : List Str := ["mill", "place"]
/-- told_by -/
def b25 : Ss :=
  (.cons (.ret (.ife (.cmp .GtE (.pl 1) (.int 0)) (.ix (.pl 0) (.pl 1)) (.gl 4)))
  .nil)
theorem k25 : okSs ⟨N25, fr, GN, fnm⟩ (defScope (top 39)) b25 (defBody (top 39)) = true := by decide +kernel
def N26 : List Str := ["one", "other", "found", "first", "second", "number"]
/-- parting_in -/
def b26 : Ss :=
  (.cons (.set 2 (.int 0))
  (.cons (.for (.nm 3) (.sq (.bin .Add (.tup (.cons (.gl 4) .nil)) (.pl 0))) (.cons (.for (.nm 4) (.sq (.bin .Add (.tup (.cons (.gl 4) .nil)) (.pl 1))) (.cons (.set 5 (.call 8 (.cons (.ix (.pl 3) (.int 1)) (.cons (.ix (.pl 4) (.int 1)) .nil))))
  (.cons (.ife (.cmp .NotEq (.call 25 (.cons (.pl 0) (.cons (.call 15 (.cons (.pl 0) (.cons (.pl 5) .nil))) .nil))) (.call 25 (.cons (.pl 1) (.cons (.call 15 (.cons (.pl 1) (.cons (.pl 5) .nil))) .nil)))) (.cons (.set 2 (.ife (.cmp .Eq (.pl 2) (.int 0)) (.pl 5) (.blt .min2 (.cons (.pl 2) (.cons (.pl 5) .nil)))))
  .nil) .nil)
  .nil)))
  .nil))
  (.cons (.ret (.pl 2))
  .nil)))
theorem k26 : okSs ⟨N26, fr, GN, fnm⟩ (defScope (top 40)) b26 (defBody (top 40)) = true := by decide +kernel
def N27 : List Str := ["mill", "place", "own"]
/-- idle_in -/
def b27 : Ss :=
  (.cons (.ret (.comp (.tp [1, 2]) (.enm (.pl 0)) (.cmp .NotEq (.call 15 (.cons (.pl 0) (.cons (.ix (.pl 2) (.int 1)) .nil))) (.pl 1)) (.pl 1)))
  .nil)
theorem k27 : okSs ⟨N27, fr, GN, fnm⟩ (defScope (top 41)) b27 (defBody (top 41)) = true := by decide +kernel
def N28 : List Str := ["one", "other", "own"]
/-- alike -/
def b28 : Ss :=
  (.cons (.set 2 (.call 14 (.cons (.pl 0) .nil)))
  (.cons (.ret (.cmp .Eq (.call 26 (.cons (.pl 2) (.cons (.call 14 (.cons (.pl 1) .nil)) .nil))) (.int 0)))
  .nil))
theorem k28 : okSs ⟨N28, fr, GN, fnm⟩ (defScope (top 42)) b28 (defBody (top 42)) = true := by decide +kernel
def N29 : List Str := ["mill"]
/-- idle -/
def b29 : Ss :=
  (.cons (.ret (.blt .tuple (.cons (.call 27 (.cons (.call 14 (.cons (.pl 0) .nil)) .nil)) .nil)))
  .nil)
theorem k29 : okSs ⟨N29, fr, GN, fnm⟩ (defScope (top 43)) b29 (defBody (top 43)) = true := by decide +kernel
def N30 : List Str := ["mill", "own", "left_out", "place", "its"]
/-- lessened -/
def b30 : Ss :=
  (.cons (.set 1 (.call 14 (.cons (.pl 0) .nil)))
  (.cons (.set 2 (.call 27 (.cons (.pl 1) .nil)))
  (.cons (.ret (.blt .tuple (.cons (.comp (.tp [3, 4]) (.enm (.pl 1)) (.cmp .NotIn (.pl 3) (.pl 2)) (.pl 4)) .nil)))
  .nil)))
theorem k30 : okSs ⟨N30, fr, GN, fnm⟩ (defScope (top 44)) b30 (defBody (top 44)) = true := by decide +kernel
def N31 : List Str := ["mill", "place", "own"]
/-- swapped -/
def b31 : Ss :=
  (.cons (.set 2 (.call 14 (.cons (.pl 0) .nil)))
  (.cons (.ife (.not (.val (.call 1 (.cons (.pl 1) (.cons (.int 0) (.cons (.bin .Sub (.blt .len (.cons (.pl 2) .nil)) (.int 2)) .nil)))))) (.cons .rse
  .nil) .nil)
  (.cons (.ret (.bin .Add (.bin .Add (.slc (.pl 2) .no (.so (.pl 1))) (.tup (.cons (.ix (.pl 2) (.bin .Add (.pl 1) (.int 1))) (.cons (.ix (.pl 2) (.pl 1)) .nil)))) (.slc (.pl 2) (.so (.bin .Add (.pl 1) (.int 2))) .no)))
  .nil)))
theorem k31 : okSs ⟨N31, fr, GN, fnm⟩ (defScope (top 45)) b31 (defBody (top 45)) = true := by decide +kernel
def N32 : List Str := ["mill", "place", "own"]
/-- can_swap -/
def b32 : Ss :=
  (.cons (.set 2 (.call 14 (.cons (.pl 0) .nil)))
  (.cons (.ret (.cmp .Eq (.call 26 (.cons (.pl 2) (.cons (.call 31 (.cons (.pl 2) (.cons (.pl 1) .nil))) .nil))) (.int 0)))
  .nil))
theorem k32 : okSs ⟨N32, fr, GN, fnm⟩ (defScope (top 46)) b32 (defBody (top 46)) = true := by decide +kernel
def N33 : List Str := ["thing", "own", "one", "two"]
/-- are_weights_in -/
def b33 : Ss :=
  (.cons (.ife (.or (.not (.val (.isi (.pl 0) .tuple))) (.one (.not (.val (.blt .all (.cons (.comp (.nm 1) (.sq (.pl 0)) .yes (.call 2 (.cons (.pl 1) (.cons (.int 2) .nil)))) .nil)))))) (.cons (.ret (.bl false))
  .nil) .nil)
  (.cons (.ife (.not (.val (.blt .all (.cons (.comp (.nm 1) (.sq (.pl 0)) .yes (.and (.call 1 (.cons (.ix (.pl 1) (.int 0)) (.cons (.int 2) (.cons (.gl 5) .nil)))) (.one (.call 1 (.cons (.ix (.pl 1) (.int 1)) (.cons (.int 0) (.cons (.gl 6) .nil))))))) .nil)))) (.cons (.ret (.bl false))
  .nil) .nil)
  (.cons (.ret (.and (.blt .all (.cons (.comp (.nm 1) (.sq (.pl 0)) .yes (.call 9 (.cons (.ix (.pl 1) (.int 0)) .nil))) .nil)) (.one (.blt .all (.cons (.comp (.tp [2, 3]) (.zp (.pl 0) (.slc (.pl 0) (.so (.int 1)) .no)) .yes (.cmp .Lt (.ix (.pl 2) (.int 0)) (.ix (.pl 3) (.int 0)))) .nil)))))
  .nil)))
theorem k33 : okSs ⟨N33, fr, GN, fnm⟩ (defScope (top 51)) b33 (defBody (top 51)) = true := by decide +kernel
def N34 : List Str := ["value", "own"]
/-- sure_weights -/
def b34 : Ss :=
  (.cons (.set 1 (.call 3 (.cons (.pl 0) .nil)))
  (.cons (.ife (.not (.val (.call 33 (.cons (.pl 1) .nil)))) (.cons .rse
  .nil) .nil)
  (.cons (.ret (.pl 1))
  .nil)))
theorem k34 : okSs ⟨N34, fr, GN, fnm⟩ (defScope (top 52)) b34 (defBody (top 52)) = true := by decide +kernel
def N35 : List Str := ["weights", "number", "prime", "weight"]
/-- weight_in -/
def b35 : Ss :=
  (.cons (.ret (.blt .sum (.cons (.comp (.tp [2, 3]) (.sq (.pl 0)) .yes (.bin .Mult (.pl 3) (.call 10 (.cons (.pl 1) (.cons (.pl 2) .nil))))) .nil)))
  .nil)
theorem k35 : okSs ⟨N35, fr, GN, fnm⟩ (defScope (top 53)) b35 (defBody (top 53)) = true := by decide +kernel
def N36 : List Str := ["mill", "weights", "over", "under"]
/-- is_fall_in -/
def b36 : Ss :=
  (.cons (.ret (.blt .all (.cons (.comp (.tp [2, 3]) (.sq (.pl 0)) .yes (.cmp .Lt (.call 35 (.cons (.pl 1) (.cons (.pl 2) .nil))) (.call 35 (.cons (.pl 1) (.cons (.pl 3) .nil))))) .nil)))
  .nil)
theorem k36 : okSs ⟨N36, fr, GN, fnm⟩ (defScope (top 54)) b36 (defBody (top 54)) = true := by decide +kernel
def N37 : List Str := ["mill", "numbers", "factor", "number", "place", "own"]
/-- keeps_going -/
def b37 : Ss :=
  (.cons (.for (.nm 3) (.sq (.pl 1)) (.cons (.set 4 (.call 15 (.cons (.pl 0) (.cons (.pl 3) .nil))))
  (.cons (.for (.nm 5) (.sq (.slc (.pl 0) .no (.so (.pl 4)))) (.cons (.ife (.cmp .Eq (.bin .Mod (.pl 3) (.call 11 (.cons (.ix (.pl 5) (.int 1)) (.cons (.pl 2) .nil)))) (.int 0)) (.cons (.ret (.bl false))
  .nil) .nil)
  .nil))
  .nil)))
  (.cons (.ret (.bl true))
  .nil))
theorem k37 : okSs ⟨N37, fr, GN, fnm⟩ (defScope (top 55)) b37 (defBody (top 55)) = true := by decide +kernel
def N38 : List Str := ["mill", "numbers", "start", "long", "factor"]
/-- is_stretch_in -/
def b38 : Ss :=
  (.cons (.ife (.or (.cmp .GtE (.bin .Add (.pl 2) (.pl 3)) (.blt .len (.cons (.pl 1) .nil))) (.one (.cmp .NotEq (.bin .Mod (.ix (.pl 1) (.bin .Add (.pl 2) (.pl 3))) (.ix (.pl 1) (.pl 2))) (.int 0)))) (.cons (.ret (.bl false))
  .nil) .nil)
  (.cons (.set 4 (.bin .FloorDiv (.ix (.pl 1) (.bin .Add (.pl 2) (.pl 3))) (.ix (.pl 1) (.pl 2))))
  (.cons (.ret (.call 37 (.cons (.pl 0) (.cons (.slc (.pl 1) (.so (.pl 2)) (.so (.bin .Add (.pl 2) (.pl 3)))) (.cons (.pl 4) .nil)))))
  .nil)))
theorem k38 : okSs ⟨N38, fr, GN, fnm⟩ (defScope (top 56)) b38 (defBody (top 56)) = true := by decide +kernel
def N39 : List Str := ["mill", "numbers", "end", "start"]
/-- stretch_in -/
def b39 : Ss :=
  (.cons (.for (.nm 2) (.rng2 (.int 1) (.blt .len (.cons (.pl 1) .nil))) (.cons (.for (.nm 3) (.rng1 (.pl 2)) (.cons (.ife (.val (.call 38 (.cons (.pl 0) (.cons (.pl 1) (.cons (.pl 3) (.cons (.bin .Sub (.pl 2) (.pl 3)) .nil)))))) (.cons (.ret (.tup (.cons (.pl 3) (.cons (.bin .Sub (.pl 2) (.pl 3)) .nil))))
  .nil) .nil)
  .nil))
  .nil))
  (.cons (.ret .non)
  .nil))
theorem k39 : okSs ⟨N39, fr, GN, fnm⟩ (defScope (top 57)) b39 (defBody (top 57)) = true := by decide +kernel
def N40 : List Str := ["weights", "number", "own"]
/-- weight_of -/
def b40 : Ss :=
  (.cons (.set 2 (.call 34 (.cons (.pl 0) .nil)))
  (.cons (.ret (.call 35 (.cons (.pl 2) (.cons (.call 6 (.cons (.pl 1) .nil)) .nil))))
  .nil))
theorem k40 : okSs ⟨N40, fr, GN, fnm⟩ (defScope (top 58)) b40 (defBody (top 58)) = true := by decide +kernel
def N41 : List Str := ["mill", "weights", "own"]
/-- is_fall -/
def b41 : Ss :=
  (.cons (.set 2 (.call 14 (.cons (.pl 0) .nil)))
  (.cons (.ret (.call 36 (.cons (.pl 2) (.cons (.call 34 (.cons (.pl 1) .nil)) .nil))))
  .nil))
theorem k41 : okSs ⟨N41, fr, GN, fnm⟩ (defScope (top 59)) b41 (defBody (top 59)) = true := by decide +kernel
def N42 : List Str := ["mill", "number", "start", "long", "own", "here", "first", "wide"]
/-- is_stretch -/
def b42 : Ss :=
  (.cons (.set 4 (.call 14 (.cons (.pl 0) .nil)))
  (.cons (.set 5 (.call 6 (.cons (.pl 1) .nil)))
  (.cons (.set 6 (.call 4 (.cons (.pl 2) (.cons (.int 0) (.cons (.gl 7) .nil)))))
  (.cons (.set 7 (.call 4 (.cons (.pl 3) (.cons (.int 1) (.cons (.gl 7) .nil)))))
  (.cons (.ret (.call 38 (.cons (.pl 4) (.cons (.call 17 (.cons (.pl 4) (.cons (.pl 5) (.cons (.bin .Add (.pl 6) (.pl 7)) .nil)))) (.cons (.pl 6) (.cons (.pl 7) .nil))))))
  .nil)))))
theorem k42 : okSs ⟨N42, fr, GN, fnm⟩ (defScope (top 60)) b42 (defBody (top 60)) = true := by decide +kernel
def N43 : List Str := ["thing"]
/-- is_claim_in -/
def b43 : Ss :=
  (.cons (.ife (.or (.not (.val (.call 2 (.cons (.pl 0) (.cons (.int 3) .nil))))) (.or (.not (.val (.isi (.ix (.pl 0) (.int 0)) .str))) (.or (.cmp .NotIn (.ix (.pl 0) (.int 0)) (.gl 8)) (.one (.not (.val (.call 13 (.cons (.ix (.pl 0) (.int 1)) .nil)))))))) (.cons (.ret (.bl false))
  .nil) .nil)
  (.cons (.ife (.cmp .Eq (.ix (.pl 0) (.int 0)) (.str "alike")) (.cons (.ret (.call 13 (.cons (.ix (.pl 0) (.int 2)) .nil)))
  .nil) .nil)
  (.cons (.ife (.cmp .Eq (.ix (.pl 0) (.int 0)) (.str "idle")) (.cons (.ret (.call 1 (.cons (.ix (.pl 0) (.int 2)) (.cons (.int 0) (.cons (.bin .Sub (.blt .len (.cons (.ix (.pl 0) (.int 1)) .nil)) (.int 1)) .nil)))))
  .nil) .nil)
  (.cons (.ret (.call 1 (.cons (.ix (.pl 0) (.int 2)) (.cons (.int 1) (.cons (.gl 1) .nil)))))
  .nil))))
theorem k43 : okSs ⟨N43, fr, GN, fnm⟩ (defScope (top 64)) b43 (defBody (top 64)) = true := by decide +kernel
def N44 : List Str := ["mill", "number", "numbers"]
/-- ended -/
def b44 : Ss :=
  (.cons (.set 2 (.call 17 (.cons (.pl 0) (.cons (.pl 1) (.cons (.gl 9) .nil)))))
  (.cons (.ret (.ife (.cmp .Lt (.call 15 (.cons (.pl 0) (.cons (.ix (.pl 2) (.neg (.int 1))) .nil))) (.int 0)) (.bin .Sub (.blt .len (.cons (.pl 2) .nil)) (.int 1)) (.neg (.int 1))))
  .nil))
theorem k44 : okSs ⟨N44, fr, GN, fnm⟩ (defScope (top 65)) b44 (defBody (top 65)) = true := by decide +kernel
def N45 : List Str := ["mill", "number", "found", "lap", "place"]
/-- walk_looked -/
def b45 : Ss :=
  (.cons (.setO 2 (.lst (.cons (.pl 1) .nil)))
  (.cons (.for (.nm 3) (.rng1 (.gl 7)) (.cons (.set 4 (.call 15 (.cons (.pl 0) (.cons (.ix (.pl 2) (.neg (.int 1))) .nil))))
  (.cons (.ife (.or (.cmp .Lt (.pl 4) (.int 0)) (.one (.cmp .Gt (.bin .Mult (.bin .FloorDiv (.ix (.pl 2) (.neg (.int 1))) (.ix (.ix (.pl 0) (.pl 4)) (.int 1))) (.ix (.ix (.pl 0) (.pl 4)) (.int 0))) (.gl 1)))) (.cons .brk
  .nil) .nil)
  (.cons (.app 2 (.bin .Mult (.bin .FloorDiv (.ix (.pl 2) (.neg (.int 1))) (.ix (.ix (.pl 0) (.pl 4)) (.int 1))) (.ix (.ix (.pl 0) (.pl 4)) (.int 0))))
  .nil))))
  (.cons (.ret (.pl 2))
  .nil)))
theorem k45 : okSs ⟨N45, fr, GN, fnm⟩ (defScope (top 66)) b45 (defBody (top 66)) = true := by decide +kernel
def N46 : List Str := ["one", "other", "found", "first", "second"]
/-- multiples_of -/
def b46 : Ss :=
  (.cons (.setO 2 .dct0)
  (.cons (.for (.nm 3) (.sq (.bin .Add (.tup (.cons (.gl 4) .nil)) (.pl 0))) (.cons (.for (.nm 4) (.sq (.bin .Add (.tup (.cons (.gl 4) .nil)) (.pl 1))) (.cons (.sto 2 (.call 8 (.cons (.ix (.pl 3) (.int 1)) (.cons (.ix (.pl 4) (.int 1)) .nil))) (.bl true))
  .nil))
  .nil))
  (.cons (.ret (.blt .tuple (.cons (.blt .sorted (.cons (.pl 2) .nil)) .nil)))
  .nil)))
theorem k46 : okSs ⟨N46, fr, GN, fnm⟩ (defScope (top 67)) b46 (defBody (top 67)) = true := by decide +kernel
def N47 : List Str := ["mill", "place", "number", "over", "under", "earlier", "first"]
/-- barred_by -/
def b47 : Ss :=
  (.cons (.unp [3, 4] (.ix (.pl 0) (.pl 1)))
  (.cons (.ife (.cmp .NotEq (.bin .Mod (.pl 2) (.pl 3)) (.int 0)) (.cons (.ret (.int 0))
  .nil) .nil)
  (.cons (.set 5 (.bin .Mult (.bin .FloorDiv (.pl 2) (.pl 3)) (.pl 4)))
  (.cons (.ife (.cmp .Gt (.pl 5) (.gl 1)) (.cons (.ret (.int 0))
  .nil) .nil)
  (.cons (.set 6 (.call 15 (.cons (.pl 0) (.cons (.pl 5) .nil))))
  (.cons (.ret (.ife (.cmp .Lt (.pl 6) (.pl 1)) (.bin .Add (.pl 6) (.int 1)) (.neg (.int 1))))
  .nil))))))
theorem k47 : okSs ⟨N47, fr, GN, fnm⟩ (defScope (top 68)) b47 (defBody (top 68)) = true := by decide +kernel
def N48 : List Str := ["mill", "number", "place"]
/-- reason_of_first -/
def b48 : Ss :=
  (.cons (.ret (.blt .tuple (.cons (.comp (.nm 2) (.rng1 (.blt .len (.cons (.pl 0) .nil))) .yes (.call 47 (.cons (.pl 0) (.cons (.pl 2) (.cons (.pl 1) .nil))))) .nil)))
  .nil)
theorem k48 : okSs ⟨N48, fr, GN, fnm⟩ (defScope (top 69)) b48 (defBody (top 69)) = true := by decide +kernel
def N49 : List Str := ["mill", "place"]
/-- earlier_divisor -/
def b49 : Ss :=
  (.cons (.ret (.call 15 (.cons (.pl 0) (.cons (.ix (.ix (.pl 0) (.pl 1)) (.int 1)) .nil))))
  .nil)
theorem k49 : okSs ⟨N49, fr, GN, fnm⟩ (defScope (top 70)) b49 (defBody (top 70)) = true := by decide +kernel
def N50 : List Str := ["claim"]
/-- holds_in -/
def b50 : Ss :=
  (.cons (.ife (.cmp .Eq (.ix (.pl 0) (.int 0)) (.str "alike")) (.cons (.ret (.cmp .Eq (.call 26 (.cons (.ix (.pl 0) (.int 1)) (.cons (.ix (.pl 0) (.int 2)) .nil))) (.int 0)))
  .nil) .nil)
  (.cons (.ife (.cmp .Eq (.ix (.pl 0) (.int 0)) (.str "first")) (.cons (.ret (.cmp .Eq (.call 21 (.cons (.ix (.pl 0) (.int 1)) (.cons (.ix (.pl 0) (.int 2)) .nil))) (.lst .nil)))
  .nil) .nil)
  (.cons (.ife (.cmp .Eq (.ix (.pl 0) (.int 0)) (.str "idle")) (.cons (.ret (.cmp .Lt (.call 49 (.cons (.ix (.pl 0) (.int 1)) (.cons (.ix (.pl 0) (.int 2)) .nil))) (.ix (.pl 0) (.int 2))))
  .nil) .nil)
  (.cons (.ife (.cmp .IsNot (.call 39 (.cons (.ix (.pl 0) (.int 1)) (.cons (.call 45 (.cons (.ix (.pl 0) (.int 1)) (.cons (.ix (.pl 0) (.int 2)) .nil))) .nil))) .non) (.cons (.ret (.bl false))
  .nil) .nil)
  (.cons (.ife (.cmp .Lt (.call 44 (.cons (.ix (.pl 0) (.int 1)) (.cons (.ix (.pl 0) (.int 2)) .nil))) (.int 0)) (.cons .rse
  .nil) .nil)
  (.cons (.ret (.bl true))
  .nil))))))
theorem k50 : okSs ⟨N50, fr, GN, fnm⟩ (defScope (top 71)) b50 (defBody (top 71)) = true := by decide +kernel
def N51 : List Str := ["claim"]
/-- reason_in -/
def b51 : Ss :=
  (.cons (.ife (.cmp .Eq (.ix (.pl 0) (.int 0)) (.str "alike")) (.cons (.ret (.call 46 (.cons (.ix (.pl 0) (.int 1)) (.cons (.ix (.pl 0) (.int 2)) .nil))))
  .nil) .nil)
  (.cons (.ife (.cmp .Eq (.ix (.pl 0) (.int 0)) (.str "first")) (.cons (.ret (.call 48 (.cons (.ix (.pl 0) (.int 1)) (.cons (.ix (.pl 0) (.int 2)) .nil))))
  .nil) .nil)
  (.cons (.ife (.cmp .Eq (.ix (.pl 0) (.int 0)) (.str "idle")) (.cons (.ret (.call 49 (.cons (.ix (.pl 0) (.int 1)) (.cons (.ix (.pl 0) (.int 2)) .nil))))
  .nil) .nil)
  (.cons (.ret (.call 44 (.cons (.ix (.pl 0) (.int 1)) (.cons (.ix (.pl 0) (.int 2)) .nil))))
  .nil))))
theorem k51 : okSs ⟨N51, fr, GN, fnm⟩ (defScope (top 72)) b51 (defBody (top 72)) = true := by decide +kernel
def N52 : List Str := ["value", "own"]
/-- sure_claim -/
def b52 : Ss :=
  (.cons (.set 1 (.call 3 (.cons (.pl 0) .nil)))
  (.cons (.ife (.not (.val (.call 43 (.cons (.pl 1) .nil)))) (.cons .rse
  .nil) .nil)
  (.cons (.ret (.pl 1))
  .nil)))
theorem k52 : okSs ⟨N52, fr, GN, fnm⟩ (defScope (top 73)) b52 (defBody (top 73)) = true := by decide +kernel
def N53 : List Str := ["claim"]
/-- holds -/
def b53 : Ss :=
  (.cons (.ret (.call 50 (.cons (.call 52 (.cons (.pl 0) .nil)) .nil)))
  .nil)
theorem k53 : okSs ⟨N53, fr, GN, fnm⟩ (defScope (top 74)) b53 (defBody (top 74)) = true := by decide +kernel
def N54 : List Str := ["claim", "own"]
/-- claim_reason -/
def b54 : Ss :=
  (.cons (.set 1 (.call 52 (.cons (.pl 0) .nil)))
  (.cons (.ife (.not (.val (.call 50 (.cons (.pl 1) .nil)))) (.cons .rse
  .nil) .nil)
  (.cons (.ret (.call 51 (.cons (.pl 1) .nil)))
  .nil)))
theorem k54 : okSs ⟨N54, fr, GN, fnm⟩ (defScope (top 75)) b54 (defBody (top 75)) = true := by decide +kernel
def N55 : List Str := ["script", "k", "bit_so"]
/-- _law_box -/
def b55 : Ss :=
  (.cons (.set 2 (.ife (.cmp .Lt (.pl 1) (.blt .len (.cons (.pl 0) .nil))) (.ix (.pl 0) (.pl 1)) (.int 0)))
  (.cons (.retO (.lst (.cons (.bin .Mult (.blt .abs (.cons (.pl 2) .nil)) (.blt .int (.cons (.cmp .GtE (.blt .abs (.cons (.pl 2) .nil)) (.bin .Pow (.int 10) (.int 18))) .nil))) (.cons (.bin .Add (.bin .Add (.bin .Mod (.blt .int (.cons (.pl 2) .nil)) (.int 2305843009213693951)) (.bin .Mult (.int 39373) (.pl 1))) (.int 25193)) (.cons (.int 0) .nil)))))
  .nil))
theorem k55 : okSs ⟨N55, fr, GN, fnm⟩ (defScope (top 77)) b55 (defBody (top 77)) = true := by decide +kernel
def N56 : List Str := ["tin", "below_so", "drawn_so", "once_so", "wide_so", "twice_so"]
/-- _law_take -/
def b56 : Ss :=
  (.cons (.ife (.cmp .Gt (.ix (.pl 0) (.int 0)) (.int 0)) (.cons (.set 2 (.bin .Mod (.blt .int (.cons (.ix (.pl 0) (.int 0)) .nil)) (.pl 1)))
  (.cons (.sto 0 (.int 0) (.bin .FloorDiv (.ix (.pl 0) (.int 0)) (.pl 1)))
  (.cons (.ret (.pl 2))
  .nil))) .nil)
  (.cons (.sto 0 (.int 2) (.bin .Add (.ix (.pl 0) (.int 2)) (.int 1)))
  (.cons (.set 3 (.bin .Mod (.blt .int (.cons (.bin .Mult (.bin .Add (.ix (.pl 0) (.int 1)) (.bin .Mult (.int 48271) (.ix (.pl 0) (.int 2)))) (.bin .Add (.int 39373) (.ix (.pl 0) (.int 2)))) .nil)) (.int 2147483647)))
  (.cons (.set 4 (.bin .Add (.bin .Mod (.blt .int (.cons (.pl 3) .nil)) (.int 40009)) (.int 7)))
  (.cons (.set 5 (.bin .Mod (.blt .int (.cons (.bin .Mult (.bin .Add (.bin .Add (.pl 3) (.ix (.pl 0) (.int 2))) (.bin .FloorDiv (.ix (.pl 0) (.int 1)) (.int 1000003))) (.pl 4)) .nil)) (.int 2147483629)))
  (.cons (.ret (.bin .Mod (.blt .int (.cons (.bin .FloorDiv (.bin .Mod (.blt .int (.cons (.bin .Add (.bin .Mult (.pl 5) (.int 48271)) (.pl 3)) .nil)) (.int 2147483587)) (.int 64)) .nil)) (.pl 1)))
  .nil))))))
theorem k56 : okSs ⟨N56, fr, GN, fnm⟩ (defScope (top 78)) b56 (defBody (top 78)) = true := by decide +kernel
def N57 : List Str := ["script", "most_so", "cells_so", "k", "bit_so", "at_so"]
/-- _law_cells -/
def b57 : Ss :=
  (.cons (.setO 2 (.orF (.cpy (.scl 0 .no (.so (.pl 1)))) (.lst (.cons (.int 0) .nil))))
  (.cons (.for (.tp [3, 4]) (.enm (.scl 0 (.so (.pl 1)) (.so (.int 63)))) (.cons (.set 5 (.bin .Mod (.blt .int (.cons (.pl 3) .nil)) (.pl 1)))
  (.cons (.sto 2 (.pl 5) (.bin .Add (.ix (.pl 2) (.pl 5)) (.bin .Mult (.pl 4) (.bin .Add (.pl 3) (.int 2)))))
  .nil)))
  (.cons (.ret (.pl 2))
  .nil)))
theorem k57 : okSs ⟨N57, fr, GN, fnm⟩ (defScope (top 79)) b57 (defBody (top 79)) = true := by decide +kernel
def N58 : List Str := ["tin", "goods_so"]
/-- _law_of -/
def b58 : Ss :=
  (.cons (.ret (.ix (.pl 1) (.call 56 (.cons (.pl 0) (.cons (.blt .len (.cons (.pl 1) .nil)) .nil)))))
  .nil)
theorem k58 : okSs ⟨N58, fr, GN, fnm⟩ (defScope (top 80)) b58 (defBody (top 80)) = true := by decide +kernel
def N59 : List Str := ["tin", "goods_so", "count_so", "pool_so", "found", "lap"]
/-- _law_pick -/
def b59 : Ss :=
  (.cons (.par 3 4 (.f (.cpy (.pl 1))) (.f (.lst .nil)))
  (.cons (.for (.nm 5) (.rng1 (.blt .min2 (.cons (.blt .int (.cons (.pl 2) .nil)) (.cons (.blt .len (.cons (.pl 3) .nil)) .nil)))) (.cons (.app 4 (.popAt 3 (.call 56 (.cons (.pl 0) (.cons (.blt .len (.cons (.pl 3) .nil)) .nil)))))
  .nil))
  (.cons (.ret (.pl 4))
  .nil)))
theorem k59 : okSs ⟨N59, fr, GN, fnm⟩ (defScope (top 81)) b59 (defBody (top 81)) = true := by decide +kernel
def N60 : List Str := ["got", "due", "mine", "its"]
/-- _law_same -/
def b60 : Ss :=
  (.cons (.ife (.val (.isis (.pl 1) [.list, .tuple])) (.cons (.ife (.or (.cmp .NotEq (.isi (.pl 0) .list) (.isi (.pl 1) .list)) (.one (.cmp .NotEq (.isi (.pl 0) .tuple) (.isi (.pl 1) .tuple)))) (.cons (.ret (.bl false))
  .nil) .nil)
  (.cons (.ret (.and (.cmp .Eq (.blt .len (.cons (.pl 0) .nil)) (.blt .len (.cons (.pl 1) .nil))) (.one (.blt .all (.cons (.comp (.tp [2, 3]) (.zp (.pl 0) (.pl 1)) .yes (.call 60 (.cons (.pl 2) (.cons (.pl 3) .nil)))) .nil)))))
  .nil)) .nil)
  (.cons (.ife (.cmp .Is (.pl 1) .non) (.cons (.ret (.cmp .Is (.pl 0) .non))
  .nil) .nil)
  (.cons (.ife (.val (.isis (.pl 1) [.bool, .str])) (.cons (.ret (.and (.cmp .Eq (.isi (.pl 0) .bool) (.isi (.pl 1) .bool)) (.and (.cmp .Eq (.isi (.pl 0) .str) (.isi (.pl 1) .str)) (.one (.cmp .Eq (.pl 0) (.pl 1))))))
  .nil) .nil)
  (.cons (.ret (.and (.isi (.pl 0) .int) (.and (.not (.isi (.pl 0) .bool)) (.one (.cmp .Eq (.pl 0) (.pl 1))))))
  .nil))))
theorem k60 : okSs ⟨N60, fr, GN, fnm⟩ (defScope (top 82)) b60 (defBody (top 82)) = true := by decide +kernel
def N61 : List Str := ["number_so", "by_so"]
/-- _law_rest -/
def b61 : Ss :=
  (.cons (.ret (.bin .Sub (.pl 0) (.bin .Mult (.bin .FloorDiv (.pl 0) (.pl 1)) (.pl 1))))
  .nil)
theorem k61 : okSs ⟨N61, fr, GN, fnm⟩ (defScope (top 83)) b61 (defBody (top 83)) = true := by decide +kernel
def N62 : List Str := ["one", "two", "lap"]
/-- _law_gcd -/
def b62 : Ss :=
  (.cons (.for (.nm 2) (.rng1 (.int 2000)) (.cons (.ife (.cmp .Eq (.pl 1) (.int 0)) (.cons (.ret (.pl 0))
  .nil) .nil)
  (.cons (.par 0 1 (.e (.pl 1)) (.e (.call 61 (.cons (.pl 0) (.cons (.pl 1) .nil)))))
  .nil)))
  (.cons (.ret (.pl 0))
  .nil))
theorem k62 : okSs ⟨N62, fr, GN, fnm⟩ (defScope (top 84)) b62 (defBody (top 84)) = true := by decide +kernel
def N63 : List Str := ["mill_so", "number_so", "goods_so", "k", "own"]
/-- _law_takes -/
def b63 : Ss :=
  (.cons (.set 2 (.comp (.tp [3, 4]) (.enm (.pl 0)) (.cmp .Eq (.call 61 (.cons (.pl 1) (.cons (.ix (.pl 4) (.int 1)) .nil))) (.int 0)) (.pl 3)))
  (.cons (.ret (.ife (.cmp .NotEq (.pl 2) (.lst .nil)) (.ix (.pl 2) (.int 0)) (.neg (.int 1))))
  .nil))
theorem k63 : okSs ⟨N63, fr, GN, fnm⟩ (defScope (top 85)) b63 (defBody (top 85)) = true := by decide +kernel
def N64 : List Str := ["mill_so", "number_so", "most_so", "found", "lap", "k"]
/-- _law_milled -/
def b64 : Ss :=
  (.cons (.setO 3 (.lst (.cons (.pl 1) .nil)))
  (.cons (.for (.nm 4) (.rng1 (.pl 2)) (.cons (.set 5 (.call 63 (.cons (.pl 0) (.cons (.ix (.pl 3) (.neg (.int 1))) .nil))))
  (.cons (.ife (.cmp .Lt (.pl 5) (.int 0)) (.cons (.ret (.pl 3))
  .nil) .nil)
  (.cons (.app 3 (.bin .Mult (.bin .FloorDiv (.ix (.pl 3) (.neg (.int 1))) (.ix (.ix (.pl 0) (.pl 5)) (.int 1))) (.ix (.ix (.pl 0) (.pl 5)) (.int 0))))
  .nil))))
  (.cons (.ret (.pl 3))
  .nil)))
theorem k64 : okSs ⟨N64, fr, GN, fnm⟩ (defScope (top 86)) b64 (defBody (top 86)) = true := by decide +kernel
def N65 : List Str := ["number_so", "names_so", "found", "left_so", "p", "lap"]
/-- _law_led -/
def b65 : Ss :=
  (.cons (.par 2 3 (.e (.int 1)) (.e (.pl 0)))
  (.cons (.for (.nm 4) (.sq (.tup (.cons (.int 2) (.cons (.int 3) (.cons (.int 5) (.cons (.int 7) (.cons (.int 11) .nil))))))) (.cons (.for (.nm 5) (.rng1 (.int 80)) (.cons (.ife (.cmp .Eq (.call 61 (.cons (.pl 3) (.cons (.pl 4) .nil))) (.int 0)) (.cons (.par 2 3 (.e (.bin .Mult (.pl 2) (.dget (.pl 1) (.pl 4)))) (.e (.bin .FloorDiv (.pl 3) (.pl 4))))
  .nil) .nil)
  .nil))
  .nil))
  (.cons (.ret (.pl 2))
  .nil)))
theorem k65 : okSs ⟨N65, fr, GN, fnm⟩ (defScope (top 87)) b65 (defBody (top 87)) = true := by decide +kernel
def N66 : List Str := ["tin", "most_so", "found", "p", "lap"]
/-- _law_drawn -/
def b66 : Ss :=
  (.cons (.set 2 (.int 1))
  (.cons (.for (.nm 3) (.sq (.tup (.cons (.int 2) (.cons (.int 3) (.cons (.int 5) (.cons (.int 7) (.cons (.int 11) .nil))))))) (.cons (.for (.nm 4) (.rng1 (.call 56 (.cons (.pl 0) (.cons (.bin .Add (.pl 1) (.int 1)) .nil)))) (.cons (.set 2 (.bin .Mult (.pl 2) (.pl 3)))
  .nil))
  .nil))
  (.cons (.ret (.pl 2))
  .nil)))
theorem k66 : okSs ⟨N66, fr, GN, fnm⟩ (defScope (top 88)) b66 (defBody (top 88)) = true := by decide +kernel
def N67 : List Str := ["tin", "found", "lap", "over_so", "under_so", "part_so"]
/-- _law_of_primes -/
def b67 : Ss :=
  (.cons (.setO 1 (.lst .nil))
  (.cons (.for (.nm 2) (.rng1 (.bin .Add (.int 1) (.call 56 (.cons (.pl 0) (.cons (.int 5) .nil))))) (.cons (.par 3 4 (.e (.call 66 (.cons (.pl 0) (.cons (.int 1) .nil)))) (.e (.call 66 (.cons (.pl 0) (.cons (.call 58 (.cons (.pl 0) (.cons (.lst (.cons (.int 1) (.cons (.int 1) (.cons (.int 2) .nil)))) .nil))) .nil)))))
  (.cons (.set 5 (.call 62 (.cons (.pl 3) (.cons (.pl 4) .nil))))
  (.cons (.app 1 (.tup (.cons (.bin .FloorDiv (.pl 3) (.pl 5)) (.cons (.bin .FloorDiv (.pl 4) (.pl 5)) .nil))))
  .nil))))
  (.cons (.ret (.blt .tuple (.cons (.bin .Add (.pl 1) (.slc (.pl 1) .no (.so (.call 56 (.cons (.pl 0) (.cons (.int 2) .nil)))))) .nil)))
  .nil)))
theorem k67 : okSs ⟨N67, fr, GN, fnm⟩ (defScope (top 89)) b67 (defBody (top 89)) = true := by decide +kernel
def N68 : List Str := ["tin", "names_so", "one", "two", "n", "m", "near", "far", "walk_so", "got", "less_so", "weights_so", "moved_so", "a", "b", "own", "k", "p"]
/-- _law_right -/
def b68 : Ss :=
  (.cons (.set 1 (.dzip (.tup (.cons (.int 2) (.cons (.int 3) (.cons (.int 5) (.cons (.int 7) (.cons (.int 11) .nil)))))) (.call 59 (.cons (.pl 0) (.cons (.lst (.cons (.int 2) (.cons (.int 3) (.cons (.int 5) (.cons (.int 7) (.cons (.int 11) .nil)))))) (.cons (.int 5) .nil))))))
  (.cons (.unp [2, 3, 4, 5] (.tup (.cons (.call 67 (.cons (.pl 0) .nil)) (.cons (.call 67 (.cons (.pl 0) .nil)) (.cons (.call 66 (.cons (.pl 0) (.cons (.int 3) .nil))) (.cons (.call 66 (.cons (.pl 0) (.cons (.int 2) .nil))) .nil))))))
  (.cons (.unp [6, 7] (.comp (.nm 15) (.sq (.tup (.cons (.pl 2) (.cons (.pl 3) .nil)))) .yes (.blt .tuple (.cons (.comp (.tp [13, 14]) (.sq (.pl 15)) .yes (.tup (.cons (.call 65 (.cons (.pl 13) (.cons (.pl 1) .nil))) (.cons (.call 65 (.cons (.pl 14) (.cons (.pl 1) .nil))) .nil)))) .nil))))
  (.cons (.set 8 (.call 64 (.cons (.pl 2) (.cons (.pl 4) (.cons (.int 12) .nil)))))
  (.cons (.set 9 (.lst (.cons (.call 19 (.cons (.pl 6) (.cons (.call 65 (.cons (.pl 4) (.cons (.pl 1) .nil))) (.cons (.int 12) .nil)))) (.cons (.call 20 (.cons (.pl 6) (.cons (.call 65 (.cons (.pl 4) (.cons (.pl 1) .nil))) (.cons (.int 12) .nil)))) (.cons (.call 18 (.cons (.pl 6) (.cons (.call 65 (.cons (.pl 5) (.cons (.pl 1) .nil))) .nil))) .nil)))))
  (.cons (.ife (.not (.val (.call 60 (.cons (.pl 9) (.cons (.lst (.cons (.comp (.nm 15) (.sq (.pl 8)) .yes (.call 65 (.cons (.pl 15) (.cons (.pl 1) .nil)))) (.cons (.blt .tuple (.cons (.comp (.nm 15) (.sq (.slc (.pl 8) .no (.so (.int 12)))) (.cmp .GtE (.call 63 (.cons (.pl 2) (.cons (.pl 15) .nil))) (.int 0)) (.call 63 (.cons (.pl 2) (.cons (.pl 15) .nil)))) .nil)) (.cons (.call 63 (.cons (.pl 2) (.cons (.pl 5) .nil))) .nil)))) .nil))))) (.cons (.ret (.bl false))
  .nil) .nil)
  (.cons (.set 9 (.lst (.cons (.blt .sorted (.cons (.comp (.tp [13, 16]) (.sq (.call 22 (.cons (.pl 2) (.cons (.pl 5) .nil)))) .yes (.tup (.cons (.call 65 (.cons (.pl 13) (.cons (.pl 1) .nil))) (.cons (.pl 16) .nil)))) .nil)) (.cons (.call 23 (.cons (.pl 6) (.cons (.call 65 (.cons (.pl 4) (.cons (.pl 1) .nil))) (.cons (.call 65 (.cons (.pl 5) (.cons (.pl 1) .nil))) (.cons (.int 8) .nil))))) .nil))))
  (.cons (.ife (.not (.val (.call 60 (.cons (.pl 9) (.cons (.lst (.cons (.call 22 (.cons (.pl 6) (.cons (.call 65 (.cons (.pl 5) (.cons (.pl 1) .nil))) .nil))) (.cons (.call 23 (.cons (.pl 2) (.cons (.pl 4) (.cons (.pl 5) (.cons (.int 8) .nil))))) .nil))) .nil))))) (.cons (.ret (.bl false))
  .nil) .nil)
  (.cons (.set 10 (.blt .tuple (.cons (.comp (.tp [13, 14]) (.sq (.call 30 (.cons (.pl 2) .nil))) .yes (.tup (.cons (.call 65 (.cons (.pl 13) (.cons (.pl 1) .nil))) (.cons (.call 65 (.cons (.pl 14) (.cons (.pl 1) .nil))) .nil)))) .nil)))
  (.cons (.set 9 (.lst (.cons (.call 28 (.cons (.pl 6) (.cons (.pl 7) .nil))) (.cons (.call 28 (.cons (.pl 6) (.cons (.bin .Add (.pl 6) (.pl 7)) .nil))) (.cons (.call 29 (.cons (.pl 6) .nil)) (.cons (.call 30 (.cons (.pl 6) .nil)) (.cons (.comp (.nm 16) (.rng1 (.bin .Sub (.blt .len (.cons (.pl 2) .nil)) (.int 1))) .yes (.call 32 (.cons (.pl 6) (.cons (.pl 16) .nil)))) .nil)))))))
  (.cons (.ife (.not (.val (.call 60 (.cons (.pl 9) (.cons (.lst (.cons (.call 28 (.cons (.pl 2) (.cons (.pl 3) .nil))) (.cons (.call 28 (.cons (.pl 2) (.cons (.bin .Add (.pl 2) (.pl 3)) .nil))) (.cons (.call 29 (.cons (.pl 2) .nil)) (.cons (.pl 10) (.cons (.comp (.nm 16) (.rng1 (.bin .Sub (.blt .len (.cons (.pl 2) .nil)) (.int 1))) .yes (.call 32 (.cons (.pl 2) (.cons (.pl 16) .nil)))) .nil)))))) .nil))))) (.cons (.ret (.bl false))
  .nil) .nil)
  (.cons (.ife (.not (.val (.call 60 (.cons (.lst (.cons (.call 28 (.cons (.pl 2) (.cons (.call 30 (.cons (.pl 2) .nil)) .nil))) (.cons (.call 28 (.cons (.pl 6) (.cons (.pl 10) .nil))) (.cons (.call 29 (.cons (.pl 10) .nil)) .nil)))) (.cons (.lst (.cons (.bl true) (.cons (.bl true) (.cons (.tup .nil) .nil)))) .nil))))) (.cons (.ret (.bl false))
  .nil) .nil)
  (.cons (.set 11 (.blt .tuple (.cons (.comp (.nm 17) (.sq (.tup (.cons (.int 2) (.cons (.int 3) (.cons (.int 5) (.cons (.int 7) (.cons (.int 11) .nil))))))) .yes (.tup (.cons (.pl 17) (.cons (.bin .Add (.int 1) (.call 56 (.cons (.pl 0) (.cons (.int 9) .nil)))) .nil)))) .nil)))
  (.cons (.set 12 (.blt .tuple (.cons (.blt .sorted (.cons (.comp (.tp [17, 15]) (.sq (.pl 11)) .yes (.tup (.cons (.dget (.pl 1) (.pl 17)) (.cons (.pl 15) .nil)))) .nil)) .nil)))
  (.cons (.set 9 (.lst (.cons (.call 40 (.cons (.pl 12) (.cons (.call 65 (.cons (.pl 4) (.cons (.pl 1) .nil))) .nil))) (.cons (.call 41 (.cons (.pl 6) (.cons (.pl 12) .nil))) (.cons (.call 53 (.cons (.tup (.cons (.str "alike") (.cons (.pl 6) (.cons (.pl 7) .nil)))) .nil)) (.cons (.call 53 (.cons (.tup (.cons (.str "idle") (.cons (.pl 6) (.cons (.bin .Sub (.blt .len (.cons (.pl 6) .nil)) (.int 1)) .nil)))) .nil)) (.cons (.call 53 (.cons (.tup (.cons (.str "first") (.cons (.pl 6) (.cons (.call 65 (.cons (.pl 5) (.cons (.pl 1) .nil))) .nil)))) .nil)) .nil)))))))
  (.cons (.ife (.not (.val (.call 60 (.cons (.pl 9) (.cons (.lst (.cons (.call 40 (.cons (.pl 11) (.cons (.pl 4) .nil))) (.cons (.call 41 (.cons (.pl 2) (.cons (.pl 11) .nil))) (.cons (.call 53 (.cons (.tup (.cons (.str "alike") (.cons (.pl 2) (.cons (.pl 3) .nil)))) .nil)) (.cons (.call 53 (.cons (.tup (.cons (.str "idle") (.cons (.pl 2) (.cons (.bin .Sub (.blt .len (.cons (.pl 2) .nil)) (.int 1)) .nil)))) .nil)) (.cons (.call 53 (.cons (.tup (.cons (.str "first") (.cons (.pl 2) (.cons (.pl 5) .nil)))) .nil)) .nil)))))) .nil))))) (.cons (.ret (.bl false))
  .nil) .nil)
  (.cons (.par 13 14 (.e (.call 56 (.cons (.pl 0) (.cons (.int 6) .nil)))) (.e (.bin .Add (.int 1) (.call 56 (.cons (.pl 0) (.cons (.int 6) .nil))))))
  (.cons (.ife (.not (.val (.call 60 (.cons (.call 42 (.cons (.pl 6) (.cons (.call 65 (.cons (.pl 4) (.cons (.pl 1) .nil))) (.cons (.pl 13) (.cons (.pl 14) .nil))))) (.cons (.call 42 (.cons (.pl 2) (.cons (.pl 4) (.cons (.pl 13) (.cons (.pl 14) .nil))))) .nil))))) (.cons (.ret (.bl false))
  .nil) .nil)
  (.cons (.ife (.val (.call 53 (.cons (.tup (.cons (.str "first") (.cons (.pl 2) (.cons (.pl 5) .nil)))) .nil))) (.cons (.ret (.call 60 (.cons (.call 54 (.cons (.tup (.cons (.str "first") (.cons (.pl 6) (.cons (.call 65 (.cons (.pl 5) (.cons (.pl 1) .nil))) .nil)))) .nil)) (.cons (.call 54 (.cons (.tup (.cons (.str "first") (.cons (.pl 2) (.cons (.pl 5) .nil)))) .nil)) .nil))))
  .nil) .nil)
  (.cons (.ret (.bl true))
  .nil))))))))))))))))))))
theorem k68 : okSs ⟨N68, fr, GN, fnm⟩ (defScope (top 90)) b68 (defBody (top 90)) = true := by decide +kernel
def N69 : List Str := ["script", "tin", "lap"]
/-- law -/
def b69 : Ss :=
  (.cons (.setO 1 (.cal 55 (.cons (.callR 57 0 (.cons (.int 1) .nil)) (.cons (.int 0) .nil))))
  (.cons (.ret (.blt .all (.cons (.comp (.nm 2) (.rng1 (.int 4)) .yes (.call 68 (.cons (.pl 1) .nil))) .nil)))
  .nil))
theorem k69 : okSs ⟨N69, fr, GN, fnm⟩ (defScope (top 91)) b69 (defBody (top 91)) = true := by decide +kernel
def tab_0 : List Fn := [⟨1, 1, b0⟩, ⟨3, 3, b1⟩, ⟨2, 2, b2⟩, ⟨1, 2, b3⟩, ⟨3, 3, b4⟩, ⟨1, 1, b5⟩, ⟨1, 1, b6⟩, ⟨2, 2, b7⟩, ⟨2, 2, b8⟩, ⟨1, 2, b9⟩, ⟨2, 3, b10⟩, ⟨2, 3, b11⟩, ⟨1, 2, b12⟩, ⟨1, 2, b13⟩, ⟨1, 2, b14⟩, ⟨2, 4, b15⟩, ⟨3, 4, b16⟩, ⟨3, 6, b17⟩, ⟨2, 3, b18⟩, ⟨3, 5, b19⟩]
def tab_1 : List Fn := [⟨3, 7, b20⟩, ⟨2, 6, b21⟩, ⟨2, 3, b22⟩, ⟨4, 14, b23⟩, ⟨3, 7, b24⟩, ⟨2, 2, b25⟩, ⟨2, 6, b26⟩, ⟨1, 3, b27⟩, ⟨2, 3, b28⟩, ⟨1, 1, b29⟩, ⟨1, 5, b30⟩, ⟨2, 3, b31⟩, ⟨2, 3, b32⟩, ⟨1, 4, b33⟩, ⟨1, 2, b34⟩, ⟨2, 4, b35⟩, ⟨2, 4, b36⟩, ⟨3, 6, b37⟩, ⟨4, 5, b38⟩, ⟨2, 4, b39⟩]
def tab_2 : List Fn := [⟨2, 3, b40⟩, ⟨2, 3, b41⟩, ⟨4, 8, b42⟩, ⟨1, 1, b43⟩, ⟨2, 3, b44⟩, ⟨2, 5, b45⟩, ⟨2, 5, b46⟩, ⟨3, 7, b47⟩, ⟨2, 3, b48⟩, ⟨2, 2, b49⟩, ⟨1, 1, b50⟩, ⟨1, 1, b51⟩, ⟨1, 2, b52⟩, ⟨1, 1, b53⟩, ⟨1, 2, b54⟩, ⟨2, 3, b55⟩, ⟨2, 6, b56⟩, ⟨2, 6, b57⟩, ⟨2, 2, b58⟩, ⟨3, 6, b59⟩]
def tab_3 : List Fn := [⟨2, 4, b60⟩, ⟨2, 2, b61⟩, ⟨2, 3, b62⟩, ⟨2, 5, b63⟩, ⟨3, 6, b64⟩, ⟨2, 6, b65⟩, ⟨2, 5, b66⟩, ⟨1, 6, b67⟩, ⟨1, 18, b68⟩, ⟨1, 3, b69⟩]
def tab : List Fn := tab_0 ++ tab_1 ++ tab_2 ++ tab_3
end Ir
set_option Elab.async false
set_option linter.all false
set_option maxRecDepth 100000
set_option maxHeartbeats 0
namespace Ir
open PySem PySem.Spec PyProof.Rows L2 Dn
def dd (x : Str) (i : Nat) : He.DefD := ⟨(x, none), x, x, defArgs (top i), defBody (top i), defScope (top i), [], []⟩
def fn_0 : List He.DefD := [dd "is_number" 9, dd "is_within" 10, dd "is_long" 11, dd "tupled" 12, dd "sure_within" 13, dd "sure_steps" 14, dd "sure_number" 15, dd "common" 16, dd "least_multiple" 17, dd "is_prime" 18, dd "how_often" 19, dd "without" 20, dd "is_fraction_in" 23, dd "is_mill_in" 24, dd "sure_mill" 25, dd "place_in" 26, dd "taken" 27, dd "walk_in" 28, dd "place_taken" 29, dd "walk_mill" 30]
def fn_1 : List He.DefD := [dd "places_taken" 31, dd "ahead_in" 33, dd "ahead_of" 34, dd "meets" 35, dd "walk_few" 36, dd "told_by" 39, dd "parting_in" 40, dd "idle_in" 41, dd "alike" 42, dd "idle" 43, dd "lessened" 44, dd "swapped" 45, dd "can_swap" 46, dd "are_weights_in" 51, dd "sure_weights" 52, dd "weight_in" 53, dd "is_fall_in" 54, dd "keeps_going" 55, dd "is_stretch_in" 56, dd "stretch_in" 57]
def fn_2 : List He.DefD := [dd "weight_of" 58, dd "is_fall" 59, dd "is_stretch" 60, dd "is_claim_in" 64, dd "ended" 65, dd "walk_looked" 66, dd "multiples_of" 67, dd "barred_by" 68, dd "reason_of_first" 69, dd "earlier_divisor" 70, dd "holds_in" 71, dd "reason_in" 72, dd "sure_claim" 73, dd "holds" 74, dd "claim_reason" 75, dd "_law_box" 77, dd "_law_take" 78, dd "_law_cells" 79, dd "_law_of" 80, dd "_law_pick" 81]
def fn_3 : List He.DefD := [dd "_law_same" 82, dd "_law_rest" 83, dd "_law_gcd" 84, dd "_law_takes" 85, dd "_law_milled" 86, dd "_law_led" 87, dd "_law_drawn" 88, dd "_law_of_primes" 89, dd "_law_right" 90, dd "law" 91]
def fn : List He.DefD := fn_0 ++ fn_1 ++ fn_2 ++ fn_3
def fa : List He.Fa := fnm.map .glo ++ fr.map .free
def loose_0 : List Str := ["__name__", "CanNot", "TooMany", "Unfit", "GREAT", "MOST_NUMBER", "MOST_STEPS", "is_number", "is_within", "is_long", "tupled", "sure_within", "sure_steps", "sure_number", "common", "least_multiple", "is_prime", "how_often", "without", "MOST_FRACTIONS"]
def loose_1 : List Str := ["is_fraction_in", "is_mill_in", "sure_mill", "place_in", "taken", "walk_in", "place_taken", "walk_mill", "places_taken", "ahead_in", "ahead_of", "meets", "walk_few", "NONE", "told_by", "parting_in", "idle_in", "alike", "idle", "lessened"]
def loose_2 : List Str := ["swapped", "can_swap", "MOST_PRIME", "MOST_WEIGHT", "MOST_LOOKED", "are_weights_in", "sure_weights", "weight_in", "is_fall_in", "keeps_going", "is_stretch_in", "stretch_in", "weight_of", "is_fall", "is_stretch", "KINDS", "MOST_RUN", "is_claim_in", "ended", "walk_looked"]
def loose_3 : List Str := ["multiples_of", "barred_by", "reason_of_first", "earlier_divisor", "holds_in", "reason_in", "sure_claim", "holds", "claim_reason", "_law_box", "_law_take", "_law_cells", "_law_of", "_law_pick", "_law_same", "_law_rest", "_law_gcd", "_law_takes", "_law_milled", "_law_led"]
def loose_4 : List Str := ["_law_drawn", "_law_of_primes", "_law_right"]
def loose : List Str := loose_0 ++ loose_1 ++ loose_2 ++ loose_3 ++ loose_4
def ex (K : PySem.W.Frag) : Bool := gB K GN G && gcdB K
abbrev RwL : PySem.W.OpenRow := PySem.W.OpenLaw.row PySem.Challenge.rw_fractionmills_k61_across_primes_named_an
abbrev hk : PySem.W.Hook := He.hookX 2 fa fn [] [] ex
def ob (s : PySem.W.SharedT) : He.AlX := He.obsX 2 fa fn [] [] ex (HandSHeadRun.getT s)
theorem ob_eq (s : PySem.W.SharedT) : ob s = hk.obs s.abs := He.obsX_eq (HandSHeadRun.getT_eq s)
theorem run (w : World) : HandSHeadRun.RunEqI RwL (PySem.W.view RwL.prog [0, 91]) hk ob 12000 loose w := by
  unfold HandSHeadRun.RunEqI
  kernel_rfl
end Ir
set_option Elab.async false
set_option linter.all false
set_option maxRecDepth 100000
set_option maxHeartbeats 4000000
namespace Ir
open PySem L2 Dn
abbrev D0 (n : Nat) := asD (runN tab 3000 G n)
abbrev O0 (n : Nat) := asO (runN tab 3000 G n)
def outD (np : Nat) : Option Out → Option (D × List SV)
  | some (.rt d ρ) => some (d, ρ.take np)
  | some (.ro o ρ) => some (ovD o, ρ.take np)
  | some (.nx ρ) => some (.none, ρ.take np)
  | _ => none
def outO (np : Nat) : Option Out → Option (OV × List SV)
  | some (.ro o ρ) => some (o, ρ.take np)
  | _ => none
theorem call_R {n i : Nat} {as : List SV} {f : Fn} (h : tab[i]? = some f) (hl : as.length = f.np) : runN tab 3000 G (n + 1) i as = (match evSs 3000 G (D0 n) (O0 n) f.body (as ++ List.replicate (f.nl - f.np) .un) with
      | some (.rt d ρ) => some (.d d (ρ.take f.np))
      | some (.ro o ρ) => some (.o o (ρ.take f.np))
      | some (.nx ρ) => some (.d .none (ρ.take f.np))
      | _ => none) := by
  show (match tab[i]? with
    | none => none
    | some f => if as.length = f.np then _ else none) = _
  rw [h]
  exact if_pos hl
theorem call_D {n i : Nat} {as : List SV} {f : Fn} (h : tab[i]? = some f) (hl : as.length = f.np) : D0 (n + 1) i as = outD f.np (evSs 3000 G (D0 n) (O0 n) f.body (as ++ List.replicate (f.nl - f.np) .un)) := by
  show (match runN tab 3000 G (n + 1) i as with
    | some (.d x as') => some (x, as')
    | some (.o o as') => some (ovD o, as')
    | none => none) = _
  rw [call_R h hl]
  generalize evSs 3000 G (D0 n) (O0 n) f.body (as ++ List.replicate (f.nl - f.np) .un) = q
  cases q with
  | none => rfl
  | some q => cases q <;> rfl
theorem call_O {n i : Nat} {as : List SV} {f : Fn} (h : tab[i]? = some f) (hl : as.length = f.np) : O0 (n + 1) i as = outO f.np (evSs 3000 G (D0 n) (O0 n) f.body (as ++ List.replicate (f.nl - f.np) .un)) := by
  show (match runN tab 3000 G (n + 1) i as with
    | some (.o o as') => some (o, as')
    | _ => none) = _
  rw [call_R h hl]
  generalize evSs 3000 G (D0 n) (O0 n) f.body (as ++ List.replicate (f.nl - f.np) .un) = q
  cases q with
  | none => rfl
  | some q => cases q <;> rfl
/-- is_number -/
theorem c0 {n : Nat} {x0 : SV} : D0 (n + 1) 0 [x0] = outD 1 (evSs 3000 G (D0 n) (O0 n) b0 [x0]) := call_D (f := ⟨1, 1, b0⟩) rfl rfl
/-- is_within -/
theorem c1 {n : Nat} {x0 x1 x2 : SV} : D0 (n + 1) 1 [x0, x1, x2] = outD 3 (evSs 3000 G (D0 n) (O0 n) b1 [x0, x1, x2]) := call_D (f := ⟨3, 3, b1⟩) rfl rfl
/-- is_long -/
theorem c2 {n : Nat} {x0 x1 : SV} : D0 (n + 1) 2 [x0, x1] = outD 2 (evSs 3000 G (D0 n) (O0 n) b2 [x0, x1]) := call_D (f := ⟨2, 2, b2⟩) rfl rfl
/-- tupled -/
theorem c3 {n : Nat} {x0 : SV} : D0 (n + 1) 3 [x0] = outD 1 (evSs 3000 G (D0 n) (O0 n) b3 [x0, .un]) := call_D (f := ⟨1, 2, b3⟩) rfl rfl
/-- sure_within -/
theorem c4 {n : Nat} {x0 x1 x2 : SV} : D0 (n + 1) 4 [x0, x1, x2] = outD 3 (evSs 3000 G (D0 n) (O0 n) b4 [x0, x1, x2]) := call_D (f := ⟨3, 3, b4⟩) rfl rfl
/-- sure_steps -/
theorem c5 {n : Nat} {x0 : SV} : D0 (n + 1) 5 [x0] = outD 1 (evSs 3000 G (D0 n) (O0 n) b5 [x0]) := call_D (f := ⟨1, 1, b5⟩) rfl rfl
/-- sure_number -/
theorem c6 {n : Nat} {x0 : SV} : D0 (n + 1) 6 [x0] = outD 1 (evSs 3000 G (D0 n) (O0 n) b6 [x0]) := call_D (f := ⟨1, 1, b6⟩) rfl rfl
/-- common -/
theorem c7 {n : Nat} {x0 x1 : SV} : D0 (n + 1) 7 [x0, x1] = outD 2 (evSs 3000 G (D0 n) (O0 n) b7 [x0, x1]) := call_D (f := ⟨2, 2, b7⟩) rfl rfl
/-- least_multiple -/
theorem c8 {n : Nat} {x0 x1 : SV} : D0 (n + 1) 8 [x0, x1] = outD 2 (evSs 3000 G (D0 n) (O0 n) b8 [x0, x1]) := call_D (f := ⟨2, 2, b8⟩) rfl rfl
/-- is_prime -/
theorem c9 {n : Nat} {x0 : SV} : D0 (n + 1) 9 [x0] = outD 1 (evSs 3000 G (D0 n) (O0 n) b9 [x0, .un]) := call_D (f := ⟨1, 2, b9⟩) rfl rfl
/-- how_often -/
theorem c10 {n : Nat} {x0 x1 : SV} : D0 (n + 1) 10 [x0, x1] = outD 2 (evSs 3000 G (D0 n) (O0 n) b10 [x0, x1, .un]) := call_D (f := ⟨2, 3, b10⟩) rfl rfl
/-- without -/
theorem c11 {n : Nat} {x0 x1 : SV} : D0 (n + 1) 11 [x0, x1] = outD 2 (evSs 3000 G (D0 n) (O0 n) b11 [x0, x1, .un]) := call_D (f := ⟨2, 3, b11⟩) rfl rfl
/-- is_fraction_in -/
theorem c12 {n : Nat} {x0 : SV} : D0 (n + 1) 12 [x0] = outD 1 (evSs 3000 G (D0 n) (O0 n) b12 [x0, .un]) := call_D (f := ⟨1, 2, b12⟩) rfl rfl
/-- is_mill_in -/
theorem c13 {n : Nat} {x0 : SV} : D0 (n + 1) 13 [x0] = outD 1 (evSs 3000 G (D0 n) (O0 n) b13 [x0, .un]) := call_D (f := ⟨1, 2, b13⟩) rfl rfl
/-- sure_mill -/
theorem c14 {n : Nat} {x0 : SV} : D0 (n + 1) 14 [x0] = outD 1 (evSs 3000 G (D0 n) (O0 n) b14 [x0, .un]) := call_D (f := ⟨1, 2, b14⟩) rfl rfl
/-- place_in -/
theorem c15 {n : Nat} {x0 x1 : SV} : D0 (n + 1) 15 [x0, x1] = outD 2 (evSs 3000 G (D0 n) (O0 n) b15 [x0, x1, .un, .un]) := call_D (f := ⟨2, 4, b15⟩) rfl rfl
/-- taken -/
theorem c16 {n : Nat} {x0 x1 x2 : SV} : D0 (n + 1) 16 [x0, x1, x2] = outD 3 (evSs 3000 G (D0 n) (O0 n) b16 [x0, x1, x2, .un]) := call_D (f := ⟨3, 4, b16⟩) rfl rfl
/-- walk_in -/
theorem c17 {n : Nat} {x0 x1 x2 : SV} : D0 (n + 1) 17 [x0, x1, x2] = outD 3 (evSs 3000 G (D0 n) (O0 n) b17 [x0, x1, x2, .un, .un, .un]) := call_D (f := ⟨3, 6, b17⟩) rfl rfl
/-- place_taken -/
theorem c18 {n : Nat} {x0 x1 : SV} : D0 (n + 1) 18 [x0, x1] = outD 2 (evSs 3000 G (D0 n) (O0 n) b18 [x0, x1, .un]) := call_D (f := ⟨2, 3, b18⟩) rfl rfl
/-- walk_mill -/
theorem c19 {n : Nat} {x0 x1 x2 : SV} : D0 (n + 1) 19 [x0, x1, x2] = outD 3 (evSs 3000 G (D0 n) (O0 n) b19 [x0, x1, x2, .un, .un]) := call_D (f := ⟨3, 5, b19⟩) rfl rfl
/-- places_taken -/
theorem c20 {n : Nat} {x0 x1 x2 : SV} : D0 (n + 1) 20 [x0, x1, x2] = outD 3 (evSs 3000 G (D0 n) (O0 n) b20 [x0, x1, x2, .un, .un, .un, .un]) := call_D (f := ⟨3, 7, b20⟩) rfl rfl
/-- ahead_in -/
theorem c21 {n : Nat} {x0 x1 : SV} : D0 (n + 1) 21 [x0, x1] = outD 2 (evSs 3000 G (D0 n) (O0 n) b21 [x0, x1, .un, .un, .un, .un]) := call_D (f := ⟨2, 6, b21⟩) rfl rfl
/-- ahead_of -/
theorem c22 {n : Nat} {x0 x1 : SV} : D0 (n + 1) 22 [x0, x1] = outD 2 (evSs 3000 G (D0 n) (O0 n) b22 [x0, x1, .un]) := call_D (f := ⟨2, 3, b22⟩) rfl rfl
/-- meets -/
theorem c23 {n : Nat} {x0 x1 x2 x3 : SV} : D0 (n + 1) 23 [x0, x1, x2, x3] = outD 4 (evSs 3000 G (D0 n) (O0 n) b23 [x0, x1, x2, x3, .un, .un, .un, .un, .un, .un, .un, .un, .un, .un]) := call_D (f := ⟨4, 14, b23⟩) rfl rfl
/-- walk_few -/
theorem c24 {n : Nat} {x0 x1 x2 : SV} : D0 (n + 1) 24 [x0, x1, x2] = outD 3 (evSs 3000 G (D0 n) (O0 n) b24 [x0, x1, x2, .un, .un, .un, .un]) := call_D (f := ⟨3, 7, b24⟩) rfl rfl
/-- told_by -/
theorem c25 {n : Nat} {x0 x1 : SV} : D0 (n + 1) 25 [x0, x1] = outD 2 (evSs 3000 G (D0 n) (O0 n) b25 [x0, x1]) := call_D (f := ⟨2, 2, b25⟩) rfl rfl
/-- parting_in -/
theorem c26 {n : Nat} {x0 x1 : SV} : D0 (n + 1) 26 [x0, x1] = outD 2 (evSs 3000 G (D0 n) (O0 n) b26 [x0, x1, .un, .un, .un, .un]) := call_D (f := ⟨2, 6, b26⟩) rfl rfl
/-- idle_in -/
theorem c27 {n : Nat} {x0 : SV} : D0 (n + 1) 27 [x0] = outD 1 (evSs 3000 G (D0 n) (O0 n) b27 [x0, .un, .un]) := call_D (f := ⟨1, 3, b27⟩) rfl rfl
/-- alike -/
theorem c28 {n : Nat} {x0 x1 : SV} : D0 (n + 1) 28 [x0, x1] = outD 2 (evSs 3000 G (D0 n) (O0 n) b28 [x0, x1, .un]) := call_D (f := ⟨2, 3, b28⟩) rfl rfl
/-- idle -/
theorem c29 {n : Nat} {x0 : SV} : D0 (n + 1) 29 [x0] = outD 1 (evSs 3000 G (D0 n) (O0 n) b29 [x0]) := call_D (f := ⟨1, 1, b29⟩) rfl rfl
/-- lessened -/
theorem c30 {n : Nat} {x0 : SV} : D0 (n + 1) 30 [x0] = outD 1 (evSs 3000 G (D0 n) (O0 n) b30 [x0, .un, .un, .un, .un]) := call_D (f := ⟨1, 5, b30⟩) rfl rfl
/-- swapped -/
theorem c31 {n : Nat} {x0 x1 : SV} : D0 (n + 1) 31 [x0, x1] = outD 2 (evSs 3000 G (D0 n) (O0 n) b31 [x0, x1, .un]) := call_D (f := ⟨2, 3, b31⟩) rfl rfl
/-- can_swap -/
theorem c32 {n : Nat} {x0 x1 : SV} : D0 (n + 1) 32 [x0, x1] = outD 2 (evSs 3000 G (D0 n) (O0 n) b32 [x0, x1, .un]) := call_D (f := ⟨2, 3, b32⟩) rfl rfl
/-- are_weights_in -/
theorem c33 {n : Nat} {x0 : SV} : D0 (n + 1) 33 [x0] = outD 1 (evSs 3000 G (D0 n) (O0 n) b33 [x0, .un, .un, .un]) := call_D (f := ⟨1, 4, b33⟩) rfl rfl
/-- sure_weights -/
theorem c34 {n : Nat} {x0 : SV} : D0 (n + 1) 34 [x0] = outD 1 (evSs 3000 G (D0 n) (O0 n) b34 [x0, .un]) := call_D (f := ⟨1, 2, b34⟩) rfl rfl
/-- weight_in -/
theorem c35 {n : Nat} {x0 x1 : SV} : D0 (n + 1) 35 [x0, x1] = outD 2 (evSs 3000 G (D0 n) (O0 n) b35 [x0, x1, .un, .un]) := call_D (f := ⟨2, 4, b35⟩) rfl rfl
/-- is_fall_in -/
theorem c36 {n : Nat} {x0 x1 : SV} : D0 (n + 1) 36 [x0, x1] = outD 2 (evSs 3000 G (D0 n) (O0 n) b36 [x0, x1, .un, .un]) := call_D (f := ⟨2, 4, b36⟩) rfl rfl
/-- keeps_going -/
theorem c37 {n : Nat} {x0 x1 x2 : SV} : D0 (n + 1) 37 [x0, x1, x2] = outD 3 (evSs 3000 G (D0 n) (O0 n) b37 [x0, x1, x2, .un, .un, .un]) := call_D (f := ⟨3, 6, b37⟩) rfl rfl
/-- is_stretch_in -/
theorem c38 {n : Nat} {x0 x1 x2 x3 : SV} : D0 (n + 1) 38 [x0, x1, x2, x3] = outD 4 (evSs 3000 G (D0 n) (O0 n) b38 [x0, x1, x2, x3, .un]) := call_D (f := ⟨4, 5, b38⟩) rfl rfl
/-- stretch_in -/
theorem c39 {n : Nat} {x0 x1 : SV} : D0 (n + 1) 39 [x0, x1] = outD 2 (evSs 3000 G (D0 n) (O0 n) b39 [x0, x1, .un, .un]) := call_D (f := ⟨2, 4, b39⟩) rfl rfl
/-- weight_of -/
theorem c40 {n : Nat} {x0 x1 : SV} : D0 (n + 1) 40 [x0, x1] = outD 2 (evSs 3000 G (D0 n) (O0 n) b40 [x0, x1, .un]) := call_D (f := ⟨2, 3, b40⟩) rfl rfl
/-- is_fall -/
theorem c41 {n : Nat} {x0 x1 : SV} : D0 (n + 1) 41 [x0, x1] = outD 2 (evSs 3000 G (D0 n) (O0 n) b41 [x0, x1, .un]) := call_D (f := ⟨2, 3, b41⟩) rfl rfl
/-- is_stretch -/
theorem c42 {n : Nat} {x0 x1 x2 x3 : SV} : D0 (n + 1) 42 [x0, x1, x2, x3] = outD 4 (evSs 3000 G (D0 n) (O0 n) b42 [x0, x1, x2, x3, .un, .un, .un, .un]) := call_D (f := ⟨4, 8, b42⟩) rfl rfl
/-- is_claim_in -/
theorem c43 {n : Nat} {x0 : SV} : D0 (n + 1) 43 [x0] = outD 1 (evSs 3000 G (D0 n) (O0 n) b43 [x0]) := call_D (f := ⟨1, 1, b43⟩) rfl rfl
/-- ended -/
theorem c44 {n : Nat} {x0 x1 : SV} : D0 (n + 1) 44 [x0, x1] = outD 2 (evSs 3000 G (D0 n) (O0 n) b44 [x0, x1, .un]) := call_D (f := ⟨2, 3, b44⟩) rfl rfl
/-- walk_looked -/
theorem c45 {n : Nat} {x0 x1 : SV} : D0 (n + 1) 45 [x0, x1] = outD 2 (evSs 3000 G (D0 n) (O0 n) b45 [x0, x1, .un, .un, .un]) := call_D (f := ⟨2, 5, b45⟩) rfl rfl
/-- multiples_of -/
theorem c46 {n : Nat} {x0 x1 : SV} : D0 (n + 1) 46 [x0, x1] = outD 2 (evSs 3000 G (D0 n) (O0 n) b46 [x0, x1, .un, .un, .un]) := call_D (f := ⟨2, 5, b46⟩) rfl rfl
/-- barred_by -/
theorem c47 {n : Nat} {x0 x1 x2 : SV} : D0 (n + 1) 47 [x0, x1, x2] = outD 3 (evSs 3000 G (D0 n) (O0 n) b47 [x0, x1, x2, .un, .un, .un, .un]) := call_D (f := ⟨3, 7, b47⟩) rfl rfl
/-- reason_of_first -/
theorem c48 {n : Nat} {x0 x1 : SV} : D0 (n + 1) 48 [x0, x1] = outD 2 (evSs 3000 G (D0 n) (O0 n) b48 [x0, x1, .un]) := call_D (f := ⟨2, 3, b48⟩) rfl rfl
/-- earlier_divisor -/
theorem c49 {n : Nat} {x0 x1 : SV} : D0 (n + 1) 49 [x0, x1] = outD 2 (evSs 3000 G (D0 n) (O0 n) b49 [x0, x1]) := call_D (f := ⟨2, 2, b49⟩) rfl rfl
/-- holds_in -/
theorem c50 {n : Nat} {x0 : SV} : D0 (n + 1) 50 [x0] = outD 1 (evSs 3000 G (D0 n) (O0 n) b50 [x0]) := call_D (f := ⟨1, 1, b50⟩) rfl rfl
/-- reason_in -/
theorem c51 {n : Nat} {x0 : SV} : D0 (n + 1) 51 [x0] = outD 1 (evSs 3000 G (D0 n) (O0 n) b51 [x0]) := call_D (f := ⟨1, 1, b51⟩) rfl rfl
/-- sure_claim -/
theorem c52 {n : Nat} {x0 : SV} : D0 (n + 1) 52 [x0] = outD 1 (evSs 3000 G (D0 n) (O0 n) b52 [x0, .un]) := call_D (f := ⟨1, 2, b52⟩) rfl rfl
/-- holds -/
theorem c53 {n : Nat} {x0 : SV} : D0 (n + 1) 53 [x0] = outD 1 (evSs 3000 G (D0 n) (O0 n) b53 [x0]) := call_D (f := ⟨1, 1, b53⟩) rfl rfl
/-- claim_reason -/
theorem c54 {n : Nat} {x0 : SV} : D0 (n + 1) 54 [x0] = outD 1 (evSs 3000 G (D0 n) (O0 n) b54 [x0, .un]) := call_D (f := ⟨1, 2, b54⟩) rfl rfl
/-- _law_box -/
theorem c55 {n : Nat} {x0 x1 : SV} : D0 (n + 1) 55 [x0, x1] = outD 2 (evSs 3000 G (D0 n) (O0 n) b55 [x0, x1, .un]) := call_D (f := ⟨2, 3, b55⟩) rfl rfl
/-- _law_take -/
theorem c56 {n : Nat} {x0 x1 : SV} : D0 (n + 1) 56 [x0, x1] = outD 2 (evSs 3000 G (D0 n) (O0 n) b56 [x0, x1, .un, .un, .un, .un]) := call_D (f := ⟨2, 6, b56⟩) rfl rfl
/-- _law_cells -/
theorem c57 {n : Nat} {x0 x1 : SV} : D0 (n + 1) 57 [x0, x1] = outD 2 (evSs 3000 G (D0 n) (O0 n) b57 [x0, x1, .un, .un, .un, .un]) := call_D (f := ⟨2, 6, b57⟩) rfl rfl
/-- _law_of -/
theorem c58 {n : Nat} {x0 x1 : SV} : D0 (n + 1) 58 [x0, x1] = outD 2 (evSs 3000 G (D0 n) (O0 n) b58 [x0, x1]) := call_D (f := ⟨2, 2, b58⟩) rfl rfl
/-- _law_pick -/
theorem c59 {n : Nat} {x0 x1 x2 : SV} : D0 (n + 1) 59 [x0, x1, x2] = outD 3 (evSs 3000 G (D0 n) (O0 n) b59 [x0, x1, x2, .un, .un, .un]) := call_D (f := ⟨3, 6, b59⟩) rfl rfl
/-- _law_same -/
theorem c60 {n : Nat} {x0 x1 : SV} : D0 (n + 1) 60 [x0, x1] = outD 2 (evSs 3000 G (D0 n) (O0 n) b60 [x0, x1, .un, .un]) := call_D (f := ⟨2, 4, b60⟩) rfl rfl
/-- _law_rest -/
theorem c61 {n : Nat} {x0 x1 : SV} : D0 (n + 1) 61 [x0, x1] = outD 2 (evSs 3000 G (D0 n) (O0 n) b61 [x0, x1]) := call_D (f := ⟨2, 2, b61⟩) rfl rfl
/-- _law_gcd -/
theorem c62 {n : Nat} {x0 x1 : SV} : D0 (n + 1) 62 [x0, x1] = outD 2 (evSs 3000 G (D0 n) (O0 n) b62 [x0, x1, .un]) := call_D (f := ⟨2, 3, b62⟩) rfl rfl
/-- _law_takes -/
theorem c63 {n : Nat} {x0 x1 : SV} : D0 (n + 1) 63 [x0, x1] = outD 2 (evSs 3000 G (D0 n) (O0 n) b63 [x0, x1, .un, .un, .un]) := call_D (f := ⟨2, 5, b63⟩) rfl rfl
/-- _law_milled -/
theorem c64 {n : Nat} {x0 x1 x2 : SV} : D0 (n + 1) 64 [x0, x1, x2] = outD 3 (evSs 3000 G (D0 n) (O0 n) b64 [x0, x1, x2, .un, .un, .un]) := call_D (f := ⟨3, 6, b64⟩) rfl rfl
/-- _law_led -/
theorem c65 {n : Nat} {x0 x1 : SV} : D0 (n + 1) 65 [x0, x1] = outD 2 (evSs 3000 G (D0 n) (O0 n) b65 [x0, x1, .un, .un, .un, .un]) := call_D (f := ⟨2, 6, b65⟩) rfl rfl
/-- _law_drawn -/
theorem c66 {n : Nat} {x0 x1 : SV} : D0 (n + 1) 66 [x0, x1] = outD 2 (evSs 3000 G (D0 n) (O0 n) b66 [x0, x1, .un, .un, .un]) := call_D (f := ⟨2, 5, b66⟩) rfl rfl
/-- _law_of_primes -/
theorem c67 {n : Nat} {x0 : SV} : D0 (n + 1) 67 [x0] = outD 1 (evSs 3000 G (D0 n) (O0 n) b67 [x0, .un, .un, .un, .un, .un]) := call_D (f := ⟨1, 6, b67⟩) rfl rfl
/-- _law_right -/
theorem c68 {n : Nat} {x0 : SV} : D0 (n + 1) 68 [x0] = outD 1 (evSs 3000 G (D0 n) (O0 n) b68 [x0, .un, .un, .un, .un, .un, .un, .un, .un, .un, .un, .un, .un, .un, .un, .un, .un, .un]) := call_D (f := ⟨1, 18, b68⟩) rfl rfl
/-- law -/
theorem c69 {n : Nat} {x0 : SV} : D0 (n + 1) 69 [x0] = outD 1 (evSs 3000 G (D0 n) (O0 n) b69 [x0, .un, .un]) := call_D (f := ⟨1, 3, b69⟩) rfl rfl
end Ir
set_option linter.all false
set_option maxRecDepth 100000
/-! Vx: numbers over some primes, as lists of exponents. -/
namespace Vx
/-- the number with these exponents -/
def v : List Nat → List Nat → Nat
  | p :: ps, a :: as => p ^ a * v ps as
  | _, _ => 1
/-- pairwise coprime, each at least 2 -/
def Good : List Nat → Prop
  | [] => True
  | p :: ps => 2 ≤ p ∧ (∀ q ∈ ps, Nat.Coprime p q) ∧ Good ps
def le : List Nat → List Nat → Bool
  | a :: as, b :: bs => decide (a ≤ b) && le as bs
  | _, _ => true
def add : List Nat → List Nat → List Nat
  | a :: as, b :: bs => (a + b) :: add as bs
  | _, _ => []
def sub : List Nat → List Nat → List Nat
  | a :: as, b :: bs => (a - b) :: sub as bs
  | _, _ => []
def mn : List Nat → List Nat → List Nat
  | a :: as, b :: bs => min a b :: mn as bs
  | _, _ => []
theorem v_pos : ∀ {ps e : List Nat}, Good ps → 0 < v ps e
  | [], _, _ => by unfold v; omega
  | _ :: _, [], _ => by unfold v; omega
  | p :: ps, a :: as, h => by
    unfold v
    exact Nat.mul_pos (Nat.pow_pos (by have := h.1; omega)) (v_pos h.2.2)
theorem cop_v {p : Nat} : ∀ {ps e : List Nat}, (∀ q ∈ ps, Nat.Coprime p q) → Nat.Coprime p (v ps e)
  | [], _, _ => by unfold v; exact Nat.coprime_one_right p
  | _ :: _, [], _ => by unfold v; exact Nat.coprime_one_right p
  | q :: ps, a :: as, h => by
    unfold v
    exact Nat.Coprime.mul_right (Nat.Coprime.pow_right a (h q List.mem_cons_self)) (cop_v fun r hr => h r (List.mem_cons_of_mem _ hr))
theorem pow_dvd {p a b : Nat} (hp : 2 ≤ p) : p ^ a ∣ p ^ b ↔ a ≤ b := Nat.pow_dvd_pow_iff_le_right (by omega)
theorem dvd_iff : ∀ {ps e f : List Nat}, Good ps → e.length = ps.length → f.length = ps.length → (v ps f ∣ v ps e ↔ le f e = true)
  | [], [], [], _, _, _ => by simp [v, le]
  | p :: ps, a :: as, b :: bs, h, h1, h2 => by
    obtain ⟨hp, hc, hg⟩ := h
    have ih := dvd_iff (e := as) (f := bs) hg (by simpa using h1) (by simpa using h2)
    have c1 : Nat.Coprime (p ^ b) (v ps as) := Nat.Coprime.pow_left b (cop_v hc)
    have c2 : Nat.Coprime (v ps bs) (p ^ a) := (Nat.Coprime.pow_left a (cop_v hc)).symm
    unfold v le
    rw [Bool.and_eq_true, decide_eq_true_eq, ← ih, ← pow_dvd hp]
    constructor
    · intro d
      refine ⟨c1.dvd_of_dvd_mul_right (Nat.dvd_trans (Nat.dvd_mul_right _ _) d), c2.dvd_of_dvd_mul_left (Nat.dvd_trans (Nat.dvd_mul_left _ _) d)⟩
    · rintro ⟨d1, d2⟩
      exact Nat.mul_dvd_mul d1 d2
theorem v_add : ∀ {ps e f : List Nat}, e.length = ps.length → f.length = ps.length → v ps e * v ps f = v ps (add e f)
  | [], [], [], _, _ => rfl
  | p :: ps, a :: as, b :: bs, h1, h2 => by
    have ih := v_add (ps := ps) (e := as) (f := bs) (by simpa using h1) (by simpa using h2)
    show p ^ a * v ps as * (p ^ b * v ps bs) = p ^ (a + b) * v ps (add as bs)
    rw [← ih, Nat.pow_add]
    rw [Nat.mul_assoc, Nat.mul_assoc]
    congr 1
    rw [← Nat.mul_assoc, ← Nat.mul_assoc, Nat.mul_comm (v ps as)]
theorem add_len : ∀ {e f : List Nat} {n : Nat}, e.length = n → f.length = n → (add e f).length = n
  | [], [], _, h, _ => h
  | a :: as, b :: bs, n + 1, h1, h2 => by
    unfold add
    rw [List.length_cons, add_len (n := n) (by simpa using h1) (by simpa using h2)]
  | [], _ :: _, _, h1, h2 => by rw [← h1] at h2; simp at h2
  | _ :: _, [], _, h1, h2 => by rw [← h2] at h1; simp at h1
theorem sub_len : ∀ {e f : List Nat} {n : Nat}, e.length = n → f.length = n → (sub e f).length = n
  | [], [], _, h, _ => h
  | a :: as, b :: bs, n + 1, h1, h2 => by
    unfold sub
    rw [List.length_cons, sub_len (n := n) (by simpa using h1) (by simpa using h2)]
  | [], _ :: _, _, h1, h2 => by rw [← h1] at h2; simp at h2
  | _ :: _, [], _, h1, h2 => by rw [← h2] at h1; simp at h1
theorem mn_len : ∀ {e f : List Nat} {n : Nat}, e.length = n → f.length = n → (mn e f).length = n
  | [], [], _, h, _ => h
  | a :: as, b :: bs, n + 1, h1, h2 => by
    unfold mn
    rw [List.length_cons, mn_len (n := n) (by simpa using h1) (by simpa using h2)]
  | [], _ :: _, _, h1, h2 => by rw [← h1] at h2; simp at h2
  | _ :: _, [], _, h1, h2 => by rw [← h2] at h1; simp at h1
theorem add_sub : ∀ {e f : List Nat}, e.length = f.length → le f e = true → add f (sub e f) = e
  | [], [], _, _ => rfl
  | a :: as, b :: bs, h, q => by
    unfold le at q
    rw [Bool.and_eq_true, decide_eq_true_eq] at q
    unfold sub add
    rw [add_sub (by simpa using h) q.2]
    congr 1
    omega
theorem v_sub {ps e f : List Nat} (g : Good ps) (h1 : e.length = ps.length) (h2 : f.length = ps.length) (q : le f e = true) : v ps e / v ps f = v ps (sub e f) := by
  have e1 : v ps f * v ps (sub e f) = v ps e := by
    rw [v_add h2 (sub_len h1 h2), add_sub (by rw [h1, h2]) q]
  rw [← e1]
  exact Nat.mul_div_cancel_left _ (v_pos g)
theorem gcd_pow_mul {p x y a b : Nat} (c1 : Nat.Coprime p x) (c2 : Nat.Coprime p y) : Nat.gcd (p ^ a * x) (p ^ b * y) = p ^ min a b * Nat.gcd x y := by
  rcases Nat.le_total a b with h | h
  · rw [Nat.min_eq_left h, show b = a + (b - a) by omega, Nat.pow_add, Nat.mul_assoc, Nat.gcd_mul_left]
    congr 1
    exact Nat.Coprime.gcd_mul_left_cancel_right y (Nat.Coprime.pow_left _ c1)
  · rw [Nat.min_eq_right h, show a = b + (a - b) by omega, Nat.pow_add, Nat.mul_assoc, Nat.gcd_mul_left]
    congr 1
    exact Nat.Coprime.gcd_mul_left_cancel x (Nat.Coprime.pow_left _ c2)
theorem v_gcd : ∀ {ps e f : List Nat}, Good ps → e.length = ps.length → f.length = ps.length → Nat.gcd (v ps e) (v ps f) = v ps (mn e f)
  | [], [], [], _, _, _ => rfl
  | p :: ps, a :: as, b :: bs, h, h1, h2 => by
    unfold v mn
    rw [gcd_pow_mul (cop_v h.2.1) (cop_v h.2.1), v_gcd h.2.2 (by simpa using h1) (by simpa using h2)]
theorem v_le {m : Nat} (hm : 1 ≤ m) : ∀ {ps e : List Nat}, (∀ p ∈ ps, p ≤ m) → v ps e ≤ m ^ e.sum
  | [], e, _ => by unfold v; exact Nat.one_le_pow _ _ hm
  | _ :: _, [], _ => by unfold v; exact Nat.one_le_pow _ _ hm
  | p :: ps, a :: as, h => by
    unfold v
    rw [List.sum_cons, Nat.pow_add]
    exact Nat.mul_le_mul (Nat.pow_le_pow_left (h p List.mem_cons_self) a) (v_le hm fun q hq => h q (List.mem_cons_of_mem _ hq))
theorem le_antisymm : ∀ {e f : List Nat}, e.length = f.length → le e f = true → le f e = true → e = f
  | [], [], _, _, _ => rfl
  | a :: as, b :: bs, h, q1, q2 => by
    unfold le at q1 q2
    rw [Bool.and_eq_true, decide_eq_true_eq] at q1 q2
    rw [le_antisymm (by simpa using h) q1.2 q2.2, Nat.le_antisymm q1.1 q2.1]
theorem v_inj {ps e f : List Nat} (g : Good ps) (h1 : e.length = ps.length) (h2 : f.length = ps.length) : v ps e = v ps f ↔ e = f := by
  refine ⟨fun h => le_antisymm (by rw [h1, h2]) ?_ ?_, fun h => by rw [h]⟩
  · rw [← dvd_iff g h2 h1, h]; exact Nat.dvd_refl _
  · rw [← dvd_iff g h1 h2, h]; exact Nat.dvd_refl _
theorem le_refl : ∀ (e : List Nat), le e e = true
  | [] => rfl
  | a :: as => by unfold le; rw [le_refl as]; simp
end Vx
set_option Elab.async false
set_option linter.all false
set_option maxRecDepth 100000
set_option maxHeartbeats 4000000
/-! k61, the plain law: what each def gives. -/
namespace Ir
open PySem L2 Dn
theorem rdV_p {ρ : Rho} {d : D} : rdV ρ (.p d) = d := rfl
theorem rdV_own {ρ : Rho} {i : Nat} {r : Bool} {o : OV} (h : ρ[i]? = some (.own r o)) : rdV ρ (.al i) = ovD o := by
  show (match ρ[i]? with
    | some (.own _ o) => ovD o
    | _ => .none) = _
  rw [h]
theorem b_lenl {xs : List D} : bltF .len [.list xs] = some (.int xs.length) := rfl
theorem b_lent {xs : List D} : bltF .len [.tuple xs] = some (.int xs.length) := rfl
theorem b_all {xs : List D} : bltF .all [.list xs] = (boolsD xs).map fun bs => .bool (bs.all id) := rfl
theorem b_sum {xs : List D} : bltF .sum [.list xs] = (intsD xs).map fun bs => .int bs.sum := rfl
theorem b_tup {xs : List D} : bltF .tuple [.list xs] = some (.tuple xs) := rfl
theorem b_tupt {xs : List D} : bltF .tuple [.tuple xs] = some (.tuple xs) := rfl
theorem b_lst {xs : List D} : bltF .list [.list xs] = some (.list xs) := rfl
theorem b_max {i j : Int} : bltF .max2 [.int i, .int j] = some (.int (if j > i then j else i)) := rfl
theorem b_min {i j : Int} : bltF .min2 [.int i, .int j] = some (.int (if j < i then j else i)) := rfl
theorem b_gcd {a b : Int} : bltF .gcd [.int a, .int b] = some (.int ((Nat.gcd a.natAbs b.natAbs : Nat) : Int)) := rfl
theorem cmpL_map {f : D → Rho → Option (Option D × Rho)} {ρ : Rho} {r : D → Option D} : ∀ {xs : List D}, (∀ x ∈ xs, f x ρ = some (r x, ρ)) → cmpL f xs ρ = some (xs.filterMap r, ρ)
  | [], _ => rfl
  | x :: xs, h => by
    have h1 := h x List.mem_cons_self
    have h2 := cmpL_map (xs := xs) fun y hy => h y (List.mem_cons_of_mem _ hy)
    unfold cmpL
    rw [h1]
    dsimp only
    rw [h2]
    cases e : r x <;> simp [List.filterMap_cons, e]
theorem is_number {n : Nat} {a : Int} : D0 (n + 1) 0 [.d (.int a)] = some (.bool true, [.d (.int a)]) := rfl
theorem is_within {n : Nat} {a b c : Int} : D0 (n + 2) 1 [.d (.int a), .d (.int b), .d (.int c)] = some (.bool (decide (b ≤ a) && decide (a ≤ c)), [.d (.int a), .d (.int b), .d (.int c)]) := by
  rw [c1]
  by_cases h1 : b ≤ a <;> by_cases h2 : a ≤ c <;> simp [b1, evSs, evS, evE, evEs, argS, als, wrB, pvD, is_number, rdV, cmpF, h1, h2, outD]
theorem is_long {n : Nat} {xs : List D} {k : Int} : D0 (n + 1) 2 [.d (.tuple xs), .d (.int k)] = some (.bool (decide ((xs.length : Int) = k)), [.d (.tuple xs), .d (.int k)]) := by
  rw [c2]
  simp [b2, evSs, evS, evE, evEs, rdV, cmpF, isiF, bltF, eqF, outD]
theorem sure_within {n : Nat} {a b c : Int} (h1 : b ≤ a) (h2 : a ≤ c) : D0 (n + 3) 4 [.d (.int a), .d (.int b), .d (.int c)] = some (.int a, [.d (.int a), .d (.int b), .d (.int c)]) := by
  rw [c4]
  simp [b4, evSs, evS, evE, evT, evEs, argS, als, wrB, pvD, is_within, rdV, cmpF, h1, h2, outD]
theorem great_pos : (1 : Int) ≤ GREAT ∧ (20000 : Int) ≤ GREAT ∧ GREAT ≤ MOSTN := by decide +kernel
theorem sure_steps {n : Nat} {a : Int} (h1 : 0 ≤ a) (h2 : a ≤ 20000) : D0 (n + 4) 5 [.d (.int a)] = some (.int a, [.d (.int a)]) := by
  rw [c5]
  have h3 : a ≤ GREAT := Int.le_trans h2 great_pos.2.1
  have h4 : ¬ 20000 < a := by omega
  simp [b5, evSs, evS, evE, evT, evEs, argS, als, wrB, pvD, sure_within h1 h3, rdV, cmpF, h4, outD, G]
theorem sure_number {n : Nat} {a : Int} (h1 : 1 ≤ a) (h2 : a ≤ MOSTN) : D0 (n + 4) 6 [.d (.int a)] = some (.int a, [.d (.int a)]) := by
  rw [c6]
  simp [b6, evSs, evS, evE, evT, evEs, argS, als, wrB, pvD, rdV, cmpF, outD, G, sure_within h1 h2]
theorem common {n : Nat} {a b : Int} : D0 (n + 1) 7 [.d (.int a), .d (.int b)] = some (.int (Nat.gcd a.natAbs b.natAbs : Nat), [.d (.int a), .d (.int b)]) := by
  rw [c7]
  simp [b7, evSs, evS, evE, evEs, rdV, bltF, outD]
theorem tupled_int {n : Nat} {a : Int} : D0 (n + 1) 3 [.d (.int a)] = some (.int a, [.d (.int a)]) := by
  rw [c3]
  simp [b3, evSs, evS, evE, evT, evEs, rdV, isiF, outD]
theorem tupled_str {n : Nat} {a : Str} : D0 (n + 1) 3 [.d (.str a)] = some (.str a, [.d (.str a)]) := by
  rw [c3]
  simp [b3, evSs, evS, evE, evT, evEs, rdV, isiF, outD]
theorem tupled_tup {n : Nat} {xs : List D} (hc : xs.length ≤ cap) (h : ∀ x ∈ xs, D0 n 3 [.d x] = some (x, [.d x])) : D0 (n + 1) 3 [.d (.tuple xs)] = some (.tuple xs, [.d (.tuple xs)]) := by
  rw [c3]
  simp [b3, evSs, evS, evE, evT, evI, evEs, rdV, isiF, outD, seqD, Tg.sl, isOwn, unS, asg]
  rw [cmpL_map (r := fun x => some x) fun x hx => by simp [asgL, argS, als, wrB, h x hx, unS]]
  simp [hc, restS, b_tup, rdV]
/-! ### numbers and mills -/
structure Pr (ps : List Nat) : Prop where
  good : Vx.Good ps
  len : ps.length = 5
  most : ∀ p ∈ ps, p ≤ 11
abbrev Vec := List Nat
abbrev Fr2 := Vec × Vec
def nm (ps : List Nat) (e : Vec) : D := .int (Vx.v ps e : Nat)
def frD (ps : List Nat) (f : Fr2) : D := .tuple [nm ps f.1, nm ps f.2]
def mD (ps : List Nat) (m : List Fr2) : D := .tuple (m.map (frD ps))
structure OkF (f : Fr2) : Prop where
  l1 : f.1.length = 5
  l2 : f.2.length = 5
  s1 : f.1.sum ≤ 50
  s2 : f.2.sum ≤ 50
  co : Vx.mn f.1 f.2 = [0, 0, 0, 0, 0]
def OkM (m : List Fr2) : Prop := m.length ≤ 2000 ∧ ∀ f ∈ m, OkF f
section
variable {ps : List Nat} (P : Pr ps)
include P
theorem v_pos {e : Vec} : (1 : Int) ≤ (Vx.v ps e : Nat) := by
  have := Vx.v_pos (e := e) P.good
  omega
theorem v_great {e : Vec} (h : e.sum ≤ 50) : ((Vx.v ps e : Nat) : Int) ≤ GREAT := by
  have h1 := Vx.v_le (by decide : 1 ≤ 11) (e := e) P.most
  have h2 : 11 ^ e.sum ≤ 11 ^ 50 := Nat.pow_le_pow_right (by decide) h
  have h3 : ((11 ^ 50 : Nat) : Int) ≤ GREAT := by decide +kernel
  omega
theorem v_most {e : Vec} (h : e.sum ≤ 500) : ((Vx.v ps e : Nat) : Int) ≤ MOSTN := by
  have h1 := Vx.v_le (by decide : 1 ≤ 11) (e := e) P.most
  have h2 : 11 ^ e.sum ≤ 11 ^ 500 := Nat.pow_le_pow_right (by decide) h
  have h3 : ((11 ^ 500 : Nat) : Int) ≤ MOSTN := by decide +kernel
  exact Int.le_trans (Int.ofNat_le.mpr (Nat.le_trans h1 h2)) h3
theorem v_mod {e f : Vec} (h1 : e.length = 5) (h2 : f.length = 5) : (((Vx.v ps e : Nat) : Int) % ((Vx.v ps f : Nat) : Int) = 0) ↔ Vx.le f e = true := by
  rw [← Vx.dvd_iff P.good (h1.trans P.len.symm) (h2.trans P.len.symm)]
  constructor
  · intro h
    exact Int.ofNat_dvd.mp (Int.dvd_of_emod_eq_zero h)
  · intro h
    exact Int.emod_eq_zero_of_dvd (Int.ofNat_dvd.mpr h)
theorem v_div {e f : Vec} (h1 : e.length = 5) (h2 : f.length = 5) (q : Vx.le f e = true) : ((Vx.v ps e : Nat) : Int) / ((Vx.v ps f : Nat) : Int) = (Vx.v ps (Vx.sub e f) : Nat) := by
  rw [← Vx.v_sub P.good (h1.trans P.len.symm) (h2.trans P.len.symm) q]
  exact (Int.natCast_ediv _ _).symm
theorem v_mul {e f : Vec} (h1 : e.length = 5) (h2 : f.length = 5) : ((Vx.v ps e : Nat) : Int) * ((Vx.v ps f : Nat) : Int) = (Vx.v ps (Vx.add e f) : Nat) := by
  rw [← Vx.v_add (h1.trans P.len.symm) (h2.trans P.len.symm)]
  exact (Int.natCast_mul _ _).symm
theorem is_fraction {n : Nat} {f : Fr2} (h : OkF f) : D0 (n + 3) 12 [.d (frD ps f)] = some (.bool true, [.d (frD ps f)]) := by
  have a1 := v_great P h.s1
  have a2 := v_great P h.s2
  have b1 := v_pos P (e := f.1)
  have b2 := v_pos P (e := f.2)
  have g : Nat.gcd (Vx.v ps f.1) (Vx.v ps f.2) = 1 := by
    rw [Vx.v_gcd P.good (h.l1.trans P.len.symm) (h.l2.trans P.len.symm), h.co]
    have hl := P.len
    match ps, hl with
    | [a, b, c, d, e], _ => simp [Vx.v]
  rw [c12]
  simp [b12, evSs, evS, evE, evT, evI, evEs, argS, als, wrB, pvD, rdV, cmpF, outD, G, frD, nm, is_long, cmpL, asg, asgL, seqD, Tg.sl, isOwn, unS, restS, is_within, a1, a2, b1, b2, b_all, rdV_p, boolsD, cap, common, ixF, atI, ixN, eqF, g]
end
/-! ### where a mill takes a number -/
def plA : List Fr2 → Vec → Nat → Int
  | [], _, _ => -1
  | f :: r, e, k => if Vx.le f.2 e = true then (k : Int) else plA r e (k + 1)
def pl (m : List Fr2) (e : Vec) : Int := plA m e 0
def No (y : SV) : Prop := ∀ r o, y ≠ .own r o
end Ir
set_option Elab.async false
set_option linter.all false
set_option maxRecDepth 100000
set_option maxHeartbeats 4000000
namespace Ir
open PySem L2 Dn
section
variable {ps : List Nat} (P : Pr ps)
theorem boolsD_true : ∀ {xs : List D}, (∀ x ∈ xs, x = .bool true) → boolsD xs = some (xs.map fun _ => true)
  | [], _ => rfl
  | x :: xs, h => by
    rw [h x List.mem_cons_self]
    unfold boolsD
    rw [boolsD_true fun y hy => h y (List.mem_cons_of_mem _ hy)]
    rfl
theorem filterMap_some {xs : List D} {g : D → D} : xs.filterMap (fun x => some (g x)) = xs.map g := by
  induction xs with
  | nil => rfl
  | cons x xs ih => simp [List.filterMap_cons, ih]
theorem all_map_true {α : Type} (xs : List α) : (xs.map fun _ => true).all id = true := by
  induction xs with
  | nil => rfl
  | cons x xs ih => simp
include P
theorem is_mill {n : Nat} {m : List Fr2} (h : OkM m) : D0 (n + 4) 13 [.d (mD ps m)] = some (.bool true, [.d (mD ps m)]) := by
  have hl : ((m.length : Nat) : Int) ≤ 2000 := by have := h.1; omega
  have hl2 : m.length ≤ cap := by have := h.1; unfold cap; omega
  rw [c13]
  simp [b13, evSs, evS, evE, evT, evI, evEs, rdV_p, cmpF, outD, G, mD, seqD, Tg.sl, isOwn, unS, restS, b_lent, isiF, hl]
  rw [cmpL_map (r := fun x => some (.bool true)) fun x hx => by
    obtain ⟨f, hf, rfl⟩ := List.mem_map.mp hx
    simp [asg, asgL, argS, als, wrB, unS, is_fraction P (h.2 f hf)]]
  rw [filterMap_some (g := fun _ => .bool true)]
  simp [hl2, b_all, rdV_p, boolsD_true (xs := m.map ((fun _ => PyData.bool true) ∘ frD ps)) (fun x hx => by
    obtain ⟨f, hf, rfl⟩ := List.mem_map.mp hx
    rfl)]
theorem tupled_mill {n : Nat} {m : List Fr2} (h : OkM m) : D0 (n + 3) 3 [.d (mD ps m)] = some (mD ps m, [.d (mD ps m)]) := by
  have hl2 : m.length ≤ cap := by have := h.1; unfold cap; omega
  refine tupled_tup (by rw [List.length_map]; exact hl2) fun x hx => ?_
  obtain ⟨f, hf, rfl⟩ := List.mem_map.mp hx
  refine tupled_tup (by show 2 ≤ cap; decide) fun y hy => ?_
  have : y = nm ps f.1 ∨ y = nm ps f.2 := by simpa using hy
  rcases this with rfl | rfl <;> exact tupled_int
theorem sure_mill {n : Nat} {m : List Fr2} (h : OkM m) : D0 (n + 5) 14 [.d (mD ps m)] = some (mD ps m, [.d (mD ps m)]) := by
  rw [c14]
  simp [b14, evSs, evS, evE, evT, evEs, argS, als, wrB, pvD, tupled_mill P h, is_mill P h, isRef, outD]
theorem enmD_cons {x : D} {xs : List D} {k : Nat} : enmD (x :: xs) k = .tuple [.int k, x] :: enmD xs (k + 1) := rfl
theorem place_loop {n : Nat} {e : Vec} (he : e.length = 5) {x0 : SV} : ∀ {m : List Fr2} {k : Nat} {s2 s3 : SV}, (∀ f ∈ m, f.2.length = 5) → No s2 → No s3 →
    (plA m e k = -1 ∧ ∃ a b, No a ∧ No b ∧ forL (asg (.tp [2, 3])) (fun ρ => evSs 3000 G (D0 n) (O0 n) (.cons (.ife (.cmp .Eq (.bin .Mod (.pl 1) (.ix (.pl 3) (.int 1))) (.int 0)) (.cons (.ret (.pl 2)) .nil) .nil) .nil) ρ) (enmD (m.map (frD ps)) k) [x0, .d (nm ps e), s2, s3] = some (.nx [x0, .d (nm ps e), a, b])) ∨
    (0 ≤ plA m e k ∧ ∃ a b, forL (asg (.tp [2, 3])) (fun ρ => evSs 3000 G (D0 n) (O0 n) (.cons (.ife (.cmp .Eq (.bin .Mod (.pl 1) (.ix (.pl 3) (.int 1))) (.int 0)) (.cons (.ret (.pl 2)) .nil) .nil) .nil) ρ) (enmD (m.map (frD ps)) k) [x0, .d (nm ps e), s2, s3] = some (.rt (.int (plA m e k)) [x0, .d (nm ps e), a, b]))
  | [], k, s2, s3, _, h2, h3 => .inl ⟨rfl, s2, s3, h2, h3, rfl⟩
  | f :: m, k, s2, s3, hm, h2, h3 => by
    have hf := hm f List.mem_cons_self
    have md := v_mod P he hf
    have b2 := v_pos P (e := f.2)
    have b2' : 0 < Vx.v ps f.2 := by omega
    have as : asg (.tp [2, 3]) (.tuple [.int k, frD ps f]) [x0, .d (nm ps e), s2, s3] = some [x0, .d (nm ps e), .d (.int k), .d (frD ps f)] := by
      cases s2 <;> cases s3 <;> first | exact absurd rfl (h2 _ _) | exact absurd rfl (h3 _ _) | rfl
    by_cases q : Vx.le f.2 e = true
    · right
      have e1 : plA (f :: m) e k = k := if_pos q
      rw [e1]
      refine ⟨by omega, .d (.int k), .d (frD ps f), ?_⟩
      rw [List.map_cons, enmD_cons P]
      unfold forL
      rw [as]
      simp [evSs, evS, evE, evT, rdV, cmpF, binF, ixF, atI, ixN, eqF, frD, nm, b2', md.mpr q]
    · have e1 : plA (f :: m) e k = plA m e (k + 1) := if_neg q
      rw [e1, List.map_cons, enmD_cons P]
      have step : forL (asg (.tp [2, 3])) (fun ρ => evSs 3000 G (D0 n) (O0 n) (.cons (.ife (.cmp .Eq (.bin .Mod (.pl 1) (.ix (.pl 3) (.int 1))) (.int 0)) (.cons (.ret (.pl 2)) .nil) .nil) .nil) ρ) (.tuple [.int k, frD ps f] :: enmD (m.map (frD ps)) (k + 1)) [x0, .d (nm ps e), s2, s3] =
          forL (asg (.tp [2, 3])) (fun ρ => evSs 3000 G (D0 n) (O0 n) (.cons (.ife (.cmp .Eq (.bin .Mod (.pl 1) (.ix (.pl 3) (.int 1))) (.int 0)) (.cons (.ret (.pl 2)) .nil) .nil) .nil) ρ) (enmD (m.map (frD ps)) (k + 1)) [x0, .d (nm ps e), .d (.int k), .d (frD ps f)] := by
        have md' : ¬ ((Vx.v ps e : Nat) : Int) % ((Vx.v ps f.2 : Nat) : Int) = 0 := fun z => q (md.mp z)
        conv => lhs; unfold forL
        rw [as]
        simp [evSs, evS, evE, evT, rdV, cmpF, binF, ixF, atI, ixN, eqF, frD, nm, b2', md']
      rw [step]
      exact place_loop he (fun g hg => hm g (List.mem_cons_of_mem _ hg)) (fun _ _ z => by cases z) (fun _ _ z => by cases z)
theorem place_in {n : Nat} {m : List Fr2} {e : Vec} (h : ∀ f ∈ m, f.2.length = 5) (he : e.length = 5) : D0 (n + 1) 15 [.d (mD ps m), .d (nm ps e)] = some (.int (pl m e), [.d (mD ps m), .d (nm ps e)]) := by
  rw [c15]
  unfold b15
  have hq := place_loop P (n := n) he (x0 := .d (mD ps m)) (m := m) (k := 0) (s2 := .un) (s3 := .un) h (fun _ _ z => by cases z) (fun _ _ z => by cases z)
  rcases hq with ⟨e1, a, b, _, _, q⟩ | ⟨_, a, b, q⟩
  · have e2 : pl m e = -1 := e1
    rw [e2]
    rw [evSs, evS, evI]
    simp only [evE, List.getElem?_cons_zero, mD, seqD]
    rw [show (fun ρ => evSs 3000 G (D0 n) (O0 n) (.cons (.ife (.cmp .Eq (.bin .Mod (.pl 1) (.ix (.pl 3) (.int 1))) (.int 0)) (.cons (.ret (.pl 2)) .nil) .nil) .nil) ρ) = _ from rfl] at q
    simp only [mD] at q
    rw [q]
    simp [evSs, evS, evE, outD]
  · rw [evSs, evS, evI]
    simp only [evE, List.getElem?_cons_zero, mD, seqD]
    simp only [mD] at q
    rw [q]
    simp [outD]
    rfl
end
end Ir
set_option Elab.async false
set_option linter.all false
set_option maxRecDepth 100000
set_option maxHeartbeats 4000000
namespace Ir
open PySem L2 Dn
theorem plA_spec {e : Vec} : ∀ {m : List Fr2} {j : Nat}, plA m e j = -1 ∨ ∃ k f, plA m e j = ((j + k : Nat) : Int) ∧ m[k]? = some f ∧ Vx.le f.2 e = true
  | [], _ => .inl rfl
  | f :: m, j => by
    by_cases q : Vx.le f.2 e = true
    · exact .inr ⟨0, f, if_pos q, rfl, q⟩
    · have e1 : plA (f :: m) e j = plA m e (j + 1) := if_neg q
      rw [e1]
      rcases plA_spec (m := m) (j := j + 1) with h | ⟨k, g, h1, h2, h3⟩
      · exact .inl h
      · exact .inr ⟨k + 1, g, by rw [h1]; congr 1; omega, h2, h3⟩
theorem pl_spec {m : List Fr2} {e : Vec} : pl m e = -1 ∨ ∃ k f, pl m e = (k : Nat) ∧ m[k]? = some f ∧ Vx.le f.2 e = true := by
  rcases plA_spec (m := m) (e := e) (j := 0) with h | ⟨k, g, h1, h2, h3⟩
  · exact .inl h
  · exact .inr ⟨k, g, by unfold pl; rw [h1, Nat.zero_add], h2, h3⟩
def stp (e : Vec) (f : Fr2) : Vec := Vx.add (Vx.sub e f.2) f.1
def nxt (m : List Fr2) (e : Vec) : Option Vec := if pl m e < 0 then none else (m[(pl m e).toNat]?).map (stp e)
def wk (m : List Fr2) : Nat → Vec → List Vec
  | 0, _ => []
  | k + 1, e => match nxt m e with
    | none => []
    | some e' => e' :: wk m k e'
theorem atI_nat {xs : List D} {k : Nat} : atI xs (k : Int) = xs[k]? := by
  unfold atI ixN
  by_cases h : k < xs.length
  · simp [h]
  · simp [h]
theorem atI_last {xs : List D} {x : D} : atI (xs ++ [x]) (-1) = some x := by
  have hl : (xs ++ [x]).length = xs.length + 1 := by simp
  have h3 : ixN (xs.length + 1) (-1) = some xs.length := by
    unfold ixN
    rw [if_neg (by omega), if_pos (by omega)]
    congr 1
    omega
  unfold atI
  rw [hl, h3]
  simp
section
variable {ps : List Nat} (P : Pr ps)
include P
theorem v_log {e : Vec} (h : e.sum ≤ 500) : (Vx.v ps e).log2 < 2000 := by
  have h1 := Vx.v_le (by decide : 1 ≤ 11) (e := e) P.most
  have h2 : 11 ^ e.sum ≤ 11 ^ 500 := Nat.pow_le_pow_right (by decide) h
  have h3 : 11 ^ 500 < 2 ^ 2000 := by decide +kernel
  have h4 := Vx.v_pos (e := e) P.good
  exact (Nat.log2_lt (by omega)).mpr (Nat.lt_of_le_of_lt (Nat.le_trans h1 h2) h3)
theorem o_div {e f : Vec} (he : e.length = 5) (hf : f.length = 5) (h : Vx.le f e = true) (h2 : f.sum ≤ 500) : binF .FloorDiv (nm ps e) (nm ps f) = some (nm ps (Vx.sub e f)) := by
  have b2 := v_pos P (e := f)
  have lg := v_log P h2
  show (if (decide (0 < ((Vx.v ps f : Nat) : Int)) && bigB ((Vx.v ps f : Nat) : Int)) = true then some (PyData.int (((Vx.v ps e : Nat) : Int) / ((Vx.v ps f : Nat) : Int))) else none) = _
  rw [if_pos, v_div P he hf h]
  · rfl
  · rw [Bool.and_eq_true, decide_eq_true_eq]
    refine ⟨by omega, decide_eq_true ?_⟩
    rw [Int.natAbs_natCast]
    omega
theorem o_mul {e f : Vec} (he : e.length = 5) (hf : f.length = 5) (h1 : e.sum ≤ 500) (h2 : f.sum ≤ 500) : binF .Mult (nm ps e) (nm ps f) = some (nm ps (Vx.add e f)) := by
  have l1 := v_log P h1
  have l2 := v_log P h2
  show (if ((Vx.v ps e : Nat) : Int).natAbs.log2 + ((Vx.v ps f : Nat) : Int).natAbs.log2 < 134000000 then some (PyData.int (((Vx.v ps e : Nat) : Int) * ((Vx.v ps f : Nat) : Int))) else none) = _
  rw [if_pos, v_mul P he hf]
  · rfl
  · rw [Int.natAbs_natCast, Int.natAbs_natCast]
    omega
def rem (ps : List Nat) (e f : Vec) : D := .int (((Vx.v ps e : Nat) : Int) % ((Vx.v ps f : Nat) : Int))
theorem o_mod {e f : Vec} : binF .Mod (nm ps e) (nm ps f) = some (rem ps e f) := by
  have b2 := v_pos P (e := f)
  show (if 0 < ((Vx.v ps f : Nat) : Int) then some (rem ps e f) else none) = _
  rw [if_pos (by omega)]
theorem c_rem {e f : Vec} (he : e.length = 5) (hf : f.length = 5) : cmpF .Eq (rem ps e f) (.int 0) = some (Vx.le f e) := by
  have md := v_mod P he hf
  show some (decide (((Vx.v ps e : Nat) : Int) % ((Vx.v ps f : Nat) : Int) = 0)) = _
  cases q : Vx.le f e with
  | true => rw [decide_eq_true (md.mpr q)]
  | false => rw [decide_eq_false fun z => by rw [md.mp z] at q; cases q]
theorem c_remn {e f : Vec} (he : e.length = 5) (hf : f.length = 5) : cmpF .NotEq (rem ps e f) (.int 0) = some (!Vx.le f e) := by
  have h := c_rem P he hf
  show (eqF (rem ps e f) (.int 0)).map (!·) = _
  have h' : eqF (rem ps e f) (.int 0) = some (Vx.le f e) := h
  rw [h']
  rfl
theorem c_gt {e : Vec} (h : e.sum ≤ 500) : cmpF .Gt (nm ps e) (.int MOSTN) = some false := by
  have := v_most P h
  show some (decide (MOSTN < ((Vx.v ps e : Nat) : Int))) = _
  rw [decide_eq_false (by omega)]
theorem c_le {e : Vec} (h : e.sum ≤ 500) : cmpF .LtE (nm ps e) (.int MOSTN) = some true := by
  have := v_most P h
  show some (decide (((Vx.v ps e : Nat) : Int) ≤ MOSTN)) = _
  rw [decide_eq_true this]
theorem c_eq {e f : Vec} (he : e.length = 5) (hf : f.length = 5) : cmpF .Eq (nm ps e) (nm ps f) = some (decide (e = f)) := by
  show some (decide (((Vx.v ps e : Nat) : Int) = ((Vx.v ps f : Nat) : Int))) = _
  congr 1
  apply decide_eq_decide.mpr
  rw [← Vx.v_inj P.good (he.trans P.len.symm) (hf.trans P.len.symm)]
  omega
theorem sub_sum : ∀ {e f : Vec}, e.length = f.length → (Vx.sub e f).sum ≤ e.sum
  | [], [], _ => Nat.le_refl _
  | a :: as, b :: bs, h => by
    have := sub_sum (e := as) (f := bs) (by simpa using h)
    show ((a - b) :: Vx.sub as bs).sum ≤ (a :: as).sum
    simp only [List.sum_cons]
    omega
theorem ix1 {f : Fr2} : ixF (frD ps f) (.int 1) = some (nm ps f.2) := rfl
theorem ix0 {f : Fr2} : ixF (frD ps f) (.int 0) = some (nm ps f.1) := rfl
theorem ixm {m : List Fr2} {k : Nat} {f : Fr2} (hk : m[k]? = some f) : ixF (mD ps m) (.int k) = some (frD ps f) := by
  show atI (m.map (frD ps)) (k : Int) = _
  rw [atI_nat, List.getElem?_map, hk]
  rfl
theorem taken {n : Nat} {m : List Fr2} {e : Vec} {k : Nat} {f : Fr2} (he : e.length = 5) (hk : m[k]? = some f) (hf : OkF f) (hq : Vx.le f.2 e = true) (hs : e.sum ≤ 400) (hs2 : (stp e f).sum ≤ 500) :
    D0 (n + 1) 16 [.d (mD ps m), .d (.int k), .d (nm ps e)] = some (nm ps (stp e f), [.d (mD ps m), .d (.int k), .d (nm ps e)]) := by
  have s1 := hf.s1
  have s2 := hf.s2
  have s3 := sub_sum P (e := e) (f := f.2) (he.trans hf.l2.symm)
  rw [c16]
  simp [b16, evSs, evS, evE, evT, rdV_p, ixm P hk, ix0 P, ix1 P, o_div P he hf.l2 hq (by omega), o_mul P (Vx.sub_len he hf.l2) hf.l1 (by omega) (by omega), isRef, G, outD]
  simp [c_gt P (e := stp e f) hs2, show Vx.add (Vx.sub e f.2) f.1 = stp e f from rfl]
end
end Ir
set_option Elab.async false
set_option linter.all false
set_option maxRecDepth 100000
set_option maxHeartbeats 4000000
namespace Ir
open PySem L2 Dn
theorem stp_len {e : Vec} {f : Fr2} (he : e.length = 5) (h1 : f.1.length = 5) (h2 : f.2.length = 5) : (stp e f).length = 5 := Vx.add_len (Vx.sub_len he h2) h1
theorem add_sum : ∀ {e f : Vec}, (Vx.add e f).sum ≤ e.sum + f.sum
  | [], _ => by simp [Vx.add]
  | _ :: _, [] => by simp [Vx.add]
  | a :: as, b :: bs => by
    have := add_sum (e := as) (f := bs)
    show ((a + b) :: Vx.add as bs).sum ≤ (a :: as).sum + (b :: bs).sum
    simp only [List.sum_cons]
    omega
/-- one step makes a number's exponents at most so much greater -/
structure OkG (g : Nat) (f : Fr2) : Prop where
  ok : OkF f
  s1 : f.1.sum ≤ g
def OkMg (g : Nat) (m : List Fr2) : Prop := m.length ≤ 2000 ∧ ∀ f ∈ m, OkG g f
theorem OkMg.m {g : Nat} {m : List Fr2} (h : OkMg g m) : OkM m := ⟨h.1, fun f hf => (h.2 f hf).ok⟩
theorem nxt_spec {m : List Fr2} {e : Vec} : (nxt m e = none ∧ pl m e = -1) ∨ ∃ k f, pl m e = (k : Nat) ∧ m[k]? = some f ∧ Vx.le f.2 e = true ∧ nxt m e = some (stp e f) := by
  rcases pl_spec (m := m) (e := e) with h | ⟨k, f, h1, h2, h3⟩
  · exact .inl ⟨by unfold nxt; rw [h]; rfl, h⟩
  · refine .inr ⟨k, f, h1, h2, h3, ?_⟩
    unfold nxt
    rw [h1, if_neg (by omega), Int.toNat_natCast, h2]
    rfl
section
variable {ps : List Nat} (P : Pr ps)
include P
theorem stp_sum {e : Vec} {f : Fr2} {g : Nat} (he : e.length = 5) (h : OkG g f) : (stp e f).sum ≤ e.sum + g := by
  have h1 := add_sum (e := Vx.sub e f.2) (f := f.1)
  have h2 := sub_sum P (e := e) (f := f.2) (he.trans h.ok.l2.symm)
  have h3 := h.s1
  unfold stp
  omega
def wB : Ss := .cons (.set 5 (.call 15 (.cons (.pl 0) (.cons (.ix (.pl 3) (.neg (.int 1))) .nil))))
  (.cons (.ife (.cmp .Lt (.pl 5) (.int 0)) (.cons .brk
  .nil) .nil)
  (.cons (.app 3 (.call 16 (.cons (.pl 0) (.cons (.pl 5) (.cons (.ix (.pl 3) (.neg (.int 1))) .nil)))))
  .nil))
theorem ix_last {xs : List D} {x : D} : ixF (.list (xs ++ [x])) (.int (-1)) = some x := atI_last
theorem walk_loop {n g : Nat} {m : List Fr2} (hm : OkMg g m) {x1 x2 : SV} : ∀ {items : List D} {acc : List D} {e : Vec} {s4 s5 : SV}, e.length = 5 → e.sum + items.length * g ≤ 400 → acc.length + items.length < 1000 → No s4 → No s5 →
    ∃ a b, forL (asg (.nm 4)) (fun ρ => evSs 3000 G (D0 (n + 1)) (O0 (n + 1)) wB ρ) items [.d (mD ps m), x1, x2, .own false (.lst (acc ++ [nm ps e])), s4, s5] =
      some (.nx [.d (mD ps m), x1, x2, .own false (.lst (acc ++ (nm ps e :: (wk m items.length e).map (nm ps)))), a, b])
  | [], acc, e, s4, s5, _, _, _, _, _ => ⟨s4, s5, rfl⟩
  | i :: items, acc, e, s4, s5, he, hs, hl, h4, h5 => by
    have hpl : D0 (n + 1) 15 [.d (mD ps m), .d (nm ps e)] = _ := place_in P (n := n) (fun f hf => (hm.2 f hf).ok.l2) he
    have a4 : asg (.nm 4) i [.d (mD ps m), x1, x2, .own false (.lst (acc ++ [nm ps e])), s4, s5] = some [.d (mD ps m), x1, x2, .own false (.lst (acc ++ [nm ps e])), .d i, s5] := by
      cases s4 <;> first | exact absurd rfl (h4 _ _) | rfl
    have r5 : isRef [SV.d (mD ps m), x1, x2, .own false (.lst (acc ++ [nm ps e])), .d i, s5] 5 = false := by
      cases s5 <;> first | exact absurd rfl (h5 _ _) | rfl
    rcases nxt_spec (m := m) (e := e) with ⟨h1, h2⟩ | ⟨k, f, h1, h2, h3, h6⟩
    · refine ⟨.d i, .d (.int (-1)), ?_⟩
      have hw : wk m (i :: items).length e = [] := by
        show wk m (items.length + 1) e = []
        unfold wk
        rw [h1]
      rw [hw]
      unfold forL
      rw [a4]
      simp [wB, evSs, evS, evE, evT, evEs, argS, als, wrB, rdV_p, rdV, ovD, ix_last P, hpl, h2, r5, cmpF, ltF]
    · have hf := hm.2 f (List.mem_of_getElem? h2)
      have hs' : e.sum + (items.length + 1) * g ≤ 400 := hs
      have hg : e.sum ≤ 400 := by omega
      have hsum := stp_sum P he hf
      have hmul : (items.length + 1) * g = items.length * g + g := Nat.succ_mul _ _
      have tk := taken P (n := n) he h2 hf.ok h3 hg (by omega)
      have hl' : acc.length + (items.length + 1) < 1000 := hl
      have hw : wk m (i :: items).length e = stp e f :: wk m items.length (stp e f) := by
        show wk m (items.length + 1) e = _
        conv => lhs; unfold wk
        rw [h6]
      have ih := walk_loop (n := n) hm (x1 := x1) (x2 := x2) (items := items) (acc := acc ++ [nm ps e]) (e := stp e f) (s4 := .d i) (s5 := .d (.int k)) (stp_len he hf.ok.l1 hf.ok.l2) (by omega) (by simp; omega) (fun _ _ z => by cases z) (fun _ _ z => by cases z)
      obtain ⟨a, b, ih⟩ := ih
      refine ⟨a, b, ?_⟩
      rw [hw]
      have e1 : forL (asg (.nm 4)) (fun ρ => evSs 3000 G (D0 (n + 1)) (O0 (n + 1)) wB ρ) (i :: items) [.d (mD ps m), x1, x2, .own false (.lst (acc ++ [nm ps e])), s4, s5] =
          forL (asg (.nm 4)) (fun ρ => evSs 3000 G (D0 (n + 1)) (O0 (n + 1)) wB ρ) items [.d (mD ps m), x1, x2, .own false (.lst ((acc ++ [nm ps e]) ++ [nm ps (stp e f)])), .d i, .d (.int k)] := by
        have kn : ¬ (k : Int) < 0 := by omega
        have hc : acc.length + 1 < cap := by unfold cap; omega
        conv => lhs; unfold forL
        rw [a4]
        simp [wB, evSs, evS, evE, evT, evEs, argS, als, wrB, rdV_p, rdV, ovD, ix_last P, hpl, h1, r5, cmpF, ltF, isLst, tk, kn, hc]
      rw [e1, ih]
      simp
end
end Ir
set_option Elab.async false
set_option linter.all false
set_option maxRecDepth 100000
set_option maxHeartbeats 4000000
namespace Ir
open PySem L2 Dn
section
variable {fu : Nat} {G' : List D} {Φ : Nat → List SV → Option (D × List SV)} {Ψ : Nat → List SV → Option (OV × List SV)} {tg : Tg} {it : Dn.It} {b ss : Ss} {s : S} {ρ ρ1 ρ2 : Rho} {items : List D} {d : D}
theorem ss_nx (h : evS fu G' Φ Ψ s ρ = some (.nx ρ1)) : evSs fu G' Φ Ψ (.cons s ss) ρ = evSs fu G' Φ Ψ ss ρ1 := by
  rw [evSs, h]
theorem ss_rt (h : evS fu G' Φ Ψ s ρ = some (.rt d ρ1)) : evSs fu G' Φ Ψ (.cons s ss) ρ = some (.rt d ρ1) := by
  rw [evSs, h]
theorem ss_for (h1 : evI G' Φ it ρ = some (items, ρ1)) (h2 : forL (asg tg) (fun ρ => evSs fu G' Φ Ψ b ρ) items ρ1 = some (.nx ρ2)) : evSs fu G' Φ Ψ (.cons (.for tg it b) ss) ρ = evSs fu G' Φ Ψ ss ρ2 := by
  rw [evSs, evS, h1]
  dsimp only
  rw [h2]
theorem ss_forR (h1 : evI G' Φ it ρ = some (items, ρ1)) (h2 : forL (asg tg) (fun ρ => evSs fu G' Φ Ψ b ρ) items ρ1 = some (.rt d ρ2)) : evSs fu G' Φ Ψ (.cons (.for tg it b) ss) ρ = some (.rt d ρ2) := by
  rw [evSs, evS, h1]
  dsimp only
  rw [h2]
end
theorem no_un : No .un := fun _ _ z => by cases z
theorem no_d {x : D} : No (.d x) := fun _ _ z => by cases z
section
variable {ps : List Nat} (P : Pr ps)
include P
theorem walk_in {n g k : Nat} {m : List Fr2} {e : Vec} (hm : OkMg g m) (he : e.length = 5) (hs : e.sum + k * g ≤ 400) (hk : k < 1000) :
    D0 (n + 2) 17 [.d (mD ps m), .d (nm ps e), .d (.int k)] = some (.list ((e :: wk m k e).map (nm ps)), [.d (mD ps m), .d (nm ps e), .d (.int k)]) := by
  have hr : (rngD 0 k).length = k := by unfold rngD; simp
  obtain ⟨a, b, h⟩ := walk_loop P (n := n) hm (x1 := .d (nm ps e)) (x2 := .d (.int k)) (items := rngD 0 k) (acc := []) (e := e) (s4 := .un) (s5 := .un) he (by rw [hr]; exact hs) (by rw [hr]; simpa using hk) no_un no_un
  rw [hr] at h
  have hb : (-1000000 : Int) ≤ (k : Int) ∧ (k : Int) ≤ 1000000 := by omega
  have hc : 1 ≤ cap := by decide
  rw [c17]
  rw [show b17 = .cons (.setO 3 (.lst (.cons (.pl 1) .nil))) (.cons (.for (.nm 4) (.rng1 (.pl 2)) wB) (.cons (.ret (.pl 3)) .nil)) from rfl]
  rw [ss_nx (ρ1 := [.d (mD ps m), .d (nm ps e), .d (.int k), .own false (.lst ([] ++ [nm ps e])), .un, .un]) (by simp [evS, evF, evE, evEs, pvDs, hc, isRef]),
    ss_for (items := rngD 0 k) (ρ1 := [.d (mD ps m), .d (nm ps e), .d (.int k), .own false (.lst ([] ++ [nm ps e])), .un, .un]) (by simp [evI, evE, hb]) h]
  simp [evSs, evS, evE, outD, ovD]
theorem walk_mill {n g k : Nat} {m : List Fr2} {e : Vec} (hm : OkMg g m) (he : e.length = 5) (hs : e.sum + k * g ≤ 400) (hk : k < 1000) :
    D0 (n + 6) 19 [.d (mD ps m), .d (nm ps e), .d (.int k)] = some (.list ((e :: wk m k e).map (nm ps)), [.d (mD ps m), .d (nm ps e), .d (.int k)]) := by
  have h1 := sure_mill P (n := n) hm.m
  have h2 := sure_number (n := n + 1) (v_pos P (e := e)) (v_most P (e := e) (by omega))
  have h3 := sure_steps (n := n + 1) (a := (k : Int)) (by omega) (by omega)
  have h4 := walk_in P (n := n + 3) hm he hs hk
  rw [c19]
  simp [b19, evSs, evS, evE, evEs, argS, als, wrB, pvD, h1, isRef, show D0 (n + 5) 6 [.d (nm ps e)] = some (nm ps e, [.d (nm ps e)]) from h2, h3, outD]
  simp at h4
  simp [h4, wrB]
theorem place_taken {n : Nat} {m : List Fr2} {e : Vec} (hm : OkM m) (he : e.length = 5) (hs : e.sum ≤ 400) :
    D0 (n + 6) 18 [.d (mD ps m), .d (nm ps e)] = some (.int (pl m e), [.d (mD ps m), .d (nm ps e)]) := by
  have h1 := sure_mill P (n := n) hm
  have h2 := sure_number (n := n + 1) (v_pos P (e := e)) (v_most P (e := e) (by omega))
  have h3 := place_in P (n := n + 4) (m := m) (fun f hf => (hm.2 f hf).l2) he
  rw [c18]
  simp [b18, evSs, evS, evE, evEs, argS, als, wrB, pvD, h1, isRef, show D0 (n + 5) 6 [.d (nm ps e)] = some (nm ps e, [.d (nm ps e)]) from h2, h3, outD]
end
end Ir
set_option Elab.async false
set_option linter.all false
set_option maxRecDepth 100000
set_option maxHeartbeats 4000000
namespace Ir
open PySem L2 Dn
theorem cut_all {xs : List D} {k : Nat} (h : xs.length ≤ k) : cutD xs none (some (k : Int)) = xs := by
  unfold cutD
  rw [HT.sIx_none, HT.sIx_nat, List.drop_zero, Nat.sub_zero, Nat.min_eq_right h, List.take_length]
theorem cmpL_gen {α : Type} {f : D → Rho → Option (Option D × Rho)} {g : α → D} {ρ : Rho} {r : α → Option D} : ∀ {xs : List α}, (∀ x ∈ xs, f (g x) ρ = some (r x, ρ)) → cmpL f (xs.map g) ρ = some (xs.filterMap r, ρ)
  | [], _ => rfl
  | x :: xs, h => by
    have h1 := h x List.mem_cons_self
    have h2 := cmpL_gen (xs := xs) fun y hy => h y (List.mem_cons_of_mem _ hy)
    rw [List.map_cons]
    unfold cmpL
    rw [h1]
    dsimp only
    rw [h2]
    cases e : r x <;> simp [List.filterMap_cons, e]
theorem filterMap_if {α β : Type} {p : α → Bool} {g : α → β} : ∀ {xs : List α}, (xs.filterMap fun x => if p x = true then some (g x) else none) = (xs.filter p).map g
  | [] => rfl
  | x :: xs => by
    rw [List.filterMap_cons, List.filter_cons, filterMap_if]
    by_cases h : p x = true
    · simp [h]
    · simp [h]
theorem wk_len {m : List Fr2} : ∀ {k : Nat} {e : Vec}, (wk m k e).length ≤ k
  | 0, _ => Nat.le_refl _
  | k + 1, e => by
    unfold wk
    split
    · simp
    · simp [wk_len]
theorem wk_vec {m : List Fr2} (h : ∀ f ∈ m, f.1.length = 5 ∧ f.2.length = 5) : ∀ {k : Nat} {e : Vec}, e.length = 5 → ∀ x ∈ wk m k e, x.length = 5
  | 0, _, _, x, hx => by simp [wk] at hx
  | k + 1, e, he, x, hx => by
    unfold wk at hx
    rcases nxt_spec (m := m) (e := e) with ⟨h1, _⟩ | ⟨j, f, _, h2, _, h6⟩
    · rw [h1] at hx
      simp at hx
    · rw [h6] at hx
      have hf := h f (List.mem_of_getElem? h2)
      have hl := stp_len he hf.1 hf.2
      rcases List.mem_cons.mp hx with rfl | hx
      · exact hl
      · exact wk_vec h hl x hx
section
variable {ps : List Nat} (P : Pr ps)
include P
theorem places_taken {n g j : Nat} {m : List Fr2} {e : Vec} (hm : OkMg g m) (he : e.length = 5) (hj : 1 ≤ j) (hs : e.sum + (j - 1) * g ≤ 400) (hk : j < 1000) :
    D0 (n + 6) 20 [.d (mD ps m), .d (nm ps e), .d (.int j)] = some (.tuple (((e :: wk m (j - 1) e).filter fun x => decide (0 ≤ pl m x)).map fun x => .int (pl m x)), [.d (mD ps m), .d (nm ps e), .d (.int j)]) := by
  have h1 := sure_mill P (n := n) hm.m
  have h2 : D0 (n + 5) 6 [.d (nm ps e)] = some (nm ps e, [.d (nm ps e)]) := sure_number (n := n + 1) (v_pos P (e := e)) (v_most P (e := e) (by omega))
  have h3 := sure_steps (n := n + 1) (a := (j : Int)) (by omega) (by omega)
  have h4 := walk_in P (n := n + 3) hm he (k := j - 1) hs (by omega)
  have h5 : (if (j : Int) - 1 > 0 then (j : Int) - 1 else 0) = ((j - 1 : Nat) : Int) := by
    split <;> omega
  have hl : ((e :: wk m (j - 1) e).map (nm ps)).length ≤ j := by
    have := wk_len (m := m) (k := j - 1) (e := e)
    rw [List.length_map, List.length_cons]
    omega
  have hcut := cut_all hl
  have hv : ∀ x ∈ e :: wk m (j - 1) e, x.length = 5 := fun x hx => by
    rcases List.mem_cons.mp hx with rfl | hx
    · exact he
    · exact wk_vec (fun f hf => ⟨(hm.2 f hf).ok.l1, (hm.2 f hf).ok.l2⟩) he x hx
  have hpl : ∀ x ∈ e :: wk m (j - 1) e, D0 (n + 5) 15 [.d (mD ps m), .d (nm ps x)] = some (.int (pl m x), [.d (mD ps m), .d (nm ps x)]) := fun x hx => place_in P (n := n + 4) (fun f hf => (hm.2 f hf).ok.l2) (hv x hx)
  generalize e :: wk m (j - 1) e = W at *
  rw [List.length_map] at hl
  have hlW : W.length ≤ 1000000 := by omega
  have hm1 : (j : Int) - 1 = ((j : Int) - 1) := rfl
  rw [c20]
  rw [show b20 = .cons (.set 3 (.call 14 (.cons (.pl 0) .nil))) (.cons (.set 4 (.call 6 (.cons (.pl 1) .nil))) (.cons (.set 5 (.call 17 (.cons (.pl 3) (.cons (.pl 4) (.cons (.blt .max2 (.cons (.int 0) (.cons (.bin .Sub (.call 5 (.cons (.pl 2) .nil)) (.int 1)) .nil))) .nil))))) (.cons (.ret (.blt .tuple (.cons (.comp (.nm 6) (.sq (.slc (.pl 5) .no (.so (.pl 2)))) (.cmp .GtE (.call 15 (.cons (.pl 3) (.cons (.pl 6) .nil))) (.int 0)) (.call 15 (.cons (.pl 3) (.cons (.pl 6) .nil)))) .nil))) .nil))) from rfl]
  rw [ss_nx (ρ1 := [.d (mD ps m), .d (nm ps e), .d (.int j), .d (mD ps m), .un, .un, .un]) (by simp [evS, evE, evEs, argS, als, wrB, h1, isRef]),
    ss_nx (ρ1 := [.d (mD ps m), .d (nm ps e), .d (.int j), .d (mD ps m), .d (nm ps e), .un, .un]) (by simp [evS, evE, evEs, argS, als, wrB, h2, isRef]),
    ss_nx (ρ1 := [.d (mD ps m), .d (nm ps e), .d (.int j), .d (mD ps m), .d (nm ps e), .d (.list (W.map (nm ps))), .un]) (by
      have hb : binF .Sub (.int (j : Int)) (.int 1) = some (.int ((j : Int) - 1)) := rfl
      have hx : bltF .max2 [.int 0, .int ((j : Int) - 1)] = some (.int ((j - 1 : Nat) : Int)) := by rw [b_max, h5]
      simp only [evS, evE, evEs, argS, als, wrB, List.getElem?_cons_zero, List.getElem?_cons_succ, Option.map, h3, List.nodup_nil, if_true, rdV_p, List.map, hb, hx, h4, isRef, List.set_cons_succ, List.set_cons_zero, Bool.false_eq_true, if_false])]
  simp only [evSs, evS, evE, evEs, evI, evEo, List.getElem?_cons_zero, List.getElem?_cons_succ, rdV_p, slcF, hcut, seqD]
  simp only [Tg.sl, List.any_cons, List.any_nil, isOwn, unS, List.getElem?_cons_zero, List.getElem?_cons_succ, Bool.or_false, Bool.false_eq_true, if_false]
  rw [cmpL_gen (r := fun x => if decide (0 ≤ pl m x) = true then some (.int (pl m x)) else none) fun x hx => by
    have h := hpl x hx
    by_cases q : 0 ≤ pl m x
    · simp [asg, asgL, evT, evE, evEs, argS, als, wrB, h, rdV_p, cmpF, q, unS]
    · simp [asg, asgL, evT, evE, evEs, argS, als, wrB, h, rdV_p, cmpF, q, unS]]
  rw [filterMap_if]
  have hfl : ((W.filter fun x => decide (0 ≤ pl m x)).map fun x => PyData.int (pl m x)).length ≤ cap := by
    rw [List.length_map]
    exact Nat.le_trans (List.length_filter_le _ _) hlW
  simp only [if_pos hfl, rdV_p, List.map, b_tup, outD, restS]
  rfl
end
end Ir
set_option Elab.async false
set_option linter.all false
set_option maxRecDepth 100000
set_option maxHeartbeats 4000000
namespace Ir
open PySem L2 Dn
def lc (e f : Vec) : Vec := Vx.add (Vx.sub e (Vx.mn e f)) f
def zro : Vec := [0, 0, 0, 0, 0]
def NONE : D := .tuple [.int 0, .int 1]
theorem mn_le : ∀ {e f : Vec}, Vx.le (Vx.mn e f) e = true
  | [], _ => by simp [Vx.mn, Vx.le]
  | _ :: _, [] => by simp [Vx.mn, Vx.le]
  | a :: as, b :: bs => by
    have := mn_le (e := as) (f := bs)
    unfold Vx.mn Vx.le
    rw [this, Bool.and_true, decide_eq_true_eq]
    exact Nat.min_le_left a b
theorem mn_sum : ∀ {e f : Vec}, (Vx.mn e f).sum ≤ e.sum
  | [], _ => by simp [Vx.mn]
  | _ :: _, [] => by simp [Vx.mn]
  | a :: as, b :: bs => by
    have := mn_sum (e := as) (f := bs)
    have h := Nat.min_le_left a b
    show (min a b :: Vx.mn as bs).sum ≤ (a :: as).sum
    simp only [List.sum_cons]
    omega
section
variable {ps : List Nat} (P : Pr ps)
include P
theorem lc_len {e f : Vec} (he : e.length = 5) (hf : f.length = 5) : (lc e f).length = 5 := Vx.add_len (Vx.sub_len he (Vx.mn_len he hf)) hf
theorem lc_sum {e f : Vec} (he : e.length = 5) (hf : f.length = 5) : (lc e f).sum ≤ e.sum + f.sum := by
  have h1 := add_sum (e := Vx.sub e (Vx.mn e f)) (f := f)
  have h2 := sub_sum P (e := e) (f := Vx.mn e f) (he.trans (Vx.mn_len he hf).symm)
  unfold lc
  omega
theorem o_gcd {e f : Vec} (he : e.length = 5) (hf : f.length = 5) : bltF .gcd [nm ps e, nm ps f] = some (nm ps (Vx.mn e f)) := by
  unfold nm
  rw [b_gcd, Int.natAbs_natCast, Int.natAbs_natCast, Vx.v_gcd P.good (he.trans P.len.symm) (hf.trans P.len.symm)]
theorem least_multiple {n : Nat} {e f : Vec} (he : e.length = 5) (hf : f.length = 5) (h1 : e.sum ≤ 200) (h2 : f.sum ≤ 200) : D0 (n + 1) 8 [.d (nm ps e), .d (nm ps f)] = some (nm ps (lc e f), [.d (nm ps e), .d (nm ps f)]) := by
  have s1 := mn_sum (e := e) (f := f)
  have s2 := sub_sum P (e := e) (f := Vx.mn e f) (he.trans (Vx.mn_len he hf).symm)
  have g := o_gcd P he hf
  have dv := o_div P he (Vx.mn_len he hf) mn_le (by omega)
  have ml := o_mul P (Vx.sub_len he (Vx.mn_len he hf)) hf (by omega) (by omega)
  rw [c8]
  simp only [b8, evSs, evS, evE, evEs, List.getElem?_cons_zero, List.getElem?_cons_succ, List.map, rdV_p, g, dv, ml, outD]
  rfl
theorem nm_zro : nm ps zro = .int 1 := by
  unfold nm zro
  have hl := P.len
  match ps, hl with
  | [a, b, c, d, e], _ => simp [Vx.v]
theorem eq_fr {f g : Fr2} (hf : OkF f) (hg : OkF g) : eqF (frD ps f) (frD ps g) = some (decide (f = g)) := by
  have i1 := Vx.v_inj P.good (hf.l1.trans P.len.symm) (hg.l1.trans P.len.symm)
  have i2 := Vx.v_inj P.good (hf.l2.trans P.len.symm) (hg.l2.trans P.len.symm)
  have e : eqF (frD ps f) (frD ps g) = some (PyData.eqv (frD ps f) (frD ps g)) := rfl
  rw [e]
  congr 1
  have e2 : PyData.eqv (frD ps f) (frD ps g) = (decide (((Vx.v ps f.1 : Nat) : Int) = ((Vx.v ps g.1 : Nat) : Int)) && decide (((Vx.v ps f.2 : Nat) : Int) = ((Vx.v ps g.2 : Nat) : Int))) := by
    simp [frD, nm, PyData.eqv, PyData.eqvAll]
    rfl
  rw [e2]
  rw [Bool.eq_iff_iff, Bool.and_eq_true, decide_eq_true_eq, decide_eq_true_eq, decide_eq_true_eq, Int.ofNat_inj, Int.ofNat_inj, i1, i2]
  exact ⟨fun h => Prod.ext h.1 h.2, fun h => by rw [h]; exact ⟨rfl, rfl⟩⟩
theorem eq_none {f : Fr2} (hf : OkF f) : eqF NONE (frD ps f) = some false ∧ eqF (frD ps f) NONE = some false ∧ eqF NONE NONE = some true := by
  have b := v_pos P (e := f.1)
  have e1 : eqF NONE (frD ps f) = some (PyData.eqv NONE (frD ps f)) := rfl
  have e2 : eqF (frD ps f) NONE = some (PyData.eqv (frD ps f) NONE) := rfl
  have h1 : ¬ (0 : Int) = ((Vx.v ps f.1 : Nat) : Int) := by omega
  have h2 : ¬ ((Vx.v ps f.1 : Nat) : Int) = (0 : Int) := by omega
  refine ⟨?_, ?_, rfl⟩
  · rw [e1]
    congr 1
    simp [frD, nm, PyData.eqv, PyData.eqvAll, NONE]
    omega
  · rw [e2]
    congr 1
    simp [frD, nm, PyData.eqv, PyData.eqvAll, NONE]
    omega
/-- what a mill tells of a number: the fraction that takes it, or none -/
def tld (m : List Fr2) (e : Vec) : Option Fr2 := if pl m e < 0 then none else m[(pl m e).toNat]?
def tD (ps : List Nat) : Option Fr2 → D
  | none => NONE
  | some f => frD ps f
theorem told_by {n : Nat} {m : List Fr2} {e : Vec} : D0 (n + 1) 25 [.d (mD ps m), .d (.int (pl m e))] = some (tD ps (tld m e), [.d (mD ps m), .d (.int (pl m e))]) := by
  rw [c25]
  rcases pl_spec (m := m) (e := e) with h | ⟨k, f, h1, h2, h3⟩
  · have e1 : tld m e = none := by unfold tld; rw [h]; rfl
    rw [e1, h]
    rfl
  · have e1 : tld m e = some f := by
      unfold tld
      rw [h1, if_neg (by omega), Int.toNat_natCast, h2]
    have kp : (0 : Int) ≤ (k : Int) := by omega
    rw [e1, h1]
    simp [b25, evSs, evS, evE, evT, rdV_p, cmpF, ixm P h2, kp, outD, tD]
theorem tld_mem {m : List Fr2} {e : Vec} {f : Fr2} (h : tld m e = some f) : f ∈ m := by
  unfold tld at h
  split at h
  · cases h
  · exact List.mem_of_getElem? h
theorem eq_told {m1 m2 : List Fr2} {e : Vec} (h1 : ∀ f ∈ m1, OkF f) (h2 : ∀ f ∈ m2, OkF f) : eqF (tD ps (tld m1 e)) (tD ps (tld m2 e)) = some (decide (tld m1 e = tld m2 e)) := by
  cases q1 : tld m1 e with
  | none =>
    cases q2 : tld m2 e with
    | none => exact rfl
    | some g => exact (eq_none P (h2 g (tld_mem P q2))).1
  | some f =>
    cases q2 : tld m2 e with
    | none => exact (eq_none P (h1 f (tld_mem P q1))).2.1
    | some g =>
      have := eq_fr P (h1 f (tld_mem P q1)) (h2 g (tld_mem P q2))
      show eqF (frD ps f) (frD ps g) = _
      rw [this]
      congr 1
      exact decide_eq_decide.mpr ⟨fun z => by rw [z], fun z => Option.some.inj z⟩
end
end Ir
set_option Elab.async false
set_option linter.all false
set_option maxRecDepth 100000
set_option maxHeartbeats 4000000
namespace Ir
open PySem L2 Dn
/-- an item of a mill, or NONE, with its lower number -/
def itm (ps : List Nat) : Option Fr2 → D := tD ps
def und : Option Fr2 → Vec
  | none => zro
  | some f => f.2
def OkI (x : Option Fr2) : Prop := ∀ f, x = some f → OkF f
theorem und_ok {x : Option Fr2} (h : OkI x) : (und x).length = 5 ∧ (und x).sum ≤ 50 := by
  cases x with
  | none => exact ⟨rfl, by decide⟩
  | some f => exact ⟨(h f rfl).l2, (h f rfl).s2⟩
def pB : Ss := .cons (.set 5 (.call 8 (.cons (.ix (.pl 3) (.int 1)) (.cons (.ix (.pl 4) (.int 1)) .nil))))
  (.cons (.ife (.cmp .NotEq (.call 25 (.cons (.pl 0) (.cons (.call 15 (.cons (.pl 0) (.cons (.pl 5) .nil))) .nil))) (.call 25 (.cons (.pl 1) (.cons (.call 15 (.cons (.pl 1) (.cons (.pl 5) .nil))) .nil)))) (.cons (.set 2 (.ife (.cmp .Eq (.pl 2) (.int 0)) (.pl 5) (.blt .min2 (.cons (.pl 2) (.cons (.pl 5) .nil)))))
  .nil) .nil)
  .nil)
section
variable {ps : List Nat} (P : Pr ps)
include P
theorem ix_itm {x : Option Fr2} : ixF (itm ps x) (.int 1) = some (nm ps (und x)) := by
  cases x with
  | none =>
    show some (PyData.int 1) = some (nm ps zro)
    rw [nm_zro P]
  | some f => rfl
theorem part_in {n : Nat} {m1 m2 : List Fr2} (h1 : ∀ f ∈ m1, OkF f) (h2 : ∀ f ∈ m2, OkF f) {x : Option Fr2} (hx : OkI x) : ∀ {L : List (Option Fr2)} {r : Int} {s4 s5 : SV}, (∀ y ∈ L, OkI y) → 0 ≤ r → No s4 → No s5 →
    ∃ (r' : Int) (a b : SV), 0 ≤ r' ∧ No a ∧ No b ∧ (r' = 0 ↔ r = 0 ∧ ∀ y ∈ L, tld m1 (lc (und x) (und y)) = tld m2 (lc (und x) (und y))) ∧
      forL (asg (.nm 4)) (fun ρ => evSs 3000 G (D0 (n + 1)) (O0 (n + 1)) pB ρ) (L.map (itm ps)) [.d (mD ps m1), .d (mD ps m2), .d (.int r), .d (itm ps x), s4, s5] = some (.nx [.d (mD ps m1), .d (mD ps m2), .d (.int r'), .d (itm ps x), a, b])
  | [], r, s4, s5, _, hr, h4, h5 => ⟨r, s4, s5, hr, h4, h5, ⟨fun z => ⟨z, fun _ h => by cases h⟩, fun z => z.1⟩, rfl⟩
  | y :: L, r, s4, s5, hL, hr, h4, h5 => by
    have hy := hL y List.mem_cons_self
    obtain ⟨ux1, ux2⟩ := und_ok hx
    obtain ⟨uy1, uy2⟩ := und_ok hy
    have lm := least_multiple P (n := n) ux1 uy1 (by omega) (by omega)
    have ll := lc_len P ux1 uy1
    have p1 := place_in P (n := n) (m := m1) (fun f hf => (h1 f hf).l2) ll
    have p2 := place_in P (n := n) (m := m2) (fun f hf => (h2 f hf).l2) ll
    have t1 := told_by P (n := n) (m := m1) (e := lc (und x) (und y))
    have t2 := told_by P (n := n) (m := m2) (e := lc (und x) (und y))
    have eqt := eq_told P (e := lc (und x) (und y)) h1 h2
    have vp := v_pos P (e := lc (und x) (und y))
    have a4 : asg (.nm 4) (itm ps y) [.d (mD ps m1), .d (mD ps m2), .d (.int r), .d (itm ps x), s4, s5] = some [.d (mD ps m1), .d (mD ps m2), .d (.int r), .d (itm ps x), .d (itm ps y), s5] := by
      cases s4 <;> first | exact absurd rfl (h4 _ _) | rfl
    have r5 : isRef [.d (mD ps m1), .d (mD ps m2), .d (.int r), .d (itm ps x), .d (itm ps y), s5] 5 = false := by
      cases s5 <;> first | exact absurd rfl (h5 _ _) | rfl
    generalize hZ : lc (und x) (und y) = Z at *
    have cne : cmpF .NotEq (tD ps (tld m1 Z)) (tD ps (tld m2 Z)) = some (!decide (tld m1 Z = tld m2 Z)) := by
      show (eqF _ _).map (!·) = _
      rw [eqt]
      rfl
    -- the number that stands behind this turn
    have step : ∃ r2 : Int, 0 ≤ r2 ∧ (r2 = 0 ↔ r = 0 ∧ tld m1 Z = tld m2 Z) ∧ evSs 3000 G (D0 (n + 1)) (O0 (n + 1)) pB [.d (mD ps m1), .d (mD ps m2), .d (.int r), .d (itm ps x), .d (itm ps y), s5] = some (.nx [.d (mD ps m1), .d (mD ps m2), .d (.int r2), .d (itm ps x), .d (itm ps y), .d (nm ps Z)]) := by
      have first_ : evS 3000 G (D0 (n + 1)) (O0 (n + 1)) (.set 5 (.call 8 (.cons (.ix (.pl 3) (.int 1)) (.cons (.ix (.pl 4) (.int 1)) .nil)))) [.d (mD ps m1), .d (mD ps m2), .d (.int r), .d (itm ps x), .d (itm ps y), s5] = some (.nx [.d (mD ps m1), .d (mD ps m2), .d (.int r), .d (itm ps x), .d (itm ps y), .d (nm ps Z)]) := by
        simp only [evS, evE, evEs, argS, als, wrB, List.getElem?_cons_zero, List.getElem?_cons_succ, Option.map, List.nodup_nil, if_true, rdV_p, ix_itm P, lm, r5, Bool.false_eq_true, if_false, List.set_cons_succ, List.set_cons_zero]
      unfold pB
      rw [ss_nx first_]
      by_cases q : tld m1 Z = tld m2 Z
      · refine ⟨r, hr, ⟨fun z => ⟨z, q⟩, fun z => z.1⟩, ?_⟩
        rw [decide_eq_true q] at cne
        simp only [evSs, evS, evT, evE, evEs, argS, als, wrB, List.getElem?_cons_zero, List.getElem?_cons_succ, Option.map, List.nodup_nil, if_true, rdV_p, p1, p2, t1, t2, cne, Bool.not_true]
      · rw [decide_eq_false q] at cne
        by_cases z0 : r = 0
        · subst z0
          refine ⟨((Vx.v ps Z : Nat) : Int), by omega, ⟨fun z => absurd z (by omega), fun z => absurd z.2 q⟩, ?_⟩
          have c0 : cmpF .Eq (.int 0) (.int 0) = some true := rfl
          simp only [evSs, evS, evT, evE, evEs, argS, als, wrB, List.getElem?_cons_zero, List.getElem?_cons_succ, Option.map, List.nodup_nil, if_true, rdV_p, p1, p2, t1, t2, cne, Bool.not_false, c0, isRef, Bool.false_eq_true, if_false, List.set_cons_succ, List.set_cons_zero]
          rfl
        · refine ⟨if ((Vx.v ps Z : Nat) : Int) < r then ((Vx.v ps Z : Nat) : Int) else r, by split <;> omega, ⟨fun z => absurd z (by split <;> omega), fun z => absurd z.1 z0⟩, ?_⟩
          have c0 : cmpF .Eq (.int r) (.int 0) = some false := by
            show some (decide (r = 0)) = _
            rw [decide_eq_false z0]
          have mn : bltF .min2 [.int r, nm ps Z] = some (.int (if ((Vx.v ps Z : Nat) : Int) < r then ((Vx.v ps Z : Nat) : Int) else r)) := rfl
          simp only [evSs, evS, evT, evE, evEs, argS, als, wrB, List.getElem?_cons_zero, List.getElem?_cons_succ, Option.map, List.nodup_nil, if_true, rdV_p, List.map, p1, p2, t1, t2, cne, Bool.not_false, c0, mn, isRef, Bool.false_eq_true, if_false, List.set_cons_succ, List.set_cons_zero]
    obtain ⟨r2, g1, g2, g3⟩ := step
    obtain ⟨r', a, b, k1, k2, k3, k4, k5⟩ := part_in (n := n) h1 h2 hx (L := L) (r := r2) (s4 := .d (itm ps y)) (s5 := .d (nm ps Z)) (fun z hz => hL z (List.mem_cons_of_mem _ hz)) g1 no_d no_d
    refine ⟨r', a, b, k1, k2, k3, ?_, ?_⟩
    · rw [k4, g2]
      constructor
      · rintro ⟨⟨z1, z2⟩, z3⟩
        refine ⟨z1, fun w hw => ?_⟩
        rcases List.mem_cons.mp hw with rfl | hw
        · rw [hZ]; exact z2
        · exact z3 w hw
      · rintro ⟨z1, z2⟩
        refine ⟨⟨z1, ?_⟩, fun w hw => z2 w (List.mem_cons_of_mem _ hw)⟩
        have := z2 y List.mem_cons_self
        rw [hZ] at this
        exact this
    · rw [List.map_cons]
      unfold forL
      rw [a4]
      dsimp only
      rw [g3]
      exact k5
def pO : Ss := .cons (.for (.nm 4) (.sq (.bin .Add (.tup (.cons (.gl 4) .nil)) (.pl 1))) pB) .nil
/-- NONE and the fractions of a mill -/
def its (m : List Fr2) : List (Option Fr2) := none :: m.map some
theorem its_D {m : List Fr2} : (its m).map (itm ps) = NONE :: m.map (frD ps) := by
  unfold its
  rw [List.map_cons, List.map_map]
  rfl
theorem its_ok {m : List Fr2} (h : ∀ f ∈ m, OkF f) : ∀ y ∈ its m, OkI y := fun y hy f e => by
  rcases List.mem_cons.mp hy with rfl | hy
  · cases e
  · obtain ⟨g, hg, rfl⟩ := List.mem_map.mp hy
    cases e
    exact h f hg
theorem none_add {n : Nat} {m : List Fr2} {Φ : Nat → List SV → Option (D × List SV)} {ρ : Rho} {i : Nat} (hm : m.length ≤ 2000) (hi : ρ[i]? = some (.d (mD ps m))) : evI G Φ (.sq (.bin .Add (.tup (.cons (.gl 4) .nil)) (.pl i))) ρ = some ((its m).map (itm ps), ρ) := by
  have hc : 1 ≤ cap := by decide
  have hl : 1 + m.length ≤ cap := by unfold cap; omega
  rw [its_D P]
  have hb : binF .Add (.tuple [NONE]) (mD ps m) = some (.tuple (NONE :: m.map (frD ps))) := by
    show (if [NONE].length + (m.map (frD ps)).length ≤ cap then some (PyData.tuple ([NONE] ++ m.map (frD ps))) else none) = _
    rw [if_pos (by rw [List.length_map]; exact hl)]
    rfl
  simp only [evI, evE, evEs, hi, pvDs, Option.map, List.length_singleton, hc, if_true, rdV_p, show G[4]? = some NONE from rfl, hb, seqD]
theorem part_out {n : Nat} {m1 m2 : List Fr2} (h1 : ∀ f ∈ m1, OkF f) (h2 : ∀ f ∈ m2, OkF f) (hl : m2.length ≤ 2000) : ∀ {L : List (Option Fr2)} {r : Int} {s3 s4 s5 : SV}, (∀ y ∈ L, OkI y) → 0 ≤ r → No s3 → No s4 → No s5 →
    ∃ (r' : Int) (ρ' : Rho), 0 ≤ r' ∧ (r' = 0 ↔ r = 0 ∧ ∀ x ∈ L, ∀ y ∈ its m2, tld m1 (lc (und x) (und y)) = tld m2 (lc (und x) (und y))) ∧ ρ'[2]? = some (.d (.int r')) ∧ ρ'.take 2 = [.d (mD ps m1), .d (mD ps m2)] ∧
      forL (asg (.nm 3)) (fun ρ => evSs 3000 G (D0 (n + 1)) (O0 (n + 1)) pO ρ) (L.map (itm ps)) [.d (mD ps m1), .d (mD ps m2), .d (.int r), s3, s4, s5] = some (.nx ρ')
  | [], r, s3, s4, s5, _, hr, _, _, _ => ⟨r, _, hr, ⟨fun z => ⟨z, fun _ h => by cases h⟩, fun z => z.1⟩, rfl, rfl, rfl⟩
  | x :: L, r, s3, s4, s5, hL, hr, h3, h4, h5 => by
    have hx := hL x List.mem_cons_self
    have a3 : asg (.nm 3) (itm ps x) [.d (mD ps m1), .d (mD ps m2), .d (.int r), s3, s4, s5] = some [.d (mD ps m1), .d (mD ps m2), .d (.int r), .d (itm ps x), s4, s5] := by
      cases s3 <;> first | exact absurd rfl (h3 _ _) | rfl
    obtain ⟨r2, a, b, g1, ga, gb, g2, g3⟩ := part_in P (n := n) h1 h2 hx (L := its m2) (r := r) (s4 := s4) (s5 := s5) (its_ok P h2) hr h4 h5
    have body : evSs 3000 G (D0 (n + 1)) (O0 (n + 1)) pO [.d (mD ps m1), .d (mD ps m2), .d (.int r), .d (itm ps x), s4, s5] = some (.nx [.d (mD ps m1), .d (mD ps m2), .d (.int r2), .d (itm ps x), a, b]) := by
      unfold pO
      rw [ss_for (none_add P (n := 0) hl rfl) g3]
      rfl
    obtain ⟨r', ρ', k1, k2, k3, k4, k5⟩ := part_out (n := n) h1 h2 hl (L := L) (r := r2) (s3 := .d (itm ps x)) (s4 := a) (s5 := b) (fun z hz => hL z (List.mem_cons_of_mem _ hz)) g1 no_d ga gb
    refine ⟨r', ρ', k1, ?_, k3, k4, ?_⟩
    · rw [k2, g2]
      constructor
      · rintro ⟨⟨z1, z2⟩, z3⟩
        refine ⟨z1, fun w hw => ?_⟩
        rcases List.mem_cons.mp hw with rfl | hw
        · exact z2
        · exact z3 w hw
      · rintro ⟨z1, z2⟩
        exact ⟨⟨z1, z2 x List.mem_cons_self⟩, fun w hw => z2 w (List.mem_cons_of_mem _ hw)⟩
    · rw [List.map_cons]
      unfold forL
      rw [a3]
      dsimp only
      rw [body]
      exact k5
/-- two mills that tell alike of all that matters -/
def alk (m1 m2 : List Fr2) : Prop := ∀ x ∈ its m1, ∀ y ∈ its m2, tld m1 (lc (und x) (und y)) = tld m2 (lc (und x) (und y))
theorem parting_in {n : Nat} {m1 m2 : List Fr2} (h1 : OkM m1) (h2 : OkM m2) : ∃ r : Int, (r = 0 ↔ alk m1 m2) ∧ D0 (n + 2) 26 [.d (mD ps m1), .d (mD ps m2)] = some (.int r, [.d (mD ps m1), .d (mD ps m2)]) := by
  obtain ⟨r, ρ', k1, k2, k3, k4, k5⟩ := part_out P (n := n) h1.2 h2.2 h2.1 (L := its m1) (r := 0) (s3 := .un) (s4 := .un) (s5 := .un) (its_ok P h1.2) (Int.le_refl 0) no_un no_un no_un
  refine ⟨r, k2.trans ⟨fun z => z.2, fun z => ⟨rfl, z⟩⟩, ?_⟩
  rw [c26]
  rw [show b26 = .cons (.set 2 (.int 0)) (.cons (.for (.nm 3) (.sq (.bin .Add (.tup (.cons (.gl 4) .nil)) (.pl 0))) pO) (.cons (.ret (.pl 2)) .nil)) from rfl]
  rw [ss_nx (ρ1 := [.d (mD ps m1), .d (mD ps m2), .d (.int 0), .un, .un, .un]) rfl, ss_for (none_add P (n := 0) h1.1 rfl) k5]
  simp only [evSs, evS, evE, k3, outD, k4]
end
end Ir
set_option Elab.async false
set_option linter.all false
set_option maxRecDepth 100000
set_option maxHeartbeats 4000000
namespace Ir
open PySem L2 Dn
section
variable {G' : List D} {Φ : Nat → List SV → Option (D × List SV)} {tg : Tg} {it : Dn.It} {c : Dn.T} {e : E} {ρ ρ1 : Rho}
theorem ev_comp {α : Type} {W : List α} {g : α → D} {r : α → Option D} (h1 : evI G' Φ it ρ = some (W.map g, ρ1)) (h2 : tg.sl.any (isOwn ρ1) = false) (h3 : ∀ x ∈ W, cmpF1 tg (evT G' Φ c) (evE G' Φ e) (g x) (unS ρ1 tg.sl) = some (r x, unS ρ1 tg.sl)) (h4 : W.length ≤ cap) :
    evE G' Φ (.comp tg it c e) ρ = some (.p (.list (W.filterMap r)), restS ρ1 (unS ρ1 tg.sl) tg.sl) := by
  have h5 : cmpL (cmpF1 tg (evT G' Φ c) (evE G' Φ e)) (W.map g) (unS ρ1 tg.sl) = _ := cmpL_gen h3
  have h6 : (W.filterMap r).length ≤ cap := Nat.le_trans (List.length_filterMap_le _ _) h4
  rw [evE, h1]
  dsimp only
  rw [if_neg (by rw [h2]; exact Bool.false_ne_true)]
  show (match cmpL (cmpF1 tg (evT G' Φ c) (evE G' Φ e)) (W.map g) (unS ρ1 tg.sl) with
    | some (ds, ρ6) => if ds.length ≤ cap then some (Vl.p (.list ds), restS ρ1 ρ6 tg.sl) else none
    | none => none) = _
  rw [h5]
  dsimp only
  rw [if_pos h6]
end
open Classical in
noncomputable def alkB (m1 m2 : List Fr2) : Bool := decide (alk m1 m2)
/-- places and fractions -/
def enF : Nat → List Fr2 → List (Nat × Fr2)
  | _, [] => []
  | k, f :: m => (k, f) :: enF (k + 1) m
theorem enF_len : ∀ {m : List Fr2} {k : Nat}, (enF k m).length = m.length
  | [], _ => rfl
  | _ :: m, k => congrArg (· + 1) (enF_len (m := m) (k := k + 1))
theorem enF_mem : ∀ {m : List Fr2} {k : Nat} {p : Nat × Fr2}, p ∈ enF k m → p.2 ∈ m
  | _ :: m, k, p, h => by
    rcases List.mem_cons.mp h with rfl | h
    · exact List.mem_cons_self
    · exact List.mem_cons_of_mem _ (enF_mem h)
def enD (ps : List Nat) (p : Nat × Fr2) : D := .tuple [.int p.1, frD ps p.2]
theorem enF_D {ps : List Nat} : ∀ {m : List Fr2} {k : Nat}, enmD (m.map (frD ps)) k = (enF k m).map (enD ps)
  | [], _ => rfl
  | f :: m, k => congrArg (List.cons _) (enF_D (m := m) (k := k + 1))
/-- the places that an earlier fraction takes before -/
def idl (m : List Fr2) : List Nat := ((enF 0 m).filter fun p => !decide (pl m p.2.2 = (p.1 : Int))).map (·.1)
def les (m : List Fr2) : List Fr2 := ((enF 0 m).filter fun p => !(idl m).contains p.1).map (·.2)
section
variable {ps : List Nat} (P : Pr ps)
include P
theorem alike {n : Nat} {m1 m2 : List Fr2} (h1 : OkM m1) (h2 : OkM m2) : D0 (n + 6) 28 [.d (mD ps m1), .d (mD ps m2)] = some (.bool (alkB m1 m2), [.d (mD ps m1), .d (mD ps m2)]) := by
  have s1 := sure_mill P (n := n) h1
  have s2 := sure_mill P (n := n) h2
  obtain ⟨r, hr, pt⟩ := parting_in P (n := n + 3) h1 h2
  have c0 : cmpF .Eq (.int r) (.int 0) = some (alkB m1 m2) := by
    show some (decide (r = 0)) = _
    congr 1
    unfold alkB
    exact decide_eq_decide.mpr hr
  rw [c28]
  simp only [b28, evSs, evS, evE, evEs, argS, als, wrB, List.getElem?_cons_zero, List.getElem?_cons_succ, Option.map, List.nodup_nil, if_true, rdV_p, s1, s2, isRef, Bool.false_eq_true, if_false, List.set_cons_succ, List.set_cons_zero, pt, c0, outD]
  rfl
theorem idle_in {n : Nat} {m : List Fr2} (h : OkM m) : D0 (n + 2) 27 [.d (mD ps m)] = some (.list ((idl m).map fun k => .int (k : Nat)), [.d (mD ps m)]) := by
  have hl : (enF 0 m).length ≤ cap := by rw [enF_len]; have := h.1; unfold cap; omega
  have hpl : ∀ p ∈ enF 0 m, D0 (n + 1) 15 [.d (mD ps m), .d (nm ps p.2.2)] = some (.int (pl m p.2.2), [.d (mD ps m), .d (nm ps p.2.2)]) := fun p hp => place_in P (n := n) (fun f hf => (h.2 f hf).l2) (h.2 p.2 (enF_mem hp)).l2
  have ei : evI G (D0 (n + 1)) (.enm (.pl 0)) [.d (mD ps m), .un, .un] = some ((enF 0 m).map (enD ps), [.d (mD ps m), .un, .un]) := by
    simp only [evI, evE, List.getElem?_cons_zero, mD, seqD, enF_D]
  have key := ev_comp (G' := G) (Φ := D0 (n + 1)) (tg := .tp [1, 2]) (c := .cmp .NotEq (.call 15 (.cons (.pl 0) (.cons (.ix (.pl 2) (.int 1)) .nil))) (.pl 1)) (e := .pl 1)
    (r := fun p : Nat × Fr2 => if (!decide (pl m p.2.2 = (p.1 : Int))) = true then some (.int (p.1 : Nat)) else none) ei rfl (fun p hp => by
      have h1 := hpl p hp
      have cn : cmpF .NotEq (.int (pl m p.2.2)) (.int (p.1 : Nat)) = some (!decide (pl m p.2.2 = (p.1 : Int))) := rfl
      have ag : asg (.tp [1, 2]) (enD ps p) (unS [.d (mD ps m), .un, .un] (Tg.tp [1, 2]).sl) = some [.d (mD ps m), .d (.int (p.1 : Nat)), .d (frD ps p.2)] := rfl
      unfold cmpF1
      rw [ag]
      simp only [evT, evE, evEs, argS, als, wrB, List.getElem?_cons_zero, List.getElem?_cons_succ, Option.map, List.nodup_nil, if_true, rdV_p, ix1 P, h1, cn]
      cases decide (pl m p.2.2 = (p.1 : Int)) <;> rfl) hl
  rw [c27]
  unfold b27
  rw [ss_rt (d := .list ((idl m).map fun k => .int (k : Nat))) (ρ1 := [.d (mD ps m), .un, .un]) (by
    rw [evS, key, filterMap_if]
    unfold idl
    rw [List.map_map]
    rfl)]
  rfl
theorem idle {n : Nat} {m : List Fr2} (h : OkM m) : D0 (n + 6) 29 [.d (mD ps m)] = some (.tuple ((idl m).map fun k => .int (k : Nat)), [.d (mD ps m)]) := by
  have s1 := sure_mill P (n := n) h
  have s2 := idle_in P (n := n + 3) h
  rw [c29]
  simp only [b29, evSs, evS, evE, evEs, argS, als, wrB, List.getElem?_cons_zero, List.getElem?_cons_succ, Option.map, List.nodup_nil, if_true, List.map, rdV_p, s1, s2, b_tup, outD]
  rfl
end
end Ir
set_option Elab.async false
set_option linter.all false
set_option maxRecDepth 100000
set_option maxHeartbeats 4000000
namespace Ir
open PySem L2 Dn
theorem in_ints {k : Nat} {L : List Nat} : inS (.int (k : Nat)) (.list (L.map fun j => .int (j : Nat))) = some (L.contains k) := by
  show inF (.int (k : Nat)) (L.map fun j => .int (j : Nat)) = _
  unfold inF
  have h1 : (L.map fun j => PyData.int (j : Nat)).all flatD = true := by
    rw [List.all_map]
    exact List.all_eq_true.mpr fun _ _ => rfl
  rw [h1]
  simp only [flatD, Bool.and_self, if_true]
  congr 1
  rw [List.any_map, List.contains_eq_any_beq]
  congr 1
  funext j
  show eqV (.int (j : Nat)) (.int (k : Nat)) = (k == j)
  show (((j : Nat) : Int) == ((k : Nat) : Int)) = (k == j)
  by_cases h : j = k
  · subst h
    simp
  · have h2 : ¬ ((j : Nat) : Int) = ((k : Nat) : Int) := by omega
    have h3 : ¬ k = j := fun z => h z.symm
    rw [beq_eq_false_iff_ne.mpr h2, beq_eq_false_iff_ne.mpr h3]
theorem ev_blt1 {G' : List D} {Φ : Nat → List SV → Option (D × List SV)} {b : Blt} {e : E} {ρ ρ1 : Rho} {x : Vl} {z : D} (h : evE G' Φ e ρ = some (x, ρ1)) (hb : bltF b [rdV ρ1 x] = some z) : evE G' Φ (.blt b (.cons e .nil)) ρ = some (.p z, ρ1) := by
  rw [evE, evEs, h]
  dsimp only
  rw [evEs]
  dsimp only [List.map]
  rw [hb]
section
variable {ps : List Nat} (P : Pr ps)
include P
theorem lessened {n : Nat} {m : List Fr2} (h : OkM m) : D0 (n + 6) 30 [.d (mD ps m)] = some (mD ps (les m), [.d (mD ps m)]) := by
  have hl : (enF 0 m).length ≤ cap := by rw [enF_len]; have := h.1; unfold cap; omega
  have s1 := sure_mill P (n := n) h
  have s2 := idle_in P (n := n + 3) h
  have ei : evI G (D0 (n + 5)) (.enm (.pl 1)) [.d (mD ps m), .d (mD ps m), .d (.list ((idl m).map fun k => .int (k : Nat))), .un, .un] = some ((enF 0 m).map (enD ps), [.d (mD ps m), .d (mD ps m), .d (.list ((idl m).map fun k => .int (k : Nat))), .un, .un]) := by
    simp only [evI, evE, List.getElem?_cons_zero, List.getElem?_cons_succ, mD, seqD, enF_D]
  have key := ev_comp (G' := G) (Φ := D0 (n + 5)) (tg := .tp [3, 4]) (c := .cmp .NotIn (.pl 3) (.pl 2)) (e := .pl 4)
    (r := fun p : Nat × Fr2 => if (!(idl m).contains p.1) = true then some (frD ps p.2) else none) ei rfl (fun p hp => by
      have cn : cmpF .NotIn (.int (p.1 : Nat)) (.list ((idl m).map fun k => .int (k : Nat))) = some (!(idl m).contains p.1) := by
        show (inS _ _).map (!·) = _
        rw [in_ints]
        rfl
      have ag : asg (.tp [3, 4]) (enD ps p) (unS [.d (mD ps m), .d (mD ps m), .d (.list ((idl m).map fun k => .int (k : Nat))), .un, .un] (Tg.tp [3, 4]).sl) = some [.d (mD ps m), .d (mD ps m), .d (.list ((idl m).map fun k => .int (k : Nat))), .d (.int (p.1 : Nat)), .d (frD ps p.2)] := rfl
      unfold cmpF1
      rw [ag]
      simp only [evT, evE, List.getElem?_cons_zero, List.getElem?_cons_succ, rdV_p, cn]
      cases (idl m).contains p.1 <;> rfl) hl
  rw [c30]
  unfold b30
  rw [ss_nx (ρ1 := [.d (mD ps m), .d (mD ps m), .un, .un, .un]) (by simp [evS, evE, evEs, argS, als, wrB, s1, isRef]),
    ss_nx (ρ1 := [.d (mD ps m), .d (mD ps m), .d (.list ((idl m).map fun k => .int (k : Nat))), .un, .un]) (by simp [evS, evE, evEs, argS, als, wrB, s2, isRef])]
  rw [ss_rt (d := mD ps (les m)) (ρ1 := [.d (mD ps m), .d (mD ps m), .d (.list ((idl m).map fun k => .int (k : Nat))), .un, .un]) (by
    rw [evS, ev_blt1 key rfl, filterMap_if]
    unfold les mD
    rw [List.map_map]
    rfl)]
  rfl
end
end Ir
set_option Elab.async false
set_option linter.all false
set_option maxRecDepth 100000
set_option maxHeartbeats 4000000
namespace Ir
open PySem L2 Dn
theorem cut_hi {xs : List D} {k : Nat} (h : k ≤ xs.length) : cutD xs none (some (k : Int)) = xs.take k := by
  unfold cutD
  rw [HT.sIx_none, HT.sIx_nat, List.drop_zero, Nat.sub_zero, Nat.min_eq_left h]
theorem cut_lo {xs : List D} {k : Nat} (h : k ≤ xs.length) : cutD xs (some (k : Int)) none = xs.drop k := by
  unfold cutD
  rw [HT.sIx_none, HT.sIx_nat, Nat.min_eq_left h, ← List.length_drop, List.take_length]
def swp (m : List Fr2) (k : Nat) : List Fr2 := match m[k]?, m[k + 1]? with
  | some f, some g => m.take k ++ [g, f] ++ m.drop (k + 2)
  | _, _ => m
theorem swp_of {m : List Fr2} {k : Nat} {f g : Fr2} (h1 : m[k]? = some f) (h2 : m[k + 1]? = some g) : swp m k = m.take k ++ [g, f] ++ m.drop (k + 2) := by
  unfold swp
  rw [h1, h2]
theorem swp_ok {m : List Fr2} {k : Nat} {f g : Fr2} (h : OkM m) (h1 : m[k]? = some f) (h2 : m[k + 1]? = some g) : OkM (swp m k) := by
  rw [swp_of h1 h2]
  have hk : k + 1 < m.length := (List.getElem?_eq_some_iff.mp h2).1
  refine ⟨?_, fun x hx => ?_⟩
  · rw [List.length_append, List.length_append, List.length_take, List.length_drop]
    have := h.1
    simp only [List.length_cons, List.length_nil]
    omega
  · rcases List.mem_append.mp hx with hx | hx
    · rcases List.mem_append.mp hx with hx | hx
      · exact h.2 x (List.mem_of_mem_take hx)
      · have : x = g ∨ x = f := by simpa using hx
        rcases this with rfl | rfl
        · exact h.2 _ (List.mem_of_getElem? h2)
        · exact h.2 _ (List.mem_of_getElem? h1)
    · exact h.2 x (List.mem_of_mem_drop hx)
section
variable {ps : List Nat} (P : Pr ps)
include P
theorem swapped {n k : Nat} {m : List Fr2} {f g : Fr2} (h : OkM m) (h1 : m[k]? = some f) (h2 : m[k + 1]? = some g) : D0 (n + 6) 31 [.d (mD ps m), .d (.int k)] = some (mD ps (swp m k), [.d (mD ps m), .d (.int k)]) := by
  have hk : k + 1 < m.length := (List.getElem?_eq_some_iff.mp h2).1
  have hm := h.1
  have s1 := sure_mill P (n := n) h
  have w1 := is_within (n := n + 3) (a := (k : Int)) (b := 0) (c := (m.length : Int) - 2)
  rw [decide_eq_true (show (0 : Int) ≤ (k : Int) by omega), decide_eq_true (show (k : Int) ≤ (m.length : Int) - 2 by omega), Bool.and_self] at w1
  have c1 : slcF (mD ps m) none (some (k : Int)) = some (mD ps (m.take k)) := by
    show some (PyData.tuple (cutD (m.map (frD ps)) none (some (k : Int)))) = _
    rw [cut_hi (by rw [List.length_map]; omega), ← List.map_take]
    rfl
  have c2 : slcF (mD ps m) (some ((k : Int) + 2)) none = some (mD ps (m.drop (k + 2))) := by
    show some (PyData.tuple (cutD (m.map (frD ps)) (some ((k + 2 : Nat) : Int)) none)) = _
    rw [cut_lo (by rw [List.length_map]; omega), ← List.map_drop]
    rfl
  have x1 := ixm P h1
  have x2 : ixF (mD ps m) (.int ((k : Int) + 1)) = some (frD ps g) := ixm P h2
  have ln : bltF .len [mD ps m] = some (.int (m.length : Nat)) := by
    unfold mD
    rw [b_lent, List.length_map]
  have b1 : binF .Add (mD ps (m.take k)) (.tuple [frD ps g, frD ps f]) = some (mD ps (m.take k ++ [g, f])) := by
    show (if ((m.take k).map (frD ps)).length + 2 ≤ cap then some (PyData.tuple ((m.take k).map (frD ps) ++ [frD ps g, frD ps f])) else none) = _
    rw [if_pos (by rw [List.length_map, List.length_take]; unfold cap; omega)]
    unfold mD
    rw [List.map_append]
    rfl
  have b2 : binF .Add (mD ps (m.take k ++ [g, f])) (mD ps (m.drop (k + 2))) = some (mD ps (swp m k)) := by
    show (if ((m.take k ++ [g, f]).map (frD ps)).length + ((m.drop (k + 2)).map (frD ps)).length ≤ cap then some (PyData.tuple ((m.take k ++ [g, f]).map (frD ps) ++ (m.drop (k + 2)).map (frD ps))) else none) = _
    rw [if_pos (by rw [List.length_map, List.length_map, List.length_append, List.length_take, List.length_drop]; simp only [List.length_cons, List.length_nil]; unfold cap; omega), swp_of h1 h2]
    unfold mD
    rw [← List.map_append]
  have a1 : binF .Add (.int (k : Int)) (.int 1) = some (.int ((k : Int) + 1)) := rfl
  have a2 : binF .Add (.int (k : Int)) (.int 2) = some (.int ((k : Int) + 2)) := rfl
  have a3 : binF .Sub (.int (m.length : Nat)) (.int 2) = some (.int ((m.length : Int) - 2)) := rfl
  have hc : 2 ≤ cap := by decide
  rw [c31]
  unfold b31
  rw [ss_nx (ρ1 := [.d (mD ps m), .d (.int k), .d (mD ps m)]) (by simp [evS, evE, evEs, argS, als, wrB, s1, isRef])]
  rw [ss_nx (ρ1 := [.d (mD ps m), .d (.int k), .d (mD ps m)]) (by
    simp only [evS, evSs, evT, evE, evEs, argS, als, wrB, List.getElem?_cons_zero, List.getElem?_cons_succ, Option.map, List.nodup_nil, if_true, List.map, rdV_p, ln, a3, w1, Bool.not_true])]
  rw [ss_rt (d := mD ps (swp m k)) (ρ1 := [.d (mD ps m), .d (.int k), .d (mD ps m)]) (by
    simp only [evS, evE, evEs, evEo, pvDs, Option.map, List.getElem?_cons_zero, List.getElem?_cons_succ, rdV_p, c1, c2, a1, a2, x1, x2, List.length_cons, List.length_nil, hc, if_true, b1, b2])]
  rfl
theorem can_swap {n k : Nat} {m : List Fr2} {f g : Fr2} (h : OkM m) (h1 : m[k]? = some f) (h2 : m[k + 1]? = some g) : D0 (n + 7) 32 [.d (mD ps m), .d (.int k)] = some (.bool (alkB m (swp m k)), [.d (mD ps m), .d (.int k)]) := by
  have s1 := sure_mill P (n := n + 1) h
  have s2 := swapped P (n := n) h h1 h2
  obtain ⟨r, hr, pt⟩ := parting_in P (n := n + 4) h (swp_ok h h1 h2)
  have c0 : cmpF .Eq (.int r) (.int 0) = some (alkB m (swp m k)) := by
    show some (decide (r = 0)) = _
    congr 1
    unfold alkB
    exact decide_eq_decide.mpr hr
  rw [c32]
  simp only [b32, evSs, evS, evE, evEs, argS, als, wrB, List.getElem?_cons_zero, List.getElem?_cons_succ, Option.map, List.nodup_nil, if_true, rdV_p, s1, s2, isRef, Bool.false_eq_true, if_false, List.set_cons_succ, List.set_cons_zero, pt, c0, outD]
  rfl
end
end Ir
set_option Elab.async false
set_option linter.all false
set_option maxRecDepth 100000
set_option maxHeartbeats 4000000
namespace Ir
open PySem L2 Dn
def wF : Ss := .cons (.set 5 (.call 15 (.cons (.pl 0) (.cons (.ix (.pl 3) (.neg (.int 1))) .nil))))
  (.cons (.ife (.cmp .Lt (.pl 5) (.int 0)) (.cons .brk
  .nil) .nil)
  (.cons (.set 6 (.bin .Mult (.bin .FloorDiv (.ix (.pl 3) (.neg (.int 1))) (.ix (.ix (.pl 0) (.pl 5)) (.int 1))) (.ix (.ix (.pl 0) (.pl 5)) (.int 0))))
  (.cons (.ife (.cmp .Gt (.pl 6) (.gl 1)) (.cons .rse
  .nil) .nil)
  (.cons (.app 3 (.pl 6))
  .nil))))
section
variable {ps : List Nat} (P : Pr ps)
include P
theorem few_loop {n g : Nat} {m : List Fr2} (hm : OkMg g m) {x1 x2 : SV} : ∀ {items : List D} {acc : List D} {e : Vec} {s4 s5 s6 : SV}, e.length = 5 → e.sum + items.length * g ≤ 400 → acc.length + items.length < 1000 → No s4 → No s5 → No s6 →
    ∃ a b c, forL (asg (.nm 4)) (fun ρ => evSs 3000 G (D0 (n + 1)) (O0 (n + 1)) wF ρ) items [.d (mD ps m), x1, x2, .own false (.lst (acc ++ [nm ps e])), s4, s5, s6] =
      some (.nx [.d (mD ps m), x1, x2, .own false (.lst (acc ++ (nm ps e :: (wk m items.length e).map (nm ps)))), a, b, c])
  | [], acc, e, s4, s5, s6, _, _, _, _, _, _ => ⟨s4, s5, s6, rfl⟩
  | i :: items, acc, e, s4, s5, s6, he, hs, hl, h4, h5, h6' => by
    have hpl : D0 (n + 1) 15 [.d (mD ps m), .d (nm ps e)] = _ := place_in P (n := n) (fun f hf => (hm.2 f hf).ok.l2) he
    have a4 : asg (.nm 4) i [.d (mD ps m), x1, x2, .own false (.lst (acc ++ [nm ps e])), s4, s5, s6] = some [.d (mD ps m), x1, x2, .own false (.lst (acc ++ [nm ps e])), .d i, s5, s6] := by
      cases s4 <;> first | exact absurd rfl (h4 _ _) | rfl
    have r5 : isRef [SV.d (mD ps m), x1, x2, .own false (.lst (acc ++ [nm ps e])), .d i, s5, s6] 5 = false := by
      cases s5 <;> first | exact absurd rfl (h5 _ _) | rfl
    have r6 : ∀ y, isRef [SV.d (mD ps m), x1, x2, .own false (.lst (acc ++ [nm ps e])), .d i, .d y, s6] 6 = false := fun y => by
      cases s6 <;> first | exact absurd rfl (h6' _ _) | rfl
    rcases nxt_spec (m := m) (e := e) with ⟨h1, h2⟩ | ⟨k, f, h1, h2, h3, h6⟩
    · refine ⟨.d i, .d (.int (-1)), s6, ?_⟩
      have hw : wk m (i :: items).length e = [] := by
        show wk m (items.length + 1) e = []
        unfold wk
        rw [h1]
      rw [hw]
      unfold forL
      rw [a4]
      simp [wF, evSs, evS, evE, evT, evEs, argS, als, wrB, rdV_p, rdV, ovD, ix_last P, hpl, h2, r5, cmpF, ltF]
    · have hf := hm.2 f (List.mem_of_getElem? h2)
      have hs' : e.sum + (items.length + 1) * g ≤ 400 := hs
      have hg : e.sum ≤ 400 := by omega
      have hsum := stp_sum P he hf
      have hmul : (items.length + 1) * g = items.length * g + g := Nat.succ_mul _ _
      have hl' : acc.length + (items.length + 1) < 1000 := hl
      have o2 := hf.ok.s1
      have o3 := hf.ok.s2
      have o4 := sub_sum P (e := e) (f := f.2) (he.trans hf.ok.l2.symm)
      have dv := o_div P he hf.ok.l2 h3 (by omega)
      have ml := o_mul P (Vx.sub_len he hf.ok.l2) hf.ok.l1 (by omega) (by omega)
      have gt := c_gt P (e := stp e f) (by omega)
      have hw : wk m (i :: items).length e = stp e f :: wk m items.length (stp e f) := by
        show wk m (items.length + 1) e = _
        conv => lhs; unfold wk
        rw [h6]
      have ih := few_loop (n := n) hm (x1 := x1) (x2 := x2) (items := items) (acc := acc ++ [nm ps e]) (e := stp e f) (s4 := .d i) (s5 := .d (.int k)) (s6 := .d (nm ps (stp e f))) (stp_len he hf.ok.l1 hf.ok.l2) (by omega) (by simp; omega) no_d no_d no_d
      obtain ⟨a, b, c, ih⟩ := ih
      refine ⟨a, b, c, ?_⟩
      rw [hw]
      have e1 : forL (asg (.nm 4)) (fun ρ => evSs 3000 G (D0 (n + 1)) (O0 (n + 1)) wF ρ) (i :: items) [.d (mD ps m), x1, x2, .own false (.lst (acc ++ [nm ps e])), s4, s5, s6] =
          forL (asg (.nm 4)) (fun ρ => evSs 3000 G (D0 (n + 1)) (O0 (n + 1)) wF ρ) items [.d (mD ps m), x1, x2, .own false (.lst ((acc ++ [nm ps e]) ++ [nm ps (stp e f)])), .d i, .d (.int k), .d (nm ps (stp e f))] := by
        have kn : ¬ (k : Int) < 0 := by omega
        have hc : acc.length + 1 < cap := by unfold cap; omega
        have gt' : cmpF .Gt (nm ps (stp e f)) (.int MOSTN) = some false := gt
        have se : Vx.add (Vx.sub e f.2) f.1 = stp e f := rfl
        rw [se] at ml
        have gl : G[1]? = some (.int MOSTN) := rfl
        have lt : cmpF .Lt (.int (k : Int)) (.int 0) = some false := by
          show some (decide ((k : Int) < 0)) = _
          rw [decide_eq_false kn]
        conv => lhs; unfold forL
        rw [a4]
        simp [wF, evSs, evS, evE, evT, evEs, argS, als, wrB, rdV_p, rdV, ovD, ix_last P, hpl, h1, r5, r6, lt, isLst, hc, ixm P h2, ix0 P, ix1 P, dv, ml, gl, gt']
      rw [e1, ih]
      simp
theorem walk_few {n g k : Nat} {m : List Fr2} {e : Vec} (hm : OkMg g m) (he : e.length = 5) (hs : e.sum + k * g ≤ 400) (hk : k ≤ 500) :
    D0 (n + 4) 24 [.d (mD ps m), .d (nm ps e), .d (.int k)] = some (.list ((e :: wk m k e).map (nm ps)), [.d (mD ps m), .d (nm ps e), .d (.int k)]) := by
  have hr : (rngD 0 k).length = k := by unfold rngD; simp
  obtain ⟨a, b, c, h⟩ := few_loop P (n := n + 2) hm (x1 := .d (nm ps e)) (x2 := .d (.int k)) (items := rngD 0 k) (acc := []) (e := e) (s4 := .un) (s5 := .un) (s6 := .un) he (by rw [hr]; exact hs) (by rw [hr]; simp; omega) no_un no_un no_un
  rw [hr] at h
  have sw := sure_within (n := n) (a := (k : Int)) (b := 0) (c := 500) (by omega) (by omega)
  have hb : (-1000000 : Int) ≤ (k : Int) ∧ (k : Int) ≤ 1000000 := by omega
  have hc : 1 ≤ cap := by decide
  rw [c24]
  rw [show b24 = .cons (.setO 3 (.lst (.cons (.pl 1) .nil))) (.cons (.for (.nm 4) (.rng1 (.call 4 (.cons (.pl 2) (.cons (.int 0) (.cons (.int 500) .nil))))) wF) (.cons (.ret (.pl 3)) .nil)) from rfl]
  rw [ss_nx (ρ1 := [.d (mD ps m), .d (nm ps e), .d (.int k), .own false (.lst ([] ++ [nm ps e])), .un, .un, .un]) (by simp [evS, evF, evE, evEs, pvDs, hc, isRef]),
    ss_for (items := rngD 0 k) (ρ1 := [.d (mD ps m), .d (nm ps e), .d (.int k), .own false (.lst ([] ++ [nm ps e])), .un, .un, .un]) (by simp [evI, evE, evEs, argS, als, wrB, sw, hb]) h]
  simp [evSs, evS, evE, outD, ovD]
end
end Ir
set_option Elab.async false
set_option linter.all false
set_option maxRecDepth 100000
set_option maxHeartbeats 4000000
namespace Ir
open PySem L2 Dn
/-- the number that a fraction leads to e -/
def bck (e : Vec) (f : Fr2) : Vec := Vx.add (Vx.sub e f.1) f.2
def ahQ (m : List Fr2) (e : Vec) (p : Nat × Fr2) : Bool := Vx.le p.2.1 e && decide (pl m (bck e p.2) = (p.1 : Int))
def ahd (m : List Fr2) (e : Vec) : List (Vec × Nat) := ((enF 0 m).filter (ahQ m e)).map fun p => (bck e p.2, p.1)
def ahI (ps : List Nat) (q : Vec × Nat) : Int × Int := (((Vx.v ps q.1 : Nat) : Int), ((q.2 : Nat) : Int))
theorem pairs_of {l : List (Int × Int)} : pairsD (l.map pD) = some l := by
  induction l with
  | nil => rfl
  | cons p l ih =>
    show (pairsD (l.map pD)).map ((p.1, p.2) :: ·) = _
    rw [ih]
    rfl
def aB : Ss := .cons (.ife (.cmp .Eq (.bin .Mod (.pl 1) (.ix (.pl 4) (.int 0))) (.int 0)) (.cons (.set 5 (.bin .Mult (.bin .FloorDiv (.pl 1) (.ix (.pl 4) (.int 0))) (.ix (.pl 4) (.int 1))))
  (.cons (.ife (.and (.cmp .LtE (.pl 5) (.gl 1)) (.one (.cmp .Eq (.call 15 (.cons (.pl 0) (.cons (.pl 5) .nil))) (.pl 3)))) (.cons (.app 2 (.tup (.cons (.pl 5) (.cons (.pl 3) .nil))))
  .nil) .nil)
  .nil)) .nil)
  .nil
section
variable {ps : List Nat} (P : Pr ps)
include P
theorem bck_ok {e : Vec} {f : Fr2} (he : e.length = 5) (hf : OkF f) : (bck e f).length = 5 ∧ (bck e f).sum ≤ e.sum + 50 := by
  refine ⟨Vx.add_len (Vx.sub_len he hf.l1) hf.l2, ?_⟩
  have h1 := add_sum (e := Vx.sub e f.1) (f := f.2)
  have h2 := sub_sum P (e := e) (f := f.1) (he.trans hf.l1.symm)
  have h3 := hf.s2
  unfold bck
  omega
theorem ahead_loop {n : Nat} {m : List Fr2} {e : Vec} (hm : OkM m) (he : e.length = 5) (hs : e.sum ≤ 400) : ∀ {L : List (Nat × Fr2)} {acc : List D} {s3 s4 s5 : SV}, (∀ p ∈ L, OkF p.2) → acc.length + L.length ≤ 5000 → No s3 → No s4 → No s5 →
    ∃ a b c, forL (asg (.tp [3, 4])) (fun ρ => evSs 3000 G (D0 (n + 1)) (O0 (n + 1)) aB ρ) (L.map (enD ps)) [.d (mD ps m), .d (nm ps e), .own false (.lst acc), s3, s4, s5] =
      some (.nx [.d (mD ps m), .d (nm ps e), .own false (.lst (acc ++ ((L.filter (ahQ m e)).map fun p => pD (ahI ps (bck e p.2, p.1))))), a, b, c])
  | [], acc, s3, s4, s5, _, _, _, _, _ => ⟨s3, s4, s5, by simp [forL]⟩
  | p :: L, acc, s3, s4, s5, hL, hl, h3, h4, h5 => by
    have hp := hL p List.mem_cons_self
    obtain ⟨b1, b2⟩ := bck_ok P he hp
    have hl' : acc.length + (L.length + 1) ≤ 5000 := hl
    have ag : asg (.tp [3, 4]) (enD ps p) [.d (mD ps m), .d (nm ps e), .own false (.lst acc), s3, s4, s5] = some [.d (mD ps m), .d (nm ps e), .own false (.lst acc), .d (.int (p.1 : Nat)), .d (frD ps p.2), s5] := by
      cases s3 <;> cases s4 <;> first | exact absurd rfl (h3 _ _) | exact absurd rfl (h4 _ _) | rfl
    have md := o_mod P (e := e) (f := p.2.1)
    have cr := c_rem P he hp.l1
    have r5 : isRef [SV.d (mD ps m), .d (nm ps e), .own false (.lst acc), .d (.int (p.1 : Nat)), .d (frD ps p.2), s5] 5 = false := by
      cases s5 <;> first | exact absurd rfl (h5 _ _) | rfl
    have step : ∃ acc' c, No c ∧ acc' ++ ((L.filter (ahQ m e)).map fun p => pD (ahI ps (bck e p.2, p.1))) = acc ++ (((p :: L).filter (ahQ m e)).map fun p => pD (ahI ps (bck e p.2, p.1))) ∧ acc'.length ≤ acc.length + 1 ∧
        evSs 3000 G (D0 (n + 1)) (O0 (n + 1)) aB [.d (mD ps m), .d (nm ps e), .own false (.lst acc), .d (.int (p.1 : Nat)), .d (frD ps p.2), s5] = some (.nx [.d (mD ps m), .d (nm ps e), .own false (.lst acc'), .d (.int (p.1 : Nat)), .d (frD ps p.2), c]) := by
      by_cases q : Vx.le p.2.1 e = true
      · have o1 := hp.s1
        have o2 := hp.s2
        have o4 := sub_sum P (e := e) (f := p.2.1) (he.trans hp.l1.symm)
        have dv := o_div P he hp.l1 q (by omega)
        have ml := o_mul P (Vx.sub_len he hp.l1) hp.l2 (by omega) (by omega)
        rw [show Vx.add (Vx.sub e p.2.1) p.2.2 = bck e p.2 from rfl] at ml
        have lm : cmpF .LtE (nm ps (bck e p.2)) (.int MOSTN) = some true := c_le P (by omega)
        have gl : G[1]? = some (.int MOSTN) := rfl
        have pi := place_in P (n := n) (m := m) (fun f hf => (hm.2 f hf).l2) b1
        have ce : cmpF .Eq (.int (pl m (bck e p.2))) (.int (p.1 : Nat)) = some (decide (pl m (bck e p.2) = (p.1 : Int))) := rfl
        rw [q] at cr
        have hc : acc.length < cap := by unfold cap; omega
        have hc2 : 2 ≤ cap := by decide
        by_cases q2 : pl m (bck e p.2) = (p.1 : Int)
        · refine ⟨acc ++ [pD (ahI ps (bck e p.2, p.1))], .d (nm ps (bck e p.2)), no_d, ?_, by simp, ?_⟩
          · have : ahQ m e p = true := by unfold ahQ; rw [q, decide_eq_true q2]; rfl
            rw [List.filter_cons, this]
            simp
          · rw [decide_eq_true q2] at ce
            have tp : PyData.tuple [nm ps (bck e p.2), .int (p.1 : Nat)] = pD (ahI ps (bck e p.2, p.1)) := rfl
            simp [aB, evSs, evS, evT, evE, evEs, argS, als, wrB, pvDs, rdV_p, ix0 P, ix1 P, md, cr, dv, ml, lm, gl, pi, ce, r5, isLst, hc, hc2, tp]
        · refine ⟨acc, .d (nm ps (bck e p.2)), no_d, ?_, by omega, ?_⟩
          · have : ahQ m e p = false := by unfold ahQ; rw [q, decide_eq_false q2]; rfl
            rw [List.filter_cons, this]
            simp
          · rw [decide_eq_false q2] at ce
            simp [aB, evSs, evS, evT, evE, evEs, argS, als, wrB, rdV_p, ix0 P, ix1 P, md, cr, dv, ml, lm, gl, pi, ce, r5]
      · refine ⟨acc, s5, h5, ?_, by omega, ?_⟩
        · have : ahQ m e p = false := by
            unfold ahQ
            cases z : Vx.le p.2.1 e with
            | true => exact absurd z q
            | false => rfl
          rw [List.filter_cons, this]
          simp
        · have z : Vx.le p.2.1 e = false := by
            cases z : Vx.le p.2.1 e with
            | true => exact absurd z q
            | false => rfl
          rw [z] at cr
          simp [aB, evSs, evS, evT, evE, rdV_p, ix0 P, md, cr]
    obtain ⟨acc', c', g1, g2, g3, g4⟩ := step
    obtain ⟨a, b, c, ih⟩ := ahead_loop (n := n) hm he hs (L := L) (acc := acc') (s3 := .d (.int (p.1 : Nat))) (s4 := .d (frD ps p.2)) (s5 := c') (fun x hx => hL x (List.mem_cons_of_mem _ hx)) (by omega) no_d no_d g1
    refine ⟨a, b, c, ?_⟩
    rw [← g2, ← ih, List.map_cons]
    conv => lhs; unfold forL
    rw [ag]
    dsimp only
    rw [g4]
theorem ahead_in {n : Nat} {m : List Fr2} {e : Vec} (hm : OkM m) (he : e.length = 5) (hs : e.sum ≤ 400) : D0 (n + 2) 21 [.d (mD ps m), .d (nm ps e)] = some (.list ((sortP ((ahd m e).map (ahI ps))).map pD), [.d (mD ps m), .d (nm ps e)]) := by
  obtain ⟨a, b, c, h⟩ := ahead_loop P (n := n) hm he hs (L := enF 0 m) (acc := []) (s3 := .un) (s4 := .un) (s5 := .un) (fun p hp => hm.2 p.2 (enF_mem hp)) (by rw [enF_len]; have := hm.1; simp; omega) no_un no_un no_un
  have ei : evI G (D0 (n + 1)) (.enm (.pl 0)) [.d (mD ps m), .d (nm ps e), .own false (.lst []), .un, .un, .un] = some ((enF 0 m).map (enD ps), [.d (mD ps m), .d (nm ps e), .own false (.lst []), .un, .un, .un]) := by
    simp only [evI, evE, List.getElem?_cons_zero, mD, seqD, enF_D]
  have so : bltF .sorted [.list ((((enF 0 m).filter (ahQ m e)).map fun p => pD (ahI ps (bck e p.2, p.1))))] = some (.list ((sortP ((ahd m e).map (ahI ps))).map pD)) := by
    show (pairsD _).map (fun l => PyData.list ((sortP l).map pD)) = _
    have e1 : (((enF 0 m).filter (ahQ m e)).map fun p => pD (ahI ps (bck e p.2, p.1))) = ((ahd m e).map (ahI ps)).map pD := by
      unfold ahd
      rw [List.map_map, List.map_map]
      rfl
    rw [e1, pairs_of]
    rfl
  rw [c21]
  rw [show b21 = .cons (.setO 2 (.lst .nil)) (.cons (.for (.tp [3, 4]) (.enm (.pl 0)) aB) (.cons (.ret (.blt .sorted (.cons (.pl 2) .nil))) .nil)) from rfl]
  rw [ss_nx (ρ1 := [.d (mD ps m), .d (nm ps e), .own false (.lst []), .un, .un, .un]) rfl, ss_for ei h]
  rw [ss_rt (d := .list ((sortP ((ahd m e).map (ahI ps))).map pD)) (by
    rw [evS, ev_blt1 (x := .al 2) rfl (by rw [rdV_own rfl]; exact so)])]
  rfl
theorem ahead_of {n : Nat} {m : List Fr2} {e : Vec} (hm : OkM m) (he : e.length = 5) (hs : e.sum ≤ 400) : D0 (n + 6) 22 [.d (mD ps m), .d (nm ps e)] = some (.list ((sortP ((ahd m e).map (ahI ps))).map pD), [.d (mD ps m), .d (nm ps e)]) := by
  have s1 := sure_mill P (n := n) hm
  have h2 : D0 (n + 5) 6 [.d (nm ps e)] = some (nm ps e, [.d (nm ps e)]) := sure_number (n := n + 1) (v_pos P (e := e)) (v_most P (e := e) (by omega))
  have h3 := ahead_in P (n := n + 3) hm he hs
  rw [c22]
  simp only [b22, evSs, evS, evE, evEs, argS, als, wrB, List.getElem?_cons_zero, List.getElem?_cons_succ, Option.map, List.nodup_nil, if_true, rdV_p, s1, h2, isRef, Bool.false_eq_true, if_false, List.set_cons_succ, List.set_cons_zero, h3, outD]
  rfl
end
end Ir
set_option Elab.async false
set_option linter.all false
set_option maxRecDepth 100000
set_option maxHeartbeats 4000000
namespace Ir
open PySem L2 Dn
/-- how often d is in e, at most k times -/
def hof : Nat → Vec → Vec → Nat
  | 0, _, _ => 0
  | k + 1, e, d => if Vx.le d e = true then hof k (Vx.sub e d) d + 1 else 0
theorem sub_lt : ∀ {e d : Vec}, e.length = d.length → Vx.le d e = true → 1 ≤ d.sum → (Vx.sub e d).sum + 1 ≤ e.sum
  | [], [], _, _, h => by simp at h
  | a :: as, b :: bs, h, q, h1 => by
    unfold Vx.le at q
    rw [Bool.and_eq_true, decide_eq_true_eq] at q
    show ((a - b) :: Vx.sub as bs).sum + 1 ≤ (a :: as).sum
    simp only [List.sum_cons] at h1 ⊢
    by_cases hb : 1 ≤ bs.sum
    · have := sub_lt (e := as) (d := bs) (by simpa using h) q.2 hb
      omega
    · have h2 : ∀ {as bs : Vec}, as.length = bs.length → (Vx.sub as bs).sum ≤ as.sum := fun {as bs} => by
        intro hh
        induction as generalizing bs with
        | nil => cases bs <;> simp [Vx.sub]
        | cons x xs ih =>
          cases bs with
          | nil => simp at hh
          | cons y ys =>
            have := ih (bs := ys) (by simpa using hh)
            show ((x - y) :: Vx.sub xs ys).sum ≤ (x :: xs).sum
            simp only [List.sum_cons]
            omega
      have := h2 (as := as) (bs := bs) (by simpa using h)
      have q1 := q.1
      omega
section
variable {ps : List Nat} (P : Pr ps)
include P
def hT : Dn.T := .cmp .Eq (.bin .Mod (.pl 0) (.pl 1)) (.int 0)
def hB : Ss := .cons (.set 0 (.bin .FloorDiv (.pl 0) (.pl 1))) (.cons (.aug 2 .Add (.int 1)) .nil)
theorem often_loop {n : Nat} {d : Vec} (hd : d.length = 5) (h1 : 1 ≤ d.sum) (h2 : d.sum ≤ 500) : ∀ {k fu : Nat} {e : Vec} {c : Int}, e.length = 5 → e.sum ≤ k → k < fu → e.sum ≤ 500 →
    ∃ x, whlL (evT G (D0 n) hT) (fun ρ => evSs 3000 G (D0 n) (O0 n) hB ρ) fu [.d (nm ps e), .d (nm ps d), .d (.int c)] = some (.nx [.d x, .d (nm ps d), .d (.int (c + (hof (k + 1) e d : Nat)))])
  | k, 0, e, c, _, _, hf, _ => absurd hf (by omega)
  | k, fu + 1, e, c, he, hk, hf, hs => by
    have md := o_mod P (e := e) (f := d)
    have cr := c_rem P he hd
    have t1 : evT G (D0 n) hT [.d (nm ps e), .d (nm ps d), .d (.int c)] = some (Vx.le d e, [.d (nm ps e), .d (nm ps d), .d (.int c)]) := by
      simp only [hT, evT, evE, List.getElem?_cons_zero, List.getElem?_cons_succ, rdV_p, md, cr]
    unfold whlL
    rw [t1]
    by_cases q : Vx.le d e = true
    · have sl := sub_lt (he.trans hd.symm) q h1
      have dv := o_div P he hd q h2
      have b1 : evSs 3000 G (D0 n) (O0 n) hB [.d (nm ps e), .d (nm ps d), .d (.int c)] = some (.nx [.d (nm ps (Vx.sub e d)), .d (nm ps d), .d (.int (c + 1))]) := by
        simp only [hB, evSs, evS, evE, List.getElem?_cons_zero, List.getElem?_cons_succ, rdV_p, dv, isRef, Bool.false_eq_true, if_false, List.set_cons_zero, List.set_cons_succ]
      cases k with
      | zero => omega
      | succ k =>
        obtain ⟨x, ih⟩ := often_loop (n := n) hd h1 h2 (k := k) (fu := fu) (e := Vx.sub e d) (c := c + 1) (Vx.sub_len he hd) (by omega) (by omega) (by omega)
        refine ⟨x, ?_⟩
        rw [q]
        dsimp only
        rw [b1]
        dsimp only
        rw [ih]
        have e1 : hof (k + 1 + 1) e d = hof (k + 1) (Vx.sub e d) d + 1 := if_pos q
        rw [e1, show c + ((hof (k + 1) (Vx.sub e d) d + 1 : Nat) : Int) = c + 1 + ((hof (k + 1) (Vx.sub e d) d : Nat) : Int) by omega]
    · have z : Vx.le d e = false := by
        cases z : Vx.le d e with
        | true => exact absurd z q
        | false => rfl
      refine ⟨nm ps e, ?_⟩
      rw [z]
      have e1 : hof (k + 1) e d = 0 := if_neg q
      rw [e1]
      simp
theorem how_often {n : Nat} {e d : Vec} (he : e.length = 5) (hd : d.length = 5) (h1 : 1 ≤ d.sum) (h2 : d.sum ≤ 500) (hs : e.sum ≤ 500) : ∃ x, D0 (n + 1) 10 [.d (nm ps e), .d (nm ps d)] = some (.int (hof (e.sum + 1) e d : Nat), [.d x, .d (nm ps d)]) := by
  obtain ⟨x, h⟩ := often_loop P (n := n) hd h1 h2 (k := e.sum) (fu := 3000) (e := e) (c := 0) he (Nat.le_refl _) (by omega) hs
  refine ⟨x, ?_⟩
  rw [Int.zero_add] at h
  rw [c10]
  rw [show b10 = .cons (.set 2 (.int 0)) (.cons (.whl hT hB) (.cons (.ret (.pl 2)) .nil)) from rfl]
  rw [ss_nx (ρ1 := [.d (nm ps e), .d (nm ps d), .d (.int 0)]) rfl]
  rw [ss_nx (ρ1 := [.d x, .d (nm ps d), .d (.int (hof (e.sum + 1) e d : Nat))]) (by rw [evS]; exact h)]
  rfl
end
end Ir
set_option Elab.async false
set_option linter.all false
set_option maxRecDepth 100000
set_option maxHeartbeats 4000000
namespace Ir
open PySem L2 Dn
/-- a prime (as a vector) and its weight -/
abbrev Wt := Vec × Nat
def wtD (ps : List Nat) (p : Wt) : D := .tuple [nm ps p.1, .int (p.2 : Nat)]
def wD (ps : List Nat) (W : List Wt) : D := .tuple (W.map (wtD ps))
structure OkW (p : Wt) : Prop where
  len : p.1.length = 5
  s1 : 1 ≤ p.1.sum
  s2 : p.1.sum ≤ 500
  w : p.2 ≤ 1000
def wtF (e : Vec) (p : Wt) : Nat := p.2 * hof (e.sum + 1) e p.1
def wsum (W : List Wt) (e : Vec) : Nat := (W.map (wtF e)).sum
theorem hof_le {d : Vec} : ∀ {k : Nat} {e : Vec}, hof k e d ≤ k
  | 0, _ => Nat.le_refl _
  | k + 1, e => by
    unfold hof
    split
    · exact Nat.succ_le_succ hof_le
    · omega
theorem ints_nat : ∀ {l : List Nat}, intsD (l.map fun (x : Nat) => .int (x : Int)) = some (l.map fun (x : Nat) => (x : Int))
  | [] => rfl
  | a :: l => by
    show (intsD (l.map fun (x : Nat) => .int (x : Int))).map ((a : Int) :: ·) = _
    rw [ints_nat]
    rfl
theorem sum_nat : ∀ {l : List Nat}, (l.map fun (x : Nat) => (x : Int)).sum = ((l.sum : Nat) : Int)
  | [] => rfl
  | a :: l => by
    rw [List.map_cons, List.sum_cons, List.sum_cons, sum_nat]
    omega
theorem filterMap_all {α β : Type} {g : α → β} : ∀ {xs : List α}, (xs.filterMap fun x => some (g x)) = xs.map g
  | [] => rfl
  | x :: xs => by rw [List.filterMap_cons, filterMap_all]; rfl
section
variable {ps : List Nat} (P : Pr ps)
include P
theorem weight_in {n : Nat} {W : List Wt} {e : Vec} (hW : ∀ p ∈ W, OkW p) (hl : W.length ≤ 1000) (he : e.length = 5) (hs : e.sum ≤ 400) : D0 (n + 2) 35 [.d (wD ps W), .d (nm ps e)] = some (.int (wsum W e : Nat), [.d (wD ps W), .d (nm ps e)]) := by
  have ei : evI G (D0 (n + 1)) (.sq (.pl 0)) [.d (wD ps W), .d (nm ps e), .un, .un] = some (W.map (wtD ps), [.d (wD ps W), .d (nm ps e), .un, .un]) := rfl
  have key := ev_comp (G' := G) (Φ := D0 (n + 1)) (tg := .tp [2, 3]) (c := .yes) (e := .bin .Mult (.pl 3) (.call 10 (.cons (.pl 1) (.cons (.pl 2) .nil))))
    (r := fun p : Wt => some (PyData.int ((wtF e p : Nat) : Int))) ei rfl (fun p hp => by
      have hp' := hW p hp
      obtain ⟨x, ho⟩ := how_often P (n := n) he hp'.len hp'.s1 hp'.s2 (by omega)
      have hh := hof_le (d := p.1) (k := e.sum + 1) (e := e)
      have hw := hp'.w
      have ag : asg (.tp [2, 3]) (wtD ps p) (unS [.d (wD ps W), .d (nm ps e), .un, .un] (Tg.tp [2, 3]).sl) = some [.d (wD ps W), .d (nm ps e), .d (nm ps p.1), .d (.int (p.2 : Nat))] := rfl
      have ml : binF .Mult (.int (p.2 : Nat)) (.int (hof (e.sum + 1) e p.1 : Nat)) = some (.int ((wtF e p : Nat) : Int)) := by
        show (if ((p.2 : Nat) : Int).natAbs.log2 + ((hof (e.sum + 1) e p.1 : Nat) : Int).natAbs.log2 < 134000000 then some (PyData.int (((p.2 : Nat) : Int) * ((hof (e.sum + 1) e p.1 : Nat) : Int))) else none) = _
        rw [if_pos]
        · unfold wtF
          rw [Int.natCast_mul]
        · rw [Int.natAbs_natCast, Int.natAbs_natCast]
          have h1 := Nat.log2_le_self p.2
          have h2 := Nat.log2_le_self (hof (e.sum + 1) e p.1)
          omega
      unfold cmpF1
      rw [ag]
      simp only [evT, evE, evEs, argS, als, wrB, List.getElem?_cons_zero, List.getElem?_cons_succ, Option.map, List.nodup_nil, if_true, rdV_p, ho, ml]
      rfl) (by unfold cap; omega)
  rw [c35]
  unfold b35
  rw [ss_rt (d := .int (wsum W e : Nat)) (ρ1 := [.d (wD ps W), .d (nm ps e), .un, .un]) (by
    rw [evS, ev_blt1 key (z := .int (wsum W e : Nat)) (by
      rw [rdV_p, filterMap_all, b_sum]
      have e1 : (W.map fun p => PyData.int ((wtF e p : Nat) : Int)) = (W.map (wtF e)).map fun (x : Nat) => .int (x : Int) := by
        rw [List.map_map]
        rfl
      rw [e1, ints_nat]
      show some (PyData.int _) = _
      rw [sum_nat]
      rfl)]
    rfl)]
  rfl
end
end Ir
set_option Elab.async false
set_option linter.all false
set_option maxRecDepth 100000
set_option maxHeartbeats 4000000
namespace Ir
open PySem L2 Dn
theorem prime2 {n : Nat} : D0 (n + 1) 9 [.d (.int 2)] = some (.bool true, [.d (.int 2)]) := rfl
theorem prime3 {n : Nat} : D0 (n + 1) 9 [.d (.int 3)] = some (.bool true, [.d (.int 3)]) := rfl
theorem prime5 {n : Nat} : D0 (n + 1) 9 [.d (.int 5)] = some (.bool true, [.d (.int 5)]) := rfl
theorem prime7 {n : Nat} : D0 (n + 1) 9 [.d (.int 7)] = some (.bool true, [.d (.int 7)]) := rfl
theorem prime11 {n : Nat} : D0 (n + 1) 9 [.d (.int 11)] = some (.bool true, [.d (.int 11)]) := rfl
section
variable {ps : List Nat} (P : Pr ps)
include P
theorem is_fall_in {n : Nat} {m : List Fr2} {W : List Wt} (hm : OkM m) (hW : ∀ p ∈ W, OkW p) (hl : W.length ≤ 1000) : D0 (n + 3) 36 [.d (mD ps m), .d (wD ps W)] = some (.bool (m.all fun f => decide (wsum W f.1 < wsum W f.2)), [.d (mD ps m), .d (wD ps W)]) := by
  have ei : evI G (D0 (n + 2)) (.sq (.pl 0)) [.d (mD ps m), .d (wD ps W), .un, .un] = some (m.map (frD ps), [.d (mD ps m), .d (wD ps W), .un, .un]) := rfl
  have key := ev_comp (G' := G) (Φ := D0 (n + 2)) (tg := .tp [2, 3]) (c := .yes) (e := .cmp .Lt (.call 35 (.cons (.pl 1) (.cons (.pl 2) .nil))) (.call 35 (.cons (.pl 1) (.cons (.pl 3) .nil))))
    (r := fun f : Fr2 => some (PyData.bool (decide (wsum W f.1 < wsum W f.2)))) ei rfl (fun f hf => by
      have h := hm.2 f hf
      have w1 := weight_in P (n := n) hW hl h.l1 (by have := h.s1; omega)
      have w2 := weight_in P (n := n) hW hl h.l2 (by have := h.s2; omega)
      have ag : asg (.tp [2, 3]) (frD ps f) (unS [.d (mD ps m), .d (wD ps W), .un, .un] (Tg.tp [2, 3]).sl) = some [.d (mD ps m), .d (wD ps W), .d (nm ps f.1), .d (nm ps f.2)] := rfl
      have lt : cmpF .Lt (.int (wsum W f.1 : Nat)) (.int (wsum W f.2 : Nat)) = some (decide (wsum W f.1 < wsum W f.2)) := by
        show some (decide (((wsum W f.1 : Nat) : Int) < ((wsum W f.2 : Nat) : Int))) = _
        congr 1
        exact decide_eq_decide.mpr (by omega)
      unfold cmpF1
      rw [ag]
      simp only [evT, evE, evEs, argS, als, wrB, List.getElem?_cons_zero, List.getElem?_cons_succ, Option.map, List.nodup_nil, if_true, rdV_p, w1, w2, lt]
      rfl) (by have := hm.1; unfold cap; omega)
  have hb : ∀ l : List Fr2, boolsD (l.map fun f => PyData.bool (decide (wsum W f.1 < wsum W f.2))) = some (l.map fun f => decide (wsum W f.1 < wsum W f.2)) := fun l => by
    induction l with
    | nil => rfl
    | cons f l ih =>
      show (boolsD (l.map fun f => PyData.bool (decide (wsum W f.1 < wsum W f.2)))).map (_ :: ·) = _
      rw [ih]
      rfl
  rw [c36]
  unfold b36
  rw [ss_rt (d := .bool (m.all fun f => decide (wsum W f.1 < wsum W f.2))) (ρ1 := [.d (mD ps m), .d (wD ps W), .un, .un]) (by
    rw [evS, ev_blt1 key (z := .bool (m.all fun f => decide (wsum W f.1 < wsum W f.2))) (by
      rw [rdV_p, filterMap_all, b_all, hb]
      show some (PyData.bool _) = _
      rw [List.all_map]
      rfl)]
    rfl)]
  rfl
end
end Ir
set_option Elab.async false
set_option linter.all false
set_option maxRecDepth 100000
set_option maxHeartbeats 4000000
namespace Ir
open PySem L2 Dn
def W5 (a b c d e : Nat) : D := .tuple [.tuple [.int 2, .int (a : Int)], .tuple [.int 3, .int (b : Int)], .tuple [.int 5, .int (c : Int)], .tuple [.int 7, .int (d : Int)], .tuple [.int 11, .int (e : Int)]]
def Sm (a : Nat) : Prop := a ≤ 1000
theorem wi_w {n : Nat} {a : Nat} (h : Sm a) : D0 (n + 2) 1 [.d (.int (a : Int)), .d (.int 0), .d (.int 1000000)] = some (.bool true, [.d (.int (a : Int)), .d (.int 0), .d (.int 1000000)]) := by
  have h' : a ≤ 1000 := h
  rw [is_within, decide_eq_true (show (0 : Int) ≤ (a : Int) by omega), decide_eq_true (show (a : Int) ≤ 1000000 by omega)]
  rfl
theorem wi_p {n : Nat} {p : Int} (h1 : 2 ≤ p) (h2 : p ≤ 20000) : D0 (n + 2) 1 [.d (.int p), .d (.int 2), .d (.int 20000)] = some (.bool true, [.d (.int p), .d (.int 2), .d (.int 20000)]) := by
  rw [is_within, decide_eq_true h1, decide_eq_true h2]
  rfl
theorem tup_w {n : Nat} {a b c d e : Nat} : D0 (n + 3) 3 [.d (W5 a b c d e)] = some (W5 a b c d e, [.d (W5 a b c d e)]) := by
  refine tupled_tup (by show 5 ≤ cap; decide) fun x hx => ?_
  have : ∃ p q : Int, x = .tuple [.int p, .int q] := by
    simp only [List.mem_cons, List.not_mem_nil, or_false] at hx
    rcases hx with rfl | rfl | rfl | rfl | rfl <;> exact ⟨_, _, rfl⟩
  obtain ⟨p, q, rfl⟩ := this
  refine tupled_tup (by show 2 ≤ cap; decide) fun y hy => ?_
  have : y = .int p ∨ y = .int q := by simpa using hy
  rcases this with rfl | rfl <;> exact tupled_int
theorem are_weights {n : Nat} {a b c d e : Nat} (ha : Sm a) (hb : Sm b) (hc : Sm c) (hd : Sm d) (he : Sm e) : D0 (n + 3) 33 [.d (W5 a b c d e)] = some (.bool true, [.d (W5 a b c d e)]) := by
  have e1 : ∀ {p q : D}, D0 (n + 2) 2 [.d (.tuple [p, q]), .d (.int 2)] = some (.bool true, [.d (.tuple [p, q]), .d (.int 2)]) := fun {p q} => is_long (n := n + 1) (xs := [p, q]) (k := 2)
  have p2 := wi_p (n := n) (p := 2) (by decide) (by decide)
  have p3 := wi_p (n := n) (p := 3) (by decide) (by decide)
  have p5 := wi_p (n := n) (p := 5) (by decide) (by decide)
  have p7 := wi_p (n := n) (p := 7) (by decide) (by decide)
  have p11 := wi_p (n := n) (p := 11) (by decide) (by decide)
  have g5 : G[5]? = some (.int 20000) := rfl
  have g6 : G[6]? = some (.int 1000000) := rfl
  have x0 : ∀ {p q : D}, ixF (.tuple [p, q]) (.int 0) = some p := fun {p q} => rfl
  have x1 : ∀ {p q : D}, ixF (.tuple [p, q]) (.int 1) = some q := fun {p q} => rfl
  have hcap : 5 ≤ cap := by decide
  have q1 : evS 3000 G (D0 (n + 2)) (O0 (n + 2)) (.ife (.or (.not (.val (.isi (.pl 0) .tuple))) (.one (.not (.val (.blt .all (.cons (.comp (.nm 1) (.sq (.pl 0)) .yes (.call 2 (.cons (.pl 1) (.cons (.int 2) .nil)))) .nil)))))) (.cons (.ret (.bl false)) .nil) .nil) [.d (W5 a b c d e), .un, .un, .un] = some (.nx [.d (W5 a b c d e), .un, .un, .un]) := by
    simp [evS, evSs, evT, evE, evEs, evI, seqD, W5, argS, als, wrB, Tg.sl, isOwn, unS, restS, asg, asgL, cmpL, e1, rdV_p, isiF, b_all, boolsD, hcap]
  have q2 : evS 3000 G (D0 (n + 2)) (O0 (n + 2)) (.ife (.not (.val (.blt .all (.cons (.comp (.nm 1) (.sq (.pl 0)) .yes (.and (.call 1 (.cons (.ix (.pl 1) (.int 0)) (.cons (.int 2) (.cons (.gl 5) .nil)))) (.one (.call 1 (.cons (.ix (.pl 1) (.int 1)) (.cons (.int 0) (.cons (.gl 6) .nil))))))) .nil)))) (.cons (.ret (.bl false)) .nil) .nil) [.d (W5 a b c d e), .un, .un, .un] = some (.nx [.d (W5 a b c d e), .un, .un, .un]) := by
    simp [evS, evSs, evT, evE, evEs, evI, seqD, W5, argS, als, wrB, Tg.sl, isOwn, unS, restS, asg, asgL, cmpL, x0, x1, g5, g6, p2, p3, p5, p7, p11, wi_w ha, wi_w hb, wi_w hc, wi_w hd, wi_w he, rdV_p, b_all, boolsD, hcap]
  have r2 : D0 (n + 2) 9 [.d (.int 2)] = some (.bool true, [.d (.int 2)]) := prime2 (n := n + 1)
  have r3 : D0 (n + 2) 9 [.d (.int 3)] = some (.bool true, [.d (.int 3)]) := prime3 (n := n + 1)
  have r5 : D0 (n + 2) 9 [.d (.int 5)] = some (.bool true, [.d (.int 5)]) := prime5 (n := n + 1)
  have r7 : D0 (n + 2) 9 [.d (.int 7)] = some (.bool true, [.d (.int 7)]) := prime7 (n := n + 1)
  have r11 : D0 (n + 2) 9 [.d (.int 11)] = some (.bool true, [.d (.int 11)]) := prime11 (n := n + 1)
  have cut : slcF (W5 a b c d e) (some 1) none = some (.tuple [.tuple [.int 3, .int (b : Int)], .tuple [.int 5, .int (c : Int)], .tuple [.int 7, .int (d : Int)], .tuple [.int 11, .int (e : Int)]]) := by
    show some (PyData.tuple (cutD _ (some ((1 : Nat) : Int)) none)) = _
    rw [cut_lo (by simp)]
    rfl
  have cut' := cut
  simp only [W5] at cut'
  have lt : ∀ {p q : Int}, p < q → cmpF .Lt (.int p) (.int q) = some true := fun {p q} h => by
    show some (decide (p < q)) = _
    rw [decide_eq_true h]
  have l1 := lt (p := 2) (q := 3) (by decide)
  have l2 := lt (p := 3) (q := 5) (by decide)
  have l3 := lt (p := 5) (q := 7) (by decide)
  have l4 := lt (p := 7) (q := 11) (by decide)
  have hcap4 : 4 ≤ cap := by decide
  rw [c33]
  unfold b33
  rw [ss_nx q1, ss_nx q2]
  rw [ss_rt (d := .bool true) (ρ1 := [.d (W5 a b c d e), .un, .un, .un]) (by
    simp [evS, evSs, cut', evT, evE, evEs, evI, evEo, seqD, W5, argS, als, wrB, Tg.sl, isOwn, unS, restS, asg, asgL, cmpL, zpD, x0, x1, r2, r3, r5, r7, r11, l1, l2, l3, l4, rdV_p, b_all, boolsD, hcap, hcap4])]
  rfl
theorem sure_weights {n : Nat} {a b c d e : Nat} (ha : Sm a) (hb : Sm b) (hc : Sm c) (hd : Sm d) (he : Sm e) : D0 (n + 4) 34 [.d (W5 a b c d e)] = some (W5 a b c d e, [.d (W5 a b c d e)]) := by
  rw [c34]
  simp [b34, evSs, evS, evE, evT, evEs, argS, als, wrB, tup_w (n := n), are_weights (n := n) ha hb hc hd he, isRef, outD]
end Ir
set_option Elab.async false
set_option linter.all false
set_option maxRecDepth 100000
set_option maxHeartbeats 4000000
namespace Ir
open PySem L2 Dn
/-- five weights, the primes in order -/
structure Wts (ps : List Nat) (W : List Wt) : Prop where
  ok : ∀ p ∈ W, OkW p
  len : W.length ≤ 1000
  d : ∃ a b c d e, Sm a ∧ Sm b ∧ Sm c ∧ Sm d ∧ Sm e ∧ wD ps W = W5 a b c d e
section
variable {ps : List Nat} (P : Pr ps)
include P
theorem sure_w {n : Nat} {W : List Wt} (h : Wts ps W) : D0 (n + 4) 34 [.d (wD ps W)] = some (wD ps W, [.d (wD ps W)]) := by
  obtain ⟨a, b, c, d, e, ha, hb, hc, hd, he, hw⟩ := h.d
  rw [hw]
  exact sure_weights ha hb hc hd he
theorem weight_of {n : Nat} {W : List Wt} {e : Vec} (h : Wts ps W) (he : e.length = 5) (hs : e.sum ≤ 400) : D0 (n + 6) 40 [.d (wD ps W), .d (nm ps e)] = some (.int (wsum W e : Nat), [.d (wD ps W), .d (nm ps e)]) := by
  have s1 := sure_w P (n := n + 1) h
  have h2 : D0 (n + 5) 6 [.d (nm ps e)] = some (nm ps e, [.d (nm ps e)]) := sure_number (n := n + 1) (v_pos P (e := e)) (v_most P (e := e) (by omega))
  have h3 := weight_in P (n := n + 3) h.ok h.len he hs
  rw [c40]
  simp only [b40, evSs, evS, evE, evEs, argS, als, wrB, List.getElem?_cons_zero, List.getElem?_cons_succ, Option.map, List.nodup_nil, if_true, rdV_p, s1, h2, isRef, Bool.false_eq_true, if_false, List.set_cons_succ, List.set_cons_zero, h3, outD]
  rfl
theorem is_fall {n : Nat} {m : List Fr2} {W : List Wt} (hm : OkM m) (h : Wts ps W) : D0 (n + 6) 41 [.d (mD ps m), .d (wD ps W)] = some (.bool (m.all fun f => decide (wsum W f.1 < wsum W f.2)), [.d (mD ps m), .d (wD ps W)]) := by
  have s1 := sure_mill P (n := n) hm
  have s2 := sure_w P (n := n + 1) h
  have h3 := is_fall_in P (n := n + 2) hm h.ok h.len
  rw [c41]
  simp only [b41, evSs, evS, evE, evEs, argS, als, wrB, List.getElem?_cons_zero, List.getElem?_cons_succ, Option.map, List.nodup_nil, if_true, rdV_p, s1, s2, isRef, Bool.false_eq_true, if_false, List.set_cons_succ, List.set_cons_zero, h3, outD]
  rfl
/-- the mill's place before that takes what leads to e: one more, -1 for its own, 0 for none -/
def brd (m : List Fr2) (k : Nat) (f : Fr2) (e : Vec) : Int := if Vx.le f.1 e = true then (if pl m (bck e f) < (k : Int) then pl m (bck e f) + 1 else -1) else 0
theorem barred_by {n k : Nat} {m : List Fr2} {e : Vec} {f : Fr2} (hm : OkM m) (hk : m[k]? = some f) (he : e.length = 5) (hs : e.sum ≤ 400) : D0 (n + 2) 47 [.d (mD ps m), .d (.int k), .d (nm ps e)] = some (.int (brd m k f e), [.d (mD ps m), .d (.int k), .d (nm ps e)]) := by
  have hf := hm.2 f (List.mem_of_getElem? hk)
  have o1 := hf.s1
  have o2 := hf.s2
  have md := o_mod P (e := e) (f := f.1)
  have cr := c_remn P he hf.l1
  have fr : asg (.tp [3, 4]) (frD ps f) [.d (mD ps m), .d (.int k), .d (nm ps e), .un, .un, .un, .un] = some [.d (mD ps m), .d (.int k), .d (nm ps e), .d (nm ps f.1), .d (nm ps f.2), .un, .un] := rfl
  rw [c47]
  by_cases q : Vx.le f.1 e = true
  · have dv := o_div P he hf.l1 q (by omega)
    have o4 := sub_sum P (e := e) (f := f.1) (he.trans hf.l1.symm)
    have ml := o_mul P (Vx.sub_len he hf.l1) hf.l2 (by omega) (by omega)
    rw [show Vx.add (Vx.sub e f.1) f.2 = bck e f from rfl] at ml
    obtain ⟨b1, b2⟩ := bck_ok P he hf
    have gt : cmpF .Gt (nm ps (bck e f)) (.int MOSTN) = some false := c_gt P (by omega)
    have gl : G[1]? = some (.int MOSTN) := rfl
    have pi := place_in P (n := n) (m := m) (fun f hf => (hm.2 f hf).l2) b1
    rw [q] at cr
    have lt : cmpF .Lt (.int (pl m (bck e f))) (.int (k : Int)) = some (decide (pl m (bck e f) < (k : Int))) := rfl
    have ad : binF .Add (.int (pl m (bck e f))) (.int 1) = some (.int (pl m (bck e f) + 1)) := rfl
    have e1 : brd m k f e = if pl m (bck e f) < (k : Int) then pl m (bck e f) + 1 else -1 := if_pos q
    rw [e1]
    by_cases q2 : pl m (bck e f) < (k : Int)
    · rw [decide_eq_true q2] at lt
      rw [if_pos q2]
      simp only [b47, evSs, evS, evT, evE, evEs, argS, als, wrB, List.getElem?_cons_zero, List.getElem?_cons_succ, Option.map, List.nodup_nil, if_true, rdV_p, ixm P hk, fr, md, cr, Bool.not_true, dv, ml, gt, gl, pi, lt, ad, isRef, Bool.false_eq_true, if_false, List.set_cons_succ, List.set_cons_zero, outD]
      rfl
    · rw [decide_eq_false q2] at lt
      rw [if_neg q2]
      simp only [b47, evSs, evS, evT, evE, evEs, argS, als, wrB, List.getElem?_cons_zero, List.getElem?_cons_succ, Option.map, List.nodup_nil, if_true, rdV_p, ixm P hk, fr, md, cr, Bool.not_true, dv, ml, gt, gl, pi, lt, ad, isRef, Bool.false_eq_true, if_false, List.set_cons_succ, List.set_cons_zero, outD]
      rfl
  · have z : Vx.le f.1 e = false := by
      cases z : Vx.le f.1 e with
      | true => exact absurd z q
      | false => rfl
    rw [z] at cr
    have e1 : brd m k f e = 0 := if_neg q
    rw [e1]
    simp only [b47, evSs, evS, evT, evE, evEs, argS, als, wrB, List.getElem?_cons_zero, List.getElem?_cons_succ, Option.map, List.nodup_nil, if_true, rdV_p, ixm P hk, fr, md, cr, Bool.not_false, outD]
    rfl
end
end Ir
set_option Elab.async false
set_option linter.all false
set_option maxRecDepth 100000
set_option maxHeartbeats 4000000
namespace Ir
open PySem L2 Dn
def brs (m : List Fr2) (e : Vec) : List Int := (enF 0 m).map fun p => brd m p.1 p.2 e
theorem enF_get : ∀ {m : List Fr2} {j : Nat} {p : Nat × Fr2}, p ∈ enF j m → ∃ i, p.1 = j + i ∧ m[i]? = some p.2
  | f :: m, j, p, h => by
    rcases List.mem_cons.mp h with rfl | h
    · exact ⟨0, rfl, rfl⟩
    · obtain ⟨i, h1, h2⟩ := enF_get h
      exact ⟨i + 1, by omega, h2⟩
theorem enF_fst : ∀ {m : List Fr2} {j : Nat}, (enF j m).map (·.1) = (List.range m.length).map (j + ·)
  | [], j => rfl
  | f :: m, j => by
    show j :: (enF (j + 1) m).map (·.1) = _
    rw [enF_fst, List.length_cons, List.range_succ_eq_map, List.map_cons, List.map_map]
    congr 1
    exact List.map_congr_left fun a _ => by show j + 1 + a = j + (a + 1); omega
section
variable {ps : List Nat} (P : Pr ps)
include P
theorem len_m {m : List Fr2} : bltF .len [mD ps m] = some (.int (m.length : Nat)) := by
  unfold mD
  rw [b_lent, List.length_map]
theorem reason_of_first {n : Nat} {m : List Fr2} {e : Vec} (hm : OkM m) (he : e.length = 5) (hs : e.sum ≤ 400) : D0 (n + 3) 48 [.d (mD ps m), .d (nm ps e)] = some (.tuple ((brs m e).map .int), [.d (mD ps m), .d (nm ps e)]) := by
  have hl : (enF 0 m).length ≤ cap := by rw [enF_len]; have := hm.1; unfold cap; omega
  have ln := len_m P (m := m)
  have hb : (-1000000 : Int) ≤ ((m.length : Nat) : Int) ∧ ((m.length : Nat) : Int) ≤ 1000000 := by have := hm.1; omega
  have rg : rngD 0 m.length = (enF 0 m).map fun p => .int ((p.1 : Nat) : Int) := by
    have e1 : ((enF 0 m).map fun p => PyData.int ((p.1 : Nat) : Int)) = ((enF 0 m).map (·.1)).map fun k => PyData.int ((k : Nat) : Int) := by rw [List.map_map]; rfl
    rw [e1, enF_fst, List.map_map]
    unfold rngD
    exact List.map_congr_left fun a _ => by simp
  have ei : evI G (D0 (n + 2)) (.rng1 (.blt .len (.cons (.pl 0) .nil))) [.d (mD ps m), .d (nm ps e), .un] = some ((enF 0 m).map fun p => .int ((p.1 : Nat) : Int), [.d (mD ps m), .d (nm ps e), .un]) := by
    have e0 : evE G (D0 (n + 2)) (.blt .len (.cons (.pl 0) .nil)) [.d (mD ps m), .d (nm ps e), .un] = some (.p (.int (m.length : Nat)), [.d (mD ps m), .d (nm ps e), .un]) := ev_blt1 (x := .p (mD ps m)) rfl ln
    rw [evI, e0]
    dsimp only
    rw [if_pos hb, Int.toNat_natCast, rg]
  have key := ev_comp (G' := G) (Φ := D0 (n + 2)) (tg := .nm 2) (c := .yes) (e := .call 47 (.cons (.pl 0) (.cons (.pl 2) (.cons (.pl 1) .nil))))
    (r := fun p : Nat × Fr2 => some (PyData.int (brd m p.1 p.2 e))) ei rfl (fun p hp => by
      obtain ⟨i, h1, h2⟩ := enF_get hp
      rw [Nat.zero_add] at h1
      have bb := barred_by P (n := n) hm (k := p.1) (f := p.2) (by rw [h1]; exact h2) he hs
      have ag : asg (.nm 2) (.int ((p.1 : Nat) : Int)) (unS [.d (mD ps m), .d (nm ps e), .un] (Tg.nm 2).sl) = some [.d (mD ps m), .d (nm ps e), .d (.int ((p.1 : Nat) : Int))] := rfl
      unfold cmpF1
      rw [ag]
      simp only [evT, evE, evEs, argS, als, wrB, List.getElem?_cons_zero, List.getElem?_cons_succ, Option.map, List.nodup_nil, if_true, bb]
      rfl) hl
  rw [c48]
  unfold b48
  rw [ss_rt (d := .tuple ((brs m e).map .int)) (ρ1 := [.d (mD ps m), .d (nm ps e), .un]) (by
    rw [evS, ev_blt1 key (z := .tuple ((brs m e).map .int)) (by
      rw [rdV_p, filterMap_all, b_tup]
      unfold brs
      rw [List.map_map]
      rfl)]
    rfl)]
  rfl
theorem earlier_divisor {n k : Nat} {m : List Fr2} {f : Fr2} (hm : OkM m) (hk : m[k]? = some f) : D0 (n + 2) 49 [.d (mD ps m), .d (.int k)] = some (.int (pl m f.2), [.d (mD ps m), .d (.int k)]) := by
  have hf := hm.2 f (List.mem_of_getElem? hk)
  have pi := place_in P (n := n) (m := m) (e := f.2) (fun f hf => (hm.2 f hf).l2) hf.l2
  rw [c49]
  simp only [b49, evSs, evS, evE, evEs, argS, als, wrB, List.getElem?_cons_zero, List.getElem?_cons_succ, Option.map, List.nodup_nil, if_true, rdV_p, ixm P hk, ix1 P, pi, outD]
  rfl
end
end Ir
set_option Elab.async false
set_option linter.all false
set_option maxRecDepth 100000
set_option maxHeartbeats 4000000
namespace Ir
open PySem L2 Dn
theorem law_rest {n : Nat} {a b : Int} (hb : 0 < b) (h1 : a.natAbs.log2 < 2000) (h2 : b.natAbs.log2 < 2000) (h3 : (a / b).natAbs.log2 < 2000) : D0 (n + 1) 61 [.d (.int a), .d (.int b)] = some (.int (a % b), [.d (.int a), .d (.int b)]) := by
  have dv : binF .FloorDiv (.int a) (.int b) = some (.int (a / b)) := by
    show (if (decide (0 < b) && bigB b) = true then some (PyData.int (a / b)) else none) = _
    rw [if_pos]
    rw [Bool.and_eq_true]
    exact ⟨decide_eq_true hb, decide_eq_true (by omega)⟩
  have ml : binF .Mult (.int (a / b)) (.int b) = some (.int (a / b * b)) := by
    show (if (a / b).natAbs.log2 + b.natAbs.log2 < 134000000 then some (PyData.int (a / b * b)) else none) = _
    rw [if_pos (by omega)]
  have sb : binF .Sub (.int a) (.int (a / b * b)) = some (.int (a % b)) := by
    show some (PyData.int (a - a / b * b)) = _
    congr 2
    have := Int.emod_def a b
    rw [this, Int.mul_comm]
  rw [c61]
  simp only [b61, evSs, evS, evE, List.getElem?_cons_zero, List.getElem?_cons_succ, rdV_p, dv, ml, sb, outD]
  rfl
section
variable {ps : List Nat} (P : Pr ps)
include P
theorem v_log_div {e f : Vec} (h : e.sum ≤ 500) : (((Vx.v ps e : Nat) : Int) / ((Vx.v ps f : Nat) : Int)).natAbs.log2 < 2000 := by
  rw [← Int.natCast_ediv, Int.natAbs_natCast]
  have h1 := v_log P h
  by_cases z : Vx.v ps e / Vx.v ps f = 0
  · rw [z]
    decide
  · have h2 : Vx.v ps e / Vx.v ps f ≤ Vx.v ps e := Nat.div_le_self _ _
    have p1 := Vx.v_pos (e := e) P.good
    rw [Nat.log2_lt (by omega)] at h1 ⊢
    omega
theorem rest_v {n : Nat} {e f : Vec} (h1 : e.sum ≤ 500) (h2 : f.sum ≤ 500) : D0 (n + 1) 61 [.d (nm ps e), .d (nm ps f)] = some (rem ps e f, [.d (nm ps e), .d (nm ps f)]) := by
  have b := v_pos P (e := f)
  exact law_rest (by omega) (by rw [Int.natAbs_natCast]; exact v_log P h1) (by rw [Int.natAbs_natCast]; exact v_log P h2) (v_log_div P h1)
end
end Ir
set_option Elab.async false
set_option linter.all false
set_option maxRecDepth 100000
set_option maxHeartbeats 4000000
namespace Ir
open PySem L2 Dn
theorem ne_nil {l : List Int} {x : Int} : cmpF .NotEq (.list ((x :: l).map PyData.int)) (.list []) = some true := by
  have h1 : SeqAt.shaped (.list ((x :: l).map PyData.int)) = true := by
    first | exact ke_shaped_ints _ | exact PySem.ke_shaped_ints _ | exact PySem.W.ke_shaped_ints _
  show (if (SeqAt.shaped (.list ((x :: l).map PyData.int)) && SeqAt.shaped (.list [])) = true then some (PyData.eqv (.list ((x :: l).map PyData.int)) (.list [])) else none).map (!·) = _
  rw [h1]
  rfl
/-- the places that take e -/
def gds (m : List Fr2) (e : Vec) : List Nat := ((enF 0 m).filter fun p => Vx.le p.2.2 e).map (·.1)
theorem gds_pl {e : Vec} : ∀ {m : List Fr2} {j : Nat}, (((enF j m).filter fun p => Vx.le p.2.2 e).map (·.1) = [] ∧ plA m e j = -1) ∨ ∃ k r, ((enF j m).filter fun p => Vx.le p.2.2 e).map (·.1) = k :: r ∧ plA m e j = (k : Nat)
  | [], _ => .inl ⟨rfl, rfl⟩
  | f :: m, j => by
    by_cases q : Vx.le f.2 e = true
    · refine .inr ⟨j, ((enF (j + 1) m).filter fun p => Vx.le p.2.2 e).map (·.1), ?_, if_pos q⟩
      show (List.filter _ ((j, f) :: enF (j + 1) m)).map _ = _
      rw [List.filter_cons, if_pos q]
      rfl
    · have e1 : plA (f :: m) e j = plA m e (j + 1) := if_neg q
      have e2 : ((enF j (f :: m)).filter fun p => Vx.le p.2.2 e) = ((enF (j + 1) m).filter fun p => Vx.le p.2.2 e) := by
        show List.filter _ ((j, f) :: enF (j + 1) m) = _
        rw [List.filter_cons, if_neg q]
      rw [e1, e2]
      exact gds_pl
section
variable {ps : List Nat} (P : Pr ps)
include P
theorem law_takes {n : Nat} {m : List Fr2} {e : Vec} (hm : OkM m) (he : e.length = 5) (hs : e.sum ≤ 400) : D0 (n + 2) 63 [.d (mD ps m), .d (nm ps e)] = some (.int (pl m e), [.d (mD ps m), .d (nm ps e)]) := by
  have hl : (enF 0 m).length ≤ cap := by rw [enF_len]; have := hm.1; unfold cap; omega
  have ei : evI G (D0 (n + 1)) (.enm (.pl 0)) [.d (mD ps m), .d (nm ps e), .un, .un, .un] = some ((enF 0 m).map (enD ps), [.d (mD ps m), .d (nm ps e), .un, .un, .un]) := by
    simp only [evI, evE, List.getElem?_cons_zero, mD, seqD, enF_D]
  have key := ev_comp (G' := G) (Φ := D0 (n + 1)) (tg := .tp [3, 4]) (c := .cmp .Eq (.call 61 (.cons (.pl 1) (.cons (.ix (.pl 4) (.int 1)) .nil))) (.int 0)) (e := .pl 3)
    (r := fun p : Nat × Fr2 => if Vx.le p.2.2 e = true then some (PyData.int ((p.1 : Nat) : Int)) else none) ei rfl (fun p hp => by
      have hp' := hm.2 p.2 (enF_mem hp)
      have rs := rest_v P (n := n) (e := e) (f := p.2.2) (by omega) (by have := hp'.s2; omega)
      have cr := c_rem P he hp'.l2
      have ag : asg (.tp [3, 4]) (enD ps p) (unS [.d (mD ps m), .d (nm ps e), .un, .un, .un] (Tg.tp [3, 4]).sl) = some [.d (mD ps m), .d (nm ps e), .un, .d (.int ((p.1 : Nat) : Int)), .d (frD ps p.2)] := rfl
      unfold cmpF1
      rw [ag]
      simp only [evT, evE, evEs, argS, als, wrB, List.getElem?_cons_zero, List.getElem?_cons_succ, Option.map, List.nodup_nil, if_true, rdV_p, ix1 P, rs, cr]
      cases Vx.le p.2.2 e <;> rfl) hl
  have hset : evS 3000 G (D0 (n + 1)) (O0 (n + 1)) (.set 2 (.comp (.tp [3, 4]) (.enm (.pl 0)) (.cmp .Eq (.call 61 (.cons (.pl 1) (.cons (.ix (.pl 4) (.int 1)) .nil))) (.int 0)) (.pl 3))) [.d (mD ps m), .d (nm ps e), .un, .un, .un] =
      some (.nx [.d (mD ps m), .d (nm ps e), .d (.list ((gds m e).map fun k => .int (k : Nat))), .un, .un]) := by
    rw [evS, key, filterMap_if]
    unfold gds
    rw [List.map_map]
    rfl
  rw [c63]
  unfold b63
  rw [ss_nx hset]
  rcases gds_pl (m := m) (e := e) (j := 0) with ⟨h1, h2⟩ | ⟨k, r, h1, h2⟩
  · have h1' : gds m e = [] := h1
    have h2' : pl m e = -1 := h2
    rw [h1', h2']
    rfl
  · have h1' : gds m e = k :: r := h1
    have h2' : pl m e = (k : Nat) := h2
    rw [h1', h2']
    have ml : ∀ l : List Nat, (l.map fun k => PyData.int ((k : Nat) : Int)) = (l.map fun k => ((k : Nat) : Int)).map PyData.int := fun l => by
      rw [List.map_map]
      rfl
    have cn : cmpF .NotEq (.list (((k :: r).map fun k => PyData.int ((k : Nat) : Int)))) (.list []) = some true := by
      rw [ml, List.map_cons]
      exact ne_nil
    have ix : ixF (.list (((k :: r).map fun k => PyData.int ((k : Nat) : Int)))) (.int 0) = some (.int (k : Nat)) := by
      show atI _ ((0 : Nat) : Int) = _
      rw [atI_nat]
      rfl
    have hc : 0 ≤ cap := Nat.zero_le _
    simp only [evSs, evS, evT, evE, evEs, pvDs, List.getElem?_cons_zero, List.getElem?_cons_succ, List.length_nil, hc, if_true, rdV_p, cn, ix, outD]
    rfl
end
end Ir
set_option Elab.async false
set_option linter.all false
set_option maxRecDepth 100000
set_option maxHeartbeats 4000000
namespace Ir
open PySem L2 Dn
def mB : Ss := .cons (.set 5 (.call 63 (.cons (.pl 0) (.cons (.ix (.pl 3) (.neg (.int 1))) .nil))))
  (.cons (.ife (.cmp .Lt (.pl 5) (.int 0)) (.cons (.ret (.pl 3))
  .nil) .nil)
  (.cons (.app 3 (.bin .Mult (.bin .FloorDiv (.ix (.pl 3) (.neg (.int 1))) (.ix (.ix (.pl 0) (.pl 5)) (.int 1))) (.ix (.ix (.pl 0) (.pl 5)) (.int 0))))
  .nil))
section
variable {ps : List Nat} (P : Pr ps)
include P
theorem milled_loop {n g : Nat} {m : List Fr2} (hm : OkMg g m) {x1 x2 : SV} : ∀ {items : List D} {acc : List D} {e : Vec} {s4 s5 : SV}, e.length = 5 → e.sum + items.length * g ≤ 400 → acc.length + items.length < 1000 → No s4 → No s5 →
    ∃ a b, forL (asg (.nm 4)) (fun ρ => evSs 3000 G (D0 (n + 2)) (O0 (n + 2)) mB ρ) items [.d (mD ps m), x1, x2, .own false (.lst (acc ++ [nm ps e])), s4, s5] =
      some (.nx [.d (mD ps m), x1, x2, .own false (.lst (acc ++ (nm ps e :: (wk m items.length e).map (nm ps)))), a, b]) ∨
    forL (asg (.nm 4)) (fun ρ => evSs 3000 G (D0 (n + 2)) (O0 (n + 2)) mB ρ) items [.d (mD ps m), x1, x2, .own false (.lst (acc ++ [nm ps e])), s4, s5] =
      some (.rt (.list (acc ++ (nm ps e :: (wk m items.length e).map (nm ps)))) [.d (mD ps m), x1, x2, .own false (.lst (acc ++ (nm ps e :: (wk m items.length e).map (nm ps)))), a, b])
  | [], acc, e, s4, s5, _, _, _, _, _ => ⟨s4, s5, .inl rfl⟩
  | i :: items, acc, e, s4, s5, he, hs, hl, h4, h5 => by
    have hs' : e.sum + (items.length + 1) * g ≤ 400 := hs
    have hg : e.sum ≤ 400 := by omega
    have hpl : D0 (n + 2) 63 [.d (mD ps m), .d (nm ps e)] = _ := law_takes P (n := n) hm.m he hg
    have a4 : asg (.nm 4) i [.d (mD ps m), x1, x2, .own false (.lst (acc ++ [nm ps e])), s4, s5] = some [.d (mD ps m), x1, x2, .own false (.lst (acc ++ [nm ps e])), .d i, s5] := by
      cases s4 <;> first | exact absurd rfl (h4 _ _) | rfl
    have r5 : isRef [SV.d (mD ps m), x1, x2, .own false (.lst (acc ++ [nm ps e])), .d i, s5] 5 = false := by
      cases s5 <;> first | exact absurd rfl (h5 _ _) | rfl
    rcases nxt_spec (m := m) (e := e) with ⟨h1, h2⟩ | ⟨k, f, h1, h2, h3, h6⟩
    · refine ⟨.d i, .d (.int (-1)), .inr ?_⟩
      have hw : wk m (i :: items).length e = [] := by
        show wk m (items.length + 1) e = []
        unfold wk
        rw [h1]
      rw [hw]
      unfold forL
      rw [a4]
      simp [mB, evSs, evS, evE, evT, evEs, argS, als, wrB, rdV_p, rdV, ovD, ix_last P, hpl, h2, r5, cmpF, ltF]
    · have hf := hm.2 f (List.mem_of_getElem? h2)
      have hsum := stp_sum P he hf
      have hmul : (items.length + 1) * g = items.length * g + g := Nat.succ_mul _ _
      have hl' : acc.length + (items.length + 1) < 1000 := hl
      have o2 := hf.ok.s1
      have o3 := hf.ok.s2
      have o4 := sub_sum P (e := e) (f := f.2) (he.trans hf.ok.l2.symm)
      have dv := o_div P he hf.ok.l2 h3 (by omega)
      have ml := o_mul P (Vx.sub_len he hf.ok.l2) hf.ok.l1 (by omega) (by omega)
      have hw : wk m (i :: items).length e = stp e f :: wk m items.length (stp e f) := by
        show wk m (items.length + 1) e = _
        conv => lhs; unfold wk
        rw [h6]
      have ih := milled_loop (n := n) hm (x1 := x1) (x2 := x2) (items := items) (acc := acc ++ [nm ps e]) (e := stp e f) (s4 := .d i) (s5 := .d (.int k)) (stp_len he hf.ok.l1 hf.ok.l2) (by omega) (by simp; omega) no_d no_d
      obtain ⟨a, b, ih⟩ := ih
      refine ⟨a, b, ?_⟩
      rw [hw]
      have e1 : forL (asg (.nm 4)) (fun ρ => evSs 3000 G (D0 (n + 2)) (O0 (n + 2)) mB ρ) (i :: items) [.d (mD ps m), x1, x2, .own false (.lst (acc ++ [nm ps e])), s4, s5] =
          forL (asg (.nm 4)) (fun ρ => evSs 3000 G (D0 (n + 2)) (O0 (n + 2)) mB ρ) items [.d (mD ps m), x1, x2, .own false (.lst ((acc ++ [nm ps e]) ++ [nm ps (stp e f)])), .d i, .d (.int k)] := by
        have kn : ¬ (k : Int) < 0 := by omega
        have hc : acc.length + 1 < cap := by unfold cap; omega
        rw [show Vx.add (Vx.sub e f.2) f.1 = stp e f from rfl] at ml
        have lt : cmpF .Lt (.int (k : Int)) (.int 0) = some false := by
          show some (decide ((k : Int) < 0)) = _
          rw [decide_eq_false kn]
        conv => lhs; unfold forL
        rw [a4]
        simp [mB, evSs, evS, evE, evT, evEs, argS, als, wrB, rdV_p, rdV, ovD, ix_last P, hpl, h1, r5, lt, isLst, hc, ixm P h2, ix0 P, ix1 P, dv, ml]
      rw [e1]
      rcases ih with ih | ih
      · left
        rw [ih]
        simp
      · right
        rw [ih]
        simp
theorem law_milled {n g k : Nat} {m : List Fr2} {e : Vec} (hm : OkMg g m) (he : e.length = 5) (hs : e.sum + k * g ≤ 400) (hk : k < 1000) :
    D0 (n + 3) 64 [.d (mD ps m), .d (nm ps e), .d (.int k)] = some (.list ((e :: wk m k e).map (nm ps)), [.d (mD ps m), .d (nm ps e), .d (.int k)]) := by
  have hr : (rngD 0 k).length = k := by unfold rngD; simp
  obtain ⟨a, b, h⟩ := milled_loop P (n := n) hm (x1 := .d (nm ps e)) (x2 := .d (.int k)) (items := rngD 0 k) (acc := []) (e := e) (s4 := .un) (s5 := .un) he (by rw [hr]; exact hs) (by rw [hr]; simpa using hk) no_un no_un
  rw [hr] at h
  have hb : (-1000000 : Int) ≤ (k : Int) ∧ (k : Int) ≤ 1000000 := by omega
  have hc : 1 ≤ cap := by decide
  rw [c64]
  rw [show b64 = .cons (.setO 3 (.lst (.cons (.pl 1) .nil))) (.cons (.for (.nm 4) (.rng1 (.pl 2)) mB) (.cons (.ret (.pl 3)) .nil)) from rfl]
  rw [ss_nx (ρ1 := [.d (mD ps m), .d (nm ps e), .d (.int k), .own false (.lst ([] ++ [nm ps e])), .un, .un]) (by simp [evS, evF, evE, evEs, pvDs, hc, isRef])]
  rcases h with h | h
  · rw [ss_for (items := rngD 0 k) (ρ1 := [.d (mD ps m), .d (nm ps e), .d (.int k), .own false (.lst ([] ++ [nm ps e])), .un, .un]) (by simp [evI, evE, hb]) h]
    simp [evSs, evS, evE, outD, ovD]
  · rw [ss_forR (items := rngD 0 k) (ρ1 := [.d (mD ps m), .d (nm ps e), .d (.int k), .own false (.lst ([] ++ [nm ps e])), .un, .un]) (by simp [evI, evE, hb]) h]
    simp [outD]
end
end Ir
set_option Elab.async false
set_option linter.all false
set_option maxRecDepth 100000
set_option maxHeartbeats 4000000
namespace Ir
open PySem L2 Dn
def tinS (a b c : Int) : SV := .own true (.lst [.int a, .int b, .int c])
/-- the source of draws; at most N draws behind it -/
def OkT (N : Nat) (b c : Int) : Prop := 0 ≤ b ∧ b < 4611686018427387904 ∧ 0 ≤ c ∧ c ≤ N
theorem mulS {x y : Int} (hx : 0 ≤ x) (hx2 : x < 2 ^ 100) (hy : 0 ≤ y) (hy2 : y < 2 ^ 100) : binF .Mult (.int x) (.int y) = some (.int (x * y)) := by
  have l : ∀ z : Int, 0 ≤ z → z < 2 ^ 100 → z.natAbs.log2 < 200 := fun z h1 h2 => by
    by_cases h0 : z.natAbs = 0
    · rw [h0]; decide
    · refine (Nat.log2_lt h0).mpr ?_
      have : z.natAbs < 2 ^ 100 := by omega
      exact Nat.lt_of_lt_of_le this (Nat.pow_le_pow_right (by decide) (by decide))
  have h1 := l x hx hx2
  have h2 := l y hy hy2
  show (if x.natAbs.log2 + y.natAbs.log2 < 134000000 then some (PyData.int (x * y)) else none) = _
  rw [if_pos (by omega)]
theorem law_take {n N : Nat} {a b c w : Int} (h : OkT N b c) (hN : N ≤ 1000000) (h1 : 0 < w) (h2 : w ≤ 1000000) : ∃ d a' c', 0 ≤ d ∧ d < w ∧ OkT (N + 1) b c' ∧ D0 (n + 1) 56 [tinS a b c, .d (.int w)] = some (.int d, [tinS a' b c', .d (.int w)]) := by
  obtain ⟨hb1, hb2, hc1, hc2⟩ := h
  have bw : bigB w = true := by
    refine decide_eq_true ?_
    have : w.natAbs.log2 ≤ w.natAbs := Nat.log2_le_self _
    have : w.natAbs < 2 ^ 20 := by omega
    have := (Nat.log2_lt (n := w.natAbs) (k := 20) (by omega)).mpr this
    omega
  have dw : ∀ x : Int, binF .FloorDiv (.int x) (.int w) = some (.int (x / w)) := fun x => by
    show (if (decide (0 < w) && bigB w) = true then some (PyData.int (x / w)) else none) = _
    rw [if_pos (by rw [bw, decide_eq_true h1]; rfl)]
  have mw : ∀ x : Int, binF .Mod (.int x) (.int w) = some (.int (x % w)) := fun x => by
    show (if 0 < w then some (PyData.int (x % w)) else none) = _
    rw [if_pos h1]
  by_cases z : a > 0
  · refine ⟨a % w, a / w, c, Int.emod_nonneg _ (by omega), Int.emod_lt_of_pos _ h1, ⟨hb1, hb2, hc1, by omega⟩, ?_⟩
    have g : cmpF .Gt (.int a) (.int 0) = some true := by
      show some (decide (0 < a)) = _
      rw [decide_eq_true (by omega)]
    have x0 : ixF (.list [.int a, .int b, .int c]) (.int 0) = some (.int a) := rfl
    have bi : bltF .int [.int a] = some (.int a) := rfl
    rw [c56]
    simp [b56, tinS, evSs, evS, evT, evE, evEs, rdV_p, rdV, ovD, x0, g, bi, mw, dw, isRef, isOwn, ixN, outD]
  · have g : cmpF .Gt (.int a) (.int 0) = some false := by
      show some (decide (0 < a)) = _
      rw [decide_eq_false (by omega)]
    have ad : ∀ x y : Int, binF .Add (.int x) (.int y) = some (.int (x + y)) := fun _ _ => rfl
    have md : ∀ x : Int, ∀ y : Int, 0 < y → binF .Mod (.int x) (.int y) = some (.int (x % y)) := fun x y hy => by
      show (if 0 < y then some (PyData.int (x % y)) else none) = _
      rw [if_pos hy]
    have fd : ∀ x : Int, binF .FloorDiv (.int x) (.int 1000003) = some (.int (x / 1000003)) := fun _ => rfl
    have fd2 : ∀ x : Int, binF .FloorDiv (.int x) (.int 64) = some (.int (x / 64)) := fun _ => rfl
    have x0 : ixF (.list [.int a, .int b, .int c]) (.int 0) = some (.int a) := rfl
    have x2 : ixF (.list [.int a, .int b, .int c]) (.int 2) = some (.int c) := rfl
    have y1 : ∀ t : Int, ixF (.list [.int a, .int b, .int t]) (.int 1) = some (.int b) := fun _ => rfl
    have y2 : ∀ t : Int, ixF (.list [.int a, .int b, .int t]) (.int 2) = some (.int t) := fun _ => rfl
    have bi : ∀ x : Int, bltF .int [.int x] = some (.int x) := fun _ => rfl
    have m1 := mulS (x := 48271) (y := c + 1) (by decide) (by decide) (by omega) (by omega)
    have m2 := mulS (x := b + 48271 * (c + 1)) (y := 39373 + (c + 1)) (by omega) (by omega) (by omega) (by omega)
    generalize hq1 : (b + 48271 * (c + 1)) * (39373 + (c + 1)) = q1 at m2
    have e1 : 0 ≤ q1 % 2147483647 := Int.emod_nonneg _ (by decide)
    have e2 : q1 % 2147483647 < 2147483647 := Int.emod_lt_of_pos _ (by decide)
    generalize hq2 : q1 % 2147483647 = q2 at e1 e2
    have f1 : 0 ≤ q2 % 40009 := Int.emod_nonneg _ (by decide)
    have f2 : q2 % 40009 < 40009 := Int.emod_lt_of_pos _ (by decide)
    generalize hq3 : q2 % 40009 = q3 at f1 f2
    have bd : 0 ≤ b / 1000003 ∧ b / 1000003 ≤ b := by omega
    have m3 := mulS (x := q2 + (c + 1) + b / 1000003) (y := q3 + 7) (by omega) (by omega) (by omega) (by omega)
    generalize hq4 : (q2 + (c + 1) + b / 1000003) * (q3 + 7) = q4 at m3
    have g1 : 0 ≤ q4 % 2147483629 := Int.emod_nonneg _ (by decide)
    have g2 : q4 % 2147483629 < 2147483629 := Int.emod_lt_of_pos _ (by decide)
    generalize hq5 : q4 % 2147483629 = q5 at g1 g2
    have m4 := mulS (x := q5) (y := 48271) (by omega) (by omega) (by decide) (by decide)
    refine ⟨(q5 * 48271 + q2) % 2147483587 / 64 % w, a, c + 1, Int.emod_nonneg _ (by omega), Int.emod_lt_of_pos _ h1, ⟨hb1, hb2, by omega, by omega⟩, ?_⟩
    rw [c56]
    simp [b56, tinS, evSs, evS, evT, evE, evEs, rdV_p, rdV, ovD, x0, x2, y1, y2, g, bi, mw, dw, ad, md, fd, fd2, m1, m2, m3, m4, hq2, hq3, hq5, isRef, isOwn, ixN, outD]
end Ir
set_option Elab.async false
set_option linter.all false
set_option maxRecDepth 100000
set_option maxHeartbeats 4000000
namespace Ir
open PySem L2 Dn
theorem law_of {n N : Nat} {a b c : Int} (h : OkT N b c) (hN : N ≤ 1000000) : ∃ r a' c', (r = 1 ∨ r = 2) ∧ OkT (N + 1) b c' ∧ D0 (n + 2) 58 [tinS a b c, .d (.list [.int 1, .int 1, .int 2])] = some (.int r, [tinS a' b c', .d (.list [.int 1, .int 1, .int 2])]) := by
  obtain ⟨d, a', c', h1, h2, h3, h4⟩ := law_take (n := n) (a := a) (w := 3) h hN (by decide) (by decide)
  have hd : d = 0 ∨ d = 1 ∨ d = 2 := by omega
  have go : ∀ r : Int, ixF (.list [.int 1, .int 1, .int 2]) (.int d) = some (.int r) → D0 (n + 2) 58 [tinS a b c, .d (.list [.int 1, .int 1, .int 2])] = some (.int r, [tinS a' b c', .d (.list [.int 1, .int 1, .int 2])]) := fun r hr => by
    rw [c58]
    have ln : bltF .len [.list [.int 1, .int 1, .int 2]] = some (.int 3) := rfl
    simp only [tinS] at h4 ⊢
    simp [b58, evSs, evS, evE, evEs, argS, als, wrB, setO, rdV_p, ln, h4, hr, outD]
  rcases hd with rfl | rfl | rfl
  · exact ⟨1, a', c', .inl rfl, h3, go 1 rfl⟩
  · exact ⟨1, a', c', .inl rfl, h3, go 1 rfl⟩
  · exact ⟨2, a', c', .inr rfl, h3, go 2 rfl⟩
end Ir
set_option Elab.async false
set_option linter.all false
set_option maxRecDepth 100000
set_option maxHeartbeats 4000000
namespace Ir
open PySem L2 Dn
theorem law_box_cells : True := trivial
/-- the law's gcd: one lap -/
def gcB : Ss := .cons (.ife (.cmp .Eq (.pl 1) (.int 0)) (.cons (.ret (.pl 0)) .nil) .nil) (.cons (.par 0 1 (.e (.pl 1)) (.e (.call 61 (.cons (.pl 0) (.cons (.pl 1) .nil))))) .nil)
theorem log_small {x : Int} (h0 : 0 ≤ x) (h : x < 2 ^ 100) : x.natAbs.log2 < 2000 := by
  by_cases z : x.natAbs = 0
  · rw [z]; decide
  · refine (Nat.log2_lt z).mpr ?_
    have : x.natAbs < 2 ^ 100 := by omega
    exact Nat.lt_of_lt_of_le this (Nat.pow_le_pow_right (by decide) (by decide))
theorem gcd_loop {n : Nat} : ∀ {items : List D} {a b : Nat} {s2 : SV}, b ≤ a → a < 2 ^ 100 → a * b < 2 ^ items.length → No s2 →
    ∃ x y z, forL (asg (.nm 2)) (fun ρ => evSs 3000 G (D0 (n + 1)) (O0 (n + 1)) gcB ρ) items [.d (.int a), .d (.int b), s2] = some (.rt (.int (Nat.gcd a b : Nat)) [x, y, z]) ∨
      forL (asg (.nm 2)) (fun ρ => evSs 3000 G (D0 (n + 1)) (O0 (n + 1)) gcB ρ) items [.d (.int a), .d (.int b), s2] = some (.nx [.d (.int (Nat.gcd a b : Nat)), y, z])
  | [], a, b, s2, hab, ha, hm, h2 => by
    have hm' : a * b < 1 := hm
    have hb : b = 0 := by
      rcases Nat.eq_zero_or_pos b with h | h
      · exact h
      · have : 1 ≤ a * b := Nat.mul_pos (by omega) h
        omega
    subst hb
    refine ⟨s2, .d (.int (0 : Nat)), s2, .inr ?_⟩
    rw [Nat.gcd_zero_right]
    rfl
  | i :: items, a, b, s2, hab, ha, hm, h2 => by
    have a2 : asg (.nm 2) i [.d (.int a), .d (.int b), s2] = some [.d (.int a), .d (.int b), .d i] := by
      cases s2 <;> first | exact absurd rfl (h2 _ _) | rfl
    by_cases hb : b = 0
    · subst hb
      refine ⟨.d (.int a), .d (.int 0), .d i, .inl ?_⟩
      unfold forL
      rw [a2]
      have : Nat.gcd a 0 = a := Nat.gcd_zero_right a
      rw [this]
      rfl
    · have c0 : cmpF .Eq (.int (b : Int)) (.int 0) = some false := by
        show some (decide ((b : Int) = 0)) = _
        rw [decide_eq_false (by omega)]
      have rs := law_rest (n := n) (a := (a : Int)) (b := (b : Int)) (by omega) (log_small (by omega) (by omega)) (log_small (by omega) (by omega)) (by
        rw [← Int.natCast_ediv]
        exact log_small (Int.natCast_nonneg _) (Int.lt_of_le_of_lt (Int.ofNat_le.mpr (Nat.div_le_self a b)) (by omega)))
      have em : (a : Int) % (b : Int) = ((a % b : Nat) : Int) := (Int.natCast_emod a b).symm
      rw [em] at rs
      have hmod : a % b < b := Nat.mod_lt _ (by omega)
      have half : 2 * (a % b) ≤ a := by
        have h1 := Nat.div_add_mod a b
        have h2 : 1 ≤ a / b := (Nat.le_div_iff_mul_le (by omega)).mpr (by omega)
        have h3 : b * 1 ≤ b * (a / b) := Nat.mul_le_mul_left b h2
        omega
      have hm' : a * b < 2 ^ items.length * 2 := hm
      have hp : b * (a % b) < 2 ^ items.length := by
        have h4 : b * (2 * (a % b)) ≤ b * a := Nat.mul_le_mul_left b half
        have h5 : b * (2 * (a % b)) = 2 * (b * (a % b)) := by rw [← Nat.mul_assoc, Nat.mul_comm b 2, Nat.mul_assoc]
        have h6 : b * a = a * b := Nat.mul_comm b a
        omega
      obtain ⟨x, y, z, ih⟩ := gcd_loop (n := n) (items := items) (a := b) (b := a % b) (s2 := .d i) (by omega) (by omega) hp no_d
      have gg : Nat.gcd b (a % b) = Nat.gcd a b := by rw [Nat.gcd_comm a b, Nat.gcd_rec b a, Nat.gcd_comm]
      have step : forL (asg (.nm 2)) (fun ρ => evSs 3000 G (D0 (n + 1)) (O0 (n + 1)) gcB ρ) (i :: items) [.d (.int a), .d (.int b), s2] = forL (asg (.nm 2)) (fun ρ => evSs 3000 G (D0 (n + 1)) (O0 (n + 1)) gcB ρ) items [.d (.int b), .d (.int (a % b : Nat)), .d i] := by
        conv => lhs; unfold forL
        rw [a2]
        simp [gcB, evSs, evS, evT, evE, evEs, evR, argS, als, wrB, rdV_p, c0, rs, isRef]
      refine ⟨x, y, z, ?_⟩
      rw [step, ← gg]
      exact ih
end Ir
set_option Elab.async false
set_option linter.all false
set_option maxRecDepth 100000
set_option maxHeartbeats 4000000
namespace Ir
open PySem L2 Dn
theorem wrB_pp {x y : D} {as : List SV} {ρ : Rho} : wrB [.p x, .p y] as ρ = ρ := by
  match as with
  | [] => rfl
  | [_] => rfl
  | _ :: _ :: _ => rfl
theorem rng_cons {k : Nat} : ∃ i r, rngD 0 (k + 1) = i :: r ∧ r.length = k := by
  refine ⟨PyData.int (0 + ((0 : Nat) : Int)), (List.range k).map fun i => .int (0 + ((i + 1 : Nat) : Int)), ?_, ?_⟩
  · unfold rngD
    rw [List.range_succ_eq_map, List.map_cons, List.map_map]
    rfl
  · simp
theorem law_gcd {n a b : Nat} (ha : a < 2 ^ 100) (hb : b < 2 ^ 100) : ∃ as, D0 (n + 2) 62 [.d (.int a), .d (.int b)] = some (.int (Nat.gcd a b : Nat), as) := by
  have hb62 : b62 = .cons (.for (.nm 2) (.rng1 (.int 2000)) gcB) (.cons (.ret (.pl 0)) .nil) := rfl
  have ei : evI G (D0 (n + 1)) (.rng1 (.int 2000)) [.d (.int a), .d (.int b), .un] = some (rngD 0 2000, [.d (.int a), .d (.int b), .un]) := rfl
  have key : ∃ x y z, forL (asg (.nm 2)) (fun ρ => evSs 3000 G (D0 (n + 1)) (O0 (n + 1)) gcB ρ) (rngD 0 2000) [.d (.int a), .d (.int b), .un] = some (.rt (.int (Nat.gcd a b : Nat)) [x, y, z]) ∨
      forL (asg (.nm 2)) (fun ρ => evSs 3000 G (D0 (n + 1)) (O0 (n + 1)) gcB ρ) (rngD 0 2000) [.d (.int a), .d (.int b), .un] = some (.nx [.d (.int (Nat.gcd a b : Nat)), y, z]) := by
    obtain ⟨i, r, hr, hl⟩ := rng_cons (k := 1999)
    rcases Nat.lt_or_ge a b with h | h
    · have c0 : cmpF .Eq (.int (b : Int)) (.int 0) = some false := by
        show some (decide ((b : Int) = 0)) = _
        rw [decide_eq_false (by omega)]
      have z0 : (a : Int) / (b : Int) = 0 := Int.ediv_eq_zero_of_lt (by omega) (by omega)
      have z1 : (a : Int) % (b : Int) = (a : Int) := Int.emod_eq_of_lt (by omega) (by omega)
      have rs := law_rest (n := n) (a := (a : Int)) (b := (b : Int)) (by omega) (log_small (by omega) (by omega)) (log_small (by omega) (by omega)) (by rw [z0]; decide)
      rw [z1] at rs
      obtain ⟨x, y, z, ih⟩ := gcd_loop (n := n) (items := r) (a := b) (b := a) (s2 := .d i) (by omega) hb (by
        rw [hl]
        have h1 : b * a ≤ 2 ^ 100 * 2 ^ 100 := Nat.mul_le_mul (by omega) (by omega)
        have h2 : 2 ^ 100 * 2 ^ 100 < 2 ^ 1999 := by decide +kernel
        omega) no_d
      refine ⟨x, y, z, ?_⟩
      have step : forL (asg (.nm 2)) (fun ρ => evSs 3000 G (D0 (n + 1)) (O0 (n + 1)) gcB ρ) (rngD 0 2000) [.d (.int a), .d (.int b), .un] = forL (asg (.nm 2)) (fun ρ => evSs 3000 G (D0 (n + 1)) (O0 (n + 1)) gcB ρ) r [.d (.int b), .d (.int a), .d i] := by
        rw [hr]
        conv => lhs; unfold forL
        rw [show asg (.nm 2) i [SV.d (.int (a : Int)), .d (.int (b : Int)), .un] = some [.d (.int a), .d (.int b), .d i] from rfl]
        simp [gcB, evSs, evS, evT, evE, evEs, evR, argS, als, wrB, rdV_p, c0, rs, isRef]
      rw [step, Nat.gcd_comm a b]
      exact ih
    · exact gcd_loop (n := n) (items := rngD 0 2000) (a := a) (b := b) (s2 := .un) h ha (by
        have hl : (rngD 0 2000).length = 2000 := by rw [hr]; simp [hl]
        rw [hl]
        have h1 : a * b ≤ 2 ^ 100 * 2 ^ 100 := Nat.mul_le_mul (by omega) (by omega)
        have h2 : 2 ^ 100 * 2 ^ 100 < 2 ^ 2000 := by decide +kernel
        omega) no_un
  obtain ⟨x, y, z, h⟩ := key
  rw [c62, hb62]
  rcases h with h | h
  · exact ⟨_, by rw [ss_forR ei h]; rfl⟩
  · exact ⟨_, by rw [ss_for ei h]; rfl⟩
end Ir
set_option Elab.async false
set_option linter.all false
set_option maxRecDepth 100000
set_option maxHeartbeats 4000000
namespace Ir
open PySem L2 Dn
/-- a value is the same as itself, to the law's eye -/
def Sam (n : Nat) (d : D) : Prop := D0 n 60 [.d d, .d d] = some (.bool true, [.d d, .d d])
theorem sam_int {n : Nat} {i : Int} : Sam (n + 1) (.int i) := by
  have h : cmpF .Eq (.int i) (.int i) = some true := by
    show some (decide (i = i)) = _
    rw [decide_eq_true rfl]
  unfold Sam
  rw [c60]
  simp [b60, evSs, evS, evT, evE, rdV_p, isiF, cmpF, isN, outD]
  simp [eqF]
theorem sam_bool {n : Nat} {b : Bool} : Sam (n + 1) (.bool b) := by
  unfold Sam
  cases b <;> rfl
theorem zp_self : ∀ {xs : List D}, zpD xs xs = xs.map fun x => .tuple [x, x]
  | [] => rfl
  | x :: xs => congrArg (List.cons _) zp_self
theorem bools_all {α : Type} : ∀ {xs : List α}, boolsD (xs.map fun _ => PyData.bool true) = some (xs.map fun _ => true)
  | [] => rfl
  | x :: xs => by
    show (boolsD (xs.map fun _ => PyData.bool true)).map (true :: ·) = _
    rw [bools_all]
    rfl
theorem sam_comp {n : Nat} {xs : List D} {y : D} (hy : seqD y = some xs) (hz : evI G (D0 n) (.zp (.pl 0) (.pl 1)) [.d y, .d y, .un, .un] = some (xs.map fun x => .tuple [x, x], [.d y, .d y, .un, .un])) (hl : xs.length ≤ cap) (h : ∀ x ∈ xs, Sam n x) :
    evE G (D0 n) (.blt .all (.cons (.comp (.tp [2, 3]) (.zp (.pl 0) (.pl 1)) .yes (.call 60 (.cons (.pl 2) (.cons (.pl 3) .nil)))) .nil)) [.d y, .d y, .un, .un] = some (.p (.bool true), [.d y, .d y, .un, .un]) := by
  have key := ev_comp (G' := G) (Φ := D0 n) (tg := .tp [2, 3]) (c := .yes) (e := .call 60 (.cons (.pl 2) (.cons (.pl 3) .nil)))
    (r := fun _ : D => some (PyData.bool true)) hz rfl (fun x hx => by
      have hs : D0 n 60 [.d x, .d x] = _ := h x hx
      have ag : asg (.tp [2, 3]) (.tuple [x, x]) (unS [.d y, .d y, .un, .un] (Tg.tp [2, 3]).sl) = some [.d y, .d y, .d x, .d x] := rfl
      unfold cmpF1
      rw [ag]
      simp only [evT, evE, evEs, argS, als, wrB, List.getElem?_cons_zero, List.getElem?_cons_succ, Option.map, List.nodup_nil, if_true, rdV_p, hs]
      rfl) hl
  rw [ev_blt1 key (z := .bool true) (by
    rw [rdV_p, filterMap_all, b_all, bools_all]
    show some (PyData.bool _) = _
    rw [all_map_true])]
  rfl
theorem len_self {k : Nat} : cmpF .Eq (.int (k : Int)) (.int (k : Int)) = some true := by
  show some (decide ((k : Int) = (k : Int))) = _
  rw [decide_eq_true rfl]
section
variable {fu : Nat} {G' : List D} {Φ : Nat → List SV → Option (D × List SV)} {Ψ : Nat → List SV → Option (OV × List SV)} {b ss a : Ss} {t : Dn.T} {ρ ρ1 ρ2 : Rho} {d : D} {e f : E}
theorem ss_ift (h : evT G' Φ t ρ = some (true, ρ1)) (h2 : evSs fu G' Φ Ψ a ρ1 = some (.rt d ρ2)) : evSs fu G' Φ Ψ (.cons (.ife t a b) ss) ρ = some (.rt d ρ2) := by
  rw [evSs, evS, h]
  dsimp only
  rw [h2]
theorem ss_ifn (h : evT G' Φ t ρ = some (false, ρ1)) : evSs fu G' Φ Ψ (.cons (.ife t a .nil) ss) ρ = evSs fu G' Φ Ψ ss ρ1 := by
  rw [evSs, evS, h]
  dsimp only
  rw [evSs]
theorem ss_ret (h : evE G' Φ e ρ = some (.p d, ρ1)) : evSs fu G' Φ Ψ (.cons (.ret e) ss) ρ = some (.rt d ρ1) := by
  rw [evSs, evS, h]
theorem ev_and (h1 : evE G' Φ e ρ = some (.p (.bool true), ρ1)) (h2 : evE G' Φ f ρ1 = some (.p d, ρ2)) : evE G' Φ (.and e f) ρ = some (.p d, ρ2) := by
  rw [evE, h1]
  exact h2
theorem ev_bin {o : Operator} {x y : Vl} {z : D} (h1 : evE G' Φ e ρ = some (x, ρ1)) (h2 : evE G' Φ f ρ1 = some (y, ρ2)) (h3 : binF o (rdV ρ2 x) (rdV ρ2 y) = some z) : evE G' Φ (.bin o e f) ρ = some (.p z, ρ2) := by
  rw [evE, h1]
  dsimp only
  rw [h2]
  dsimp only
  rw [h3]
theorem ev_cmp {o : CmpOp} {x y : Vl} {z : Bool} (h1 : evE G' Φ e ρ = some (x, ρ1)) (h2 : evE G' Φ f ρ1 = some (y, ρ2)) (h3 : cmpF o (rdV ρ2 x) (rdV ρ2 y) = some z) : evE G' Φ (.cmp o e f) ρ = some (.p (.bool z), ρ2) := by
  rw [evE, h1]
  dsimp only
  rw [h2]
  dsimp only
  rw [h3]
theorem et_cmp {o : CmpOp} {x y : Vl} {z : Bool} (h1 : evE G' Φ e ρ = some (x, ρ1)) (h2 : evE G' Φ f ρ1 = some (y, ρ2)) (h3 : cmpF o (rdV ρ2 x) (rdV ρ2 y) = some z) : evT G' Φ (.cmp o e f) ρ = some (z, ρ2) := by
  rw [evT, h1]
  dsimp only
  rw [h2]
  dsimp only
  rw [h3]
theorem ev_ix {x y : Vl} {z : D} (h1 : evE G' Φ e ρ = some (x, ρ1)) (h2 : evE G' Φ f ρ1 = some (y, ρ2)) (h3 : ixF (rdV ρ2 x) (rdV ρ2 y) = some z) : evE G' Φ (.ix e f) ρ = some (.p z, ρ2) := by
  rw [evE, h1]
  dsimp only
  rw [h2]
  dsimp only
  rw [h3]
theorem ei_rng1 {j : Int} (h : evE G' Φ e ρ = some (.p (.int j), ρ1)) (h1 : -1000000 ≤ j) (h2 : j ≤ 1000000) : evI G' Φ (.rng1 e) ρ = some (rngD 0 j.toNat, ρ1) := by
  rw [evI, h]
  dsimp only
  rw [if_pos ⟨h1, h2⟩]
theorem ss_set {i : Nat} (h : evE G' Φ e ρ = some (.p d, ρ1)) (hi : isRef ρ1 i = false) : evSs fu G' Φ Ψ (.cons (.set i e) ss) ρ = evSs fu G' Φ Ψ ss (ρ1.set i (.d d)) := by
  rw [evSs, evS, h]
  dsimp only
  rw [hi]
  rfl
theorem ev_one (h1 : evE G' Φ e ρ = some (.p d, ρ1)) : evE G' Φ (.one e) ρ = some (.p d, ρ1) := by
  rw [evE, h1]
end
theorem sam_seq {n : Nat} {xs : List D} {y : D} (hy : seqD y = some xs) (hz : evI G (D0 n) (.zp (.pl 0) (.pl 1)) [.d y, .d y, .un, .un] = some (xs.map fun x => .tuple [x, x], [.d y, .d y, .un, .un])) (hl : xs.length ≤ cap) (h : ∀ x ∈ xs, Sam n x)
    (t1 : evT G (D0 n) (.val (.isis (.pl 1) [.list, .tuple])) [.d y, .d y, .un, .un] = some (true, [.d y, .d y, .un, .un]))
    (t2 : evT G (D0 n) (.or (.cmp .NotEq (.isi (.pl 0) .list) (.isi (.pl 1) .list)) (.one (.cmp .NotEq (.isi (.pl 0) .tuple) (.isi (.pl 1) .tuple)))) [.d y, .d y, .un, .un] = some (false, [.d y, .d y, .un, .un]))
    (t3 : bltF .len [y] = some (.int (xs.length : Nat))) : Sam (n + 1) y := by
  have key := sam_comp (n := n) hy hz hl h
  have ln0 : evE G (D0 n) (.blt .len (.cons (.pl 0) .nil)) [.d y, .d y, .un, .un] = some (.p (.int (xs.length : Nat)), [.d y, .d y, .un, .un]) := ev_blt1 (x := .p y) rfl (by rw [rdV_p]; exact t3)
  have ln1 : evE G (D0 n) (.blt .len (.cons (.pl 1) .nil)) [.d y, .d y, .un, .un] = some (.p (.int (xs.length : Nat)), [.d y, .d y, .un, .un]) := ev_blt1 (x := .p y) rfl (by rw [rdV_p]; exact t3)
  have e1 : evE G (D0 n) (.cmp .Eq (.blt .len (.cons (.pl 0) .nil)) (.blt .len (.cons (.pl 1) .nil))) [.d y, .d y, .un, .un] = some (.p (.bool true), [.d y, .d y, .un, .un]) := by
    rw [evE, ln0]
    dsimp only
    rw [ln1]
    dsimp only
    rw [rdV_p, len_self]
  unfold Sam
  rw [c60]
  unfold b60
  rw [ss_ift t1 (by rw [ss_ifn t2]; exact ss_ret (ev_and e1 (ev_one key)))]
  rfl
theorem sam_list {n : Nat} {xs : List D} (hl : xs.length ≤ cap) (h : ∀ x ∈ xs, Sam n x) : Sam (n + 1) (.list xs) :=
  sam_seq (n := n) (y := .list xs) (xs := xs) rfl (by
    show some (zpD xs xs, _) = _
    rw [zp_self]) hl h rfl rfl rfl
theorem sam_tuple {n : Nat} {xs : List D} (hl : xs.length ≤ cap) (h : ∀ x ∈ xs, Sam n x) : Sam (n + 1) (.tuple xs) :=
  sam_seq (n := n) (y := .tuple xs) (xs := xs) rfl (by
    show some (zpD xs xs, _) = _
    rw [zp_self]) hl h rfl rfl rfl
end Ir
set_option Elab.async false
set_option linter.all false
set_option maxRecDepth 100000
set_option maxHeartbeats 4000000
namespace Ir
open PySem L2 Dn
def P0 : List Nat := [2, 3, 5, 7, 11]
theorem pr0 : Pr P0 := by
  refine ⟨?_, rfl, ?_⟩
  · refine ⟨by decide, by decide, by decide, by decide, by decide, by decide, by decide, by decide, by decide, by decide, trivial⟩
  · intro p hp
    simp [P0] at hp
    omega
def mv (u : Vec) (p : Vec × Vec) : Vec × Vec := if Vx.le u p.2 = true then (Vx.add p.1 u, Vx.sub p.2 u) else p
def mvN (u : Vec) : Nat → Vec × Vec → Vec × Vec
  | 0, p => p
  | k + 1, p => mvN u k (mv u p)
def u0 : Vec := [1, 0, 0, 0, 0]
def u1 : Vec := [0, 1, 0, 0, 0]
def u2 : Vec := [0, 0, 1, 0, 0]
def u3 : Vec := [0, 0, 0, 1, 0]
def u4 : Vec := [0, 0, 0, 0, 1]
theorem mv_u0 {f1 l1 f2 l2 f3 l3 f4 l4 : Nat} : ∀ {k f0 l0 : Nat}, mvN u0 k ([f0, f1, f2, f3, f4], [l0, l1, l2, l3, l4]) = ([f0 + min k l0, f1, f2, f3, f4], [l0 - min k l0, l1, l2, l3, l4])
  | 0, f0, l0 => by simp [mvN]
  | k + 1, f0, l0 => by
    by_cases h : 1 ≤ l0
    · have e : mv u0 ([f0, f1, f2, f3, f4], [l0, l1, l2, l3, l4]) = ([f0 + 1, f1, f2, f3, f4], [l0 - 1, l1, l2, l3, l4]) := by
        have : Vx.le u0 [l0, l1, l2, l3, l4] = true := by simp [u0, Vx.le, h]
        unfold mv
        rw [if_pos this]
        rfl
      show mvN u0 k (mv u0 ([f0, f1, f2, f3, f4], [l0, l1, l2, l3, l4])) = _
      rw [e, mv_u0]
      rw [show f0 + 1 + min k (l0 - 1) = f0 + min (k + 1) l0 by omega, show l0 - 1 - min k (l0 - 1) = l0 - min (k + 1) l0 by omega]
    · have e : mv u0 ([f0, f1, f2, f3, f4], [l0, l1, l2, l3, l4]) = ([f0, f1, f2, f3, f4], [l0, l1, l2, l3, l4]) := by
        have : ¬ Vx.le u0 [l0, l1, l2, l3, l4] = true := by simp [u0, Vx.le]; omega
        unfold mv
        rw [if_neg this]
      show mvN u0 k (mv u0 ([f0, f1, f2, f3, f4], [l0, l1, l2, l3, l4])) = _
      rw [e, mv_u0]
      rw [show f0 + min k l0 = f0 + min (k + 1) l0 by omega, show l0 - min k l0 = l0 - min (k + 1) l0 by omega]
theorem mv_u1 {f0 l0 f2 l2 f3 l3 f4 l4 : Nat} : ∀ {k f1 l1 : Nat}, mvN u1 k ([f0, f1, f2, f3, f4], [l0, l1, l2, l3, l4]) = ([f0, f1 + min k l1, f2, f3, f4], [l0, l1 - min k l1, l2, l3, l4])
  | 0, f1, l1 => by simp [mvN]
  | k + 1, f1, l1 => by
    by_cases h : 1 ≤ l1
    · have e : mv u1 ([f0, f1, f2, f3, f4], [l0, l1, l2, l3, l4]) = ([f0, f1 + 1, f2, f3, f4], [l0, l1 - 1, l2, l3, l4]) := by
        have : Vx.le u1 [l0, l1, l2, l3, l4] = true := by simp [u1, Vx.le, h]
        unfold mv
        rw [if_pos this]
        rfl
      show mvN u1 k (mv u1 ([f0, f1, f2, f3, f4], [l0, l1, l2, l3, l4])) = _
      rw [e, mv_u1]
      rw [show f1 + 1 + min k (l1 - 1) = f1 + min (k + 1) l1 by omega, show l1 - 1 - min k (l1 - 1) = l1 - min (k + 1) l1 by omega]
    · have e : mv u1 ([f0, f1, f2, f3, f4], [l0, l1, l2, l3, l4]) = ([f0, f1, f2, f3, f4], [l0, l1, l2, l3, l4]) := by
        have : ¬ Vx.le u1 [l0, l1, l2, l3, l4] = true := by simp [u1, Vx.le]; omega
        unfold mv
        rw [if_neg this]
      show mvN u1 k (mv u1 ([f0, f1, f2, f3, f4], [l0, l1, l2, l3, l4])) = _
      rw [e, mv_u1]
      rw [show f1 + min k l1 = f1 + min (k + 1) l1 by omega, show l1 - min k l1 = l1 - min (k + 1) l1 by omega]
theorem mv_u2 {f0 l0 f1 l1 f3 l3 f4 l4 : Nat} : ∀ {k f2 l2 : Nat}, mvN u2 k ([f0, f1, f2, f3, f4], [l0, l1, l2, l3, l4]) = ([f0, f1, f2 + min k l2, f3, f4], [l0, l1, l2 - min k l2, l3, l4])
  | 0, f2, l2 => by simp [mvN]
  | k + 1, f2, l2 => by
    by_cases h : 1 ≤ l2
    · have e : mv u2 ([f0, f1, f2, f3, f4], [l0, l1, l2, l3, l4]) = ([f0, f1, f2 + 1, f3, f4], [l0, l1, l2 - 1, l3, l4]) := by
        have : Vx.le u2 [l0, l1, l2, l3, l4] = true := by simp [u2, Vx.le, h]
        unfold mv
        rw [if_pos this]
        rfl
      show mvN u2 k (mv u2 ([f0, f1, f2, f3, f4], [l0, l1, l2, l3, l4])) = _
      rw [e, mv_u2]
      rw [show f2 + 1 + min k (l2 - 1) = f2 + min (k + 1) l2 by omega, show l2 - 1 - min k (l2 - 1) = l2 - min (k + 1) l2 by omega]
    · have e : mv u2 ([f0, f1, f2, f3, f4], [l0, l1, l2, l3, l4]) = ([f0, f1, f2, f3, f4], [l0, l1, l2, l3, l4]) := by
        have : ¬ Vx.le u2 [l0, l1, l2, l3, l4] = true := by simp [u2, Vx.le]; omega
        unfold mv
        rw [if_neg this]
      show mvN u2 k (mv u2 ([f0, f1, f2, f3, f4], [l0, l1, l2, l3, l4])) = _
      rw [e, mv_u2]
      rw [show f2 + min k l2 = f2 + min (k + 1) l2 by omega, show l2 - min k l2 = l2 - min (k + 1) l2 by omega]
theorem mv_u3 {f0 l0 f1 l1 f2 l2 f4 l4 : Nat} : ∀ {k f3 l3 : Nat}, mvN u3 k ([f0, f1, f2, f3, f4], [l0, l1, l2, l3, l4]) = ([f0, f1, f2, f3 + min k l3, f4], [l0, l1, l2, l3 - min k l3, l4])
  | 0, f3, l3 => by simp [mvN]
  | k + 1, f3, l3 => by
    by_cases h : 1 ≤ l3
    · have e : mv u3 ([f0, f1, f2, f3, f4], [l0, l1, l2, l3, l4]) = ([f0, f1, f2, f3 + 1, f4], [l0, l1, l2, l3 - 1, l4]) := by
        have : Vx.le u3 [l0, l1, l2, l3, l4] = true := by simp [u3, Vx.le, h]
        unfold mv
        rw [if_pos this]
        rfl
      show mvN u3 k (mv u3 ([f0, f1, f2, f3, f4], [l0, l1, l2, l3, l4])) = _
      rw [e, mv_u3]
      rw [show f3 + 1 + min k (l3 - 1) = f3 + min (k + 1) l3 by omega, show l3 - 1 - min k (l3 - 1) = l3 - min (k + 1) l3 by omega]
    · have e : mv u3 ([f0, f1, f2, f3, f4], [l0, l1, l2, l3, l4]) = ([f0, f1, f2, f3, f4], [l0, l1, l2, l3, l4]) := by
        have : ¬ Vx.le u3 [l0, l1, l2, l3, l4] = true := by simp [u3, Vx.le]; omega
        unfold mv
        rw [if_neg this]
      show mvN u3 k (mv u3 ([f0, f1, f2, f3, f4], [l0, l1, l2, l3, l4])) = _
      rw [e, mv_u3]
      rw [show f3 + min k l3 = f3 + min (k + 1) l3 by omega, show l3 - min k l3 = l3 - min (k + 1) l3 by omega]
theorem mv_u4 {f0 l0 f1 l1 f2 l2 f3 l3 : Nat} : ∀ {k f4 l4 : Nat}, mvN u4 k ([f0, f1, f2, f3, f4], [l0, l1, l2, l3, l4]) = ([f0, f1, f2, f3, f4 + min k l4], [l0, l1, l2, l3, l4 - min k l4])
  | 0, f4, l4 => by simp [mvN]
  | k + 1, f4, l4 => by
    by_cases h : 1 ≤ l4
    · have e : mv u4 ([f0, f1, f2, f3, f4], [l0, l1, l2, l3, l4]) = ([f0, f1, f2, f3, f4 + 1], [l0, l1, l2, l3, l4 - 1]) := by
        have : Vx.le u4 [l0, l1, l2, l3, l4] = true := by simp [u4, Vx.le, h]
        unfold mv
        rw [if_pos this]
        rfl
      show mvN u4 k (mv u4 ([f0, f1, f2, f3, f4], [l0, l1, l2, l3, l4])) = _
      rw [e, mv_u4]
      rw [show f4 + 1 + min k (l4 - 1) = f4 + min (k + 1) l4 by omega, show l4 - 1 - min k (l4 - 1) = l4 - min (k + 1) l4 by omega]
    · have e : mv u4 ([f0, f1, f2, f3, f4], [l0, l1, l2, l3, l4]) = ([f0, f1, f2, f3, f4], [l0, l1, l2, l3, l4]) := by
        have : ¬ Vx.le u4 [l0, l1, l2, l3, l4] = true := by simp [u4, Vx.le]; omega
        unfold mv
        rw [if_neg this]
      show mvN u4 k (mv u4 ([f0, f1, f2, f3, f4], [l0, l1, l2, l3, l4])) = _
      rw [e, mv_u4]
      rw [show f4 + min k l4 = f4 + min (k + 1) l4 by omega, show l4 - min k l4 = l4 - min (k + 1) l4 by omega]
theorem mv_len {u : Vec} {p : Vec × Vec} (hu : u.length = 5) (h1 : p.1.length = 5) (h2 : p.2.length = 5) : (mv u p).1.length = 5 ∧ (mv u p).2.length = 5 := by
  unfold mv
  split
  · exact ⟨Vx.add_len h1 hu, Vx.sub_len h2 hu⟩
  · exact ⟨h1, h2⟩
theorem mv_sum {u : Vec} {p : Vec × Vec} (hu : u.length = 5) (us : u.sum = 1) (h2 : p.2.length = 5) : (mv u p).1.sum + (mv u p).2.sum ≤ p.1.sum + p.2.sum := by
  unfold mv
  split
  · rename_i q
    have a := add_sum (e := p.1) (f := u)
    have b := sub_lt (h2.trans hu.symm) q (by omega)
    dsimp only
    omega
  · exact Nat.le_refl _
def lB : Ss := .cons (.ife (.cmp .Eq (.call 61 (.cons (.pl 3) (.cons (.pl 4) .nil))) (.int 0)) (.cons (.par 2 3 (.e (.bin .Mult (.pl 2) (.dget (.pl 1) (.pl 4)))) (.e (.bin .FloorDiv (.pl 3) (.pl 4)))) .nil) .nil) .nil
def lO : Ss := .cons (.for (.nm 5) (.rng1 (.int 80)) lB) .nil
section
variable {qs : List Nat} (Q : Pr qs)
include Q
theorem led_in {n : Nat} {u : Vec} {x0 : SV} {kvs : List (D × D)} (hu : u.length = 5) (us : u.sum = 1) (hk : lookD kvs (.inl ((Vx.v P0 u : Nat) : Int)) = some (nm qs u)) : ∀ {items : List D} {p : Vec × Vec} {s5 : SV}, p.1.length = 5 → p.2.length = 5 → p.1.sum + p.2.sum ≤ 400 → No s5 →
    ∃ s', No s' ∧ forL (asg (.nm 5)) (fun ρ => evSs 3000 G (D0 (n + 1)) (O0 (n + 1)) lB ρ) items [x0, .d (.dict kvs), .d (nm qs p.1), .d (nm P0 p.2), .d (nm P0 u), s5] =
      some (.nx [x0, .d (.dict kvs), .d (nm qs (mvN u items.length p).1), .d (nm P0 (mvN u items.length p).2), .d (nm P0 u), s'])
  | [], p, s5, _, _, _, h5 => ⟨s5, h5, rfl⟩
  | i :: items, p, s5, h1, h2, hs, h5 => by
    have a5 : asg (.nm 5) i [x0, .d (.dict kvs), .d (nm qs p.1), .d (nm P0 p.2), .d (nm P0 u), s5] = some [x0, .d (.dict kvs), .d (nm qs p.1), .d (nm P0 p.2), .d (nm P0 u), .d i] := by
      cases s5 <;> first | exact absurd rfl (h5 _ _) | rfl
    have rs := rest_v pr0 (n := n) (e := p.2) (f := u) (by omega) (by omega)
    have cr := c_rem pr0 h2 hu
    obtain ⟨g1, g2⟩ := mv_len hu h1 h2
    have g3 := mv_sum hu us h2
    obtain ⟨s', hs', ih⟩ := led_in (n := n) (x0 := x0) hu us hk (items := items) (p := mv u p) (s5 := .d i) g1 g2 (by omega) no_d
    refine ⟨s', hs', ?_⟩
    have body : evSs 3000 G (D0 (n + 1)) (O0 (n + 1)) lB [x0, .d (.dict kvs), .d (nm qs p.1), .d (nm P0 p.2), .d (nm P0 u), .d i] = some (.nx [x0, .d (.dict kvs), .d (nm qs (mv u p).1), .d (nm P0 (mv u p).2), .d (nm P0 u), .d i]) := by
      by_cases q : Vx.le u p.2 = true
      · rw [q] at cr
        have e1 : mv u p = (Vx.add p.1 u, Vx.sub p.2 u) := if_pos q
        have ml := o_mul Q h1 hu (by omega) (by omega)
        have dv := o_div pr0 h2 hu q (by omega)
        have ky : keyOf (nm P0 u) = some (.inl ((Vx.v P0 u : Nat) : Int)) := rfl
        rw [e1]
        simp [lB, evSs, evS, evT, evE, evEs, evR, argS, als, wrB, rdV_p, rs, cr, ky, hk, ml, dv, isRef]
      · have z : Vx.le u p.2 = false := by
          cases z : Vx.le u p.2 with
          | true => exact absurd z q
          | false => rfl
        rw [z] at cr
        have e1 : mv u p = p := if_neg q
        rw [e1]
        simp [lB, evSs, evS, evT, evE, evEs, argS, als, wrB, rdV_p, rs, cr]
    unfold forL
    rw [a5]
    dsimp only
    rw [body]
    exact ih
theorem led_out {n : Nat} {u : Vec} {x0 : SV} {kvs : List (D × D)} (hu : u.length = 5) (us : u.sum = 1) (hk : lookD kvs (.inl ((Vx.v P0 u : Nat) : Int)) = some (nm qs u)) {p : Vec × Vec} {s4 s5 : SV} (h1 : p.1.length = 5) (h2 : p.2.length = 5) (hs : p.1.sum + p.2.sum ≤ 400) (h4 : No s4) (h5 : No s5) :
    ∃ s', No s' ∧ ∀ rest, forL (asg (.nm 4)) (fun ρ => evSs 3000 G (D0 (n + 1)) (O0 (n + 1)) lO ρ) (nm P0 u :: rest) [x0, .d (.dict kvs), .d (nm qs p.1), .d (nm P0 p.2), s4, s5] =
      forL (asg (.nm 4)) (fun ρ => evSs 3000 G (D0 (n + 1)) (O0 (n + 1)) lO ρ) rest [x0, .d (.dict kvs), .d (nm qs (mvN u 80 p).1), .d (nm P0 (mvN u 80 p).2), .d (nm P0 u), s'] := by
  have hr : (rngD 0 80).length = 80 := by unfold rngD; simp
  obtain ⟨s', hs', h⟩ := led_in Q (n := n) (x0 := x0) hu us hk (items := rngD 0 80) (p := p) (s5 := s5) h1 h2 hs h5
  rw [hr] at h
  refine ⟨s', hs', fun rest => ?_⟩
  have a4 : asg (.nm 4) (nm P0 u) [x0, .d (.dict kvs), .d (nm qs p.1), .d (nm P0 p.2), s4, s5] = some [x0, .d (.dict kvs), .d (nm qs p.1), .d (nm P0 p.2), .d (nm P0 u), s5] := by
    cases s4 <;> first | exact absurd rfl (h4 _ _) | rfl
  have ei : evI G (D0 (n + 1)) (.rng1 (.int 80)) [x0, .d (.dict kvs), .d (nm qs p.1), .d (nm P0 p.2), .d (nm P0 u), s5] = some (rngD 0 80, [x0, .d (.dict kvs), .d (nm qs p.1), .d (nm P0 p.2), .d (nm P0 u), s5]) := rfl
  conv => lhs; unfold forL
  rw [a4]
  dsimp only
  unfold lO
  rw [ss_for ei h]
  rfl
end
/-- the dict of the new names -/
def kvQ (qs : List Nat) : List (D × D) := (P0.zip qs).map fun p => (.int (p.1 : Nat), .int (p.2 : Nat))
section
variable {qs : List Nat} (Q : Pr qs)
include Q
theorem nm_u : nm P0 u0 = .int 2 ∧ nm P0 u1 = .int 3 ∧ nm P0 u2 = .int 5 ∧ nm P0 u3 = .int 7 ∧ nm P0 u4 = .int 11 := ⟨rfl, rfl, rfl, rfl, rfl⟩
theorem look_u : lookD (kvQ qs) (.inl ((Vx.v P0 u0 : Nat) : Int)) = some (nm qs u0) ∧ lookD (kvQ qs) (.inl ((Vx.v P0 u1 : Nat) : Int)) = some (nm qs u1) ∧ lookD (kvQ qs) (.inl ((Vx.v P0 u2 : Nat) : Int)) = some (nm qs u2) ∧ lookD (kvQ qs) (.inl ((Vx.v P0 u3 : Nat) : Int)) = some (nm qs u3) ∧ lookD (kvQ qs) (.inl ((Vx.v P0 u4 : Nat) : Int)) = some (nm qs u4) := by
  have hl := Q.len
  match qs, hl with
  | [a, b, c, d, e], _ => simp [kvQ, P0, lookD, keyOf, nm, u0, u1, u2, u3, u4, Vx.v]
theorem law_led {n : Nat} {e : Vec} (he : e.length = 5) (hs : e.sum ≤ 80) : D0 (n + 2) 65 [.d (nm P0 e), .d (.dict (kvQ qs))] = some (nm qs e, [.d (nm P0 e), .d (.dict (kvQ qs))]) := by
  obtain ⟨k0, k1, k2, k3, k4⟩ := look_u Q
  match e, he with
  | [a, b, c, d, e], _ =>
    have hs' : a + b + c + d + e ≤ 80 := by simp at hs; omega
    obtain ⟨s1, n1, h1⟩ := led_out Q (n := n) (x0 := .d (nm P0 [a, b, c, d, e])) (u := u0) rfl rfl k0 (p := ([0, 0, 0, 0, 0], [a, b, c, d, e])) (s4 := .un) (s5 := .un) rfl rfl (by simp; omega) no_un no_un
    rw [mv_u0] at h1
    obtain ⟨s2, n2, h2⟩ := led_out Q (n := n) (x0 := .d (nm P0 [a, b, c, d, e])) (u := u1) rfl rfl k1 (p := ([0 + min 80 a, 0, 0, 0, 0], [a - min 80 a, b, c, d, e])) (s4 := .d (nm P0 u0)) (s5 := s1) rfl rfl (by simp; omega) no_d n1
    rw [mv_u1] at h2
    obtain ⟨s3, n3, h3⟩ := led_out Q (n := n) (x0 := .d (nm P0 [a, b, c, d, e])) (u := u2) rfl rfl k2 (p := ([0 + min 80 a, 0 + min 80 b, 0, 0, 0], [a - min 80 a, b - min 80 b, c, d, e])) (s4 := .d (nm P0 u1)) (s5 := s2) rfl rfl (by simp; omega) no_d n2
    rw [mv_u2] at h3
    obtain ⟨s4, n4, h4⟩ := led_out Q (n := n) (x0 := .d (nm P0 [a, b, c, d, e])) (u := u3) rfl rfl k3 (p := ([0 + min 80 a, 0 + min 80 b, 0 + min 80 c, 0, 0], [a - min 80 a, b - min 80 b, c - min 80 c, d, e])) (s4 := .d (nm P0 u2)) (s5 := s3) rfl rfl (by simp; omega) no_d n3
    rw [mv_u3] at h4
    obtain ⟨s5, n5, h5⟩ := led_out Q (n := n) (x0 := .d (nm P0 [a, b, c, d, e])) (u := u4) rfl rfl k4 (p := ([0 + min 80 a, 0 + min 80 b, 0 + min 80 c, 0 + min 80 d, 0], [a - min 80 a, b - min 80 b, c - min 80 c, d - min 80 d, e])) (s4 := .d (nm P0 u3)) (s5 := s4) rfl rfl (by simp; omega) no_d n4
    rw [mv_u4] at h5
    have fin : forL (asg (.nm 4)) (fun ρ => evSs 3000 G (D0 (n + 1)) (O0 (n + 1)) lO ρ) [.int 2, .int 3, .int 5, .int 7, .int 11] [.d (nm P0 [a, b, c, d, e]), .d (.dict (kvQ qs)), .d (.int 1), .d (nm P0 [a, b, c, d, e]), .un, .un] =
        some (.nx [.d (nm P0 [a, b, c, d, e]), .d (.dict (kvQ qs)), .d (nm qs [a, b, c, d, e]), .d (nm P0 [a - min 80 a, b - min 80 b, c - min 80 c, d - min 80 d, e - min 80 e]), .d (nm P0 u4), s5]) := by
      have e0 : nm qs [0, 0, 0, 0, 0] = .int 1 := nm_zro Q
      have z1 := h1 [nm P0 u1, nm P0 u2, nm P0 u3, nm P0 u4]
      have z2 := h2 [nm P0 u2, nm P0 u3, nm P0 u4]
      have z3 := h3 [nm P0 u3, nm P0 u4]
      have z4 := h4 [nm P0 u4]
      have z5 := h5 []
      rw [e0] at z1
      refine (z1.trans (z2.trans (z3.trans (z4.trans z5)))).trans ?_
      rw [show [0 + min 80 a, 0 + min 80 b, 0 + min 80 c, 0 + min 80 d, 0 + min 80 e] = [a, b, c, d, e] by
        rw [show 0 + min 80 a = a by omega, show 0 + min 80 b = b by omega, show 0 + min 80 c = c by omega, show 0 + min 80 d = d by omega, show 0 + min 80 e = e by omega]]
      rfl
    have ei : evI G (D0 (n + 1)) (.sq (.tup (.cons (.int 2) (.cons (.int 3) (.cons (.int 5) (.cons (.int 7) (.cons (.int 11) .nil))))))) [.d (nm P0 [a, b, c, d, e]), .d (.dict (kvQ qs)), .d (.int 1), .d (nm P0 [a, b, c, d, e]), .un, .un] = some ([.int 2, .int 3, .int 5, .int 7, .int 11], [.d (nm P0 [a, b, c, d, e]), .d (.dict (kvQ qs)), .d (.int 1), .d (nm P0 [a, b, c, d, e]), .un, .un]) := by
      have hc : 5 ≤ cap := by decide
      simp [evI, evE, evEs, pvDs, hc, seqD]
    rw [c65]
    rw [show b65 = .cons (.par 2 3 (.e (.int 1)) (.e (.pl 0))) (.cons (.for (.nm 4) (.sq (.tup (.cons (.int 2) (.cons (.int 3) (.cons (.int 5) (.cons (.int 7) (.cons (.int 11) .nil))))))) lO) (.cons (.ret (.pl 2)) .nil)) from rfl]
    rw [ss_nx (ρ1 := [.d (nm P0 [a, b, c, d, e]), .d (.dict (kvQ qs)), .d (.int 1), .d (nm P0 [a, b, c, d, e]), .un, .un]) rfl, ss_for ei fin]
    rfl
end
end Ir
set_option Elab.async false
set_option linter.all false
set_option maxRecDepth 100000
set_option maxHeartbeats 4000000
namespace Ir
open PySem L2 Dn
theorem ev_take {n N : Nat} {a b c w : Int} {e : E} {ρ ρ1 : Rho} (h : OkT N b c) (hN : N ≤ 1000000) (h1 : 0 < w) (h2 : w ≤ 1000000) (h0 : ∃ o, ρ[0]? = some (.own true o)) (he : evE G (D0 (n + 1)) e ρ = some (.p (.int w), ρ1)) (ht : ρ1[0]? = some (tinS a b c)) :
    ∃ d a' c', 0 ≤ d ∧ d < w ∧ OkT (N + 1) b c' ∧ evE G (D0 (n + 1)) (.call 56 (.cons (.pl 0) (.cons e .nil))) ρ = some (.p (.int d), ρ1.set 0 (tinS a' b c')) := by
  obtain ⟨d, a', c', g1, g2, g3, g4⟩ := law_take (n := n) (a := a) h hN h1 h2
  refine ⟨d, a', c', g1, g2, g3, ?_⟩
  obtain ⟨o, h0⟩ := h0
  have hs : argS ρ1 [.al 0, .p (.int w)] = some [tinS a b c, .d (.int w)] := by
    simp only [argS, ht, tinS, Option.map]
  simp only [evE, evEs, h0, he, hs, als, List.nodup_cons, List.not_mem_nil, not_false_eq_true, List.nodup_nil, and_self, if_true, g4]
  simp only [tinS] at ht
  simp only [tinS, wrB, setO, ht]
def tinV (a b c : Int) : OV := .lst [.int a, .int b, .int c]
theorem ev_of {n N : Nat} {a b c : Int} {ρ : Rho} (h : OkT N b c) (hN : N ≤ 1000000) (ht : ρ[0]? = some (tinS a b c)) :
    ∃ r a' c', (r = 1 ∨ r = 2) ∧ OkT (N + 1) b c' ∧ evE G (D0 (n + 2)) (.call 58 (.cons (.pl 0) (.cons (.lst (.cons (.int 1) (.cons (.int 1) (.cons (.int 2) .nil)))) .nil))) ρ = some (.p (.int r), ρ.set 0 (tinS a' b c')) := by
  obtain ⟨r, a', c', g1, g2, g4⟩ := law_of (n := n) (a := a) h hN
  refine ⟨r, a', c', g1, g2, ?_⟩
  have hs : argS ρ [.al 0, .p (.list [.int 1, .int 1, .int 2])] = some [tinS a b c, .d (.list [.int 1, .int 1, .int 2])] := by
    simp only [argS, ht, tinS, Option.map]
  have hc : 3 ≤ cap := by decide
  simp only [tinS] at ht
  simp only [evE, evEs, ht, pvDs, Option.map, List.length_cons, List.length_nil, Nat.zero_add, Nat.reduceAdd, hc, hs, als, List.nodup_cons, List.not_mem_nil, not_false_eq_true, List.nodup_nil, and_self, if_true, g4]
  simp only [tinS, wrB, setO, ht]
def dB : Ss := .cons (.set 2 (.bin .Mult (.pl 2) (.pl 3))) .nil
def dO : Ss := .cons (.for (.nm 4) (.rng1 (.call 56 (.cons (.pl 0) (.cons (.bin .Add (.pl 1) (.int 1)) .nil)))) dB) .nil
theorem drawn_in {n : Nat} {u : Vec} {x0 x1 : SV} (hu : u.length = 5) (us : u.sum = 1) : ∀ {items : List D} {f : Vec} {s4 : SV}, f.length = 5 → f.sum + items.length ≤ 400 → No s4 →
    ∃ f' s', f'.length = 5 ∧ f'.sum ≤ f.sum + items.length ∧ No s' ∧ forL (asg (.nm 4)) (fun ρ => evSs 3000 G (D0 (n + 1)) (O0 (n + 1)) dB ρ) items [x0, x1, .d (nm P0 f), .d (nm P0 u), s4] = some (.nx [x0, x1, .d (nm P0 f'), .d (nm P0 u), s'])
  | [], f, s4, hf, _, h4 => ⟨f, s4, hf, Nat.le_refl _, h4, rfl⟩
  | i :: items, f, s4, hf, hs, h4 => by
    have hs' : f.sum + (items.length + 1) ≤ 400 := hs
    have a4 : asg (.nm 4) i [x0, x1, .d (nm P0 f), .d (nm P0 u), s4] = some [x0, x1, .d (nm P0 f), .d (nm P0 u), .d i] := by
      cases s4 <;> first | exact absurd rfl (h4 _ _) | rfl
    have ml := o_mul pr0 hf hu (by omega) (by omega)
    have sm := add_sum (e := f) (f := u)
    obtain ⟨f', s', g1, g2, g3, g4⟩ := drawn_in (n := n) (x0 := x0) (x1 := x1) hu us (items := items) (f := Vx.add f u) (s4 := .d i) (Vx.add_len hf hu) (by omega) no_d
    refine ⟨f', s', g1, by simp only [List.length_cons]; omega, g3, ?_⟩
    have body : evSs 3000 G (D0 (n + 1)) (O0 (n + 1)) dB [x0, x1, .d (nm P0 f), .d (nm P0 u), .d i] = some (.nx [x0, x1, .d (nm P0 (Vx.add f u)), .d (nm P0 u), .d i]) := by
      simp [dB, evSs, evS, evE, rdV_p, ml, isRef]
    unfold forL
    rw [a4]
    dsimp only
    rw [body]
    exact g4
theorem drawn_out {n k : Nat} (hk : k ≤ 10) : ∀ {us : List Vec} {N : Nat} {a b c : Int} {f : Vec} {s3 s4 : SV}, (∀ u ∈ us, u.length = 5 ∧ u.sum = 1) → OkT N b c → N + us.length ≤ 1000000 → f.length = 5 → f.sum + us.length * k ≤ 400 → No s3 → No s4 →
    ∃ f' a' c' s s', f'.length = 5 ∧ f'.sum ≤ f.sum + us.length * k ∧ OkT (N + us.length) b c' ∧ forL (asg (.nm 3)) (fun ρ => evSs 3000 G (D0 (n + 1)) (O0 (n + 1)) dO ρ) (us.map (nm P0)) [tinS a b c, .d (.int k), .d (nm P0 f), s3, s4] = some (.nx [tinS a' b c', .d (.int k), .d (nm P0 f'), s, s'])
  | [], N, a, b, c, f, s3, s4, _, hT, _, hf, _, _, _ => ⟨f, a, c, s3, s4, hf, by simp, hT, rfl⟩
  | u :: us, N, a, b, c, f, s3, s4, hu, hT, hN, hf, hs, h3, h4 => by
    have hN' : N + (us.length + 1) ≤ 1000000 := hN
    have hs' : f.sum + (us.length + 1) * k ≤ 400 := hs
    have hmul : (us.length + 1) * k = us.length * k + k := Nat.succ_mul _ _
    obtain ⟨hu1, hu2⟩ := hu u List.mem_cons_self
    have a3 : asg (.nm 3) (nm P0 u) [tinS a b c, .d (.int k), .d (nm P0 f), s3, s4] = some [tinS a b c, .d (.int k), .d (nm P0 f), .d (nm P0 u), s4] := by
      cases s3 <;> first | exact absurd rfl (h3 _ _) | rfl
    obtain ⟨d, a1, c1, t1, t2, t3, t4⟩ := ev_take (n := n) (a := a) (w := (k : Int) + 1) (e := .bin .Add (.pl 1) (.int 1)) (ρ := [tinS a b c, .d (.int k), .d (nm P0 f), .d (nm P0 u), s4]) (ρ1 := [tinS a b c, .d (.int k), .d (nm P0 f), .d (nm P0 u), s4]) hT (by omega) (by omega) (by omega) ⟨_, rfl⟩ rfl rfl
    have hrl : (rngD 0 d.toNat).length = d.toNat := by unfold rngD; simp
    have ei : evI G (D0 (n + 1)) (.rng1 (.call 56 (.cons (.pl 0) (.cons (.bin .Add (.pl 1) (.int 1)) .nil)))) [tinS a b c, .d (.int k), .d (nm P0 f), .d (nm P0 u), s4] = some (rngD 0 d.toNat, [tinS a1 b c1, .d (.int k), .d (nm P0 f), .d (nm P0 u), s4]) := by
      rw [evI, t4]
      dsimp only
      rw [if_pos (by omega)]
      rfl
    obtain ⟨f1, s1, g1, g2, g3, g4⟩ := drawn_in (n := n) (x0 := tinS a1 b c1) (x1 := .d (.int k)) hu1 hu2 (items := rngD 0 d.toNat) (f := f) (s4 := s4) hf (by omega) h4
    obtain ⟨f', a', c', s, s', k1, k2, k3, k4⟩ := drawn_out (n := n) hk (us := us) (N := N + 1) (a := a1) (b := b) (c := c1) (f := f1) (s3 := .d (nm P0 u)) (s4 := s1) (fun x hx => hu x (List.mem_cons_of_mem _ hx)) t3 (by omega) g1 (by omega) no_d g3
    refine ⟨f', a', c', s, s', k1, by simp only [List.length_cons]; omega, by rw [List.length_cons, show N + (us.length + 1) = N + 1 + us.length by omega]; exact k3, ?_⟩
    have body : evSs 3000 G (D0 (n + 1)) (O0 (n + 1)) dO [tinS a b c, .d (.int k), .d (nm P0 f), .d (nm P0 u), s4] = some (.nx [tinS a1 b c1, .d (.int k), .d (nm P0 f1), .d (nm P0 u), s1]) := by
      unfold dO
      rw [ss_for ei g4]
      rfl
    rw [List.map_cons]
    unfold forL
    rw [a3]
    dsimp only
    rw [body]
    exact k4
theorem law_drawn {n N k : Nat} {a b c : Int} (hk : k ≤ 10) (hT : OkT N b c) (hN : N ≤ 999000) : ∃ e a' c', e.length = 5 ∧ e.sum ≤ 5 * k ∧ OkT (N + 5) b c' ∧ D0 (n + 2) 66 [tinS a b c, .d (.int k)] = some (nm P0 e, [tinS a' b c', .d (.int k)]) := by
  obtain ⟨f', a', c', s, s', k1, k2, k3, k4⟩ := drawn_out (n := n) hk (us := [u0, u1, u2, u3, u4]) (N := N) (a := a) (b := b) (c := c) (f := zro) (s3 := .un) (s4 := .un) (fun u hu => by
    simp only [List.mem_cons, List.not_mem_nil, or_false] at hu
    rcases hu with rfl | rfl | rfl | rfl | rfl <;> exact ⟨rfl, rfl⟩) hT (by show N + 5 ≤ 1000000; omega) rfl (by show 0 + 5 * k ≤ 400; omega) no_un no_un
  have k2' : f'.sum ≤ 0 + 5 * k := k2
  refine ⟨f', a', c', k1, by omega, k3, ?_⟩
  have ei : evI G (D0 (n + 1)) (.sq (.tup (.cons (.int 2) (.cons (.int 3) (.cons (.int 5) (.cons (.int 7) (.cons (.int 11) .nil))))))) [tinS a b c, .d (.int k), .d (.int 1), .un, .un] = some ([u0, u1, u2, u3, u4].map (nm P0), [tinS a b c, .d (.int k), .d (.int 1), .un, .un]) := by
    have hc : 5 ≤ cap := by decide
    simp [evI, evE, evEs, pvDs, hc, seqD]
    exact ⟨rfl, rfl, rfl, rfl, rfl⟩
  rw [nm_zro pr0] at k4
  rw [c66]
  rw [show b66 = .cons (.set 2 (.int 1)) (.cons (.for (.nm 3) (.sq (.tup (.cons (.int 2) (.cons (.int 3) (.cons (.int 5) (.cons (.int 7) (.cons (.int 11) .nil))))))) dO) (.cons (.ret (.pl 2)) .nil)) from rfl]
  rw [ss_nx (ρ1 := [tinS a b c, .d (.int k), .d (.int 1), .un, .un]) rfl, ss_for ei k4]
  rfl
end Ir
set_option Elab.async false
set_option linter.all false
set_option maxRecDepth 100000
set_option maxHeartbeats 4000000
namespace Ir
open PySem L2 Dn
theorem ev_drawn {n N k : Nat} {a b c : Int} {e : E} {ρ ρ1 : Rho} (hk : k ≤ 10) (h : OkT N b c) (hN : N ≤ 999000) (h0 : ∃ o, ρ[0]? = some (.own true o)) (he : evE G (D0 (n + 2)) e ρ = some (.p (.int k), ρ1)) (ht : ρ1[0]? = some (tinS a b c)) :
    ∃ v a' c', v.length = 5 ∧ v.sum ≤ 5 * k ∧ OkT (N + 5) b c' ∧ evE G (D0 (n + 2)) (.call 66 (.cons (.pl 0) (.cons e .nil))) ρ = some (.p (nm P0 v), ρ1.set 0 (tinS a' b c')) := by
  obtain ⟨v, a', c', g1, g2, g3, g4⟩ := law_drawn (n := n) (a := a) hk h hN
  refine ⟨v, a', c', g1, g2, g3, ?_⟩
  obtain ⟨o, h0⟩ := h0
  have hs : argS ρ1 [.al 0, .p (.int k)] = some [tinS a b c, .d (.int k)] := by
    simp only [argS, ht, tinS, Option.map]
  simp only [evE, evEs, h0, he, hs, als, List.nodup_cons, List.not_mem_nil, not_false_eq_true, List.nodup_nil, and_self, if_true, g4]
  simp only [tinS] at ht
  simp only [tinS, wrB, setO, ht]
theorem co_sub : ∀ {e f : Vec} {n : Nat}, e.length = n → f.length = n → Vx.mn (Vx.sub e (Vx.mn e f)) (Vx.sub f (Vx.mn e f)) = List.replicate n 0
  | [], [], _, h, _ => by rw [← h]; rfl
  | a :: as, b :: bs, n + 1, h1, h2 => by
    show min (a - min a b) (b - min a b) :: Vx.mn (Vx.sub as (Vx.mn as bs)) (Vx.sub bs (Vx.mn as bs)) = _
    rw [co_sub (n := n) (by simpa using h1) (by simpa using h2), List.replicate_succ]
    congr 1
    omega
  | [], _ :: _, _, h1, h2 => by rw [← h1] at h2; simp at h2
  | _ :: _, [], _, h1, h2 => by rw [← h2] at h1; simp at h1
theorem mn_le2 : ∀ {e f : Vec}, e.length = f.length → Vx.le (Vx.mn e f) f = true
  | [], [], _ => rfl
  | a :: as, b :: bs, h => by
    have := mn_le2 (e := as) (f := bs) (by simpa using h)
    unfold Vx.mn Vx.le
    rw [this, Bool.and_true, decide_eq_true_eq]
    exact Nat.min_le_right a b
theorem v_lt {e : Vec} (h : e.sum ≤ 20) : Vx.v P0 e < 2 ^ 100 := by
  have h1 := Vx.v_le (by decide : 1 ≤ 11) (e := e) pr0.most
  have h2 : 11 ^ e.sum ≤ 11 ^ 20 := Nat.pow_le_pow_right (by decide) h
  have h3 : 11 ^ 20 < 2 ^ 100 := by decide +kernel
  omega
/-- a drawn fraction, made less -/
def fra (e f : Vec) : Fr2 := (Vx.sub e (Vx.mn e f), Vx.sub f (Vx.mn e f))
theorem fra_ok {e f : Vec} (he : e.length = 5) (hf : f.length = 5) (s1 : e.sum ≤ 5) (s2 : f.sum ≤ 10) : OkG 5 (fra e f) := by
  have hm := Vx.mn_len he hf
  have q1 := sub_sum pr0 (e := e) (f := Vx.mn e f) (he.trans hm.symm)
  have q2 := sub_sum pr0 (e := f) (f := Vx.mn e f) (hf.trans hm.symm)
  refine ⟨⟨Vx.sub_len he hm, Vx.sub_len hf hm, ?_, ?_, co_sub he hf⟩, ?_⟩
  · show (Vx.sub e (Vx.mn e f)).sum ≤ 50
    omega
  · show (Vx.sub f (Vx.mn e f)).sum ≤ 50
    omega
  · show (Vx.sub e (Vx.mn e f)).sum ≤ 5
    omega
def oB : Ss := .cons (.par 3 4 (.e (.call 66 (.cons (.pl 0) (.cons (.int 1) .nil)))) (.e (.call 66 (.cons (.pl 0) (.cons (.call 58 (.cons (.pl 0) (.cons (.lst (.cons (.int 1) (.cons (.int 1) (.cons (.int 2) .nil)))) .nil))) .nil)))))
  (.cons (.set 5 (.call 62 (.cons (.pl 3) (.cons (.pl 4) .nil))))
  (.cons (.app 1 (.tup (.cons (.bin .FloorDiv (.pl 3) (.pl 5)) (.cons (.bin .FloorDiv (.pl 4) (.pl 5)) .nil))))
  .nil))
theorem primes_body {n N : Nat} {a b c : Int} {fs : List D} {s2 s3 s4 s5 : SV} (hT : OkT N b c) (hN : N ≤ 998000) (hl : fs.length ≤ 100) (h3 : No s3) (h4 : No s4) (h5 : No s5) :
    ∃ e f a' c', e.length = 5 ∧ f.length = 5 ∧ e.sum ≤ 5 ∧ f.sum ≤ 10 ∧ OkT (N + 11) b c' ∧ evSs 3000 G (D0 (n + 2)) (O0 (n + 2)) oB [tinS a b c, .own false (.lst fs), s2, s3, s4, s5] = some (.nx [tinS a' b c', .own false (.lst (fs ++ [frD P0 (fra e f)])), s2, .d (nm P0 e), .d (nm P0 f), .d (nm P0 (Vx.mn e f))]) := by
  obtain ⟨e, a1, c1, e1, e2, t1, q1⟩ := ev_drawn (n := n) (N := N) (k := 1) (a := a) (e := .int 1) (ρ := [tinS a b c, .own false (.lst fs), s2, s3, s4, s5]) (ρ1 := [tinS a b c, .own false (.lst fs), s2, s3, s4, s5]) (by decide) hT (by omega) ⟨_, rfl⟩ rfl rfl
  obtain ⟨r, a2, c2, r1, t2, q2⟩ := ev_of (n := n) (N := N + 5) (a := a1) (ρ := [tinS a1 b c1, .own false (.lst fs), s2, s3, s4, s5]) t1 (by omega) rfl
  have hr : ∃ k : Nat, r = (k : Int) ∧ k ≤ 2 := by
    rcases r1 with rfl | rfl
    · exact ⟨1, rfl, by decide⟩
    · exact ⟨2, rfl, by decide⟩
  obtain ⟨k, rfl, hk⟩ := hr
  obtain ⟨f, a3, c3, f1, f2, t3, q3⟩ := ev_drawn (n := n) (N := N + 5 + 1) (k := k) (a := a2) (e := .call 58 (.cons (.pl 0) (.cons (.lst (.cons (.int 1) (.cons (.int 1) (.cons (.int 2) .nil)))) .nil))) (ρ := [tinS a1 b c1, .own false (.lst fs), s2, s3, s4, s5]) (ρ1 := [tinS a2 b c2, .own false (.lst fs), s2, s3, s4, s5]) (by omega) t2 (by omega) ⟨_, rfl⟩ q2 rfl
  refine ⟨e, f, a3, c3, e1, f1, by omega, by omega, ⟨t3.1, t3.2.1, t3.2.2.1, by have := t3.2.2.2; omega⟩, ?_⟩
  have p1 : evS 3000 G (D0 (n + 2)) (O0 (n + 2)) (.par 3 4 (.e (.call 66 (.cons (.pl 0) (.cons (.int 1) .nil)))) (.e (.call 66 (.cons (.pl 0) (.cons (.call 58 (.cons (.pl 0) (.cons (.lst (.cons (.int 1) (.cons (.int 1) (.cons (.int 2) .nil)))) .nil))) .nil))))) [tinS a b c, .own false (.lst fs), s2, s3, s4, s5] =
      some (.nx [tinS a3 b c3, .own false (.lst fs), s2, .d (nm P0 e), .d (nm P0 f), s5]) := by
    have i3 : isRef [tinS a3 b c3, .own false (.lst fs), s2, s3, s4, s5] 3 = false := by
      cases s3 <;> first | exact absurd rfl (h3 _ _) | rfl
    have i4 : isRef [tinS a3 b c3, .own false (.lst fs), s2, s3, s4, s5] 4 = false := by
      cases s4 <;> first | exact absurd rfl (h4 _ _) | rfl
    rw [evS, evR, q1]
    dsimp only [List.set_cons_zero]
    rw [evR, q3]
    dsimp only [List.set_cons_zero]
    rw [i3, i4]
    rfl
  obtain ⟨as, gc⟩ := law_gcd (n := n) (a := Vx.v P0 e) (b := Vx.v P0 f) (v_lt (by omega)) (v_lt (by omega))
  have gv : Nat.gcd (Vx.v P0 e) (Vx.v P0 f) = Vx.v P0 (Vx.mn e f) := Vx.v_gcd pr0.good e1 f1
  rw [gv] at gc
  have gc' : D0 (n + 2) 62 [.d (nm P0 e), .d (nm P0 f)] = some (nm P0 (Vx.mn e f), as) := gc
  have i5 : isRef [tinS a3 b c3, .own false (.lst fs), s2, .d (nm P0 e), .d (nm P0 f), s5] 5 = false := by
    cases s5 <;> first | exact absurd rfl (h5 _ _) | rfl
  have ms := mn_sum (e := e) (f := f)
  have dv1 := o_div pr0 e1 (Vx.mn_len e1 f1) mn_le (by omega)
  have dv2 := o_div pr0 f1 (Vx.mn_len e1 f1) (mn_le2 (e1.trans f1.symm)) (by omega)
  have hc : fs.length < cap := by unfold cap; omega
  have hc2 : 2 ≤ cap := by decide
  unfold oB
  rw [ss_nx p1]
  simp [evSs, evS, evE, evEs, argS, als, wrB_pp, pvDs, rdV_p, gc', i5, dv1, dv2, isLst, hc, hc2]
  rfl
theorem primes_loop {n : Nat} {b : Int} : ∀ {items : List D} {N : Nat} {a c : Int} {fs : List Fr2} {s2 s3 s4 s5 : SV}, OkT N b c → N + items.length * 11 ≤ 998000 → fs.length + items.length ≤ 100 → (∀ f ∈ fs, OkG 5 f) → No s2 → No s3 → No s4 → No s5 →
    ∃ (fs' : List Fr2) (a' c' : Int) (s2' s3' s4' s5' : SV), OkT (N + items.length * 11) b c' ∧ fs'.length = fs.length + items.length ∧ (∀ f ∈ fs', OkG 5 f) ∧ forL (asg (.nm 2)) (fun ρ => evSs 3000 G (D0 (n + 2)) (O0 (n + 2)) oB ρ) items [tinS a b c, .own false (.lst (fs.map (frD P0))), s2, s3, s4, s5] = some (.nx [tinS a' b c', .own false (.lst (fs'.map (frD P0))), s2', s3', s4', s5'])
  | [], N, a, c, fs, s2, s3, s4, s5, hT, _, _, hf, _, _, _, _ => ⟨fs, a, c, s2, s3, s4, s5, hT, rfl, hf, rfl⟩
  | i :: items, N, a, c, fs, s2, s3, s4, s5, hT, hN, hl, hf, h2, h3, h4, h5 => by
    have hN' : N + (items.length + 1) * 11 ≤ 998000 := hN
    have hl' : fs.length + (items.length + 1) ≤ 100 := hl
    have a2 : asg (.nm 2) i [tinS a b c, .own false (.lst (fs.map (frD P0))), s2, s3, s4, s5] = some [tinS a b c, .own false (.lst (fs.map (frD P0))), .d i, s3, s4, s5] := by
      cases s2 <;> first | exact absurd rfl (h2 _ _) | rfl
    obtain ⟨e, f, a1, c1, e1, f1, e2, f2, t1, q1⟩ := primes_body (n := n) (a := a) (fs := fs.map (frD P0)) (s2 := .d i) (s3 := s3) (s4 := s4) (s5 := s5) hT (by omega) (by rw [List.length_map]; omega) h3 h4 h5
    obtain ⟨fs', a', c', s2', s3', s4', s5', k1, k2, k3, k4⟩ := primes_loop (n := n) (items := items) (N := N + 11) (a := a1) (c := c1) (fs := fs ++ [fra e f]) (s2 := .d i) (s3 := .d (nm P0 e)) (s4 := .d (nm P0 f)) (s5 := .d (nm P0 (Vx.mn e f))) t1 (by omega) (by simp; omega) (fun x hx => by
      rcases List.mem_append.mp hx with hx | hx
      · exact hf x hx
      · have : x = fra e f := by simpa using hx
        rw [this]
        exact fra_ok e1 f1 e2 f2) no_d no_d no_d no_d
    refine ⟨fs', a', c', s2', s3', s4', s5', ?_, ?_, k3, ?_⟩
    · rw [List.length_cons, show N + (items.length + 1) * 11 = N + 11 + items.length * 11 by omega]
      exact k1
    · rw [k2]
      simp
      omega
    · unfold forL
      rw [a2]
      dsimp only
      rw [q1]
      dsimp only
      rw [List.map_append] at k4
      exact k4
theorem law_of_primes {n N : Nat} {a b c : Int} (hT : OkT N b c) (hN : N ≤ 900000) : ∃ m a' c', OkMg 5 m ∧ 1 ≤ m.length ∧ m.length ≤ 6 ∧ OkT (N + 60) b c' ∧ D0 (n + 3) 67 [tinS a b c] = some (mD P0 m, [tinS a' b c']) := by
  obtain ⟨d, a1, c1, t1, t2, t3, t4⟩ := ev_take (n := n + 1) (a := a) (w := 5) (e := .int 5) (ρ := [tinS a b c, .own false (.lst []), .un, .un, .un, .un]) (ρ1 := [tinS a b c, .own false (.lst []), .un, .un, .un, .un]) hT (by omega) (by decide) (by decide) ⟨_, rfl⟩ rfl rfl
  have ad : binF .Add (.int 1) (.int d) = some (.int (1 + d)) := rfl
  have hrl : (rngD 0 (1 + d).toNat).length = (1 + d).toNat := by unfold rngD; simp
  have ei : evI G (D0 (n + 2)) (.rng1 (.bin .Add (.int 1) (.call 56 (.cons (.pl 0) (.cons (.int 5) .nil))))) [tinS a b c, .own false (.lst []), .un, .un, .un, .un] = some (rngD 0 (1 + d).toNat, [tinS a1 b c1, .own false (.lst []), .un, .un, .un, .un]) := by
    exact ei_rng1 (ev_bin (x := .p (.int 1)) rfl t4 ad) (by omega) (by omega)
  obtain ⟨fs, a2, c2, s2, s3, s4, s5, k1, k2, k3, k4⟩ := primes_loop (n := n) (items := rngD 0 (1 + d).toNat) (N := N + 1) (a := a1) (c := c1) (fs := []) (s2 := .un) (s3 := .un) (s4 := .un) (s5 := .un) t3 (by rw [hrl]; omega) (by rw [hrl]; simp; omega) (fun f hf => by cases hf) no_un no_un no_un no_un
  rw [hrl] at k1 k2
  have k2' : fs.length = (1 + d).toNat := by simpa using k2
  obtain ⟨t, a3, c3, v1, v2, v3, v4⟩ := ev_take (n := n + 1) (a := a2) (w := 2) (e := .int 2) (ρ := [tinS a2 b c2, .own false (.lst (fs.map (frD P0))), s2, s3, s4, s5]) (ρ1 := [tinS a2 b c2, .own false (.lst (fs.map (frD P0))), s2, s3, s4, s5]) k1 (by omega) (by decide) (by decide) ⟨_, rfl⟩ rfl rfl
  have htn : ((t.toNat : Nat) : Int) = t := Int.toNat_of_nonneg v1
  have hcut : cutD (fs.map (frD P0)) none (some t) = (fs.take t.toNat).map (frD P0) := by
    rw [← htn, cut_hi (by rw [List.length_map]; omega), htn, List.map_take]
  have hle : (fs ++ fs.take t.toNat).length ≤ 6 := by
    rw [List.length_append, List.length_take]
    omega
  refine ⟨fs ++ fs.take t.toNat, a3, c3, ⟨by omega, fun f hf => ?_⟩, by rw [List.length_append]; omega, hle, ⟨v3.1, v3.2.1, v3.2.2.1, by have := v3.2.2.2; omega⟩, ?_⟩
  · rcases List.mem_append.mp hf with hf | hf
    · exact k3 f hf
    · exact k3 f (List.mem_of_mem_take hf)
  have ba : binF .Add (.list (fs.map (frD P0))) (.list ((fs.take t.toNat).map (frD P0))) = some (.list ((fs ++ fs.take t.toNat).map (frD P0))) := by
    show (if (fs.map (frD P0)).length + ((fs.take t.toNat).map (frD P0)).length ≤ cap then some (PyData.list (fs.map (frD P0) ++ (fs.take t.toNat).map (frD P0))) else none) = _
    rw [if_pos, List.map_append]
    rw [List.length_append] at hle
    rw [List.length_map, List.length_map]
    unfold cap
    omega
  rw [c67]
  rw [show b67 = .cons (.setO 1 (.lst .nil)) (.cons (.for (.nm 2) (.rng1 (.bin .Add (.int 1) (.call 56 (.cons (.pl 0) (.cons (.int 5) .nil))))) oB) (.cons (.ret (.blt .tuple (.cons (.bin .Add (.pl 1) (.slc (.pl 1) .no (.so (.call 56 (.cons (.pl 0) (.cons (.int 2) .nil)))))) .nil))) .nil)) from rfl]
  rw [ss_nx (ρ1 := [tinS a b c, .own false (.lst []), .un, .un, .un, .un]) rfl, ss_for ei k4]
  have es : evE G (D0 (n + 2)) (.bin .Add (.pl 1) (.slc (.pl 1) .no (.so (.call 56 (.cons (.pl 0) (.cons (.int 2) .nil)))))) [tinS a2 b c2, .own false (.lst (fs.map (frD P0))), s2, s3, s4, s5] = some (.p (.list ((fs ++ fs.take t.toNat).map (frD P0))), [tinS a3 b c3, .own false (.lst (fs.map (frD P0))), s2, s3, s4, s5]) := by
    refine ev_bin (x := .al 1) (y := .p (.list ((fs.take t.toNat).map (frD P0)))) (ρ1 := [tinS a2 b c2, .own false (.lst (fs.map (frD P0))), s2, s3, s4, s5]) rfl ?_ ba
    have v5 : evE G (D0 (n + 2)) (.call 56 (.cons (.pl 0) (.cons (.int 2) .nil))) [tinS a2 b c2, .own false (.lst (fs.map (frD P0))), s2, s3, s4, s5] = some (.p (.int t), [tinS a3 b c3, .own false (.lst (fs.map (frD P0))), s2, s3, s4, s5]) := v4
    have v6 : evEo G (D0 (n + 2)) (.so (.call 56 (.cons (.pl 0) (.cons (.int 2) .nil)))) [tinS a2 b c2, .own false (.lst (fs.map (frD P0))), s2, s3, s4, s5] = some (some t, [tinS a3 b c3, .own false (.lst (fs.map (frD P0))), s2, s3, s4, s5]) := by
      rw [evEo, v5]
    have v7 : evE G (D0 (n + 2)) (.pl 1) [tinS a2 b c2, .own false (.lst (fs.map (frD P0))), s2, s3, s4, s5] = some (.al 1, [tinS a2 b c2, .own false (.lst (fs.map (frD P0))), s2, s3, s4, s5]) := rfl
    have v8 : slcF (.list (fs.map (frD P0))) none (some t) = some (.list ((fs.take t.toNat).map (frD P0))) := by
      show some (PyData.list (cutD (fs.map (frD P0)) none (some t))) = _
      rw [hcut]
    rw [evE, v7]
    dsimp only
    rw [show evEo G (D0 (n + 2)) .no [tinS a2 b c2, .own false (.lst (fs.map (frD P0))), s2, s3, s4, s5] = some (none, [tinS a2 b c2, .own false (.lst (fs.map (frD P0))), s2, s3, s4, s5]) from by rw [evEo]]
    dsimp only
    rw [v6]
    dsimp only
    rw [show rdV [tinS a3 b c3, .own false (.lst (fs.map (frD P0))), s2, s3, s4, s5] (.al 1) = .list (fs.map (frD P0)) from rfl, v8]
  rw [ss_rt (d := mD P0 (fs ++ fs.take t.toNat)) (ρ1 := [tinS a3 b c3, .own false (.lst (fs.map (frD P0))), s2, s3, s4, s5]) (by
    rw [evS, ev_blt1 es rfl]
    rfl)]
  rfl
end Ir
set_option Elab.async false
set_option linter.all false
set_option maxRecDepth 100000
set_option maxHeartbeats 4000000
namespace Ir
open PySem L2 Dn
def nI (k : Nat) : D := .int (k : Int)
def kB : Ss := .cons (.app 4 (.popAt 3 (.call 56 (.cons (.pl 0) (.cons (.blt .len (.cons (.pl 3) .nil)) .nil))))) .nil
theorem erase_map {α β : Type} {g : α → β} : ∀ {l : List α} {i : Nat}, (l.map g).eraseIdx i = (l.eraseIdx i).map g
  | [], _ => rfl
  | _ :: _, 0 => rfl
  | x :: l, i + 1 => congrArg (List.cons (g x)) (erase_map (l := l) (i := i))
theorem erase_perm {α : Type} : ∀ {l : List α} {i : Nat} {x : α}, l[i]? = some x → (x :: l.eraseIdx i).Perm l
  | [], _, _, h => by simp at h
  | y :: l, 0, x, h => by
    have : y = x := by simpa using h
    rw [this]
    exact List.Perm.refl _
  | y :: l, i + 1, x, h => by
    have h' : l[i]? = some x := by simpa using h
    show (x :: y :: l.eraseIdx i).Perm (y :: l)
    exact (List.Perm.swap y x _).trans ((erase_perm h').cons y)
theorem pick_loop {n : Nat} {b : Int} {x1 x2 : SV} : ∀ {items : List D} {N : Nat} {a c : Int} {pool found : List Nat} {s5 : SV}, OkT N b c → N + items.length ≤ 900000 → items.length = pool.length → found.length + pool.length ≤ 100 → No s5 →
    ∃ (res : List Nat) (a' c' : Int) (s' : SV), OkT (N + items.length) b c' ∧ res.Perm (found ++ pool) ∧ forL (asg (.nm 5)) (fun ρ => evSs 3000 G (D0 (n + 1)) (O0 (n + 1)) kB ρ) items [tinS a b c, x1, x2, .own false (.lst (pool.map nI)), .own false (.lst (found.map nI)), s5] = some (.nx [tinS a' b c', x1, x2, .own false (.lst []), .own false (.lst (res.map nI)), s'])
  | [], N, a, c, pool, found, s5, hT, _, hl, _, h5 => by
    have : pool = [] := List.eq_nil_of_length_eq_zero hl.symm
    subst this
    exact ⟨found, a, c, s5, hT, by rw [List.append_nil], rfl⟩
  | i :: items, N, a, c, pool, found, s5, hT, hN, hl, hc, h5 => by
    have hN' : N + (items.length + 1) ≤ 900000 := hN
    have hl' : items.length + 1 = pool.length := hl
    have a5 : asg (.nm 5) i [tinS a b c, x1, x2, .own false (.lst (pool.map nI)), .own false (.lst (found.map nI)), s5] = some [tinS a b c, x1, x2, .own false (.lst (pool.map nI)), .own false (.lst (found.map nI)), .d i] := by
      cases s5 <;> first | exact absurd rfl (h5 _ _) | rfl
    have ln : evE G (D0 (n + 1)) (.blt .len (.cons (.pl 3) .nil)) [tinS a b c, x1, x2, .own false (.lst (pool.map nI)), .own false (.lst (found.map nI)), .d i] = some (.p (.int (pool.length : Nat)), [tinS a b c, x1, x2, .own false (.lst (pool.map nI)), .own false (.lst (found.map nI)), .d i]) := by
      refine ev_blt1 (x := .al 3) rfl ?_
      show bltF .len [.list (pool.map nI)] = _
      rw [b_lenl, List.length_map]
    obtain ⟨d, a1, c1, t1, t2, t3, t4⟩ := ev_take (n := n) (a := a) (w := (pool.length : Nat)) (ρ := [tinS a b c, x1, x2, .own false (.lst (pool.map nI)), .own false (.lst (found.map nI)), .d i]) hT (by omega) (by omega) (by omega) ⟨_, rfl⟩ ln rfl
    have hd : d.toNat < pool.length := by omega
    have hx : pool[d.toNat]? = some pool[d.toNat] := List.getElem?_eq_getElem hd
    generalize pool[d.toNat] = x at hx
    have el : (pool.eraseIdx d.toNat).length = pool.length - 1 := List.length_eraseIdx_of_lt hd
    obtain ⟨res, a', c', s', k1, k2, k3⟩ := pick_loop (n := n) (x1 := x1) (x2 := x2) (items := items) (N := N + 1) (a := a1) (c := c1) (pool := pool.eraseIdx d.toNat) (found := found ++ [x]) (s5 := .d i) t3 (by omega) (by omega) (by simp; omega) no_d
    refine ⟨res, a', c', s', by rw [List.length_cons, show N + (items.length + 1) = N + 1 + items.length by omega]; exact k1, ?_, ?_⟩
    · refine k2.trans ?_
      rw [List.append_assoc]
      exact List.Perm.append_left found (erase_perm hx)
    · have hx' : (pool.map nI)[d.toNat]? = some (nI x) := by rw [List.getElem?_map, hx]; rfl
      have cp : found.length < cap := by unfold cap; omega
      have pa : evE G (D0 (n + 1)) (.popAt 3 (.call 56 (.cons (.pl 0) (.cons (.blt .len (.cons (.pl 3) .nil)) .nil)))) [tinS a b c, x1, x2, .own false (.lst (pool.map nI)), .own false (.lst (found.map nI)), .d i] = some (.p (nI x), [tinS a1 b c1, x1, x2, .own false (.lst ((pool.eraseIdx d.toNat).map nI)), .own false (.lst (found.map nI)), .d i]) := by
        rw [evE, t4]
        have hd6 : 0 ≤ d ∧ d < 1000000 := by omega
        simp [isLst, hx', hd6, erase_map]
      have body : evSs 3000 G (D0 (n + 1)) (O0 (n + 1)) kB [tinS a b c, x1, x2, .own false (.lst (pool.map nI)), .own false (.lst (found.map nI)), .d i] = some (.nx [tinS a1 b c1, x1, x2, .own false (.lst ((pool.eraseIdx d.toNat).map nI)), .own false (.lst ((found ++ [x]).map nI)), .d i]) := by
        unfold kB
        rw [evSs, evS, pa]
        simp [isLst, cp, evSs]
      unfold forL
      rw [a5]
      dsimp only
      rw [body]
      exact k3
theorem law_pick {n N : Nat} {a b c : Int} (hT : OkT N b c) (hN : N ≤ 800000) : ∃ (qs : List Nat) (a' c' : Int) (as : List SV), qs.Perm P0 ∧ OkT (N + 5) b c' ∧ D0 (n + 2) 59 [tinS a b c, .d (.list [.int 2, .int 3, .int 5, .int 7, .int 11]), .d (.int 5)] = some (.list (qs.map nI), tinS a' b c' :: as) := by
  have hr : (rngD 0 5).length = 5 := by unfold rngD; simp
  obtain ⟨res, a', c', s', k1, k2, k3⟩ := pick_loop (n := n) (x1 := .d (.list [.int 2, .int 3, .int 5, .int 7, .int 11])) (x2 := .d (.int 5)) (items := rngD 0 5) (a := a) (pool := P0) (found := []) (s5 := .un) hT (by rw [hr]; omega) (by rw [hr]; rfl) (by decide) no_un
  refine ⟨res, a', c', [.d (.list [.int 2, .int 3, .int 5, .int 7, .int 11]), .d (.int 5)], k2, by rw [hr] at k1; exact k1, ?_⟩
  have ei : evI G (D0 (n + 1)) (.rng1 (.blt .min2 (.cons (.blt .int (.cons (.pl 2) .nil)) (.cons (.blt .len (.cons (.pl 3) .nil)) .nil)))) [tinS a b c, .d (.list [.int 2, .int 3, .int 5, .int 7, .int 11]), .d (.int 5), .own false (.lst [.int 2, .int 3, .int 5, .int 7, .int 11]), .own false (.lst []), .un] = some (rngD 0 5, [tinS a b c, .d (.list [.int 2, .int 3, .int 5, .int 7, .int 11]), .d (.int 5), .own false (.lst [.int 2, .int 3, .int 5, .int 7, .int 11]), .own false (.lst []), .un]) := rfl
  rw [c59]
  rw [show b59 = .cons (.par 3 4 (.f (.cpy (.pl 1))) (.f (.lst .nil))) (.cons (.for (.nm 5) (.rng1 (.blt .min2 (.cons (.blt .int (.cons (.pl 2) .nil)) (.cons (.blt .len (.cons (.pl 3) .nil)) .nil)))) kB) (.cons (.ret (.pl 4)) .nil)) from rfl]
  rw [ss_nx (ρ1 := [tinS a b c, .d (.list [.int 2, .int 3, .int 5, .int 7, .int 11]), .d (.int 5), .own false (.lst [.int 2, .int 3, .int 5, .int 7, .int 11]), .own false (.lst []), .un]) rfl, ss_for ei k3]
  rfl
theorem good_iff : ∀ {ps : List Nat}, Vx.Good ps ↔ (∀ p ∈ ps, 2 ≤ p) ∧ ps.Pairwise Nat.Coprime
  | [] => ⟨fun _ => ⟨fun _ h => (nomatch h), List.Pairwise.nil⟩, fun _ => trivial⟩
  | p :: ps => by
    show 2 ≤ p ∧ (∀ q ∈ ps, Nat.Coprime p q) ∧ Vx.Good ps ↔ _
    rw [good_iff (ps := ps), List.pairwise_cons, List.forall_mem_cons]
    exact ⟨fun ⟨a, b, c, d⟩ => ⟨⟨a, c⟩, b, d⟩, fun ⟨⟨a, c⟩, b, d⟩ => ⟨a, b, c, d⟩⟩
theorem pr_perm {qs : List Nat} (h : qs.Perm P0) : Pr qs := by
  obtain ⟨g1, g2⟩ := good_iff.mp pr0.good
  refine ⟨good_iff.mpr ⟨fun p hp => g1 p (h.mem_iff.mp hp), ?_⟩, h.length_eq, fun p hp => pr0.most p (h.mem_iff.mp hp)⟩
  exact (h.pairwise_iff (fun {a b} (hab : Nat.Coprime a b) => hab.symm)).mpr g2
end Ir
set_option Elab.async false
set_option linter.all false
set_option maxRecDepth 100000
set_option maxHeartbeats 4000000
namespace Ir
open PySem L2 Dn
/-- e without the primes of d -/
def wo : Nat → Vec → Vec → Vec
  | 0, e, _ => e
  | k + 1, e, d => if Vx.mn e d = zro then e else wo k (Vx.sub e (Vx.mn e d)) d
theorem wo_len {d : Vec} (hd : d.length = 5) : ∀ {k : Nat} {e : Vec}, e.length = 5 → (wo k e d).length = 5
  | 0, _, h => h
  | k + 1, e, h => by
    unfold wo
    split
    · exact h
    · exact wo_len hd (Vx.sub_len h (Vx.mn_len h hd))
theorem sum_zro {e : Vec} (h : e.length = 5) (h0 : e.sum = 0) : e = zro := by
  match e, h with
  | [a, b, c, d, f], _ =>
    simp at h0
    obtain ⟨rfl, rfl, rfl, rfl, rfl⟩ := h0
    rfl
def woT : Dn.T := .cmp .Gt (.pl 2) (.int 1)
def woB : Ss := .cons (.set 0 (.bin .FloorDiv (.pl 0) (.pl 2))) (.cons (.set 2 (.blt .gcd (.cons (.pl 0) (.cons (.pl 1) .nil)))) .nil)
section
variable {ps : List Nat} (P : Pr ps)
include P
theorem gt_one {e : Vec} (he : e.length = 5) : cmpF .Gt (nm ps e) (.int 1) = some (!decide (e = zro)) := by
  have h1 := v_pos P (e := e)
  have i := Vx.v_inj P.good (e := e) (f := zro) (he.trans P.len.symm) (show zro.length = ps.length from P.len.symm)
  have z : Vx.v ps zro = 1 := by
    have := nm_zro P
    unfold nm at this
    have h2 : ((Vx.v ps zro : Nat) : Int) = 1 := by injection this
    omega
  rw [z] at i
  show some (decide ((1 : Int) < ((Vx.v ps e : Nat) : Int))) = _
  congr 1
  by_cases q : e = zro
  · rw [decide_eq_true q, decide_eq_false]
    · rfl
    · have := i.mpr q
      omega
  · rw [decide_eq_false q, decide_eq_true]
    · rfl
    · have : ¬ Vx.v ps e = 1 := fun z => q (i.mp z)
      omega
theorem wo_loop {n : Nat} {d : Vec} (hd : d.length = 5) : ∀ {k fu : Nat} {e : Vec}, e.length = 5 → e.sum ≤ k → k < fu → e.sum ≤ 500 →
    ∃ x, whlL (evT G (D0 n) woT) (fun ρ => evSs 3000 G (D0 n) (O0 n) woB ρ) fu [.d (nm ps e), .d (nm ps d), .d (nm ps (Vx.mn e d))] = some (.nx [.d (nm ps (wo (k + 1) e d)), .d (nm ps d), .d x])
  | k, 0, e, _, _, hf, _ => absurd hf (by omega)
  | k, fu + 1, e, he, hk, hf, hs => by
    have ml := Vx.mn_len he hd
    have gt := gt_one P ml
    have t1 : evT G (D0 n) woT [.d (nm ps e), .d (nm ps d), .d (nm ps (Vx.mn e d))] = some (!decide (Vx.mn e d = zro), [.d (nm ps e), .d (nm ps d), .d (nm ps (Vx.mn e d))]) := et_cmp (x := .p (nm ps (Vx.mn e d))) (y := .p (.int 1)) rfl rfl gt
    unfold whlL
    rw [t1]
    by_cases q : Vx.mn e d = zro
    · refine ⟨nm ps (Vx.mn e d), ?_⟩
      rw [decide_eq_true q]
      have e1 : wo (k + 1) e d = e := if_pos q
      rw [e1]
      rfl
    · have ms : 1 ≤ (Vx.mn e d).sum := by
        rcases Nat.eq_zero_or_pos (Vx.mn e d).sum with h | h
        · exact absurd (sum_zro ml h) q
        · exact h
      have ms2 := mn_sum (e := e) (f := d)
      have sl := sub_lt (he.trans ml.symm) mn_le ms
      have dv := o_div P he ml mn_le (by omega)
      have gc := o_gcd P (Vx.sub_len he ml) hd
      have b1 : evSs 3000 G (D0 n) (O0 n) woB [.d (nm ps e), .d (nm ps d), .d (nm ps (Vx.mn e d))] = some (.nx [.d (nm ps (Vx.sub e (Vx.mn e d))), .d (nm ps d), .d (nm ps (Vx.mn (Vx.sub e (Vx.mn e d)) d))]) := by
        unfold woB
        rw [ss_set (d := nm ps (Vx.sub e (Vx.mn e d))) (ρ1 := [.d (nm ps e), .d (nm ps d), .d (nm ps (Vx.mn e d))]) (ev_bin (x := .p (nm ps e)) (y := .p (nm ps (Vx.mn e d))) rfl rfl dv) rfl]
        rw [ss_set (d := nm ps (Vx.mn (Vx.sub e (Vx.mn e d)) d)) (ρ1 := [.d (nm ps (Vx.sub e (Vx.mn e d))), .d (nm ps d), .d (nm ps (Vx.mn e d))]) (by
          simp only [evE, evEs, List.getElem?_cons_zero, List.getElem?_cons_succ, List.set_cons_zero, List.map, rdV_p, gc]) rfl]
        rfl
      cases k with
      | zero => omega
      | succ k =>
        obtain ⟨x, ih⟩ := wo_loop (n := n) hd (k := k) (fu := fu) (e := Vx.sub e (Vx.mn e d)) (Vx.sub_len he ml) (by omega) (by omega) (by omega)
        refine ⟨x, ?_⟩
        rw [show (!decide (Vx.mn e d = zro)) = true by rw [decide_eq_false q]; rfl]
        dsimp only
        rw [b1]
        dsimp only
        rw [ih]
        have e1 : wo (k + 1 + 1) e d = wo (k + 1) (Vx.sub e (Vx.mn e d)) d := if_neg q
        rw [e1]
theorem without {n : Nat} {e d : Vec} (he : e.length = 5) (hd : d.length = 5) (hs : e.sum ≤ 500) : D0 (n + 1) 11 [.d (nm ps e), .d (nm ps d)] = some (nm ps (wo (e.sum + 1) e d), [.d (nm ps (wo (e.sum + 1) e d)), .d (nm ps d)]) := by
  obtain ⟨x, h⟩ := wo_loop P (n := n) hd (k := e.sum) (fu := 3000) (e := e) he (Nat.le_refl _) (by omega) hs
  have gc := o_gcd P he hd
  rw [c11]
  rw [show b11 = .cons (.set 2 (.blt .gcd (.cons (.pl 0) (.cons (.pl 1) .nil)))) (.cons (.whl woT woB) (.cons (.ret (.pl 0)) .nil)) from rfl]
  rw [ss_set (d := nm ps (Vx.mn e d)) (ρ1 := [.d (nm ps e), .d (nm ps d), .un]) (by
    simp only [evE, evEs, List.getElem?_cons_zero, List.getElem?_cons_succ, List.map, rdV_p, gc]) rfl]
  rw [ss_nx (ρ1 := [.d (nm ps (wo (e.sum + 1) e d)), .d (nm ps d), .d x]) (by rw [evS]; exact h)]
  rfl
end
/-- a slice -/
def cutG {α : Type} (xs : List α) (lo hi : Option Int) : List α := (xs.drop (HT.sIx xs.length 0 lo)).take (HT.sIx xs.length xs.length hi - HT.sIx xs.length 0 lo)
theorem cut_map {α : Type} {g : α → D} {xs : List α} {lo hi : Option Int} : cutD (xs.map g) lo hi = (cutG xs lo hi).map g := by
  unfold cutD cutG
  rw [List.length_map, List.map_take, List.map_drop]
theorem cut_mem {α : Type} {xs : List α} {lo hi : Option Int} {x : α} (h : x ∈ cutG xs lo hi) : x ∈ xs := List.mem_of_mem_drop (List.mem_of_mem_take h)
/-- an earlier fraction that may take e, times the factor however often -/
def bar (L : List Fr2) (e fac : Vec) : Bool := L.any fun f => Vx.le (wo (f.2.sum + 1) f.2 fac) e
def kg (m : List Fr2) (es : List Vec) (fac : Vec) : Bool := es.all fun e => !bar (cutG m none (some (pl m e))) e fac
def kI : Ss := .cons (.ife (.cmp .Eq (.bin .Mod (.pl 3) (.call 11 (.cons (.ix (.pl 5) (.int 1)) (.cons (.pl 2) .nil)))) (.int 0)) (.cons (.ret (.bl false)) .nil) .nil) .nil
def kO : Ss := .cons (.set 4 (.call 15 (.cons (.pl 0) (.cons (.pl 3) .nil)))) (.cons (.for (.nm 5) (.sq (.slc (.pl 0) .no (.so (.pl 4)))) kI) .nil)
section
variable {ps : List Nat} (P : Pr ps)
include P
theorem kg_in {n : Nat} {x0 x1 s4 : SV} {fac e : Vec} (hf : fac.length = 5) (he : e.length = 5) : ∀ {L : List Fr2} {s5 : SV}, (∀ f ∈ L, OkF f) → No s5 →
    ∃ s', No s' ∧ forL (asg (.nm 5)) (fun ρ => evSs 3000 G (D0 (n + 1)) (O0 (n + 1)) kI ρ) (L.map (frD ps)) [x0, x1, .d (nm ps fac), .d (nm ps e), s4, s5] =
      if bar L e fac = true then some (.rt (.bool false) [x0, x1, .d (nm ps fac), .d (nm ps e), s4, s']) else some (.nx [x0, x1, .d (nm ps fac), .d (nm ps e), s4, s'])
  | [], s5, _, h5 => ⟨s5, h5, rfl⟩
  | f :: L, s5, hL, h5 => by
    have h1 := hL f List.mem_cons_self
    have a5 : asg (.nm 5) (frD ps f) [x0, x1, .d (nm ps fac), .d (nm ps e), s4, s5] = some [x0, x1, .d (nm ps fac), .d (nm ps e), s4, .d (frD ps f)] := by
      cases s5 <;> first | exact absurd rfl (h5 _ _) | rfl
    have w := without P (n := n) h1.l2 hf (by have := h1.s2; omega)
    have wl := wo_len hf (k := f.2.sum + 1) h1.l2
    have md := o_mod P (e := e) (f := wo (f.2.sum + 1) f.2 fac)
    have cr := c_rem P he wl
    have tst : evT G (D0 (n + 1)) (.cmp .Eq (.bin .Mod (.pl 3) (.call 11 (.cons (.ix (.pl 5) (.int 1)) (.cons (.pl 2) .nil)))) (.int 0)) [x0, x1, .d (nm ps fac), .d (nm ps e), s4, .d (frD ps f)] = some (Vx.le (wo (f.2.sum + 1) f.2 fac) e, [x0, x1, .d (nm ps fac), .d (nm ps e), s4, .d (frD ps f)]) := by
      simp only [evT, evE, evEs, argS, als, wrB_pp, List.getElem?_cons_zero, List.getElem?_cons_succ, Option.map, List.nodup_nil, if_true, rdV_p, ix1 P, w, md, cr]
    by_cases q : Vx.le (wo (f.2.sum + 1) f.2 fac) e = true
    · refine ⟨.d (frD ps f), no_d, ?_⟩
      have hb : bar (f :: L) e fac = true := by
        unfold bar
        rw [List.any_cons, q]
        rfl
      rw [if_pos hb, List.map_cons]
      unfold forL
      rw [a5]
      dsimp only
      rw [q] at tst
      unfold kI
      rw [ss_ift tst rfl]
    · obtain ⟨s', g1, g2⟩ := kg_in (n := n) (x0 := x0) (x1 := x1) (s4 := s4) hf he (L := L) (s5 := .d (frD ps f)) (fun x hx => hL x (List.mem_cons_of_mem _ hx)) no_d
      have z : Vx.le (wo (f.2.sum + 1) f.2 fac) e = false := by
        cases z : Vx.le (wo (f.2.sum + 1) f.2 fac) e with
        | true => exact absurd z q
        | false => rfl
      refine ⟨s', g1, ?_⟩
      have hb : bar (f :: L) e fac = bar L e fac := by
        unfold bar
        rw [List.any_cons, z, Bool.false_or]
      rw [hb, ← g2, List.map_cons]
      conv => lhs; unfold forL
      rw [a5]
      dsimp only
      rw [z] at tst
      have body : evSs 3000 G (D0 (n + 1)) (O0 (n + 1)) kI [x0, x1, .d (nm ps fac), .d (nm ps e), s4, .d (frD ps f)] = some (.nx [x0, x1, .d (nm ps fac), .d (nm ps e), s4, .d (frD ps f)]) := by
        unfold kI
        rw [ss_ifn tst, evSs]
      rw [body]
theorem kg_out {n : Nat} {m : List Fr2} (hm : OkM m) {x1 : SV} {fac : Vec} (hf : fac.length = 5) : ∀ {es : List Vec} {s3 s4 s5 : SV}, (∀ e ∈ es, e.length = 5) → No s3 → No s4 → No s5 →
    ∃ s3' s4' s5', forL (asg (.nm 3)) (fun ρ => evSs 3000 G (D0 (n + 1)) (O0 (n + 1)) kO ρ) (es.map (nm ps)) [.d (mD ps m), x1, .d (nm ps fac), s3, s4, s5] =
      if kg m es fac = true then some (.nx [.d (mD ps m), x1, .d (nm ps fac), s3', s4', s5']) else some (.rt (.bool false) [.d (mD ps m), x1, .d (nm ps fac), s3', s4', s5'])
  | [], s3, s4, s5, _, _, _, _ => ⟨s3, s4, s5, rfl⟩
  | e :: es, s3, s4, s5, hE, h3, h4, h5 => by
    have he := hE e List.mem_cons_self
    have a3 : asg (.nm 3) (nm ps e) [.d (mD ps m), x1, .d (nm ps fac), s3, s4, s5] = some [.d (mD ps m), x1, .d (nm ps fac), .d (nm ps e), s4, s5] := by
      cases s3 <;> first | exact absurd rfl (h3 _ _) | rfl
    have i4 : isRef [.d (mD ps m), x1, .d (nm ps fac), .d (nm ps e), s4, s5] 4 = false := by
      cases s4 <;> first | exact absurd rfl (h4 _ _) | rfl
    have pi := place_in P (n := n) (m := m) (fun f hf => (hm.2 f hf).l2) he
    have ev4 : evE G (D0 (n + 1)) (.call 15 (.cons (.pl 0) (.cons (.pl 3) .nil))) [.d (mD ps m), x1, .d (nm ps fac), .d (nm ps e), s4, s5] = some (.p (.int (pl m e)), [.d (mD ps m), x1, .d (nm ps fac), .d (nm ps e), s4, s5]) := by
      simp only [evE, evEs, argS, als, wrB_pp, List.getElem?_cons_zero, List.getElem?_cons_succ, Option.map, List.nodup_nil, if_true, pi]
    obtain ⟨s', g1, g2⟩ := kg_in P (n := n) (x0 := .d (mD ps m)) (x1 := x1) (s4 := .d (.int (pl m e))) hf he (L := cutG m none (some (pl m e))) (s5 := s5) (fun f hf => hm.2 f (cut_mem hf)) h5
    have ei : evI G (D0 (n + 1)) (.sq (.slc (.pl 0) .no (.so (.pl 4)))) [.d (mD ps m), x1, .d (nm ps fac), .d (nm ps e), .d (.int (pl m e)), s5] = some ((cutG m none (some (pl m e))).map (frD ps), [.d (mD ps m), x1, .d (nm ps fac), .d (nm ps e), .d (.int (pl m e)), s5]) := by
      simp only [evI, evE, evEo, List.getElem?_cons_zero, List.getElem?_cons_succ, rdV_p, mD, slcF, cut_map, seqD]
    by_cases q : bar (cutG m none (some (pl m e))) e fac = true
    · refine ⟨.d (nm ps e), .d (.int (pl m e)), s', ?_⟩
      have hk : ¬ kg m (e :: es) fac = true := by
        unfold kg
        rw [List.all_cons, q]
        simp
      rw [if_neg hk, List.map_cons]
      unfold forL
      rw [a3]
      dsimp only
      rw [if_pos q] at g2
      unfold kO
      rw [ss_set ev4 i4]
      dsimp only [List.set_cons_succ, List.set_cons_zero]
      rw [ss_forR ei g2]
    · obtain ⟨t3, t4, t5, ih⟩ := kg_out (n := n) hm (x1 := x1) hf (es := es) (s3 := .d (nm ps e)) (s4 := .d (.int (pl m e))) (s5 := s') (fun x hx => hE x (List.mem_cons_of_mem _ hx)) no_d no_d g1
      refine ⟨t3, t4, t5, ?_⟩
      have hk : kg m (e :: es) fac = kg m es fac := by
        have z : bar (cutG m none (some (pl m e))) e fac = false := by
          cases z : bar (cutG m none (some (pl m e))) e fac with
          | true => exact absurd z q
          | false => rfl
        unfold kg
        rw [List.all_cons, z]
        simp
      rw [hk, ← ih, List.map_cons]
      conv => lhs; unfold forL
      rw [a3]
      dsimp only
      rw [if_neg q] at g2
      have body : evSs 3000 G (D0 (n + 1)) (O0 (n + 1)) kO [.d (mD ps m), x1, .d (nm ps fac), .d (nm ps e), s4, s5] = some (.nx [.d (mD ps m), x1, .d (nm ps fac), .d (nm ps e), .d (.int (pl m e)), s']) := by
        unfold kO
        rw [ss_set ev4 i4]
        dsimp only [List.set_cons_succ, List.set_cons_zero]
        rw [ss_for ei g2, evSs]
      rw [body]
theorem keeps_going {n : Nat} {m : List Fr2} {es : List Vec} {fac : Vec} (hm : OkM m) (hf : fac.length = 5) (he : ∀ e ∈ es, e.length = 5) : D0 (n + 2) 37 [.d (mD ps m), .d (.list (es.map (nm ps))), .d (nm ps fac)] = some (.bool (kg m es fac), [.d (mD ps m), .d (.list (es.map (nm ps))), .d (nm ps fac)]) := by
  obtain ⟨s3, s4, s5, h⟩ := kg_out P (n := n) hm (x1 := .d (.list (es.map (nm ps)))) hf (es := es) (s3 := .un) (s4 := .un) (s5 := .un) he no_un no_un no_un
  have ei : evI G (D0 (n + 1)) (.sq (.pl 1)) [.d (mD ps m), .d (.list (es.map (nm ps))), .d (nm ps fac), .un, .un, .un] = some (es.map (nm ps), [.d (mD ps m), .d (.list (es.map (nm ps))), .d (nm ps fac), .un, .un, .un]) := rfl
  rw [c37]
  rw [show b37 = .cons (.for (.nm 3) (.sq (.pl 1)) kO) (.cons (.ret (.bl true)) .nil) from rfl]
  cases q : kg m es fac with
  | true =>
    rw [if_pos q] at h
    rw [ss_for ei h]
    rfl
  | false =>
    rw [if_neg (by rw [q]; exact Bool.false_ne_true)] at h
    rw [ss_forR ei h]
    rfl
end
end Ir
set_option Elab.async false
set_option linter.all false
set_option maxRecDepth 100000
set_option maxHeartbeats 4000000
namespace Ir
open PySem L2 Dn
/-- whether numbers of a run go on for ever by a stretch -/
def stI (m : List Fr2) (es : List Vec) (a b : Nat) : Bool := match es[a + b]?, es[a]? with
  | some z, some y => if Vx.le y z = true then kg m (cutG es (some (a : Int)) (some ((a + b : Nat) : Int))) (Vx.sub z y) else false
  | _, _ => false
section
variable {ps : List Nat} (P : Pr ps)
include P
theorem is_stretch_in {n a b : Nat} {m : List Fr2} {es : List Vec} (hm : OkM m) (he : ∀ e ∈ es, e.length = 5 ∧ e.sum ≤ 500) : D0 (n + 3) 38 [.d (mD ps m), .d (.list (es.map (nm ps))), .d (.int (a : Int)), .d (.int (b : Int))] = some (.bool (stI m es a b), [.d (mD ps m), .d (.list (es.map (nm ps))), .d (.int (a : Int)), .d (.int (b : Int))]) := by
  have ad : ∀ {ρ : Rho}, ρ[2]? = some (.d (.int (a : Int))) → ρ[3]? = some (.d (.int (b : Int))) → evE G (D0 (n + 2)) (.bin .Add (.pl 2) (.pl 3)) ρ = some (.p (.int ((a + b : Nat) : Int)), ρ) := fun {ρ} h2 h3 => by
    have e2 : evE G (D0 (n + 2)) (.pl 2) ρ = some (.p (.int (a : Int)), ρ) := by rw [evE, h2]
    have e3 : evE G (D0 (n + 2)) (.pl 3) ρ = some (.p (.int (b : Int)), ρ) := by rw [evE, h3]
    exact ev_bin e2 e3 (by rw [rdV_p, rdV_p]; show some (PyData.int ((a : Int) + (b : Int))) = _; rw [Int.natCast_add])
  have ln : evE G (D0 (n + 2)) (.blt .len (.cons (.pl 1) .nil)) [.d (mD ps m), .d (.list (es.map (nm ps))), .d (.int (a : Int)), .d (.int (b : Int)), .un] = some (.p (.int (es.length : Nat)), [.d (mD ps m), .d (.list (es.map (nm ps))), .d (.int (a : Int)), .d (.int (b : Int)), .un]) :=
    ev_blt1 (x := .p (.list (es.map (nm ps)))) rfl (by rw [rdV_p, b_lenl, List.length_map])
  have ge : cmpF .GtE (.int ((a + b : Nat) : Int)) (.int (es.length : Nat)) = some (decide (es.length ≤ a + b)) := by
    show some (decide (((es.length : Nat) : Int) ≤ ((a + b : Nat) : Int))) = _
    congr 1
    exact decide_eq_decide.mpr (by omega)
  have t1 : evT G (D0 (n + 2)) (.cmp .GtE (.bin .Add (.pl 2) (.pl 3)) (.blt .len (.cons (.pl 1) .nil))) [.d (mD ps m), .d (.list (es.map (nm ps))), .d (.int (a : Int)), .d (.int (b : Int)), .un] = some (decide (es.length ≤ a + b), [.d (mD ps m), .d (.list (es.map (nm ps))), .d (.int (a : Int)), .d (.int (b : Int)), .un]) :=
    et_cmp (ad rfl rfl) ln (by rw [rdV_p, rdV_p, ge])
  rw [c38]
  rw [show b38 = .cons (.ife (.or (.cmp .GtE (.bin .Add (.pl 2) (.pl 3)) (.blt .len (.cons (.pl 1) .nil))) (.one (.cmp .NotEq (.bin .Mod (.ix (.pl 1) (.bin .Add (.pl 2) (.pl 3))) (.ix (.pl 1) (.pl 2))) (.int 0)))) (.cons (.ret (.bl false)) .nil) .nil)
    (.cons (.set 4 (.bin .FloorDiv (.ix (.pl 1) (.bin .Add (.pl 2) (.pl 3))) (.ix (.pl 1) (.pl 2)))) (.cons (.ret (.call 37 (.cons (.pl 0) (.cons (.slc (.pl 1) (.so (.pl 2)) (.so (.bin .Add (.pl 2) (.pl 3)))) (.cons (.pl 4) .nil))))) .nil)) from rfl]
  by_cases q : es.length ≤ a + b
  · have e1 : stI m es a b = false := by
      have : es[a + b]? = none := List.getElem?_eq_none q
      unfold stI
      rw [this]
    rw [e1]
    rw [decide_eq_true q] at t1
    rw [ss_ift (t := .or _ _) (ρ1 := [.d (mD ps m), .d (.list (es.map (nm ps))), .d (.int (a : Int)), .d (.int (b : Int)), .un]) (by rw [evT, t1]) rfl]
    rfl
  · have h1 : es[a + b]? = some es[a + b] := List.getElem?_eq_getElem (by omega)
    have h2 : es[a]? = some es[a] := List.getElem?_eq_getElem (by omega)
    have hz := he _ (List.mem_of_getElem? h1)
    have hy := he _ (List.mem_of_getElem? h2)
    generalize es[a + b] = z at h1 hz
    generalize es[a] = y at h2 hy
    have x1 : ixF (.list (es.map (nm ps))) (.int ((a + b : Nat) : Int)) = some (nm ps z) := by
      show atI _ ((a + b : Nat) : Int) = _
      rw [atI_nat, List.getElem?_map, h1]
      rfl
    have x2 : ixF (.list (es.map (nm ps))) (.int (a : Int)) = some (nm ps y) := by
      show atI _ (a : Int) = _
      rw [atI_nat, List.getElem?_map, h2]
      rfl
    have i1 : evE G (D0 (n + 2)) (.ix (.pl 1) (.bin .Add (.pl 2) (.pl 3))) [.d (mD ps m), .d (.list (es.map (nm ps))), .d (.int (a : Int)), .d (.int (b : Int)), .un] = some (.p (nm ps z), [.d (mD ps m), .d (.list (es.map (nm ps))), .d (.int (a : Int)), .d (.int (b : Int)), .un]) :=
      ev_ix (x := .p (.list (es.map (nm ps)))) rfl (ad rfl rfl) x1
    have i2 : evE G (D0 (n + 2)) (.ix (.pl 1) (.pl 2)) [.d (mD ps m), .d (.list (es.map (nm ps))), .d (.int (a : Int)), .d (.int (b : Int)), .un] = some (.p (nm ps y), [.d (mD ps m), .d (.list (es.map (nm ps))), .d (.int (a : Int)), .d (.int (b : Int)), .un]) :=
      ev_ix (x := .p (.list (es.map (nm ps)))) (y := .p (.int (a : Int))) rfl rfl x2
    have md := o_mod P (e := z) (f := y)
    have cr := c_remn P hz.1 hy.1
    have t2 : evT G (D0 (n + 2)) (.cmp .NotEq (.bin .Mod (.ix (.pl 1) (.bin .Add (.pl 2) (.pl 3))) (.ix (.pl 1) (.pl 2))) (.int 0)) [.d (mD ps m), .d (.list (es.map (nm ps))), .d (.int (a : Int)), .d (.int (b : Int)), .un] = some (!Vx.le y z, [.d (mD ps m), .d (.list (es.map (nm ps))), .d (.int (a : Int)), .d (.int (b : Int)), .un]) :=
      et_cmp (y := .p (.int 0)) (ev_bin i1 i2 (by rw [rdV_p, rdV_p, md])) rfl (by rw [rdV_p, rdV_p, cr])
    rw [decide_eq_false q] at t1
    have t3 : evT G (D0 (n + 2)) (.or (.cmp .GtE (.bin .Add (.pl 2) (.pl 3)) (.blt .len (.cons (.pl 1) .nil))) (.one (.cmp .NotEq (.bin .Mod (.ix (.pl 1) (.bin .Add (.pl 2) (.pl 3))) (.ix (.pl 1) (.pl 2))) (.int 0)))) [.d (mD ps m), .d (.list (es.map (nm ps))), .d (.int (a : Int)), .d (.int (b : Int)), .un] = some (!Vx.le y z, [.d (mD ps m), .d (.list (es.map (nm ps))), .d (.int (a : Int)), .d (.int (b : Int)), .un]) := by
      rw [evT, t1]
      dsimp only
      rw [evT, t2]
    by_cases w : Vx.le y z = true
    · have e1 : stI m es a b = kg m (cutG es (some (a : Int)) (some ((a + b : Nat) : Int))) (Vx.sub z y) := by
        unfold stI
        rw [h1, h2]
        exact if_pos w
      rw [w] at t3
      have dv := o_div P hz.1 hy.1 w hy.2
      have k := keeps_going P (n := n) hm (Vx.sub_len hz.1 hy.1) (es := cutG es (some (a : Int)) (some ((a + b : Nat) : Int))) (fun e h => (he e (cut_mem h)).1)
      have sl : evE G (D0 (n + 2)) (.slc (.pl 1) (.so (.pl 2)) (.so (.bin .Add (.pl 2) (.pl 3)))) [.d (mD ps m), .d (.list (es.map (nm ps))), .d (.int (a : Int)), .d (.int (b : Int)), .d (nm ps (Vx.sub z y))] = some (.p (.list ((cutG es (some (a : Int)) (some ((a + b : Nat) : Int))).map (nm ps))), [.d (mD ps m), .d (.list (es.map (nm ps))), .d (.int (a : Int)), .d (.int (b : Int)), .d (nm ps (Vx.sub z y))]) := by
        have o1 : evE G (D0 (n + 2)) (.pl 1) [.d (mD ps m), .d (.list (es.map (nm ps))), .d (.int (a : Int)), .d (.int (b : Int)), .d (nm ps (Vx.sub z y))] = some (.p (.list (es.map (nm ps))), [.d (mD ps m), .d (.list (es.map (nm ps))), .d (.int (a : Int)), .d (.int (b : Int)), .d (nm ps (Vx.sub z y))]) := rfl
        have o2 : evEo G (D0 (n + 2)) (.so (.pl 2)) [.d (mD ps m), .d (.list (es.map (nm ps))), .d (.int (a : Int)), .d (.int (b : Int)), .d (nm ps (Vx.sub z y))] = some (some (a : Int), [.d (mD ps m), .d (.list (es.map (nm ps))), .d (.int (a : Int)), .d (.int (b : Int)), .d (nm ps (Vx.sub z y))]) := rfl
        have o3 : evEo G (D0 (n + 2)) (.so (.bin .Add (.pl 2) (.pl 3))) [.d (mD ps m), .d (.list (es.map (nm ps))), .d (.int (a : Int)), .d (.int (b : Int)), .d (nm ps (Vx.sub z y))] = some (some ((a + b : Nat) : Int), [.d (mD ps m), .d (.list (es.map (nm ps))), .d (.int (a : Int)), .d (.int (b : Int)), .d (nm ps (Vx.sub z y))]) := by
          rw [evEo, ad rfl rfl]
        rw [evE, o1]
        dsimp only
        rw [o2]
        dsimp only
        rw [o3]
        dsimp only
        rw [rdV_p]
        show (match some (PyData.list (cutD (es.map (nm ps)) (some (a : Int)) (some ((a + b : Nat) : Int)))) with
          | some z => some (Vl.p z, _)
          | none => none) = _
        rw [cut_map]
      rw [e1, ss_ifn t3]
      rw [ss_set (d := nm ps (Vx.sub z y)) (ρ1 := [.d (mD ps m), .d (.list (es.map (nm ps))), .d (.int (a : Int)), .d (.int (b : Int)), .un]) (ev_bin i1 i2 (by rw [rdV_p, rdV_p, dv])) rfl]
      dsimp only [List.set_cons_succ, List.set_cons_zero]
      have p0 : ∀ ρ : Rho, wrB [.p (mD ps m), .p (.list ((cutG es (some (a : Int)) (some ((a + b : Nat) : Int))).map (nm ps))), .p (nm ps (Vx.sub z y))] [.d (mD ps m), .d (.list ((cutG es (some (a : Int)) (some ((a + b : Nat) : Int))).map (nm ps))), .d (nm ps (Vx.sub z y))] ρ = ρ := fun _ => rfl
      rw [ss_ret (d := .bool (kg m (cutG es (some (a : Int)) (some ((a + b : Nat) : Int))) (Vx.sub z y))) (ρ1 := [.d (mD ps m), .d (.list (es.map (nm ps))), .d (.int (a : Int)), .d (.int (b : Int)), .d (nm ps (Vx.sub z y))]) (by
        rw [evE, evEs, show evE G (D0 (n + 2)) (.pl 0) [.d (mD ps m), .d (.list (es.map (nm ps))), .d (.int (a : Int)), .d (.int (b : Int)), .d (nm ps (Vx.sub z y))] = some (.p (mD ps m), [.d (mD ps m), .d (.list (es.map (nm ps))), .d (.int (a : Int)), .d (.int (b : Int)), .d (nm ps (Vx.sub z y))]) from rfl]
        dsimp only
        rw [evEs, sl]
        simp only [evE, evEs, argS, als, List.getElem?_cons_zero, List.getElem?_cons_succ, Option.map, List.nodup_nil, if_true, k, p0])]
      rfl
    · have w' : Vx.le y z = false := by
        cases h : Vx.le y z with
        | true => exact absurd h w
        | false => rfl
      have e1 : stI m es a b = false := by
        unfold stI
        rw [h1, h2]
        exact if_neg w
      rw [w'] at t3
      rw [e1, ss_ift t3 rfl]
      rfl
theorem is_stretch {n g a b : Nat} {m : List Fr2} {e : Vec} (hm : OkMg g m) (he : e.length = 5) (hs : e.sum + (a + b) * g ≤ 400) (ha : a ≤ 100) (hb : 1 ≤ b) (hb2 : b ≤ 100) : D0 (n + 6) 42 [.d (mD ps m), .d (nm ps e), .d (.int (a : Int)), .d (.int (b : Int))] = some (.bool (stI m (e :: wk m (a + b) e) a b), [.d (mD ps m), .d (nm ps e), .d (.int (a : Int)), .d (.int (b : Int))]) := by
  have h1 := sure_mill P (n := n) hm.m
  have h2 : D0 (n + 5) 6 [.d (nm ps e)] = some (nm ps e, [.d (nm ps e)]) := sure_number (n := n + 1) (v_pos P (e := e)) (v_most P (e := e) (by omega))
  have h3 := sure_within (n := n + 2) (a := (a : Int)) (b := 0) (c := 200) (by omega) (by omega)
  have h4 := sure_within (n := n + 2) (a := (b : Int)) (b := 1) (c := 200) (by omega) (by omega)
  have h5 := walk_in P (n := n + 3) hm he hs (by omega)
  have hv : ∀ x ∈ e :: wk m (a + b) e, x.length = 5 ∧ x.sum ≤ 500 := by
    have hw : ∀ {k : Nat} {e : Vec}, e.length = 5 → e.sum + k * g ≤ 400 → ∀ x ∈ wk m k e, x.length = 5 ∧ x.sum ≤ 500 := by
      intro k
      induction k with
      | zero => intro e _ _ x hx; simp [wk] at hx
      | succ k ih =>
        intro e he hs x hx
        unfold wk at hx
        rcases nxt_spec (m := m) (e := e) with ⟨z, _⟩ | ⟨j, f, _, z2, _, z6⟩
        · rw [z] at hx
          simp at hx
        · rw [z6] at hx
          have hf := hm.2 f (List.mem_of_getElem? z2)
          have hl := stp_len he hf.ok.l1 hf.ok.l2
          have hsum := stp_sum P he hf
          have hmul : (k + 1) * g = k * g + g := Nat.succ_mul _ _
          rcases List.mem_cons.mp hx with rfl | hx
          · exact ⟨hl, by omega⟩
          · exact ih hl (by omega) x hx
    intro x hx
    rcases List.mem_cons.mp hx with rfl | hx
    · exact ⟨he, by omega⟩
    · exact hw he hs x hx
  have h6 := is_stretch_in P (n := n + 2) (a := a) (b := b) hm.m hv
  have ad : binF .Add (.int (a : Int)) (.int (b : Int)) = some (.int ((a + b : Nat) : Int)) := by
    show some (PyData.int ((a : Int) + (b : Int))) = _
    rw [Int.natCast_add]
  have g7 : G[7]? = some (.int 200) := rfl
  generalize e :: wk m (a + b) e = W at *
  rw [c42]
  simp only [b42, evSs, evS, evE, evEs, argS, als, wrB, List.getElem?_cons_zero, List.getElem?_cons_succ, Option.map, List.nodup_nil, if_true, rdV_p, h1, h2, g7, h3, h4, isRef, Bool.false_eq_true, if_false, List.set_cons_succ, List.set_cons_zero, ad, h5, h6, outD]
  rfl
end
end Ir
set_option Elab.async false
set_option linter.all false
set_option maxRecDepth 100000
set_option maxHeartbeats 4000000
namespace Ir
open PySem L2 Dn
/-- where a number stood first -/
def lkA : List (Vec × Nat) → Vec → Option Nat
  | [], _ => none
  | p :: r, x => if p.1 = x then some p.2 else lkA r x
def kvA (ps : List Nat) (A : List (Vec × Nat)) : List (D × D) := A.map fun p => (nm ps p.1, .int (p.2 : Nat))
theorem any_none {k : Key} : ∀ {kvs : List (D × D)}, lookD kvs k = none → (kvs.any fun p => decide (keyOf p.1 = some k)) = false
  | [], _ => rfl
  | (d, y) :: r, h => by
    have h' : (if keyOf d = some k then some y else lookD r k) = none := h
    by_cases q : keyOf d = some k
    · rw [if_pos q] at h'
      cases h'
    · rw [if_neg q] at h'
      rw [List.any_cons, any_none h', decide_eq_false q]
      rfl
/-- places and numbers -/
def enV : Nat → List Vec → List (Nat × Vec)
  | _, [] => []
  | k, e :: es => (k, e) :: enV (k + 1) es
def evD (ps : List Nat) (p : Nat × Vec) : D := .tuple [.int (p.1 : Nat), nm ps p.2]
theorem enV_D {ps : List Nat} : ∀ {es : List Vec} {k : Nat}, enmD (es.map (nm ps)) k = (enV k es).map (evD ps)
  | [], _ => rfl
  | e :: es, k => congrArg (List.cons _) (enV_D (es := es) (k := k + 1))
theorem enV_mem : ∀ {es : List Vec} {k : Nat} {p : Nat × Vec}, p ∈ enV k es → p.2 ∈ es
  | _ :: _, k, p, h => by
    rcases List.mem_cons.mp h with rfl | h
    · exact List.mem_cons_self
    · exact List.mem_cons_of_mem _ (enV_mem h)
theorem enV_len : ∀ {es : List Vec} {k : Nat}, (enV k es).length = es.length
  | [], _ => rfl
  | _ :: es, k => congrArg (· + 1) (enV_len (es := es) (k := k + 1))
def putA (A : List (Vec × Nat)) (p : Nat × Vec) : List (Vec × Nat) := match lkA A p.2 with
  | none => A ++ [(p.2, p.1)]
  | some _ => A
def mkA : List (Nat × Vec) → List (Vec × Nat) → List (Vec × Nat)
  | [], A => A
  | p :: L, A => mkA L (putA A p)
abbrev Tr := Nat × Nat × Nat
def trD (t : Tr) : D := .tuple [.int (t.1 : Nat), .int (t.2.1 : Nat), .int (t.2.2 : Nat)]
def bD : Option Tr → D
  | none => .tuple []
  | some t => trD t
def lt3 (s t : Tr) : Bool := HT.lexLt [(s.1 : Int), (s.2.1 : Int), (s.2.2 : Int)] [(t.1 : Int), (t.2.1 : Int), (t.2.2 : Int)]
def btr (t : Tr) : Option Tr → Option Tr
  | none => some t
  | some b => if lt3 t b = true then some t else some b
def best1 (A : List (Vec × Nat)) (p : Nat × Vec) (b : Option Tr) : Option Tr := match lkA A p.2 with
  | none => b
  | some j => btr (p.1 + j, p.1, j) b
def bestA (A : List (Vec × Nat)) : List (Nat × Vec) → Option Tr → Option Tr
  | [], b => b
  | p :: L, b => bestA A L (best1 A p b)
def meD : Option Tr → D
  | none => .tuple []
  | some t => .tuple [.int (t.2.1 : Nat), .int (t.2.2 : Nat)]
def fA : Ss := .cons (.ife (.din true (.pl 12) (.pl 9)) (.cons (.dput 9 (.pl 12) (.pl 11)) .nil) .nil) .nil
def fC : E := .ife (.or (.cmp .Eq (.pl 10) (.tup .nil)) (.one (.cmp .Lt (.pl 13) (.pl 10)))) (.pl 13) (.pl 10)
def fB : Ss := .cons (.ife (.din false (.pl 12) (.pl 9)) (.cons (.set 13 (.tup (.cons (.bin .Add (.pl 11) (.dget (.pl 9) (.pl 12))) (.cons (.pl 11) (.cons (.dget (.pl 9) (.pl 12)) .nil))))) (.cons (.set 10 fC) .nil)) .nil) .nil
section
variable {ps : List Nat} (P : Pr ps)
include P
theorem look_A {x : Vec} (hx : x.length = 5) : ∀ {A : List (Vec × Nat)}, (∀ p ∈ A, p.1.length = 5) → lookD (kvA ps A) (.inl ((Vx.v ps x : Nat) : Int)) = (lkA A x).map fun k => .int (k : Nat)
  | [], _ => rfl
  | p :: A, h => by
    have hp := h p List.mem_cons_self
    have i := Vx.v_inj P.good (hp.trans P.len.symm) (hx.trans P.len.symm)
    show (if keyOf (nm ps p.1) = some (.inl ((Vx.v ps x : Nat) : Int)) then some (PyData.int (p.2 : Nat)) else lookD (kvA ps A) (.inl ((Vx.v ps x : Nat) : Int))) = Option.map _ (if p.1 = x then some p.2 else lkA A x)
    have ky : keyOf (nm ps p.1) = some (.inl ((Vx.v ps p.1 : Nat) : Int)) := rfl
    by_cases q : p.1 = x
    · rw [if_pos q, if_pos (by rw [ky, q])]
      rfl
    · rw [if_neg q, if_neg, look_A hx fun y hy => h y (List.mem_cons_of_mem _ hy)]
      rw [ky]
      intro z
      injection z with z
      injection z with z
      exact q (i.mp (by omega))
theorem fA_loop {n : Nat} {x0 x1 x2 x3 x4 x5 x6 x7 x8 x10 x13 : SV} : ∀ {L : List (Nat × Vec)} {A : List (Vec × Nat)} {s11 s12 : SV}, (∀ p ∈ L, p.2.length = 5) → (∀ p ∈ A, p.1.length = 5) → A.length + L.length ≤ 1000 → No s11 → No s12 →
    ∃ a b, No a ∧ No b ∧ (∀ p ∈ mkA L A, p.1.length = 5) ∧ forL (asg (.tp [11, 12])) (fun ρ => evSs 3000 G (D0 n) (O0 n) fA ρ) (L.map (evD ps)) [x0, x1, x2, x3, x4, x5, x6, x7, x8, .own false (.dct (kvA ps A)), x10, s11, s12, x13] = some (.nx [x0, x1, x2, x3, x4, x5, x6, x7, x8, .own false (.dct (kvA ps (mkA L A))), x10, a, b, x13])
  | [], A, s11, s12, _, hA, _, h11, h12 => ⟨s11, s12, h11, h12, hA, rfl⟩
  | p :: L, A, s11, s12, hL, hA, hc, h11, h12 => by
    have hp := hL p List.mem_cons_self
    have hc' : A.length + (L.length + 1) ≤ 1000 := hc
    have ag : asg (.tp [11, 12]) (evD ps p) [x0, x1, x2, x3, x4, x5, x6, x7, x8, .own false (.dct (kvA ps A)), x10, s11, s12, x13] = some [x0, x1, x2, x3, x4, x5, x6, x7, x8, .own false (.dct (kvA ps A)), x10, .d (.int (p.1 : Nat)), .d (nm ps p.2), x13] := by
      cases s11 <;> cases s12 <;> first | exact absurd rfl (h11 _ _) | exact absurd rfl (h12 _ _) | rfl
    have ky : keyOf (nm ps p.2) = some (.inl ((Vx.v ps p.2 : Nat) : Int)) := rfl
    have lk := look_A P hp hA
    have step : (∀ q ∈ putA A p, q.1.length = 5) ∧ (putA A p).length ≤ A.length + 1 ∧ evSs 3000 G (D0 n) (O0 n) fA [x0, x1, x2, x3, x4, x5, x6, x7, x8, .own false (.dct (kvA ps A)), x10, .d (.int (p.1 : Nat)), .d (nm ps p.2), x13] = some (.nx [x0, x1, x2, x3, x4, x5, x6, x7, x8, .own false (.dct (kvA ps (putA A p))), x10, .d (.int (p.1 : Nat)), .d (nm ps p.2), x13]) := by
      cases q : lkA A p.2 with
      | none =>
        have e1 : putA A p = A ++ [(p.2, p.1)] := by unfold putA; rw [q]
        rw [q] at lk
        have lk' : lookD (kvA ps A) (.inl ((Vx.v ps p.2 : Nat) : Int)) = none := lk
        have pu : putD (kvA ps A) (.inl ((Vx.v ps p.2 : Nat) : Int)) (.int (p.1 : Nat)) = kvA ps (A ++ [(p.2, p.1)]) := by
          unfold putD
          rw [any_none lk', if_neg Bool.false_ne_true]
          unfold kvA
          rw [List.map_append]
          rfl
        have hl : (kvA ps A).length < cap := by unfold kvA cap; rw [List.length_map]; omega
        rw [e1]
        refine ⟨fun y hy => ?_, by simp, ?_⟩
        · rcases List.mem_append.mp hy with hy | hy
          · exact hA y hy
          · have : y = (p.2, p.1) := by simpa using hy
            rw [this]
            exact hp
        · simp [fA, evSs, evS, evT, evE, rdV_p, rdV, ovD, ky, lk', isOwn, hl, pu]
      | some j =>
        have e1 : putA A p = A := by unfold putA; rw [q]
        rw [q] at lk
        have lk' : lookD (kvA ps A) (.inl ((Vx.v ps p.2 : Nat) : Int)) = some (.int (j : Nat)) := lk
        rw [e1]
        refine ⟨hA, by omega, ?_⟩
        simp [fA, evSs, evS, evT, evE, rdV_p, rdV, ovD, ky, lk']
    obtain ⟨g1, g2, g3⟩ := step
    obtain ⟨a, b, k1, k2, k3, k4⟩ := fA_loop (n := n) (x0 := x0) (x1 := x1) (x2 := x2) (x3 := x3) (x4 := x4) (x5 := x5) (x6 := x6) (x7 := x7) (x8 := x8) (x10 := x10) (x13 := x13) (L := L) (A := putA A p) (s11 := .d (.int (p.1 : Nat))) (s12 := .d (nm ps p.2)) (fun y hy => hL y (List.mem_cons_of_mem _ hy)) g1 (by omega) no_d no_d
    refine ⟨a, b, k1, k2, k3, ?_⟩
    rw [List.map_cons]
    unfold forL
    rw [ag]
    dsimp only
    rw [g3]
    exact k4
theorem eq_b {t : Tr} : cmpF .Eq (bD none) (.tuple []) = some true ∧ cmpF .Eq (bD (some t)) (.tuple []) = some false := ⟨rfl, rfl⟩
theorem lt_b {s t : Tr} : cmpF .Lt (trD s) (bD (some t)) = some (lt3 s t) := rfl
theorem fC_ev {n : Nat} {x0 x1 x2 x3 x4 x5 x6 x7 x8 x9 x11 x12 : SV} {t : Tr} {b : Option Tr} : evE G (D0 n) fC [x0, x1, x2, x3, x4, x5, x6, x7, x8, x9, .d (bD b), x11, x12, .d (trD t)] = some (.p (bD (btr t b)), [x0, x1, x2, x3, x4, x5, x6, x7, x8, x9, .d (bD b), x11, x12, .d (trD t)]) := by
  have hc : 0 ≤ cap := Nat.zero_le _
  cases b with
  | none =>
    have h := (eq_b P (t := t)).1
    simp [fC, evE, evT, evEs, pvDs, rdV_p, hc, h]
    rfl
  | some u =>
    have h := (eq_b P (t := u)).2
    have h2 := lt_b P (s := t) (t := u)
    cases q : lt3 t u with
    | true =>
      have e1 : btr t (some u) = some t := if_pos q
      rw [e1]
      rw [q] at h2
      simp [fC, evE, evT, evEs, pvDs, rdV_p, hc, h, h2]
      rfl
    | false =>
      have e1 : btr t (some u) = some u := if_neg (by rw [q]; exact Bool.false_ne_true)
      rw [e1]
      rw [q] at h2
      simp [fC, evE, evT, evEs, pvDs, rdV_p, hc, h, h2]
theorem fB_loop {n : Nat} {x0 x1 x2 x3 x4 x5 x6 x7 x8 : SV} {A : List (Vec × Nat)} (hA : ∀ p ∈ A, p.1.length = 5) : ∀ {L : List (Nat × Vec)} {b : Option Tr} {s11 s12 s13 : SV}, (∀ p ∈ L, p.2.length = 5) → No s11 → No s12 → No s13 →
    ∃ a c e, forL (asg (.tp [11, 12])) (fun ρ => evSs 3000 G (D0 n) (O0 n) fB ρ) (L.map (evD ps)) [x0, x1, x2, x3, x4, x5, x6, x7, x8, .own false (.dct (kvA ps A)), .d (bD b), s11, s12, s13] = some (.nx [x0, x1, x2, x3, x4, x5, x6, x7, x8, .own false (.dct (kvA ps A)), .d (bD (bestA A L b)), a, c, e])
  | [], b, s11, s12, s13, _, _, _, _ => ⟨s11, s12, s13, rfl⟩
  | p :: L, b, s11, s12, s13, hL, h11, h12, h13 => by
    have hp := hL p List.mem_cons_self
    have ag : asg (.tp [11, 12]) (evD ps p) [x0, x1, x2, x3, x4, x5, x6, x7, x8, .own false (.dct (kvA ps A)), .d (bD b), s11, s12, s13] = some [x0, x1, x2, x3, x4, x5, x6, x7, x8, .own false (.dct (kvA ps A)), .d (bD b), .d (.int (p.1 : Nat)), .d (nm ps p.2), s13] := by
      cases s11 <;> cases s12 <;> first | exact absurd rfl (h11 _ _) | exact absurd rfl (h12 _ _) | rfl
    have i13 : isRef [x0, x1, x2, x3, x4, x5, x6, x7, x8, .own false (.dct (kvA ps A)), .d (bD b), .d (.int (p.1 : Nat)), .d (nm ps p.2), s13] 13 = false := by
      cases s13 <;> first | exact absurd rfl (h13 _ _) | rfl
    have ky : keyOf (nm ps p.2) = some (.inl ((Vx.v ps p.2 : Nat) : Int)) := rfl
    have lk := look_A P hp hA
    have step : ∃ s13', No s13' ∧ evSs 3000 G (D0 n) (O0 n) fB [x0, x1, x2, x3, x4, x5, x6, x7, x8, .own false (.dct (kvA ps A)), .d (bD b), .d (.int (p.1 : Nat)), .d (nm ps p.2), s13] = some (.nx [x0, x1, x2, x3, x4, x5, x6, x7, x8, .own false (.dct (kvA ps A)), .d (bD (best1 A p b)), .d (.int (p.1 : Nat)), .d (nm ps p.2), s13']) := by
      cases q : lkA A p.2 with
      | none =>
        have e1 : best1 A p b = b := by unfold best1; rw [q]
        rw [q] at lk
        have lk' : lookD (kvA ps A) (.inl ((Vx.v ps p.2 : Nat) : Int)) = none := lk
        refine ⟨s13, h13, ?_⟩
        rw [e1]
        simp [fB, evSs, evS, evT, evE, rdV_p, rdV, ovD, ky, lk']
      | some j =>
        have e1 : best1 A p b = btr (p.1 + j, p.1, j) b := by unfold best1; rw [q]
        rw [q] at lk
        have lk' : lookD (kvA ps A) (.inl ((Vx.v ps p.2 : Nat) : Int)) = some (.int (j : Nat)) := lk
        have ad : binF .Add (.int (p.1 : Nat)) (.int (j : Nat)) = some (.int ((p.1 + j : Nat) : Int)) := by
          show some (PyData.int ((p.1 : Int) + (j : Int))) = _
          rw [Int.natCast_add]
        have hc : 3 ≤ cap := by decide
        have fc := fC_ev P (n := n) (x0 := x0) (x1 := x1) (x2 := x2) (x3 := x3) (x4 := x4) (x5 := x5) (x6 := x6) (x7 := x7) (x8 := x8) (x9 := .own false (.dct (kvA ps A))) (x11 := .d (.int (p.1 : Nat))) (x12 := .d (nm ps p.2)) (t := (p.1 + j, p.1, j)) (b := b)
        have dg : evE G (D0 n) (.dget (.pl 9) (.pl 12)) [x0, x1, x2, x3, x4, x5, x6, x7, x8, .own false (.dct (kvA ps A)), .d (bD b), .d (.int (p.1 : Nat)), .d (nm ps p.2), s13] = some (.p (.int (j : Nat)), [x0, x1, x2, x3, x4, x5, x6, x7, x8, .own false (.dct (kvA ps A)), .d (bD b), .d (.int (p.1 : Nat)), .d (nm ps p.2), s13]) := by
          simp [evE, rdV_p, rdV, ovD, ky, lk']
        have di : evT G (D0 n) (.din false (.pl 12) (.pl 9)) [x0, x1, x2, x3, x4, x5, x6, x7, x8, .own false (.dct (kvA ps A)), .d (bD b), .d (.int (p.1 : Nat)), .d (nm ps p.2), s13] = some (true, [x0, x1, x2, x3, x4, x5, x6, x7, x8, .own false (.dct (kvA ps A)), .d (bD b), .d (.int (p.1 : Nat)), .d (nm ps p.2), s13]) := by
          simp [evT, evE, rdV_p, rdV, ovD, ky, lk']
        have tp : evE G (D0 n) (.tup (.cons (.bin .Add (.pl 11) (.dget (.pl 9) (.pl 12))) (.cons (.pl 11) (.cons (.dget (.pl 9) (.pl 12)) .nil)))) [x0, x1, x2, x3, x4, x5, x6, x7, x8, .own false (.dct (kvA ps A)), .d (bD b), .d (.int (p.1 : Nat)), .d (nm ps p.2), s13] = some (.p (trD (p.1 + j, p.1, j)), [x0, x1, x2, x3, x4, x5, x6, x7, x8, .own false (.dct (kvA ps A)), .d (bD b), .d (.int (p.1 : Nat)), .d (nm ps p.2), s13]) := by
          have b0 : evE G (D0 n) (.pl 11) [x0, x1, x2, x3, x4, x5, x6, x7, x8, .own false (.dct (kvA ps A)), .d (bD b), .d (.int (p.1 : Nat)), .d (nm ps p.2), s13] = some (.p (.int (p.1 : Nat)), [x0, x1, x2, x3, x4, x5, x6, x7, x8, .own false (.dct (kvA ps A)), .d (bD b), .d (.int (p.1 : Nat)), .d (nm ps p.2), s13]) := rfl
          have b1 := ev_bin b0 dg (by rw [rdV_p, rdV_p]; exact ad)
          rw [evE, evEs, b1]
          dsimp only
          rw [evEs, b0]
          dsimp only
          rw [evEs, dg]
          dsimp only
          rw [evEs]
          simp [pvDs, hc]
          rfl
        refine ⟨.d (trD (p.1 + j, p.1, j)), no_d, ?_⟩
        rw [e1]
        unfold fB
        rw [evSs, evS, di]
        dsimp only
        rw [ss_set tp i13]
        dsimp only [List.set_cons_succ, List.set_cons_zero]
        rw [ss_set fc rfl]
        rw [evSs]
        dsimp only
        rw [evSs]
        rfl
    obtain ⟨s13', g0, g3⟩ := step
    obtain ⟨a, c, e, k4⟩ := fB_loop (n := n) (x0 := x0) (x1 := x1) (x2 := x2) (x3 := x3) (x4 := x4) (x5 := x5) (x6 := x6) (x7 := x7) (x8 := x8) hA (L := L) (b := best1 A p b) (s11 := .d (.int (p.1 : Nat))) (s12 := .d (nm ps p.2)) (s13 := s13') (fun y hy => hL y (List.mem_cons_of_mem _ hy)) no_d no_d g0
    refine ⟨a, c, e, ?_⟩
    rw [List.map_cons]
    unfold forL
    rw [ag]
    dsimp only
    rw [g3]
    exact k4
/-- where two runs meet -/
def mts (m : List Fr2) (e f : Vec) (k : Nat) : Option Tr := bestA (mkA (enV 0 (f :: wk m k f)) []) (enV 0 (e :: wk m k e)) none
theorem meets {n g k : Nat} {m : List Fr2} {e f : Vec} (hm : OkMg g m) (he : e.length = 5) (hf : f.length = 5) (hs : e.sum + k * g ≤ 400) (hs2 : f.sum + k * g ≤ 400) (hk : k ≤ 500) :
    D0 (n + 6) 23 [.d (mD ps m), .d (nm ps e), .d (nm ps f), .d (.int (k : Int))] = some (meD (mts m e f k), [.d (mD ps m), .d (nm ps e), .d (nm ps f), .d (.int (k : Int))]) := by
  have h1 := sure_mill P (n := n) hm.m
  have h2 : D0 (n + 5) 6 [.d (nm ps e)] = some (nm ps e, [.d (nm ps e)]) := sure_number (n := n + 1) (v_pos P (e := e)) (v_most P (e := e) (by omega))
  have h3 : D0 (n + 5) 6 [.d (nm ps f)] = some (nm ps f, [.d (nm ps f)]) := sure_number (n := n + 1) (v_pos P (e := f)) (v_most P (e := f) (by omega))
  have h4 := walk_few P (n := n + 1) hm he hs hk
  have h5 := walk_few P (n := n + 1) hm hf hs2 hk
  have ve : ∀ x ∈ e :: wk m k e, x.length = 5 := fun x hx => by
    rcases List.mem_cons.mp hx with rfl | hx
    · exact he
    · exact wk_vec (fun f hf => ⟨(hm.2 f hf).ok.l1, (hm.2 f hf).ok.l2⟩) he x hx
  have vf : ∀ x ∈ f :: wk m k f, x.length = 5 := fun x hx => by
    rcases List.mem_cons.mp hx with rfl | hx
    · exact hf
    · exact wk_vec (fun f hf => ⟨(hm.2 f hf).ok.l1, (hm.2 f hf).ok.l2⟩) hf x hx
  have lf : (f :: wk m k f).length ≤ 501 := by
    have := wk_len (m := m) (k := k) (e := f)
    rw [List.length_cons]
    omega
  have mt : mts m e f k = bestA (mkA (enV 0 (f :: wk m k f)) []) (enV 0 (e :: wk m k e)) none := rfl
  rw [mt]
  generalize e :: wk m k e = W at *
  generalize f :: wk m k f = U at *
  obtain ⟨a, b, g1, g2, g3, g4⟩ := fA_loop P (n := n + 5) (x0 := .d (mD ps m)) (x1 := .d (nm ps e)) (x2 := .d (nm ps f)) (x3 := .d (.int (k : Int))) (x4 := .d (mD ps m)) (x5 := .d (nm ps e)) (x6 := .d (nm ps f)) (x7 := .d (.list (W.map (nm ps)))) (x8 := .d (.list (U.map (nm ps)))) (x10 := .d (bD none)) (x13 := .un) (L := enV 0 U) (A := []) (s11 := .un) (s12 := .un) (fun p hp => vf _ (enV_mem hp)) (fun p hp => (nomatch hp)) (by rw [enV_len]; simp; omega) no_un no_un
  obtain ⟨c, d, i, q4⟩ := fB_loop P (n := n + 5) (x0 := .d (mD ps m)) (x1 := .d (nm ps e)) (x2 := .d (nm ps f)) (x3 := .d (.int (k : Int))) (x4 := .d (mD ps m)) (x5 := .d (nm ps e)) (x6 := .d (nm ps f)) (x7 := .d (.list (W.map (nm ps)))) (x8 := .d (.list (U.map (nm ps)))) (A := mkA (enV 0 U) []) g3 (L := enV 0 W) (b := none) (s11 := a) (s12 := b) (s13 := .un) (fun p hp => ve _ (enV_mem hp)) g1 g2 no_un
  have e8 : evI G (D0 (n + 5)) (.enm (.pl 8)) [.d (mD ps m), .d (nm ps e), .d (nm ps f), .d (.int (k : Int)), .d (mD ps m), .d (nm ps e), .d (nm ps f), .d (.list (W.map (nm ps))), .d (.list (U.map (nm ps))), .own false (.dct (kvA ps [])), .d (bD none), .un, .un, .un] = some ((enV 0 U).map (evD ps), [.d (mD ps m), .d (nm ps e), .d (nm ps f), .d (.int (k : Int)), .d (mD ps m), .d (nm ps e), .d (nm ps f), .d (.list (W.map (nm ps))), .d (.list (U.map (nm ps))), .own false (.dct (kvA ps [])), .d (bD none), .un, .un, .un]) := by
    simp only [evI, evE, List.getElem?_cons_zero, List.getElem?_cons_succ, seqD, enV_D]
  have e7 : evI G (D0 (n + 5)) (.enm (.pl 7)) [.d (mD ps m), .d (nm ps e), .d (nm ps f), .d (.int (k : Int)), .d (mD ps m), .d (nm ps e), .d (nm ps f), .d (.list (W.map (nm ps))), .d (.list (U.map (nm ps))), .own false (.dct (kvA ps (mkA (enV 0 U) []))), .d (bD none), a, b, .un] = some ((enV 0 W).map (evD ps), [.d (mD ps m), .d (nm ps e), .d (nm ps f), .d (.int (k : Int)), .d (mD ps m), .d (nm ps e), .d (nm ps f), .d (.list (W.map (nm ps))), .d (.list (U.map (nm ps))), .own false (.dct (kvA ps (mkA (enV 0 U) []))), .d (bD none), a, b, .un]) := by
    simp only [evI, evE, List.getElem?_cons_zero, List.getElem?_cons_succ, seqD, enV_D]
  rw [c23]
  rw [show b23 = .cons (.set 4 (.call 14 (.cons (.pl 0) .nil))) (.cons (.set 5 (.call 6 (.cons (.pl 1) .nil))) (.cons (.set 6 (.call 6 (.cons (.pl 2) .nil)))
    (.cons (.set 7 (.call 24 (.cons (.pl 4) (.cons (.pl 5) (.cons (.pl 3) .nil))))) (.cons (.set 8 (.call 24 (.cons (.pl 4) (.cons (.pl 6) (.cons (.pl 3) .nil)))))
    (.cons (.par 9 10 (.f .dct0) (.e (.tup .nil))) (.cons (.for (.tp [11, 12]) (.enm (.pl 8)) fA) (.cons (.for (.tp [11, 12]) (.enm (.pl 7)) fB) (.cons (.ret (.slc (.pl 10) (.so (.int 1)) .no)) .nil)))))))) from rfl]
  rw [ss_nx (ρ1 := [.d (mD ps m), .d (nm ps e), .d (nm ps f), .d (.int (k : Int)), .d (mD ps m), .un, .un, .un, .un, .un, .un, .un, .un, .un]) (by simp [evS, evE, evEs, argS, als, wrB, h1, isRef]),
    ss_nx (ρ1 := [.d (mD ps m), .d (nm ps e), .d (nm ps f), .d (.int (k : Int)), .d (mD ps m), .d (nm ps e), .un, .un, .un, .un, .un, .un, .un, .un]) (by simp [evS, evE, evEs, argS, als, wrB, h2, isRef]),
    ss_nx (ρ1 := [.d (mD ps m), .d (nm ps e), .d (nm ps f), .d (.int (k : Int)), .d (mD ps m), .d (nm ps e), .d (nm ps f), .un, .un, .un, .un, .un, .un, .un]) (by simp [evS, evE, evEs, argS, als, wrB, h3, isRef]),
    ss_nx (ρ1 := [.d (mD ps m), .d (nm ps e), .d (nm ps f), .d (.int (k : Int)), .d (mD ps m), .d (nm ps e), .d (nm ps f), .d (.list (W.map (nm ps))), .un, .un, .un, .un, .un, .un]) (by simp [evS, evE, evEs, argS, als, wrB, h4, isRef]),
    ss_nx (ρ1 := [.d (mD ps m), .d (nm ps e), .d (nm ps f), .d (.int (k : Int)), .d (mD ps m), .d (nm ps e), .d (nm ps f), .d (.list (W.map (nm ps))), .d (.list (U.map (nm ps))), .un, .un, .un, .un, .un]) (by simp [evS, evE, evEs, argS, als, wrB, h5, isRef]),
    ss_nx (ρ1 := [.d (mD ps m), .d (nm ps e), .d (nm ps f), .d (.int (k : Int)), .d (mD ps m), .d (nm ps e), .d (nm ps f), .d (.list (W.map (nm ps))), .d (.list (U.map (nm ps))), .own false (.dct (kvA ps [])), .d (bD none), .un, .un, .un]) rfl,
    ss_for e8 g4, ss_for e7 q4]
  rw [ss_ret (d := meD (bestA (mkA (enV 0 U) []) (enV 0 W) none)) (ρ1 := [.d (mD ps m), .d (nm ps e), .d (nm ps f), .d (.int (k : Int)), .d (mD ps m), .d (nm ps e), .d (nm ps f), .d (.list (W.map (nm ps))), .d (.list (U.map (nm ps))), .own false (.dct (kvA ps (mkA (enV 0 U) []))), .d (bD (bestA (mkA (enV 0 U) []) (enV 0 W) none)), c, d, i]) (by
    cases bestA (mkA (enV 0 U) []) (enV 0 W) none <;> rfl)]
  rfl
end
end Ir
set_option Elab.async false
set_option linter.all false
set_option maxRecDepth 100000
set_option maxHeartbeats 4000000
namespace Ir
open PySem L2 Dn
def clD (s : Str) (m x : D) : D := .tuple [.str s, m, x]
theorem sh_pairs {l : List (Int × Int)} : SeqAt.shaped (.list (l.map pD)) = true := by
  have h1 : PyData.canLayAll0 (l.map pD) = true := by
    induction l with
    | nil => rfl
    | cons p l ih =>
      rw [List.map_cons]
      simp [PyData.canLayAll0, PyData.canLay0, pD, ih]
  have h2 : PyData.depthAll (l.map pD) ≤ 1 := by
    induction l with
    | nil => exact Nat.zero_le _
    | cons p l ih =>
      rw [List.map_cons]
      have ih' := ih (by
        rw [List.map_cons] at h1
        simp [PyData.canLayAll0] at h1
        exact h1.2)
      simp [PyData.depthAll, PyData.depth, pD]
      exact Nat.max_le.mpr ⟨Nat.le_refl _, ih'⟩
  unfold SeqAt.shaped
  rw [Bool.and_eq_true]
  refine ⟨?_, decide_eq_true ?_⟩
  · simp [PyData.canLay0, h1]
  · simp only [PyData.depth]
    omega
theorem eq_nil {l : List (Int × Int)} : cmpF .Eq (.list (l.map pD)) (.list []) = some (decide (l = [])) := by
  show (if (SeqAt.shaped (.list (l.map pD)) && SeqAt.shaped (.list [])) = true then some (PyData.eqv (.list (l.map pD)) (.list [])) else none) = _
  rw [sh_pairs]
  cases l with
  | nil => rfl
  | cons p l => rfl
theorem insP_ne {x : Int × Int} {l : List (Int × Int)} : insP x l ≠ [] := by
  cases l with
  | nil => exact fun h => by cases h
  | cons y r =>
    unfold insP
    split <;> exact fun h => by cases h
theorem sortP_nil {l : List (Int × Int)} : sortP l = [] ↔ l = [] := by
  cases l with
  | nil => exact ⟨fun _ => rfl, fun _ => rfl⟩
  | cons x r => exact ⟨fun h => absurd h insP_ne, fun h => by cases h⟩
def alS : Str := "alike"
def idS : Str := "idle"
def fiS : Str := "first"
section
variable {ps : List Nat} (P : Pr ps)
include P
theorem tup_claim {n : Nat} {s : Str} {m : List Fr2} {x : D} (hm : OkM m) (hx : D0 (n + 3) 3 [.d x] = some (x, [.d x])) : D0 (n + 4) 3 [.d (clD s (mD ps m) x)] = some (clD s (mD ps m) x, [.d (clD s (mD ps m) x)]) := by
  refine tupled_tup (by show 3 ≤ cap; decide) fun y hy => ?_
  simp only [List.mem_cons, List.not_mem_nil, or_false] at hy
  rcases hy with rfl | rfl | rfl
  · exact tupled_str
  · exact tupled_mill P hm
  · exact hx
theorem cl_x {s : Str} {m x : D} : ixF (clD s m x) (.int 0) = some (.str s) ∧ ixF (clD s m x) (.int 1) = some m ∧ ixF (clD s m x) (.int 2) = some x := ⟨rfl, rfl, rfl⟩
theorem head_ok {n : Nat} {s : Str} {m : List Fr2} {x : D} (hm : OkM m) (hs : cmpF .NotIn (.str s) (.tuple [.str "ends", .str "alike", .str "first", .str "idle"]) = some false) :
    evT G (D0 (n + 4)) (.or (.not (.val (.call 2 (.cons (.pl 0) (.cons (.int 3) .nil))))) (.or (.not (.val (.isi (.ix (.pl 0) (.int 0)) .str))) (.or (.cmp .NotIn (.ix (.pl 0) (.int 0)) (.gl 8)) (.one (.not (.val (.call 13 (.cons (.ix (.pl 0) (.int 1)) .nil)))))))) [.d (clD s (mD ps m) x)] = some (false, [.d (clD s (mD ps m) x)]) := by
  obtain ⟨x0, x1, x2⟩ := cl_x P (s := s) (m := mD ps m) (x := x)
  have il : D0 (n + 4) 2 [.d (clD s (mD ps m) x), .d (.int 3)] = some (.bool true, [.d (clD s (mD ps m) x), .d (.int 3)]) := is_long (n := n + 3) (xs := [.str s, mD ps m, x]) (k := 3)
  have im := is_mill P (n := n) hm
  have g8 : G[8]? = some (.tuple [.str "ends", .str "alike", .str "first", .str "idle"]) := rfl
  simp [evT, evE, evEs, argS, als, wrB, rdV_p, il, x0, x1, isiF, g8, hs, im]
theorem is_claim_alike {n : Nat} {m1 m2 : List Fr2} (h1 : OkM m1) (h2 : OkM m2) : D0 (n + 5) 43 [.d (clD alS (mD ps m1) (mD ps m2))] = some (.bool true, [.d (clD alS (mD ps m1) (mD ps m2))]) := by
  have hd := head_ok P (n := n) (s := alS) (x := mD ps m2) h1 rfl
  have im := is_mill P (n := n) h2
  rw [c43]
  unfold b43
  rw [ss_ifn hd]
  rw [ss_ift (t := .cmp .Eq (.ix (.pl 0) (.int 0)) (.str "alike")) rfl (ss_ret (d := .bool true) (ρ1 := [.d (clD alS (mD ps m1) (mD ps m2))]) (by
    obtain ⟨x0, x1, x2⟩ := cl_x P (s := alS) (m := mD ps m1) (x := mD ps m2)
    simp [evE, evEs, argS, als, wrB, rdV_p, x2, im]))]
  rfl
theorem is_claim_idle {n k : Nat} {m : List Fr2} (h : OkM m) (hk : k < m.length) : D0 (n + 5) 43 [.d (clD idS (mD ps m) (.int (k : Nat)))] = some (.bool true, [.d (clD idS (mD ps m) (.int (k : Nat)))]) := by
  have hd := head_ok P (n := n) (s := idS) (x := .int (k : Nat)) h rfl
  rw [c43]
  unfold b43
  rw [ss_ifn hd]
  rw [ss_ifn (t := .cmp .Eq (.ix (.pl 0) (.int 0)) (.str "alike")) (ρ1 := [.d (clD idS (mD ps m) (.int (k : Nat)))]) rfl]
  rw [ss_ift (t := .cmp .Eq (.ix (.pl 0) (.int 0)) (.str "idle")) rfl (ss_ret (d := .bool true) (ρ1 := [.d (clD idS (mD ps m) (.int (k : Nat)))]) (by
    obtain ⟨x0, x1, x2⟩ := cl_x P (s := idS) (m := mD ps m) (x := .int (k : Nat))
    have sb : binF .Sub (.int (m.length : Nat)) (.int 1) = some (.int ((m.length : Int) - 1)) := rfl
    have iw := is_within (n := n + 2) (a := ((k : Nat) : Int)) (b := 0) (c := (m.length : Int) - 1)
    rw [decide_eq_true (show (0 : Int) ≤ ((k : Nat) : Int) by omega), decide_eq_true (show ((k : Nat) : Int) ≤ (m.length : Int) - 1 by omega)] at iw
    have lm := len_m P (m := m)
    simp only [evE, evEs, argS, als, wrB, List.getElem?_cons_zero, Option.map, List.nodup_nil, if_true, List.map, rdV_p, x1, x2, lm, sb, iw]
    rfl))]
  rfl
theorem is_claim_first {n : Nat} {m : List Fr2} {e : Vec} (h : OkM m) (hs : e.sum ≤ 400) : D0 (n + 5) 43 [.d (clD fiS (mD ps m) (nm ps e))] = some (.bool true, [.d (clD fiS (mD ps m) (nm ps e))]) := by
  have hd := head_ok P (n := n) (s := fiS) (x := nm ps e) h rfl
  rw [c43]
  unfold b43
  rw [ss_ifn hd]
  rw [ss_ifn (t := .cmp .Eq (.ix (.pl 0) (.int 0)) (.str "alike")) (ρ1 := [.d (clD fiS (mD ps m) (nm ps e))]) rfl]
  rw [ss_ifn (t := .cmp .Eq (.ix (.pl 0) (.int 0)) (.str "idle")) (ρ1 := [.d (clD fiS (mD ps m) (nm ps e))]) rfl]
  rw [ss_ret (d := .bool true) (ρ1 := [.d (clD fiS (mD ps m) (nm ps e))]) (by
    obtain ⟨x0, x1, x2⟩ := cl_x P (s := fiS) (m := mD ps m) (x := nm ps e)
    have iw := is_within (n := n + 2) (a := ((Vx.v ps e : Nat) : Int)) (b := 1) (c := MOSTN)
    rw [decide_eq_true (v_pos P (e := e)), decide_eq_true (v_most P (e := e) (by omega))] at iw
    have iw' : D0 (n + 4) 1 [.d (nm ps e), .d (.int 1), .d (.int MOSTN)] = some (.bool true, [.d (nm ps e), .d (.int 1), .d (.int MOSTN)]) := iw
    have g1 : G[1]? = some (.int MOSTN) := rfl
    simp only [evE, evEs, argS, als, wrB, List.getElem?_cons_zero, Option.map, List.nodup_nil, if_true, rdV_p, x2, g1, iw'])]
  rfl
theorem sure_claim {n : Nat} {s : Str} {m : List Fr2} {x : D} (hm : OkM m) (hx : D0 (n + 4) 3 [.d x] = some (x, [.d x])) (h : D0 (n + 5) 43 [.d (clD s (mD ps m) x)] = some (.bool true, [.d (clD s (mD ps m) x)])) : D0 (n + 6) 52 [.d (clD s (mD ps m) x)] = some (clD s (mD ps m) x, [.d (clD s (mD ps m) x)]) := by
  have t := tup_claim P (n := n + 1) (s := s) hm (x := x) hx
  rw [c52]
  simp [b52, evSs, evS, evE, evT, evEs, argS, als, wrB, t, h, isRef, outD]
end
end Ir
set_option Elab.async false
set_option linter.all false
set_option maxRecDepth 100000
set_option maxHeartbeats 4000000
namespace Ir
open PySem L2 Dn
section
variable {ps : List Nat} (P : Pr ps)
include P
theorem holds_of {n : Nat} {c : D} {b : Bool} (h1 : D0 (n + 6) 52 [.d c] = some (c, [.d c])) (h2 : D0 (n + 6) 50 [.d c] = some (.bool b, [.d c])) : D0 (n + 7) 53 [.d c] = some (.bool b, [.d c]) := by
  rw [c53]
  simp [b53, evSs, evS, evE, evEs, argS, als, wrB, h1, h2, outD]
theorem ne_kind {s t : Str} {m x : D} (h : cmpF .Eq (.str s) (.str t) = some false) {n : Nat} : evT G (D0 n) (.cmp .Eq (.ix (.pl 0) (.int 0)) (.str t)) [.d (clD s m x)] = some (false, [.d (clD s m x)]) :=
  et_cmp (x := .p (.str s)) (y := .p (.str t)) rfl rfl h
theorem is_kind {s : Str} {m x : D} {n : Nat} (h : cmpF .Eq (.str s) (.str s) = some true) : evT G (D0 n) (.cmp .Eq (.ix (.pl 0) (.int 0)) (.str s)) [.d (clD s m x)] = some (true, [.d (clD s m x)]) :=
  et_cmp (x := .p (.str s)) (y := .p (.str s)) rfl rfl h
theorem i1 {n : Nat} {s : Str} {m x : D} : evE G (D0 n) (.ix (.pl 0) (.int 1)) [.d (clD s m x)] = some (.p m, [.d (clD s m x)]) := rfl
theorem i2 {n : Nat} {s : Str} {m x : D} : evE G (D0 n) (.ix (.pl 0) (.int 2)) [.d (clD s m x)] = some (.p x, [.d (clD s m x)]) := rfl
theorem ev_call2 {n f : Nat} {a b : E} {x y d : D} {ρ ρ1 ρ2 : Rho} {as : List SV} (h1 : evE G (D0 n) a ρ = some (.p x, ρ1)) (h2 : evE G (D0 n) b ρ1 = some (.p y, ρ2)) (h : D0 n f [.d x, .d y] = some (d, as)) : evE G (D0 n) (.call f (.cons a (.cons b .nil))) ρ = some (.p d, ρ2) := by
  rw [evE, evEs, h1]
  dsimp only
  rw [evEs, h2]
  dsimp only
  rw [evEs]
  simp only [argS, als, Option.map, List.nodup_nil, if_true, h, wrB_pp]
theorem ev_call1 {n f : Nat} {a : E} {x d : D} {ρ ρ1 : Rho} {as : List SV} (h1 : evE G (D0 n) a ρ = some (.p x, ρ1)) (h : D0 n f [.d x] = some (d, as)) : evE G (D0 n) (.call f (.cons a .nil)) ρ = some (.p d, ρ1) := by
  have w : wrB [.p x] as ρ1 = ρ1 := by cases as <;> rfl
  rw [evE, evEs, h1]
  dsimp only
  rw [evEs]
  simp only [argS, als, Option.map, List.nodup_nil, if_true, h, w]
theorem holds_alike {n : Nat} {m1 m2 : List Fr2} (h1 : OkM m1) (h2 : OkM m2) : D0 (n + 7) 53 [.d (clD alS (mD ps m1) (mD ps m2))] = some (.bool (alkB m1 m2), [.d (clD alS (mD ps m1) (mD ps m2))]) := by
  refine holds_of P (sure_claim P h1 (tupled_mill P (n := n + 1) h2) (is_claim_alike P h1 h2)) ?_
  obtain ⟨r, hr, pt⟩ := parting_in P (n := n + 3) h1 h2
  have c0 : cmpF .Eq (.int r) (.int 0) = some (alkB m1 m2) := by
    show some (decide (r = 0)) = _
    congr 1
    unfold alkB
    exact decide_eq_decide.mpr hr
  rw [c50]
  unfold b50
  rw [ss_ift (show evT G (D0 (n + 5)) (.cmp .Eq (.ix (.pl 0) (.int 0)) (.str "alike")) [.d (clD alS (mD ps m1) (mD ps m2))] = some (true, [.d (clD alS (mD ps m1) (mD ps m2))]) from is_kind P (s := alS) rfl) (ss_ret (d := .bool (alkB m1 m2)) (ev_cmp (y := .p (.int 0)) (ev_call2 P (n := n + 5) (i1 P) (i2 P) pt) rfl (by rw [rdV_p, rdV_p, c0])))]
  rfl
theorem holds_first {n : Nat} {m : List Fr2} {e : Vec} (hm : OkM m) (he : e.length = 5) (hs : e.sum ≤ 400) : D0 (n + 7) 53 [.d (clD fiS (mD ps m) (nm ps e))] = some (.bool (decide (ahd m e = [])), [.d (clD fiS (mD ps m) (nm ps e))]) ∧ D0 (n + 6) 50 [.d (clD fiS (mD ps m) (nm ps e))] = some (.bool (decide (ahd m e = [])), [.d (clD fiS (mD ps m) (nm ps e))]) := by
  have key : D0 (n + 6) 50 [.d (clD fiS (mD ps m) (nm ps e))] = some (.bool (decide (ahd m e = [])), [.d (clD fiS (mD ps m) (nm ps e))]) := by
    have ah := ahead_in P (n := n + 3) hm he hs
    have c0 : cmpF .Eq (.list ((sortP ((ahd m e).map (ahI ps))).map pD)) (.list []) = some (decide (ahd m e = [])) := by
      rw [eq_nil]
      congr 1
      apply decide_eq_decide.mpr
      rw [sortP_nil, List.map_eq_nil_iff]
    have hc : 0 ≤ cap := Nat.zero_le _
    rw [c50]
    unfold b50
    rw [ss_ifn (ne_kind P (s := fiS) (t := "alike") rfl)]
    rw [ss_ift (show evT G (D0 (n + 5)) (.cmp .Eq (.ix (.pl 0) (.int 0)) (.str "first")) [.d (clD fiS (mD ps m) (nm ps e))] = some (true, [.d (clD fiS (mD ps m) (nm ps e))]) from is_kind P (s := fiS) rfl) (ss_ret (d := .bool (decide (ahd m e = []))) (ev_cmp (y := .p (.list [])) (ev_call2 P (n := n + 5) (i1 P) (i2 P) ah) rfl (by rw [rdV_p, rdV_p, c0])))]
    rfl
  exact ⟨holds_of P (sure_claim P hm tupled_int (is_claim_first P hm hs)) key, key⟩
theorem holds_idle {n k : Nat} {m : List Fr2} {f : Fr2} (hm : OkM m) (hk : m[k]? = some f) : D0 (n + 7) 53 [.d (clD idS (mD ps m) (.int (k : Nat)))] = some (.bool (decide (pl m f.2 < (k : Int))), [.d (clD idS (mD ps m) (.int (k : Nat)))]) := by
  have hl : k < m.length := (List.getElem?_eq_some_iff.mp hk).1
  refine holds_of P (sure_claim P hm tupled_int (is_claim_idle P hm hl)) ?_
  have ed := earlier_divisor P (n := n + 3) hm hk
  rw [c50]
  unfold b50
  rw [ss_ifn (ne_kind P (s := idS) (t := "alike") rfl), ss_ifn (ne_kind P (s := idS) (t := "first") rfl)]
  rw [ss_ift (show evT G (D0 (n + 5)) (.cmp .Eq (.ix (.pl 0) (.int 0)) (.str "idle")) [.d (clD idS (mD ps m) (.int (k : Nat)))] = some (true, [.d (clD idS (mD ps m) (.int (k : Nat)))]) from is_kind P (s := idS) rfl) (ss_ret (d := .bool (decide (pl m f.2 < (k : Int)))) (ev_cmp (ev_call2 P (n := n + 5) (i1 P) (i2 P) ed) (i2 P) rfl))]
  rfl
theorem reason_first {n : Nat} {m : List Fr2} {e : Vec} (hm : OkM m) (he : e.length = 5) (hs : e.sum ≤ 400) (ha : ahd m e = []) : D0 (n + 7) 54 [.d (clD fiS (mD ps m) (nm ps e))] = some (.tuple ((brs m e).map .int), [.d (clD fiS (mD ps m) (nm ps e))]) := by
  have h1 := (holds_first P (n := n) hm he hs).2
  rw [decide_eq_true ha] at h1
  have h2 := sure_claim P (n := n) (s := fiS) hm tupled_int (is_claim_first P hm hs)
  have rs := reason_of_first P (n := n + 2) hm he hs
  have h3 : D0 (n + 6) 51 [.d (clD fiS (mD ps m) (nm ps e))] = some (.tuple ((brs m e).map .int), [.d (clD fiS (mD ps m) (nm ps e))]) := by
    rw [c51]
    unfold b51
    rw [ss_ifn (ne_kind P (s := fiS) (t := "alike") rfl)]
    rw [ss_ift (show evT G (D0 (n + 5)) (.cmp .Eq (.ix (.pl 0) (.int 0)) (.str "first")) [.d (clD fiS (mD ps m) (nm ps e))] = some (true, [.d (clD fiS (mD ps m) (nm ps e))]) from is_kind P (s := fiS) rfl) (ss_ret (ev_call2 P (n := n + 5) (i1 P) (i2 P) rs))]
    rfl
  have h2' : D0 (n + 6) 52 [.d (clD fiS (mD ps m) (nm ps e))] = some (clD fiS (mD ps m) (nm ps e), [.d (clD fiS (mD ps m) (nm ps e))]) := h2
  rw [c54]
  simp [b54, evSs, evS, evE, evT, evEs, argS, als, wrB, h1, h2', h3, isRef, outD]
end
end Ir
set_option Elab.async false
set_option linter.all false
set_option maxRecDepth 100000
set_option maxHeartbeats 4000000
namespace Ir
open PySem L2 Dn
/-! facts of mills -/
theorem le_trans : ∀ {a b c : Vec}, a.length = b.length → b.length = c.length → Vx.le a b = true → Vx.le b c = true → Vx.le a c = true
  | [], _, _, _, _, _, _ => by simp [Vx.le]
  | x :: a, y :: b, z :: c, h1, h2, p, q => by
    unfold Vx.le at p q ⊢
    rw [Bool.and_eq_true, decide_eq_true_eq] at p q ⊢
    exact ⟨Nat.le_trans p.1 q.1, le_trans (by simpa using h1) (by simpa using h2) p.2 q.2⟩
theorem find_and {α : Type} {p q : α → Bool} : ∀ {xs : List α}, (∀ x, xs.find? q = some x → p x = true) → xs.find? (fun a => p a && q a) = xs.find? q
  | [], _ => rfl
  | y :: ys, h => by
    rw [List.find?_cons, List.find?_cons]
    cases hq : q y with
    | true =>
      have := h y (by rw [List.find?_cons, hq])
      rw [this]
      rfl
    | false =>
      rw [Bool.and_false]
      exact find_and fun x hx => h x (by rw [List.find?_cons, hq]; exact hx)
theorem find_less {α : Type} {q r : α → Bool} : ∀ {xs : List α} {x : α}, xs.find? q = some x → (∀ y ∈ xs, r y = true → q y = true) → r x = true → xs.find? r = some x
  | [], _, h, _, _ => by cases h
  | y :: ys, x, h, hr, hx => by
    rw [List.find?_cons] at h ⊢
    cases hq : q y with
    | true =>
      rw [hq] at h
      injection h with h
      subst h
      rw [hx]
    | false =>
      rw [hq] at h
      have : r y = false := by
        cases z : r y with
        | true => rw [hr y List.mem_cons_self z] at hq; cases hq
        | false => rfl
      rw [this]
      exact find_less h (fun w hw => hr w (List.mem_cons_of_mem _ hw)) hx
def tk (e : Vec) (p : Nat × Fr2) : Bool := Vx.le p.2.2 e
theorem plA_find {e : Vec} : ∀ {m : List Fr2} {j : Nat}, plA m e j = match (enF j m).find? (tk e) with
    | some p => (p.1 : Int)
    | none => -1
  | [], _ => rfl
  | f :: m, j => by
    show (if Vx.le f.2 e = true then (j : Int) else plA m e (j + 1)) = match ((j, f) :: enF (j + 1) m).find? (tk e) with
      | some p => (p.1 : Int)
      | none => -1
    rw [List.find?_cons, plA_find (m := m) (j := j + 1)]
    by_cases h : Vx.le f.2 e = true
    · have : tk e (j, f) = true := h
      rw [if_pos h, this]
    · have : tk e (j, f) = false := by
        cases z : tk e (j, f) with
        | true => exact absurd z h
        | false => rfl
      rw [if_neg h, this]
theorem pl_find {m : List Fr2} {e : Vec} : pl m e = match (enF 0 m).find? (tk e) with
    | some p => (p.1 : Int)
    | none => -1 := plA_find
theorem enF_snd : ∀ {m : List Fr2} {j : Nat}, (enF j m).map (·.2) = m
  | [], _ => rfl
  | f :: m, j => congrArg (List.cons f) (enF_snd (m := m) (j := j + 1))
theorem tld_find {m : List Fr2} {e : Vec} : tld m e = ((enF 0 m).find? (tk e)).map (·.2) := by
  unfold tld
  rw [pl_find]
  cases h : (enF 0 m).find? (tk e) with
  | none => rfl
  | some p =>
    have hm := List.mem_of_find?_eq_some h
    obtain ⟨i, h1, h2⟩ := enF_get hm
    dsimp only
    rw [if_neg (by omega), Int.toNat_natCast, h1, Nat.zero_add, h2]
    rfl
/-- what a mill tells, by its fractions alone -/
theorem tld_find2 {m : List Fr2} {e : Vec} : tld m e = m.find? fun f => Vx.le f.2 e := by
  rw [tld_find]
  conv => rhs; rw [← enF_snd (m := m) (j := 0)]
  rw [List.find?_map]
  rfl
theorem enF_pair : ∀ {m : List Fr2} {j : Nat}, (enF j m).Pairwise fun p q => p.1 < q.1
  | [], _ => List.Pairwise.nil
  | f :: m, j => by
    refine List.Pairwise.cons (fun q hq => ?_) enF_pair
    obtain ⟨i, h1, _⟩ := enF_get hq
    rw [h1]
    show j < j + 1 + i
    omega
theorem pair_inj {L : List (Nat × Fr2)} (h : L.Pairwise fun p q => p.1 < q.1) {p q : Nat × Fr2} (hp : p ∈ L) (hq : q ∈ L) (e : p.1 = q.1) : p = q := by
  induction L with
  | nil => cases hp
  | cons x L ih =>
    rw [List.pairwise_cons] at h
    rcases List.mem_cons.mp hp with hp1 | hp1 <;> rcases List.mem_cons.mp hq with hq1 | hq1
    · rw [hp1, hq1]
    · have := h.1 _ hq1
      rw [← hp1] at this
      omega
    · have := h.1 _ hp1
      rw [← hq1] at this
      omega
    · exact ih h.2 hp1 hq1
/-- whether the place is idle -/
def idQ (m : List Fr2) (p : Nat × Fr2) : Bool := !decide (pl m p.2.2 = (p.1 : Int))
theorem idl_has {m : List Fr2} {p : Nat × Fr2} (hp : p ∈ enF 0 m) : (idl m).contains p.1 = idQ m p := by
  unfold idl
  rw [Bool.eq_iff_iff, List.contains_iff_mem, List.mem_map]
  constructor
  · rintro ⟨q, hq, e⟩
    rw [List.mem_filter] at hq
    have := pair_inj enF_pair hq.1 hp e
    subst this
    exact hq.2
  · intro h
    exact ⟨p, List.mem_filter.mpr ⟨hp, h⟩, rfl⟩
theorem les_eq {m : List Fr2} : les m = ((enF 0 m).filter fun p => !idQ m p).map (·.2) := by
  unfold les
  congr 1
  apply List.filter_congr
  intro p hp
  rw [idl_has hp]
theorem first_busy {m : List Fr2} (h : ∀ f ∈ m, f.2.length = 5) {e : Vec} (he : e.length = 5) {p : Nat × Fr2} (hp : (enF 0 m).find? (tk e) = some p) : idQ m p = false := by
  have hm := List.mem_of_find?_eq_some hp
  have ht : tk e p = true := List.find?_some hp
  have h1 : (enF 0 m).find? (tk p.2.2) = some p := find_less hp (fun y hy hr => le_trans ((h _ (enF_mem hy)).trans (h _ (enF_mem hm)).symm) ((h _ (enF_mem hm)).trans he.symm) hr ht) (Vx.le_refl _)
  unfold idQ
  rw [pl_find, h1]
  simp
theorem tld_les {m : List Fr2} (h : ∀ f ∈ m, f.2.length = 5) {e : Vec} (he : e.length = 5) : tld (les m) e = tld m e := by
  rw [tld_find2, les_eq, List.find?_map, List.find?_filter]
  have : (enF 0 m).find? (fun a => !idQ m a && ((fun f : Fr2 => Vx.le f.2 e) ∘ (·.2)) a) = (enF 0 m).find? (tk e) := find_and (q := tk e) fun x hx => by
    rw [first_busy h he hx]
    rfl
  rw [tld_find, ← this]
  congr 2
  funext a
  rw [Bool.decide_and]
  cases idQ m a <;> cases ((fun f : Fr2 => Vx.le f.2 e) ∘ (·.2)) a <;> rfl
theorem les_mem {m : List Fr2} {f : Fr2} (h : f ∈ les m) : f ∈ m := by
  unfold les at h
  obtain ⟨p, hp, rfl⟩ := List.mem_map.mp h
  exact enF_mem (List.mem_filter.mp hp).1
theorem les_ok {m : List Fr2} (h : OkM m) : OkM (les m) := by
  refine ⟨?_, fun f hf => h.2 f (les_mem hf)⟩
  unfold les
  rw [List.length_map]
  have h1 := List.length_filter_le (fun p => !(idl m).contains p.1) (enF 0 m)
  rw [enF_len] at h1
  exact Nat.le_trans h1 h.1
theorem alk_les {m : List Fr2} (h : OkM m) : alkB m (les m) = true := by
  refine @decide_eq_true _ (Classical.propDecidable _) ?_
  intro x hx y hy
  have ux := und_ok (its_ok pr0 h.2 x hx)
  have uy := und_ok (its_ok pr0 (les_ok h).2 y hy)
  exact (tld_les (fun f hf => (h.2 f hf).l2) (lc_len pr0 ux.1 uy.1)).symm
theorem idle_aux {q : Nat × Fr2 → Bool} {L : List (Nat × Fr2)} : ∀ {j : Nat} {p : Nat × Fr2}, p ∈ enF j (L.map (·.2)) → (L.Pairwise fun p q => p.1 < q.1) → ∃ x ∈ L, x.2 = p.2 ∧ ((L.find? (fun y => y.1 == x.1)) = some x) ∧ ∀ (r : Fr2 → Bool), r p.2 = true → (∀ y ∈ L, r y.2 = true → ¬ y.1 < x.1) → (enF j (L.map (·.2))).find? (fun z => r z.2) = some p := by
  induction L with
  | nil => intro j p hp; cases hp
  | cons x L ih =>
    intro j p hp hL
    rw [List.pairwise_cons] at hL
    rcases List.mem_cons.mp hp with rfl | hp
    · refine ⟨x, List.mem_cons_self, rfl, by simp, fun r hr _ => ?_⟩
      show ((j, x.2) :: enF (j + 1) (L.map (·.2))).find? _ = _
      rw [List.find?_cons]
      have : r (j, x.2).2 = true := hr
      rw [this]
    · obtain ⟨y, hy, h1, h2, h3⟩ := ih hp hL.2
      have hxy := hL.1 y hy
      refine ⟨y, List.mem_cons_of_mem _ hy, h1, ?_, fun r hr hno => ?_⟩
      · rw [List.find?_cons]
        have : (x.1 == y.1) = false := beq_eq_false_iff_ne.mpr (by omega)
        rw [this]
        exact h2
      · show ((j, x.2) :: enF (j + 1) (L.map (·.2))).find? _ = _
        rw [List.find?_cons]
        have : r (j, x.2).2 = false := by
          cases z : r (j, x.2).2 with
          | true => exact absurd hxy (hno x List.mem_cons_self z)
          | false => rfl
        rw [this]
        exact h3 r hr fun w hw hz => hno w (List.mem_cons_of_mem _ hw) hz
theorem idl_les {m : List Fr2} (h : ∀ f ∈ m, f.2.length = 5) : idl (les m) = [] := by
  unfold idl
  rw [List.map_eq_nil_iff, List.filter_eq_nil_iff]
  intro p hp
  have key : pl (les m) p.2.2 = (p.1 : Int) := by
    rw [les_eq] at hp ⊢
    have hL : ((enF 0 m).filter fun p => !idQ m p).Pairwise fun p q => p.1 < q.1 := enF_pair.filter _
    obtain ⟨x, hx, h1, _, h3⟩ := idle_aux (q := fun _ => true) hp hL
    have hx' := List.mem_filter.mp hx
    have busy : idQ m x = false := by
      have := hx'.2
      cases z : idQ m x with
      | true => rw [z] at this; cases this
      | false => rfl
    have hpl : pl m x.2.2 = (x.1 : Int) := by
      unfold idQ at busy
      simpa using busy
    have fx : (enF 0 m).find? (tk x.2.2) = some x := by
      rw [pl_find] at hpl
      cases z : (enF 0 m).find? (tk x.2.2) with
      | none =>
        rw [z] at hpl
        dsimp only at hpl
        omega
      | some w =>
        rw [z] at hpl
        dsimp only at hpl
        rw [pair_inj enF_pair (List.mem_of_find?_eq_some z) hx'.1 (by omega)]
    rw [pl_find]
    have hf := h3 (fun f => Vx.le f.2 p.2.2) (Vx.le_refl _) fun y hy hr hlt => by
      have hy' := List.mem_filter.mp hy
      have hr' : tk x.2.2 y = true := by
        show Vx.le y.2.2 x.2.2 = true
        rw [h1]
        exact hr
      -- the first that takes it is x
      have : ∀ {L : List (Nat × Fr2)}, (L.Pairwise fun p q => p.1 < q.1) → L.find? (tk x.2.2) = some x → y ∈ L → False := by
        intro L
        induction L with
        | nil => intro _ hf _; cases hf
        | cons w L ih =>
          intro hp hf hyL
          rw [List.pairwise_cons] at hp
          rw [List.find?_cons] at hf
          cases z : tk x.2.2 w with
          | true =>
            rw [z] at hf
            injection hf with hf
            subst hf
            rcases List.mem_cons.mp hyL with rfl | hyL
            · omega
            · have := hp.1 _ hyL
              omega
          | false =>
            rw [z] at hf
            rcases List.mem_cons.mp hyL with rfl | hyL
            · rw [z] at hr'; cases hr'
            · exact ih hp.2 hf hyL
      exact this enF_pair fx hy'.1
    show (match (enF 0 (((enF 0 m).filter fun p => !idQ m p).map (·.2))).find? (fun z => Vx.le z.2.2 p.2.2) with
      | some p => (p.1 : Int)
      | none => -1) = _
    rw [hf]
  rw [decide_eq_true key]
  simp
end Ir
set_option Elab.async false
set_option linter.all false
set_option maxRecDepth 100000
set_option maxHeartbeats 4000000
namespace Ir
open PySem L2 Dn
/-! sorting and weights -/
def leP (x y : Int × Int) : Prop := x.1 < y.1 ∨ (x.1 = y.1 ∧ x.2 ≤ y.2)
theorem insP_cons {x y : Int × Int} {r : List (Int × Int)} (h : leP x y) : insP x (y :: r) = x :: y :: r := by
  have : (x.1 < y.1 || (x.1 == y.1 && x.2 ≤ y.2)) = true := by
    rcases h with h | h
    · simp [h]
    · simp [h.1, h.2]
  exact if_pos this
theorem insP_cons2 {x y : Int × Int} {r : List (Int × Int)} (h : ¬ leP x y) : insP x (y :: r) = y :: insP x r := by
  have : ¬ (x.1 < y.1 || (x.1 == y.1 && x.2 ≤ y.2)) = true := by
    intro z
    apply h
    simp at z
    exact z
  exact if_neg this
theorem leP_anti {x y : Int × Int} (h1 : leP x y) (h2 : leP y x) : x = y := by
  unfold leP at h1 h2
  exact Prod.ext (by omega) (by omega)
theorem insP_comm {x y : Int × Int} : ∀ {l : List (Int × Int)}, insP x (insP y l) = insP y (insP x l)
  | [] => by
    show insP x [y] = insP y [x]
    by_cases h1 : leP x y <;> by_cases h2 : leP y x
    · rw [leP_anti h1 h2]
    · rw [insP_cons h1, insP_cons2 h2]
      rfl
    · rw [insP_cons2 h1, insP_cons h2]
      rfl
    · exfalso
      unfold leP at h1 h2
      omega
  | z :: r => by
    have tr : ∀ {a b c : Int × Int}, leP a b → leP b c → leP a c := fun {a b c} p q => by
      unfold leP at *
      omega
    have tot : ∀ {a b : Int × Int}, ¬ leP a b → leP b a := fun {a b} p => by
      unfold leP at *
      omega
    by_cases hx : leP x z <;> by_cases hy : leP y z
    · rw [insP_cons hx, insP_cons hy]
      by_cases h1 : leP x y <;> by_cases h2 : leP y x
      · rw [leP_anti h1 h2]
      · rw [insP_cons h1, insP_cons2 h2, insP_cons hy]
      · rw [insP_cons2 h1, insP_cons h2, insP_cons hx]
      · exact absurd (tot h1) h2
    · have h1 : leP x y := tr hx (tot hy)
      rw [insP_cons hx, insP_cons2 hy, insP_cons hx]
      by_cases h2 : leP y x
      · have := leP_anti h1 h2
        subst this
        exact absurd hx hy
      · rw [insP_cons2 h2, insP_cons2 hy]
    · have h1 : leP y x := tr hy (tot hx)
      rw [insP_cons2 hx, insP_cons hy, insP_cons hy]
      by_cases h2 : leP x y
      · have := leP_anti h1 h2
        subst this
        exact absurd hy hx
      · rw [insP_cons2 h2, insP_cons2 hx]
    · rw [insP_cons2 hx, insP_cons2 hy, insP_cons2 hx, insP_cons2 hy, insP_comm]
theorem sortP_perm {l1 l2 : List (Int × Int)} (h : l1.Perm l2) : sortP l1 = sortP l2 := by
  induction h with
  | nil => rfl
  | cons x _ ih => exact congrArg (insP x) ih
  | swap x y l => exact insP_comm
  | trans _ _ ih1 ih2 => exact ih1.trans ih2
theorem ins_key {α : Type} {f : α → Int × Int} {x : α} : ∀ {l : List α}, ∃ l' : List α, l'.Perm (x :: l) ∧ l'.map f = insP (f x) (l.map f)
  | [] => ⟨[x], List.Perm.refl _, rfl⟩
  | y :: r => by
    by_cases h : leP (f x) (f y)
    · refine ⟨x :: y :: r, List.Perm.refl _, ?_⟩
      rw [List.map_cons, List.map_cons, insP_cons h]
    · obtain ⟨l', h1, h2⟩ := ins_key (f := f) (x := x) (l := r)
      refine ⟨y :: l', (h1.cons y).trans (List.Perm.swap x y r), ?_⟩
      rw [List.map_cons, List.map_cons, insP_cons2 h, h2]
theorem sort_key {α : Type} {f : α → Int × Int} : ∀ {l : List α}, ∃ l' : List α, l'.Perm l ∧ l'.map f = sortP (l.map f)
  | [] => ⟨[], List.Perm.refl _, rfl⟩
  | x :: l => by
    obtain ⟨l', h1, h2⟩ := sort_key (f := f) (l := l)
    obtain ⟨l2, g1, g2⟩ := ins_key (f := f) (x := x) (l := l')
    refine ⟨l2, g1.trans (h1.cons x), ?_⟩
    rw [g2, h2]
    rfl
theorem sum_perm {l1 l2 : List Nat} (h : l1.Perm l2) : l1.sum = l2.sum := by
  induction h with
  | nil => rfl
  | cons x _ ih => simp [ih]
  | swap x y l => simp; omega
  | trans _ _ ih1 ih2 => exact ih1.trans ih2
theorem wsum_perm {W1 W2 : List Wt} (h : W1.Perm W2) {e : Vec} : wsum W1 e = wsum W2 e := sum_perm (h.map _)
/-- a permuted list of primes with weights is the primes in order with some weights -/
theorem perm_zip {qs ps : List Nat} (h : qs.Perm ps) : ∀ {ws : List Nat}, ws.length = qs.length → ∃ ws', ws'.Perm ws ∧ (qs.zip ws).Perm (ps.zip ws') := by
  induction h with
  | nil => intro ws h; exact ⟨ws, List.Perm.refl _, List.Perm.refl _⟩
  | cons x _ ih =>
    intro ws h
    match ws, h with
    | w :: ws, h =>
      obtain ⟨ws', h1, h2⟩ := ih (ws := ws) (by simpa using h)
      exact ⟨w :: ws', h1.cons w, h2.cons (x, w)⟩
  | swap x y l =>
    intro ws h
    match ws, h with
    | v :: w :: ws, h => exact ⟨w :: v :: ws, List.Perm.swap _ _ _, List.Perm.swap _ _ _⟩
  | trans a _ ih1 ih2 =>
    intro ws h
    obtain ⟨w1, h1, h2⟩ := ih1 h
    obtain ⟨w2, g1, g2⟩ := ih2 (ws := w1) (by rw [h1.length_eq, h]; exact a.length_eq)
    exact ⟨w2, g1.trans h1, h2.trans g2⟩
def uns : List Vec := [u0, u1, u2, u3, u4]
theorem uns_w {qs : List Nat} (h : qs.length = 5) {ws : List Nat} : (uns.zip ws).map (ahI qs) = (qs.zip ws).map fun p => ((p.1 : Int), (p.2 : Int)) := by
  match qs, h with
  | [a, b, c, d, e], _ =>
    match ws with
    | [] => rfl
    | [_] => simp [uns, ahI, u0, u1, u2, u3, u4, Vx.v]
    | [_, _] => simp [uns, ahI, u0, u1, u2, u3, u4, Vx.v]
    | [_, _, _] => simp [uns, ahI, u0, u1, u2, u3, u4, Vx.v]
    | [_, _, _, _] => simp [uns, ahI, u0, u1, u2, u3, u4, Vx.v]
    | _ :: _ :: _ :: _ :: _ :: _ => simp [uns, ahI, u0, u1, u2, u3, u4, Vx.v]
theorem sort5 {a b c d e : Int} : sortP [(2, a), (3, b), (5, c), (7, d), (11, e)] = [(2, a), (3, b), (5, c), (7, d), (11, e)] := by
  simp [sortP, insP]
theorem wt_ah {ps : List Nat} {W : List Wt} : wD ps W = .tuple ((W.map (ahI ps)).map pD) := by
  unfold wD
  rw [List.map_map]
  rfl
theorem wts_of {ps : List Nat} {W : List Wt} {a b c d e : Nat} (ha : Sm a) (hb : Sm b) (hc : Sm c) (hd : Sm d) (he : Sm e) (hW : ∀ p ∈ W, OkW p) (hl : W.length ≤ 1000) (h : W.map (ahI ps) = [(2, (a : Int)), (3, (b : Int)), (5, (c : Int)), (7, (d : Int)), (11, (e : Int))]) : Wts ps W :=
  ⟨hW, hl, a, b, c, d, e, ha, hb, hc, hd, he, by rw [wt_ah, h]; rfl⟩
theorem uns_ok {ws : List Nat} (h : ∀ w ∈ ws, w ≤ 1000) : ∀ p ∈ uns.zip ws, OkW p := fun p hp => by
  obtain ⟨h1, h2⟩ := List.of_mem_zip hp
  have h3 : p.1.length = 5 ∧ p.1.sum = 1 := by
    simp only [uns, List.mem_cons, List.not_mem_nil, or_false] at h1
    rcases h1 with e | e | e | e | e <;> rw [e] <;> exact ⟨rfl, rfl⟩
  exact ⟨h3.1, by omega, by omega, h _ h2⟩
/-- the weights as they were drawn, and with the primes named anew -/
theorem wts_own {ws : List Nat} (hl : ws.length = 5) (h : ∀ w ∈ ws, w ≤ 1000) : Wts P0 (uns.zip ws) := by
  match ws, hl with
  | [a, b, c, d, e], _ =>
    refine wts_of (a := a) (b := b) (c := c) (d := d) (e := e) (h a (by simp)) (h b (by simp)) (h c (by simp)) (h d (by simp)) (h e (by simp)) (uns_ok h) (by simp [uns]) ?_
    rw [uns_w rfl]
    rfl
theorem wts_new {qs ws : List Nat} (hq : qs.Perm P0) (hl : ws.length = 5) (h : ∀ w ∈ ws, w ≤ 1000) : ∃ W, W.Perm (uns.zip ws) ∧ Wts qs W ∧ W.map (ahI qs) = sortP ((uns.zip ws).map (ahI qs)) := by
  obtain ⟨W, g1, g2⟩ := sort_key (f := ahI qs) (l := uns.zip ws)
  refine ⟨W, g1, ?_, g2⟩
  obtain ⟨ws', k1, k2⟩ := perm_zip hq (ws := ws) (by rw [hl, hq.length_eq]; rfl)
  have hl' : ws'.length = 5 := k1.length_eq.trans hl
  have hws : ∀ w ∈ ws', w ≤ 1000 := fun w hw => h w (k1.mem_iff.mp hw)
  have hW : ∀ p ∈ W, OkW p := fun p hp => uns_ok h p (g1.mem_iff.mp hp)
  have hWl : W.length ≤ 1000 := by
    rw [g1.length_eq, List.length_zip]
    simp [uns]
    omega
  have e1 : W.map (ahI qs) = sortP ((P0.zip ws').map fun p => ((p.1 : Int), (p.2 : Int))) := by
    rw [g2, uns_w (hq.length_eq.trans rfl)]
    exact sortP_perm (k2.map _)
  have five : ∀ {l : List Nat}, l.length = 5 → ∃ a b c d e, l = [a, b, c, d, e] := fun {l} hl => by
    match l, hl with
    | [a, b, c, d, e], _ => exact ⟨a, b, c, d, e, rfl⟩
  obtain ⟨a, b, c, d, e, h5⟩ := five hl'
  · subst h5
    refine wts_of (a := a) (b := b) (c := c) (d := d) (e := e) (hws a (by simp)) (hws b (by simp)) (hws c (by simp)) (hws d (by simp)) (hws e (by simp)) hW hWl ?_
    rw [e1]
    exact sort5
end Ir
set_option Elab.async false
set_option linter.all false
set_option maxRecDepth 100000
set_option maxHeartbeats 4000000
namespace Ir
open PySem L2 Dn
section
variable {n : Nat} {e : E} {es : Es} {x d : D} {xs : List D} {ρ ρ1 ρ2 : Rho} {as : List SV} {f : Nat}
theorem es_nil : evEs G (D0 n) .nil ρ = some ([].map Vl.p, ρ) := by rw [evEs]; rfl
theorem es_cons (h1 : evE G (D0 n) e ρ = some (.p x, ρ1)) (h2 : evEs G (D0 n) es ρ1 = some (xs.map Vl.p, ρ2)) : evEs G (D0 n) (.cons e es) ρ = some ((x :: xs).map Vl.p, ρ2) := by
  rw [evEs, h1]
  dsimp only
  rw [h2]
  rfl
theorem pv_map : ∀ {xs : List D}, pvDs (xs.map Vl.p) = some xs
  | [] => rfl
  | x :: xs => by
    show (pvDs (xs.map Vl.p)).map (x :: ·) = _
    rw [pv_map]
    rfl
theorem arg_map : ∀ {xs : List D}, argS ρ (xs.map Vl.p) = some (xs.map SV.d)
  | [] => rfl
  | x :: xs => by
    show (argS ρ (xs.map Vl.p)).map (.d x :: ·) = _
    rw [arg_map]
    rfl
theorem als_map : ∀ {xs : List D}, als (xs.map Vl.p) = []
  | [] => rfl
  | x :: xs => als_map (xs := xs)
theorem wr_map : ∀ {xs : List D} {as : List SV}, wrB (xs.map Vl.p) as ρ = ρ
  | [], as => by cases as <;> rfl
  | x :: xs, [] => rfl
  | x :: xs, a :: as => wr_map (xs := xs) (as := as)
theorem rd_map : ∀ {xs : List D}, (xs.map Vl.p).map (rdV ρ) = xs
  | [] => rfl
  | x :: xs => congrArg (List.cons x) rd_map
theorem ev_lst (h : evEs G (D0 n) es ρ = some (xs.map Vl.p, ρ1)) (hl : xs.length ≤ cap) : evE G (D0 n) (.lst es) ρ = some (.p (.list xs), ρ1) := by
  rw [evE, h]
  dsimp only
  rw [pv_map]
  dsimp only
  rw [if_pos hl]
theorem ev_tup (h : evEs G (D0 n) es ρ = some (xs.map Vl.p, ρ1)) (hl : xs.length ≤ cap) : evE G (D0 n) (.tup es) ρ = some (.p (.tuple xs), ρ1) := by
  rw [evE, h]
  dsimp only
  rw [pv_map]
  dsimp only
  rw [if_pos hl]
theorem ev_call (h : evEs G (D0 n) es ρ = some (xs.map Vl.p, ρ1)) (hf : D0 n f (xs.map SV.d) = some (d, as)) : evE G (D0 n) (.call f es) ρ = some (.p d, ρ1) := by
  rw [evE, h]
  dsimp only
  rw [arg_map]
  dsimp only
  rw [als_map, if_pos List.nodup_nil, hf]
  dsimp only
  rw [wr_map]
theorem ev_blt {b : Blt} (h : evEs G (D0 n) es ρ = some (xs.map Vl.p, ρ1)) (hf : bltF b xs = some d) : evE G (D0 n) (.blt b es) ρ = some (.p d, ρ1) := by
  rw [evE, h]
  dsimp only
  rw [rd_map, hf]
/-- a tin at slot 0 and one plain argument -/
theorem ev_tin {y : D} {o : OV} {e : E} (h0 : ρ[0]? = some (.own true o) ∨ ρ[0]? = some (.own false o)) : evE G (D0 n) (.pl 0) ρ = some (.al 0, ρ) := by
  rw [evE]
  rcases h0 with h | h <;> rw [h]
end
theorem c_al1 {n f : Nat} {o o' : OV} {d : D} {r : Bool} {ρ : Rho} (h0 : ρ[0]? = some (.own r o)) (hf : D0 n f [.own true o] = some (d, [.own true o'])) : evE G (D0 n) (.call f (.cons (.pl 0) .nil)) ρ = some (.p d, ρ.set 0 (.own r o')) := by
  have hs : argS ρ [.al 0] = some [.own true o] := by
    simp only [argS, h0, Option.map]
  simp only [evE, evEs, h0, hs, als, List.nodup_cons, List.not_mem_nil, not_false_eq_true, List.nodup_nil, and_self, if_true, hf]
  simp only [wrB, setO, h0]
theorem zip_Q {qs : List Nat} (h : qs.length = 5) : zipD [.int 2, .int 3, .int 5, .int 7, .int 11] (qs.map nI) = some (kvQ qs) := by
  match qs, h with
  | [a, b, c, d, e], _ => rfl
/-- the slots of _law_right, with those of the comprehensions free -/
abbrev R (s0 s1 s2 s3 s4 s5 s6 s7 s8 s9 s10 s11 s12 : SV) : Rho := [s0, s1, s2, s3, s4, s5, s6, s7, s8, s9, s10, s11, s12, .un, .un, .un, .un, .un]
section
variable {qs : List Nat} (Q : Pr qs) {n : Nat} {s0 s2 s3 s4 s5 s6 s7 s8 s9 s10 s11 s12 : SV}
include Q
/-- one number with its primes named anew -/
theorem ev_led {e : Vec} {E0 : E} {ρ : Rho} (he : e.length = 5) (hs : e.sum ≤ 80) (h1 : ρ[1]? = some (.d (.dict (kvQ qs)))) (h : evE G (D0 (n + 2)) E0 ρ = some (.p (nm P0 e), ρ)) : evE G (D0 (n + 2)) (.call 65 (.cons E0 (.cons (.pl 1) .nil))) ρ = some (.p (nm qs e), ρ) :=
  ev_call (xs := [nm P0 e, .dict (kvQ qs)]) (es_cons h (es_cons (by rw [evE, h1]) es_nil)) (law_led Q he hs)
/-- a mill with its primes named anew -/
theorem led_mill {it : Dn.It} {m : List Fr2} (hm : OkM m) (hi : evI G (D0 (n + 2)) it (R s0 (.d (.dict (kvQ qs))) s2 s3 s4 s5 s6 s7 s8 s9 s10 s11 s12) = some (m.map (frD P0), R s0 (.d (.dict (kvQ qs))) s2 s3 s4 s5 s6 s7 s8 s9 s10 s11 s12)) :
    evE G (D0 (n + 2)) (.blt .tuple (.cons (.comp (.tp [13, 14]) it .yes (.tup (.cons (.call 65 (.cons (.pl 13) (.cons (.pl 1) .nil))) (.cons (.call 65 (.cons (.pl 14) (.cons (.pl 1) .nil))) .nil)))) .nil)) (R s0 (.d (.dict (kvQ qs))) s2 s3 s4 s5 s6 s7 s8 s9 s10 s11 s12) =
      some (.p (mD qs m), R s0 (.d (.dict (kvQ qs))) s2 s3 s4 s5 s6 s7 s8 s9 s10 s11 s12) := by
  have key := ev_comp (G' := G) (Φ := D0 (n + 2)) (tg := .tp [13, 14]) (c := .yes) (e := .tup (.cons (.call 65 (.cons (.pl 13) (.cons (.pl 1) .nil))) (.cons (.call 65 (.cons (.pl 14) (.cons (.pl 1) .nil))) .nil)))
    (r := fun f : Fr2 => some (frD qs f)) hi rfl (fun f hf => by
      have h := hm.2 f hf
      have ag : asg (.tp [13, 14]) (frD P0 f) (unS (R s0 (.d (.dict (kvQ qs))) s2 s3 s4 s5 s6 s7 s8 s9 s10 s11 s12) (Tg.tp [13, 14]).sl) = some [s0, .d (.dict (kvQ qs)), s2, s3, s4, s5, s6, s7, s8, s9, s10, s11, s12, .d (nm P0 f.1), .d (nm P0 f.2), .un, .un, .un] := rfl
      have l1 := ev_led Q (n := n) (e := f.1) (E0 := .pl 13) (ρ := [s0, .d (.dict (kvQ qs)), s2, s3, s4, s5, s6, s7, s8, s9, s10, s11, s12, .d (nm P0 f.1), .d (nm P0 f.2), .un, .un, .un]) h.l1 (by have := h.s1; omega) rfl rfl
      have l2 := ev_led Q (n := n) (e := f.2) (E0 := .pl 14) (ρ := [s0, .d (.dict (kvQ qs)), s2, s3, s4, s5, s6, s7, s8, s9, s10, s11, s12, .d (nm P0 f.1), .d (nm P0 f.2), .un, .un, .un]) h.l2 (by have := h.s2; omega) rfl rfl
      have tp := ev_tup (es_cons l1 (es_cons l2 es_nil)) (by show 2 ≤ cap; decide)
      unfold cmpF1
      rw [ag]
      dsimp only
      rw [evT]
      dsimp only
      rw [tp]
      rfl) (by have := hm.1; unfold cap; omega)
  rw [filterMap_all] at key
  rw [ev_blt1 key (z := mD qs m) rfl]
  rfl
end
end Ir
set_option Elab.async false
set_option linter.all false
set_option maxRecDepth 100000
set_option maxHeartbeats 4000000
namespace Ir
open PySem L2 Dn
theorem c_al {n f : Nat} {es : Es} {o o1 o' : OV} {d : D} {xs : List D} {as : List SV} {r : Bool} {ρ ρ1 : Rho} (h0 : ρ[0]? = some (.own r o)) (hes : evEs G (D0 n) es ρ = some (xs.map Vl.p, ρ1)) (h1 : ρ1[0]? = some (.own r o1)) (hf : D0 n f (.own true o1 :: xs.map SV.d) = some (d, .own true o' :: as)) : evE G (D0 n) (.call f (.cons (.pl 0) es)) ρ = some (.p d, ρ1.set 0 (.own r o')) := by
  have e0 : evE G (D0 n) (.pl 0) ρ = some (.al 0, ρ) := by rw [evE, h0]
  have hs : argS ρ1 (.al 0 :: xs.map Vl.p) = some (.own true o1 :: xs.map SV.d) := by
    show (match ρ1[0]? with
      | some (.own _ o) => (argS ρ1 (xs.map Vl.p)).map (SV.own true o :: ·)
      | _ => none) = _
    rw [h1, arg_map]
    rfl
  have ha : als (.al 0 :: xs.map Vl.p) = [0] := by
    show 0 :: als (xs.map Vl.p) = _
    rw [als_map]
  rw [evE, evEs, e0]
  dsimp only
  rw [hes]
  dsimp only
  rw [hs]
  dsimp only
  rw [ha, if_pos (by simp), hf]
  dsimp only
  show some (Vl.p d, wrB (xs.map Vl.p) as (setO ρ1 0 o')) = _
  rw [wr_map]
  unfold setO
  rw [h1]
section
variable {n N : Nat} {a b c : Int}
theorem st1 (hT : OkT N b c) (hN : N ≤ 800000) : ∃ (qs : List Nat) (a' c' : Int), qs.Perm P0 ∧ OkT (N + 5) b c' ∧
    evS 3000 G (D0 (n + 8)) (O0 (n + 8)) (.set 1 (.dzip (.tup (.cons (.int 2) (.cons (.int 3) (.cons (.int 5) (.cons (.int 7) (.cons (.int 11) .nil)))))) (.call 59 (.cons (.pl 0) (.cons (.lst (.cons (.int 2) (.cons (.int 3) (.cons (.int 5) (.cons (.int 7) (.cons (.int 11) .nil)))))) (.cons (.int 5) .nil)))))) (R (tinS a b c) .un .un .un .un .un .un .un .un .un .un .un .un) =
      some (.nx (R (tinS a' b c') (.d (.dict (kvQ qs))) .un .un .un .un .un .un .un .un .un .un .un)) := by
  obtain ⟨qs, a', c', as, h1, h2, h3⟩ := law_pick (n := n + 6) (a := a) hT hN
  refine ⟨qs, a', c', h1, h2, ?_⟩
  have i5 : ∀ ρ : Rho, evEs G (D0 (n + 8)) (.cons (.int 2) (.cons (.int 3) (.cons (.int 5) (.cons (.int 7) (.cons (.int 11) .nil))))) ρ = some ([PyData.int 2, .int 3, .int 5, .int 7, .int 11].map Vl.p, ρ) := fun _ => by
    simp [evEs, evE]
  have hc : [PyData.int 2, .int 3, .int 5, .int 7, .int 11].length ≤ cap := by show 5 ≤ cap; decide
  have t1 := ev_tup (n := n + 8) (i5 (R (tinS a b c) .un .un .un .un .un .un .un .un .un .un .un .un)) hc
  have l1 := ev_lst (n := n + 8) (i5 (R (tinS a b c) .un .un .un .un .un .un .un .un .un .un .un .un)) hc
  have e5 : evE G (D0 (n + 8)) (.int 5) (R (tinS a b c) .un .un .un .un .un .un .un .un .un .un .un .un) = some (.p (.int 5), R (tinS a b c) .un .un .un .un .un .un .un .un .un .un .un .un) := rfl
  have ck := c_al (n := n + 8) (f := 59) (r := true) (ρ := R (tinS a b c) .un .un .un .un .un .un .un .un .un .un .un .un) (o := tinV a b c) (o1 := tinV a b c) (o' := tinV a' b c') rfl (es_cons l1 (es_cons e5 es_nil)) rfl h3
  have hl : qs.length = 5 := h1.length_eq.trans rfl
  have dz : evE G (D0 (n + 8)) (.dzip (.tup (.cons (.int 2) (.cons (.int 3) (.cons (.int 5) (.cons (.int 7) (.cons (.int 11) .nil)))))) (.call 59 (.cons (.pl 0) (.cons (.lst (.cons (.int 2) (.cons (.int 3) (.cons (.int 5) (.cons (.int 7) (.cons (.int 11) .nil)))))) (.cons (.int 5) .nil))))) (R (tinS a b c) .un .un .un .un .un .un .un .un .un .un .un .un) =
      some (.p (.dict (kvQ qs)), R (tinS a' b c') .un .un .un .un .un .un .un .un .un .un .un .un) := by
    rw [evE, t1]
    dsimp only
    rw [ck]
    dsimp only
    rw [rdV_p, rdV_p]
    dsimp only
    rw [zip_Q hl]
    rfl
  rw [evS, dz]
  rfl
theorem st2 {nd : SV} (hT : OkT N b c) (hN : N ≤ 800000) : ∃ (one two : List Fr2) (x y : Vec) (a' c' : Int), OkMg 5 one ∧ 1 ≤ one.length ∧ one.length ≤ 6 ∧ OkMg 5 two ∧ two.length ≤ 6 ∧ x.length = 5 ∧ x.sum ≤ 15 ∧ y.length = 5 ∧ y.sum ≤ 10 ∧ OkT (N + 130) b c' ∧
    evS 3000 G (D0 (n + 8)) (O0 (n + 8)) (.unp [2, 3, 4, 5] (.tup (.cons (.call 67 (.cons (.pl 0) .nil)) (.cons (.call 67 (.cons (.pl 0) .nil)) (.cons (.call 66 (.cons (.pl 0) (.cons (.int 3) .nil))) (.cons (.call 66 (.cons (.pl 0) (.cons (.int 2) .nil))) .nil)))))) (R (tinS a b c) nd .un .un .un .un .un .un .un .un .un .un .un) =
      some (.nx (R (tinS a' b c') nd (.d (mD P0 one)) (.d (mD P0 two)) (.d (nm P0 x)) (.d (nm P0 y)) .un .un .un .un .un .un .un)) := by
  obtain ⟨one, a1, c1, p1, p2, p3, t1, q1⟩ := law_of_primes (n := n + 5) (a := a) hT (by omega)
  obtain ⟨two, a2, c2, r1, r2, r3, t2, q2⟩ := law_of_primes (n := n + 5) (a := a1) t1 (by omega)
  obtain ⟨x, a3, c3, x1, x2, t3, q3⟩ := law_drawn (n := n + 6) (k := 3) (a := a2) (by decide) t2 (by omega)
  obtain ⟨y, a4, c4, y1, y2, t4, q4⟩ := law_drawn (n := n + 6) (k := 2) (a := a3) (by decide) t3 (by omega)
  refine ⟨one, two, x, y, a4, c4, p1, p2, p3, r1, r3, x1, by omega, y1, by omega, ?_, ?_⟩
  · rw [show N + 130 = N + 60 + 60 + 5 + 5 by omega]
    exact t4
  have k1 := c_al1 (n := n + 8) (f := 67) (r := true) (ρ := R (tinS a b c) nd .un .un .un .un .un .un .un .un .un .un .un) (o := tinV a b c) (o' := tinV a1 b c1) rfl q1
  have k2 := c_al1 (n := n + 8) (f := 67) (r := true) (ρ := R (tinS a1 b c1) nd .un .un .un .un .un .un .un .un .un .un .un) (o := tinV a1 b c1) (o' := tinV a2 b c2) rfl q2
  have e3 : evE G (D0 (n + 8)) (.int 3) (R (tinS a2 b c2) nd .un .un .un .un .un .un .un .un .un .un .un) = some (.p (.int 3), R (tinS a2 b c2) nd .un .un .un .un .un .un .un .un .un .un .un) := rfl
  have e2 : evE G (D0 (n + 8)) (.int 2) (R (tinS a3 b c3) nd .un .un .un .un .un .un .un .un .un .un .un) = some (.p (.int 2), R (tinS a3 b c3) nd .un .un .un .un .un .un .un .un .un .un .un) := rfl
  have k3 := c_al (n := n + 8) (f := 66) (r := true) (ρ := R (tinS a2 b c2) nd .un .un .un .un .un .un .un .un .un .un .un) (o := tinV a2 b c2) (o1 := tinV a2 b c2) (o' := tinV a3 b c3) rfl (es_cons e3 es_nil) rfl q3
  have k4 := c_al (n := n + 8) (f := 66) (r := true) (ρ := R (tinS a3 b c3) nd .un .un .un .un .un .un .un .un .un .un .un) (o := tinV a3 b c3) (o1 := tinV a3 b c3) (o' := tinV a4 b c4) rfl (es_cons e2 es_nil) rfl q4
  have tp := ev_tup (es_cons k1 (es_cons k2 (es_cons k3 (es_cons k4 es_nil)))) (by show 4 ≤ cap; decide)
  rw [evS, tp]
  rfl
end
section
variable {qs : List Nat} (Q : Pr qs) {n : Nat} {s0 s4 s5 s6 s7 s8 s9 s10 s11 s12 : SV} {one two : List Fr2} {x y : Vec}
include Q
theorem st3 (h1 : OkM one) (h2 : OkM two) : evS 3000 G (D0 (n + 8)) (O0 (n + 8)) (.unp [6, 7] (.comp (.nm 15) (.sq (.tup (.cons (.pl 2) (.cons (.pl 3) .nil)))) .yes (.blt .tuple (.cons (.comp (.tp [13, 14]) (.sq (.pl 15)) .yes (.tup (.cons (.call 65 (.cons (.pl 13) (.cons (.pl 1) .nil))) (.cons (.call 65 (.cons (.pl 14) (.cons (.pl 1) .nil))) .nil)))) .nil)))) (R s0 (.d (.dict (kvQ qs))) (.d (mD P0 one)) (.d (mD P0 two)) s4 s5 .un .un s8 s9 s10 s11 s12) =
      some (.nx (R s0 (.d (.dict (kvQ qs))) (.d (mD P0 one)) (.d (mD P0 two)) s4 s5 (.d (mD qs one)) (.d (mD qs two)) s8 s9 s10 s11 s12)) := by
  have hi : evI G (D0 (n + 8)) (.sq (.tup (.cons (.pl 2) (.cons (.pl 3) .nil)))) (R s0 (.d (.dict (kvQ qs))) (.d (mD P0 one)) (.d (mD P0 two)) s4 s5 .un .un s8 s9 s10 s11 s12) = some ([one, two].map (mD P0), R s0 (.d (.dict (kvQ qs))) (.d (mD P0 one)) (.d (mD P0 two)) s4 s5 .un .un s8 s9 s10 s11 s12) := by
    have g2 : evE G (D0 (n + 8)) (.pl 2) (R s0 (.d (.dict (kvQ qs))) (.d (mD P0 one)) (.d (mD P0 two)) s4 s5 .un .un s8 s9 s10 s11 s12) = some (.p (mD P0 one), R s0 (.d (.dict (kvQ qs))) (.d (mD P0 one)) (.d (mD P0 two)) s4 s5 .un .un s8 s9 s10 s11 s12) := rfl
    have g3 : evE G (D0 (n + 8)) (.pl 3) (R s0 (.d (.dict (kvQ qs))) (.d (mD P0 one)) (.d (mD P0 two)) s4 s5 .un .un s8 s9 s10 s11 s12) = some (.p (mD P0 two), R s0 (.d (.dict (kvQ qs))) (.d (mD P0 one)) (.d (mD P0 two)) s4 s5 .un .un s8 s9 s10 s11 s12) := rfl
    rw [evI, ev_tup (es_cons g2 (es_cons g3 es_nil)) (by show 2 ≤ cap; decide)]
    rfl
  have key := ev_comp (G' := G) (Φ := D0 (n + 8)) (tg := .nm 15) (c := .yes) (e := .blt .tuple (.cons (.comp (.tp [13, 14]) (.sq (.pl 15)) .yes (.tup (.cons (.call 65 (.cons (.pl 13) (.cons (.pl 1) .nil))) (.cons (.call 65 (.cons (.pl 14) (.cons (.pl 1) .nil))) .nil)))) .nil))
    (r := fun m : List Fr2 => some (mD qs m)) hi rfl (fun m hm => by
      have ok : OkM m := by
        simp only [List.mem_cons, List.not_mem_nil, or_false] at hm
        rcases hm with rfl | rfl
        · exact h1
        · exact h2
      have ag : asg (.nm 15) (mD P0 m) (unS (R s0 (.d (.dict (kvQ qs))) (.d (mD P0 one)) (.d (mD P0 two)) s4 s5 .un .un s8 s9 s10 s11 s12) (Tg.nm 15).sl) = some [s0, .d (.dict (kvQ qs)), .d (mD P0 one), .d (mD P0 two), s4, s5, .un, .un, s8, s9, s10, s11, s12, .un, .un, .d (mD P0 m), .un, .un] := rfl
      have hi2 : evI G (D0 (n + 8)) (.sq (.pl 15)) [s0, .d (.dict (kvQ qs)), .d (mD P0 one), .d (mD P0 two), s4, s5, .un, .un, s8, s9, s10, s11, s12, .un, .un, .d (mD P0 m), .un, .un] = some (m.map (frD P0), [s0, .d (.dict (kvQ qs)), .d (mD P0 one), .d (mD P0 two), s4, s5, .un, .un, s8, s9, s10, s11, s12, .un, .un, .d (mD P0 m), .un, .un]) := rfl
      have key2 := ev_comp (G' := G) (Φ := D0 (n + 8)) (tg := .tp [13, 14]) (c := .yes) (e := .tup (.cons (.call 65 (.cons (.pl 13) (.cons (.pl 1) .nil))) (.cons (.call 65 (.cons (.pl 14) (.cons (.pl 1) .nil))) .nil)))
        (r := fun f : Fr2 => some (frD qs f)) hi2 rfl (fun f hf => by
          have h := ok.2 f hf
          have ag : asg (.tp [13, 14]) (frD P0 f) (unS [s0, .d (.dict (kvQ qs)), .d (mD P0 one), .d (mD P0 two), s4, s5, .un, .un, s8, s9, s10, s11, s12, .un, .un, .d (mD P0 m), .un, .un] (Tg.tp [13, 14]).sl) = some [s0, .d (.dict (kvQ qs)), .d (mD P0 one), .d (mD P0 two), s4, s5, .un, .un, s8, s9, s10, s11, s12, .d (nm P0 f.1), .d (nm P0 f.2), .d (mD P0 m), .un, .un] := rfl
          have l1 := ev_led Q (n := n + 6) (e := f.1) (E0 := .pl 13) (ρ := [s0, .d (.dict (kvQ qs)), .d (mD P0 one), .d (mD P0 two), s4, s5, .un, .un, s8, s9, s10, s11, s12, .d (nm P0 f.1), .d (nm P0 f.2), .d (mD P0 m), .un, .un]) h.l1 (by have := h.s1; omega) rfl rfl
          have l2 := ev_led Q (n := n + 6) (e := f.2) (E0 := .pl 14) (ρ := [s0, .d (.dict (kvQ qs)), .d (mD P0 one), .d (mD P0 two), s4, s5, .un, .un, s8, s9, s10, s11, s12, .d (nm P0 f.1), .d (nm P0 f.2), .d (mD P0 m), .un, .un]) h.l2 (by have := h.s2; omega) rfl rfl
          have tp := ev_tup (es_cons l1 (es_cons l2 es_nil)) (by show 2 ≤ cap; decide)
          unfold cmpF1
          rw [ag]
          dsimp only
          rw [evT]
          dsimp only
          rw [tp]
          rfl) (by have := ok.1; unfold cap; omega)
      rw [filterMap_all] at key2
      unfold cmpF1
      rw [ag]
      dsimp only
      rw [evT]
      dsimp only
      rw [ev_blt1 key2 (z := mD qs m) rfl]
      rfl) (by show 2 ≤ cap; decide)
  rw [filterMap_all] at key
  rw [evS, key]
  rfl
theorem st4 {s1 s3 s5 : SV} (h1 : OkMg 5 one) (hx : x.length = 5) (hs : x.sum ≤ 15) : evS 3000 G (D0 (n + 8)) (O0 (n + 8)) (.set 8 (.call 64 (.cons (.pl 2) (.cons (.pl 4) (.cons (.int 12) .nil))))) (R s0 s1 (.d (mD P0 one)) s3 (.d (nm P0 x)) s5 s6 s7 .un s9 s10 s11 s12) =
      some (.nx (R s0 s1 (.d (mD P0 one)) s3 (.d (nm P0 x)) s5 s6 s7 (.d (.list ((x :: wk one 12 x).map (nm P0)))) s9 s10 s11 s12)) := by
  have g2 : evE G (D0 (n + 8)) (.pl 2) (R s0 s1 (.d (mD P0 one)) s3 (.d (nm P0 x)) s5 s6 s7 .un s9 s10 s11 s12) = some (.p (mD P0 one), R s0 s1 (.d (mD P0 one)) s3 (.d (nm P0 x)) s5 s6 s7 .un s9 s10 s11 s12) := rfl
  have g4 : evE G (D0 (n + 8)) (.pl 4) (R s0 s1 (.d (mD P0 one)) s3 (.d (nm P0 x)) s5 s6 s7 .un s9 s10 s11 s12) = some (.p (nm P0 x), R s0 s1 (.d (mD P0 one)) s3 (.d (nm P0 x)) s5 s6 s7 .un s9 s10 s11 s12) := rfl
  have g12 : evE G (D0 (n + 8)) (.int 12) (R s0 s1 (.d (mD P0 one)) s3 (.d (nm P0 x)) s5 s6 s7 .un s9 s10 s11 s12) = some (.p (.int ((12 : Nat) : Int)), R s0 s1 (.d (mD P0 one)) s3 (.d (nm P0 x)) s5 s6 s7 .un s9 s10 s11 s12) := rfl
  have lm := law_milled pr0 (n := n + 5) (k := 12) h1 hx (by omega) (by decide)
  rw [evS, ev_call (es_cons g2 (es_cons g4 (es_cons g12 es_nil))) lm]
  rfl
end
end Ir
set_option Elab.async false
set_option linter.all false
set_option maxRecDepth 100000
set_option maxHeartbeats 4000000
namespace Ir
open PySem L2 Dn
theorem wk_sum {m : List Fr2} {g : Nat} (hm : OkMg g m) : ∀ {k : Nat} {e : Vec}, e.length = 5 → ∀ z ∈ wk m k e, z.length = 5 ∧ z.sum ≤ e.sum + k * g
  | 0, _, _, z, hz => by simp [wk] at hz
  | k + 1, e, he, z, hz => by
    unfold wk at hz
    have hmul : (k + 1) * g = k * g + g := Nat.succ_mul _ _
    rcases nxt_spec (m := m) (e := e) with ⟨h1, _⟩ | ⟨j, f, _, h2, _, h6⟩
    · rw [h1] at hz
      simp at hz
    · rw [h6] at hz
      have hf := hm.2 f (List.mem_of_getElem? h2)
      have hl := stp_len he hf.ok.l1 hf.ok.l2
      have hs := stp_sum pr0 he hf
      rcases List.mem_cons.mp hz with rfl | hz
      · exact ⟨hl, by omega⟩
      · have := wk_sum hm hl z hz
        exact ⟨this.1, by omega⟩
theorem wk_take {m : List Fr2} : ∀ {k : Nat} {e : Vec}, (wk m (k + 1) e).take k = wk m k e
  | 0, _ => rfl
  | k + 1, e => by
    have e1 : wk m (k + 1 + 1) e = match nxt m e with
      | none => []
      | some e' => e' :: wk m (k + 1) e' := rfl
    have e2 : wk m (k + 1) e = match nxt m e with
      | none => []
      | some e' => e' :: wk m k e' := rfl
    rw [e1, e2]
    cases nxt m e with
    | none => rfl
    | some e' =>
      show e' :: (wk m (k + 1) e').take k = _
      rw [wk_take]
theorem same_t {n : Nat} {E0 E1 : E} {ρ ρ1 ρ2 : Rho} {d : D} (h0 : evE G (D0 n) E0 ρ = some (.p d, ρ1)) (h1 : evE G (D0 n) E1 ρ1 = some (.p d, ρ2)) (hs : Sam n d) : evT G (D0 n) (.not (.val (.call 60 (.cons E0 (.cons E1 .nil))))) ρ = some (false, ρ2) := by
  have h : evE G (D0 n) (.call 60 (.cons E0 (.cons E1 .nil))) ρ = some (.p (.bool true), ρ2) := ev_call (xs := [d, d]) (es_cons h0 (es_cons h1 es_nil)) hs
  rw [evT, evT, h]
  rfl
/-- what is got of runs and places -/
def got1 (qs : List Nat) (one : List Fr2) (x y : Vec) : List D := [.list ((x :: wk one 12 x).map (nm qs)), .tuple (((x :: wk one 11 x).filter fun z => decide (0 ≤ pl one z)).map fun z => .int (pl one z)), .int (pl one y)]
theorem sam_nms {n : Nat} {qs : List Nat} {l : List Vec} (h : l.length ≤ cap) : Sam (n + 2) (.list (l.map (nm qs))) := sam_list (by rw [List.length_map]; exact h) fun x hx => by
  obtain ⟨z, _, rfl⟩ := List.mem_map.mp hx
  exact sam_int
theorem sam_two {n : Nat} {a b : D} (ha : Sam n a) (hb : Sam n b) : Sam (n + 1) (.list [a, b]) := sam_list (by show 2 ≤ cap; decide) fun x hx => by
  simp only [List.mem_cons, List.not_mem_nil, or_false] at hx
  rcases hx with rfl | rfl <;> assumption
theorem sam_3 {n : Nat} {a b c : D} (ha : Sam n a) (hb : Sam n b) (hc : Sam n c) : Sam (n + 1) (.list [a, b, c]) := sam_list (by show 3 ≤ cap; decide) fun x hx => by
  simp only [List.mem_cons, List.not_mem_nil, or_false] at hx
  rcases hx with rfl | rfl | rfl <;> assumption
theorem sam_5 {n : Nat} {a b c d e : D} (ha : Sam n a) (hb : Sam n b) (hc : Sam n c) (hd : Sam n d) (he : Sam n e) : Sam (n + 1) (.list [a, b, c, d, e]) := sam_list (by show 5 ≤ cap; decide) fun x hx => by
  simp only [List.mem_cons, List.not_mem_nil, or_false] at hx
  rcases hx with rfl | rfl | rfl | rfl | rfl <;> assumption
theorem sam_ints {n : Nat} {l : List D} (h : l.length ≤ cap) (hi : ∀ d ∈ l, ∃ i, d = .int i) : Sam (n + 2) (.tuple l) := sam_tuple h fun x hx => by
  obtain ⟨i, rfl⟩ := hi x hx
  exact sam_int
theorem sam_got1 {n : Nat} {qs : List Nat} {one : List Fr2} {x y : Vec} : Sam (n + 3) (.list (got1 qs one x y)) := by
  have l1 := wk_len (m := one) (k := 12) (e := x)
  have l2 := wk_len (m := one) (k := 11) (e := x)
  refine sam_3 (sam_nms (by rw [List.length_cons]; unfold cap; omega)) (sam_ints ?_ fun d hd => ?_) sam_int
  · rw [List.length_map]
    refine Nat.le_trans (List.length_filter_le _ _) ?_
    rw [List.length_cons]
    unfold cap
    omega
  · obtain ⟨z, _, rfl⟩ := List.mem_map.mp hd
    exact ⟨_, rfl⟩
section
variable {qs : List Nat} (Q : Pr qs) {n : Nat} {s0 s3 s7 s8 s9 s10 s11 s12 : SV} {one two : List Fr2} {x y : Vec}
include Q
theorem st5 (h1 : OkMg 5 one) (hx : x.length = 5) (hs : x.sum ≤ 15) (hy : y.length = 5) (hs2 : y.sum ≤ 10) : evS 3000 G (D0 (n + 8)) (O0 (n + 8)) (.set 9 (.lst (.cons (.call 19 (.cons (.pl 6) (.cons (.call 65 (.cons (.pl 4) (.cons (.pl 1) .nil))) (.cons (.int 12) .nil)))) (.cons (.call 20 (.cons (.pl 6) (.cons (.call 65 (.cons (.pl 4) (.cons (.pl 1) .nil))) (.cons (.int 12) .nil)))) (.cons (.call 18 (.cons (.pl 6) (.cons (.call 65 (.cons (.pl 5) (.cons (.pl 1) .nil))) .nil))) .nil))))) (R s0 (.d (.dict (kvQ qs))) (.d (mD P0 one)) s3 (.d (nm P0 x)) (.d (nm P0 y)) (.d (mD qs one)) s7 s8 .un s10 s11 s12) =
      some (.nx (R s0 (.d (.dict (kvQ qs))) (.d (mD P0 one)) s3 (.d (nm P0 x)) (.d (nm P0 y)) (.d (mD qs one)) s7 s8 (.d (.list (got1 qs one x y))) s10 s11 s12)) := by
  generalize hρ : R s0 (.d (.dict (kvQ qs))) (.d (mD P0 one)) s3 (.d (nm P0 x)) (.d (nm P0 y)) (.d (mD qs one)) s7 s8 .un s10 s11 s12 = ρ
  have g1 : ρ[1]? = some (.d (.dict (kvQ qs))) := by rw [← hρ]; rfl
  have g4 : evE G (D0 (n + 8)) (.pl 4) ρ = some (.p (nm P0 x), ρ) := by rw [← hρ]; rfl
  have g5 : evE G (D0 (n + 8)) (.pl 5) ρ = some (.p (nm P0 y), ρ) := by rw [← hρ]; rfl
  have g6 : evE G (D0 (n + 8)) (.pl 6) ρ = some (.p (mD qs one), ρ) := by rw [← hρ]; rfl
  have g12 : evE G (D0 (n + 8)) (.int 12) ρ = some (.p (.int ((12 : Nat) : Int)), ρ) := by rw [← hρ]; rfl
  have lx := ev_led Q (n := n + 6) (ρ := ρ) hx (by omega) g1 g4
  have ly := ev_led Q (n := n + 6) (ρ := ρ) hy (by omega) g1 g5
  have c1 := ev_call (es_cons g6 (es_cons lx (es_cons g12 es_nil))) (walk_mill Q (n := n + 2) (k := 12) h1 hx (by omega) (by decide))
  have c2 := ev_call (es_cons g6 (es_cons lx (es_cons g12 es_nil))) (places_taken Q (n := n + 2) (j := 12) h1 hx (by decide) (by omega) (by decide))
  have c3 := ev_call (es_cons g6 (es_cons ly es_nil)) (place_taken Q (n := n + 2) h1.m hy (by omega))
  rw [evS, ev_lst (es_cons c1 (es_cons c2 (es_cons c3 es_nil))) (by show 3 ≤ cap; decide), ← hρ]
  rfl
theorem st6 (h1 : OkMg 5 one) (hx : x.length = 5) (hs : x.sum ≤ 15) (hy : y.length = 5) (hs2 : y.sum ≤ 10) {s6 : SV} : evT G (D0 (n + 8)) (.not (.val (.call 60 (.cons (.pl 9) (.cons (.lst (.cons (.comp (.nm 15) (.sq (.pl 8)) .yes (.call 65 (.cons (.pl 15) (.cons (.pl 1) .nil)))) (.cons (.blt .tuple (.cons (.comp (.nm 15) (.sq (.slc (.pl 8) .no (.so (.int 12)))) (.cmp .GtE (.call 63 (.cons (.pl 2) (.cons (.pl 15) .nil))) (.int 0)) (.call 63 (.cons (.pl 2) (.cons (.pl 15) .nil)))) .nil)) (.cons (.call 63 (.cons (.pl 2) (.cons (.pl 5) .nil))) .nil)))) .nil))))) (R s0 (.d (.dict (kvQ qs))) (.d (mD P0 one)) s3 (.d (nm P0 x)) (.d (nm P0 y)) s6 s7 (.d (.list ((x :: wk one 12 x).map (nm P0)))) (.d (.list (got1 qs one x y))) s10 s11 s12) =
      some (false, R s0 (.d (.dict (kvQ qs))) (.d (mD P0 one)) s3 (.d (nm P0 x)) (.d (nm P0 y)) s6 s7 (.d (.list ((x :: wk one 12 x).map (nm P0)))) (.d (.list (got1 qs one x y))) s10 s11 s12) := by
  refine same_t (d := .list (got1 qs one x y)) rfl ?_ (sam_got1 (n := n + 5))
  have hW : ∀ z ∈ x :: wk one 12 x, z.length = 5 ∧ z.sum ≤ 75 := fun z hz => by
    rcases List.mem_cons.mp hz with rfl | hz
    · exact ⟨hx, by omega⟩
    · have := wk_sum h1 hx z hz
      exact ⟨this.1, by omega⟩
  have lW : (x :: wk one 12 x).length ≤ 13 := by
    have := wk_len (m := one) (k := 12) (e := x)
    rw [List.length_cons]
    omega
  have tk : (x :: wk one 12 x).take 12 = x :: wk one 11 x := by
    show x :: (wk one 12 x).take 11 = _
    rw [wk_take]
  have g : ∀ {w : SV}, w = .d (.list (got1 qs one x y)) → got1 qs one x y = [.list ((x :: wk one 12 x).map (nm qs)), .tuple (((x :: wk one 11 x).filter fun z => decide (0 ≤ pl one z)).map fun z => .int (pl one z)), .int (pl one y)] := fun _ => rfl
  rw [g rfl]
  generalize hG : SV.d (.list [.list ((x :: wk one 12 x).map (nm qs)), .tuple (((x :: wk one 11 x).filter fun z => decide (0 ≤ pl one z)).map fun z => .int (pl one z)), .int (pl one y)]) = s9
  -- the run, named anew
  have k1 := ev_comp (G' := G) (Φ := D0 (n + 8)) (tg := .nm 15) (it := .sq (.pl 8)) (c := .yes) (e := .call 65 (.cons (.pl 15) (.cons (.pl 1) .nil))) (W := x :: wk one 12 x) (g := nm P0) (ρ := R s0 (.d (.dict (kvQ qs))) (.d (mD P0 one)) s3 (.d (nm P0 x)) (.d (nm P0 y)) s6 s7 (.d (.list ((x :: wk one 12 x).map (nm P0)))) s9 s10 s11 s12)
    (r := fun z : Vec => some (nm qs z)) rfl rfl (fun z hz => by
      have l := ev_led Q (n := n + 6) (e := z) (E0 := .pl 15) (ρ := [s0, .d (.dict (kvQ qs)), .d (mD P0 one), s3, .d (nm P0 x), .d (nm P0 y), s6, s7, .d (.list ((x :: wk one 12 x).map (nm P0))), s9, s10, s11, s12, .un, .un, .d (nm P0 z), .un, .un]) (hW z hz).1 (by have := (hW z hz).2; omega) rfl rfl
      have ag : asg (.nm 15) (nm P0 z) (unS (R s0 (.d (.dict (kvQ qs))) (.d (mD P0 one)) s3 (.d (nm P0 x)) (.d (nm P0 y)) s6 s7 (.d (.list ((x :: wk one 12 x).map (nm P0)))) s9 s10 s11 s12) (Tg.nm 15).sl) = some [s0, .d (.dict (kvQ qs)), .d (mD P0 one), s3, .d (nm P0 x), .d (nm P0 y), s6, s7, .d (.list ((x :: wk one 12 x).map (nm P0))), s9, s10, s11, s12, .un, .un, .d (nm P0 z), .un, .un] := rfl
      unfold cmpF1
      rw [ag]
      dsimp only
      rw [evT]
      dsimp only
      rw [l]
      rfl) (by unfold cap; omega)
  rw [filterMap_all] at k1
  -- the places
  have i2 : evI G (D0 (n + 8)) (.sq (.slc (.pl 8) .no (.so (.int 12)))) (R s0 (.d (.dict (kvQ qs))) (.d (mD P0 one)) s3 (.d (nm P0 x)) (.d (nm P0 y)) s6 s7 (.d (.list ((x :: wk one 12 x).map (nm P0)))) s9 s10 s11 s12) = some ((x :: wk one 11 x).map (nm P0), R s0 (.d (.dict (kvQ qs))) (.d (mD P0 one)) s3 (.d (nm P0 x)) (.d (nm P0 y)) s6 s7 (.d (.list ((x :: wk one 12 x).map (nm P0)))) s9 s10 s11 s12) := by
    have e1 : cutD ((x :: wk one 12 x).map (nm P0)) none (some 12) = (x :: wk one 11 x).map (nm P0) := by
      rw [← tk, List.map_take]
      unfold cutD
      rw [HT.sIx_none, show (12 : Int) = ((12 : Nat) : Int) from rfl, HT.sIx_nat, List.drop_zero, Nat.sub_zero]
      rcases Nat.le_total 12 ((x :: wk one 12 x).map (nm P0)).length with h | h
      · rw [Nat.min_eq_left h]
      · rw [Nat.min_eq_right h, List.take_length, List.take_of_length_le h]
    refine (show _ = some (cutD ((x :: wk one 12 x).map (nm P0)) none (some 12), R s0 (.d (.dict (kvQ qs))) (.d (mD P0 one)) s3 (.d (nm P0 x)) (.d (nm P0 y)) s6 s7 (.d (.list ((x :: wk one 12 x).map (nm P0)))) s9 s10 s11 s12) from rfl).trans ?_
    rw [e1]
  have k2 := ev_comp (G' := G) (Φ := D0 (n + 8)) (tg := .nm 15) (c := .cmp .GtE (.call 63 (.cons (.pl 2) (.cons (.pl 15) .nil))) (.int 0)) (e := .call 63 (.cons (.pl 2) (.cons (.pl 15) .nil)))
    (r := fun z : Vec => if decide (0 ≤ pl one z) = true then some (PyData.int (pl one z)) else none) i2 rfl (fun z hz => by
      have hz' : z ∈ x :: wk one 12 x := by
        rw [← tk] at hz
        exact List.mem_of_mem_take hz
      have lt := law_takes pr0 (n := n + 6) (e := z) h1.m (hW z hz').1 (by have := (hW z hz').2; omega)
      have cl : evE G (D0 (n + 8)) (.call 63 (.cons (.pl 2) (.cons (.pl 15) .nil))) [s0, .d (.dict (kvQ qs)), .d (mD P0 one), s3, .d (nm P0 x), .d (nm P0 y), s6, s7, .d (.list ((x :: wk one 12 x).map (nm P0))), s9, s10, s11, s12, .un, .un, .d (nm P0 z), .un, .un] = some (.p (.int (pl one z)), [s0, .d (.dict (kvQ qs)), .d (mD P0 one), s3, .d (nm P0 x), .d (nm P0 y), s6, s7, .d (.list ((x :: wk one 12 x).map (nm P0))), s9, s10, s11, s12, .un, .un, .d (nm P0 z), .un, .un]) :=
        ev_call (xs := [mD P0 one, nm P0 z]) (es_cons rfl (es_cons rfl es_nil)) lt
      have ag : asg (.nm 15) (nm P0 z) (unS (R s0 (.d (.dict (kvQ qs))) (.d (mD P0 one)) s3 (.d (nm P0 x)) (.d (nm P0 y)) s6 s7 (.d (.list ((x :: wk one 12 x).map (nm P0)))) s9 s10 s11 s12) (Tg.nm 15).sl) = some [s0, .d (.dict (kvQ qs)), .d (mD P0 one), s3, .d (nm P0 x), .d (nm P0 y), s6, s7, .d (.list ((x :: wk one 12 x).map (nm P0))), s9, s10, s11, s12, .un, .un, .d (nm P0 z), .un, .un] := rfl
      have ge : cmpF .GtE (.int (pl one z)) (.int 0) = some (decide (0 ≤ pl one z)) := rfl
      have tt := et_cmp (o := .GtE) (f := .int 0) (y := .p (.int 0)) cl rfl (by rw [rdV_p, rdV_p]; exact ge)
      unfold cmpF1
      rw [ag]
      dsimp only
      rw [tt]
      by_cases q : 0 ≤ pl one z
      · rw [decide_eq_true q]
        dsimp only
        rw [cl]
        rfl
      · rw [decide_eq_false q]
        rfl) (by
      rw [← tk]
      have := List.length_take_le 12 (x :: wk one 12 x)
      unfold cap
      omega)
  rw [filterMap_if] at k2
  have k3 := ev_blt1 (b := .tuple) k2 (z := .tuple (((x :: wk one 11 x).filter fun z => decide (0 ≤ pl one z)).map fun z => .int (pl one z))) rfl
  have k4 : evE G (D0 (n + 8)) (.call 63 (.cons (.pl 2) (.cons (.pl 5) .nil))) (R s0 (.d (.dict (kvQ qs))) (.d (mD P0 one)) s3 (.d (nm P0 x)) (.d (nm P0 y)) s6 s7 (.d (.list ((x :: wk one 12 x).map (nm P0)))) s9 s10 s11 s12) = some (.p (.int (pl one y)), R s0 (.d (.dict (kvQ qs))) (.d (mD P0 one)) s3 (.d (nm P0 x)) (.d (nm P0 y)) s6 s7 (.d (.list ((x :: wk one 12 x).map (nm P0)))) s9 s10 s11 s12) :=
    ev_call (xs := [mD P0 one, nm P0 y]) (es_cons rfl (es_cons rfl es_nil)) (law_takes pr0 (n := n + 6) h1.m hy (by omega))
  exact ev_lst (es_cons k1 (es_cons k3 (es_cons k4 es_nil))) (by show 3 ≤ cap; decide)
end
end Ir
set_option Elab.async false
set_option linter.all false
set_option maxRecDepth 100000
set_option maxHeartbeats 4000000
namespace Ir
open PySem L2 Dn
theorem sortP_len {l : List (Int × Int)} : (sortP l).length = l.length := by
  obtain ⟨l', h1, h2⟩ := sort_key (f := fun x : Int × Int => x) (l := l)
  rw [List.map_id'] at h2
  rw [List.map_id'] at h2
  rw [← h2]
  exact h1.length_eq
theorem ahd_len {m : List Fr2} {e : Vec} : (ahd m e).length ≤ m.length := by
  unfold ahd
  rw [List.length_map]
  have := List.length_filter_le (ahQ m e) (enF 0 m)
  rw [enF_len] at this
  exact this
theorem ahd_mem {m : List Fr2} (hm : OkM m) {e : Vec} (he : e.length = 5) {q : Vec × Nat} (hq : q ∈ ahd m e) : q.1.length = 5 ∧ q.1.sum ≤ e.sum + 50 := by
  unfold ahd at hq
  obtain ⟨p, hp, rfl⟩ := List.mem_map.mp hq
  have h := hm.2 p.2 (enF_mem (List.mem_filter.mp hp).1)
  exact bck_ok pr0 he h
def got2 (qs : List Nat) (one : List Fr2) (x y : Vec) : List D := [.list ((sortP ((ahd one y).map (ahI qs))).map pD), meD (mts one x y 8)]
theorem sam_pD {n : Nat} {p : Int × Int} : Sam (n + 2) (pD p) := sam_ints (l := [.int p.1, .int p.2]) (by show 2 ≤ cap; decide) fun d hd => by
  simp only [List.mem_cons, List.not_mem_nil, or_false] at hd
  rcases hd with rfl | rfl <;> exact ⟨_, rfl⟩
theorem sam_got2 {n : Nat} {qs : List Nat} {one : List Fr2} {x y : Vec} (h : one.length ≤ 2000) : Sam (n + 4) (.list (got2 qs one x y)) := by
  refine sam_two (sam_list ?_ fun d hd => ?_) ?_
  · rw [List.length_map, sortP_len, List.length_map]
    have := ahd_len (m := one) (e := y)
    unfold cap
    omega
  · obtain ⟨p, _, rfl⟩ := List.mem_map.mp hd
    exact sam_pD
  · cases mts one x y 8 with
    | none => exact sam_ints (l := []) (Nat.zero_le _) fun d hd => (nomatch hd)
    | some t => exact sam_pD (p := ((t.2.1 : Nat), (t.2.2 : Nat)))
section
variable {qs : List Nat} (Q : Pr qs) {n : Nat} {s0 s3 s6 s7 s8 s9 s10 s11 s12 : SV} {one two : List Fr2} {x y : Vec}
include Q
theorem st7 (h1 : OkMg 5 one) (hx : x.length = 5) (hs : x.sum ≤ 15) (hy : y.length = 5) (hs2 : y.sum ≤ 10) {g : D} : evS 3000 G (D0 (n + 8)) (O0 (n + 8)) (.set 9 (.lst (.cons (.blt .sorted (.cons (.comp (.tp [13, 16]) (.sq (.call 22 (.cons (.pl 2) (.cons (.pl 5) .nil)))) .yes (.tup (.cons (.call 65 (.cons (.pl 13) (.cons (.pl 1) .nil))) (.cons (.pl 16) .nil)))) .nil)) (.cons (.call 23 (.cons (.pl 6) (.cons (.call 65 (.cons (.pl 4) (.cons (.pl 1) .nil))) (.cons (.call 65 (.cons (.pl 5) (.cons (.pl 1) .nil))) (.cons (.int 8) .nil))))) .nil)))) (R s0 (.d (.dict (kvQ qs))) (.d (mD P0 one)) s3 (.d (nm P0 x)) (.d (nm P0 y)) (.d (mD qs one)) s7 s8 (.d g) s10 s11 s12) =
      some (.nx (R s0 (.d (.dict (kvQ qs))) (.d (mD P0 one)) s3 (.d (nm P0 x)) (.d (nm P0 y)) (.d (mD qs one)) s7 s8 (.d (.list (got2 qs one x y))) s10 s11 s12)) := by
  obtain ⟨l', p1, p2⟩ := sort_key (f := ahI P0) (l := ahd one y)
  have hl : ∀ q ∈ l', q.1.length = 5 ∧ q.1.sum ≤ 60 := fun q hq => by
    have := ahd_mem h1.m hy (p1.mem_iff.mp hq)
    exact ⟨this.1, by omega⟩
  have ao := ahead_of pr0 (n := n + 2) h1.m hy (by omega)
  rw [← p2, List.map_map] at ao
  have hi : evI G (D0 (n + 8)) (.sq (.call 22 (.cons (.pl 2) (.cons (.pl 5) .nil)))) (R s0 (.d (.dict (kvQ qs))) (.d (mD P0 one)) s3 (.d (nm P0 x)) (.d (nm P0 y)) (.d (mD qs one)) s7 s8 (.d g) s10 s11 s12) = some (l'.map (pD ∘ ahI P0), R s0 (.d (.dict (kvQ qs))) (.d (mD P0 one)) s3 (.d (nm P0 x)) (.d (nm P0 y)) (.d (mD qs one)) s7 s8 (.d g) s10 s11 s12) := by
    have c := ev_call (n := n + 8) (f := 22) (ρ := R s0 (.d (.dict (kvQ qs))) (.d (mD P0 one)) s3 (.d (nm P0 x)) (.d (nm P0 y)) (.d (mD qs one)) s7 s8 (.d g) s10 s11 s12) (xs := [mD P0 one, nm P0 y]) (es_cons (e := .pl 2) rfl (es_cons (e := .pl 5) rfl es_nil)) ao
    rw [evI, c]
    rfl
  have key := ev_comp (G' := G) (Φ := D0 (n + 8)) (tg := .tp [13, 16]) (c := .yes) (e := .tup (.cons (.call 65 (.cons (.pl 13) (.cons (.pl 1) .nil))) (.cons (.pl 16) .nil)))
    (r := fun q : Vec × Nat => some (pD (ahI qs q))) hi rfl (fun q hq => by
      have ag : asg (.tp [13, 16]) ((pD ∘ ahI P0) q) (unS (R s0 (.d (.dict (kvQ qs))) (.d (mD P0 one)) s3 (.d (nm P0 x)) (.d (nm P0 y)) (.d (mD qs one)) s7 s8 (.d g) s10 s11 s12) (Tg.tp [13, 16]).sl) = some [s0, .d (.dict (kvQ qs)), .d (mD P0 one), s3, .d (nm P0 x), .d (nm P0 y), .d (mD qs one), s7, s8, .d g, s10, s11, s12, .d (nm P0 q.1), .un, .un, .d (.int (q.2 : Nat)), .un] := rfl
      have l := ev_led Q (n := n + 6) (e := q.1) (E0 := .pl 13) (ρ := [s0, .d (.dict (kvQ qs)), .d (mD P0 one), s3, .d (nm P0 x), .d (nm P0 y), .d (mD qs one), s7, s8, .d g, s10, s11, s12, .d (nm P0 q.1), .un, .un, .d (.int (q.2 : Nat)), .un]) (hl q hq).1 (by have := (hl q hq).2; omega) rfl rfl
      have tp := ev_tup (es_cons l (es_cons (e := .pl 16) (x := .int (q.2 : Nat)) rfl es_nil)) (by show 2 ≤ cap; decide)
      unfold cmpF1
      rw [ag]
      dsimp only
      rw [evT]
      dsimp only
      rw [tp]
      rfl) (by
        have := ahd_len (m := one) (e := y)
        rw [p1.length_eq]
        have := h1.1
        unfold cap
        omega)
  rw [filterMap_all] at key
  have so : bltF .sorted [.list (l'.map fun q => pD (ahI qs q))] = some (.list ((sortP ((ahd one y).map (ahI qs))).map pD)) := by
    have e1 : (l'.map fun q => pD (ahI qs q)) = (l'.map (ahI qs)).map pD := by
      rw [List.map_map]
      rfl
    rw [e1]
    show (pairsD ((l'.map (ahI qs)).map pD)).map (fun ps => PyData.list ((sortP ps).map pD)) = _
    rw [pairs_of, ← sortP_perm (p1.map (ahI qs))]
    rfl
  have k1 := ev_blt1 key (b := .sorted) (z := .list ((sortP ((ahd one y).map (ahI qs))).map pD)) (by rw [rdV_p]; exact so)
  have lx := ev_led Q (n := n + 6) (E0 := .pl 4) (ρ := R s0 (.d (.dict (kvQ qs))) (.d (mD P0 one)) s3 (.d (nm P0 x)) (.d (nm P0 y)) (.d (mD qs one)) s7 s8 (.d g) s10 s11 s12) hx (by omega) rfl rfl
  have ly := ev_led Q (n := n + 6) (E0 := .pl 5) (ρ := R s0 (.d (.dict (kvQ qs))) (.d (mD P0 one)) s3 (.d (nm P0 x)) (.d (nm P0 y)) (.d (mD qs one)) s7 s8 (.d g) s10 s11 s12) hy (by omega) rfl rfl
  have k2 := ev_call (n := n + 8) (f := 23) (ρ := R s0 (.d (.dict (kvQ qs))) (.d (mD P0 one)) s3 (.d (nm P0 x)) (.d (nm P0 y)) (.d (mD qs one)) s7 s8 (.d g) s10 s11 s12) (es_cons (e := .pl 6) (x := mD qs one) rfl (es_cons lx (es_cons ly (es_cons (e := .int 8) (x := .int ((8 : Nat) : Int)) rfl es_nil)))) (meets Q (n := n + 2) (k := 8) h1 hx hy (by omega) (by omega) (by decide))
  rw [evS, ev_lst (es_cons k1 (es_cons k2 es_nil)) (by show 2 ≤ cap; decide)]
  rfl
theorem st8 (h1 : OkMg 5 one) (hx : x.length = 5) (hs : x.sum ≤ 15) (hy : y.length = 5) (hs2 : y.sum ≤ 10) : evT G (D0 (n + 8)) (.not (.val (.call 60 (.cons (.pl 9) (.cons (.lst (.cons (.call 22 (.cons (.pl 6) (.cons (.call 65 (.cons (.pl 5) (.cons (.pl 1) .nil))) .nil))) (.cons (.call 23 (.cons (.pl 2) (.cons (.pl 4) (.cons (.pl 5) (.cons (.int 8) .nil))))) .nil))) .nil))))) (R s0 (.d (.dict (kvQ qs))) (.d (mD P0 one)) s3 (.d (nm P0 x)) (.d (nm P0 y)) (.d (mD qs one)) s7 s8 (.d (.list (got2 qs one x y))) s10 s11 s12) =
      some (false, R s0 (.d (.dict (kvQ qs))) (.d (mD P0 one)) s3 (.d (nm P0 x)) (.d (nm P0 y)) (.d (mD qs one)) s7 s8 (.d (.list (got2 qs one x y))) s10 s11 s12) := by
  refine same_t (d := .list (got2 qs one x y)) rfl ?_ (sam_got2 (n := n + 4) h1.1)
  have ly := ev_led Q (n := n + 6) (E0 := .pl 5) (ρ := R s0 (.d (.dict (kvQ qs))) (.d (mD P0 one)) s3 (.d (nm P0 x)) (.d (nm P0 y)) (.d (mD qs one)) s7 s8 (.d (.list (got2 qs one x y))) s10 s11 s12) hy (by omega) rfl rfl
  have k1 := ev_call (n := n + 8) (f := 22) (ρ := R s0 (.d (.dict (kvQ qs))) (.d (mD P0 one)) s3 (.d (nm P0 x)) (.d (nm P0 y)) (.d (mD qs one)) s7 s8 (.d (.list (got2 qs one x y))) s10 s11 s12) (es_cons (e := .pl 6) (x := mD qs one) rfl (es_cons ly es_nil)) (ahead_of Q (n := n + 2) h1.m hy (by omega))
  have k2 := ev_call (n := n + 8) (f := 23) (ρ := R s0 (.d (.dict (kvQ qs))) (.d (mD P0 one)) s3 (.d (nm P0 x)) (.d (nm P0 y)) (.d (mD qs one)) s7 s8 (.d (.list (got2 qs one x y))) s10 s11 s12) (es_cons (e := .pl 2) (x := mD P0 one) rfl (es_cons (e := .pl 4) (x := nm P0 x) rfl (es_cons (e := .pl 5) (x := nm P0 y) rfl (es_cons (e := .int 8) (x := .int ((8 : Nat) : Int)) rfl es_nil)))) (meets pr0 (n := n + 2) (k := 8) h1 hx hy (by omega) (by omega) (by decide))
  exact ev_lst (es_cons k1 (es_cons k2 es_nil)) (by show 2 ≤ cap; decide)
theorem st9 (h1 : OkM one) {s4 s5 : SV} : evS 3000 G (D0 (n + 8)) (O0 (n + 8)) (.set 10 (.blt .tuple (.cons (.comp (.tp [13, 14]) (.sq (.call 30 (.cons (.pl 2) .nil))) .yes (.tup (.cons (.call 65 (.cons (.pl 13) (.cons (.pl 1) .nil))) (.cons (.call 65 (.cons (.pl 14) (.cons (.pl 1) .nil))) .nil)))) .nil))) (R s0 (.d (.dict (kvQ qs))) (.d (mD P0 one)) s3 s4 s5 s6 s7 s8 s9 .un s11 s12) =
      some (.nx (R s0 (.d (.dict (kvQ qs))) (.d (mD P0 one)) s3 s4 s5 s6 s7 s8 s9 (.d (mD qs (les one))) s11 s12)) := by
  have c := ev_call (n := n + 8) (f := 30) (ρ := R s0 (.d (.dict (kvQ qs))) (.d (mD P0 one)) s3 s4 s5 s6 s7 s8 s9 .un s11 s12) (es_cons (e := .pl 2) (x := mD P0 one) rfl es_nil) (lessened pr0 (n := n + 2) h1)
  have hi : evI G (D0 (n + 8)) (.sq (.call 30 (.cons (.pl 2) .nil))) (R s0 (.d (.dict (kvQ qs))) (.d (mD P0 one)) s3 s4 s5 s6 s7 s8 s9 .un s11 s12) = some ((les one).map (frD P0), R s0 (.d (.dict (kvQ qs))) (.d (mD P0 one)) s3 s4 s5 s6 s7 s8 s9 .un s11 s12) := by
    rw [evI, c]
    rfl
  rw [evS, led_mill Q (n := n + 6) (les_ok h1) hi]
  rfl
end
end Ir
set_option Elab.async false
set_option linter.all false
set_option maxRecDepth 100000
set_option maxHeartbeats 4000000
namespace Ir
open PySem L2 Dn
theorem rng_nI {k : Nat} : rngD 0 k = (List.range k).map nI := by
  unfold rngD
  apply List.map_congr_left
  intro i _
  show PyData.int (0 + (i : Int)) = PyData.int (i : Int)
  rw [Int.zero_add]
theorem okm_app {one two : List Fr2} (h1 : OkM one) (h2 : OkM two) (l1 : one.length ≤ 6) (l2 : two.length ≤ 6) : OkM (one ++ two) := by
  refine ⟨by rw [List.length_append]; omega, fun f hf => ?_⟩
  rcases List.mem_append.mp hf with hf | hf
  · exact h1.2 f hf
  · exact h2.2 f hf
theorem add_mD {ps : List Nat} {one two : List Fr2} (l1 : one.length ≤ 6) (l2 : two.length ≤ 6) : binF .Add (mD ps one) (mD ps two) = some (mD ps (one ++ two)) := by
  show (if (one.map (frD ps)).length + (two.map (frD ps)).length ≤ cap then some (PyData.tuple (one.map (frD ps) ++ two.map (frD ps))) else none) = _
  rw [if_pos, ← List.map_append]
  · rfl
  · rw [List.length_map, List.length_map]
    unfold cap
    omega
noncomputable def swL (one : List Fr2) : List D := (List.range (one.length - 1)).map fun k => .bool (alkB one (swp one k))
noncomputable def got3 (qs : List Nat) (one two : List Fr2) : List D := [.bool (alkB one two), .bool (alkB one (one ++ two)), .tuple ((idl one).map fun k => .int (k : Nat)), mD qs (les one), .list (swL one)]
theorem sam_mD {n : Nat} {qs : List Nat} {m : List Fr2} (h : m.length ≤ 2000) : Sam (n + 3) (mD qs m) := sam_tuple (by rw [List.length_map]; unfold cap; omega) fun d hd => by
  obtain ⟨f, _, rfl⟩ := List.mem_map.mp hd
  exact sam_ints (l := [nm qs f.1, nm qs f.2]) (by show 2 ≤ cap; decide) fun d hd => by
    simp only [List.mem_cons, List.not_mem_nil, or_false] at hd
    rcases hd with rfl | rfl <;> exact ⟨_, rfl⟩
theorem idl_len {m : List Fr2} : (idl m).length ≤ m.length := by
  unfold idl
  rw [List.length_map]
  have := List.length_filter_le (fun p : Nat × Fr2 => !decide (pl m p.2.2 = (p.1 : Int))) (enF 0 m)
  rw [enF_len] at this
  exact this
theorem sam_got3 {n : Nat} {qs : List Nat} {one two : List Fr2} (h : OkM one) : Sam (n + 4) (.list (got3 qs one two)) := by
  have hl := h.1
  refine sam_5 sam_bool sam_bool (sam_ints ?_ fun d hd => ?_) (sam_mD (les_ok h).1) (sam_list ?_ fun d hd => ?_)
  · rw [List.length_map]
    have := idl_len (m := one)
    unfold cap
    omega
  · obtain ⟨k, _, rfl⟩ := List.mem_map.mp hd
    exact ⟨_, rfl⟩
  · unfold swL
    rw [List.length_map, List.length_range]
    unfold cap
    omega
  · obtain ⟨k, _, rfl⟩ := List.mem_map.mp hd
    exact sam_bool
section
variable {n : Nat} {ρ : Rho} {ps : List Nat} {m : List Fr2}
/-- the exchanges of a mill that lies in a slot -/
theorem swaps {j : Nat} {s0 s1 s2 s3 s4 s5 s6 s7 s8 s9 s10 s11 s12 : SV} {one : List Fr2} (P : Pr ps) (h1 : OkM one) (hl : one.length ≤ 6) (h0 : 1 ≤ one.length) (g2 : s2 = .d (mD P0 one))
    (gj : ∀ y, evE G (D0 (n + 8)) (.pl j) [s0, s1, s2, s3, s4, s5, s6, s7, s8, s9, s10, s11, s12, .un, .un, .un, y, .un] = some (.p (mD ps one), [s0, s1, s2, s3, s4, s5, s6, s7, s8, s9, s10, s11, s12, .un, .un, .un, y, .un])) :
    evE G (D0 (n + 8)) (.comp (.nm 16) (.rng1 (.bin .Sub (.blt .len (.cons (.pl 2) .nil)) (.int 1))) .yes (.call 32 (.cons (.pl j) (.cons (.pl 16) .nil)))) (R s0 s1 s2 s3 s4 s5 s6 s7 s8 s9 s10 s11 s12) = some (.p (.list (swL one)), R s0 s1 s2 s3 s4 s5 s6 s7 s8 s9 s10 s11 s12) := by
  subst g2
  have ln : evE G (D0 (n + 8)) (.blt .len (.cons (.pl 2) .nil)) (R s0 s1 (.d (mD P0 one)) s3 s4 s5 s6 s7 s8 s9 s10 s11 s12) = some (.p (.int (one.length : Nat)), R s0 s1 (.d (mD P0 one)) s3 s4 s5 s6 s7 s8 s9 s10 s11 s12) :=
    ev_blt1 (x := .p (mD P0 one)) rfl (len_m pr0)
  have sb : binF .Sub (.int (one.length : Nat)) (.int 1) = some (.int ((one.length : Int) - 1)) := rfl
  have hi : evI G (D0 (n + 8)) (.rng1 (.bin .Sub (.blt .len (.cons (.pl 2) .nil)) (.int 1))) (R s0 s1 (.d (mD P0 one)) s3 s4 s5 s6 s7 s8 s9 s10 s11 s12) = some ((List.range (one.length - 1)).map nI, R s0 s1 (.d (mD P0 one)) s3 s4 s5 s6 s7 s8 s9 s10 s11 s12) := by
    rw [ei_rng1 (ev_bin (y := .p (.int 1)) ln rfl (by rw [rdV_p, rdV_p]; exact sb)) (by omega) (by omega), ← rng_nI]
    rw [show ((one.length : Int) - 1).toNat = one.length - 1 by omega]
  have key := ev_comp (G' := G) (Φ := D0 (n + 8)) (tg := .nm 16) (c := .yes) (e := .call 32 (.cons (.pl j) (.cons (.pl 16) .nil)))
    (r := fun k : Nat => some (PyData.bool (alkB one (swp one k)))) hi rfl (fun k hk => by
      have hk' := List.mem_range.mp hk
      have e1 : one[k]? = some one[k] := List.getElem?_eq_getElem (by omega)
      have e2 : one[k + 1]? = some one[k + 1] := List.getElem?_eq_getElem (by omega)
      have cs := can_swap P (n := n + 1) (k := k) h1 e1 e2
      have ag : asg (.nm 16) (nI k) (unS (R s0 s1 (.d (mD P0 one)) s3 s4 s5 s6 s7 s8 s9 s10 s11 s12) (Tg.nm 16).sl) = some [s0, s1, .d (mD P0 one), s3, s4, s5, s6, s7, s8, s9, s10, s11, s12, .un, .un, .un, .d (nI k), .un] := rfl
      have cl := ev_call (n := n + 8) (f := 32) (es_cons (gj (.d (nI k))) (es_cons (e := .pl 16) (x := nI k) rfl es_nil)) cs
      unfold cmpF1
      rw [ag]
      dsimp only
      rw [evT]
      dsimp only
      rw [cl]
      rfl) (by rw [List.length_range]; unfold cap; omega)
  rw [filterMap_all] at key
  exact key
end
section
variable {qs : List Nat} (Q : Pr qs) {n : Nat} {s0 s1 s4 s5 s8 s11 s12 : SV} {one two : List Fr2}
include Q
theorem st10 (h1 : OkM one) (h2 : OkM two) (l0 : 1 ≤ one.length) (l1 : one.length ≤ 6) (l2 : two.length ≤ 6) {g : D} {s10 : SV} : evS 3000 G (D0 (n + 8)) (O0 (n + 8)) (.set 9 (.lst (.cons (.call 28 (.cons (.pl 6) (.cons (.pl 7) .nil))) (.cons (.call 28 (.cons (.pl 6) (.cons (.bin .Add (.pl 6) (.pl 7)) .nil))) (.cons (.call 29 (.cons (.pl 6) .nil)) (.cons (.call 30 (.cons (.pl 6) .nil)) (.cons (.comp (.nm 16) (.rng1 (.bin .Sub (.blt .len (.cons (.pl 2) .nil)) (.int 1))) .yes (.call 32 (.cons (.pl 6) (.cons (.pl 16) .nil)))) .nil))))))) (R s0 s1 (.d (mD P0 one)) (.d (mD P0 two)) s4 s5 (.d (mD qs one)) (.d (mD qs two)) s8 (.d g) s10 s11 s12) =
      some (.nx (R s0 s1 (.d (mD P0 one)) (.d (mD P0 two)) s4 s5 (.d (mD qs one)) (.d (mD qs two)) s8 (.d (.list (got3 qs one two))) s10 s11 s12)) := by
  have k5 := swaps (n := n) (j := 6) (s0 := s0) (s1 := s1) (s2 := .d (mD P0 one)) (s3 := .d (mD P0 two)) (s4 := s4) (s5 := s5) (s6 := .d (mD qs one)) (s7 := .d (mD qs two)) (s8 := s8) (s9 := .d g) (s10 := s10) (s11 := s11) (s12 := s12) Q h1 l1 l0 rfl (fun _ => rfl)
  generalize hρ : R s0 s1 (.d (mD P0 one)) (.d (mD P0 two)) s4 s5 (.d (mD qs one)) (.d (mD qs two)) s8 (.d g) s10 s11 s12 = ρ at *
  have g6 : evE G (D0 (n + 8)) (.pl 6) ρ = some (.p (mD qs one), ρ) := by rw [← hρ]; rfl
  have g7 : evE G (D0 (n + 8)) (.pl 7) ρ = some (.p (mD qs two), ρ) := by rw [← hρ]; rfl
  have ad := ev_bin g6 g7 (by rw [rdV_p, rdV_p]; exact add_mD (ps := qs) l1 l2)
  have k1 := ev_call (es_cons g6 (es_cons g7 es_nil)) (alike Q (n := n + 2) h1 h2)
  have k2 := ev_call (es_cons g6 (es_cons ad es_nil)) (alike Q (n := n + 2) h1 (okm_app h1 h2 l1 l2))
  have k3 := ev_call (es_cons g6 es_nil) (idle Q (n := n + 2) h1)
  have k4 := ev_call (es_cons g6 es_nil) (lessened Q (n := n + 2) h1)
  rw [evS, ev_lst (es_cons k1 (es_cons k2 (es_cons k3 (es_cons k4 (es_cons k5 es_nil))))) (by show 5 ≤ cap; decide), ← hρ]
  rfl
theorem st11 (h1 : OkM one) (h2 : OkM two) (l0 : 1 ≤ one.length) (l1 : one.length ≤ 6) (l2 : two.length ≤ 6) {s6 s7 : SV} : evT G (D0 (n + 8)) (.not (.val (.call 60 (.cons (.pl 9) (.cons (.lst (.cons (.call 28 (.cons (.pl 2) (.cons (.pl 3) .nil))) (.cons (.call 28 (.cons (.pl 2) (.cons (.bin .Add (.pl 2) (.pl 3)) .nil))) (.cons (.call 29 (.cons (.pl 2) .nil)) (.cons (.pl 10) (.cons (.comp (.nm 16) (.rng1 (.bin .Sub (.blt .len (.cons (.pl 2) .nil)) (.int 1))) .yes (.call 32 (.cons (.pl 2) (.cons (.pl 16) .nil)))) .nil)))))) .nil))))) (R s0 s1 (.d (mD P0 one)) (.d (mD P0 two)) s4 s5 s6 s7 s8 (.d (.list (got3 qs one two))) (.d (mD qs (les one))) s11 s12) =
      some (false, R s0 s1 (.d (mD P0 one)) (.d (mD P0 two)) s4 s5 s6 s7 s8 (.d (.list (got3 qs one two))) (.d (mD qs (les one))) s11 s12) := by
  refine same_t (d := .list (got3 qs one two)) rfl ?_ (sam_got3 (n := n + 4) h1)
  have k5 := swaps (n := n) (j := 2) (s0 := s0) (s1 := s1) (s2 := .d (mD P0 one)) (s3 := .d (mD P0 two)) (s4 := s4) (s5 := s5) (s6 := s6) (s7 := s7) (s8 := s8) (s9 := .d (.list (got3 qs one two))) (s10 := .d (mD qs (les one))) (s11 := s11) (s12 := s12) pr0 h1 l1 l0 rfl (fun _ => rfl)
  generalize hρ : R s0 s1 (.d (mD P0 one)) (.d (mD P0 two)) s4 s5 s6 s7 s8 (.d (.list (got3 qs one two))) (.d (mD qs (les one))) s11 s12 = ρ at *
  have g2 : evE G (D0 (n + 8)) (.pl 2) ρ = some (.p (mD P0 one), ρ) := by rw [← hρ]; rfl
  have g3 : evE G (D0 (n + 8)) (.pl 3) ρ = some (.p (mD P0 two), ρ) := by rw [← hρ]; rfl
  have g10 : evE G (D0 (n + 8)) (.pl 10) ρ = some (.p (mD qs (les one)), ρ) := by rw [← hρ]; rfl
  have ad := ev_bin g2 g3 (by rw [rdV_p, rdV_p]; exact add_mD (ps := P0) l1 l2)
  have k1 := ev_call (es_cons g2 (es_cons g3 es_nil)) (alike pr0 (n := n + 2) h1 h2)
  have k2 := ev_call (es_cons g2 (es_cons ad es_nil)) (alike pr0 (n := n + 2) h1 (okm_app h1 h2 l1 l2))
  have k3 := ev_call (es_cons g2 es_nil) (idle pr0 (n := n + 2) h1)
  exact ev_lst (es_cons k1 (es_cons k2 (es_cons k3 (es_cons g10 (es_cons k5 es_nil))))) (by show 5 ≤ cap; decide)
theorem st12 (h1 : OkM one) {s3 s7 s9 : SV} : evT G (D0 (n + 8)) (.not (.val (.call 60 (.cons (.lst (.cons (.call 28 (.cons (.pl 2) (.cons (.call 30 (.cons (.pl 2) .nil)) .nil))) (.cons (.call 28 (.cons (.pl 6) (.cons (.pl 10) .nil))) (.cons (.call 29 (.cons (.pl 10) .nil)) .nil)))) (.cons (.lst (.cons (.bl true) (.cons (.bl true) (.cons (.tup .nil) .nil)))) .nil))))) (R s0 s1 (.d (mD P0 one)) s3 s4 s5 (.d (mD qs one)) s7 s8 s9 (.d (mD qs (les one))) s11 s12) =
      some (false, R s0 s1 (.d (mD P0 one)) s3 s4 s5 (.d (mD qs one)) s7 s8 s9 (.d (mD qs (les one))) s11 s12) := by
  generalize hρ : R s0 s1 (.d (mD P0 one)) s3 s4 s5 (.d (mD qs one)) s7 s8 s9 (.d (mD qs (les one))) s11 s12 = ρ
  have g2 : evE G (D0 (n + 8)) (.pl 2) ρ = some (.p (mD P0 one), ρ) := by rw [← hρ]; rfl
  have g6 : evE G (D0 (n + 8)) (.pl 6) ρ = some (.p (mD qs one), ρ) := by rw [← hρ]; rfl
  have g10 : evE G (D0 (n + 8)) (.pl 10) ρ = some (.p (mD qs (les one)), ρ) := by rw [← hρ]; rfl
  have hl := les_ok h1
  have k0 := ev_call (es_cons g2 es_nil) (lessened pr0 (n := n + 2) h1)
  have k1 := ev_call (es_cons g2 (es_cons k0 es_nil)) (alike pr0 (n := n + 2) h1 hl)
  have k2 := ev_call (es_cons g6 (es_cons g10 es_nil)) (alike Q (n := n + 2) h1 hl)
  have k3 := ev_call (es_cons g10 es_nil) (idle Q (n := n + 2) hl)
  rw [alk_les h1] at k1 k2
  rw [idl_les fun f hf => (h1.2 f hf).l2] at k3
  refine same_t (d := .list [.bool true, .bool true, .tuple []]) (ev_lst (es_cons k1 (es_cons k2 (es_cons k3 es_nil))) (by show 3 ≤ cap; decide)) ?_ (sam_3 (n := n + 7) (sam_bool (n := n + 6)) (sam_bool (n := n + 6)) (sam_ints (n := n + 5) (Nat.zero_le _) fun d hd => (nomatch hd)))
  have t0 : evE G (D0 (n + 8)) (.tup .nil) ρ = some (.p (.tuple []), ρ) := ev_tup (xs := []) es_nil (Nat.zero_le _)
  exact ev_lst (xs := [.bool true, .bool true, .tuple []]) (es_cons (by rw [evE]) (es_cons (by rw [evE]) (es_cons t0 es_nil))) (by show 3 ≤ cap; decide)
end
end Ir
set_option Elab.async false
set_option linter.all false
set_option maxRecDepth 100000
set_option maxHeartbeats 4000000
namespace Ir
open PySem L2 Dn
theorem ev_comp2 {n : Nat} {tg : Tg} {it : Dn.It} {c : Dn.T} {e : E} {ρ ρ1 ρ2 : Rho} {xs ds : List D} (h1 : evI G (D0 n) it ρ = some (xs, ρ1)) (h2 : tg.sl.any (isOwn ρ1) = false) (h3 : cmpL (cmpF1 tg (evT G (D0 n) c) (evE G (D0 n) e)) xs (unS ρ1 tg.sl) = some (ds, ρ2)) (h4 : ds.length ≤ cap) :
    evE G (D0 n) (.comp tg it c e) ρ = some (.p (.list ds), restS ρ1 ρ2 tg.sl) := by
  rw [evE, h1]
  dsimp only
  rw [if_neg (by rw [h2]; exact Bool.false_ne_true)]
  show (match cmpL (cmpF1 tg (evT G (D0 n) c) (evE G (D0 n) e)) xs (unS ρ1 tg.sl) with
    | some (ds, ρ6) => if ds.length ≤ cap then some (Vl.p (.list ds), restS ρ1 ρ6 tg.sl) else none
    | none => none) = _
  rw [h3]
  dsimp only
  rw [if_pos h4]
section
variable {n : Nat} {s1 s2 s3 s4 s5 s6 s7 s8 s9 s10 s12 : SV} {b : Int}
theorem weigh : ∀ {us : List Vec} {N : Nat} {a c : Int}, OkT N b c → N + us.length ≤ 900000 → ∃ (ws : List Nat) (a' c' : Int), ws.length = us.length ∧ (∀ w ∈ ws, w ≤ 1000) ∧ OkT (N + us.length) b c' ∧
    cmpL (cmpF1 (.nm 17) (evT G (D0 (n + 8)) .yes) (evE G (D0 (n + 8)) (.tup (.cons (.pl 17) (.cons (.bin .Add (.int 1) (.call 56 (.cons (.pl 0) (.cons (.int 9) .nil)))) .nil))))) (us.map (nm P0)) (R (tinS a b c) s1 s2 s3 s4 s5 s6 s7 s8 s9 s10 .un s12) =
      some ((us.zip ws).map (wtD P0), R (tinS a' b c') s1 s2 s3 s4 s5 s6 s7 s8 s9 s10 .un s12)
  | [], N, a, c, hT, _ => ⟨[], a, c, rfl, (fun _ h => (nomatch h)), hT, rfl⟩
  | u :: us, N, a, c, hT, hN => by
    have hN' : N + (us.length + 1) ≤ 900000 := hN
    obtain ⟨d, a1, c1, t1, t2, t3, t4⟩ := ev_take (n := n + 7) (a := a) (w := 9) (e := .int 9) (ρ := [tinS a b c, s1, s2, s3, s4, s5, s6, s7, s8, s9, s10, .un, s12, .un, .un, .un, .un, .d (nm P0 u)]) (ρ1 := [tinS a b c, s1, s2, s3, s4, s5, s6, s7, s8, s9, s10, .un, s12, .un, .un, .un, .un, .d (nm P0 u)]) hT (by omega) (by decide) (by decide) ⟨_, rfl⟩ rfl rfl
    obtain ⟨ws, a', c', k1, k2, k3, k4⟩ := weigh (us := us) (N := N + 1) (a := a1) (c := c1) t3 (by omega)
    refine ⟨(1 + d).toNat :: ws, a', c', congrArg (· + 1) k1, fun w hw => ?_, ?_, ?_⟩
    · rcases List.mem_cons.mp hw with rfl | hw
      · omega
      · exact k2 w hw
    · rw [List.length_cons, show N + (us.length + 1) = N + 1 + us.length by omega]
      exact k3
    · have wd : ((((1 + d).toNat : Nat) : Int)) = 1 + d := Int.toNat_of_nonneg (by omega)
      have t5 : evE G (D0 (n + 8)) (.call 56 (.cons (.pl 0) (.cons (.int 9) .nil))) [tinS a b c, s1, s2, s3, s4, s5, s6, s7, s8, s9, s10, .un, s12, .un, .un, .un, .un, .d (nm P0 u)] = some (.p (.int d), [tinS a1 b c1, s1, s2, s3, s4, s5, s6, s7, s8, s9, s10, .un, s12, .un, .un, .un, .un, .d (nm P0 u)]) := t4
      have ad := ev_bin (e := .int 1) (x := .p (.int 1)) (o := .Add) (z := .int (1 + d)) rfl t5 (by rw [rdV_p, rdV_p]; rfl)
      have tp := ev_tup (es_cons (e := .pl 17) (x := nm P0 u) (ρ := [tinS a b c, s1, s2, s3, s4, s5, s6, s7, s8, s9, s10, .un, s12, .un, .un, .un, .un, .d (nm P0 u)]) rfl (es_cons ad es_nil)) (by show 2 ≤ cap; decide)
      have ag : asg (.nm 17) (nm P0 u) (R (tinS a b c) s1 s2 s3 s4 s5 s6 s7 s8 s9 s10 .un s12) = some [tinS a b c, s1, s2, s3, s4, s5, s6, s7, s8, s9, s10, .un, s12, .un, .un, .un, .un, .d (nm P0 u)] := rfl
      have first : cmpF1 (.nm 17) (evT G (D0 (n + 8)) .yes) (evE G (D0 (n + 8)) (.tup (.cons (.pl 17) (.cons (.bin .Add (.int 1) (.call 56 (.cons (.pl 0) (.cons (.int 9) .nil)))) .nil)))) (nm P0 u) (R (tinS a b c) s1 s2 s3 s4 s5 s6 s7 s8 s9 s10 .un s12) = some (some (wtD P0 (u, (1 + d).toNat)), R (tinS a1 b c1) s1 s2 s3 s4 s5 s6 s7 s8 s9 s10 .un s12) := by
        unfold cmpF1
        rw [ag]
        dsimp only
        rw [evT]
        dsimp only
        rw [tp]
        unfold wtD
        rw [wd]
        rfl
      rw [List.map_cons]
      unfold cmpL
      rw [first]
      dsimp only
      rw [k4]
      rfl
theorem st13 {N : Nat} {a c : Int} (hT : OkT N b c) (hN : N ≤ 800000) : ∃ (ws : List Nat) (a' c' : Int), ws.length = 5 ∧ (∀ w ∈ ws, w ≤ 1000) ∧ OkT (N + 5) b c' ∧
    evS 3000 G (D0 (n + 8)) (O0 (n + 8)) (.set 11 (.blt .tuple (.cons (.comp (.nm 17) (.sq (.tup (.cons (.int 2) (.cons (.int 3) (.cons (.int 5) (.cons (.int 7) (.cons (.int 11) .nil))))))) .yes (.tup (.cons (.pl 17) (.cons (.bin .Add (.int 1) (.call 56 (.cons (.pl 0) (.cons (.int 9) .nil)))) .nil)))) .nil))) (R (tinS a b c) s1 s2 s3 s4 s5 s6 s7 s8 s9 s10 .un s12) =
      some (.nx (R (tinS a' b c') s1 s2 s3 s4 s5 s6 s7 s8 s9 s10 (.d (wD P0 (uns.zip ws))) s12)) := by
  obtain ⟨ws, a', c', k1, k2, k3, k4⟩ := weigh (n := n) (s1 := s1) (s2 := s2) (s3 := s3) (s4 := s4) (s5 := s5) (s6 := s6) (s7 := s7) (s8 := s8) (s9 := s9) (s10 := s10) (s12 := s12) (us := uns) (a := a) hT (by show N + 5 ≤ 900000; omega)
  refine ⟨ws, a', c', k1, k2, k3, ?_⟩
  have i5 : ∀ ρ : Rho, evEs G (D0 (n + 8)) (.cons (.int 2) (.cons (.int 3) (.cons (.int 5) (.cons (.int 7) (.cons (.int 11) .nil))))) ρ = some ([PyData.int 2, .int 3, .int 5, .int 7, .int 11].map Vl.p, ρ) := fun _ => by
    simp [evEs, evE]
  have ei : evI G (D0 (n + 8)) (.sq (.tup (.cons (.int 2) (.cons (.int 3) (.cons (.int 5) (.cons (.int 7) (.cons (.int 11) .nil))))))) (R (tinS a b c) s1 s2 s3 s4 s5 s6 s7 s8 s9 s10 .un s12) = some (uns.map (nm P0), R (tinS a b c) s1 s2 s3 s4 s5 s6 s7 s8 s9 s10 .un s12) := by
    rw [evI, ev_tup (i5 _) (by show 5 ≤ cap; decide)]
    rfl
  have key := ev_comp2 ei rfl k4 (by
    rw [List.length_map, List.length_zip, k1]
    show min 5 5 ≤ cap
    decide)
  rw [evS, ev_blt1 key (z := wD P0 (uns.zip ws)) rfl]
  rfl
end
section
variable {qs : List Nat} (Q : Pr qs) {n : Nat} {s0 s2 s3 s4 s5 s6 s7 s8 s9 s10 : SV} {one two : List Fr2} {x y : Vec} {f : Fr2} {ws : List Nat} {W : List Wt}
include Q
theorem st14 (hl : ws.length = 5) (hW : W.map (ahI qs) = sortP ((uns.zip ws).map (ahI qs))) : evS 3000 G (D0 (n + 8)) (O0 (n + 8)) (.set 12 (.blt .tuple (.cons (.blt .sorted (.cons (.comp (.tp [17, 15]) (.sq (.pl 11)) .yes (.tup (.cons (.dget (.pl 1) (.pl 17)) (.cons (.pl 15) .nil)))) .nil)) .nil))) (R s0 (.d (.dict (kvQ qs))) s2 s3 s4 s5 s6 s7 s8 s9 s10 (.d (wD P0 (uns.zip ws))) .un) =
      some (.nx (R s0 (.d (.dict (kvQ qs))) s2 s3 s4 s5 s6 s7 s8 s9 s10 (.d (wD P0 (uns.zip ws))) (.d (wD qs W)))) := by
  have ei : evI G (D0 (n + 8)) (.sq (.pl 11)) (R s0 (.d (.dict (kvQ qs))) s2 s3 s4 s5 s6 s7 s8 s9 s10 (.d (wD P0 (uns.zip ws))) .un) = some ((uns.zip ws).map (wtD P0), R s0 (.d (.dict (kvQ qs))) s2 s3 s4 s5 s6 s7 s8 s9 s10 (.d (wD P0 (uns.zip ws))) .un) := rfl
  have key := ev_comp (G' := G) (Φ := D0 (n + 8)) (tg := .tp [17, 15]) (c := .yes) (e := .tup (.cons (.dget (.pl 1) (.pl 17)) (.cons (.pl 15) .nil)))
    (r := fun p : Wt => some (pD (ahI qs p))) ei rfl (fun p hp => by
      have hu := (List.of_mem_zip hp).1
      have lk : lookD (kvQ qs) (.inl ((Vx.v P0 p.1 : Nat) : Int)) = some (nm qs p.1) := by
        obtain ⟨k0, k1, k2, k3, k4⟩ := look_u Q
        simp only [uns, List.mem_cons, List.not_mem_nil, or_false] at hu
        rcases hu with e | e | e | e | e <;> rw [e] <;> assumption
      have ag : asg (.tp [17, 15]) (wtD P0 p) (unS (R s0 (.d (.dict (kvQ qs))) s2 s3 s4 s5 s6 s7 s8 s9 s10 (.d (wD P0 (uns.zip ws))) .un) (Tg.tp [17, 15]).sl) = some [s0, .d (.dict (kvQ qs)), s2, s3, s4, s5, s6, s7, s8, s9, s10, .d (wD P0 (uns.zip ws)), .un, .un, .un, .d (.int (p.2 : Nat)), .un, .d (nm P0 p.1)] := rfl
      have ky : keyOf (nm P0 p.1) = some (.inl ((Vx.v P0 p.1 : Nat) : Int)) := rfl
      have dg : evE G (D0 (n + 8)) (.dget (.pl 1) (.pl 17)) [s0, .d (.dict (kvQ qs)), s2, s3, s4, s5, s6, s7, s8, s9, s10, .d (wD P0 (uns.zip ws)), .un, .un, .un, .d (.int (p.2 : Nat)), .un, .d (nm P0 p.1)] = some (.p (nm qs p.1), [s0, .d (.dict (kvQ qs)), s2, s3, s4, s5, s6, s7, s8, s9, s10, .d (wD P0 (uns.zip ws)), .un, .un, .un, .d (.int (p.2 : Nat)), .un, .d (nm P0 p.1)]) := by
        simp only [evE, List.getElem?_cons_zero, List.getElem?_cons_succ, rdV_p, ky, lk]
      have tp := ev_tup (es_cons dg (es_cons (e := .pl 15) (x := .int (p.2 : Nat)) rfl es_nil)) (by show 2 ≤ cap; decide)
      unfold cmpF1
      rw [ag]
      dsimp only
      rw [evT]
      dsimp only
      rw [tp]
      rfl) (by
        rw [List.length_zip, hl]
        show min 5 5 ≤ cap
        decide)
  rw [filterMap_all] at key
  have so : bltF .sorted [.list ((uns.zip ws).map fun p => pD (ahI qs p))] = some (.list ((W.map (ahI qs)).map pD)) := by
    have e1 : ((uns.zip ws).map fun p => pD (ahI qs p)) = ((uns.zip ws).map (ahI qs)).map pD := by
      rw [List.map_map]
      rfl
    rw [e1]
    show (pairsD (((uns.zip ws).map (ahI qs)).map pD)).map (fun ps => PyData.list ((sortP ps).map pD)) = _
    rw [pairs_of, hW]
    rfl
  have k1 := ev_blt1 key (b := .sorted) (z := .list ((W.map (ahI qs)).map pD)) (by rw [rdV_p]; exact so)
  rw [evS, ev_blt1 k1 (b := .tuple) (z := wD qs W) (by rw [rdV_p, wt_ah]; rfl)]
  rfl
noncomputable def got4 (one two : List Fr2) (x y : Vec) (f : Fr2) (W : List Wt) : List D := [.int (wsum W x : Nat), .bool (one.all fun f => decide (wsum W f.1 < wsum W f.2)), .bool (alkB one two), .bool (decide (pl one f.2 < ((one.length - 1 : Nat) : Int))), .bool (decide (ahd one y = []))]
theorem got4_perm {W1 W2 : List Wt} (h : W1.Perm W2) : got4 one two x y f W1 = got4 one two x y f W2 := by
  have e : wsum W1 = wsum W2 := funext fun e => wsum_perm h
  unfold got4
  rw [e]
theorem sam_got4 : Sam (n + 2) (.list (got4 one two x y f W)) := sam_5 sam_int sam_bool sam_bool sam_bool sam_bool
/-- weights, falls and claims of a mill in whatever primes -/
theorem claims {ps : List Nat} (P : Pr ps) {ρ : Rho} {jw jm jn : Nat} {ex ey : E} (h1 : OkM one) (h2 : OkM two) (l0 : 1 ≤ one.length) (hf : one[one.length - 1]? = some f) (hx : x.length = 5) (hs : x.sum ≤ 15) (hy : y.length = 5) (hs2 : y.sum ≤ 10) (hW : Wts ps W)
    (gw : evE G (D0 (n + 8)) (.pl jw) ρ = some (.p (wD ps W), ρ)) (gm : evE G (D0 (n + 8)) (.pl jm) ρ = some (.p (mD ps one), ρ)) (gn : evE G (D0 (n + 8)) (.pl jn) ρ = some (.p (mD ps two), ρ)) (gx : evE G (D0 (n + 8)) ex ρ = some (.p (nm ps x), ρ)) (gy : evE G (D0 (n + 8)) ey ρ = some (.p (nm ps y), ρ)) :
    evE G (D0 (n + 8)) (.lst (.cons (.call 40 (.cons (.pl jw) (.cons ex .nil))) (.cons (.call 41 (.cons (.pl jm) (.cons (.pl jw) .nil))) (.cons (.call 53 (.cons (.tup (.cons (.str "alike") (.cons (.pl jm) (.cons (.pl jn) .nil)))) .nil)) (.cons (.call 53 (.cons (.tup (.cons (.str "idle") (.cons (.pl jm) (.cons (.bin .Sub (.blt .len (.cons (.pl jm) .nil)) (.int 1)) .nil)))) .nil)) (.cons (.call 53 (.cons (.tup (.cons (.str "first") (.cons (.pl jm) (.cons ey .nil)))) .nil)) .nil)))))) ρ = some (.p (.list (got4 one two x y f W)), ρ) := by
  have h3 : 3 ≤ cap := by decide
  have sA : evE G (D0 (n + 8)) (.str "alike") ρ = some (.p (.str alS), ρ) := by rw [evE]; rfl
  have sI : evE G (D0 (n + 8)) (.str "idle") ρ = some (.p (.str idS), ρ) := by rw [evE]; rfl
  have sF : evE G (D0 (n + 8)) (.str "first") ρ = some (.p (.str fiS), ρ) := by rw [evE]; rfl
  have k1 := ev_call (es_cons gw (es_cons gx es_nil)) (weight_of P (n := n + 2) hW hx (by omega))
  have k2 := ev_call (es_cons gm (es_cons gw es_nil)) (is_fall P (n := n + 2) h1 hW)
  have t3 := ev_tup (es_cons sA (es_cons gm (es_cons gn es_nil))) h3
  have k3 := ev_call (es_cons t3 es_nil) (holds_alike P (n := n + 1) h1 h2)
  have ln : evE G (D0 (n + 8)) (.blt .len (.cons (.pl jm) .nil)) ρ = some (.p (.int (one.length : Nat)), ρ) := ev_blt1 gm (by rw [rdV_p]; exact len_m P)
  have i1 : evE G (D0 (n + 8)) (.int 1) ρ = some (.p (.int 1), ρ) := by rw [evE]
  have sb : binF .Sub (.int (one.length : Nat)) (.int 1) = some (.int ((one.length - 1 : Nat) : Int)) := by
    show some (PyData.int ((one.length : Int) - 1)) = _
    rw [show (one.length : Int) - 1 = ((one.length - 1 : Nat) : Int) by omega]
  have lk := ev_bin ln i1 (by rw [rdV_p, rdV_p]; exact sb)
  have t4 := ev_tup (es_cons sI (es_cons gm (es_cons lk es_nil))) h3
  have k4 := ev_call (es_cons t4 es_nil) (holds_idle P (n := n + 1) h1 hf)
  have t5 := ev_tup (es_cons sF (es_cons gm (es_cons gy es_nil))) h3
  have k5 := ev_call (es_cons t5 es_nil) (holds_first P (n := n + 1) h1 hy (by omega)).1
  exact ev_lst (es_cons k1 (es_cons k2 (es_cons k3 (es_cons k4 (es_cons k5 es_nil))))) (by show 5 ≤ cap; decide)
end
end Ir
set_option Elab.async false
set_option linter.all false
set_option maxRecDepth 100000
set_option maxHeartbeats 4000000
namespace Ir
open PySem L2 Dn
/-- whether a stretch goes on -/
theorem stretch_t {n : Nat} {qs : List Nat} (Q : Pr qs) {s0 s3 s7 s8 s9 s10 s11 s12 : SV} {one : List Fr2} {x : Vec} {p q : Nat} (h1 : OkMg 5 one) (hx : x.length = 5) (hs : x.sum ≤ 15) (hp : p ≤ 5) (hq : 1 ≤ q) (hq2 : q ≤ 6) {s5 : SV} :
    evT G (D0 (n + 8)) (.not (.val (.call 60 (.cons (.call 42 (.cons (.pl 6) (.cons (.call 65 (.cons (.pl 4) (.cons (.pl 1) .nil))) (.cons (.pl 13) (.cons (.pl 14) .nil))))) (.cons (.call 42 (.cons (.pl 2) (.cons (.pl 4) (.cons (.pl 13) (.cons (.pl 14) .nil))))) .nil))))) [s0, .d (.dict (kvQ qs)), .d (mD P0 one), s3, .d (nm P0 x), s5, .d (mD qs one), s7, s8, s9, s10, s11, s12, .d (.int (p : Nat)), .d (.int (q : Nat)), .un, .un, .un] =
      some (false, [s0, .d (.dict (kvQ qs)), .d (mD P0 one), s3, .d (nm P0 x), s5, .d (mD qs one), s7, s8, s9, s10, s11, s12, .d (.int (p : Nat)), .d (.int (q : Nat)), .un, .un, .un]) := by
  generalize hρ : [s0, .d (.dict (kvQ qs)), .d (mD P0 one), s3, .d (nm P0 x), s5, .d (mD qs one), s7, s8, s9, s10, s11, s12, .d (.int (p : Nat)), .d (.int (q : Nat)), .un, .un, .un] = ρ
  have g1 : ρ[1]? = some (.d (.dict (kvQ qs))) := by rw [← hρ]; rfl
  have g2 : evE G (D0 (n + 8)) (.pl 2) ρ = some (.p (mD P0 one), ρ) := by rw [← hρ]; rfl
  have g4 : evE G (D0 (n + 8)) (.pl 4) ρ = some (.p (nm P0 x), ρ) := by rw [← hρ]; rfl
  have g6 : evE G (D0 (n + 8)) (.pl 6) ρ = some (.p (mD qs one), ρ) := by rw [← hρ]; rfl
  have g13 : evE G (D0 (n + 8)) (.pl 13) ρ = some (.p (.int (p : Nat)), ρ) := by rw [← hρ]; rfl
  have g14 : evE G (D0 (n + 8)) (.pl 14) ρ = some (.p (.int (q : Nat)), ρ) := by rw [← hρ]; rfl
  have hb : x.sum + (p + q) * 5 ≤ 400 := by omega
  have lx := ev_led Q (n := n + 6) (ρ := ρ) hx (by omega) g1 g4
  have k1 := ev_call (es_cons g6 (es_cons lx (es_cons g13 (es_cons g14 es_nil)))) (is_stretch Q (n := n + 2) h1 hx hb (by omega) hq (by omega))
  have k2 := ev_call (es_cons g2 (es_cons g4 (es_cons g13 (es_cons g14 es_nil)))) (is_stretch pr0 (n := n + 2) h1 hx hb (by omega) hq (by omega))
  exact same_t k1 k2 (sam_bool (n := n + 7))
theorem law_right {n N : Nat} {a b c : Int} (hT : OkT N b c) (hN : N ≤ 700000) : ∃ (a' c' : Int), OkT (N + 200) b c' ∧ D0 (n + 9) 68 [tinS a b c] = some (.bool true, [tinS a' b c']) := by
  obtain ⟨qs, a1, c1, hq, t1, q1⟩ := st1 (n := n) (a := a) hT (by omega)
  have Q := pr_perm hq
  obtain ⟨one, two, x, y, a2, c2, o1, o2, o3, w1, w2, x1, x2, y1, y2, t2, q2⟩ := st2 (n := n) (a := a1) (nd := .d (.dict (kvQ qs))) t1 (by omega)
  have q3 := st3 Q (n := n) (s0 := tinS a2 b c2) (s4 := .d (nm P0 x)) (s5 := .d (nm P0 y)) (s8 := .un) (s9 := .un) (s10 := .un) (s11 := .un) (s12 := .un) o1.m w1.m
  have q4 := st4 Q (n := n) (s0 := tinS a2 b c2) (s1 := .d (.dict (kvQ qs))) (s3 := .d (mD P0 two)) (s5 := .d (nm P0 y)) (s6 := .d (mD qs one)) (s7 := .d (mD qs two)) (s9 := .un) (s10 := .un) (s11 := .un) (s12 := .un) o1 x1 x2
  have q5 := st5 Q (n := n) (s0 := tinS a2 b c2) (s3 := .d (mD P0 two)) (s7 := .d (mD qs two)) (s8 := .d (.list ((x :: wk one 12 x).map (nm P0)))) (s10 := .un) (s11 := .un) (s12 := .un) o1 x1 x2 y1 y2
  have q6 := st6 Q (n := n) (s0 := tinS a2 b c2) (s3 := .d (mD P0 two)) (s6 := .d (mD qs one)) (s7 := .d (mD qs two)) (s10 := .un) (s11 := .un) (s12 := .un) o1 x1 x2 y1 y2
  have q7 := st7 Q (n := n) (s0 := tinS a2 b c2) (s3 := .d (mD P0 two)) (s7 := .d (mD qs two)) (s8 := .d (.list ((x :: wk one 12 x).map (nm P0)))) (s10 := .un) (s11 := .un) (s12 := .un) (g := .list (got1 qs one x y)) o1 x1 x2 y1 y2
  have q8 := st8 Q (n := n) (s0 := tinS a2 b c2) (s3 := .d (mD P0 two)) (s7 := .d (mD qs two)) (s8 := .d (.list ((x :: wk one 12 x).map (nm P0)))) (s10 := .un) (s11 := .un) (s12 := .un) o1 x1 x2 y1 y2
  have q9 := st9 Q (n := n) (s0 := tinS a2 b c2) (s3 := .d (mD P0 two)) (s4 := .d (nm P0 x)) (s5 := .d (nm P0 y)) (s6 := .d (mD qs one)) (s7 := .d (mD qs two)) (s8 := .d (.list ((x :: wk one 12 x).map (nm P0)))) (s9 := .d (.list (got2 qs one x y))) (s11 := .un) (s12 := .un) o1.m
  have q10 := st10 Q (n := n) (s0 := tinS a2 b c2) (s1 := .d (.dict (kvQ qs))) (s4 := .d (nm P0 x)) (s5 := .d (nm P0 y)) (s8 := .d (.list ((x :: wk one 12 x).map (nm P0)))) (g := .list (got2 qs one x y)) (s10 := .d (mD qs (les one))) (s11 := .un) (s12 := .un) o1.m w1.m o2 o3 w2
  have q11 := st11 Q (n := n) (s0 := tinS a2 b c2) (s1 := .d (.dict (kvQ qs))) (s4 := .d (nm P0 x)) (s5 := .d (nm P0 y)) (s6 := .d (mD qs one)) (s7 := .d (mD qs two)) (s8 := .d (.list ((x :: wk one 12 x).map (nm P0)))) (s11 := .un) (s12 := .un) o1.m w1.m o2 o3 w2
  have q12 := st12 Q (n := n) (s0 := tinS a2 b c2) (s1 := .d (.dict (kvQ qs))) (s3 := .d (mD P0 two)) (s4 := .d (nm P0 x)) (s5 := .d (nm P0 y)) (s7 := .d (mD qs two)) (s8 := .d (.list ((x :: wk one 12 x).map (nm P0)))) (s9 := .d (.list (got3 qs one two))) (s11 := .un) (s12 := .un) o1.m
  obtain ⟨ws, a3, c3, v1, v2, t3, q13⟩ := st13 (n := n) (a := a2) (s1 := .d (.dict (kvQ qs))) (s2 := .d (mD P0 one)) (s3 := .d (mD P0 two)) (s4 := .d (nm P0 x)) (s5 := .d (nm P0 y)) (s6 := .d (mD qs one)) (s7 := .d (mD qs two)) (s8 := .d (.list ((x :: wk one 12 x).map (nm P0)))) (s9 := .d (.list (got3 qs one two))) (s10 := .d (mD qs (les one))) (s12 := .un) t2 (by omega)
  obtain ⟨W, z1, z2, z3⟩ := wts_new hq v1 v2
  have z0 := wts_own v1 v2
  have q14 := st14 Q (n := n) (s0 := tinS a3 b c3) (s2 := .d (mD P0 one)) (s3 := .d (mD P0 two)) (s4 := .d (nm P0 x)) (s5 := .d (nm P0 y)) (s6 := .d (mD qs one)) (s7 := .d (mD qs two)) (s8 := .d (.list ((x :: wk one 12 x).map (nm P0)))) (s9 := .d (.list (got3 qs one two))) (s10 := .d (mD qs (les one))) v1 z3
  have hf : one[one.length - 1]? = some one[one.length - 1] := List.getElem?_eq_getElem (by omega)
  generalize one[one.length - 1] = f at hf
  have lx9 := ev_led Q (n := n + 6) (E0 := .pl 4) (ρ := R (tinS a3 b c3) (.d (.dict (kvQ qs))) (.d (mD P0 one)) (.d (mD P0 two)) (.d (nm P0 x)) (.d (nm P0 y)) (.d (mD qs one)) (.d (mD qs two)) (.d (.list ((x :: wk one 12 x).map (nm P0)))) (.d (.list (got3 qs one two))) (.d (mD qs (les one))) (.d (wD P0 (uns.zip ws))) (.d (wD qs W))) x1 (by omega) rfl rfl
  have ly9 := ev_led Q (n := n + 6) (E0 := .pl 5) (ρ := R (tinS a3 b c3) (.d (.dict (kvQ qs))) (.d (mD P0 one)) (.d (mD P0 two)) (.d (nm P0 x)) (.d (nm P0 y)) (.d (mD qs one)) (.d (mD qs two)) (.d (.list ((x :: wk one 12 x).map (nm P0)))) (.d (.list (got3 qs one two))) (.d (mD qs (les one))) (.d (wD P0 (uns.zip ws))) (.d (wD qs W))) y1 (by omega) rfl rfl
  have e15 := claims Q (n := n) (jw := 12) (jm := 6) (jn := 7) Q o1.m w1.m o2 hf x1 x2 y1 y2 z2 rfl rfl rfl lx9 ly9
  have e16 := claims Q (n := n) (jw := 11) (jm := 2) (jn := 3) (ex := .pl 4) (ey := .pl 5) (ρ := R (tinS a3 b c3) (.d (.dict (kvQ qs))) (.d (mD P0 one)) (.d (mD P0 two)) (.d (nm P0 x)) (.d (nm P0 y)) (.d (mD qs one)) (.d (mD qs two)) (.d (.list ((x :: wk one 12 x).map (nm P0)))) (.d (.list (got4 one two x y f W))) (.d (mD qs (les one))) (.d (wD P0 (uns.zip ws))) (.d (wD qs W))) pr0 o1.m w1.m o2 hf x1 x2 y1 y2 z0 rfl rfl rfl rfl rfl
  rw [← got4_perm Q z1] at e16
  have q16 := same_t (n := n + 8) (E0 := .pl 9) (ρ := R (tinS a3 b c3) (.d (.dict (kvQ qs))) (.d (mD P0 one)) (.d (mD P0 two)) (.d (nm P0 x)) (.d (nm P0 y)) (.d (mD qs one)) (.d (mD qs two)) (.d (.list ((x :: wk one 12 x).map (nm P0)))) (.d (.list (got4 one two x y f W))) (.d (mD qs (les one))) (.d (wD P0 (uns.zip ws))) (.d (wD qs W))) (d := .list (got4 one two x y f W)) rfl e16 (sam_got4 Q (n := n + 6))
  obtain ⟨p, a4, c4, p1, p2, t4, q17⟩ := ev_take (n := n + 7) (a := a3) (w := 6) (e := .int 6) (ρ := R (tinS a3 b c3) (.d (.dict (kvQ qs))) (.d (mD P0 one)) (.d (mD P0 two)) (.d (nm P0 x)) (.d (nm P0 y)) (.d (mD qs one)) (.d (mD qs two)) (.d (.list ((x :: wk one 12 x).map (nm P0)))) (.d (.list (got4 one two x y f W))) (.d (mD qs (les one))) (.d (wD P0 (uns.zip ws))) (.d (wD qs W))) t3 (by omega) (by decide) (by decide) ⟨_, rfl⟩ rfl rfl
  obtain ⟨q, a5, c5, r1, r2, t5, q18⟩ := ev_take (n := n + 7) (a := a4) (w := 6) (e := .int 6) (ρ := R (tinS a4 b c4) (.d (.dict (kvQ qs))) (.d (mD P0 one)) (.d (mD P0 two)) (.d (nm P0 x)) (.d (nm P0 y)) (.d (mD qs one)) (.d (mD qs two)) (.d (.list ((x :: wk one 12 x).map (nm P0)))) (.d (.list (got4 one two x y f W))) (.d (mD qs (les one))) (.d (wD P0 (uns.zip ws))) (.d (wD qs W))) t4 (by omega) (by decide) (by decide) ⟨_, rfl⟩ rfl rfl
  have pn : ∃ k : Nat, p = (k : Int) ∧ k ≤ 5 := ⟨p.toNat, by omega, by omega⟩
  have qn : ∃ k : Nat, 1 + q = (k : Int) ∧ 1 ≤ k ∧ k ≤ 6 := ⟨(1 + q).toNat, by omega, by omega, by omega⟩
  obtain ⟨p', rfl, p3⟩ := pn
  obtain ⟨q', qe, q3a, q3b⟩ := qn
  have q17' : evS 3000 G (D0 (n + 8)) (O0 (n + 8)) (.par 13 14 (.e (.call 56 (.cons (.pl 0) (.cons (.int 6) .nil)))) (.e (.bin .Add (.int 1) (.call 56 (.cons (.pl 0) (.cons (.int 6) .nil)))))) (R (tinS a3 b c3) (.d (.dict (kvQ qs))) (.d (mD P0 one)) (.d (mD P0 two)) (.d (nm P0 x)) (.d (nm P0 y)) (.d (mD qs one)) (.d (mD qs two)) (.d (.list ((x :: wk one 12 x).map (nm P0)))) (.d (.list (got4 one two x y f W))) (.d (mD qs (les one))) (.d (wD P0 (uns.zip ws))) (.d (wD qs W))) =
      some (.nx [tinS a5 b c5, .d (.dict (kvQ qs)), .d (mD P0 one), .d (mD P0 two), .d (nm P0 x), .d (nm P0 y), .d (mD qs one), .d (mD qs two), .d (.list ((x :: wk one 12 x).map (nm P0))), .d (.list (got4 one two x y f W)), .d (mD qs (les one)), .d (wD P0 (uns.zip ws)), .d (wD qs W), .d (.int (p' : Nat)), .d (.int (q' : Nat)), .un, .un, .un]) := by
    have q17b : evE G (D0 (n + 8)) (.call 56 (.cons (.pl 0) (.cons (.int 6) .nil))) (R (tinS a3 b c3) (.d (.dict (kvQ qs))) (.d (mD P0 one)) (.d (mD P0 two)) (.d (nm P0 x)) (.d (nm P0 y)) (.d (mD qs one)) (.d (mD qs two)) (.d (.list ((x :: wk one 12 x).map (nm P0)))) (.d (.list (got4 one two x y f W))) (.d (mD qs (les one))) (.d (wD P0 (uns.zip ws))) (.d (wD qs W))) = some (.p (.int (p' : Nat)), R (tinS a4 b c4) (.d (.dict (kvQ qs))) (.d (mD P0 one)) (.d (mD P0 two)) (.d (nm P0 x)) (.d (nm P0 y)) (.d (mD qs one)) (.d (mD qs two)) (.d (.list ((x :: wk one 12 x).map (nm P0)))) (.d (.list (got4 one two x y f W))) (.d (mD qs (les one))) (.d (wD P0 (uns.zip ws))) (.d (wD qs W))) := q17
    have ad := ev_bin (e := .int 1) (x := .p (.int 1)) (o := .Add) (z := .int (1 + q)) (ρ := R (tinS a4 b c4) (.d (.dict (kvQ qs))) (.d (mD P0 one)) (.d (mD P0 two)) (.d (nm P0 x)) (.d (nm P0 y)) (.d (mD qs one)) (.d (mD qs two)) (.d (.list ((x :: wk one 12 x).map (nm P0)))) (.d (.list (got4 one two x y f W))) (.d (mD qs (les one))) (.d (wD P0 (uns.zip ws))) (.d (wD qs W))) rfl q18 (by rw [rdV_p, rdV_p]; rfl)
    rw [evS, evR, q17b]
    dsimp only
    rw [evR, ad, qe]
    rfl
  have q18' := stretch_t Q (n := n) (s0 := tinS a5 b c5) (s3 := .d (mD P0 two)) (s5 := .d (nm P0 y)) (s7 := .d (mD qs two)) (s8 := .d (.list ((x :: wk one 12 x).map (nm P0)))) (s9 := .d (.list (got4 one two x y f W))) (s10 := .d (mD qs (les one))) (s11 := .d (wD P0 (uns.zip ws))) (s12 := .d (wD qs W)) o1 x1 x2 p3 q3a q3b
  refine ⟨a5, c5, ⟨t5.1, t5.2.1, t5.2.2.1, by have := t5.2.2.2; omega⟩, ?_⟩
  rw [c68]
  unfold b68
  rw [ss_nx q1, ss_nx q2, ss_nx q3, ss_nx q4, ss_nx q5, ss_ifn q6, ss_nx q7, ss_ifn q8, ss_nx q9, ss_nx q10, ss_ifn q11, ss_ifn q12, ss_nx q13, ss_nx q14]
  rw [ss_set e15 rfl]
  rw [show List.set (R (tinS a3 b c3) (.d (.dict (kvQ qs))) (.d (mD P0 one)) (.d (mD P0 two)) (.d (nm P0 x)) (.d (nm P0 y)) (.d (mD qs one)) (.d (mD qs two)) (.d (.list ((x :: wk one 12 x).map (nm P0)))) (.d (.list (got3 qs one two))) (.d (mD qs (les one))) (.d (wD P0 (uns.zip ws))) (.d (wD qs W))) 9 (SV.d (.list (got4 one two x y f W))) = R (tinS a3 b c3) (.d (.dict (kvQ qs))) (.d (mD P0 one)) (.d (mD P0 two)) (.d (nm P0 x)) (.d (nm P0 y)) (.d (mD qs one)) (.d (mD qs two)) (.d (.list ((x :: wk one 12 x).map (nm P0)))) (.d (.list (got4 one two x y f W))) (.d (mD qs (les one))) (.d (wD P0 (uns.zip ws))) (.d (wD qs W)) from rfl]
  rw [ss_ifn q16, ss_nx q17', ss_ifn q18']
  -- the last claim
  generalize hρ : [tinS a5 b c5, .d (.dict (kvQ qs)), .d (mD P0 one), .d (mD P0 two), .d (nm P0 x), .d (nm P0 y), .d (mD qs one), .d (mD qs two), .d (.list ((x :: wk one 12 x).map (nm P0))), .d (.list (got4 one two x y f W)), .d (mD qs (les one)), .d (wD P0 (uns.zip ws)), .d (wD qs W), .d (.int (p' : Nat)), .d (.int (q' : Nat)), .un, .un, .un] = ρ
  have g1 : ρ[1]? = some (.d (.dict (kvQ qs))) := by rw [← hρ]; rfl
  have g2 : evE G (D0 (n + 8)) (.pl 2) ρ = some (.p (mD P0 one), ρ) := by rw [← hρ]; rfl
  have g5 : evE G (D0 (n + 8)) (.pl 5) ρ = some (.p (nm P0 y), ρ) := by rw [← hρ]; rfl
  have g6 : evE G (D0 (n + 8)) (.pl 6) ρ = some (.p (mD qs one), ρ) := by rw [← hρ]; rfl
  have sF : evE G (D0 (n + 8)) (.str "first") ρ = some (.p (.str fiS), ρ) := by rw [evE]; rfl
  have gt : ρ.take 1 = [tinS a5 b c5] := by rw [← hρ]; rfl
  have ly := ev_led Q (n := n + 6) (ρ := ρ) y1 (by omega) g1 g5
  have h3 : 3 ≤ cap := by decide
  have tA := ev_tup (es_cons sF (es_cons g2 (es_cons g5 es_nil))) h3
  have tB := ev_tup (es_cons sF (es_cons g6 (es_cons ly es_nil))) h3
  have hd := ev_call (es_cons tA es_nil) (holds_first pr0 (n := n + 1) o1.m y1 (by omega)).1
  have tt : evT G (D0 (n + 8)) (.val (.call 53 (.cons (.tup (.cons (.str "first") (.cons (.pl 2) (.cons (.pl 5) .nil)))) .nil))) ρ = some (decide (ahd one y = []), ρ) := by
    rw [evT, hd]
  by_cases ha : ahd one y = []
  · rw [decide_eq_true ha] at tt
    have rA := ev_call (es_cons tA es_nil) (reason_first pr0 (n := n + 1) o1.m y1 (by omega) ha)
    have rB := ev_call (es_cons tB es_nil) (reason_first Q (n := n + 1) o1.m y1 (by omega) ha)
    have sm : Sam (n + 8) (.tuple ((brs one y).map .int)) := sam_ints (n := n + 6) (by
      unfold brs
      rw [List.length_map, List.length_map, enF_len]
      unfold cap
      omega) fun d hd => by
        obtain ⟨i, _, rfl⟩ := List.mem_map.mp hd
        exact ⟨_, rfl⟩
    have fin : evE G (D0 (n + 8)) (.call 60 (.cons (.call 54 (.cons (.tup (.cons (.str "first") (.cons (.pl 6) (.cons (.call 65 (.cons (.pl 5) (.cons (.pl 1) .nil))) .nil)))) .nil)) (.cons (.call 54 (.cons (.tup (.cons (.str "first") (.cons (.pl 2) (.cons (.pl 5) .nil)))) .nil)) .nil))) ρ = some (.p (.bool true), ρ) :=
      ev_call (xs := [_, _]) (es_cons rB (es_cons rA es_nil)) sm
    rw [ss_ift tt (ss_ret fin)]
    show some (PyData.bool true, ρ.take 1) = _
    rw [gt]
  · rw [decide_eq_false ha] at tt
    rw [ss_ifn tt, ss_ret (d := .bool true) (ρ1 := ρ) (by rw [evE])]
    show some (PyData.bool true, ρ.take 1) = _
    rw [gt]
end Ir
set_option Elab.async false
set_option linter.all false
set_option maxRecDepth 100000
set_option maxHeartbeats 4000000
namespace Ir
open PySem L2 Dn
theorem log_le {x k : Nat} (h : x < 2 ^ k) : x.log2 ≤ k := by
  by_cases z : x = 0
  · rw [z]
    show Nat.log2 0 ≤ k
    rw [show Nat.log2 0 = 0 from by decide]
    exact Nat.zero_le k
  · exact Nat.le_of_lt ((Nat.log2_lt z).mpr h)
theorem mulB {x y : Int} {i j : Nat} (hx : x.natAbs < 2 ^ i) (hy : y.natAbs < 2 ^ j) (h : i + j < 134000000) : binF .Mult (.int x) (.int y) = some (.int (x * y)) := by
  have h1 := log_le hx
  have h2 := log_le hy
  show (if x.natAbs.log2 + y.natAbs.log2 < 134000000 then some (PyData.int (x * y)) else none) = _
  rw [if_pos (by omega)]
def sB : Ss := .cons (.set 5 (.bin .Mod (.blt .int (.cons (.pl 3) .nil)) (.pl 1))) (.cons (.sto 2 (.pl 5) (.bin .Add (.ix (.pl 2) (.pl 5)) (.bin .Mult (.pl 4) (.bin .Add (.pl 3) (.int 2))))) .nil)
theorem cells_loop {n k : Nat} (hk : k ≤ 2000000) {x0 : SV} : ∀ {ns : List Int} {j c : Nat} {s : Int} {s3 s4 s5 : SV}, (∀ z ∈ ns, z.natAbs < 2 ^ k) → j + ns.length ≤ 62 → s.natAbs ≤ c * 2 ^ k → No s3 → No s4 → No s5 →
    ∃ (s' : Int) (a b d : SV), s'.natAbs ≤ (c + 64 * ns.length) * 2 ^ k ∧ forL (asg (.tp [3, 4])) (fun ρ => evSs 3000 G (D0 n) (O0 n) sB ρ) (enmD (ns.map .int) j) [x0, .d (.int 1), .own false (.lst [.int s]), s3, s4, s5] = some (.nx [x0, .d (.int 1), .own false (.lst [.int s']), a, b, d])
  | [], j, c, s, s3, s4, s5, _, _, hs, _, _, _ => ⟨s, s3, s4, s5, hs, rfl⟩
  | z :: ns, j, c, s, s3, s4, s5, hz, hj, hs, h3, h4, h5 => by
    have hj' : j + (ns.length + 1) ≤ 62 := hj
    have h1 := hz z List.mem_cons_self
    have h2 : (((j : Int) + 2)).natAbs < 2 ^ 7 := by
      show _ < 128
      omega
    have ml := mulB h1 h2 (by omega)
    have ag : asg (.tp [3, 4]) (.tuple [.int j, .int z]) [x0, .d (.int 1), .own false (.lst [.int s]), s3, s4, s5] = some [x0, .d (.int 1), .own false (.lst [.int s]), .d (.int j), .d (.int z), s5] := by
      cases s3 <;> cases s4 <;> first | exact absurd rfl (h3 _ _) | exact absurd rfl (h4 _ _) | rfl
    have i5 : isRef [x0, .d (.int 1), .own false (.lst [.int s]), .d (.int j), .d (.int z), s5] 5 = false := by
      cases s5 <;> first | exact absurd rfl (h5 _ _) | rfl
    have md : binF .Mod (.int (j : Int)) (.int 1) = some (.int 0) := by
      show (if (0 : Int) < 1 then some (PyData.int ((j : Int) % 1)) else none) = _
      rw [if_pos (by decide), Int.emod_one]
    have ad : binF .Add (.int (j : Int)) (.int 2) = some (.int ((j : Int) + 2)) := rfl
    have ad2 : ∀ t : Int, binF .Add (.int s) (.int t) = some (.int (s + t)) := fun _ => rfl
    have bi : bltF .int [.int (j : Int)] = some (.int (j : Int)) := rfl
    have x2 : ixF (.list [.int s]) (.int 0) = some (.int s) := rfl
    have body : evSs 3000 G (D0 n) (O0 n) sB [x0, .d (.int 1), .own false (.lst [.int s]), .d (.int j), .d (.int z), s5] = some (.nx [x0, .d (.int 1), .own false (.lst [.int (s + z * ((j : Int) + 2))]), .d (.int j), .d (.int z), .d (.int 0)]) := by
      simp [sB, evSs, evS, evE, evEs, rdV_p, rdV, ovD, bi, md, i5, x2, ad, ml, ad2, isOwn, ixN]
    have nb : (s + z * ((j : Int) + 2)).natAbs ≤ (c + 64) * 2 ^ k := by
      have e1 : (z * ((j : Int) + 2)).natAbs = z.natAbs * (j + 2) := by
        rw [Int.natAbs_mul]
        congr 1
      have e2 := Int.natAbs_add_le s (z * ((j : Int) + 2))
      have e3 : z.natAbs * (j + 2) ≤ 2 ^ k * 64 := Nat.mul_le_mul (Nat.le_of_lt h1) (by omega)
      rw [Nat.add_mul]
      rw [e1] at e2
      have e4 : 64 * 2 ^ k = 2 ^ k * 64 := Nat.mul_comm _ _
      rw [e4]
      exact Nat.le_trans e2 (Nat.add_le_add hs e3)
    obtain ⟨s', a, b, d, g1, g2⟩ := cells_loop (n := n) hk (x0 := x0) (ns := ns) (j := j + 1) (c := c + 64) (s := s + z * ((j : Int) + 2)) (s3 := .d (.int j)) (s4 := .d (.int z)) (s5 := .d (.int 0)) (fun w hw => hz w (List.mem_cons_of_mem _ hw)) (by omega) nb no_d no_d no_d
    refine ⟨s', a, b, d, ?_, ?_⟩
    · rw [List.length_cons, show c + 64 * (ns.length + 1) = c + 64 + 64 * ns.length by omega]
      exact g1
    · show forL _ _ (.tuple [.int j, .int z] :: enmD (ns.map .int) (j + 1)) _ = _
      unfold forL
      rw [ag]
      dsimp only
      rw [body]
      exact g2
theorem cut_ints {ns : List Int} : cutD (ns.map PyData.int) (some 1) (some 63) = ((ns.drop 1).take 62).map .int ∨ ns = [] := by
  cases ns with
  | nil => exact .inr rfl
  | cons x r =>
    left
    unfold cutD
    have h1 : HT.sIx ((x :: r).map PyData.int).length 0 (some 1) = 1 := by
      rw [show (1 : Int) = ((1 : Nat) : Int) from rfl, HT.sIx_nat]
      rw [List.length_map, List.length_cons]
      omega
    have h2 : HT.sIx ((x :: r).map PyData.int).length ((x :: r).map PyData.int).length (some 63) = min 63 (r.length + 1) := by
      rw [show (63 : Int) = ((63 : Nat) : Int) from rfl, HT.sIx_nat]
      rw [List.length_map, List.length_cons]
    rw [h1, h2]
    show (r.map PyData.int).take (min 63 (r.length + 1) - 1) = (r.take 62).map .int
    rw [← List.map_take]
    congr 1
    rcases Nat.le_total 62 r.length with h | h
    · rw [show min 63 (r.length + 1) - 1 = 62 by omega]
    · rw [show min 63 (r.length + 1) - 1 = r.length by omega, List.take_length, List.take_of_length_le h]
theorem law_cells {n k : Nat} (hk : k ≤ 2000000) {ns : List Int} (hl : ns.length ≤ 63) (hb : ∀ z ∈ ns, z.natAbs < 2 ^ k) : ∃ (s : Int) (as : List SV), s.natAbs ≤ 4096 * 2 ^ k ∧ D0 (n + 1) 57 [.ro (ns.map .int), .d (.int 1)] = some (.list [.int s], .ro (ns.map .int) :: as) := by
  have pk : 1 ≤ 2 ^ k := Nat.one_le_two_pow
  have b57' : b57 = .cons (.setO 2 (.orF (.cpy (.scl 0 .no (.so (.pl 1)))) (.lst (.cons (.int 0) .nil)))) (.cons (.for (.tp [3, 4]) (.enm (.scl 0 (.so (.pl 1)) (.so (.int 63)))) sB) (.cons (.ret (.pl 2)) .nil)) := rfl
  have hc : 1 ≤ cap := by decide
  cases ns with
  | nil =>
    refine ⟨0, [.d (.int 1)], Nat.zero_le _, ?_⟩
    rw [c57, b57']
    rw [ss_nx (ρ1 := [.ro [], .d (.int 1), .own false (.lst [.int 0]), .un, .un, .un]) rfl]
    rfl
  | cons x r =>
    have hx := hb x List.mem_cons_self
    have hr : (r.take 62).length ≤ 62 := by rw [List.length_take]; omega
    obtain ⟨s', a, b, d, g1, g2⟩ := cells_loop (n := n) hk (x0 := .ro ((x :: r).map .int)) (ns := r.take 62) (j := 0) (c := 1) (s := x) (s3 := .un) (s4 := .un) (s5 := .un) (fun z hz => hb z (List.mem_cons_of_mem _ (List.mem_of_mem_take hz))) (by omega) (by rw [Nat.one_mul]; exact Nat.le_of_lt hx) no_un no_un no_un
    refine ⟨s', [.d (.int 1)], Nat.le_trans g1 (Nat.mul_le_mul_right _ (by omega)), ?_⟩
    have e1 : evS 3000 G (D0 n) (O0 n) (.setO 2 (.orF (.cpy (.scl 0 .no (.so (.pl 1)))) (.lst (.cons (.int 0) .nil)))) [.ro ((x :: r).map .int), .d (.int 1), .un, .un, .un, .un] = some (.nx [.ro ((x :: r).map .int), .d (.int 1), .own false (.lst [.int x]), .un, .un, .un]) := by
      have h1 : cutD ((x :: r).map PyData.int) none (some 1) = [.int x] := by
        rw [show (1 : Int) = ((1 : Nat) : Int) from rfl, cut_hi (by simp)]
        rfl
      simp only [List.map_cons] at h1 ⊢
      simp [evS, evF, evE, evEo, h1, rdV_p, seqD, isRef]
    have e2 : evI G (D0 n) (.enm (.scl 0 (.so (.pl 1)) (.so (.int 63)))) [.ro ((x :: r).map .int), .d (.int 1), .own false (.lst [.int x]), .un, .un, .un] = some (enmD ((r.take 62).map .int) 0, [.ro ((x :: r).map .int), .d (.int 1), .own false (.lst [.int x]), .un, .un, .un]) := by
      have h1 : cutD ((x :: r).map PyData.int) (some 1) (some 63) = (r.take 62).map .int := by
        rcases cut_ints (ns := x :: r) with h | h
        · exact h
        · cases h
      simp only [List.map_cons] at h1 ⊢
      simp [evI, evE, evEo, h1, seqD]
    rw [c57, b57', ss_nx e1, ss_for e2 g2]
    rfl
theorem box_rule {n : Nat} {x0 x1 : SV} : O0 (n + 1) 55 [x0, x1] = outO 2 (evSs 3000 G (D0 n) (O0 n) b55 [x0, x1, .un]) := call_O (f := ⟨2, 3, b55⟩) rfl rfl
theorem law_box {n k : Nat} (hk : k ≤ 2000000) {s : Int} (hs : s.natAbs ≤ 4096 * 2 ^ k) : ∃ (a b : Int), OkT 0 b 0 ∧ O0 (n + 1) 55 [.d (.list [.int s]), .d (.int 0)] = some (.lst [.int a, .int b, .int 0], [.d (.list [.int s]), .d (.int 0)]) := by
  have e0 := Int.emod_nonneg s (show (2305843009213693951 : Int) ≠ 0 by decide)
  have e1 := Int.emod_lt_of_pos s (show (0 : Int) < 2305843009213693951 by decide)
  have ab : bltF .abs [.int s] = some (.int (s.natAbs : Nat)) := by
    show some (PyData.int (if s < 0 then -s else s)) = _
    congr 2
    split <;> omega
  refine ⟨(s.natAbs : Int) * (if decide ((10 : Int) ^ 18 ≤ (s.natAbs : Int)) = true then 1 else 0), s % 2305843009213693951 + 39373 * 0 + 25193, ⟨by omega, by omega, by omega, by omega⟩, ?_⟩
  have pw : binF .Pow (.int 10) (.int 18) = some (.int (10 ^ 18)) := rfl
  have ge : cmpF .GtE (.int (s.natAbs : Nat)) (.int (10 ^ 18)) = some (decide ((10 : Int) ^ 18 ≤ (s.natAbs : Int))) := rfl
  have bi : ∀ t : Bool, bltF .int [.bool t] = some (.int (if t = true then 1 else 0)) := fun _ => rfl
  have bi2 : bltF .int [.int s] = some (.int s) := rfl
  have md : binF .Mod (.int s) (.int 2305843009213693951) = some (.int (s % 2305843009213693951)) := rfl
  have m2 : binF .Mult (.int 39373) (.int 0) = some (.int (39373 * 0)) := rfl
  have a1 : ∀ x y : Int, binF .Add (.int x) (.int y) = some (.int (x + y)) := fun _ _ => rfl
  have ml : ∀ t : Bool, binF .Mult (.int (s.natAbs : Nat)) (.int (if t = true then 1 else 0)) = some (.int ((s.natAbs : Int) * (if t = true then 1 else 0))) := fun t => by
    refine mulB (i := k + 13) (j := 1) ?_ ?_ (by omega)
    · rw [Int.natAbs_natCast, Nat.pow_add, Nat.mul_comm]
      have p := Nat.two_pow_pos k
      have h1 : 4096 * 2 ^ k < 2 ^ 13 * 2 ^ k := (Nat.mul_lt_mul_right p).mpr (by decide)
      exact Nat.lt_of_le_of_lt hs h1
    · cases t <;> decide
  have ln : bltF .len [.list [.int s]] = some (.int 1) := rfl
  have lt : cmpF .Lt (.int 0) (.int 1) = some true := rfl
  have ix : ixF (.list [.int s]) (.int 0) = some (.int s) := rfl
  have hc : 3 ≤ cap := by decide
  generalize hT : decide ((10 : Int) ^ 18 ≤ (s.natAbs : Int)) = T at ge
  rw [box_rule]
  have q1 : evS 3000 G (D0 n) (O0 n) (.set 2 (.ife (.cmp .Lt (.pl 1) (.blt .len (.cons (.pl 0) .nil))) (.ix (.pl 0) (.pl 1)) (.int 0))) [.d (.list [.int s]), .d (.int 0), .un] = some (.nx [.d (.list [.int s]), .d (.int 0), .d (.int s)]) := by
    simp only [evS, evE, evT, evEs, List.getElem?_cons_zero, List.getElem?_cons_succ, List.map, rdV_p, ln, lt, ix, isRef, Bool.false_eq_true, if_false, List.set_cons_succ, List.set_cons_zero]
  have q2 : evS 3000 G (D0 n) (O0 n) (.retO (.lst (.cons (.bin .Mult (.blt .abs (.cons (.pl 2) .nil)) (.blt .int (.cons (.cmp .GtE (.blt .abs (.cons (.pl 2) .nil)) (.bin .Pow (.int 10) (.int 18))) .nil))) (.cons (.bin .Add (.bin .Add (.bin .Mod (.blt .int (.cons (.pl 2) .nil)) (.int 2305843009213693951)) (.bin .Mult (.int 39373) (.pl 1))) (.int 25193)) (.cons (.int 0) .nil))))) [.d (.list [.int s]), .d (.int 0), .d (.int s)] =
      some (.ro (.lst [.int ((s.natAbs : Int) * (if T = true then 1 else 0)), .int (s % 2305843009213693951 + 39373 * 0 + 25193), .int 0]) [.d (.list [.int s]), .d (.int 0), .d (.int s)]) := by
    simp only [evS, evF, evE, evEs, List.getElem?_cons_zero, List.getElem?_cons_succ, List.map, rdV_p, ab, pw, ge, bi, bi2, md, m2, a1, ml, pvDs, Option.map, List.length_cons, List.length_nil, Nat.zero_add, Nat.reduceAdd, hc, if_true]
  unfold b55
  rw [ss_nx q1]
  rw [evSs, q2]
  rfl
end Ir
set_option Elab.async false
set_option linter.all false
set_option maxRecDepth 100000
set_option maxHeartbeats 4000000
namespace Ir
open PySem L2 Dn
/-- the laps of the law -/
theorem laps {n : Nat} {s0 : SV} {b : Int} : ∀ {items : List D} {N : Nat} {a c : Int}, OkT N b c → N + 200 * items.length ≤ 700000 → ∃ (a' c' : Int),
    cmpL (cmpF1 (.nm 2) (evT G (D0 (n + 9)) .yes) (evE G (D0 (n + 9)) (.call 68 (.cons (.pl 1) .nil)))) items [s0, .own false (tinV a b c), .un] = some (items.map fun _ => .bool true, [s0, .own false (tinV a' b c'), .un])
  | [], N, a, c, _, _ => ⟨a, c, rfl⟩
  | i :: items, N, a, c, hT, hN => by
    have hN' : N + 200 * (items.length + 1) ≤ 700000 := hN
    obtain ⟨a1, c1, t1, q1⟩ := law_right (n := n) (a := a) hT (by omega)
    obtain ⟨a', c', k⟩ := laps (n := n) (s0 := s0) (items := items) (N := N + 200) (a := a1) (c := c1) t1 (by omega)
    refine ⟨a', c', ?_⟩
    have ag : asg (.nm 2) i [s0, .own false (tinV a b c), .un] = some [s0, .own false (tinV a b c), .d i] := rfl
    have cl : evE G (D0 (n + 9)) (.call 68 (.cons (.pl 1) .nil)) [s0, .own false (tinV a b c), .d i] = some (.p (.bool true), [s0, .own false (tinV a1 b c1), .d i]) := by
      have q1' : D0 (n + 9) 68 [.own true (tinV a b c)] = some (.bool true, [.own true (tinV a1 b c1)]) := q1
      simp [evE, evEs, argS, als, q1', wrB, setO]
    have first : cmpF1 (.nm 2) (evT G (D0 (n + 9)) .yes) (evE G (D0 (n + 9)) (.call 68 (.cons (.pl 1) .nil))) i [s0, .own false (tinV a b c), .un] = some (some (.bool true), [s0, .own false (tinV a1 b c1), .un]) := by
      unfold cmpF1
      rw [ag]
      dsimp only
      rw [evT]
      dsimp only
      rw [cl]
      rfl
    unfold cmpL
    rw [first]
    dsimp only
    rw [k]
    rfl
theorem law_rule {n : Nat} {x0 : SV} : runN tab 3000 G (n + 1) 69 [x0] = (match evSs 3000 G (D0 n) (O0 n) b69 [x0, .un, .un] with
      | some (.rt d ρ) => some (.d d (ρ.take 1))
      | some (.ro o ρ) => some (.o o (ρ.take 1))
      | some (.nx ρ) => some (.d .none (ρ.take 1))
      | _ => none) := call_R (f := ⟨1, 3, b69⟩) rfl rfl
/-- the plain law: at every list of at most 63 numbers, none of more than so many bits -/
theorem law_true {k : Nat} (hk : k ≤ 2000000) {ns : List Int} (hl : ns.length ≤ 63) (hb : ∀ z ∈ ns, z.natAbs < 2 ^ k) : ∃ as, runN tab 3000 G 40 69 [.ro (ns.map .int)] = some (.d (.bool true) as) := by
  obtain ⟨s, as, h1, h2⟩ := law_cells (n := 38) hk hl hb
  obtain ⟨a, b, hT, h3⟩ := law_box (n := 38) hk h1
  obtain ⟨a', c', h4⟩ := laps (n := 30) (s0 := .ro (ns.map .int)) (items := rngD 0 4) (a := a) hT (by decide)
  have e1 : evE G (D0 39) (.callR 57 0 (.cons (.int 1) .nil)) [.ro (ns.map .int), .un, .un] = some (.p (.list [.int s]), [.ro (ns.map .int), .un, .un]) := by
    have w : wrB [.p (.int 1)] as [.ro (ns.map .int), .un, .un] = [.ro (ns.map .int), .un, .un] := by
      cases as <;> rfl
    have h2' : D0 39 57 [.ro (ns.map .int), .d (.int 1)] = some (.list [.int s], .ro (ns.map .int) :: as) := h2
    simp only [evE, evEs, argS, als, List.getElem?_cons_zero, Option.map, List.nodup_nil, if_true, h2', w]
  have q1 : evS 3000 G (D0 39) (O0 39) (.setO 1 (.cal 55 (.cons (.callR 57 0 (.cons (.int 1) .nil)) (.cons (.int 0) .nil)))) [.ro (ns.map .int), .un, .un] = some (.nx [.ro (ns.map .int), .own false (tinV a b 0), .un]) := by
    have h3' : O0 39 55 [.d (.list [.int s]), .d (.int 0)] = some (.lst [.int a, .int b, .int 0], [.d (.list [.int s]), .d (.int 0)]) := h3
    have e0 : evE G (D0 39) (.int 0) [.ro (ns.map .int), .un, .un] = some (.p (.int 0), [.ro (ns.map .int), .un, .un]) := by rw [evE]
    have es := es_cons e1 (es_cons e0 es_nil)
    rw [evS, evF, es]
    dsimp only
    rw [arg_map]
    dsimp only
    rw [als_map, if_pos List.nodup_nil]
    simp only [List.map]
    rw [h3']
    rfl
  have ei : evI G (D0 39) (.rng1 (.int 4)) [.ro (ns.map .int), .own false (tinV a b 0), .un] = some (rngD 0 4, [.ro (ns.map .int), .own false (tinV a b 0), .un]) := rfl
  have key := ev_comp2 (n := 39) ei rfl h4 (by decide)
  refine ⟨[.ro (ns.map .int)], ?_⟩
  rw [law_rule]
  unfold b69
  rw [ss_nx q1, ss_ret (ev_blt1 key (b := .all) (z := .bool true) rfl)]
  rfl
end Ir
set_option Elab.async false
set_option linter.all false
set_option maxRecDepth 100000
set_option maxHeartbeats 0
namespace Ir
open PySem PySem.Spec PyProof.Rows L2 Dn
-- the facts of the top
section
variable {K : PySem.W.Frag} {h : Heap} {mg : Str → Option Value}
theorem has (c : He.SaysD fa fn K) (X : K.In h) (Gm : h.Ns mainGlobals mg) (i : Nat) (x : Str) (hi : fnm[i]? = some x) : mg x = some (.ref (He.ga K x)) := by
  refine He.glo_ok X Gm (c.facts (f := .glo x) ?_)
  exact List.mem_append_left _ (List.mem_map.mpr ⟨x, List.mem_of_getElem? hi, rfl⟩)
theorem f0 (c : He.SaysD fa fn K) (X : K.In h) (Gm : h.Ns mainGlobals mg) : FnFact K mg fr GN fnm tab 0 "is_number" :=
  FnFact.mk (f := He.ga K "is_number") N0 ["thing"] b0 (c.def_ 0 (d := dd "is_number" 9) rfl) (has c X Gm 0 _ rfl) (fun _ _ _ _ _ _ us hl => match us, hl with | [_], _ => rfl) (by decide +kernel) rfl k0
theorem f1 (c : He.SaysD fa fn K) (X : K.In h) (Gm : h.Ns mainGlobals mg) : FnFact K mg fr GN fnm tab 1 "is_within" :=
  FnFact.mk (f := He.ga K "is_within") N1 ["thing", "least", "most"] b1 (c.def_ 1 (d := dd "is_within" 10) rfl) (has c X Gm 1 _ rfl) (fun _ _ _ _ _ _ us hl => match us, hl with | [_, _, _], _ => rfl) (by decide +kernel) rfl k1
theorem f2 (c : He.SaysD fa fn K) (X : K.In h) (Gm : h.Ns mainGlobals mg) : FnFact K mg fr GN fnm tab 2 "is_long" :=
  FnFact.mk (f := He.ga K "is_long") N2 ["thing", "length"] b2 (c.def_ 2 (d := dd "is_long" 11) rfl) (has c X Gm 2 _ rfl) (fun _ _ _ _ _ _ us hl => match us, hl with | [_, _], _ => rfl) (by decide +kernel) rfl k2
theorem f3 (c : He.SaysD fa fn K) (X : K.In h) (Gm : h.Ns mainGlobals mg) : FnFact K mg fr GN fnm tab 3 "tupled" :=
  FnFact.mk (f := He.ga K "tupled") N3 ["value"] b3 (c.def_ 3 (d := dd "tupled" 12) rfl) (has c X Gm 3 _ rfl) (fun _ _ _ _ _ _ us hl => match us, hl with | [_], _ => rfl) (by decide +kernel) rfl k3
theorem f4 (c : He.SaysD fa fn K) (X : K.In h) (Gm : h.Ns mainGlobals mg) : FnFact K mg fr GN fnm tab 4 "sure_within" :=
  FnFact.mk (f := He.ga K "sure_within") N4 ["thing", "least", "most"] b4 (c.def_ 4 (d := dd "sure_within" 13) rfl) (has c X Gm 4 _ rfl) (fun _ _ _ _ _ _ us hl => match us, hl with | [_, _, _], _ => rfl) (by decide +kernel) rfl k4
theorem f5 (c : He.SaysD fa fn K) (X : K.In h) (Gm : h.Ns mainGlobals mg) : FnFact K mg fr GN fnm tab 5 "sure_steps" :=
  FnFact.mk (f := He.ga K "sure_steps") N5 ["thing"] b5 (c.def_ 5 (d := dd "sure_steps" 14) rfl) (has c X Gm 5 _ rfl) (fun _ _ _ _ _ _ us hl => match us, hl with | [_], _ => rfl) (by decide +kernel) rfl k5
theorem f6 (c : He.SaysD fa fn K) (X : K.In h) (Gm : h.Ns mainGlobals mg) : FnFact K mg fr GN fnm tab 6 "sure_number" :=
  FnFact.mk (f := He.ga K "sure_number") N6 ["thing"] b6 (c.def_ 6 (d := dd "sure_number" 15) rfl) (has c X Gm 6 _ rfl) (fun _ _ _ _ _ _ us hl => match us, hl with | [_], _ => rfl) (by decide +kernel) rfl k6
theorem f7 (c : He.SaysD fa fn K) (X : K.In h) (Gm : h.Ns mainGlobals mg) : FnFact K mg fr GN fnm tab 7 "common" :=
  FnFact.mk (f := He.ga K "common") N7 ["one", "other"] b7 (c.def_ 7 (d := dd "common" 16) rfl) (has c X Gm 7 _ rfl) (fun _ _ _ _ _ _ us hl => match us, hl with | [_, _], _ => rfl) (by decide +kernel) rfl k7
theorem f8 (c : He.SaysD fa fn K) (X : K.In h) (Gm : h.Ns mainGlobals mg) : FnFact K mg fr GN fnm tab 8 "least_multiple" :=
  FnFact.mk (f := He.ga K "least_multiple") N8 ["one", "other"] b8 (c.def_ 8 (d := dd "least_multiple" 17) rfl) (has c X Gm 8 _ rfl) (fun _ _ _ _ _ _ us hl => match us, hl with | [_, _], _ => rfl) (by decide +kernel) rfl k8
theorem f9 (c : He.SaysD fa fn K) (X : K.In h) (Gm : h.Ns mainGlobals mg) : FnFact K mg fr GN fnm tab 9 "is_prime" :=
  FnFact.mk (f := He.ga K "is_prime") N9 ["number"] b9 (c.def_ 9 (d := dd "is_prime" 18) rfl) (has c X Gm 9 _ rfl) (fun _ _ _ _ _ _ us hl => match us, hl with | [_], _ => rfl) (by decide +kernel) rfl k9
theorem f10 (c : He.SaysD fa fn K) (X : K.In h) (Gm : h.Ns mainGlobals mg) : FnFact K mg fr GN fnm tab 10 "how_often" :=
  FnFact.mk (f := He.ga K "how_often") N10 ["number", "divisor"] b10 (c.def_ 10 (d := dd "how_often" 19) rfl) (has c X Gm 10 _ rfl) (fun _ _ _ _ _ _ us hl => match us, hl with | [_, _], _ => rfl) (by decide +kernel) rfl k10
theorem f11 (c : He.SaysD fa fn K) (X : K.In h) (Gm : h.Ns mainGlobals mg) : FnFact K mg fr GN fnm tab 11 "without" :=
  FnFact.mk (f := He.ga K "without") N11 ["number", "other"] b11 (c.def_ 11 (d := dd "without" 20) rfl) (has c X Gm 11 _ rfl) (fun _ _ _ _ _ _ us hl => match us, hl with | [_, _], _ => rfl) (by decide +kernel) rfl k11
theorem f12 (c : He.SaysD fa fn K) (X : K.In h) (Gm : h.Ns mainGlobals mg) : FnFact K mg fr GN fnm tab 12 "is_fraction_in" :=
  FnFact.mk (f := He.ga K "is_fraction_in") N12 ["thing"] b12 (c.def_ 12 (d := dd "is_fraction_in" 23) rfl) (has c X Gm 12 _ rfl) (fun _ _ _ _ _ _ us hl => match us, hl with | [_], _ => rfl) (by decide +kernel) rfl k12
theorem f13 (c : He.SaysD fa fn K) (X : K.In h) (Gm : h.Ns mainGlobals mg) : FnFact K mg fr GN fnm tab 13 "is_mill_in" :=
  FnFact.mk (f := He.ga K "is_mill_in") N13 ["thing"] b13 (c.def_ 13 (d := dd "is_mill_in" 24) rfl) (has c X Gm 13 _ rfl) (fun _ _ _ _ _ _ us hl => match us, hl with | [_], _ => rfl) (by decide +kernel) rfl k13
theorem f14 (c : He.SaysD fa fn K) (X : K.In h) (Gm : h.Ns mainGlobals mg) : FnFact K mg fr GN fnm tab 14 "sure_mill" :=
  FnFact.mk (f := He.ga K "sure_mill") N14 ["value"] b14 (c.def_ 14 (d := dd "sure_mill" 25) rfl) (has c X Gm 14 _ rfl) (fun _ _ _ _ _ _ us hl => match us, hl with | [_], _ => rfl) (by decide +kernel) rfl k14
theorem f15 (c : He.SaysD fa fn K) (X : K.In h) (Gm : h.Ns mainGlobals mg) : FnFact K mg fr GN fnm tab 15 "place_in" :=
  FnFact.mk (f := He.ga K "place_in") N15 ["mill", "number"] b15 (c.def_ 15 (d := dd "place_in" 26) rfl) (has c X Gm 15 _ rfl) (fun _ _ _ _ _ _ us hl => match us, hl with | [_, _], _ => rfl) (by decide +kernel) rfl k15
theorem f16 (c : He.SaysD fa fn K) (X : K.In h) (Gm : h.Ns mainGlobals mg) : FnFact K mg fr GN fnm tab 16 "taken" :=
  FnFact.mk (f := He.ga K "taken") N16 ["mill", "place", "number"] b16 (c.def_ 16 (d := dd "taken" 27) rfl) (has c X Gm 16 _ rfl) (fun _ _ _ _ _ _ us hl => match us, hl with | [_, _, _], _ => rfl) (by decide +kernel) rfl k16
theorem f17 (c : He.SaysD fa fn K) (X : K.In h) (Gm : h.Ns mainGlobals mg) : FnFact K mg fr GN fnm tab 17 "walk_in" :=
  FnFact.mk (f := He.ga K "walk_in") N17 ["mill", "number", "many"] b17 (c.def_ 17 (d := dd "walk_in" 28) rfl) (has c X Gm 17 _ rfl) (fun _ _ _ _ _ _ us hl => match us, hl with | [_, _, _], _ => rfl) (by decide +kernel) rfl k17
theorem f18 (c : He.SaysD fa fn K) (X : K.In h) (Gm : h.Ns mainGlobals mg) : FnFact K mg fr GN fnm tab 18 "place_taken" :=
  FnFact.mk (f := He.ga K "place_taken") N18 ["mill", "number"] b18 (c.def_ 18 (d := dd "place_taken" 29) rfl) (has c X Gm 18 _ rfl) (fun _ _ _ _ _ _ us hl => match us, hl with | [_, _], _ => rfl) (by decide +kernel) rfl k18
theorem f19 (c : He.SaysD fa fn K) (X : K.In h) (Gm : h.Ns mainGlobals mg) : FnFact K mg fr GN fnm tab 19 "walk_mill" :=
  FnFact.mk (f := He.ga K "walk_mill") N19 ["mill", "number", "many"] b19 (c.def_ 19 (d := dd "walk_mill" 30) rfl) (has c X Gm 19 _ rfl) (fun _ _ _ _ _ _ us hl => match us, hl with | [_, _, _], _ => rfl) (by decide +kernel) rfl k19
theorem f20 (c : He.SaysD fa fn K) (X : K.In h) (Gm : h.Ns mainGlobals mg) : FnFact K mg fr GN fnm tab 20 "places_taken" :=
  FnFact.mk (f := He.ga K "places_taken") N20 ["mill", "number", "many"] b20 (c.def_ 20 (d := dd "places_taken" 31) rfl) (has c X Gm 20 _ rfl) (fun _ _ _ _ _ _ us hl => match us, hl with | [_, _, _], _ => rfl) (by decide +kernel) rfl k20
theorem f21 (c : He.SaysD fa fn K) (X : K.In h) (Gm : h.Ns mainGlobals mg) : FnFact K mg fr GN fnm tab 21 "ahead_in" :=
  FnFact.mk (f := He.ga K "ahead_in") N21 ["mill", "number"] b21 (c.def_ 21 (d := dd "ahead_in" 33) rfl) (has c X Gm 21 _ rfl) (fun _ _ _ _ _ _ us hl => match us, hl with | [_, _], _ => rfl) (by decide +kernel) rfl k21
theorem f22 (c : He.SaysD fa fn K) (X : K.In h) (Gm : h.Ns mainGlobals mg) : FnFact K mg fr GN fnm tab 22 "ahead_of" :=
  FnFact.mk (f := He.ga K "ahead_of") N22 ["mill", "number"] b22 (c.def_ 22 (d := dd "ahead_of" 34) rfl) (has c X Gm 22 _ rfl) (fun _ _ _ _ _ _ us hl => match us, hl with | [_, _], _ => rfl) (by decide +kernel) rfl k22
theorem f23 (c : He.SaysD fa fn K) (X : K.In h) (Gm : h.Ns mainGlobals mg) : FnFact K mg fr GN fnm tab 23 "meets" :=
  FnFact.mk (f := He.ga K "meets") N23 ["mill", "one", "other", "most"] b23 (c.def_ 23 (d := dd "meets" 35) rfl) (has c X Gm 23 _ rfl) (fun _ _ _ _ _ _ us hl => match us, hl with | [_, _, _, _], _ => rfl) (by decide +kernel) rfl k23
theorem f24 (c : He.SaysD fa fn K) (X : K.In h) (Gm : h.Ns mainGlobals mg) : FnFact K mg fr GN fnm tab 24 "walk_few" :=
  FnFact.mk (f := He.ga K "walk_few") N24 ["mill", "number", "most"] b24 (c.def_ 24 (d := dd "walk_few" 36) rfl) (has c X Gm 24 _ rfl) (fun _ _ _ _ _ _ us hl => match us, hl with | [_, _, _], _ => rfl) (by decide +kernel) rfl k24
theorem f25 (c : He.SaysD fa fn K) (X : K.In h) (Gm : h.Ns mainGlobals mg) : FnFact K mg fr GN fnm tab 25 "told_by" :=
  FnFact.mk (f := He.ga K "told_by") N25 ["mill", "place"] b25 (c.def_ 25 (d := dd "told_by" 39) rfl) (has c X Gm 25 _ rfl) (fun _ _ _ _ _ _ us hl => match us, hl with | [_, _], _ => rfl) (by decide +kernel) rfl k25
theorem f26 (c : He.SaysD fa fn K) (X : K.In h) (Gm : h.Ns mainGlobals mg) : FnFact K mg fr GN fnm tab 26 "parting_in" :=
  FnFact.mk (f := He.ga K "parting_in") N26 ["one", "other"] b26 (c.def_ 26 (d := dd "parting_in" 40) rfl) (has c X Gm 26 _ rfl) (fun _ _ _ _ _ _ us hl => match us, hl with | [_, _], _ => rfl) (by decide +kernel) rfl k26
theorem f27 (c : He.SaysD fa fn K) (X : K.In h) (Gm : h.Ns mainGlobals mg) : FnFact K mg fr GN fnm tab 27 "idle_in" :=
  FnFact.mk (f := He.ga K "idle_in") N27 ["mill"] b27 (c.def_ 27 (d := dd "idle_in" 41) rfl) (has c X Gm 27 _ rfl) (fun _ _ _ _ _ _ us hl => match us, hl with | [_], _ => rfl) (by decide +kernel) rfl k27
theorem f28 (c : He.SaysD fa fn K) (X : K.In h) (Gm : h.Ns mainGlobals mg) : FnFact K mg fr GN fnm tab 28 "alike" :=
  FnFact.mk (f := He.ga K "alike") N28 ["one", "other"] b28 (c.def_ 28 (d := dd "alike" 42) rfl) (has c X Gm 28 _ rfl) (fun _ _ _ _ _ _ us hl => match us, hl with | [_, _], _ => rfl) (by decide +kernel) rfl k28
theorem f29 (c : He.SaysD fa fn K) (X : K.In h) (Gm : h.Ns mainGlobals mg) : FnFact K mg fr GN fnm tab 29 "idle" :=
  FnFact.mk (f := He.ga K "idle") N29 ["mill"] b29 (c.def_ 29 (d := dd "idle" 43) rfl) (has c X Gm 29 _ rfl) (fun _ _ _ _ _ _ us hl => match us, hl with | [_], _ => rfl) (by decide +kernel) rfl k29
theorem f30 (c : He.SaysD fa fn K) (X : K.In h) (Gm : h.Ns mainGlobals mg) : FnFact K mg fr GN fnm tab 30 "lessened" :=
  FnFact.mk (f := He.ga K "lessened") N30 ["mill"] b30 (c.def_ 30 (d := dd "lessened" 44) rfl) (has c X Gm 30 _ rfl) (fun _ _ _ _ _ _ us hl => match us, hl with | [_], _ => rfl) (by decide +kernel) rfl k30
theorem f31 (c : He.SaysD fa fn K) (X : K.In h) (Gm : h.Ns mainGlobals mg) : FnFact K mg fr GN fnm tab 31 "swapped" :=
  FnFact.mk (f := He.ga K "swapped") N31 ["mill", "place"] b31 (c.def_ 31 (d := dd "swapped" 45) rfl) (has c X Gm 31 _ rfl) (fun _ _ _ _ _ _ us hl => match us, hl with | [_, _], _ => rfl) (by decide +kernel) rfl k31
theorem f32 (c : He.SaysD fa fn K) (X : K.In h) (Gm : h.Ns mainGlobals mg) : FnFact K mg fr GN fnm tab 32 "can_swap" :=
  FnFact.mk (f := He.ga K "can_swap") N32 ["mill", "place"] b32 (c.def_ 32 (d := dd "can_swap" 46) rfl) (has c X Gm 32 _ rfl) (fun _ _ _ _ _ _ us hl => match us, hl with | [_, _], _ => rfl) (by decide +kernel) rfl k32
theorem f33 (c : He.SaysD fa fn K) (X : K.In h) (Gm : h.Ns mainGlobals mg) : FnFact K mg fr GN fnm tab 33 "are_weights_in" :=
  FnFact.mk (f := He.ga K "are_weights_in") N33 ["thing"] b33 (c.def_ 33 (d := dd "are_weights_in" 51) rfl) (has c X Gm 33 _ rfl) (fun _ _ _ _ _ _ us hl => match us, hl with | [_], _ => rfl) (by decide +kernel) rfl k33
theorem f34 (c : He.SaysD fa fn K) (X : K.In h) (Gm : h.Ns mainGlobals mg) : FnFact K mg fr GN fnm tab 34 "sure_weights" :=
  FnFact.mk (f := He.ga K "sure_weights") N34 ["value"] b34 (c.def_ 34 (d := dd "sure_weights" 52) rfl) (has c X Gm 34 _ rfl) (fun _ _ _ _ _ _ us hl => match us, hl with | [_], _ => rfl) (by decide +kernel) rfl k34
theorem f35 (c : He.SaysD fa fn K) (X : K.In h) (Gm : h.Ns mainGlobals mg) : FnFact K mg fr GN fnm tab 35 "weight_in" :=
  FnFact.mk (f := He.ga K "weight_in") N35 ["weights", "number"] b35 (c.def_ 35 (d := dd "weight_in" 53) rfl) (has c X Gm 35 _ rfl) (fun _ _ _ _ _ _ us hl => match us, hl with | [_, _], _ => rfl) (by decide +kernel) rfl k35
theorem f36 (c : He.SaysD fa fn K) (X : K.In h) (Gm : h.Ns mainGlobals mg) : FnFact K mg fr GN fnm tab 36 "is_fall_in" :=
  FnFact.mk (f := He.ga K "is_fall_in") N36 ["mill", "weights"] b36 (c.def_ 36 (d := dd "is_fall_in" 54) rfl) (has c X Gm 36 _ rfl) (fun _ _ _ _ _ _ us hl => match us, hl with | [_, _], _ => rfl) (by decide +kernel) rfl k36
theorem f37 (c : He.SaysD fa fn K) (X : K.In h) (Gm : h.Ns mainGlobals mg) : FnFact K mg fr GN fnm tab 37 "keeps_going" :=
  FnFact.mk (f := He.ga K "keeps_going") N37 ["mill", "numbers", "factor"] b37 (c.def_ 37 (d := dd "keeps_going" 55) rfl) (has c X Gm 37 _ rfl) (fun _ _ _ _ _ _ us hl => match us, hl with | [_, _, _], _ => rfl) (by decide +kernel) rfl k37
theorem f38 (c : He.SaysD fa fn K) (X : K.In h) (Gm : h.Ns mainGlobals mg) : FnFact K mg fr GN fnm tab 38 "is_stretch_in" :=
  FnFact.mk (f := He.ga K "is_stretch_in") N38 ["mill", "numbers", "start", "long"] b38 (c.def_ 38 (d := dd "is_stretch_in" 56) rfl) (has c X Gm 38 _ rfl) (fun _ _ _ _ _ _ us hl => match us, hl with | [_, _, _, _], _ => rfl) (by decide +kernel) rfl k38
theorem f39 (c : He.SaysD fa fn K) (X : K.In h) (Gm : h.Ns mainGlobals mg) : FnFact K mg fr GN fnm tab 39 "stretch_in" :=
  FnFact.mk (f := He.ga K "stretch_in") N39 ["mill", "numbers"] b39 (c.def_ 39 (d := dd "stretch_in" 57) rfl) (has c X Gm 39 _ rfl) (fun _ _ _ _ _ _ us hl => match us, hl with | [_, _], _ => rfl) (by decide +kernel) rfl k39
theorem f40 (c : He.SaysD fa fn K) (X : K.In h) (Gm : h.Ns mainGlobals mg) : FnFact K mg fr GN fnm tab 40 "weight_of" :=
  FnFact.mk (f := He.ga K "weight_of") N40 ["weights", "number"] b40 (c.def_ 40 (d := dd "weight_of" 58) rfl) (has c X Gm 40 _ rfl) (fun _ _ _ _ _ _ us hl => match us, hl with | [_, _], _ => rfl) (by decide +kernel) rfl k40
theorem f41 (c : He.SaysD fa fn K) (X : K.In h) (Gm : h.Ns mainGlobals mg) : FnFact K mg fr GN fnm tab 41 "is_fall" :=
  FnFact.mk (f := He.ga K "is_fall") N41 ["mill", "weights"] b41 (c.def_ 41 (d := dd "is_fall" 59) rfl) (has c X Gm 41 _ rfl) (fun _ _ _ _ _ _ us hl => match us, hl with | [_, _], _ => rfl) (by decide +kernel) rfl k41
theorem f42 (c : He.SaysD fa fn K) (X : K.In h) (Gm : h.Ns mainGlobals mg) : FnFact K mg fr GN fnm tab 42 "is_stretch" :=
  FnFact.mk (f := He.ga K "is_stretch") N42 ["mill", "number", "start", "long"] b42 (c.def_ 42 (d := dd "is_stretch" 60) rfl) (has c X Gm 42 _ rfl) (fun _ _ _ _ _ _ us hl => match us, hl with | [_, _, _, _], _ => rfl) (by decide +kernel) rfl k42
theorem f43 (c : He.SaysD fa fn K) (X : K.In h) (Gm : h.Ns mainGlobals mg) : FnFact K mg fr GN fnm tab 43 "is_claim_in" :=
  FnFact.mk (f := He.ga K "is_claim_in") N43 ["thing"] b43 (c.def_ 43 (d := dd "is_claim_in" 64) rfl) (has c X Gm 43 _ rfl) (fun _ _ _ _ _ _ us hl => match us, hl with | [_], _ => rfl) (by decide +kernel) rfl k43
theorem f44 (c : He.SaysD fa fn K) (X : K.In h) (Gm : h.Ns mainGlobals mg) : FnFact K mg fr GN fnm tab 44 "ended" :=
  FnFact.mk (f := He.ga K "ended") N44 ["mill", "number"] b44 (c.def_ 44 (d := dd "ended" 65) rfl) (has c X Gm 44 _ rfl) (fun _ _ _ _ _ _ us hl => match us, hl with | [_, _], _ => rfl) (by decide +kernel) rfl k44
theorem f45 (c : He.SaysD fa fn K) (X : K.In h) (Gm : h.Ns mainGlobals mg) : FnFact K mg fr GN fnm tab 45 "walk_looked" :=
  FnFact.mk (f := He.ga K "walk_looked") N45 ["mill", "number"] b45 (c.def_ 45 (d := dd "walk_looked" 66) rfl) (has c X Gm 45 _ rfl) (fun _ _ _ _ _ _ us hl => match us, hl with | [_, _], _ => rfl) (by decide +kernel) rfl k45
theorem f46 (c : He.SaysD fa fn K) (X : K.In h) (Gm : h.Ns mainGlobals mg) : FnFact K mg fr GN fnm tab 46 "multiples_of" :=
  FnFact.mk (f := He.ga K "multiples_of") N46 ["one", "other"] b46 (c.def_ 46 (d := dd "multiples_of" 67) rfl) (has c X Gm 46 _ rfl) (fun _ _ _ _ _ _ us hl => match us, hl with | [_, _], _ => rfl) (by decide +kernel) rfl k46
theorem f47 (c : He.SaysD fa fn K) (X : K.In h) (Gm : h.Ns mainGlobals mg) : FnFact K mg fr GN fnm tab 47 "barred_by" :=
  FnFact.mk (f := He.ga K "barred_by") N47 ["mill", "place", "number"] b47 (c.def_ 47 (d := dd "barred_by" 68) rfl) (has c X Gm 47 _ rfl) (fun _ _ _ _ _ _ us hl => match us, hl with | [_, _, _], _ => rfl) (by decide +kernel) rfl k47
theorem f48 (c : He.SaysD fa fn K) (X : K.In h) (Gm : h.Ns mainGlobals mg) : FnFact K mg fr GN fnm tab 48 "reason_of_first" :=
  FnFact.mk (f := He.ga K "reason_of_first") N48 ["mill", "number"] b48 (c.def_ 48 (d := dd "reason_of_first" 69) rfl) (has c X Gm 48 _ rfl) (fun _ _ _ _ _ _ us hl => match us, hl with | [_, _], _ => rfl) (by decide +kernel) rfl k48
theorem f49 (c : He.SaysD fa fn K) (X : K.In h) (Gm : h.Ns mainGlobals mg) : FnFact K mg fr GN fnm tab 49 "earlier_divisor" :=
  FnFact.mk (f := He.ga K "earlier_divisor") N49 ["mill", "place"] b49 (c.def_ 49 (d := dd "earlier_divisor" 70) rfl) (has c X Gm 49 _ rfl) (fun _ _ _ _ _ _ us hl => match us, hl with | [_, _], _ => rfl) (by decide +kernel) rfl k49
theorem f50 (c : He.SaysD fa fn K) (X : K.In h) (Gm : h.Ns mainGlobals mg) : FnFact K mg fr GN fnm tab 50 "holds_in" :=
  FnFact.mk (f := He.ga K "holds_in") N50 ["claim"] b50 (c.def_ 50 (d := dd "holds_in" 71) rfl) (has c X Gm 50 _ rfl) (fun _ _ _ _ _ _ us hl => match us, hl with | [_], _ => rfl) (by decide +kernel) rfl k50
theorem f51 (c : He.SaysD fa fn K) (X : K.In h) (Gm : h.Ns mainGlobals mg) : FnFact K mg fr GN fnm tab 51 "reason_in" :=
  FnFact.mk (f := He.ga K "reason_in") N51 ["claim"] b51 (c.def_ 51 (d := dd "reason_in" 72) rfl) (has c X Gm 51 _ rfl) (fun _ _ _ _ _ _ us hl => match us, hl with | [_], _ => rfl) (by decide +kernel) rfl k51
theorem f52 (c : He.SaysD fa fn K) (X : K.In h) (Gm : h.Ns mainGlobals mg) : FnFact K mg fr GN fnm tab 52 "sure_claim" :=
  FnFact.mk (f := He.ga K "sure_claim") N52 ["value"] b52 (c.def_ 52 (d := dd "sure_claim" 73) rfl) (has c X Gm 52 _ rfl) (fun _ _ _ _ _ _ us hl => match us, hl with | [_], _ => rfl) (by decide +kernel) rfl k52
theorem f53 (c : He.SaysD fa fn K) (X : K.In h) (Gm : h.Ns mainGlobals mg) : FnFact K mg fr GN fnm tab 53 "holds" :=
  FnFact.mk (f := He.ga K "holds") N53 ["claim"] b53 (c.def_ 53 (d := dd "holds" 74) rfl) (has c X Gm 53 _ rfl) (fun _ _ _ _ _ _ us hl => match us, hl with | [_], _ => rfl) (by decide +kernel) rfl k53
theorem f54 (c : He.SaysD fa fn K) (X : K.In h) (Gm : h.Ns mainGlobals mg) : FnFact K mg fr GN fnm tab 54 "claim_reason" :=
  FnFact.mk (f := He.ga K "claim_reason") N54 ["claim"] b54 (c.def_ 54 (d := dd "claim_reason" 75) rfl) (has c X Gm 54 _ rfl) (fun _ _ _ _ _ _ us hl => match us, hl with | [_], _ => rfl) (by decide +kernel) rfl k54
theorem f55 (c : He.SaysD fa fn K) (X : K.In h) (Gm : h.Ns mainGlobals mg) : FnFact K mg fr GN fnm tab 55 "_law_box" :=
  FnFact.mk (f := He.ga K "_law_box") N55 ["script", "k"] b55 (c.def_ 55 (d := dd "_law_box" 77) rfl) (has c X Gm 55 _ rfl) (fun _ _ _ _ _ _ us hl => match us, hl with | [_, _], _ => rfl) (by decide +kernel) rfl k55
theorem f56 (c : He.SaysD fa fn K) (X : K.In h) (Gm : h.Ns mainGlobals mg) : FnFact K mg fr GN fnm tab 56 "_law_take" :=
  FnFact.mk (f := He.ga K "_law_take") N56 ["tin", "below_so"] b56 (c.def_ 56 (d := dd "_law_take" 78) rfl) (has c X Gm 56 _ rfl) (fun _ _ _ _ _ _ us hl => match us, hl with | [_, _], _ => rfl) (by decide +kernel) rfl k56
theorem f57 (c : He.SaysD fa fn K) (X : K.In h) (Gm : h.Ns mainGlobals mg) : FnFact K mg fr GN fnm tab 57 "_law_cells" :=
  FnFact.mk (f := He.ga K "_law_cells") N57 ["script", "most_so"] b57 (c.def_ 57 (d := dd "_law_cells" 79) rfl) (has c X Gm 57 _ rfl) (fun _ _ _ _ _ _ us hl => match us, hl with | [_, _], _ => rfl) (by decide +kernel) rfl k57
theorem f58 (c : He.SaysD fa fn K) (X : K.In h) (Gm : h.Ns mainGlobals mg) : FnFact K mg fr GN fnm tab 58 "_law_of" :=
  FnFact.mk (f := He.ga K "_law_of") N58 ["tin", "goods_so"] b58 (c.def_ 58 (d := dd "_law_of" 80) rfl) (has c X Gm 58 _ rfl) (fun _ _ _ _ _ _ us hl => match us, hl with | [_, _], _ => rfl) (by decide +kernel) rfl k58
theorem f59 (c : He.SaysD fa fn K) (X : K.In h) (Gm : h.Ns mainGlobals mg) : FnFact K mg fr GN fnm tab 59 "_law_pick" :=
  FnFact.mk (f := He.ga K "_law_pick") N59 ["tin", "goods_so", "count_so"] b59 (c.def_ 59 (d := dd "_law_pick" 81) rfl) (has c X Gm 59 _ rfl) (fun _ _ _ _ _ _ us hl => match us, hl with | [_, _, _], _ => rfl) (by decide +kernel) rfl k59
theorem f60 (c : He.SaysD fa fn K) (X : K.In h) (Gm : h.Ns mainGlobals mg) : FnFact K mg fr GN fnm tab 60 "_law_same" :=
  FnFact.mk (f := He.ga K "_law_same") N60 ["got", "due"] b60 (c.def_ 60 (d := dd "_law_same" 82) rfl) (has c X Gm 60 _ rfl) (fun _ _ _ _ _ _ us hl => match us, hl with | [_, _], _ => rfl) (by decide +kernel) rfl k60
theorem f61 (c : He.SaysD fa fn K) (X : K.In h) (Gm : h.Ns mainGlobals mg) : FnFact K mg fr GN fnm tab 61 "_law_rest" :=
  FnFact.mk (f := He.ga K "_law_rest") N61 ["number_so", "by_so"] b61 (c.def_ 61 (d := dd "_law_rest" 83) rfl) (has c X Gm 61 _ rfl) (fun _ _ _ _ _ _ us hl => match us, hl with | [_, _], _ => rfl) (by decide +kernel) rfl k61
theorem f62 (c : He.SaysD fa fn K) (X : K.In h) (Gm : h.Ns mainGlobals mg) : FnFact K mg fr GN fnm tab 62 "_law_gcd" :=
  FnFact.mk (f := He.ga K "_law_gcd") N62 ["one", "two"] b62 (c.def_ 62 (d := dd "_law_gcd" 84) rfl) (has c X Gm 62 _ rfl) (fun _ _ _ _ _ _ us hl => match us, hl with | [_, _], _ => rfl) (by decide +kernel) rfl k62
theorem f63 (c : He.SaysD fa fn K) (X : K.In h) (Gm : h.Ns mainGlobals mg) : FnFact K mg fr GN fnm tab 63 "_law_takes" :=
  FnFact.mk (f := He.ga K "_law_takes") N63 ["mill_so", "number_so"] b63 (c.def_ 63 (d := dd "_law_takes" 85) rfl) (has c X Gm 63 _ rfl) (fun _ _ _ _ _ _ us hl => match us, hl with | [_, _], _ => rfl) (by decide +kernel) rfl k63
theorem f64 (c : He.SaysD fa fn K) (X : K.In h) (Gm : h.Ns mainGlobals mg) : FnFact K mg fr GN fnm tab 64 "_law_milled" :=
  FnFact.mk (f := He.ga K "_law_milled") N64 ["mill_so", "number_so", "most_so"] b64 (c.def_ 64 (d := dd "_law_milled" 86) rfl) (has c X Gm 64 _ rfl) (fun _ _ _ _ _ _ us hl => match us, hl with | [_, _, _], _ => rfl) (by decide +kernel) rfl k64
theorem f65 (c : He.SaysD fa fn K) (X : K.In h) (Gm : h.Ns mainGlobals mg) : FnFact K mg fr GN fnm tab 65 "_law_led" :=
  FnFact.mk (f := He.ga K "_law_led") N65 ["number_so", "names_so"] b65 (c.def_ 65 (d := dd "_law_led" 87) rfl) (has c X Gm 65 _ rfl) (fun _ _ _ _ _ _ us hl => match us, hl with | [_, _], _ => rfl) (by decide +kernel) rfl k65
theorem f66 (c : He.SaysD fa fn K) (X : K.In h) (Gm : h.Ns mainGlobals mg) : FnFact K mg fr GN fnm tab 66 "_law_drawn" :=
  FnFact.mk (f := He.ga K "_law_drawn") N66 ["tin", "most_so"] b66 (c.def_ 66 (d := dd "_law_drawn" 88) rfl) (has c X Gm 66 _ rfl) (fun _ _ _ _ _ _ us hl => match us, hl with | [_, _], _ => rfl) (by decide +kernel) rfl k66
theorem f67 (c : He.SaysD fa fn K) (X : K.In h) (Gm : h.Ns mainGlobals mg) : FnFact K mg fr GN fnm tab 67 "_law_of_primes" :=
  FnFact.mk (f := He.ga K "_law_of_primes") N67 ["tin"] b67 (c.def_ 67 (d := dd "_law_of_primes" 89) rfl) (has c X Gm 67 _ rfl) (fun _ _ _ _ _ _ us hl => match us, hl with | [_], _ => rfl) (by decide +kernel) rfl k67
theorem f68 (c : He.SaysD fa fn K) (X : K.In h) (Gm : h.Ns mainGlobals mg) : FnFact K mg fr GN fnm tab 68 "_law_right" :=
  FnFact.mk (f := He.ga K "_law_right") N68 ["tin"] b68 (c.def_ 68 (d := dd "_law_right" 90) rfl) (has c X Gm 68 _ rfl) (fun _ _ _ _ _ _ us hl => match us, hl with | [_], _ => rfl) (by decide +kernel) rfl k68
theorem f69 (c : He.SaysD fa fn K) (X : K.In h) (Gm : h.Ns mainGlobals mg) : FnFact K mg fr GN fnm tab 69 "law" :=
  FnFact.mk (f := He.ga K "law") N69 ["script"] b69 (c.def_ 69 (d := dd "law" 91) rfl) (has c X Gm 69 _ rfl) (fun _ _ _ _ _ _ us hl => match us, hl with | [_], _ => rfl) (by decide +kernel) rfl k69
theorem fall (c : He.SaysD fa fn K) (X : K.In h) (Gm : h.Ns mainGlobals mg) : ∀ (i : Nat) (x : Str), fnm[i]? = some x → FnFact K mg fr GN fnm tab i x
  | 0, _, e => by cases (show some ("is_number" : Str) = some _ from e); exact f0 c X Gm
  | 1, _, e => by cases (show some ("is_within" : Str) = some _ from e); exact f1 c X Gm
  | 2, _, e => by cases (show some ("is_long" : Str) = some _ from e); exact f2 c X Gm
  | 3, _, e => by cases (show some ("tupled" : Str) = some _ from e); exact f3 c X Gm
  | 4, _, e => by cases (show some ("sure_within" : Str) = some _ from e); exact f4 c X Gm
  | 5, _, e => by cases (show some ("sure_steps" : Str) = some _ from e); exact f5 c X Gm
  | 6, _, e => by cases (show some ("sure_number" : Str) = some _ from e); exact f6 c X Gm
  | 7, _, e => by cases (show some ("common" : Str) = some _ from e); exact f7 c X Gm
  | 8, _, e => by cases (show some ("least_multiple" : Str) = some _ from e); exact f8 c X Gm
  | 9, _, e => by cases (show some ("is_prime" : Str) = some _ from e); exact f9 c X Gm
  | 10, _, e => by cases (show some ("how_often" : Str) = some _ from e); exact f10 c X Gm
  | 11, _, e => by cases (show some ("without" : Str) = some _ from e); exact f11 c X Gm
  | 12, _, e => by cases (show some ("is_fraction_in" : Str) = some _ from e); exact f12 c X Gm
  | 13, _, e => by cases (show some ("is_mill_in" : Str) = some _ from e); exact f13 c X Gm
  | 14, _, e => by cases (show some ("sure_mill" : Str) = some _ from e); exact f14 c X Gm
  | 15, _, e => by cases (show some ("place_in" : Str) = some _ from e); exact f15 c X Gm
  | 16, _, e => by cases (show some ("taken" : Str) = some _ from e); exact f16 c X Gm
  | 17, _, e => by cases (show some ("walk_in" : Str) = some _ from e); exact f17 c X Gm
  | 18, _, e => by cases (show some ("place_taken" : Str) = some _ from e); exact f18 c X Gm
  | 19, _, e => by cases (show some ("walk_mill" : Str) = some _ from e); exact f19 c X Gm
  | 20, _, e => by cases (show some ("places_taken" : Str) = some _ from e); exact f20 c X Gm
  | 21, _, e => by cases (show some ("ahead_in" : Str) = some _ from e); exact f21 c X Gm
  | 22, _, e => by cases (show some ("ahead_of" : Str) = some _ from e); exact f22 c X Gm
  | 23, _, e => by cases (show some ("meets" : Str) = some _ from e); exact f23 c X Gm
  | 24, _, e => by cases (show some ("walk_few" : Str) = some _ from e); exact f24 c X Gm
  | 25, _, e => by cases (show some ("told_by" : Str) = some _ from e); exact f25 c X Gm
  | 26, _, e => by cases (show some ("parting_in" : Str) = some _ from e); exact f26 c X Gm
  | 27, _, e => by cases (show some ("idle_in" : Str) = some _ from e); exact f27 c X Gm
  | 28, _, e => by cases (show some ("alike" : Str) = some _ from e); exact f28 c X Gm
  | 29, _, e => by cases (show some ("idle" : Str) = some _ from e); exact f29 c X Gm
  | 30, _, e => by cases (show some ("lessened" : Str) = some _ from e); exact f30 c X Gm
  | 31, _, e => by cases (show some ("swapped" : Str) = some _ from e); exact f31 c X Gm
  | 32, _, e => by cases (show some ("can_swap" : Str) = some _ from e); exact f32 c X Gm
  | 33, _, e => by cases (show some ("are_weights_in" : Str) = some _ from e); exact f33 c X Gm
  | 34, _, e => by cases (show some ("sure_weights" : Str) = some _ from e); exact f34 c X Gm
  | 35, _, e => by cases (show some ("weight_in" : Str) = some _ from e); exact f35 c X Gm
  | 36, _, e => by cases (show some ("is_fall_in" : Str) = some _ from e); exact f36 c X Gm
  | 37, _, e => by cases (show some ("keeps_going" : Str) = some _ from e); exact f37 c X Gm
  | 38, _, e => by cases (show some ("is_stretch_in" : Str) = some _ from e); exact f38 c X Gm
  | 39, _, e => by cases (show some ("stretch_in" : Str) = some _ from e); exact f39 c X Gm
  | 40, _, e => by cases (show some ("weight_of" : Str) = some _ from e); exact f40 c X Gm
  | 41, _, e => by cases (show some ("is_fall" : Str) = some _ from e); exact f41 c X Gm
  | 42, _, e => by cases (show some ("is_stretch" : Str) = some _ from e); exact f42 c X Gm
  | 43, _, e => by cases (show some ("is_claim_in" : Str) = some _ from e); exact f43 c X Gm
  | 44, _, e => by cases (show some ("ended" : Str) = some _ from e); exact f44 c X Gm
  | 45, _, e => by cases (show some ("walk_looked" : Str) = some _ from e); exact f45 c X Gm
  | 46, _, e => by cases (show some ("multiples_of" : Str) = some _ from e); exact f46 c X Gm
  | 47, _, e => by cases (show some ("barred_by" : Str) = some _ from e); exact f47 c X Gm
  | 48, _, e => by cases (show some ("reason_of_first" : Str) = some _ from e); exact f48 c X Gm
  | 49, _, e => by cases (show some ("earlier_divisor" : Str) = some _ from e); exact f49 c X Gm
  | 50, _, e => by cases (show some ("holds_in" : Str) = some _ from e); exact f50 c X Gm
  | 51, _, e => by cases (show some ("reason_in" : Str) = some _ from e); exact f51 c X Gm
  | 52, _, e => by cases (show some ("sure_claim" : Str) = some _ from e); exact f52 c X Gm
  | 53, _, e => by cases (show some ("holds" : Str) = some _ from e); exact f53 c X Gm
  | 54, _, e => by cases (show some ("claim_reason" : Str) = some _ from e); exact f54 c X Gm
  | 55, _, e => by cases (show some ("_law_box" : Str) = some _ from e); exact f55 c X Gm
  | 56, _, e => by cases (show some ("_law_take" : Str) = some _ from e); exact f56 c X Gm
  | 57, _, e => by cases (show some ("_law_cells" : Str) = some _ from e); exact f57 c X Gm
  | 58, _, e => by cases (show some ("_law_of" : Str) = some _ from e); exact f58 c X Gm
  | 59, _, e => by cases (show some ("_law_pick" : Str) = some _ from e); exact f59 c X Gm
  | 60, _, e => by cases (show some ("_law_same" : Str) = some _ from e); exact f60 c X Gm
  | 61, _, e => by cases (show some ("_law_rest" : Str) = some _ from e); exact f61 c X Gm
  | 62, _, e => by cases (show some ("_law_gcd" : Str) = some _ from e); exact f62 c X Gm
  | 63, _, e => by cases (show some ("_law_takes" : Str) = some _ from e); exact f63 c X Gm
  | 64, _, e => by cases (show some ("_law_milled" : Str) = some _ from e); exact f64 c X Gm
  | 65, _, e => by cases (show some ("_law_led" : Str) = some _ from e); exact f65 c X Gm
  | 66, _, e => by cases (show some ("_law_drawn" : Str) = some _ from e); exact f66 c X Gm
  | 67, _, e => by cases (show some ("_law_of_primes" : Str) = some _ from e); exact f67 c X Gm
  | 68, _, e => by cases (show some ("_law_right" : Str) = some _ from e); exact f68 c X Gm
  | 69, _, e => by cases (show some ("law" : Str) = some _ from e); exact f69 c X Gm
  | i + 70, x, e => absurd (List.getElem?_eq_some_iff.mp e).1 (by show ¬ i + 70 < 70; omega)
theorem sys {P : Program} {w : World} {base : Heap} (c : He.SaysX fa fn [] [] ex w h K) (X : K.In h) (Gm : h.Ns mainGlobals mg) : Sys P w K mg base fr GN fnm G tab := by
  obtain ⟨e1, e2⟩ := Bool.and_eq_true_iff.mp (show (gB K GN G && gcdB K) = true from c.more)
  refine ⟨fun x hx => ?_, fun _ => gcd_ok X Gm e2, glob_ok X Gm e1, fall c.t.d X Gm⟩
  refine He.free_ok X Gm (c.t.d.facts (f := .free x) ?_)
  exact List.mem_append_right _ (List.mem_map.mpr ⟨x, by simpa using hx, rfl⟩)
end
theorem holds_law (hp : ∀ ns : List Int, ns.length ≤ 63 → FewBits ns → ∃ as, runN tab 3000 G 40 69 [.ro (ns.map .int)] = some (.d (.bool true) as)) : PySem.Challenge.rw_fractionmills_k61_across_primes_named_an.Holds := by
  w_on; o_law
  refine HandSHeadRun.head_imp (r := PySem.W.OpenLaw.row PySem.Challenge.rw_fractionmills_k61_across_primes_named_an) (q := PySem.W.view (PySem.W.OpenLaw.row PySem.Challenge.rw_fractionmills_k61_across_primes_named_an).prog [0, 91]) (H := hk) (ob := ob) (M := 12000) (loose := loose) (d := HandSHeadRun.topDef (PySem.W.OpenLaw.row PySem.Challenge.rw_fractionmills_k61_across_primes_named_an).prog 91) (kwd := []) ob_eq
    run (by kernel_rfl) (by kernel_rfl) (by kernel_rfl) (by rfl) (by first | assumption | decide +kernel) (by decide +kernel) ⟨rfl, rfl, rfl, rfl, rfl, by decide +kernel⟩ ?hw ?hc
  case hw => w_witness2
  case hc =>
    refine end_bits (l := PySem.Challenge.rw_fractionmills_k61_across_primes_named_an) (k := 40) rfl (by kernel_rfl) ⟨rfl, by decide, by decide⟩ ?F
    intro w mg fa h Y Gm hmg0
    obtain ⟨K, KX, c⟩ := Y
    have hmg : mg ("law" : PySem.Str) = some (.ref fa) := by
      have e : (HandSHeadRun.topDef (PySem.W.OpenLaw.row PySem.Challenge.rw_fractionmills_k61_across_primes_named_an).prog 91).name = ("law" : PySem.Str) := by kernel_rfl
      rw [← e]
      exact hmg0
    obtain ⟨fd, F⟩ := c.t.d.def_ 69 (d := dd "law" 91) rfl
    have e := hmg.symm.trans (has c.t.d KX Gm 69 _ rfl)
    cases e
    have b := FunD.bindsA (ps := ["script"]) F fun _ _ _ _ _ _ us hl => match us, hl with | [_], _ => rfl
    refine ⟨K, fd, spLawB K, ⟨KX, fun s v => b s [v] rfl⟩, fun H a ns hl hS => ⟨a, ns, rfl, hl, hS, fun _ => rfl⟩, fun base bX bG => ?_⟩
    refine FnOk.imp ?_ (sp_lawB hp)
    have S := sys (P := PySem.Challenge.rw_fractionmills_k61_across_primes_named_an.prog) (w := w) (base := base) c KX Gm
    exact Sys.fnOk S 39 69 F (scopeB_ok (N := N69) (ps := ["script"]) (by decide +kernel)) rfl rfl rfl k69
end Ir
set_option Elab.async false
set_option maxRecDepth 100000 in
set_option maxHeartbeats 0 in
theorem PySem.Challenge.cw_fractionmills_k61_across_primes_named_an_holds : PySem.Challenge.rw_fractionmills_k61_across_primes_named_an.Holds := by
  exact Ir.holds_law fun ns hl hb => Ir.law_true (k := 1048576) (by decide) hl fun z hz => Dn.abs_of_bits (hb z hz)
