import PyProof.Rows.All
import Wide.All
import OpenK.AllK
import Wide.FinOn
import HandS.ForMost
import HandS.EndBits
import HandS.Defaults
import PyProof.ReprReads
import HandS.TupAny
import HandS.TupMul
import HandS.Wide
import HandS.SortInts
import HandS.IsInst
import HandS.Style
import HandS.SetFor
import HandS.Strs
import KE.GoesEnum
import HandS.MakeKwOnly
import HandS.More
import HandS.Zip
import HandS.Conv
import KE.DataMinMax
import HandS.GenList
import PyProof.GenComp
import HandS.NoneIn
import PySem.Challenge.RW_roadsizes_k07_sums_of_chains
set_option Elab.async false
set_option linter.all false
set_option maxRecDepth 100000
set_option maxHeartbeats 2000000
/-! DV1: data (D) for values of the layer; a region R of lists and instances that stand still; slots that own a list; what a reading gives as a function on data. -/
namespace DV
open PySem L2

/-- data -/
inductive D where
  | non | bl (b : Bool) | int (i : Int) | str (x : Str) | con (v : V)
  | lst (xs : List D) | ro (xs : List D) | tup (xs : List D)
  | ins (C : Addr) (ks : List Str) (ds : List D)
  | dic (ks : List Key) (ds : List D)
  | dit (ks : List (List Key)) (ds : List D)

abbrev Reg := Addr → Prop
/-- a list that nobody may change -/
def SqR (K : PySem.W.Frag) (H : Hp) (a : Addr) (xs : List V) : Prop := (∃ o, H a = some (.frz o (.lst xs))) ∨ SqL K (fun _ => none) a xs
theorem SqR.l {K : PySem.W.Frag} {H : Hp} {a : Addr} {xs : List V} (h : SqR K H a xs) : SqL K H a xs := by
  rcases h with ⟨o, h⟩ | (h | ⟨o, h⟩) | h
  · exact .inl (.inr ⟨o, h⟩)
  · cases h
  · cases h
  · exact .inr h
theorem SqR.of {K : PySem.W.Frag} {H : Hp} {a : Addr} {xs : List V} (ho : Only H) (h : SqL K H a xs) : SqR K H a xs := by
  rcases h with (h | ⟨o, h⟩) | h
  · rcases ho a with z | ⟨o, xs', z⟩
    · rw [h] at z; cases z
    · rw [h] at z; cases z
  · exact .inl ⟨o, h⟩
  · exact .inr (.inr h)

mutual
def RepV (K : PySem.W.Frag) (R : Reg) (H : Hp) : D → V → Prop
  | .non, v => v = .non
  | .bl b, v => v = .bl b
  | .int i, v => v = .int i
  | .str x, v => v = .str x
  | .con u, v => v = u
  | .lst ds, v => ∃ a vs, v = .ref a ∧ R a ∧ H a = some (.lst vs) ∧ RepVs K R H ds vs
  | .ro ds, v => ∃ a vs, v = .ref a ∧ SqR K H a vs ∧ RepVs K R H ds vs
  | .tup ds, v => ∃ a vs, v = .ref a ∧ SqT K H a vs ∧ RepVs K R H ds vs
  | .ins C ks ds, v => ∃ a dx vs, v = .ref a ∧ R a ∧ H a = some (.ins C dx (ks.zip vs)) ∧ ks.length = ds.length ∧ RepVs K R H ds vs
  | .dic ks ds, v => ∃ a vs, v = .ref a ∧ R a ∧ H a = some (.dK (ks.zip vs)) ∧ ks.length = ds.length ∧ RepVs K R H ds vs
  | .dit ks ds, v => ∃ a vs, v = .ref a ∧ R a ∧ H a = some (.dT (ks.zip vs)) ∧ ks.length = ds.length ∧ RepVs K R H ds vs
def RepVs (K : PySem.W.Frag) (R : Reg) (H : Hp) : List D → List V → Prop
  | [], vs => vs = []
  | d :: ds, vs => ∃ v r, vs = v :: r ∧ RepV K R H d v ∧ RepVs K R H ds r
end

/-- a mutable object's contents at an address -/
def RepTop (K : PySem.W.Frag) (R : Reg) (H : Hp) : D → Addr → Prop
  | .lst ds, a => ∃ vs, H a = some (.lst vs) ∧ RepVs K R H ds vs
  | .ins C ks ds, a => ∃ dx vs, H a = some (.ins C dx (ks.zip vs)) ∧ ks.length = ds.length ∧ RepVs K R H ds vs
  | .dic ks ds, a => ∃ vs, H a = some (.dK (ks.zip vs)) ∧ ks.length = ds.length ∧ RepVs K R H ds vs
  | .dit ks ds, a => ∃ vs, H a = some (.dT (ks.zip vs)) ∧ ks.length = ds.length ∧ RepVs K R H ds vs
  | _, _ => False

section
variable {K : PySem.W.Frag} {R R' : Reg} {H H' : Hp}
theorem RepVs.length : ∀ {ds : List D} {vs : List V}, RepVs K R H ds vs → ds.length = vs.length
  | [], vs, h => by rw [show vs = [] from h]; rfl
  | d :: ds, vs, h => by
    obtain ⟨v, r, rfl, _, h⟩ := h
    rw [List.length_cons, List.length_cons, RepVs.length h]
theorem RepVs.get : ∀ {ds : List D} {vs : List V} {i : Nat} {d : D}, RepVs K R H ds vs → ds[i]? = some d → ∃ v, vs[i]? = some v ∧ RepV K R H d v
  | [], _, i, d, _, e => by simp at e
  | d :: ds, vs, 0, d', h, e => by
    obtain ⟨v, r, rfl, h1, h2⟩ := h
    simp at e; subst e
    exact ⟨v, rfl, h1⟩
  | d :: ds, vs, i + 1, d', h, e => by
    obtain ⟨v, r, rfl, h1, h2⟩ := h
    obtain ⟨v', e', h'⟩ := RepVs.get (i := i) h2 (by simpa using e)
    exact ⟨v', by simpa using e', h'⟩
theorem RepVs.get' : ∀ {ds : List D} {vs : List V} {i : Nat} {v : V}, RepVs K R H ds vs → vs[i]? = some v → ∃ d, ds[i]? = some d ∧ RepV K R H d v
  | [], vs, i, v, h, e => by rw [show vs = [] from h] at e; simp at e
  | d :: ds, vs, 0, v', h, e => by
    obtain ⟨v, r, rfl, h1, h2⟩ := h
    simp at e; subst e
    exact ⟨d, rfl, h1⟩
  | d :: ds, vs, i + 1, v', h, e => by
    obtain ⟨v, r, rfl, h1, h2⟩ := h
    obtain ⟨d', e', h'⟩ := RepVs.get' (i := i) h2 (by simpa using e)
    exact ⟨d', by simpa using e', h'⟩
theorem RepVs.append : ∀ {ds es : List D} {vs us : List V}, RepVs K R H ds vs → RepVs K R H es us → RepVs K R H (ds ++ es) (vs ++ us)
  | [], _, vs, _, h, g => by rw [show vs = [] from h]; exact g
  | d :: ds, es, vs, us, h, g => by
    obtain ⟨v, r, rfl, h1, h2⟩ := h
    exact ⟨v, r ++ us, rfl, h1, h2.append g⟩
theorem RepVs.take : ∀ {ds : List D} {vs : List V} (n : Nat), RepVs K R H ds vs → RepVs K R H (ds.take n) (vs.take n)
  | [], vs, n, h => by rw [show vs = [] from h]; simp [RepVs]
  | d :: ds, vs, 0, h => by simp [RepVs]
  | d :: ds, vs, n + 1, h => by
    obtain ⟨v, r, rfl, h1, h2⟩ := h
    exact ⟨v, r.take n, rfl, h1, h2.take n⟩
theorem RepVs.drop : ∀ {ds : List D} {vs : List V} (n : Nat), RepVs K R H ds vs → RepVs K R H (ds.drop n) (vs.drop n)
  | [], vs, n, h => by rw [show vs = [] from h]; simp [RepVs]
  | d :: ds, vs, 0, h => h
  | d :: ds, vs, n + 1, h => by
    obtain ⟨v, r, rfl, h1, h2⟩ := h
    exact h2.drop n
theorem RepVs.set : ∀ {ds : List D} {vs : List V} {d : D} {v : V} (n : Nat), RepVs K R H ds vs → RepV K R H d v → RepVs K R H (ds.set n d) (vs.set n v)
  | [], vs, _, _, n, h, _ => by rw [show vs = [] from h]; simp [RepVs]
  | d :: ds, vs, _, _, 0, h, g => by
    obtain ⟨v, r, rfl, h1, h2⟩ := h
    exact ⟨_, r, rfl, g, h2⟩
  | d :: ds, vs, _, _, n + 1, h, g => by
    obtain ⟨v, r, rfl, h1, h2⟩ := h
    exact ⟨v, _, rfl, h1, h2.set n g⟩
theorem RepVs.one {d : D} {v : V} (h : RepV K R H d v) : RepVs K R H [d] [v] := ⟨v, [], rfl, h, rfl⟩
theorem RepVs.rep {d : D} {v : V} (h : RepV K R H d v) : ∀ n, RepVs K R H (List.replicate n d) (List.replicate n v)
  | 0 => rfl
  | n + 1 => ⟨v, _, rfl, h, RepVs.rep h n⟩
theorem RepVs.ints : ∀ ns : List Int, RepVs K R H (ns.map D.int) (ns.map V.int)
  | [] => rfl
  | n :: r => ⟨_, _, rfl, rfl, RepVs.ints r⟩

/-- what is known of the region stays -/
structure Keep (R : Reg) (H : Hp) (R' : Reg) (H' : Hp) : Prop where
  sub : ∀ a, R a → R' a
  old : ∀ a o, R a → H a = some o → H' a = some o
  tups : ∀ a xs, H a = some (.tup xs) → H' a = some (.tup xs)
  frzs : ∀ a o u, H a = some (.frz o u) → H' a = some (.frz o u)
theorem Keep.refl : Keep R H R H := ⟨fun _ h => h, fun _ _ _ h => h, fun _ _ h => h, fun _ _ _ h => h⟩
theorem Keep.trans {R1 : Reg} {H1 : Hp} (a : Keep R H R1 H1) (b : Keep R1 H1 R' H') : Keep R H R' H' :=
  ⟨fun x h => b.sub x (a.sub x h), fun x o r h => b.old x o (a.sub x r) (a.old x o r h), fun x xs h => b.tups x xs (a.tups x xs h), fun x o u h => b.frzs x o u (a.frzs x o u h)⟩
theorem Keep.seqR (k : Keep R H R' H') {a : Addr} {vs : List V} (h : SqR K H a vs) : SqR K H' a vs := h.imp (fun ⟨o, h⟩ => ⟨o, k.frzs _ _ _ h⟩) id
theorem Keep.seqL (k : Keep R H R' H') {a : Addr} {vs : List V} (r : R a) (h : SqL K H a vs) : SqL K H' a vs := by
  rcases h with (h | ⟨o, h⟩) | h
  · exact .inl (.inl (k.old _ _ r h))
  · exact .inl (.inr ⟨o, k.old _ _ r h⟩)
  · exact .inr h
theorem Keep.seqT (k : Keep R H R' H') {a : Addr} {vs : List V} (h : SqT K H a vs) : SqT K H' a vs := by
  rcases h with (h | ⟨o, h⟩) | h
  · exact .inl (.inl (k.tups _ _ h))
  · exact .inl (.inr ⟨o, k.frzs _ _ _ h⟩)
  · exact .inr h
mutual
theorem RepV.keep (k : Keep R H R' H') : ∀ {d : D} {v : V}, RepV K R H d v → RepV K R' H' d v
  | .non, _, h => h
  | .bl _, _, h => h
  | .int _, _, h => h
  | .str _, _, h => h
  | .con _, _, h => h
  | .lst ds, _, ⟨a, vs, e, r, h, g⟩ => ⟨a, vs, e, k.sub _ r, k.old _ _ r h, RepVs.keep k g⟩
  | .ro ds, _, ⟨a, vs, e, h, g⟩ => ⟨a, vs, e, k.seqR h, RepVs.keep k g⟩
  | .tup ds, _, ⟨a, vs, e, h, g⟩ => ⟨a, vs, e, k.seqT h, RepVs.keep k g⟩
  | .ins C ks ds, _, ⟨a, dx, vs, e, r, h, l, g⟩ => ⟨a, dx, vs, e, k.sub _ r, k.old _ _ r h, l, RepVs.keep k g⟩
  | .dic ks ds, _, ⟨a, vs, e, r, h, l, g⟩ => ⟨a, vs, e, k.sub _ r, k.old _ _ r h, l, RepVs.keep k g⟩
  | .dit ks ds, _, ⟨a, vs, e, r, h, l, g⟩ => ⟨a, vs, e, k.sub _ r, k.old _ _ r h, l, RepVs.keep k g⟩
theorem RepVs.keep (k : Keep R H R' H') : ∀ {ds : List D} {vs : List V}, RepVs K R H ds vs → RepVs K R' H' ds vs
  | [], _, h => h
  | d :: ds, _, ⟨v, r, e, h, g⟩ => ⟨v, r, e, RepV.keep k h, RepVs.keep k g⟩
end
theorem RepTop.keep (k : Keep R H R' H') {d : D} {a : Addr} (h : RepTop K R H d a) (e : H' a = H a) : RepTop K R' H' d a := by
  cases d with
  | lst ds => obtain ⟨vs, h1, h2⟩ := h; exact ⟨vs, e.trans h1, h2.keep k⟩
  | ins C ks ds => obtain ⟨dx, vs, h1, l, h2⟩ := h; exact ⟨dx, vs, e.trans h1, l, h2.keep k⟩
  | dic ks ds => obtain ⟨vs, h1, l, h2⟩ := h; exact ⟨vs, e.trans h1, l, h2.keep k⟩
  | dit ks ds => obtain ⟨vs, h1, l, h2⟩ := h; exact ⟨vs, e.trans h1, l, h2.keep k⟩
  | _ => exact h.elim
/-- what stands there is neither a tuple nor frozen -/
theorem RepTop.at {d : D} {a : Addr} (h : RepTop K R H d a) : ∃ o, H a = some o ∧ (∀ xs, o ≠ .tup xs) ∧ ∀ ob u, o ≠ .frz ob u := by
  cases d with
  | lst ds => obtain ⟨vs, h1, h2⟩ := h; exact ⟨_, h1, (fun _ q => by cases q), (fun _ _ q => by cases q)⟩
  | ins C ks ds => obtain ⟨dx, vs, h1, l, h2⟩ := h; exact ⟨_, h1, (fun _ q => by cases q), (fun _ _ q => by cases q)⟩
  | dic ks ds => obtain ⟨vs, h1, l, h2⟩ := h; exact ⟨_, h1, (fun _ q => by cases q), (fun _ _ q => by cases q)⟩
  | dit ks ds => obtain ⟨vs, h1, l, h2⟩ := h; exact ⟨_, h1, (fun _ q => by cases q), (fun _ _ q => by cases q)⟩
  | _ => exact h.elim
theorem RepTop.val {d : D} {a : Addr} (h : RepTop K R H d a) (r : R a) : RepV K R H d (.ref a) := by
  cases d with
  | lst ds => obtain ⟨vs, h1, h2⟩ := h; exact ⟨a, vs, rfl, r, h1, h2⟩
  | ins C ks ds => obtain ⟨dx, vs, h1, l, h2⟩ := h; exact ⟨a, dx, vs, rfl, r, h1, l, h2⟩
  | dic ks ds => obtain ⟨vs, h1, l, h2⟩ := h; exact ⟨a, vs, rfl, r, h1, l, h2⟩
  | dit ks ds => obtain ⟨vs, h1, l, h2⟩ := h; exact ⟨a, vs, rfl, r, h1, l, h2⟩
  | _ => exact h.elim
end

/-! ### slots -/
inductive Sl where
  | un | val (d : D) | own (d : D) | brw (d : D)
def Sl.own? : Sl → Bool
  | .own _ => true
  | .brw _ => true
  | _ => false
abbrev Env := List Sl
def SlRep (K : PySem.W.Frag) (R : Reg) (H : Hp) : Sl → Option V → Prop
  | .un, _ => True
  | .val d, some v => RepV K R H d v
  | .own d, some v => ∃ a, v = .ref a ∧ ¬ R a ∧ RepTop K R H d a
  | .brw d, some v => ∃ a, v = .ref a ∧ ¬ R a ∧ RepTop K R H d a
  | _, none => False
def OwnA (δ : Env) (σ : L2.St) (a : Addr) : Prop := ∃ (i : Nat) (s : Sl), δ[i]? = some s ∧ s.own? = true ∧ σ[i]? = some (some (V.ref a))
/-- the entry of a def: its heap, the addresses that it may change, the region, the slots -/
structure Fx where
  H0 : Hp
  A0 : Reg
  R0 : Reg
  s0 : L2.St
structure Wd (K : PySem.W.Frag) (F : Fx) (R : Reg) (H : Hp) (δ : Env) (σ : L2.St) : Prop where
  rep : ∀ (i : Nat) (s : Sl), δ[i]? = some s → ∃ ov, σ[i]? = some ov ∧ SlRep K R H s ov
  len : δ.length = σ.length
  dis : ∀ (i j : Nat) (s t : Sl) (a : Addr), δ[i]? = some s → δ[j]? = some t → s.own? = true → t.own? = true → σ[i]? = some (some (.ref a)) → σ[j]? = some (some (.ref a)) → i = j
  loc : ∀ (i : Nat) (d : D) (a : Addr), δ[i]? = some (.own d) → σ[i]? = some (some (V.ref a)) → F.H0 a = none
  locB : ∀ (i : Nat) (d : D) (a : Addr), δ[i]? = some (.brw d) → σ[i]? = some (some (V.ref a)) → F.A0 a
  fr : ∀ a o, F.H0 a = some o → ¬ F.A0 a → H a = some o
  sub : ∀ a, F.R0 a → R a
  new : ∀ a, R a → (F.R0 a ∨ F.H0 a = none) ∧ H a ≠ none
  muts : ∀ (i : Nat) d, δ[i]? = some (.brw d) → σ[i]? = F.s0[i]?
  alv : ∀ a, F.H0 a ≠ none → H a ≠ none
  kp : Keep F.R0 F.H0 R H

structure ExtS (S S' : Reg) (R : Reg) (H : Hp) (R' : Reg) (H' : Hp) : Prop where
  sub : ∀ a, R a → R' a
  fresh : ∀ a, R' a → R a ∨ H a = none ∨ S a
  frame : ∀ a o, H a = some o → ¬ S a → H' a = some o
  own : ∀ a, S' a → S a
  alv : ∀ a, H a ≠ none → H' a ≠ none
abbrev Ext (δ δ' : Env) (σ : L2.St) (R : Reg) (H : Hp) (R' : Reg) (H' : Hp) : Prop := ExtS (OwnA δ σ) (OwnA δ' σ) R H R' H'
section
variable {K : PySem.W.Frag} {F : Fx} {R R1 R' : Reg} {H H1 H' : Hp} {δ δ1 δ' : Env} {σ : L2.St} {S S1 S' : Reg}
theorem Ext.refl : ExtS S S R H R H := ⟨fun _ h => h, fun _ h => .inl h, fun _ _ h _ => h, fun _ h => h, fun _ h => h⟩
theorem ExtS.trans (a : ExtS S S1 R H R1 H1) (b : ExtS S1 S' R1 H1 R' H') : ExtS S S' R H R' H' := by
  refine ⟨fun x h => b.sub x (a.sub x h), fun x h => ?_, fun x o h n => b.frame x o (a.frame x o h n) fun q => n (a.own x q), fun x h => a.own x (b.own x h), fun x h => b.alv x (a.alv x h)⟩
  rcases b.fresh x h with h | h | h
  · exact a.fresh x h
  · by_cases q : S x
    · exact .inr (.inr q)
    · refine .inr (.inl ?_)
      cases e : H x with
      | none => rfl
      | some o =>
        have := a.frame x o e q
        rw [h] at this; cases this
  · exact .inr (.inr (a.own x h))
theorem Wd.ownAt (w : Wd K F R H δ σ) {a : Addr} (h : OwnA δ σ a) : ¬ R a ∧ ∃ o, H a = some o ∧ (∀ xs, o ≠ .tup xs) ∧ ∀ ob u, o ≠ .frz ob u := by
  obtain ⟨i, s, e, ho, hs⟩ := h
  obtain ⟨ov, e2, r⟩ := w.rep i s e
  rw [hs] at e2; cases e2
  cases s with
  | un => cases ho
  | val d => cases ho
  | own d => obtain ⟨b, q, n, t⟩ := r; cases q; exact ⟨n, t.at⟩
  | brw d => obtain ⟨b, q, n, t⟩ := r; cases q; exact ⟨n, t.at⟩
theorem Wd.loc' (w : Wd K F R H δ σ) {a : Addr} (h : OwnA δ σ a) : F.A0 a ∨ F.H0 a = none := by
  obtain ⟨i, s, e, ho, hs⟩ := h
  cases s with
  | un => cases ho
  | val d => cases ho
  | own d => exact .inr (w.loc i d a e hs)
  | brw d => exact .inl (w.locB i d a e hs)
theorem ExtS.keep (e : ExtS (OwnA δ σ) S' R H R' H') (w : Wd K F R H δ σ) : Keep R H R' H' := by
  refine ⟨e.sub, fun a o r h => e.frame a o h fun q => (w.ownAt q).1 r, fun a xs h => e.frame a _ h fun q => ?_, fun a ob u h => e.frame a _ h fun q => ?_⟩
  · obtain ⟨_, o, h1, h2, _⟩ := w.ownAt q
    rw [h] at h1; cases h1; exact h2 _ rfl
  · obtain ⟨_, o, h1, _, h2⟩ := w.ownAt q
    rw [h] at h1; cases h1; exact h2 _ _ rfl
end

/-! ### what an expression gives -/
inductive O where
  | dat (d : D) | own (i : Nat) | fre (d : D)
def RepO (K : PySem.W.Frag) (F : Fx) (R : Reg) (H : Hp) (δ : Env) (σ : L2.St) : O → V → Prop
  | .dat d, v => RepV K R H d v
  | .own i, v => σ[i]? = some (some v)
  | .fre d, v => ∃ a, v = .ref a ∧ ¬ R a ∧ ¬ OwnA δ σ a ∧ F.H0 a = none ∧ RepTop K R H d a
def Sl.d? : Sl → Option D
  | .val d => some d
  | .own d => some d
  | .brw d => some d
  | .un => none
def deref (δ : Env) : O → Option D
  | .dat d => some d
  | .fre d => some d
  | .own i => (δ[i]?).bind Sl.d?
/-- v shows d, be it owned or not -/
def RepL (K : PySem.W.Frag) (R : Reg) (H : Hp) (d : D) (v : V) : Prop := RepV K R H d v ∨ ∃ a, v = .ref a ∧ RepTop K R H d a
section
variable {K : PySem.W.Frag} {F : Fx} {R R1 R' : Reg} {H H1 H' : Hp} {δ δ1 δ' : Env} {σ : L2.St}
theorem RepO.ext {o : O} {v : V} (r : RepO K F R H δ σ o v) (w : Wd K F R H δ σ) (e : Ext δ δ' σ R H R' H') : RepO K F R' H' δ' σ o v := by
  cases o with
  | dat d => exact RepV.keep (e.keep w) r
  | own i => exact r
  | fre d =>
    obtain ⟨a, q, n, no, h0, t⟩ := r
    obtain ⟨o, ho, _, _⟩ := t.at
    have e' := e.frame a o ho no
    refine ⟨a, q, fun z => ?_, fun z => no (e.own a z), h0, t.keep (e.keep w) (e'.trans ho.symm)⟩
    rcases e.fresh a z with z | z | z
    · exact n z
    · rw [z] at ho; cases ho
    · exact no z
theorem deref_ok {o : O} {v : V} {d : D} (w : Wd K F R H δ σ) (r : RepO K F R H δ σ o v) (h : deref δ o = some d) : RepL K R H d v := by
  cases o with
  | dat d' => cases h; exact .inl r
  | fre d' =>
    cases h
    obtain ⟨a, q, _, _, _, t⟩ := r
    exact .inr ⟨a, q, t⟩
  | own i =>
    obtain ⟨s, e, h⟩ := Option.bind_eq_some_iff.mp h
    obtain ⟨ov, e2, r2⟩ := w.rep i s e
    have r' : σ[i]? = some (some v) := r
    rw [r'] at e2; cases e2
    cases s with
    | un => cases h
    | val d' => cases h; exact .inl r2
    | own d' => cases h; obtain ⟨a, q, _, t⟩ := r2; exact .inr ⟨a, q, t⟩
    | brw d' => cases h; obtain ⟨a, q, _, t⟩ := r2; exact .inr ⟨a, q, t⟩
theorem RepL.lst {ds : List D} {v : V} (h : RepL K R H (.lst ds) v) : ∃ a vs, v = .ref a ∧ H a = some (.lst vs) ∧ RepVs K R H ds vs := by
  rcases h with ⟨a, vs, e, _, h1, h2⟩ | ⟨a, e, vs, h1, h2⟩
  · exact ⟨a, vs, e, h1, h2⟩
  · exact ⟨a, vs, e, h1, h2⟩
theorem RepL.ro {ds : List D} {v : V} (h : RepL K R H (.ro ds) v) : ∃ a vs, v = .ref a ∧ SqL K H a vs ∧ RepVs K R H ds vs := by
  rcases h with ⟨a, vs, e, h1, h2⟩ | ⟨a, e, h⟩
  · exact ⟨a, vs, e, h1.l, h2⟩
  · exact h.elim
theorem RepL.tup {ds : List D} {v : V} (h : RepL K R H (.tup ds) v) : ∃ a vs, v = .ref a ∧ SqT K H a vs ∧ RepVs K R H ds vs := by
  rcases h with ⟨a, vs, e, h1, h2⟩ | ⟨a, e, h⟩
  · exact ⟨a, vs, e, h1, h2⟩
  · exact h.elim
theorem RepL.ins {C : Addr} {ks : List Str} {ds : List D} {v : V} (h : RepL K R H (.ins C ks ds) v) : ∃ a dx vs, v = .ref a ∧ H a = some (.ins C dx (ks.zip vs)) ∧ ks.length = ds.length ∧ RepVs K R H ds vs := by
  rcases h with ⟨a, dx, vs, e, _, h1, h2⟩ | ⟨a, e, dx, vs, h1, h2⟩
  · exact ⟨a, dx, vs, e, h1, h2⟩
  · exact ⟨a, dx, vs, e, h1, h2⟩
theorem RepL.int {i : Int} {v : V} (h : RepL K R H (.int i) v) : v = .int i := h.elim id fun ⟨_, _, h⟩ => h.elim
theorem RepL.bl {i : Bool} {v : V} (h : RepL K R H (.bl i) v) : v = .bl i := h.elim id fun ⟨_, _, h⟩ => h.elim
theorem RepL.str {i : Str} {v : V} (h : RepL K R H (.str i) v) : v = .str i := h.elim id fun ⟨_, _, h⟩ => h.elim
theorem RepL.non {v : V} (h : RepL K R H .non v) : v = .non := h.elim id fun ⟨_, _, h⟩ => h.elim
theorem RepL.con {u v : V} (h : RepL K R H (.con u) v) : v = u := h.elim id fun ⟨_, _, h⟩ => h.elim
end
end DV

/-! DV2: worlds turned; what readings of expressions give. -/
namespace DV
open PySem L2
section
variable {K : PySem.W.Frag} {F : Fx} {R R1 R' : Reg} {H H1 H' : Hp} {δ δ1 δ' : Env} {σ : L2.St}

theorem SlRep.keep {s : Sl} {ov : Option V} (k : Keep R H R' H') (h : SlRep K R H s ov) (own : ∀ a, s.own? = true → ov = some (.ref a) → ¬ R' a ∧ H' a = H a) : SlRep K R' H' s ov := by
  cases s with
  | un => trivial
  | val d =>
    cases ov with
    | none => exact h
    | some v => exact RepV.keep k h
  | own d =>
    cases ov with
    | none => exact h
    | some v =>
      obtain ⟨a, rfl, n, t⟩ := h
      obtain ⟨h1, h2⟩ := own a rfl rfl
      exact ⟨a, rfl, h1, t.keep k h2⟩
  | brw d =>
    cases ov with
    | none => exact h
    | some v =>
      obtain ⟨a, rfl, n, t⟩ := h
      obtain ⟨h1, h2⟩ := own a rfl rfl
      exact ⟨a, rfl, h1, t.keep k h2⟩
theorem Wd.frE (w : Wd K F R H δ σ) (e : Ext δ δ' σ R H R' H') : ∀ a o, F.H0 a = some o → ¬ F.A0 a → H' a = some o := fun a o h n => by
  refine e.frame a o (w.fr a o h n) fun q => ?_
  rcases w.loc' q with z | z
  · exact n z
  · rw [h] at z; cases z
theorem Wd.next (w : Wd K F R H δ σ) (e : Ext δ δ' σ R H R' H') (len : δ'.length = δ.length) (rep : ∀ (i : Nat) (s : Sl), δ'[i]? = some s → ∃ ov, σ[i]? = some ov ∧ SlRep K R' H' s ov)
    (ow : ∀ (i : Nat) d, δ'[i]? = some (.own d) → ∃ d', δ[i]? = some (.own d')) (mu : ∀ (i : Nat) d, δ'[i]? = some (.brw d) → ∃ d', δ[i]? = some (.brw d'))
    (new : ∀ a, R' a → (F.R0 a ∨ F.H0 a = none) ∧ H' a ≠ none) : Wd K F R' H' δ' σ := by
  have ow' : ∀ (i : Nat) (s : Sl), δ'[i]? = some s → s.own? = true → ∃ t, δ[i]? = some t ∧ t.own? = true := fun i s h ho => by
    cases s with
    | un => cases ho
    | val d => cases ho
    | own d => obtain ⟨d', q⟩ := ow i d h; exact ⟨_, q, rfl⟩
    | brw d => obtain ⟨d', q⟩ := mu i d h; exact ⟨_, q, rfl⟩
  refine ⟨rep, len.trans w.len, fun i j s t a h1 h2 h3 h4 h5 h6 => ?_, fun i d a h g => ?_, fun i d a h g => ?_, w.frE e, fun a h => e.sub a (w.sub a h), new, fun i d h => ?_, fun a h => e.alv a (w.alv a h), w.kp.trans (e.keep w)⟩
  · obtain ⟨s', e1, e2⟩ := ow' i s h1 h3
    obtain ⟨t', e3, e4⟩ := ow' j t h2 h4
    exact w.dis i j s' t' a e1 e3 e2 e4 h5 h6
  · obtain ⟨d', h'⟩ := ow i d h
    exact w.loc i d' a h' g
  · obtain ⟨d', h'⟩ := mu i d h
    exact w.locB i d' a h' g
  · obtain ⟨d', h'⟩ := mu i d h
    exact w.muts i d' h'
theorem Wd.step (w : Wd K F R H δ σ) (e : Ext δ δ σ R H R' H') (own : ∀ a, OwnA δ σ a → ¬ R' a ∧ H' a = H a) (new : ∀ a, R' a → (F.R0 a ∨ F.H0 a = none) ∧ H' a ≠ none) : Wd K F R' H' δ σ := by
  refine w.next e rfl (fun i s h => ?_) (fun i d h => ⟨d, h⟩) (fun i d h => ⟨d, h⟩) new
  obtain ⟨ov, h1, h2⟩ := w.rep i s h
  refine ⟨ov, h1, h2.keep (e.keep w) fun a ho hv => own a ⟨i, s, h, ho, ?_⟩⟩
  rw [h1, hv]
/-- a new object -/
theorem Ext.alloc {p : Addr} {o : HO} (hp : H p = none) : Ext δ δ σ R H R (upd H p o) :=
  ⟨fun _ h => h, fun _ h => .inl h, fun a u h _ => by rw [upd_ne (ne_of_none h hp)]; exact h, fun _ h => h, fun a h => by
    cases e : H a with
    | none => exact absurd e h
    | some u => rw [upd_ne (ne_of_none e hp), e]; exact fun q => by cases q⟩
theorem Wd.alloc (w : Wd K F R H δ σ) {p : Addr} {o : HO} (hp : H p = none) : Wd K F R (upd H p o) δ σ := by
  refine w.step (Ext.alloc hp) (fun a h => ?_) fun a h => ⟨(w.new a h).1, (Ext.alloc (δ := δ) (σ := σ) (R := R) (o := o) hp).alv a (w.new a h).2⟩
  obtain ⟨n, u, hu, _⟩ := w.ownAt h
  exact ⟨n, by rw [upd_ne (ne_of_none hu hp)]⟩
theorem Wd.ownNe (w : Wd K F R H δ σ) {p : Addr} (hp : H p = none) : ¬ OwnA δ σ p := fun h => by
  obtain ⟨_, u, hu, _⟩ := w.ownAt h
  rw [hp] at hu; cases hu
theorem Wd.H0none (w : Wd K F R H δ σ) {p : Addr} (hp : H p = none) : F.H0 p = none := by
  cases e : F.H0 p with
  | none => rfl
  | some o => exact absurd hp (w.alv p (by rw [e]; exact fun q => by cases q))
theorem Wd.RNe (w : Wd K F R H δ σ) {ds : List D} {v : V} {p : Addr} (hp : H p = none) (h : RepV K R H (.lst ds) v) : v ≠ .ref p := fun q => by
  obtain ⟨a, vs, e, _, h1, _⟩ := h
  rw [q] at e; cases e
  rw [hp] at h1; cases h1
/-- the region grows by what is new or no longer owned -/
theorem Wd.addR (w : Wd K F R H δ σ) (sub : ∀ a, R a → R' a) (own : ∀ a, OwnA δ σ a → ¬ R' a) (new : ∀ a, R' a → (F.R0 a ∨ F.H0 a = none) ∧ H a ≠ none) : Wd K F R' H δ σ := by
  have k : Keep R H R' H := ⟨sub, fun _ _ _ h => h, fun _ _ h => h, fun _ _ _ h => h⟩
  refine ⟨fun i s h => ?_, w.len, w.dis, w.loc, w.locB, w.fr, fun a h => sub a (w.sub a h), new, w.muts, w.alv, w.kp.trans k⟩
  obtain ⟨ov, h1, h2⟩ := w.rep i s h
  exact ⟨ov, h1, h2.keep k fun a ho hv => ⟨own a ⟨i, s, h, ho, by rw [h1, hv]⟩, rfl⟩⟩
theorem ExtS.addR (e : Ext δ δ' σ R H R1 H1) (sub : ∀ a, R1 a → R' a) (fr : ∀ a, R' a → R1 a ∨ H a = none ∨ OwnA δ σ a) : Ext δ δ' σ R H R' H1 :=
  ⟨fun a h => sub a (e.sub a h), fun a h => (fr a h).elim (e.fresh a) .inr, e.frame, e.own, e.alv⟩
def RegAdd (R : Reg) (p : Addr) : Reg := fun a => R a ∨ a = p
theorem set_get {α : Type} {l : List α} {i j : Nat} {x y : α} (h : (l.set i x)[j]? = some y) : (i = j ∧ y = x) ∨ (i ≠ j ∧ l[j]? = some y) := by
  by_cases e : i = j
  · subst e
    by_cases q : i < l.length
    · rw [List.getElem?_set_self q] at h; cases h; exact .inl ⟨rfl, rfl⟩
    · rw [List.getElem?_eq_none (by rw [List.length_set]; omega)] at h; cases h
  · rw [List.getElem?_set_ne e] at h; exact .inr ⟨e, h⟩
/-- an owned slot is let go: it is a value from now on -/
theorem Wd.freeze (w : Wd K F R H δ σ) {i : Nat} {d : D} (h : δ[i]? = some (.own d)) :
    ∃ a, σ[i]? = some (some (.ref a)) ∧ Wd K F (RegAdd R a) H (δ.set i (.val d)) σ ∧ Ext δ (δ.set i (.val d)) σ R H (RegAdd R a) H ∧ RepV K (RegAdd R a) H d (.ref a) := by
  obtain ⟨ov, h1, h2⟩ := w.rep i _ h
  cases ov with
  | none => exact h2.elim
  | some v =>
    obtain ⟨a, rfl, n, t⟩ := h2
    have oa : OwnA δ σ a := ⟨i, _, h, rfl, h1⟩
    have ex : Ext δ (δ.set i (.val d)) σ R H (RegAdd R a) H := by
      refine ⟨fun _ h => .inl h, fun b h => ?_, fun _ _ h _ => h, fun b hb => ?_, fun _ h => h⟩
      · rcases h with h | h
        · exact .inl h
        · rw [h]; exact .inr (.inr oa)
      · obtain ⟨j, s, e1, e2, e3⟩ := hb
        rcases set_get e1 with ⟨_, q⟩ | ⟨_, q⟩
        · rw [q] at e2; cases e2
        · exact ⟨j, s, q, e2, e3⟩
    have kp := ex.keep w
    have tv : RepV K (RegAdd R a) H d (.ref a) := (t.keep kp rfl).val (.inr rfl)
    refine ⟨a, h1, w.next ex (by simp) (fun j s hj => ?_) (fun j d' hj => ?_) (fun j d' hj => ?_) fun b hb => ?_, ex, tv⟩
    · rcases set_get hj with ⟨q1, q2⟩ | ⟨q1, q2⟩
      · subst q1; subst q2
        exact ⟨_, h1, tv⟩
      · obtain ⟨ov', e1, e2⟩ := w.rep j s q2
        refine ⟨ov', e1, e2.keep kp fun b ho hv => ⟨?_, rfl⟩⟩
        rw [hv] at e1
        rintro (z | z)
        · exact (w.ownAt ⟨j, s, q2, ho, e1⟩).1 z
        · subst z
          exact q1 (w.dis i j _ s b h q2 rfl ho h1 e1)
    · rcases set_get hj with ⟨_, q⟩ | ⟨_, q⟩
      · cases q
      · exact ⟨d', q⟩
    · rcases set_get hj with ⟨_, q⟩ | ⟨_, q⟩
      · cases q
      · exact ⟨d', q⟩
    · rcases hb with hb | hb
      · exact w.new b hb
      · rw [hb]
        refine ⟨.inr (w.loc i d a h h1), ?_⟩
        obtain ⟨o, ho, _⟩ := t.at
        rw [ho]; exact fun q => by cases q
end
end DV

/-! DV3: what readings of expressions give: the judgements and their rules. -/
namespace DV
open PySem L2

abbrev ME := Env → Option (O × Env)
abbrev MD := Env → Option (D × Env)
abbrev MT := Env → Option (Bool × Env)
abbrev MA := Env → Option (List O × Env)
abbrev MAD := Env → Option (List D × Env)
abbrev MP := Env → Option (Option Int × Env)
def FreO (H : Hp) : O → V → Prop
  | .fre _, v => ∀ a, v = .ref a → H a = none
  | _, _ => True
def Ev (K : PySem.W.Frag) (te : TE) (f : ME) : Prop := ∀ F R H δ σ o δ', Wd K F R H δ σ → f δ = some (o, δ') → ∀ Q : VK,
  (∀ v R' H', Wd K F R' H' δ' σ → Ext δ δ' σ R H R' H' → RepO K F R' H' δ' σ o v → FreO H o v → Q v H') → te σ H Q
def EvD (K : PySem.W.Frag) (te : TE) (f : MD) : Prop := ∀ F R H δ σ d δ', Wd K F R H δ σ → f δ = some (d, δ') → ∀ Q : VK,
  (∀ v R' H', Wd K F R' H' δ' σ → Ext δ δ' σ R H R' H' → RepV K R' H' d v → Q v H') → te σ H Q
def EvT (K : PySem.W.Frag) (t : TT) (f : MT) : Prop := ∀ F R H δ σ b δ', Wd K F R H δ σ → f δ = some (b, δ') → ∀ Q : Bool → Hp → Prop,
  (∀ R' H', Wd K F R' H' δ' σ → Ext δ δ' σ R H R' H' → Q b H') → t σ H Q
def RepOs (K : PySem.W.Frag) (F : Fx) (R : Reg) (H : Hp) (δ : Env) (σ : L2.St) : List O → List V → Prop
  | [], vs => vs = []
  | o :: os, vs => ∃ v r, vs = v :: r ∧ RepO K F R H δ σ o v ∧ RepOs K F R H δ σ os r
def FreOs (H : Hp) : List O → List V → Prop
  | [], _ => True
  | o :: os, vs => ∃ v r, vs = v :: r ∧ FreO H o v ∧ (∀ d, o = .fre d → ∀ (j : Nat) d', os[j]? = some (.fre d') → r[j]? ≠ some v) ∧ FreOs H os r
def EvA (K : PySem.W.Frag) (t : TA) (f : MA) : Prop := ∀ F R H δ σ os δ', Wd K F R H δ σ → f δ = some (os, δ') → ∀ Q : List V → Hp → Prop,
  (∀ vs R' H', Wd K F R' H' δ' σ → Ext δ δ' σ R H R' H' → RepOs K F R' H' δ' σ os vs → FreOs H os vs → Q vs H') → t σ H Q
def EvAD (K : PySem.W.Frag) (t : TA) (f : MAD) : Prop := ∀ F R H δ σ ds δ', Wd K F R H δ σ → f δ = some (ds, δ') → ∀ Q : List V → Hp → Prop,
  (∀ vs R' H', Wd K F R' H' δ' σ → Ext δ δ' σ R H R' H' → RepVs K R' H' ds vs → Q vs H') → t σ H Q
def EvP (K : PySem.W.Frag) (t : TO) (f : MP) : Prop := ∀ F R H δ σ o δ', Wd K F R H δ σ → f δ = some (o, δ') → ∀ Q : Option Int → Hp → Prop,
  (∀ R' H', Wd K F R' H' δ' σ → Ext δ δ' σ R H R' H' → Q o H') → t σ H Q

section
variable {K : PySem.W.Frag} {F : Fx} {R R1 R' : Reg} {H H1 H' : Hp} {δ δ1 δ' : Env} {σ : L2.St}
theorem ExtS.back (e : Ext δ δ' σ R H R' H') {a : Addr} (h : H' a = none) : H a = none := by
  cases q : H a with
  | none => rfl
  | some o => exact absurd h (e.alv a (by rw [q]; exact fun z => by cases z))
theorem FreO.ext {o : O} {v : V} (e : Ext δ δ' σ R H R' H') (h : FreO H' o v) : FreO H o v := by
  cases o with
  | fre d => exact fun a q => e.back (h a q)
  | _ => trivial
theorem FreOs.ext (e : Ext δ δ' σ R H R' H') : ∀ {os : List O} {vs : List V}, FreOs H' os vs → FreOs H os vs
  | [], _, _ => trivial
  | o :: os, vs, ⟨v, r, q, h, n, g⟩ => ⟨v, r, q, h.ext e, n, g.ext e⟩
theorem FreOs.get : ∀ {os : List O} {vs : List V} {i : Nat} {o : O} {v : V}, FreOs H os vs → os[i]? = some o → vs[i]? = some v → FreO H o v
  | [], _, i, _, _, _, e, _ => by simp at e
  | o :: os, vs, 0, o', v', ⟨v, r, e, h, _, _⟩, e1, e2 => by subst e; simp at e1 e2; subst e1; subst e2; exact h
  | o :: os, vs, i + 1, o', v', ⟨v, r, e, _, _, h⟩, e1, e2 => by subst e; exact FreOs.get (i := i) h (by simpa using e1) (by simpa using e2)
theorem RepOs.ext (w : Wd K F R H δ σ) (e : Ext δ δ' σ R H R' H') : ∀ {os : List O} {vs : List V}, RepOs K F R H δ σ os vs → RepOs K F R' H' δ' σ os vs
  | [], _, h => h
  | o :: os, vs, ⟨v, r, q, h, g⟩ => ⟨v, r, q, h.ext w e, g.ext w e⟩
/-- an owned or fresh thing becomes a value -/
def solid : O → Env → Option (D × Env)
  | .dat d, δ => some (d, δ)
  | .fre d, δ => some (d, δ)
  | .own i, δ => match δ[i]? with
    | some (.own d) => some (d, δ.set i (.val d))
    | some (.val d) => some (d, δ)
    | _ => none
theorem solid_ok {o : O} {v : V} {d : D} (w : Wd K F R1 H1 δ1 σ) (e : Ext δ δ1 σ R H R1 H1) (r : RepO K F R1 H1 δ1 σ o v) (fr : FreO H o v) (h : solid o δ1 = some (d, δ')) :
    ∃ R', Wd K F R' H1 δ' σ ∧ Ext δ δ' σ R H R' H1 ∧ RepV K R' H1 d v ∧ Keep R1 H1 R' H1 := by
  cases o with
  | dat d' => cases h; exact ⟨R1, w, e, r, Keep.refl⟩
  | own i =>
    simp only [solid] at h
    cases q : δ1[i]? with
    | none => rw [q] at h; cases h
    | some s =>
      rw [q] at h
      cases s with
      | un => cases h
      | brw d' => cases h
      | val d' =>
        cases h
        obtain ⟨ov, h1, h2⟩ := w.rep i _ q
        have r' : σ[i]? = some (some v) := r
        rw [r'] at h1; cases h1
        exact ⟨R1, w, e, h2, Keep.refl⟩
      | own d' =>
        cases h
        obtain ⟨a, h1, w2, e2, r2⟩ := w.freeze q
        have r' : σ[i]? = some (some v) := r
        rw [r'] at h1; cases h1
        exact ⟨_, w2, e.trans e2, r2, e2.keep w⟩
  | fre d' =>
    cases h
    obtain ⟨a, rfl, n, no, h0, t⟩ := r
    have k : Keep R1 H1 (RegAdd R1 a) H1 := ⟨fun _ h => .inl h, fun _ _ _ h => h, fun _ _ h => h, fun _ _ _ h => h⟩
    refine ⟨RegAdd R1 a, w.addR (fun _ h => .inl h) (fun b hb => ?_) (fun b hb => ?_), e.addR (fun _ h => .inl h) fun b hb => ?_, (t.keep k rfl).val (.inr rfl), k⟩
    · rintro (z | z)
      · exact (w.ownAt hb).1 z
      · subst z; exact no hb
    · rcases hb with z | z
      · exact w.new b z
      · obtain ⟨o, ho, _⟩ := t.at
        rw [z]; exact ⟨.inr h0, by rw [ho]; exact fun q => by cases q⟩
    · rcases hb with z | z
      · exact .inl z
      · rw [z]; exact .inr (.inl (fr a rfl))
def solidE (f : ME) : MD := fun δ => (f δ).bind fun p => solid p.1 p.2
theorem evd {te : TE} {f : ME} (h : Ev K te f) : EvD K te (solidE f) := fun F R H δ σ d δ' w hf Q q => by
  obtain ⟨⟨o, δ1⟩, h1, h2⟩ := Option.bind_eq_some_iff.mp hf
  refine h F R H δ σ o δ1 w h1 Q fun v R1 H1 w1 e1 r1 f1 => ?_
  obtain ⟨R', w2, e2, r2, _⟩ := solid_ok w1 e1 r1 f1 h2
  exact q v R' H1 w2 e2 r2
def datE (f : MD) : ME := fun δ => (f δ).bind fun p => some (.dat p.1, p.2)
theorem ev_of {te : TE} {f : MD} (h : EvD K te f) : Ev K te (datE f) := fun F R H δ σ d δ' w hf Q q => by
  obtain ⟨⟨o, δ1⟩, h1, h2⟩ := Option.bind_eq_some_iff.mp hf
  cases h2
  exact h F R H δ σ o δ1 w h1 Q fun v R1 H1 w1 e1 r1 => q v R1 H1 w1 e1 r1 trivial

/-! ### names, constants -/
def varE (i : Nat) : ME := fun δ => match δ[i]? with
  | some (.val d) => some (.dat d, δ)
  | some (.own _) => some (.own i, δ)
  | some (.brw _) => some (.own i, δ)
  | _ => none
theorem ev_var {i : Nat} : Ev K (tVar i) (varE i) := fun F R H δ σ o δ' w hf Q q => by
  unfold varE at hf
  cases e : δ[i]? with
  | none => rw [e] at hf; cases hf
  | some s =>
    rw [e] at hf
    obtain ⟨ov, h1, h2⟩ := w.rep i s e
    cases s with
    | un => cases hf
    | val d =>
      cases hf
      cases ov with
      | none => exact h2.elim
      | some v => exact ⟨v, h1, q v R H w Ext.refl h2 trivial⟩
    | own d =>
      cases hf
      cases ov with
      | none => exact h2.elim
      | some v => exact ⟨v, h1, q v R H w Ext.refl h1 trivial⟩
    | brw d =>
      cases hf
      cases ov with
      | none => exact h2.elim
      | some v => exact ⟨v, h1, q v R H w Ext.refl h1 trivial⟩
def datC (d : D) : ME := fun δ => some (.dat d, δ)
theorem ev_c {v : V} {d : D} (h : ∀ R H, RepV K R H d v) : Ev K (tC v) (datC d) := fun F R H δ σ o δ' w hf Q q => by
  cases hf
  exact q v R H w Ext.refl (h R H) trivial
theorem ev_int {i : Int} : Ev K (tC (.int i)) (datC (.int i)) := ev_c fun _ _ => rfl
theorem ev_bl {i : Bool} : Ev K (tC (.bl i)) (datC (.bl i)) := ev_c fun _ _ => rfl
theorem ev_str {i : Str} : Ev K (tC (.str i)) (datC (.str i)) := ev_c fun _ _ => rfl
theorem ev_non : Ev K (tC .non) (datC .non) := ev_c fun _ _ => rfl
theorem ev_con {v : V} : Ev K (tC v) (datC (.con v)) := ev_c fun _ _ => rfl

/-! ### two-place operations by values -/
def isNew : O → Prop
  | .own _ => False
  | _ => True
def OpOk (K : PySem.W.Frag) (r : R2) (g : D → D → Option O) : Prop := ∀ F R H δ σ d1 d2 v1 v2 res, Wd K F R H δ σ → RepL K R H d1 v1 → RepL K R H d2 v2 → g d1 d2 = some res → ∀ Q : VK,
  (∀ v R' H', Wd K F R' H' δ σ → Ext δ δ σ R H R' H' → RepO K F R' H' δ σ res v → FreO H res v → Q v H') → r v1 v2 H Q
def opE (g : D → D → Option O) (fa fb : ME) : ME := fun δ => (fa δ).bind fun p => (fb p.2).bind fun q => (deref q.2 p.1).bind fun d1 => (deref q.2 q.1).bind fun d2 => (g d1 d2).bind fun o => some (o, q.2)
theorem ev_op {r : R2} {ta tb : TE} {fa fb : ME} {g : D → D → Option O} (ho : OpOk K r g) (ha : Ev K ta fa) (hb : Ev K tb fb) : Ev K (tOp r ta tb) (opE g fa fb) := fun F R H δ σ o δ' w hf Q q => by
  obtain ⟨⟨o1, δ1⟩, h1, hf⟩ := Option.bind_eq_some_iff.mp hf
  obtain ⟨⟨o2, δ2⟩, h2, hf⟩ := Option.bind_eq_some_iff.mp hf
  obtain ⟨d1, h3, hf⟩ := Option.bind_eq_some_iff.mp hf
  obtain ⟨d2, h4, hf⟩ := Option.bind_eq_some_iff.mp hf
  obtain ⟨res, h5, hf⟩ := Option.bind_eq_some_iff.mp hf
  cases hf
  refine ha F R H δ σ o1 δ1 w h1 _ fun v1 R1 H1 w1 e1 r1 _ => ?_
  refine hb F R1 H1 δ1 σ o2 δ2 w1 h2 _ fun v2 R2 H2 w2 e2 r2 _ => ?_
  refine ho F R2 H2 δ2 σ d1 d2 v1 v2 _ w2 (deref_ok w2 (r1.ext w1 e2) h3) (deref_ok w2 r2 h4) h5 Q fun v R3 H3 w3 e3 r3 f3 => ?_
  exact q v R3 H3 w3 ((e1.trans e2).trans e3) r3 (f3.ext (e1.trans e2))
def UnOk (K : PySem.W.Frag) (r : V → Hp → VK → Prop) (g : D → Option O) : Prop := ∀ F R H δ σ d1 v1 res, Wd K F R H δ σ → RepL K R H d1 v1 → g d1 = some res → ∀ Q : VK,
  (∀ v R' H', Wd K F R' H' δ σ → Ext δ δ σ R H R' H' → RepO K F R' H' δ σ res v → FreO H res v → Q v H') → r v1 H Q
def unE (g : D → Option O) (fa : ME) : ME := fun δ => (fa δ).bind fun p => (deref p.2 p.1).bind fun d1 => (g d1).bind fun o => some (o, p.2)
theorem ev_un {r : V → Hp → VK → Prop} {ta : TE} {fa : ME} {g : D → Option O} (ho : UnOk K r g) (ha : Ev K ta fa) : Ev K (tUn r ta) (unE g fa) := fun F R H δ σ o δ' w hf Q q => by
  obtain ⟨⟨o1, δ1⟩, h1, hf⟩ := Option.bind_eq_some_iff.mp hf
  obtain ⟨d1, h3, hf⟩ := Option.bind_eq_some_iff.mp hf
  obtain ⟨res, h5, hf⟩ := Option.bind_eq_some_iff.mp hf
  cases hf
  refine ha F R H δ σ o1 δ1 w h1 _ fun v1 R1 H1 w1 e1 r1 _ => ?_
  refine ho F R1 H1 δ1 σ d1 v1 _ w1 (deref_ok w1 r1 h3) h5 Q fun v R3 H3 w3 e3 r3 f3 => ?_
  exact q v R3 H3 w3 (e1.trans e3) r3 (f3.ext e1)

/-! ### arguments -/
def nilA : MA := fun δ => some ([], δ)
def consA (f : ME) (g : MA) : MA := fun δ => (f δ).bind fun p => (g p.2).bind fun q => some (p.1 :: q.1, q.2)
theorem ea_nil : EvA K tNil nilA := fun F R H δ σ os δ' w hf Q q => by cases hf; exact q [] R H w Ext.refl rfl trivial
theorem ea_cons {te : TE} {ta : TA} {f : ME} {g : MA} (h : Ev K te f) (hr : EvA K ta g) : EvA K (tCons te ta) (consA f g) := fun F R H δ σ os δ' w hf Q q => by
  obtain ⟨⟨o1, δ1⟩, h1, hf⟩ := Option.bind_eq_some_iff.mp hf
  obtain ⟨⟨o2, δ2⟩, h2, hf⟩ := Option.bind_eq_some_iff.mp hf
  cases hf
  refine h F R H δ σ o1 δ1 w h1 _ fun v1 R1 H1 w1 e1 r1 f1 => ?_
  refine hr F R1 H1 δ1 σ o2 δ2 w1 h2 _ fun v2 R2 H2 w2 e2 r2 f2 => ?_
  have dis : ∀ d, o1 = .fre d → ∀ (j : Nat) d', o2[j]? = some (.fre d') → v2[j]? ≠ some v1 := fun d e j d' h3 h4 => by
    subst e
    obtain ⟨a, e3, _, _, _, t⟩ := r1
    obtain ⟨o, ho, _⟩ := t.at
    have := f2.get h3 h4 a e3
    rw [this] at ho; cases ho
  exact q _ R2 H2 w2 (e1.trans e2) ⟨v1, v2, rfl, r1.ext w1 e2, r2⟩ ⟨v1, v2, rfl, f1, dis, f2.ext e1⟩
def nilD : MAD := fun δ => some ([], δ)
def consD (f : MD) (g : MAD) : MAD := fun δ => (f δ).bind fun p => (g p.2).bind fun q => some (p.1 :: q.1, q.2)
theorem ed_nil : EvAD K tNil nilD := fun F R H δ σ os δ' w hf Q q => by cases hf; exact q [] R H w Ext.refl rfl
theorem ed_cons {te : TE} {ta : TA} {f : MD} {g : MAD} (h : EvD K te f) (hr : EvAD K ta g) : EvAD K (tCons te ta) (consD f g) := fun F R H δ σ os δ' w hf Q q => by
  obtain ⟨⟨o1, δ1⟩, h1, hf⟩ := Option.bind_eq_some_iff.mp hf
  obtain ⟨⟨o2, δ2⟩, h2, hf⟩ := Option.bind_eq_some_iff.mp hf
  cases hf
  refine h F R H δ σ o1 δ1 w h1 _ fun v1 R1 H1 w1 e1 r1 => ?_
  refine hr F R1 H1 δ1 σ o2 δ2 w1 h2 _ fun v2 R2 H2 w2 e2 r2 => ?_
  exact q _ R2 H2 w2 (e1.trans e2) ⟨v1, v2, rfl, r1.keep (e2.keep w1), r2⟩

/-! ### displays -/
theorem RepVs.alloc {p : Addr} {o : HO} (hp : H p = none) {ds : List D} {vs : List V} (h : RepVs K R H ds vs) : RepVs K R (upd H p o) ds vs :=
  h.keep ⟨fun _ h => h, fun a u _ h => by rw [upd_ne (ne_of_none h hp)]; exact h, fun a u h => by rw [upd_ne (ne_of_none h hp)]; exact h, fun a u z h => by rw [upd_ne (ne_of_none h hp)]; exact h⟩
theorem fre_lst (w : Wd K F R H δ σ) {p : Addr} (hp : H p = none) {ds : List D} {vs : List V} (h : RepVs K R H ds vs) : RepO K F R (upd H p (.lst vs)) δ σ (.fre (.lst ds)) (.ref p) := by
  exact ⟨p, rfl, fun z => (w.new p z).2 hp, w.ownNe hp, w.H0none hp, vs, upd_same, h.alloc hp⟩
theorem dat_tup (w : Wd K F R H δ σ) {p : Addr} (hp : H p = none) {ds : List D} {vs : List V} (h : RepVs K R H ds vs) : RepO K F R (upd H p (.tup vs)) δ σ (.dat (.tup ds)) (.ref p) :=
  ⟨p, vs, rfl, .of upd_same, h.alloc hp⟩
end
end DV

/-! DV4: statements, loops. -/
namespace DV
open PySem L2

inductive Fl where
  | nx (δ : Env) | rt (o : O) (δ : Env) | bk (δ : Env) | ct (δ : Env)
abbrev MS := Env → Option Fl
def FlOk (K : PySem.W.Frag) (F : Fx) (R : Reg) (H : Hp) : Fl → Ends → Prop
  | .nx δ, E => ∀ σ' R' H', Wd K F R' H' δ σ' → Keep R H R' H' → E.nx σ' H'
  | .rt o δ, E => ∀ v σ' R' H', Wd K F R' H' δ σ' → Keep R H R' H' → RepO K F R' H' δ σ' o v → E.rt v H'
  | .bk δ, E => ∀ σ' R' H', Wd K F R' H' δ σ' → Keep R H R' H' → E.bk σ' H'
  | .ct δ, E => ∀ σ' R' H', Wd K F R' H' δ σ' → Keep R H R' H' → E.ct σ' H'
def EvS (K : PySem.W.Frag) (t : TS) (f : MS) : Prop := ∀ F R H δ σ fl, Wd K F R H δ σ → f δ = some fl → ∀ E : Ends, FlOk K F R H fl E → t E σ H
section
variable {K : PySem.W.Frag} {F : Fx} {R R1 R' : Reg} {H H1 H' : Hp} {δ δ1 δ' : Env} {σ σ' : L2.St}
theorem FlOk.keep {fl : Fl} {E : Ends} (k : Keep R H R1 H1) (h : FlOk K F R H fl E) : FlOk K F R1 H1 fl E := by
  cases fl with
  | nx δ => exact fun σ' R' H' w k' => h σ' R' H' w (k.trans k')
  | rt o δ => exact fun v σ' R' H' w k' r => h v σ' R' H' w (k.trans k') r
  | bk δ => exact fun σ' R' H' w k' => h σ' R' H' w (k.trans k')
  | ct δ => exact fun σ' R' H' w k' => h σ' R' H' w (k.trans k')
def nextS : MS := fun δ => some (.nx δ)
theorem s_next : EvS K tNext nextS := fun F R H δ σ fl w hf E q => by cases hf; exact q σ R H w Keep.refl
def seqS (f g : MS) : MS := fun δ => (f δ).bind fun fl => match fl with
  | .nx δ' => g δ'
  | fl => some fl
theorem s_seq {t u : TS} {f g : MS} (h1 : EvS K t f) (h2 : EvS K u g) : EvS K (tSeq t u) (seqS f g) := fun F R H δ σ fl w hf E q => by
  obtain ⟨f1, e1, hf⟩ := Option.bind_eq_some_iff.mp hf
  refine h1 F R H δ σ f1 w e1 _ ?_
  cases f1 with
  | nx δ1 => exact fun σ1 R1 H1 w1 k1 => h2 F R1 H1 δ1 σ1 fl w1 hf E (q.keep k1)
  | rt o δ1 => cases hf; exact q
  | bk δ1 => cases hf; exact q
  | ct δ1 => cases hf; exact q
def retS (f : ME) : MS := fun δ => (f δ).bind fun p => some (.rt p.1 p.2)
theorem s_ret {te : TE} {f : ME} (h : Ev K te f) : EvS K (tRet te) (retS f) := fun F R H δ σ fl w hf E q => by
  obtain ⟨⟨o, δ1⟩, e1, hf⟩ := Option.bind_eq_some_iff.mp hf
  cases hf
  exact h F R H δ σ o δ1 w e1 _ fun v R' H' w' e r _ => q v σ R' H' w' (e.keep w) r
def retN : MS := fun δ => some (.rt (.dat .non) δ)
theorem s_retN : EvS K tRetN retN := fun F R H δ σ fl w hf E q => by cases hf; exact q .non σ R H w Keep.refl rfl
def dropS (f : ME) : MS := fun δ => (f δ).bind fun p => some (.nx p.2)
theorem s_drop {te : TE} {f : ME} (h : Ev K te f) : EvS K (tDrop te) (dropS f) := fun F R H δ σ fl w hf E q => by
  obtain ⟨⟨o, δ1⟩, e1, hf⟩ := Option.bind_eq_some_iff.mp hf
  cases hf
  exact h F R H δ σ o δ1 w e1 _ fun v R' H' w' e r _ => q σ R' H' w' (e.keep w)
def ifS (c : MT) (f g : MS) : MS := fun δ => (c δ).bind fun p => if p.1 = true then f p.2 else g p.2
theorem s_if {c : TT} {t u : TS} {fc : MT} {f g : MS} (hc : EvT K c fc) (h1 : EvS K t f) (h2 : EvS K u g) : EvS K (tIfS c t u) (ifS fc f g) := fun F R H δ σ fl w hf E q => by
  obtain ⟨⟨b, δ1⟩, e1, hf⟩ := Option.bind_eq_some_iff.mp hf
  refine hc F R H δ σ b δ1 w e1 _ fun R1 H1 w1 x1 => ?_
  cases b with
  | true => exact h1 F R1 H1 δ1 σ fl w1 hf E (q.keep (x1.keep w))
  | false => exact h2 F R1 H1 δ1 σ fl w1 hf E (q.keep (x1.keep w))
def neverS : MS := fun _ => none
theorem s_never {t : TS} : EvS K t neverS := fun F R H δ σ fl w hf E q => by cases hf
def brkS : MS := fun δ => some (.bk δ)
theorem s_brk : EvS K tBreak brkS := fun F R H δ σ fl w hf E q => by cases hf; exact q σ R H w Keep.refl
def contS : MS := fun δ => some (.ct δ)
theorem s_cont : EvS K tCont contS := fun F R H δ σ fl w hf E q => by cases hf; exact q σ R H w Keep.refl

/-! ### stores into slots -/
theorem ownA_set {i : Nat} {s : Sl} {v : V} {a : Addr} (h : OwnA (δ.set i s) (σ.set i (some v)) a) : (s.own? = true ∧ v = .ref a) ∨ OwnA δ σ a := by
  obtain ⟨j, t, h1, h2, h3⟩ := h
  rcases set_get h1 with ⟨q1, q2⟩ | ⟨q1, q2⟩
  · subst q1; subst q2
    rcases set_get h3 with ⟨_, q⟩ | ⟨q, _⟩
    · exact .inl ⟨h2, (Option.some.inj q).symm⟩
    · exact absurd rfl q
  · rw [List.getElem?_set_ne q1] at h3
    exact .inr ⟨j, t, q2, h2, h3⟩
theorem Wd.setVal (w : Wd K F R H δ σ) {d : D} {v : V} (r : RepV K R H d v) (i : Nat) : Wd K F R H (δ.set i (.val d)) (σ.set i (some v)) := by
  refine ⟨fun j s h => ?_, by rw [List.length_set, List.length_set]; exact w.len, fun j k s t a h1 h2 h3 h4 h5 h6 => ?_, fun j d' a h g => ?_, fun j d' a h g => ?_, w.fr, w.sub, w.new, fun j d' h => ?_, w.alv, w.kp⟩
  · rcases set_get h with ⟨q1, q2⟩ | ⟨q1, q2⟩
    · subst q1; subst q2
      have hl : i < σ.length := by
        have := (List.getElem?_eq_some_iff.mp h).1
        rw [List.length_set, w.len] at this; exact this
      exact ⟨some v, List.getElem?_set_self hl, r⟩
    · rw [List.getElem?_set_ne q1]; exact w.rep j s q2
  · rcases set_get h1 with ⟨q1, q2⟩ | ⟨q1, q2⟩
    · subst q2; cases h3
    · rcases set_get h2 with ⟨q3, q4⟩ | ⟨q3, q4⟩
      · subst q4; cases h4
      · rw [List.getElem?_set_ne q1] at h5
        rw [List.getElem?_set_ne q3] at h6
        exact w.dis j k s t a q2 q4 h3 h4 h5 h6
  · rcases set_get h with ⟨q1, q2⟩ | ⟨q1, q2⟩
    · cases q2
    · rw [List.getElem?_set_ne q1] at g; exact w.loc j d' a q2 g
  · rcases set_get h with ⟨q1, q2⟩ | ⟨q1, q2⟩
    · cases q2
    · rw [List.getElem?_set_ne q1] at g; exact w.locB j d' a q2 g
  · rcases set_get h with ⟨q1, q2⟩ | ⟨q1, q2⟩
    · cases q2
    · rw [List.getElem?_set_ne q1]; exact w.muts j d' q2
theorem Wd.setOwn (w : Wd K F R H δ σ) {d : D} {v : V} (r : RepO K F R H δ σ (.fre d) v) (i : Nat) : Wd K F R H (δ.set i (.own d)) (σ.set i (some v)) := by
  obtain ⟨p, rfl, n, no, h0, t⟩ := r
  refine ⟨fun j s h => ?_, by rw [List.length_set, List.length_set]; exact w.len, fun j k s t' a h1 h2 h3 h4 h5 h6 => ?_, fun j d' a h g => ?_, fun j d' a h g => ?_, w.fr, w.sub, w.new, fun j d' h => ?_, w.alv, w.kp⟩
  · rcases set_get h with ⟨q1, q2⟩ | ⟨q1, q2⟩
    · subst q1; subst q2
      have hl : i < σ.length := by
        have := (List.getElem?_eq_some_iff.mp h).1
        rw [List.length_set, w.len] at this; exact this
      exact ⟨_, List.getElem?_set_self hl, p, rfl, n, t⟩
    · rw [List.getElem?_set_ne q1]; exact w.rep j s q2
  · rcases set_get h1 with ⟨q1, q2⟩ | ⟨q1, q2⟩
    · rcases set_get h2 with ⟨q3, q4⟩ | ⟨q3, q4⟩
      · exact q1.symm.trans q3
      · rw [List.getElem?_set_ne q3] at h6
        rcases set_get h5 with ⟨_, q⟩ | ⟨q, _⟩
        · have e : p = a := by cases q; rfl
          subst e
          exact absurd ⟨k, t', q4, h4, h6⟩ no
        · exact absurd q1 q
    · rw [List.getElem?_set_ne q1] at h5
      rcases set_get h2 with ⟨q3, q4⟩ | ⟨q3, q4⟩
      · rcases set_get h6 with ⟨_, q⟩ | ⟨q, _⟩
        · have e : p = a := by cases q; rfl
          subst e
          exact absurd ⟨j, s, q2, h3, h5⟩ no
        · exact absurd q3 q
      · rw [List.getElem?_set_ne q3] at h6
        exact w.dis j k s t' a q2 q4 h3 h4 h5 h6
  · rcases set_get h with ⟨q1, q2⟩ | ⟨q1, q2⟩
    · rcases set_get g with ⟨_, q⟩ | ⟨q, _⟩
      · cases q; exact h0
      · exact absurd q1 q
    · rw [List.getElem?_set_ne q1] at g; exact w.loc j d' a q2 g
  · rcases set_get h with ⟨q1, q2⟩ | ⟨q1, q2⟩
    · cases q2
    · rw [List.getElem?_set_ne q1] at g; exact w.locB j d' a q2 g
  · rcases set_get h with ⟨q1, q2⟩ | ⟨q1, q2⟩
    · cases q2
    · rw [List.getElem?_set_ne q1]; exact w.muts j d' q2
/-- x = e -/
def asgS (i : Nat) (f : ME) : MS := fun δ => (f δ).bind fun p => match p.1 with
  | .dat d => some (.nx (p.2.set i (.val d)))
  | .fre d => some (.nx (p.2.set i (.own d)))
  | .own j => (solid (.own j) p.2).bind fun q => some (.nx (q.2.set i (.val q.1)))
theorem s_asg {te : TE} {f : ME} {i : Nat} (h : Ev K te f) : EvS K (tAsg te (gName i)) (asgS i f) := fun F R H δ σ fl w hf E q => by
  obtain ⟨⟨o, δ1⟩, e1, hf⟩ := Option.bind_eq_some_iff.mp hf
  refine h F R H δ σ o δ1 w e1 _ fun v R1 H1 w1 x1 r1 f1 => ?_
  show E.nx (σ.set i (some v)) H1
  cases o with
  | dat d => cases hf; exact q _ R1 H1 (w1.setVal r1 i) (x1.keep w)
  | fre d => cases hf; exact q _ R1 H1 (w1.setOwn r1 i) (x1.keep w)
  | own j =>
    obtain ⟨⟨d, δ2⟩, e2, hf⟩ := Option.bind_eq_some_iff.mp hf
    obtain ⟨R2, w2, x2, r2, k2⟩ := solid_ok w1 x1 r1 f1 e2
    cases hf
    exact q _ R2 H1 (w2.setVal r2 i) (x2.keep w)

/-! ### targets -/
def Grow (H H' : Hp) : Prop := ∀ a o, H a = some o → H' a = some o
theorem Grow.refl : Grow H H := fun _ _ h => h
theorem Grow.trans (a : Grow H H1) (b : Grow H1 H') : Grow H H' := fun x o h => b x o (a x o h)
theorem Grow.new {p : Addr} {o : HO} (hp : H p = none) : Grow H (upd H p o) := fun a u h => by rw [upd_ne (ne_of_none h hp)]; exact h
theorem Grow.keep (g : Grow H H') : Keep R H R H' := ⟨fun _ h => h, fun a o _ h => g a o h, fun a xs h => g a _ h, fun a o u h => g a _ h⟩
theorem Grow.ext (g : Grow H H') {S : Reg} : ExtS S S R H R H' := ⟨fun _ h => h, fun _ h => .inl h, fun a o h _ => g a o h, fun _ h => h, fun a h => by
  cases e : H a with
  | none => exact absurd e h
  | some o => rw [g a o e]; exact fun q => by cases q⟩
abbrev MG := D → Env → Option Env
def EvG (K : PySem.W.Frag) (g : TG) (f : MG) : Prop := ∀ F R H δ σ d v δ', Wd K F R H δ σ → RepV K R H d v → f d δ = some δ' → ∀ Q : L2.St → Hp → Prop,
  (∀ σ' H', Wd K F R H' δ' σ' → Grow H H' → (∀ a, OwnA δ' σ' a → OwnA δ σ a) → Q σ' H') → g v σ H Q
def EvGs (K : PySem.W.Frag) (g : TGs) (f : List D → Env → Option Env) : Prop := ∀ F R H δ σ ds vs δ', Wd K F R H δ σ → RepVs K R H ds vs → f ds δ = some δ' → ∀ Q : L2.St → Hp → Prop,
  (∀ σ' H', Wd K F R H' δ' σ' → Grow H H' → (∀ a, OwnA δ' σ' a → OwnA δ σ a) → Q σ' H') → g vs σ H Q
def nameG (i : Nat) : MG := fun d δ => some (δ.set i (.val d))
theorem g_name {i : Nat} : EvG K (gName i) (nameG i) := fun F R H δ σ d v δ' w r hf Q q => by
  cases hf
  exact q _ H (w.setVal r i) Grow.refl fun a h => (ownA_set h).elim (fun z => by cases z.1) id
def nilG : List D → Env → Option Env := fun ds δ => match ds with
  | [] => some δ
  | _ => none
def consG (f : MG) (g : List D → Env → Option Env) : List D → Env → Option Env := fun ds δ => match ds with
  | d :: r => (f d δ).bind fun δ1 => g r δ1
  | [] => none
theorem gs_nil : EvGs K gNil nilG := fun F R H δ σ ds vs δ' w r hf Q q => by
  cases ds with
  | nil => cases hf; exact ⟨r, q σ H w Grow.refl fun _ h => h⟩
  | cons _ _ => cases hf
theorem RepVs.grow {ds : List D} {vs : List V} (g : Grow H H') (h : RepVs K R H ds vs) : RepVs K R H' ds vs := h.keep g.keep
theorem gs_cons {g : TG} {gs : TGs} {f : MG} {fs : List D → Env → Option Env} (h1 : EvG K g f) (h2 : EvGs K gs fs) : EvGs K (gCons g gs) (consG f fs) := fun F R H δ σ ds vs δ' w r hf Q q => by
  cases ds with
  | nil => cases hf
  | cons d ds =>
    obtain ⟨v, vr, e, r1, r2⟩ := r
    obtain ⟨δ1, e1, hf⟩ := Option.bind_eq_some_iff.mp hf
    refine ⟨v, vr, e, h1 F R H δ σ d v δ1 w r1 e1 _ fun σ1 H1 w1 g1 o1 => ?_⟩
    exact h2 F R H1 δ1 σ1 ds vr δ' w1 (r2.grow g1) hf Q fun σ2 H2 w2 g2 o2 => q σ2 H2 w2 (g1.trans g2) fun a h => o1 a (o2 a h)
def tupG (n : Nat) (fs : List D → Env → Option Env) : MG := fun d δ => match d with
  | .tup ds => if ds.length = n then fs ds δ else none
  | _ => none
theorem g_tup {gs : TGs} {fs : List D → Env → Option Env} {n : Nat} (h : EvGs K gs fs) : EvG K (gTup K n gs) (tupG n fs) := fun F R H δ σ d v δ' w r hf Q q => by
  cases d with
  | tup ds =>
    obtain ⟨a, vs, e, hs, rs⟩ := r
    simp only [tupG] at hf
    by_cases c : ds.length = n
    · rw [if_pos c] at hf
      exact ⟨a, vs, e, hs, by rw [← rs.length]; exact c, h F R H δ σ ds vs δ' w rs hf Q q⟩
    · rw [if_neg c] at hf; cases hf
  | _ => cases hf
/-- target = e -/
def letS (f : MD) (g : MG) : MS := fun δ => (f δ).bind fun p => (g p.1 p.2).bind fun δ' => some (.nx δ')
theorem s_let {te : TE} {f : MD} {g : TG} {fg : MG} (h : EvD K te f) (hg : EvG K g fg) : EvS K (tAsg te g) (letS f fg) := fun F R H δ σ fl w hf E q => by
  obtain ⟨⟨d, δ1⟩, e1, hf⟩ := Option.bind_eq_some_iff.mp hf
  obtain ⟨δ2, e2, hf⟩ := Option.bind_eq_some_iff.mp hf
  cases hf
  refine h F R H δ σ d δ1 w e1 _ fun v R1 H1 w1 x1 r1 => ?_
  exact hg F R1 H1 δ1 σ d v δ2 w1 r1 e2 _ fun σ2 H2 w2 g2 _ => q σ2 R1 H2 w2 ((x1.keep w).trans g2.keep)

/-! ### for, while -/
def ItOk (K : PySem.W.Frag) (J : It) (R : Reg) (H : Hp) (ds : List D) : Prop := ∀ R' H', Keep R H R' H' → ∀ F δ σ, Wd K F R' H' δ σ → ∀ i : Nat,
  (∀ d, ds[i]? = some d → J.go i H' ∧ ∀ x H'', J.yld i H' x H'' → Wd K F R' H'' δ σ ∧ Grow H' H'' ∧ RepV K R' H'' d x) ∧ (ds.length ≤ i → J.stop i H')
abbrev MI := Env → Option (List D × Env)
def EvI (K : PySem.W.Frag) (wi : TI) (f : MI) : Prop := ∀ F R H δ σ ds δ', Wd K F R H δ σ → f δ = some (ds, δ') → ∀ Q : It → Hp → Prop,
  (∀ J R' H', Wd K F R' H' δ' σ → Ext δ δ' σ R H R' H' → ItOk K J R' H' ds → Q J H') → wi σ H Q
def loopL (g : MG) (b : MS) : List D → MS
  | [], δ => some (.nx δ)
  | d :: r, δ => (g d δ).bind fun δ1 => (b δ1).bind fun fl => match fl with
    | .nx δ2 => loopL g b r δ2
    | .ct δ2 => loopL g b r δ2
    | .bk δ2 => some (.nx δ2)
    | .rt o δ2 => some (.rt o δ2)
def forS (fi : MI) (g : MG) (b : MS) : MS := fun δ => (fi δ).bind fun p => loopL g b p.1 p.2
theorem s_for {wi : TI} {fi : MI} {g : TG} {fg : MG} {tb : TS} {fb : MS} (hi : EvI K wi fi) (hg : EvG K g fg) (hb : EvS K tb fb) : EvS K (tFor wi g tb) (forS fi fg fb) := fun F R H δ σ fl w hf E q => by
  obtain ⟨⟨ds, δ1⟩, e1, hf⟩ := Option.bind_eq_some_iff.mp hf
  refine hi F R H δ σ ds δ1 w e1 _ fun J R1 H1 w1 x1 hJ => ?_
  have q1 := q.keep (x1.keep w)
  refine ⟨fun i m σ H => m = ds.length - i ∧ i ≤ ds.length ∧ ∃ R δ, Wd K F R H δ σ ∧ Keep R1 H1 R H ∧ loopL fg fb (ds.drop i) δ = some fl, ⟨ds.length, by simp, Nat.zero_le _, R1, δ1, w1, Keep.refl, by simpa using hf⟩, ?_⟩
  rintro i m σ2 H2 ⟨rfl, hi, R2, δ2, w2, k2, hl⟩
  have it := hJ R2 H2 k2 F δ2 σ2 w2 i
  by_cases hlt : i < ds.length
  · have hd : ds[i]? = some ds[i] := by simp [hlt]
    rw [List.drop_eq_getElem_cons hlt] at hl
    obtain ⟨δ3, e3, hl⟩ := Option.bind_eq_some_iff.mp hl
    obtain ⟨f4, e4, hl⟩ := Option.bind_eq_some_iff.mp hl
    obtain ⟨go, yl⟩ := it.1 _ hd
    refine .inr ⟨go, fun σ' H' => i + 1 ≤ ds.length ∧ ∃ R δ, Wd K F R H' δ σ' ∧ Keep R1 H1 R H' ∧ loopL fg fb (ds.drop (i + 1)) δ = some fl, fun σ' H' h => ⟨_, ?_, rfl, h⟩, fun x H3 y => ?_⟩
    · omega
    obtain ⟨w3, g3, r3⟩ := yl x H3 y
    refine hg F R2 H3 δ2 σ2 _ x δ3 w3 r3 e3 _ fun σ4 H4 w4 g4 _ => ?_
    have k4 : Keep R1 H1 R2 H4 := k2.trans ((g3.trans g4).keep)
    refine hb F R2 H4 δ3 σ4 f4 w4 e4 _ ?_
    cases f4 with
    | nx δ5 => exact fun σ5 R5 H5 w5 k5 => ⟨hlt, R5, δ5, w5, k4.trans k5, hl⟩
    | ct δ5 => exact fun σ5 R5 H5 w5 k5 => ⟨hlt, R5, δ5, w5, k4.trans k5, hl⟩
    | bk δ5 => cases hl; exact q1.keep k4
    | rt o δ5 => cases hl; exact q1.keep k4
  · rw [List.drop_eq_nil_of_le (by omega)] at hl
    cases hl
    exact .inl ⟨it.2 (by omega), q1 σ2 R2 H2 w2 k2⟩
def whileL (c : MT) (b : MS) : Nat → MS
  | 0, _ => none
  | n + 1, δ => (c δ).bind fun p => if p.1 = true then (b p.2).bind fun fl => match fl with
    | .nx δ2 => whileL c b n δ2
    | .ct δ2 => whileL c b n δ2
    | .bk δ2 => some (.nx δ2)
    | .rt o δ2 => some (.rt o δ2)
    else some (.nx p.2)
theorem s_while {c : TT} {fc : MT} {tb : TS} {fb : MS} (n : Nat) (hc : EvT K c fc) (hb : EvS K tb fb) : EvS K (tWhile c tb) (whileL fc fb n) := fun F R H δ σ fl w hf E q => by
  refine ⟨fun m σ H' => ∃ R' δ, Wd K F R' H' δ σ ∧ Keep R H R' H' ∧ whileL fc fb m δ = some fl, ⟨n, R, δ, w, Keep.refl, hf⟩, ?_⟩
  rintro m σ1 H1 ⟨R1, δ1, w1, k1, hl⟩
  cases m with
  | zero => cases hl
  | succ m =>
    obtain ⟨⟨b, δ2⟩, e2, hl⟩ := Option.bind_eq_some_iff.mp hl
    refine hc F R1 H1 δ1 σ1 b δ2 w1 e2 _ fun R2 H2 w2 x2 => ?_
    have k2 := k1.trans (x2.keep w1)
    cases b with
    | false =>
      simp only [Bool.false_eq_true, if_false] at hl
      cases hl
      exact q σ1 R2 H2 w2 k2
    | true =>
      simp only [if_true] at hl
      obtain ⟨f3, e3, hl⟩ := Option.bind_eq_some_iff.mp hl
      refine ⟨fun σ' H' => ∃ R' δ, Wd K F R' H' δ σ' ∧ Keep R H R' H' ∧ whileL fc fb m δ = some fl, fun σ' H' h => ⟨m, Nat.lt_succ_self m, h⟩, hb F R2 H2 δ2 σ1 f3 w2 e3 _ ?_⟩
      cases f3 with
      | nx δ5 => exact fun σ5 R5 H5 w5 k5 => ⟨R5, δ5, w5, k2.trans k5, hl⟩
      | ct δ5 => exact fun σ5 R5 H5 w5 k5 => ⟨R5, δ5, w5, k2.trans k5, hl⟩
      | bk δ5 => cases hl; exact q.keep k2
      | rt o δ5 => cases hl; exact q.keep k2
end
end DV

/-! DVG: promises of defs that are called where no repr runs around (guards = []); so repr(x) can be told. -/
namespace DVG
open PySem PySem.Spec PyProof.Rows L2
/-- room for k calls, and no repr around -/
structure Rm (bb : Bool) (k : Nat) (A : Around) : Prop where
  r : Room k A
  g : bb = true → A.guards = some []
theorem Rm.mono {j k : Nat} {A : Around} (h : Rm bb k A) (l : j ≤ k) : Rm bb j A := ⟨h.r.mono l, h.g⟩
theorem Rm.deeper {k : Nat} {A : Around} (h : Rm bb (k + 1) A) (env : Env) : Rm bb k (A.deeper env) := ⟨h.r.deeper env, h.g⟩
theorem Rm.make {k : Nat} {A : Around} (h : Rm bb (k + 1) A) (C : Addr) (us : List Value) (kw : List (Str × Value)) : Rm bb k (A.under (.builtin "type.__call__" ⟨.ref C :: us, kw⟩)) :=
  ⟨h.r.make C us kw, by
    have e : (Code.builtin "type.__call__" ⟨.ref C :: us, kw⟩).isGuard = false := by show guardIds.contains "type.__call__" = false; decide +kernel
    exact fun hb => by simp [Around.under, Code.guards, e, pushGuards, h.g hb]⟩
theorem Rm.low {bb : Bool} {k : Nat} {A : Around} (h : Rm bb k A) : Rm false k A := ⟨h.r, fun q => by cases q⟩
structure FnG (bb : Bool) (P : Program) (w : World) (K : PySem.W.Frag) (mg : Str → Option Value) (base : Heap) (CX : CXT) (k : Nat) (f : Addr) (fd : FuncData) (ps : List Str) (sp : Sp) : Prop where
  len : ∀ vs H Q E, sp vs H Q E → vs.length = ps.length
  run : ∀ (A : Around) (outer : List Env) (s : Shared) (H : Hp) (args : Args) (us : List Value) (vs : List V) (Q : VK) (E : XK), Rm bb k A → Env0 P w K mg base A outer s H → BindsTo s fd args (ps.zip us) → Vals vs us → sp vs H Q E →
    codeAny (model P w) A (.call (.ref f) args) (CR CX outer P w H s Q E) s
theorem FnG.mono {P : Program} {w : World} {K : PySem.W.Frag} {mg : Str → Option Value} {base : Heap} {CX : CXT} {j k : Nat} {f : Addr} {fd : FuncData} {ps : List Str} {sp : Sp} (F : FnG bb P w K mg base CX j f fd ps sp) (h : j ≤ k) : FnG bb P w K mg base CX k f fd ps sp :=
  ⟨F.len, fun A o s H a us vs Q E hr => F.run A o s H a us vs Q E (hr.mono h)⟩
section
variable {P : Program} {w : World} {K : PySem.W.Frag} {mg : Str → Option Value} {base : Heap}
/-- a def by its body -/
theorem fnG {CX : CXT} {x qual : Str} {st : Stmt} {f : Addr} {fd : FuncData} {N ps : List Str} {k : Nat} {sp : Sp} (F : L2.Fun K x qual st f fd) (S : FnScope N ps (defScope st)) (len : ∀ vs H Q E, sp vs H Q E → vs.length = ps.length)
    (body : ∀ (cdv : Value) (A : Around) (outer : List Env) (s : Shared) (H : Hp) (vs : List V) (Q : VK) (E : XK), Rm bb k (A.deeper (envOfC qual (defScope st) s.heap.objs.size f cdv)) → sp vs H Q E →
      ∃ t, PSs (cxOf CX P w K mg base N qual (defScope st) f cdv A outer s H E) (defBody st) t ∧ t { nx := fun _ H' => Q .non H', rt := Q } (L2.start N vs) H) : FnG bb P w K mg base CX (k + 1) f fd ps sp := by
  obtain ⟨oc, od, kV, doc, pm, an, cdv, ct, osl, rfl, lk, hc⟩ := F.ex
  constructor
  · exact len
  intro A outer s H args us vs Q E rm e0 bd rv hsp
  have KX : K.In s.heap := e0.mod.kin.keeps fun b o e => (e0.bs b o e).1
  have nl : s.heap.NoLimit := e0.mod.nolimit.keeps fun b o e => (e0.bs b o e).1
  refine codeAny_call_function rm.r.depth (KX _ _ lk) rfl S.co S.gen rfl (PySem.W.codeRec_of KX hc) (bd _ _ _ _ ?_)
  refine wpAny_newFunctionEnv_cells S.kind (fun y hy => ?_) fun env he s1 ic => ?_
  · obtain ⟨n, v⟩ := y
    exact (S.par n (List.of_mem_zip hy).1).imp id fun q => ⟨q, PySem.W.cellsFrom_some _ _ _ (.inl q)⟩
  subst he
  refine ⟨nl.keeps ic.toInCall.keep, codeAny_func ?_⟩
  obtain ⟨t, d, q⟩ := body cdv A outer s H vs Q E (rm.deeper _) hsp
  refine wpAny_mono (d.run [] s1 _ H _ (inv_start S rm.r.hd e0 (len _ _ _ _ hsp) rv ic) q) (fun fl s' z => ?_) fun _ _ z => z
  match fl, z with
  | .ret u, ⟨v, _, H', J, r, q⟩ => exact ⟨v, H', J.os, J.bare, J.base, J.hok, r, q⟩
  | .next, ⟨_, H', J, q⟩ => exact ⟨V.non, H', J.os, J.bare, J.base, J.hok, rfl, q⟩
  | .brk, ⟨_, _, _, q⟩ => exact q.elim
  | .cont, ⟨_, _, _, q⟩ => exact q.elim
end
section
variable {X : Cx} {CX : CXT} {k : Nat} {f C : Addr} {fd : FuncData} {ps ks : List Str} {sp : Sp} {dvs : List V} {ds : List Value} {E : XK} {x m : Str} {p pos apos : Pos} {e o : Expr} {es : List Expr} {kws : List Keyword} {ta : TE} {t tk : TA} {g : List Value → List Value → List Value} {gV : List V → List V → List V}
theorem back {pins : List (Addr × Obj)} {σ : L2.St} {H : Hp} {s s' : Shared} {Q : VK} {r : Result} (hx : Passes CX X E) (I : Inv X pins σ H s) (h : CR CX X.stack X.prog X.w H s Q E r s') :
    (match r with | .ok (.ret u) => EP X pins σ Q u s' | .error e => X.xe e s' | _ => False) := by
  match r, h with
  | .error e, h => exact hx pins σ H s e s' I h
  | .ok (.ret u), h => exact I.after h
  | .ok .next, h => exact h
  | .ok .brk, h => exact h
  | .ok .cont, h => exact h
theorem callG {pins : List (Addr × Obj)} {σ : L2.St} {H : Hp} {s : Shared} {Q : VK} {us : List Value} {vs : List V} (F : FnG bb X.prog X.w X.K X.mg X.base CX k f fd ps sp) (hr : Rm bb k X.A) (hb : Binds X.K fd ps ds) (hd : Vals dvs ds) (hx : Passes CX X E)
    (I : Inv X pins σ H s) (r : Vals vs us) (h : sp (vs ++ dvs) H Q E) : wpAny (model X.prog X.w) X.A (call (.ref f) us) (EP X pins σ Q) X.xe s := by
  have rr := r.append hd
  refine wpAny_call (codeAny_mono (F.run X.A X.stack s H ⟨us, []⟩ (us ++ ds) (vs ++ dvs) Q E hr I.env0 (hb s us I.kIn (by rw [← rr.length]; exact F.len _ _ _ _ h)) rr h) fun r s' z => ?_)
  revert z
  match r with
  | .error _ => exact fun z => back hx I z
  | .ok (.ret _) => exact fun z => back hx I z
  | .ok .next => exact fun z => (back hx I z).elim
  | .ok .brk => exact fun z => (back hx I z).elim
  | .ok .cont => exact fun z => (back hx I z).elim
/-- f(e, ..) -/
theorem pe_callG (F : FnG bb X.prog X.w X.K X.mg X.base CX k f fd ps sp) (hr : Rm bb k X.A) (hg : Gl X x) (hm : X.mg x = some (.ref f)) (hk : PySem.W.keepIn X.K (.ref f) = true) (hb : Binds X.K fd ps ds) (hd : Vals dvs ds) (hx : Passes CX X E)
    (ha : PA X (e :: es) t) (hdb : (x == ("__debug__" : Str)) = false := by decide) (he : starEach (e :: es) X.env = (false, eval e X.env) :: starEach es X.env := by rfl) (hpl : (backTo pos (starEach es X.env)).any (·.1) = false := by rfl) :
    PE X (.Call (.Name x p) (e :: es) [] pos) (tCall sp dvs E t) :=
  ⟨fun pins s σ H Q I h => wpAny_Call_Name_kw (ld_glob I hg hm (PySem.W.callWith_K (h₀ := X.base) I.ok.mod.kin hk (thn (ha.run pos pins s σ H _ I h) fun us s1 ⟨vs, H1, I1, r, q⟩ => ⟨I1.kIn, callG F hr hb hd hx I1 r q⟩) he hpl) hdb)⟩
/-- f() -/
theorem pe_callG0 (F : FnG bb X.prog X.w X.K X.mg X.base CX k f fd ps sp) (hr : Rm bb k X.A) (hg : Gl X x) (hm : X.mg x = some (.ref f)) (hk : PySem.W.keepIn X.K (.ref f) = true) (hb : Binds X.K fd ps ds) (hd : Vals dvs ds) (hx : Passes CX X E)
    (hdb : (x == ("__debug__" : Str)) = false := by decide) : PE X (.Call (.Name x p) [] [] pos) (tCall sp dvs E tNil) :=
  ⟨fun pins s σ H Q I h => wpAny_Call_Name_kw (ld_glob I hg hm (PySem.W.callWith_K0 I.kIn hk (callG (us := []) F hr hb hd hx I .nil h)) hdb)⟩
/-- f(e, .., k = v) -/
theorem pe_callGK (F : FnG bb X.prog X.w X.K X.mg X.base CX k f fd ps sp) (hr : Rm bb k X.A) (hg : Gl X x) (hm : X.mg x = some (.ref f)) (hk : PySem.W.keepIn X.K (.ref f) = true) (hb : KBinds X.K fd ps ks g gV) (hx : Passes CX X E)
    (ha : PA X (e :: es) t) (hkw : PK X kws tk) (hall : (backToKw pos (keywordEach kws X.env)).all (·.1.isSome) = true := by rfl) (hks : (backToKw pos (keywordEach kws X.env)).filterMap (·.1) = ks := by rfl)
    (hdb : (x == ("__debug__" : Str)) = false := by decide) (he : starEach (e :: es) X.env = (false, eval e X.env) :: starEach es X.env := by rfl)
    (hpl : ((backTo pos (starEach (e :: es) X.env)).any (·.1) || (backToKw pos (keywordEach kws X.env)).any (·.1.isNone)) = false := by rfl) :
    PE X (.Call (.Name x p) (e :: es) kws pos) (tCallK sp gV E t tk) := by
  constructor
  intro pins s σ H Q I h
  refine wpAny_Call_Name_kw (ld_glob I hg hm (PySem.W.callWith_KW (h₀ := X.base) I.ok.mod.kin hk hall (thn (ha.run pos pins s σ H _ I h) fun us s1 ⟨vs, H1, I1, r, q⟩ => ?_) hpl he) hdb)
  refine thn (hkw.run pos pins s1 σ H1 _ I1 q) fun ws s2 ⟨zs, H2, I2, rz, q2⟩ => ⟨I2.kIn, ?_⟩
  rw [hks]
  have rr := hb.rel r rz
  refine wpAny_call (codeAny_mono (F.run X.A X.stack s2 H2 ⟨us, ks.zip ws⟩ (g us ws) (gV vs zs) Q E hr I2.env0 (hb.to s2 us ws I2.kIn (by rw [← rr.length]; exact F.len _ _ _ _ q2)) rr q2) fun r s' z => ?_)
  revert z
  match r with
  | .error _ => exact fun z => back hx I2 z
  | .ok (.ret _) => exact fun z => back hx I2 z
  | .ok .next => exact fun z => (back hx I2 z).elim
  | .ok .brk => exact fun z => (back hx I2 z).elim
  | .ok .cont => exact fun z => (back hx I2 z).elim
/-- o.m(e, ..) -/
theorem pe_methG {pl : Sem Bool} (he : PE X o ta) (c : Cls X.K C) (hm : Meth X.K C m f) (F : FnG bb X.prog X.w X.K X.mg X.base CX k f fd ps sp) (hr : Rm bb k X.A) (hb : Binds X.K fd ps ds) (hd : Vals dvs ds) (hx : Passes CX X E) (ha : PA X (e :: es) t)
    (hst : starEach (e :: es) X.env = (false, eval e X.env) :: starEach es X.env := by rfl) (hpl : (backTo pos (starEach es X.env)).any (·.1) = false := by rfl)
    (ht : eval (.Call (.Attribute o m apos) (e :: es) [] pos) X.env = (do
      let ov ← eval o X.env
      standAt apos.atName
      let (f, first) ← holding [ov] (getMethod ov m pl)
      callWith pos f first (backTo pos (starEach (e :: es) X.env)) (backToKw pos (keywordEach [] X.env))) := by rfl) :
    PE X (.Call (.Attribute o m apos) (e :: es) [] pos) (tMeth C m sp dvs E ta t) := by
  constructor
  intro pins s σ H Q I h
  refine PySem.W.methodCall_KW (pl := pl) (thn (he.run pins s σ H _ I h) fun u s1 ⟨x, H1, I1, rx, a, dx, fs, ex, ea, l, q⟩ => ?_) ht
  subst ex
  cases (show u = Value.ref a from rx)
  refine getmeth_ok I1 ea c hm l (PySem.W.callWith_K (first := [.ref a]) (h₀ := X.base) I.ok.mod.kin hm.kp (thn (ha.run pos pins s1 σ H1 _ I1 q) fun us s2 ⟨vs, H2, I2, r, q2⟩ => ⟨I2.kIn, ?_⟩) hst hpl)
  exact callG (us := .ref a :: us) (vs := .ref a :: vs) F hr hb hd hx I2 (.cons rfl r) q2
/-- o.m() -/
theorem pe_methG0 {pl : Sem Bool} (he : PE X o ta) (c : Cls X.K C) (hm : Meth X.K C m f) (F : FnG bb X.prog X.w X.K X.mg X.base CX k f fd ps sp) (hr : Rm bb k X.A) (hb : Binds X.K fd ps ds) (hd : Vals dvs ds) (hx : Passes CX X E)
    (ht : eval (.Call (.Attribute o m apos) [] [] pos) X.env = (do
      let ov ← eval o X.env
      standAt apos.atName
      let (f, first) ← holding [ov] (getMethod ov m pl)
      callWith pos f first (backTo pos (starEach [] X.env)) (backToKw pos (keywordEach [] X.env))) := by rfl) :
    PE X (.Call (.Attribute o m apos) [] [] pos) (tMeth C m sp dvs E ta tNil) := by
  constructor
  intro pins s σ H Q I h
  refine PySem.W.methodCall_KW (pl := pl) (thn (he.run pins s σ H _ I h) fun u s1 ⟨x, H1, I1, rx, a, dx, fs, ex, ea, l, q⟩ => ?_) ht
  subst ex
  cases (show u = Value.ref a from rx)
  exact getmeth_ok I1 ea c hm l (PySem.W.callWith_K0 (first := [.ref a]) I1.kIn hm.kp (callG (us := [.ref a]) (vs := [.ref a]) F hr hb hd hx I1 (.cons rfl .nil) q))
theorem makeG {pins : List (Addr × Obj)} {σ : L2.St} {H : Hp} {s : Shared} {Q : VK} {us : List Value} {vs : List V} (M : Mk X.K C f) (F : FnG bb X.prog X.w X.K X.mg X.base CX k f fd ps sp) (hr : Rm bb (k + 1) X.A) (hb : Binds X.K fd ps ds) (hd : Vals dvs ds)
    (hx : Passes CX X E) (I : Inv X pins σ H s) (r : Vals vs us)
    (h : ∀ x dx, H x = none → H dx = none → dx ≠ x → sp (.ref x :: (vs ++ dvs)) (upd (upd H dx (.own x)) x (.ins C dx [])) (fun v H2 => v = .non ∧ Q (.ref x) H2) E) : wpAny (model X.prog X.w) X.A (call (.ref C) us) (EP X pins σ Q) X.xe s := by
  let n := s.heap.objs.size
  have q := h (n + 1) n (I.hok.fresh (Nat.le_succ _)) (I.hok.fresh (Nat.le_refl _)) (Nat.ne_of_lt (Nat.lt_succ_self _))
  have J := Inv.made (C := C) I
  have rr : Vals (V.ref (n + 1) :: (vs ++ dvs)) (Value.ref (n + 1) :: (us ++ ds)) := .cons rfl (r.append hd)
  have l : (Value.ref (n + 1) :: us ++ ds).length = ps.length := by
    have := F.len _ _ _ _ q
    rw [rr.length] at this
    exact this
  refine wpAny_call (make_map (f := f) I.kIn M.makes M.init (beq_iff_eq.mp M.fn) (codeAny_mono (F.run _ X.stack _ _ ⟨Value.ref (n + 1) :: us, []⟩ (Value.ref (n + 1) :: (us ++ ds)) _ _ E (hr.make C us [])
    (J.env0.make C us []) (hb _ (Value.ref (n + 1) :: us) J.kIn l) rr q) fun r s' z => ?_))
  revert z
  match r with
  | .error _ => exact fun z => back hx J z
  | .ok (.ret u) =>
    intro z
    obtain ⟨v, H', J', rv, e, q3⟩ := back hx J z
    subst e
    exact ⟨rv, V.ref (n + 1), H', J', rfl, q3⟩
  | .ok .next => exact fun z => (back hx J z).elim
  | .ok .brk => exact fun z => (back hx J z).elim
  | .ok .cont => exact fun z => (back hx J z).elim
/-- C(e, ..) -/
theorem pe_makeG (M : Mk X.K C f) (F : FnG bb X.prog X.w X.K X.mg X.base CX k f fd ps sp) (hr : Rm bb (k + 1) X.A) (hg : Gl X x) (hm : X.mg x = some (.ref C)) (hb : Binds X.K fd ps ds) (hd : Vals dvs ds) (hx : Passes CX X E)
    (ha : PA X (e :: es) t) (hdb : (x == ("__debug__" : Str)) = false := by decide) (he : starEach (e :: es) X.env = (false, eval e X.env) :: starEach es X.env := by rfl) (hpl : (backTo pos (starEach es X.env)).any (·.1) = false := by rfl) :
    PE X (.Call (.Name x p) (e :: es) [] pos) (tMake C sp dvs E t) :=
  ⟨fun pins s σ H Q I h => wpAny_Call_Name_kw (ld_glob I hg hm (PySem.W.callWith_K (h₀ := X.base) I.ok.mod.kin M.kp (thn (ha.run pos pins s σ H _ I h) fun us s1 ⟨vs, H1, I1, r, q⟩ => ⟨I1.kIn, makeG M F hr hb hd hx I1 r q⟩) he hpl) hdb)⟩
/-- C() -/
theorem pe_makeG0 (M : Mk X.K C f) (F : FnG bb X.prog X.w X.K X.mg X.base CX k f fd ps sp) (hr : Rm bb (k + 1) X.A) (hg : Gl X x) (hm : X.mg x = some (.ref C)) (hb : Binds X.K fd ps ds) (hd : Vals dvs ds) (hx : Passes CX X E)
    (hdb : (x == ("__debug__" : Str)) = false := by decide) : PE X (.Call (.Name x p) [] [] pos) (tMake C sp dvs E tNil) :=
  ⟨fun pins s σ H Q I h => wpAny_Call_Name_kw (ld_glob I hg hm (PySem.W.callWith_K0 I.kIn M.kp (makeG (us := []) M F hr hb hd hx I .nil h)) hdb)⟩
/-- repr(x), x data -/
def rRepr (K : PySem.W.Frag) : List V → Hp → VK → Prop := fun vs H Q => ∃ x d, vs = [x] ∧ Dp K H x d ∧ d.showable = true ∧ d.hasDict = false ∧ d.depth ≤ 64 ∧ d.shown.length ≤ sizeLine ∧ Q (.str d.shown) H
end
end DVG

/-! DVH: repr of data; the end of a law by a promise of FnG. -/
namespace DVG
open PySem PySem.Spec PyProof.Rows L2
section
variable {X : Cx}
theorem call_reprD (hg : X.A.guards = some []) (hu : X.A.units + 100 < cLine) : CallR X (.builtin "repr") (rRepr X.K) := by
  intro pins s σ H vs us Q I r h
  obtain ⟨x, d, rfl, dp, sh, nd, dep, len, q⟩ := h
  obtain ⟨u, rfl, ru⟩ := vals1 r
  obtain ⟨as, rd⟩ := Dp.reads I d x u dp ru
  have big : ∀ a : Addr, u = .ref a → wpAny (model X.prog X.w) X.A (call (.builtin "repr") [u]) (EP X pins σ Q) X.xe s := fun a e => by
    subst e
    exact repr_of_reads' rd sh (PyData.noDict_hsm nd) hg (by omega) (fun _ _ e => e) (fun h' t tk k => ⟨.str d.shown, H, I.kept k, ⟨_, rfl⟩, q⟩) len
  cases rd with
  | none => exact PySem.P.repr_of_none ⟨.str _, H, I.tok _, ⟨_, rfl⟩, by simpa only [PyData.shown] using q⟩
  | bool b => exact PySem.P.repr_of_bool ⟨.str _, H, I.tok _, ⟨_, rfl⟩, by simpa only [PyData.shown] using q⟩
  | int i t => exact PySem.P.repr_of_int (by simpa [PyData.showable] using sh) ⟨.str _, H, I.tok _, ⟨_, rfl⟩, by simpa only [PyData.shown] using q⟩
  | str y t => exact PySem.P.repr_of_str ⟨.str _, H, I.tok _, ⟨_, rfl⟩, by simpa only [PyData.shown] using q⟩ (by simpa only [PyData.shown] using len)
  | list _ _ _ _ => exact big _ rfl
  | tuple _ _ _ _ => exact big _ rfl
  | dict _ _ _ _ _ => exact big _ rfl
end
/-! ### the end -/
section
variable {P : Program} {w : World} {K : PySem.W.Frag} {mg mb : Str → Option Value} {CX : CXT} {k : Nat} {fa a : Addr} {fd : FuncData} {x : Str} {sp : Sp} {s : Shared} {vs : List Value} {ns : List Int}
/-- how the script lies: tracked (locked), or an object of the module -/
theorem script_heap (KX : K.In s.heap) (ha : s.heap.get? a = some { cls := .type "list", data := .seq vs.toArray }) (hi : IntsAre vs ns) (hl : ns.length ≤ sizeLine) :
    ∃ H : Hp, Only H ∧ SqL K H a (ns.map V.int) ∧ HOk P w H s.heap ∧ (∀ b, H b ≠ none → b = a ∧ K.lookup a = none) := by
  have rv := vals_ints hi
  cases hk : K.lookup a with
  | some o =>
    have e := KX a o hk
    rw [ha] at e; cases e
    exact ⟨fun _ => none, fun _ => .inl rfl, .inr ⟨_, vs.toArray, _, hk, rfl, rfl, rfl, by rw [List.size_toArray, hi.length]; exact hl, by simpa using rv⟩, (fun b u z => by cases z), fun b z => absurd rfl z⟩
  | none =>
    let o : Obj := { cls := .type "list", data := .seq vs.toArray }
    refine ⟨fun b => if b = a then some (.frz o (.lst (ns.map V.int))) else none, fun b => ?_, .inl (.inr ⟨o, if_pos rfl⟩), fun b u z => ?_, fun b z => ?_⟩
    · by_cases hb : b = a
      · exact .inr ⟨_, _, if_pos hb⟩
      · exact .inl (if_neg hb)
    · dsimp only at z
      split at z
      · rename_i hb
        cases z
        subst hb
        exact ⟨ha, by rw [List.length_map]; exact hl, vs, _, rv, ha⟩
      · cases z
    · by_cases hb : b = a
      · exact ⟨hb, rfl⟩
      · exact absurd (if_neg hb) z
theorem lawG (KX : K.In s.heap) (hns : s.heap.Ns mainGlobals mg) (hb : s.heap.Ns builtinsNs mb) (hbb : ∀ x : Str, x ≠ "__name__" → mb x = bootBuiltins x) (hlim : s.heap.NoLimit) (hg : s.gens = #[])
    (ha : s.heap.get? a = some { cls := .type "list", data := .seq vs.toArray }) (hi : IntsAre vs ns) (hl : ns.length ≤ sizeLine) (hr : Rm bb k callerA)
    (F : ∀ base : Heap, K.In base → base.Ns mainGlobals mg → FnG bb P w K mg base CX k fa fd [x] sp) (hbind : ∀ (s : Shared) (u : Value), BindsTo s fd ⟨[u], []⟩ [(x, u)])
    (hsp : ∀ H : Hp, Only H → SqL K H a (ns.map V.int) → sp [.ref a] H (fun v _ => v = .bl true) fun _ _ _ => False) (hCX : ∀ H e s', CX [] H s (fun _ _ _ => False) e s' → False) :
    codeAny (model P w) callerA (.call (.ref fa) ⟨[.ref a], []⟩) (fun r s' => r = .ok (.ret (.bool true)) ∧ OldK s.heap s'.heap ∧ s'.os = s.os ∧ AllBare s'.gens) s := by
  obtain ⟨H, hO, hS, hok, hA⟩ := script_heap (P := P) (w := w) KX ha hi hl
  have free : ∀ {b : Addr} {o : Obj}, s.heap.get? b = some o → (b = a → K.lookup a = none → False) → H b = none := fun {b o} e n => by
    cases q : H b with
    | none => rfl
    | some u => exact (n (hA b (by rw [q]; exact fun z => by cases z)).1 (hA b (by rw [q]; exact fun z => by cases z)).2).elim
  have ns' : ∀ {b : Addr} {m : Str → Option Value}, s.heap.Ns b m → (hidT s.heap H).Ns b m := fun {b m} ⟨o, es, ep, e, d, r⟩ => ⟨o, es, ep, hidT_get e (free e fun z _ => by
    subst z
    rw [ha] at e; cases e
    cases d), d, r⟩
  have hK : K.In (hidT s.heap H) := fun b o e => hidT_get (KX b o e) (free (KX b o e) fun z n => by subst z; rw [n] at e; cases e)
  have e0 : Env0 P w K mg (hidT s.heap H) callerA [] s H := ⟨rfl, ⟨hK, ns' hns, ⟨mb, ns' hb, hbb⟩, let ⟨mc, h1, h2⟩ := hlim; ⟨mc, ns' h1, h2⟩⟩, fun b o e => of_hidT e, Nat.le_of_eq (hidT_size _ _), trivial, fun b z => absurd (show b ∈ ([] : List Addr) from z) (by simp), hok, .of_eq hg⟩
  refine codeAny_mono ((F _ hK (ns' hns)).run callerA [] s H ⟨[.ref a], []⟩ [.ref a] [.ref a] _ _ hr e0 (hbind s (.ref a)) (.cons rfl .nil) (hsp H hO hS)) fun r s' h => ?_
  match r, h with
  | .error e, h => exact (hCX H e s' h).elim
  | .ok .next, h => exact False.elim h
  | .ok .brk, h => exact False.elim h
  | .ok .cont, h => exact False.elim h
  | .ok (.ret u), ⟨v, H', os, bare, un, hok', rv, q⟩ =>
    have q' : v = .bl true := q
    subst q'
    cases (show u = Value.bool true from rv)
    refine ⟨rfl, OldK.of_keep fun b o e => ?_, os, bare⟩
    rcases hO b with z | ⟨ob, xs, z⟩
    · exact un.keep b o e z (fun y => absurd (show b ∈ ([] : List Addr) from y) (by simp)) (by simp)
    · obtain ⟨e1, _⟩ := hok b _ z
      obtain ⟨e2, _⟩ := hok' b _ (un.frzs b ob _ z)
      rw [e] at e1; cases e1
      exact e2
end
theorem walkG {l : PySem.W.OpenLaw} {n k : Nat} {q : Program} {loose : List Str} {XP : (Str → Option Value) → Heap → Prop} {YP : World → Heap → Prop} {d : DefRec} {K : Params → PySem.W.Frag} {CX : World → CXT} {sp : World → Sp} {x : Str}
    (hn : l.most = some n) (hn2 : n ≤ sizeLine) (hdf : d.params.defaults = []) (hr : Rm bb k callerA) (hY : ∀ (w : World) (h : Heap), YP w h → (K w.params).In h)
    (F : ∀ (w : World) (mg : Str → Option Value) (fa : Addr) (h : Heap), (K w.params).In h → h.Ns mainGlobals mg → mg d.name = some (.ref fa) →
      ∃ fd : FuncData, (∀ (s : Shared) (u : Value), BindsTo s fd ⟨[u], []⟩ [(x, u)]) ∧ ∀ base : Heap, (K w.params).In base → base.Ns mainGlobals mg → FnG bb l.prog w (K w.params) mg base (CX w) k fa fd [x] (sp w))
    (hsp : ∀ (w : World) (H : Hp) (a : Addr) (ns : List Int), ns.length ≤ n → (∀ z ∈ ns, Builtin.Int.intBits z ≤ 1048576) → Only H → SqL (K w.params) H a (ns.map V.int) → sp w [.ref a] H (fun v _ => v = .bl true) fun _ _ _ => False)
    (hCX : ∀ (w : World) (H : Hp) (s : Shared) (e : Value) (s' : Shared), CX w [] H s (fun _ _ _ => False) e s' → False) :
    PySem.W.WalkO q loose XP YP l.row.toRowW d [] (fun f vs => PySem.call f vs) := by
  refine Att.attach_callB hn hdf fun w s₀ s mg mb fa o pm cd doc a vs ns G Y ho hd hcd hmg hobj hints hlen hbits hg => ?_
  obtain ⟨fd, hb, hF⟩ := F w mg fa _ (hY w _ Y) G.T.g hmg
  exact lawG (hY w _ Y) G.T.g G.T.b G.T.builtins G.T.nolimit hg hobj hints (Nat.le_trans hlen hn2) hr hF hb (fun H hO hS => hsp w H a ns hlen hbits hO hS) fun H e s' => hCX w H s e s'
theorem rm_caller {k : Nat} (h : Room k callerA) : Rm bb k callerA := ⟨h, fun _ => rfl⟩
end DVG

/-! DV5: defs and their calls. -/
namespace DV
open PySem PySem.Spec PyProof.Rows L2

inductive Ret where
  | dat (d : D) | fre (d : D)
def Ret.o : Ret → O
  | .dat d => .dat d
  | .fre d => .fre d
abbrev FD := List D → Option (Ret × D)
def ArgRep (K : PySem.W.Frag) (R : Reg) (H : Hp) (bo : Option Nat) (ds : List D) (vs : List V) : Prop :=
  ds.length = vs.length ∧ ∀ (i : Nat) (d : D) (v : V), ds[i]? = some d → vs[i]? = some v → (bo = some i → ∃ a, v = .ref a ∧ ¬ R a ∧ RepTop K R H d a) ∧ (bo ≠ some i → RepV K R H d v)
def BoA (bo : Option Nat) (vs : List V) : Reg := fun a => ∃ i, bo = some i ∧ vs[i]? = some (V.ref a)
def entry (bo : Option Nat) (ds : List D) (n : Nat) : Env := match bo with
  | none => ds.map Sl.val ++ List.replicate (n - ds.length) Sl.un
  | some i => (ds.map Sl.val ++ List.replicate (n - ds.length) Sl.un).set i (.brw (ds.getD i .non))
def resOf : O → Env → Option Ret
  | .dat d, _ => some (.dat d)
  | .fre d, _ => some (.fre d)
  | .own i, δ => match δ[i]? with
    | some (.own d) => some (.fre d)
    | some (.val d) => some (.dat d)
    | _ => none
def outOf (bo : Option Nat) (δ : Env) : Option D := match bo with
  | none => some .non
  | some i => match δ[i]? with
    | some (.brw d) => some d
    | _ => none
def defF (bo : Option Nat) (n : Nat) (body : MS) : FD := fun ds => if (bo.all fun i => decide (i < ds.length)) = true then (body (entry bo ds n)).bind fun fl => match fl with
  | .nx δ => (outOf bo δ).bind fun m => some (.dat .non, m)
  | .rt o δ => (resOf o δ).bind fun r => (outOf bo δ).bind fun m => some (r, m)
  | _ => none
  else none
structure DefEnd (K : PySem.W.Frag) (bo : Option Nat) (R : Reg) (H : Hp) (vs : List V) (r : Ret) (m : D) (v : V) (R' : Reg) (H' : Hp) : Prop where
  sub : ∀ a, R a → R' a
  fresh : ∀ a, R' a → R a ∨ H a = none
  frame : ∀ a o, H a = some o → ¬ BoA bo vs a → H' a = some o
  alv : ∀ a, H a ≠ none → H' a ≠ none
  tr : ∀ a, R' a → H' a ≠ none
  out : ∀ a, BoA bo vs a → ¬ R' a ∧ RepTop K R' H' m a
  res : match r with
    | .dat d => RepV K R' H' d v
    | .fre d => ∃ a, v = .ref a ∧ ¬ R' a ∧ H a = none ∧ RepTop K R' H' d a
def spD (K : PySem.W.Frag) (bo : Option Nat) (n : Nat) (F : FD) : Sp := fun vs H Q _ => vs.length = n ∧ ∃ R ds r m, ArgRep K R H bo ds vs ∧ (∀ a, R a → H a ≠ none) ∧ F ds = some (r, m) ∧ ∀ v R' H', DefEnd K bo R H vs r m v R' H' → Q v H'
section
variable {K : PySem.W.Frag} {F : Fx} {R R1 R' : Reg} {H H1 H' : Hp} {δ δ1 δ' : Env} {σ σ' : L2.St}
def fx (bo : Option Nat) (R : Reg) (H : Hp) (vs : List V) (N : List Str) : Fx := ⟨H, BoA bo vs, R, L2.start N vs⟩
theorem start_get {N : List Str} {vs : List V} {i : Nat} {v : V} (h : vs[i]? = some v) : (L2.start N vs)[i]? = some (some v) := by
  have hl := (List.getElem?_eq_some_iff.mp h).1
  unfold L2.start
  rw [List.getElem?_append_left (by rw [List.length_map]; exact hl), List.getElem?_map, h]; rfl
theorem base_get {ds : List D} {n i : Nat} {s : Sl} (h : (ds.map Sl.val ++ List.replicate n Sl.un)[i]? = some s) : (∃ d, ds[i]? = some d ∧ s = .val d) ∨ s = .un := by
  by_cases hl : i < ds.length
  · rw [List.getElem?_append_left (by rw [List.length_map]; exact hl), List.getElem?_map] at h
    cases e : ds[i]? with
    | none => rw [e] at h; cases h
    | some d => rw [e] at h; cases h; exact .inl ⟨d, rfl, rfl⟩
  · rw [List.getElem?_append_right (by rw [List.length_map]; omega)] at h
    have := List.mem_of_getElem? h
    exact .inr (List.eq_of_mem_replicate this)
theorem entry_get {bo : Option Nat} {ds : List D} {n i : Nat} {s : Sl} (h : (entry bo ds n)[i]? = some s) :
    (bo = some i ∧ s = .brw (ds.getD i .non)) ∨ (bo ≠ some i ∧ ∃ d, ds[i]? = some d ∧ s = .val d) ∨ s = .un := by
  cases bo with
  | none =>
    rcases base_get (n := n - ds.length) h with z | z
    · exact .inr (.inl ⟨(fun q => by cases q), z⟩)
    · exact .inr (.inr z)
  | some j =>
    rcases set_get h with ⟨q1, q2⟩ | ⟨q1, q2⟩
    · subst q1; exact .inl ⟨rfl, q2⟩
    · rcases base_get q2 with z | z
      · exact .inr (.inl ⟨fun q => q1 (Option.some.inj q), z⟩)
      · exact .inr (.inr z)
theorem entry_len {bo : Option Nat} {ds : List D} {n : Nat} : (entry bo ds n).length = ds.length + (n - ds.length) := by
  cases bo with
  | none => simp [entry]
  | some j => simp [entry]
theorem wd_entry {bo : Option Nat} {ds : List D} {vs : List V} {N : List Str} (ha : ArgRep K R H bo ds vs) (ht : ∀ a, R a → H a ≠ none) (hb : (bo.all fun i => decide (i < ds.length)) = true) :
    Wd K (fx bo R H vs N) R H (entry bo ds N.length) (L2.start N vs) := by
  obtain ⟨hl, hv⟩ := ha
  have hlen : (entry bo ds N.length).length = (L2.start N vs).length := by
    rw [entry_len]; unfold L2.start; simp [hl]
  have brw : ∀ i d, (entry bo ds N.length)[i]? = some (.brw d) → bo = some i ∧ ∃ a, vs[i]? = some (V.ref a) ∧ ¬ R a ∧ RepTop K R H d a := fun i d h => by
    rcases entry_get h with ⟨q1, q2⟩ | ⟨_, _, _, q⟩ | q
    · cases q2
      subst q1
      have hi : i < ds.length := by simpa using hb
      have hi2 : i < vs.length := by rw [← hl]; exact hi
      obtain ⟨a, e, n, t⟩ := (hv i ds[i] vs[i] (by simp [hi]) (by simp [hi2])).1 rfl
      refine ⟨rfl, a, by rw [← e]; simp [hi2], n, ?_⟩
      have : ds.getD i .non = ds[i] := by simp [hi]
      rw [this]; exact t
    · cases q
    · cases q
  refine ⟨fun i s h => ?_, hlen, fun i j s t a h1 h2 h3 h4 h5 h6 => ?_, fun i d a h g => ?_, fun i d a h g => ?_, fun a o h _ => h, fun a h => h, fun a h => ⟨.inl h, ht a h⟩, fun _ _ _ => rfl, fun a h => h, Keep.refl⟩
  · have hi : i < (L2.start N vs).length := by rw [← hlen]; exact (List.getElem?_eq_some_iff.mp h).1
    rcases entry_get h with ⟨q1, q2⟩ | ⟨q1, d, q2, q3⟩ | q
    · subst q2
      obtain ⟨_, a, e, n, t⟩ := brw i _ h
      exact ⟨some (.ref a), start_get e, a, rfl, n, t⟩
    · subst q3
      have hd := (List.getElem?_eq_some_iff.mp q2).1
      have hi2 : i < vs.length := by rw [← hl]; exact hd
      exact ⟨some vs[i], start_get (by simp [hi2]), (hv i d vs[i] q2 (by simp [hi2])).2 q1⟩
    · subst q
      exact ⟨(L2.start N vs)[i], by simp [hi], trivial⟩
  · have hh : ∀ k u, (entry bo ds N.length)[k]? = some u → u.own? = true → bo = some k := fun k u h ho => by
      rcases entry_get h with ⟨q1, q2⟩ | ⟨_, _, _, q⟩ | q
      · exact q1
      · subst q; cases ho
      · subst q; cases ho
    have e1 := hh i s h1 h3
    have e2 := hh j t h2 h4
    rw [e1] at e2; exact Option.some.inj e2
  · rcases entry_get h with ⟨q1, q2⟩ | ⟨_, _, _, q⟩ | q
    · cases q2
    · cases q
    · cases q
  · obtain ⟨e, b, hb, _⟩ := brw i d h
    rw [start_get hb] at g
    cases g
    exact ⟨i, e, hb⟩
theorem def_end {bo : Option Nat} {vs : List V} {N : List Str} {o : O} {v : V} {r : Ret} {m : D} (w : Wd K (fx bo R H vs N) R' H' δ σ) (ro : RepO K (fx bo R H vs N) R' H' δ σ o v) (hr : resOf o δ = some r) (hm : outOf bo δ = some m) :
    DefEnd K bo R H vs r m v R' H' := by
  refine ⟨w.sub, fun a h => (w.new a h).1, w.fr, w.alv, fun a h => (w.new a h).2, fun a h => ?_, ?_⟩
  · obtain ⟨i, rfl, e⟩ := h
    unfold outOf at hm
    simp only at hm
    cases q : δ[i]? with
    | none => rw [q] at hm; cases hm
    | some s =>
      rw [q] at hm
      cases s with
      | brw d =>
        cases hm
        obtain ⟨ov, h1, h2⟩ := w.rep i _ q
        have h3 := w.muts i _ q
        have h4 : (fx (some i) R H vs N).s0[i]? = some (some (.ref a)) := start_get e
        rw [h1, h4] at h3
        cases h3
        obtain ⟨b, e2, n, t⟩ := h2
        cases e2
        exact ⟨n, t⟩
      | _ => cases hm
  · cases o with
    | dat d => cases hr; exact ro
    | fre d =>
      cases hr
      obtain ⟨a, e, n, _, h0, t⟩ := ro
      exact ⟨a, e, n, h0, t⟩
    | own i =>
      simp only [resOf] at hr
      have ro' : σ[i]? = some (some v) := ro
      cases q : δ[i]? with
      | none => rw [q] at hr; cases hr
      | some s =>
        rw [q] at hr
        obtain ⟨ov, h1, h2⟩ := w.rep i _ q
        rw [ro'] at h1; cases h1
        cases s with
        | un => cases hr
        | brw d => cases hr
        | val d => cases hr; exact h2
        | own d =>
          cases hr
          obtain ⟨a, e, n, t⟩ := h2
          subst e
          exact ⟨a, rfl, n, w.loc i d a q ro', t⟩
end
section
variable {P : Program} {w : World} {K : PySem.W.Frag} {mg : Str → Option Value} {base : Heap}
/-- a def keeps the promise of its function on data -/
theorem fn_d {x qual : Str} {st : Stmt} {f : Addr} {fd : FuncData} {N ps : List Str} {k : Nat} {bo : Option Nat} {t : TS} {body : MS} (F : L2.Fun K x qual st f fd) (S : FnScope N ps (defScope st))
    (hb : ∀ (cdv : Value) (A : Around) (outer : List PySem.Env) (s : Shared) (H : Hp) (E : XK), DVG.Rm bb k (A.deeper (envOfC qual (defScope st) s.heap.objs.size f cdv)) → PSs (cxOf CX0 P w K mg base N qual (defScope st) f cdv A outer s H E).nox (defBody st) t)
    (he : EvS K t body) : DVG.FnG bb P w K mg base CX0 (k + 1) f fd ps (spD K bo ps.length (defF bo N.length body)) := by
  refine DVG.fnG F S (fun vs H Q E h => h.1) fun cdv A outer s H vs Q E hr h => ⟨t, (hb cdv A outer s H E hr).nox, ?_⟩
  obtain ⟨hl, R, ds, r, m, ha, ht, hF, q⟩ := h
  unfold defF at hF
  split at hF
  · rename_i hbo
    obtain ⟨fl, e1, hF⟩ := Option.bind_eq_some_iff.mp hF
    refine he (fx bo R H vs N) R H _ _ fl (wd_entry ha ht hbo) e1 _ ?_
    cases fl with
    | nx δ =>
      obtain ⟨m', e2, hF⟩ := Option.bind_eq_some_iff.mp hF
      cases hF
      exact fun σ' R' H' w' _ => q _ R' H' (def_end (o := .dat .non) w' rfl rfl e2)
    | rt o δ =>
      obtain ⟨r', e2, hF⟩ := Option.bind_eq_some_iff.mp hF
      obtain ⟨m', e3, hF⟩ := Option.bind_eq_some_iff.mp hF
      cases hF
      exact fun v σ' R' H' w' _ ro => q v R' H' (def_end w' ro e2 e3)
    | bk δ => cases hF
    | ct δ => cases hF
  · cases hF
end
end DV

/-! DV6: calls. -/
namespace DV
open PySem PySem.Spec PyProof.Rows L2

def derefs (δ : Env) : List O → Option (List D)
  | [] => some []
  | o :: os => (deref δ o).bind fun d => (derefs δ os).bind fun ds => some (d :: ds)
def putBack (bo : Option Nat) (os : List O) (δ : Env) (m : D) : Option Env := match bo with
  | none => some δ
  | some i => match os[i]? with
    | some (.own j) => match δ[j]? with
      | some (.own _) => some (δ.set j (.own m))
      | some (.brw _) => some (δ.set j (.brw m))
      | _ => none
    | _ => none
/-- all but the borrowed one are values -/
def plainB (bo : Option Nat) : Nat → List O → Bool
  | _, [] => true
  | i, o :: os => (match o with | .dat _ => true | _ => decide (bo = some i)) && plainB bo (i + 1) os
mutual
def flatD : D → Bool
  | .non => true | .bl _ => true | .int _ => true | .str _ => true | .con _ => true
  | .tup ds => flatDs ds
  | _ => false
def flatDs : List D → Bool
  | [] => true
  | d :: ds => flatD d && flatDs ds
end
def flatT : D → Bool
  | .non => true
  | .lst ds => flatDs ds
  | .ins _ _ ds => flatDs ds
  | .dic _ ds => flatDs ds
  | .dit _ ds => flatDs ds
  | _ => false
def flatR : Ret → Bool
  | .dat d => flatD d
  | .fre d => flatT d
section
variable {K : PySem.W.Frag} {F : Fx} {R R1 R2 R' : Reg} {H H1 H' : Hp} {δ δ1 δ' : Env} {σ σ' : L2.St}
mutual
theorem flat_rep : ∀ {d : D} {v : V}, flatD d = true → RepV K R H d v → RepV K R2 H d v
  | .non, _, _, h => h
  | .bl _, _, _, h => h
  | .int _, _, _, h => h
  | .str _, _, _, h => h
  | .con _, _, _, h => h
  | .tup ds, _, f, ⟨a, vs, e, h, g⟩ => ⟨a, vs, e, h, flat_reps (by simpa [flatD] using f) g⟩
  | .lst _, _, f, _ => by simp [flatD] at f
  | .ro _, _, f, _ => by simp [flatD] at f
  | .ins _ _ _, _, f, _ => by simp [flatD] at f
  | .dic _ _, _, f, _ => by simp [flatD] at f
  | .dit _ _, _, f, _ => by simp [flatD] at f
theorem flat_reps : ∀ {ds : List D} {vs : List V}, flatDs ds = true → RepVs K R H ds vs → RepVs K R2 H ds vs
  | [], _, _, h => h
  | d :: ds, _, f, ⟨v, r, e, h, g⟩ => by
    have f' : flatD d = true ∧ flatDs ds = true := by simpa [flatDs] using f
    exact ⟨v, r, e, flat_rep f'.1 h, flat_reps f'.2 g⟩
end
theorem flat_top {d : D} {a : Addr} (f : flatT d = true) (h : RepTop K R H d a) : RepTop K R2 H d a := by
  cases d with
  | lst ds => obtain ⟨vs, h1, h2⟩ := h; exact ⟨vs, h1, flat_reps f h2⟩
  | ins C ks ds => obtain ⟨dx, vs, h1, l, h2⟩ := h; exact ⟨dx, vs, h1, l, flat_reps f h2⟩
  | dic ks ds => obtain ⟨vs, h1, l, h2⟩ := h; exact ⟨vs, h1, l, flat_reps f h2⟩
  | dit ks ds => obtain ⟨vs, h1, l, h2⟩ := h; exact ⟨vs, h1, l, flat_reps f h2⟩
  | _ => exact h.elim
theorem RepOs.length : ∀ {os : List O} {vs : List V}, RepOs K F R H δ σ os vs → os.length = vs.length
  | [], vs, h => by rw [show vs = [] from h]; rfl
  | o :: os, vs, ⟨v, r, e, _, h⟩ => by rw [e, List.length_cons, List.length_cons, h.length]
theorem RepOs.get : ∀ {os : List O} {vs : List V} {i : Nat} {o : O} {v : V}, RepOs K F R H δ σ os vs → os[i]? = some o → vs[i]? = some v → RepO K F R H δ σ o v
  | [], _, i, _, _, _, e, _ => by simp at e
  | o :: os, vs, 0, o', v', ⟨v, r, e, h, _⟩, e1, e2 => by subst e; simp at e1 e2; subst e1; subst e2; exact h
  | o :: os, vs, i + 1, o', v', ⟨v, r, e, _, h⟩, e1, e2 => by subst e; exact RepOs.get (i := i) h (by simpa using e1) (by simpa using e2)
theorem derefs_get : ∀ {os : List O} {ds : List D} {i : Nat} {d : D}, derefs δ os = some ds → ds[i]? = some d → ∃ o, os[i]? = some o ∧ deref δ o = some d
  | [], ds, i, d, h, e => by cases h; simp at e
  | o :: os, ds, i, d, h, e => by
    obtain ⟨d1, h1, h⟩ := Option.bind_eq_some_iff.mp h
    obtain ⟨ds1, h2, h⟩ := Option.bind_eq_some_iff.mp h
    cases h
    cases i with
    | zero => simp at e; subst e; exact ⟨o, rfl, h1⟩
    | succ i => obtain ⟨o', q1, q2⟩ := derefs_get (i := i) h2 (by simpa using e); exact ⟨o', by simpa using q1, q2⟩
theorem derefs_len : ∀ {os : List O} {ds : List D}, derefs δ os = some ds → ds.length = os.length
  | [], ds, h => by cases h; rfl
  | o :: os, ds, h => by
    obtain ⟨d1, h1, h⟩ := Option.bind_eq_some_iff.mp h
    obtain ⟨ds1, h2, h⟩ := Option.bind_eq_some_iff.mp h
    cases h
    rw [List.length_cons, List.length_cons, derefs_len h2]
theorem plainB_get : ∀ {os : List O} {bo : Option Nat} {j i : Nat} {o : O}, plainB bo j os = true → os[i]? = some o → bo ≠ some (j + i) → ∃ d, o = .dat d
  | [], _, _, i, _, _, e, _ => by simp at e
  | o :: os, bo, j, 0, o', h, e, n => by
    simp at e; subst e
    unfold plainB at h
    rw [Bool.and_eq_true] at h
    cases o with
    | dat d => exact ⟨d, rfl⟩
    | own _ => exact absurd (of_decide_eq_true h.1) n
    | fre _ => exact absurd (of_decide_eq_true h.1) n
  | o :: os, bo, j, i + 1, o', h, e, n => by
    unfold plainB at h
    rw [Bool.and_eq_true] at h
    exact plainB_get (j := j + 1) (i := i) h.2 (by simpa using e) (by rw [show j + 1 + i = j + (i + 1) by omega]; exact n)
/-- what putBack tells of the borrowed argument -/
theorem put_some {i : Nat} {os : List O} {m : D} (h : putBack (some i) os δ m = some δ') : ∃ j, os[i]? = some (.own j) ∧ ((∃ d, δ[j]? = some (.own d) ∧ δ' = δ.set j (.own m)) ∨ ∃ d, δ[j]? = some (.brw d) ∧ δ' = δ.set j (.brw m)) := by
  simp only [putBack] at h
  split at h
  · rename_i j e
    split at h
    · rename_i d q; cases h; exact ⟨j, e, .inl ⟨_, q, rfl⟩⟩
    · rename_i d q; cases h; exact ⟨j, e, .inr ⟨_, q, rfl⟩⟩
    · cases h
  · cases h
/-- the world behind a call: Rn is the region that is kept -/
theorem call_world {bo : Option Nat} {os : List O} {vs : List V} {r : Ret} {m : D} {v : V} {Rc Rn : Reg} (w : Wd K F R H δ σ) (ro : RepOs K F R H δ σ os vs) (hp : putBack bo os δ m = some δ')
    (de : DefEnd K bo Rc H vs r m v R' H') (sub : ∀ a, R a → Rn a) (sub2 : ∀ a, Rn a → R' a) (fresh : ∀ a, Rn a → R a ∨ H a = none) (tr : ∀ a, Rn a → H' a ≠ none) (out : ∀ a, BoA bo vs a → RepTop K Rn H' m a) :
    Wd K F Rn H' δ' σ ∧ Ext δ δ' σ R H Rn H' := by
  have hbo : ∀ a, BoA bo vs a → ∃ j s, δ[j]? = some s ∧ s.own? = true ∧ σ[j]? = some (some (V.ref a)) ∧ ∃ i, bo = some i ∧ os[i]? = some (.own j) := fun a ⟨i, e1, e2⟩ => by
    subst e1
    obtain ⟨j, q1, q2⟩ := put_some hp
    have q3 : σ[j]? = some (some (V.ref a)) := ro.get q1 e2
    rcases q2 with ⟨d, q2, _⟩ | ⟨d, q2, _⟩
    · exact ⟨j, _, q2, rfl, q3, i, rfl, q1⟩
    · exact ⟨j, _, q2, rfl, q3, i, rfl, q1⟩
  have hown : ∀ a, BoA bo vs a → OwnA δ σ a := fun a h => by
    obtain ⟨j, s, q1, q2, q3, _⟩ := hbo a h
    exact ⟨j, s, q1, q2, q3⟩
  -- slots behind
  have shape : ∀ (k : Nat) (s : Sl), δ'[k]? = some s → δ[k]? = some s ∨ ∃ i, bo = some i ∧ os[i]? = some (.own k) ∧ ((∃ d, δ[k]? = some (.own d) ∧ s = .own m) ∨ ∃ d, δ[k]? = some (.brw d) ∧ s = .brw m) := fun k s h => by
    cases bo with
    | none => cases hp; exact .inl h
    | some i =>
      obtain ⟨j, q1, ⟨d, q2, q3⟩ | ⟨d, q2, q3⟩⟩ := put_some hp
      · subst q3
        rcases set_get h with ⟨z1, z2⟩ | ⟨_, z⟩
        · subst z1; exact .inr ⟨i, rfl, q1, .inl ⟨d, q2, z2⟩⟩
        · exact .inl z
      · subst q3
        rcases set_get h with ⟨z1, z2⟩ | ⟨_, z⟩
        · subst z1; exact .inr ⟨i, rfl, q1, .inr ⟨d, q2, z2⟩⟩
        · exact .inl z
  have len : δ'.length = δ.length := by
    cases bo with
    | none => cases hp; rfl
    | some i =>
      obtain ⟨j, q1, ⟨d, q2, q3⟩ | ⟨d, q2, q3⟩⟩ := put_some hp
      · rw [q3]; simp
      · rw [q3]; simp
  have ex : Ext δ δ' σ R H Rn H' := by
    refine ⟨sub, fun a h => (fresh a h).elim .inl fun z => .inr (.inl z), fun a o h n => de.frame a o h fun z => n (hown a z), fun a h => ?_, de.alv⟩
    obtain ⟨k, s, h1, h2, h3⟩ := h
    rcases shape k s h1 with z | ⟨i, _, _, ⟨d, z, _⟩ | ⟨d, z, _⟩⟩
    · exact ⟨k, s, z, h2, h3⟩
    · exact ⟨k, _, z, rfl, h3⟩
    · exact ⟨k, _, z, rfl, h3⟩
  have kp := ex.keep w
  have nR : ∀ a, OwnA δ σ a → ¬ Rn a := fun a h z => by
    obtain ⟨n, o, ho, _⟩ := w.ownAt h
    rcases fresh a z with z | z
    · exact n z
    · rw [z] at ho; cases ho
  refine ⟨w.next ex len (fun k s h => ?_) (fun k d h => ?_) (fun k d h => ?_) fun a h => ⟨?_, tr a h⟩, ex⟩
  · have new : ∀ d, δ[k]? = some d → d.own? = true → (∃ i, bo = some i ∧ os[i]? = some (.own k)) → ∃ a, σ[k]? = some (some (V.ref a)) ∧ ¬ Rn a ∧ RepTop K Rn H' m a := fun d q ho ⟨i, e1, e2⟩ => by
      obtain ⟨ov, h1, h2⟩ := w.rep k d q
      have hl : i < vs.length := by rw [← ro.length]; exact (List.getElem?_eq_some_iff.mp e2).1
      have h3 : σ[k]? = some (some vs[i]) := ro.get e2 (by simp [hl])
      rw [h3] at h1; cases h1
      have : ∃ a, vs[i] = V.ref a := by
        cases d with
        | un => cases ho
        | val d => cases ho
        | own d => obtain ⟨a, e, _⟩ := h2; exact ⟨a, e⟩
        | brw d => obtain ⟨a, e, _⟩ := h2; exact ⟨a, e⟩
      obtain ⟨a, e⟩ := this
      have hB : BoA bo vs a := ⟨i, e1, by rw [← e]; simp [hl]⟩
      exact ⟨a, by rw [h3, e], nR a (hown a hB), out a hB⟩
    rcases shape k s h with z | ⟨i, e1, e2, ⟨d, z, q⟩ | ⟨d, z, q⟩⟩
    · obtain ⟨ov, h1, h2⟩ := w.rep k s z
      by_cases hk : ∃ i, bo = some i ∧ os[i]? = some (.own k)
      · by_cases ho : s.own? = true
        · obtain ⟨i, e1, e2⟩ := hk
          subst e1
          obtain ⟨j, q1, ⟨d, q2, q3⟩ | ⟨d, q2, q3⟩⟩ := put_some hp
          · rw [e2] at q1; cases q1
            rw [q3] at h
            have hkl := (List.getElem?_eq_some_iff.mp q2).1
            rw [List.getElem?_set_self hkl] at h
            cases h
            obtain ⟨a, h3, h4, h5⟩ := new _ q2 rfl ⟨i, rfl, e2⟩
            exact ⟨_, h3, a, rfl, h4, h5⟩
          · rw [e2] at q1; cases q1
            rw [q3] at h
            have hkl := (List.getElem?_eq_some_iff.mp q2).1
            rw [List.getElem?_set_self hkl] at h
            cases h
            obtain ⟨a, h3, h4, h5⟩ := new _ q2 rfl ⟨i, rfl, e2⟩
            exact ⟨_, h3, a, rfl, h4, h5⟩
        · exact ⟨ov, h1, h2.keep kp fun a q _ => absurd q ho⟩
      · refine ⟨ov, h1, h2.keep kp fun a q e => ?_⟩
        rw [e] at h1
        have oa : OwnA δ σ a := ⟨k, s, z, q, h1⟩
        refine ⟨nR a oa, ?_⟩
        obtain ⟨_, o, ho, _⟩ := w.ownAt oa
        rw [ho]
        refine de.frame a o ho fun hb => hk ?_
        obtain ⟨j, s', q1, q2, q3, i, q4, q5⟩ := hbo a hb
        have : j = k := w.dis j k s' s a q1 z q2 q q3 h1
        subst this
        exact ⟨i, q4, q5⟩
    · subst q
      obtain ⟨a, h3, h4, h5⟩ := new _ z rfl ⟨i, e1, e2⟩
      exact ⟨_, h3, a, rfl, h4, h5⟩
    · subst q
      obtain ⟨a, h3, h4, h5⟩ := new _ z rfl ⟨i, e1, e2⟩
      exact ⟨_, h3, a, rfl, h4, h5⟩
  · rcases shape k _ h with z | ⟨i, e1, e2, ⟨d', z, q⟩ | ⟨d', z, q⟩⟩
    · exact ⟨d, z⟩
    · exact ⟨d', z⟩
    · cases q
  · rcases shape k _ h with z | ⟨i, e1, e2, ⟨d', z, q⟩ | ⟨d', z, q⟩⟩
    · exact ⟨d, z⟩
    · cases q
    · exact ⟨d', z⟩
  · rcases fresh a h with z | z
    · exact (w.new a z).1
    · exact .inr (w.H0none z)
/-- the borrowed argument stands as it should -/
theorem bor_rep {bo : Option Nat} {os : List O} {vs : List V} {m d : D} {v : V} {i : Nat} (w : Wd K F R H δ σ) (ro : RepOs K F R H δ σ os vs) (hp : putBack bo os δ m = some δ') (hb : bo = some i) (hd : (os[i]?).bind (deref δ) = some d) (hv : vs[i]? = some v) :
    ∃ a, v = .ref a ∧ OwnA δ σ a ∧ RepTop K R H d a := by
  subst hb
  obtain ⟨j, q1, q2⟩ := put_some hp
  rw [q1] at hd
  have q3 : σ[j]? = some (some v) := ro.get q1 hv
  have hd' : (δ[j]?).bind Sl.d? = some d := hd
  rcases q2 with ⟨d0, q2, _⟩ | ⟨d0, q2, _⟩
  · rw [q2] at hd'; cases hd'
    obtain ⟨ov, h1, h2⟩ := w.rep j _ q2
    rw [q3] at h1; cases h1
    obtain ⟨a, e, n, t⟩ := h2
    subst e
    exact ⟨a, rfl, ⟨j, _, q2, rfl, q3⟩, t⟩
  · rw [q2] at hd'; cases hd'
    obtain ⟨ov, h1, h2⟩ := w.rep j _ q2
    rw [q3] at h1; cases h1
    obtain ⟨a, e, n, t⟩ := h2
    subst e
    exact ⟨a, rfl, ⟨j, _, q2, rfl, q3⟩, t⟩
/-- a call all of whose arguments but the borrowed one are values -/
def callP (bo : Option Nat) (n : Nat) (f : FD) (os : List O) (δ : Env) : Option (O × Env) := if (decide (os.length = n) && plainB bo 0 os) = true then
  (derefs δ os).bind fun ds => (f ds).bind fun p => (putBack bo os δ p.2).bind fun δ2 => some (p.1.o, δ2) else none
theorem call_plain {bo : Option Nat} {n : Nat} {f : FD} {os : List O} {vs : List V} {o : O} (w : Wd K F R H δ σ) (ro : RepOs K F R H δ σ os vs) (h : callP bo n f os δ = some (o, δ')) (Q : VK) (E : XK)
    (q : ∀ v R' H', Wd K F R' H' δ' σ → Ext δ δ' σ R H R' H' → RepO K F R' H' δ' σ o v → FreO H o v → Q v H') : spD K bo n f vs H Q E := by
  unfold callP at h
  split at h
  case isFalse => cases h
  rename_i hc
  rw [Bool.and_eq_true] at hc
  obtain ⟨ds, h1, h⟩ := Option.bind_eq_some_iff.mp h
  obtain ⟨⟨r, m⟩, h2, h⟩ := Option.bind_eq_some_iff.mp h
  obtain ⟨δ2, h3, h⟩ := Option.bind_eq_some_iff.mp h
  cases h
  have hlen : os.length = n := of_decide_eq_true hc.1
  refine ⟨ro.length.symm.trans hlen, R, ds, r, m, ⟨(derefs_len h1).trans ro.length, fun i d v e1 e2 => ⟨fun hb => ?_, fun hb => ?_⟩⟩, fun a h => (w.new a h).2, h2, fun v R' H' de => ?_⟩
  · obtain ⟨o, e3, e4⟩ := derefs_get h1 e1
    obtain ⟨a, e5, e6, e7⟩ := bor_rep w ro h3 hb (by rw [e3]; exact e4) e2
    exact ⟨a, e5, (w.ownAt e6).1, e7⟩
  · obtain ⟨o, e3, e4⟩ := derefs_get h1 e1
    obtain ⟨d', e5⟩ := plainB_get hc.2 e3 (by rw [Nat.zero_add]; exact hb)
    subst e5
    cases e4
    exact ro.get e3 e2
  · obtain ⟨w2, x2⟩ := call_world (Rn := R') w ro h3 de de.sub (fun _ h => h) de.fresh de.tr fun a h => (de.out a h).2
    have res := de.res
    cases r with
    | dat d => exact q v R' H' w2 x2 res trivial
    | fre d =>
      obtain ⟨a, e, n1, n2, t⟩ := res
      exact q v R' H' w2 x2 ⟨a, e, n1, fun z => w.ownNe n2 (x2.own a z), w.H0none n2, t⟩ fun b e2 => by rw [e] at e2; cases e2; exact n2
/-- what is lent -/
def Lnt (δ : Env) (bo : Option Nat) (os : List O) (vs : List V) : Reg := fun a => ∃ i, bo ≠ some i ∧ vs[i]? = some (V.ref a) ∧ ((∃ (j : Nat) (s : Sl), os[i]? = some (.own j) ∧ δ[j]? = some s ∧ s.own? = true) ∨ ∃ d, os[i]? = some (.fre d))
/-- no lent slot is the borrowed one -/
def lendB (bo : Option Nat) (os : List O) : Bool := match bo with
  | none => true
  | some i => match os[i]? with
    | some (.own j) => lendN i j 0 os
    | _ => false
where lendN (i j : Nat) : Nat → List O → Bool
  | _, [] => true
  | k, o :: os => (match o with | .own l => decide (k = i) || decide (l ≠ j) | _ => true) && lendN i j (k + 1) os
theorem lendN_get : ∀ {os : List O} {i j k l q : Nat}, lendB.lendN i j k os = true → os[q]? = some (.own l) → k + q ≠ i → l ≠ j
  | [], _, _, _, _, q, _, e, _ => by simp at e
  | o :: os, i, j, k, l, 0, h, e, n => by
    simp at e; subst e
    unfold lendB.lendN at h
    rw [Bool.and_eq_true, Bool.or_eq_true] at h
    rcases h.1 with z | z
    · exact absurd (of_decide_eq_true z) n
    · exact of_decide_eq_true z
  | o :: os, i, j, k, l, q + 1, h, e, n => by
    unfold lendB.lendN at h
    rw [Bool.and_eq_true] at h
    exact lendN_get (k := k + 1) (q := q) h.2 (by simpa using e) (by rw [show k + 1 + q = k + (q + 1) by omega]; exact n)
def callL (bo : Option Nat) (n : Nat) (f : FD) (os : List O) (δ : Env) : Option (O × Env) := if (decide (os.length = n) && lendB bo os) = true then
  (derefs δ os).bind fun ds => (f ds).bind fun p => if (flatR p.1 && (flatT p.2)) = true then (putBack bo os δ p.2).bind fun δ2 => some (p.1.o, δ2) else none else none
theorem call_lend {bo : Option Nat} {n : Nat} {f : FD} {os : List O} {vs : List V} {o : O} (w : Wd K F R H δ σ) (ro : RepOs K F R H δ σ os vs) (h : callL bo n f os δ = some (o, δ')) (Q : VK) (E : XK)
    (q : ∀ v R' H', Wd K F R' H' δ' σ → Ext δ δ' σ R H R' H' → RepO K F R' H' δ' σ o v → FreO H o v → Q v H') : spD K bo n f vs H Q E := by
  unfold callL at h
  split at h
  case isFalse => cases h
  rename_i hc
  rw [Bool.and_eq_true] at hc
  obtain ⟨ds, h1, h⟩ := Option.bind_eq_some_iff.mp h
  obtain ⟨⟨r, m⟩, h2, h⟩ := Option.bind_eq_some_iff.mp h
  split at h
  case isFalse => cases h
  rename_i hfl
  rw [Bool.and_eq_true] at hfl
  obtain ⟨δ2, h3, h⟩ := Option.bind_eq_some_iff.mp h
  cases h
  have hlen : os.length = n := of_decide_eq_true hc.1
  let Rc : Reg := fun a => R a ∨ (Lnt δ bo os vs a ∧ H a ≠ none)
  have k : Keep R H Rc H := ⟨fun _ h => .inl h, fun _ _ _ h => h, fun _ _ h => h, fun _ _ _ h => h⟩
  refine ⟨ro.length.symm.trans hlen, Rc, ds, r, m, ⟨(derefs_len h1).trans ro.length, fun i d v e1 e2 => ⟨fun hb => ?_, fun hb => ?_⟩⟩, fun a h => h.elim (fun h => (w.new a h).2) (·.2), h2, fun v R' H' de => ?_⟩
  · obtain ⟨o, e3, e4⟩ := derefs_get h1 e1
    obtain ⟨a, e5, e6, e7⟩ := bor_rep w ro h3 hb (by rw [e3]; exact e4) e2
    refine ⟨a, e5, fun z => ?_, e7.keep k rfl⟩
    rcases z with z | ⟨⟨i', z1, z2, z3⟩, _⟩
    · exact (w.ownAt e6).1 z
    · subst hb
      obtain ⟨j, q1, q2⟩ := put_some h3
      have q3 : σ[j]? = some (some v) := ro.get q1 e2
      rw [e5] at q3
      rcases z3 with ⟨l, s, z3, ql, ho⟩ | ⟨d', z3⟩
      · have q4 : σ[l]? = some (some (V.ref a)) := ro.get z3 z2
        have hl := hc.2
        simp only [lendB, q1] at hl
        have hn : l ≠ j := lendN_get hl z3 (by rw [Nat.zero_add]; exact fun q => z1 (by rw [q]))
        rcases q2 with ⟨d0, q2, _⟩ | ⟨d0, q2, _⟩
        · exact hn (w.dis l j s _ a ql q2 ho rfl q4 q3)
        · exact hn (w.dis l j s _ a ql q2 ho rfl q4 q3)
      · obtain ⟨b, e, n1, n2, _, _⟩ := ro.get z3 z2
        cases e
        exact n2 e6
  · obtain ⟨o, e3, e4⟩ := derefs_get h1 e1
    have rv := ro.get e3 e2
    cases o with
    | dat d' => cases e4; exact RepV.keep k rv
    | fre d' =>
      cases e4
      obtain ⟨a, e, _, _, _, t⟩ := rv
      subst e
      obtain ⟨ob, hob, _⟩ := t.at
      exact (t.keep k rfl).val (.inr ⟨⟨i, hb, e2, .inr ⟨_, e3⟩⟩, by rw [hob]; exact fun q => by cases q⟩)
    | own j =>
      have e4' : (δ[j]?).bind Sl.d? = some d := e4
      cases ql : δ[j]? with
      | none => rw [ql] at e4'; cases e4'
      | some s =>
        rw [ql] at e4'
        obtain ⟨ov, r1, r2⟩ := w.rep j s ql
        have rv' : σ[j]? = some (some v) := rv
        rw [rv'] at r1; cases r1
        have go : s.own? = true → (∃ a, v = V.ref a ∧ ¬ R a ∧ RepTop K R H d a) → RepV K Rc H d v := fun ho ⟨a, e, _, t⟩ => by
          subst e
          obtain ⟨ob, hob, _⟩ := t.at
          exact (t.keep k rfl).val (.inr ⟨⟨i, hb, e2, .inl ⟨_, s, e3, ql, ho⟩⟩, by rw [hob]; exact fun q => by cases q⟩)
        cases s with
        | un => cases e4'
        | val d0 => cases e4'; exact RepV.keep k r2
        | own d0 => cases e4'; exact go rfl r2
        | brw d0 => cases e4'; exact go rfl r2
  · obtain ⟨w2, x2⟩ := call_world (Rn := R) w ro h3 de (fun _ h => h) (fun a h => de.sub a (.inl h)) (fun a h => .inl h) (fun a h => de.tr a (de.sub a (.inl h))) fun a h => flat_top hfl.2 (de.out a h).2
    have res := de.res
    cases r with
    | dat d => exact q v R H' w2 x2 (flat_rep hfl.1 res) trivial
    | fre d =>
      obtain ⟨a, e, n1, n2, t⟩ := res
      exact q v R H' w2 x2 ⟨a, e, fun z => n1 (de.sub a (.inl z)), fun z => w.ownNe n2 (x2.own a z), w.H0none n2, flat_top hfl.1 t⟩ fun b e2 => by rw [e] at e2; cases e2; exact n2
end
end DV

/-! DV7: calls as expressions, writes, what is walked, comprehensions. -/
namespace DV
open PySem PySem.Spec PyProof.Rows L2
section
variable {K : PySem.W.Frag} {F : Fx} {R R1 R2 R' : Reg} {H H1 H' : Hp} {δ δ1 δ' : Env} {σ σ' : L2.St}
theorem RepOs.append : ∀ {os ps : List O} {vs us : List V}, RepOs K F R H δ σ os vs → RepOs K F R H δ σ ps us → RepOs K F R H δ σ (os ++ ps) (vs ++ us)
  | [], _, _, _, h, g => by rw [show _ = [] from h]; exact g
  | o :: os, _, _, _, ⟨v, r, e, h1, h2⟩, g => by subst e; exact ⟨v, _, rfl, h1, h2.append g⟩
theorem RepOs.dats : ∀ {ds : List D} {vs : List V}, RepVs K R H ds vs → RepOs K F R H δ σ (ds.map .dat) vs
  | [], _, h => h
  | d :: ds, _, ⟨v, r, e, h1, h2⟩ => ⟨v, r, e, h1, RepOs.dats h2⟩

/-! ### calls -/
def callE (call : List O → Env → Option (O × Env)) (dds : List D) (fa : MA) : ME := fun δ => (fa δ).bind fun p => call (p.1 ++ dds.map .dat) p.2
def CallOk (K : PySem.W.Frag) (sp : Sp) (call : List O → Env → Option (O × Env)) : Prop := ∀ F R H δ σ os vs o δ', Wd K F R H δ σ → RepOs K F R H δ σ os vs → call os δ = some (o, δ') → ∀ (Q : VK) (E : XK),
  (∀ v R' H', Wd K F R' H' δ' σ → Ext δ δ' σ R H R' H' → RepO K F R' H' δ' σ o v → FreO H o v → Q v H') → sp vs H Q E
theorem plain_ok {bo : Option Nat} {n : Nat} {f : FD} : CallOk K (spD K bo n f) (callP bo n f) := fun F R H δ σ os vs o δ' w ro h Q E q => call_plain w ro h Q E q
theorem lend_ok {bo : Option Nat} {n : Nat} {f : FD} : CallOk K (spD K bo n f) (callL bo n f) := fun F R H δ σ os vs o δ' w ro h Q E q => call_lend w ro h Q E q
theorem ev_call {sp : Sp} {call : List O → Env → Option (O × Env)} {dds : List D} {dvs : List V} {E : XK} {ta : TA} {fa : MA} (hc : CallOk K sp call) (hd : ∀ R H, RepVs K R H dds dvs) (ha : EvA K ta fa) : Ev K (tCall sp dvs E ta) (callE call dds fa) :=
  fun F R H δ σ o δ' w hf Q q => by
  obtain ⟨⟨os, δ1⟩, e1, hf⟩ := Option.bind_eq_some_iff.mp hf
  refine ha F R H δ σ os δ1 w e1 _ fun vs R1 H1 w1 x1 r1 f1 => ?_
  exact hc F R1 H1 δ1 σ _ _ o δ' w1 (r1.append (RepOs.dats (hd R1 H1))) hf Q E fun v R2 H2 w2 x2 r2 f2 => q v R2 H2 w2 (x1.trans x2) r2 (f2.ext x1)
def insB (C : Addr) (m : Str) : D → Bool
  | .ins C' ks _ => decide (C' = C) && !ks.contains m
  | _ => false
def methE (C : Addr) (m : Str) (call : List O → Env → Option (O × Env)) (dds : List D) (fo : ME) (fa : MA) : ME := fun δ => (fo δ).bind fun p => (deref p.2 p.1).bind fun d => if insB C m d = true then
  (fa p.2).bind fun q => call (p.1 :: (q.1 ++ dds.map .dat)) q.2 else none
theorem lookup_zip_none : ∀ {ks : List Str} {vs : List V} {m : Str}, ks.contains m = false → (ks.zip vs).lookup m = none
  | [], _, _, _ => rfl
  | k :: ks, [], _, _ => rfl
  | k :: ks, v :: vs, m, h => by
    rw [List.contains_cons, Bool.or_eq_false_iff] at h
    rw [List.zip_cons_cons, List.lookup_cons, h.1]
    exact lookup_zip_none h.2
theorem ev_meth {C : Addr} {m : Str} {sp : Sp} {call : List O → Env → Option (O × Env)} {dds : List D} {dvs : List V} {E : XK} {to : TE} {fo : ME} {ta : TA} {fa : MA} (hc : CallOk K sp call) (hd : ∀ R H, RepVs K R H dds dvs) (ho : Ev K to fo) (ha : EvA K ta fa) :
    Ev K (tMeth C m sp dvs E to ta) (methE C m call dds fo fa) := fun F R H δ σ o δ' w hf Q q => by
  obtain ⟨⟨o0, δ1⟩, e1, hf⟩ := Option.bind_eq_some_iff.mp hf
  obtain ⟨d, e2, hf⟩ := Option.bind_eq_some_iff.mp hf
  split at hf
  case isFalse => cases hf
  rename_i hi
  obtain ⟨⟨os, δ2⟩, e3, hf2⟩ := Option.bind_eq_some_iff.mp hf
  refine ho F R H δ σ o0 δ1 w e1 _ fun x R1 H1 w1 x1 r1 f1 => ?_
  have rl := deref_ok w1 r1 e2
  cases d with
  | ins C' ks ds =>
    have hi' : C' = C ∧ ks.contains m = false := by simpa [insB] using hi
    obtain ⟨rfl, hm⟩ := hi'
    obtain ⟨a, dx, vs, e, h1, _, _⟩ := rl.ins
    refine ⟨a, dx, _, e, h1, lookup_zip_none hm, ?_⟩
    refine ha F R1 H1 δ1 σ os δ2 w1 e3 _ fun us R2 H2 w2 x2 r2 f2 => ?_
    exact hc F R2 H2 δ2 σ (o0 :: (os ++ dds.map .dat)) (x :: (us ++ dvs)) o δ' w2 ⟨x, _, rfl, r1.ext w1 x2, r2.append (RepOs.dats (hd R2 H2))⟩ hf2 Q E fun v R3 H3 w3 x3 r3 f3 => q v R3 H3 w3 ((x1.trans x2).trans x3) r3 (f3.ext (x1.trans x2))
  | _ => simp [insB] at hi
def makeE (C : Addr) (n : Nat) (f : FD) (dds : List D) (fa : MAD) : ME := fun δ => (fa δ).bind fun p => if (decide ((p.1 ++ dds).length + 1 = n)) = true then (f (.ins C [] [] :: (p.1 ++ dds))).bind fun q => match q.1 with
  | .dat .non => some (.fre q.2, p.2)
  | _ => none
  else none
theorem ev_make {C : Addr} {n : Nat} {f : FD} {dds : List D} {dvs : List V} {E : XK} {ta : TA} {fa : MAD} (hd : ∀ R H, RepVs K R H dds dvs) (ha : EvAD K ta fa) : Ev K (tMake C (spD K (some 0) n f) dvs E ta) (makeE C n f dds fa) :=
  fun F R H δ σ o δ' w hf Q q => by
  obtain ⟨⟨ds, δ1⟩, e1, hf⟩ := Option.bind_eq_some_iff.mp hf
  split at hf
  case isFalse => cases hf
  rename_i hn
  have hn' : (ds ++ dds).length + 1 = n := of_decide_eq_true hn
  obtain ⟨⟨r, m⟩, e2, hf⟩ := Option.bind_eq_some_iff.mp hf
  refine ha F R H δ σ ds δ1 w e1 _ fun vs R1 H1 w1 x1 r1 => ?_
  intro x dx hx hdx hne
  have hr : r = .dat .non ∧ o = .fre m ∧ δ1 = δ' := by
    cases r with
    | dat d =>
      cases d with
      | non => simp at hf; exact ⟨rfl, hf.1.symm, hf.2⟩
      | _ => simp at hf
    | fre d => simp at hf
  obtain ⟨rfl, rfl, rfl⟩ := hr
  have hx2 : upd H1 dx (.own x) x = none := by rw [upd_ne hne.symm]; exact hx
  have g : Grow H1 (upd (upd H1 dx (.own x)) x (.ins C dx [])) := (Grow.new hdx).trans (Grow.new hx2)
  have rr : RepVs K R1 H1 (ds ++ dds) (vs ++ dvs) := r1.append (hd R1 H1)
  have nR : ¬ R1 x := fun z => (w1.new x z).2 hx
  have alv : ∀ a, H1 a ≠ none → upd (upd H1 dx (.own x)) x (.ins C dx []) a ≠ none := (g.ext (S := fun _ => False) (R := R1)).alv
  refine ⟨by rw [List.length_cons, ← rr.length]; exact hn', R1, _, .dat .non, m, ⟨by rw [List.length_cons, List.length_cons, rr.length], fun i d v h1 h2 => ⟨fun hb => ?_, fun hb => ?_⟩⟩, fun a h => alv a (w1.new a h).2, e2, fun v R' H' de => ?_⟩
  · cases hb
    simp at h1 h2
    subst h1; subst h2
    exact ⟨x, rfl, nR, dx, [], upd_same, rfl, rfl⟩
  · cases i with
    | zero => exact absurd rfl hb
    | succ i =>
      obtain ⟨v', h3, h4⟩ := rr.get (i := i) (d := d) (by simpa using h1)
      have : v' = v := by
        have h2' : (vs ++ dvs)[i]? = some v := by simpa using h2
        rw [h3] at h2'; exact Option.some.inj h2'
      subst this
      exact RepV.keep g.keep h4
  · have hB : BoA (some 0) (V.ref x :: (vs ++ dvs)) x := ⟨0, rfl, rfl⟩
    have hB' : ∀ a, BoA (some 0) (V.ref x :: (vs ++ dvs)) a → a = x := fun a ⟨i, e, h⟩ => by cases e; simp at h; exact h.symm
    obtain ⟨n1, t1⟩ := de.out x hB
    have fr : ∀ a o, H1 a = some o → H' a = some o := fun a o h => de.frame a o (g a o h) fun z => by
      rw [hB' a z] at h; rw [hx] at h; cases h
    have ex : Ext δ1 δ1 σ R1 H1 R' H' := ⟨de.sub, fun a h => (de.fresh a h).elim .inl fun z => .inr (.inl (by
        cases e : H1 a with
        | none => rfl
        | some o => rw [g a o e] at z; cases z)), fun a o h _ => fr a o h, fun _ h => h, fun a h => de.alv a (alv a h)⟩
    refine ⟨de.res, q _ R' H' ?_ (x1.trans ex) ⟨x, rfl, n1, w1.ownNe hx, w1.H0none hx, t1⟩ fun b e => by cases e; exact x1.back hx⟩
    refine w1.step ex (fun a h => ?_) fun a h => ⟨?_, de.tr a h⟩
    · obtain ⟨z1, o, ho, _⟩ := w1.ownAt h
      refine ⟨fun z => ?_, by rw [ho]; exact fr a o ho⟩
      rcases ex.fresh a z with z | z | z
      · exact z1 z
      · rw [z] at ho; cases ho
      · rcases de.fresh a ‹_› with y | y
        · exact z1 y
        · rw [g a o ho] at y; cases y
    · rcases de.fresh a h with z | z
      · exact (w1.new a z).1
      · exact .inr (w1.H0none (by
          cases e : H1 a with
          | none => rfl
          | some o => rw [g a o e] at z; cases z))

/-! ### writes -/
def Sl.put : Sl → D → Sl
  | .own _, d => .own d
  | .brw _, d => .brw d
  | s, _ => s
theorem keep_upd {l : Addr} {o : HO} (n : ¬ R l) (t : ∃ o, H l = some o ∧ (∀ xs, o ≠ .tup xs) ∧ ∀ ob u, o ≠ .frz ob u) : Keep R H R (upd H l o) := by
  obtain ⟨u, h1, h2, h3⟩ := t
  refine ⟨fun _ h => h, fun a v r h => ?_, fun a xs h => ?_, fun a ob v h => ?_⟩
  · rw [upd_ne (fun e => by subst e; exact n r)]; exact h
  · rw [upd_ne (fun e => by subst e; rw [h1] at h; cases h; exact h2 _ rfl)]; exact h
  · rw [upd_ne (fun e => by subst e; rw [h1] at h; cases h; exact h3 _ _ rfl)]; exact h
theorem Wd.write (w : Wd K F R H δ σ) {i : Nat} {s : Sl} {l : Addr} {d : D} {o : HO} (hs : δ[i]? = some s) (ho : s.own? = true) (hl : σ[i]? = some (some (V.ref l))) (t : RepTop K R (upd H l o) d l) :
    Wd K F R (upd H l o) (δ.set i (s.put d)) σ ∧ Ext δ (δ.set i (s.put d)) σ R H R (upd H l o) := by
  have oa : OwnA δ σ l := ⟨i, s, hs, ho, hl⟩
  obtain ⟨n, ta⟩ := w.ownAt oa
  have alv : ∀ a, H a ≠ none → upd H l o a ≠ none := fun a h => by
    by_cases e : a = l
    · rw [e, upd_same]; exact fun q => by cases q
    · rw [upd_ne e]; exact h
  have ex : Ext δ (δ.set i (s.put d)) σ R H R (upd H l o) := by
    refine ⟨fun _ h => h, fun _ h => .inl h, fun a u h z => by rw [upd_ne (fun e => by subst e; exact z oa)]; exact h, fun a h => ?_, alv⟩
    obtain ⟨j, s', h1, h2, h3⟩ := h
    rcases set_get h1 with ⟨q1, q2⟩ | ⟨_, q⟩
    · subst q1; exact ⟨i, s, hs, ho, h3⟩
    · exact ⟨j, s', q, h2, h3⟩
  have kp := keep_upd (o := o) n ta
  refine ⟨w.next ex (by simp) (fun j s' h => ?_) (fun j d' h => ?_) (fun j d' h => ?_) fun a h => ⟨(w.new a h).1, alv a (w.new a h).2⟩, ex⟩
  · rcases set_get h with ⟨q1, q2⟩ | ⟨q1, q⟩
    · subst q1; subst q2
      refine ⟨_, hl, ?_⟩
      cases s with
      | un => cases ho
      | val _ => cases ho
      | own _ => exact ⟨l, rfl, n, t⟩
      | brw _ => exact ⟨l, rfl, n, t⟩
    · obtain ⟨ov, h1, h2⟩ := w.rep j s' q
      refine ⟨ov, h1, h2.keep kp fun a q2 q3 => ?_⟩
      rw [q3] at h1
      have ne : a ≠ l := fun e => by subst e; exact q1 (w.dis i j s s' a hs q ho q2 hl h1)
      exact ⟨(w.ownAt ⟨j, s', q, q2, h1⟩).1, upd_ne ne⟩
  · rcases set_get h with ⟨q1, q2⟩ | ⟨q1, q⟩
    · subst q1
      cases s with
      | own d0 => exact ⟨d0, hs⟩
      | un => cases ho
      | val _ => cases ho
      | brw _ => cases q2
    · exact ⟨d', q⟩
  · rcases set_get h with ⟨q1, q2⟩ | ⟨q1, q⟩
    · subst q1
      cases s with
      | brw d0 => exact ⟨d0, hs⟩
      | un => cases ho
      | val _ => cases ho
      | own _ => cases q2
    · exact ⟨d', q⟩
/-- a method that changes its list or dict -/
def MutOk (K : PySem.W.Frag) (r : V → List V → Hp → VK → Prop) (g : D → List D → Option (D × D)) : Prop := ∀ R H d0 ds d1 res l vs, (∀ o, Keep R H R (upd H l o)) → RepTop K R H d0 l → RepVs K R H ds vs → g d0 ds = some (d1, res) →
  ∀ Q : VK, (∀ v o, RepTop K R (upd H l o) d1 l → RepV K R (upd H l o) res v → Q v (upd H l o)) → r (.ref l) vs H Q
def isLst : D → Bool
  | .lst _ => true
  | _ => false
def mutE (ty : D → Bool) (g : D → List D → Option (D × D)) (fo : ME) (fa : MAD) : ME := fun δ => (fo δ).bind fun p => (deref p.2 p.1).bind fun d0 => if ty d0 = true then (fa p.2).bind fun q => match p.1 with
  | .own i => match q.2[i]? with
    | some (.own d) => (g d q.1).bind fun x => some (.dat x.2, q.2.set i (.own x.1))
    | some (.brw d) => (g d q.1).bind fun x => some (.dat x.2, q.2.set i (.brw x.1))
    | _ => none
  | _ => none
  else none
theorem ev_mut {T : String} {ty : D → Bool} {r : V → List V → Hp → VK → Prop} {g : D → List D → Option (D × D)} {to : TE} {ta : TA} {fo : ME} {fa : MAD} (hT : ∀ R H d v, ty d = true → RepL K R H d v → tyV K T v H) (hm : MutOk K r g) (ho : Ev K to fo) (ha : EvAD K ta fa) :
    Ev K (tBM K T r to ta) (mutE ty g fo fa) := fun F R H δ σ o δ' w hf Q q => by
  obtain ⟨⟨o0, δ1⟩, e1, hf⟩ := Option.bind_eq_some_iff.mp hf
  obtain ⟨d0, e2, hf⟩ := Option.bind_eq_some_iff.mp hf
  split at hf
  case isFalse => cases hf
  rename_i hi
  obtain ⟨⟨ds, δ2⟩, e3, hf⟩ := Option.bind_eq_some_iff.mp hf
  refine ho F R H δ σ o0 δ1 w e1 _ fun x R1 H1 w1 x1 r1 f1 => ⟨hT R1 H1 d0 x hi (deref_ok w1 r1 e2), ?_⟩
  refine ha F R1 H1 δ1 σ ds δ2 w1 e3 _ fun vs R2 H2 w2 x2 r2 => ?_
  have core : ∀ (i : Nat) (s : Sl) (d d1 res : D), o0 = .own i → δ2[i]? = some s → s.own? = true → s.d? = some d → g d ds = some (d1, res) → o = .dat res → δ' = δ2.set i (s.put d1) → r x vs H2 Q := by
    rintro i s d d1 res rfl h1 h2 h3 h4 rfl rfl
    have rx : σ[i]? = some (some x) := r1
    obtain ⟨ov, h5, h6⟩ := w2.rep i s h1
    rw [rx] at h5; cases h5
    have : ∃ l, x = V.ref l ∧ ¬ R2 l ∧ RepTop K R2 H2 d l := by
      cases s with
      | un => cases h2
      | val _ => cases h2
      | own d' => cases h3; exact h6
      | brw d' => cases h3; exact h6
    obtain ⟨l, rfl, n, t⟩ := this
    refine hm R2 H2 d ds d1 res l vs (fun o => keep_upd n t.at) t r2 h4 Q fun v o t1 t2 => ?_
    obtain ⟨w3, x3⟩ := w2.write h1 h2 rx t1
    exact q v R2 _ w3 ((x1.trans x2).trans x3) t2 trivial
  cases o0 with
  | dat _ => cases hf
  | fre _ => cases hf
  | own i =>
    simp only at hf
    cases h1 : δ2[i]? with
    | none => rw [h1] at hf; cases hf
    | some s =>
      rw [h1] at hf
      cases s with
      | un => cases hf
      | val _ => cases hf
      | own d =>
        obtain ⟨⟨d1, res⟩, h2, hf⟩ := Option.bind_eq_some_iff.mp hf
        cases hf
        exact core i _ d d1 res rfl h1 rfl rfl h2 rfl rfl
      | brw d =>
        obtain ⟨⟨d1, res⟩, h2, hf⟩ := Option.bind_eq_some_iff.mp hf
        cases hf
        exact core i _ d d1 res rfl h1 rfl rfl h2 rfl rfl
theorem ty_lst (R : Reg) (H : Hp) (d : D) (v : V) (h : isLst d = true) (r : RepL K R H d v) : tyV K "list" v H := by
  cases d with
  | lst ds => obtain ⟨a, vs, rfl, h1, _⟩ := r.lst; exact .inl ⟨rfl, vs, .of h1⟩
  | _ => cases h
def appG (d : D) (ds : List D) : Option (D × D) := match d, ds with
  | .lst xs, [y] => if xs.length < sizeLine then some (.lst (xs ++ [y]), .non) else none
  | _, _ => none
theorem m_append : MutOk K rAppend appG := fun R H d0 ds d1 res l vs k t rv hg Q q => by
  unfold appG at hg
  split at hg
  · rename_i xs y
    split at hg
    · rename_i hl
      cases hg
      obtain ⟨us, h1, h2⟩ := t
      obtain ⟨v, r, e, h3, h4⟩ := rv
      have : r = [] := h4
      subst this; subst e
      exact ⟨l, us, v, rfl, rfl, h1, by rw [← h2.length]; exact hl, q _ _ ⟨_, upd_same, (h2.append (RepVs.one h3)).keep (k _)⟩ rfl⟩
    · cases hg
  · cases hg
def popG (d : D) (ds : List D) : Option (D × D) := match d, ds with
  | .lst xs, [] => match xs[xs.length - 1]? with
    | some y => some (.lst xs.dropLast, y)
    | none => none
  | _, _ => none
/-- o[i] = e of an owned list -/
def setL (fe : MD) (fo fi : ME) : MS := fun δ => (fe δ).bind fun p => (fo p.2).bind fun q => (fi q.2).bind fun r => match q.1, r.1 with
  | .own i, .dat (.int k) => match r.2[i]? with
    | some (.own (.lst xs)) => (ixN xs.length k).bind fun j => some (.nx (r.2.set i (.own (.lst (xs.set j p.1)))))
    | some (.brw (.lst xs)) => (ixN xs.length k).bind fun j => some (.nx (r.2.set i (.brw (.lst (xs.set j p.1)))))
    | _ => none
  | _, _ => none
theorem s_setL {te to ti : TE} {fe : MD} {fo fi : ME} (he : EvD K te fe) (ho : Ev K to fo) (hi : Ev K ti fi) : EvS K (tAsg te (gSub to ti rSetL)) (setL fe fo fi) := fun F R H δ σ fl w hf E q => by
  obtain ⟨⟨d, δ1⟩, e1, hf⟩ := Option.bind_eq_some_iff.mp hf
  obtain ⟨⟨o, δ2⟩, e2, hf⟩ := Option.bind_eq_some_iff.mp hf
  obtain ⟨⟨oi, δ3⟩, e3, hf⟩ := Option.bind_eq_some_iff.mp hf
  refine he F R H δ σ d δ1 w e1 _ fun v R1 H1 w1 x1 r1 => ?_
  refine ho F R1 H1 δ1 σ o δ2 w1 e2 _ fun x R2 H2 w2 x2 r2 _ => ?_
  refine hi F R2 H2 δ2 σ oi δ3 w2 e3 _ fun y R3 H3 w3 x3 r3 _ => ?_
  have core : ∀ (i : Nat) (k : Int) (s : Sl) (xs : List D) (j : Nat), o = .own i → oi = .dat (.int k) → δ3[i]? = some s → s.own? = true → s.d? = some (.lst xs) → ixN xs.length k = some j → fl = .nx (δ3.set i (s.put (.lst (xs.set j d)))) → rSetL x y v H3 fun H4 => E.nx σ H4 := by
    rintro i k s xs j rfl rfl h1 h2 h3 h4 rfl
    have rx : σ[i]? = some (some x) := r2
    have ry : y = .int k := r3
    obtain ⟨ov, h5, h6⟩ := w3.rep i s h1
    rw [rx] at h5; cases h5
    have : ∃ l, x = V.ref l ∧ ¬ R3 l ∧ RepTop K R3 H3 (.lst xs) l := by
      cases s with
      | un => cases h2
      | val _ => cases h2
      | own d' => cases h3; exact h6
      | brw d' => cases h3; exact h6
    obtain ⟨l, rfl, n, us, h7, h8⟩ := this
    have ta : ∃ o, H3 l = some o ∧ (∀ xs, o ≠ .tup xs) ∧ ∀ ob u, o ≠ .frz ob u := ⟨_, h7, (fun _ q => by cases q), fun _ _ q => by cases q⟩
    have k3 := (x2.trans x3).keep w1
    refine ⟨l, us, k, j, rfl, ry, h7, by rw [← h8.length]; exact h4, ?_⟩
    have t : RepTop K R3 (upd H3 l (.lst (us.set j v))) (.lst (xs.set j d)) l := ⟨_, upd_same, (h8.set j (RepV.keep k3 r1)).keep (keep_upd n ta)⟩
    obtain ⟨w4, x4⟩ := w3.write h1 h2 rx t
    exact q σ R3 _ w4 (((x1.keep w).trans k3).trans (x4.keep w3))
  cases o with
  | dat _ => cases hf
  | fre _ => cases hf
  | own i =>
    cases oi with
    | own _ => cases hf
    | fre _ => cases hf
    | dat di =>
      cases di with
      | int k =>
        simp only at hf
        cases h1 : δ3[i]? with
        | none => rw [h1] at hf; cases hf
        | some s =>
          rw [h1] at hf
          cases s with
          | un => cases hf
          | val _ => cases hf
          | own d' =>
            cases d' with
            | lst xs =>
              obtain ⟨j, h2, hf⟩ := Option.bind_eq_some_iff.mp hf
              cases hf
              exact core i k _ xs j rfl rfl h1 rfl rfl h2 rfl
            | _ => cases hf
          | brw d' =>
            cases d' with
            | lst xs =>
              obtain ⟨j, h2, hf⟩ := Option.bind_eq_some_iff.mp hf
              cases hf
              exact core i k _ xs j rfl rfl h1 rfl rfl h2 rfl
            | _ => cases hf
      | _ => cases hf
end
end DV

/-! DV8: what is walked; comprehensions. -/
namespace DV
open PySem PySem.Spec PyProof.Rows L2
section
variable {X : Cx} {tg : Expr}
/-- a list or a tuple walked -/
def iSeq (K : PySem.W.Frag) (tl : TE) : TI := fun σ H R => tl σ H fun x H1 => ∃ a, x = .ref a ∧ (((∃ xs, SqL K H1 a xs) ∧ R (Itl K a) H1) ∨ ((∃ xs, SqT K H1 a xs) ∧ R (Itt K a) H1))
theorem pi_seq {l : Expr} {tl : TE} (hl : PE X l tl) : PI X tg l (iSeq X.K tl) := by
  refine ⟨fun pins s σ H R I h => ?_⟩
  refine thn (hl.run pins s σ H _ I h) fun v s1 ⟨x, H1, I1, r1, q1⟩ => ?_
  obtain ⟨a, e, ⟨⟨xs, hq⟩, q⟩ | ⟨⟨xs, hq⟩, q⟩⟩ := q1
  · subst e
    cases r1
    obtain ⟨its, rv, p, hz⟩ := I1.list hq
    refine wpAny_pyIter_list p.isList ?_
    refine ⟨s1.heap.objs.size, [s1.heap.objs.size], _, _, H1, rfl, I1.kept (t' := s1.toks) fun b o e => Heap.get?_push_of_some _ e, turn_list a _, ⟨_, Heap.get?_push_size _ rfl, rfl, rfl⟩, fun b hb => ?_, q⟩
    have e : b = s1.heap.objs.size := by simpa using hb
    subst e
    exact I1.fpOk (Nat.le_refl _) (I1.hok.fresh (Nat.le_refl _))
  · subst e
    cases r1
    obtain ⟨its, rv, p, hz⟩ := I1.tuple hq
    refine wpAny_pyIter_tuple (show s1.heap.IsTuple a its.toArray from p) ?_
    refine ⟨s1.heap.objs.size, [s1.heap.objs.size], _, _, H1, rfl, I1.kept (t' := s1.toks) fun b o e => Heap.get?_push_of_some _ e, turn_tuple a _, ⟨_, Heap.get?_push_size _ rfl, rfl, rfl⟩, fun b hb => ?_, q⟩
    have e : b = s1.heap.objs.size := by simpa using hb
    subst e
    exact I1.fpOk (Nat.le_refl _) (I1.hok.fresh (Nat.le_refl _))
end
section
variable {K : PySem.W.Frag} {F : Fx} {R R1 R2 R' : Reg} {H H1 H' : Hp} {δ δ1 δ' : Env} {σ σ' : L2.St}
def itemsOf : D → Option (List D)
  | .lst ds => some ds
  | .ro ds => some ds
  | .tup ds => some ds
  | _ => none
def seqI (f : MD) : MI := fun δ => (f δ).bind fun p => (itemsOf p.1).bind fun ds => some (ds, p.2)
theorem it_lst {a : Addr} {ds : List D} {vs : List V} (ra : R a) (h : SqL K H a vs) (r : RepVs K R H ds vs) (inj : ∀ R' H', Keep R H R' H' → ∀ F δ σ, Wd K F R' H' δ σ → ∀ xs, SqL K H' a xs → xs = vs) : ItOk K (Itl K a) R H ds := fun R' H' k F δ σ w i => by
  have h' := k.seqL ra h
  refine ⟨fun d hd => ?_, fun hl => ⟨vs, h', by rw [← r.length]; exact hl⟩⟩
  obtain ⟨v, hv, rv⟩ := r.get hd
  refine ⟨⟨vs, v, h', hv⟩, fun x H'' y => ?_⟩
  obtain ⟨e, y⟩ := y
  subst e
  have e2 := y vs h'
  rw [hv] at e2; cases e2
  exact ⟨w, Grow.refl, RepV.keep k rv⟩
theorem i_seq {tl : TE} {f : MD} (h : EvD K tl f) : EvI K (iSeq K tl) (seqI f) := fun F R H δ σ ds δ' w hf Q q => by
  obtain ⟨⟨d, δ1⟩, e1, hf⟩ := Option.bind_eq_some_iff.mp hf
  obtain ⟨ds', e2, hf⟩ := Option.bind_eq_some_iff.mp hf
  cases hf
  refine h F R H δ σ d δ1 w e1 _ fun v R1 H1 w1 x1 r1 => ?_
  have lst : ∀ a vs, (∀ R' H', Keep R1 H1 R' H' → SqL K H' a vs) → RepVs K R1 H1 ds vs → ItOk K (Itl K a) R1 H1 ds := fun a vs hs rs R' H' k F' δ' σ' w' i => by
    have h' := hs R' H' k
    refine ⟨fun d hd => ?_, fun hl => ⟨vs, h', by rw [← rs.length]; exact hl⟩⟩
    obtain ⟨v, hv, rv⟩ := rs.get hd
    refine ⟨⟨vs, v, h', hv⟩, fun x H'' y => ?_⟩
    obtain ⟨e, y⟩ := y
    subst e
    have e2 := y vs h'
    rw [hv] at e2; cases e2
    exact ⟨w', Grow.refl, RepV.keep k rv⟩
  cases d with
  | lst xs =>
    cases e2
    obtain ⟨a, vs, e, ra, h1, rs⟩ := r1
    exact ⟨a, e, .inl ⟨⟨vs, .of h1⟩, q _ R1 H1 w1 x1 (lst a vs (fun R' H' k => k.seqL ra (.of h1)) rs)⟩⟩
  | ro xs =>
    cases e2
    obtain ⟨a, vs, e, h1, rs⟩ := r1
    exact ⟨a, e, .inl ⟨⟨vs, h1.l⟩, q _ R1 H1 w1 x1 (lst a vs (fun R' H' k => (k.seqR h1).l) rs)⟩⟩
  | tup xs =>
    cases e2
    obtain ⟨a, vs, e, h1, rs⟩ := r1
    refine ⟨a, e, .inr ⟨⟨vs, h1⟩, q _ R1 H1 w1 x1 fun R' H' k F' δ' σ' w' i => ?_⟩⟩
    have h' := k.seqT h1
    refine ⟨fun d hd => ?_, fun hl => ⟨vs, h', by rw [← rs.length]; exact hl⟩⟩
    obtain ⟨v, hv, rv⟩ := rs.get hd
    refine ⟨⟨vs, v, h', hv⟩, fun x H'' y => ?_⟩
    obtain ⟨e, y⟩ := y
    subst e
    have e2 := y vs h'
    rw [hv] at e2; cases e2
    exact ⟨w', Grow.refl, RepV.keep k rv⟩
  | _ => cases e2
/-- lo, lo + 1, .. -/
def rangeD (lo : Int) (n : Nat) : List D := (List.range n).map fun (i : Nat) => D.int (lo + (i : Int))
theorem it_range {lo : Int} {n : Nat} : ItOk K (Itr lo n) R H (rangeD lo n) := fun R' H' k F δ σ w i => by
  have hl : (rangeD lo n).length = n := by simp [rangeD]
  refine ⟨fun d hd => ?_, fun h => by rw [hl] at h; exact h⟩
  have hi : i < n := by rw [← hl]; exact (List.getElem?_eq_some_iff.mp hd).1
  refine ⟨hi, fun x H'' y => ?_⟩
  obtain ⟨e1, e2⟩ := y
  subst e1
  have : d = D.int (lo + (i : Int)) := by
    unfold rangeD at hd
    rw [List.getElem?_map, List.getElem?_range hi] at hd
    exact (Option.some.inj hd).symm
  subst this
  exact ⟨w, Grow.refl, e2⟩
def rng1 (fa : MA) : MI := fun δ => (fa δ).bind fun p => match p.1 with
  | [.dat (.int j)] => if (decide (-(2 ^ 62) ≤ j) && decide (j < 2 ^ 62)) = true then some (rangeD 0 j.toNat, p.2) else none
  | _ => none
def rng2 (fa : MA) : MI := fun δ => (fa δ).bind fun p => match p.1 with
  | [.dat (.int i), .dat (.int j)] => if (decide (-(2 ^ 62) ≤ i) && decide (i < 2 ^ 62) && (decide (-(2 ^ 62) ≤ j) && decide (j < 2 ^ 62))) = true then some (rangeD i (j - i).toNat, p.2) else none
  | _ => none
theorem i_range1 {ta : TA} {fa : MA} (h : EvA K ta fa) : EvI K (iRng1 ta) (rng1 fa) := fun F R H δ σ ds δ' w hf Q q => by
  obtain ⟨⟨os, δ1⟩, e1, hf⟩ := Option.bind_eq_some_iff.mp hf
  refine h F R H δ σ os δ1 w e1 _ fun vs R1 H1 w1 x1 r1 f1 => ?_
  clear f1
  dsimp only at hf
  split at hf
  · rename_i j
    split at hf
    · rename_i hc
      cases hf
      rw [Bool.and_eq_true] at hc
      obtain ⟨v, r, e, r2, r3⟩ := r1
      have : r = [] := r3
      subst this
      have : v = .int j := r2
      subst this
      exact ⟨j, e, of_decide_eq_true hc.1, of_decide_eq_true hc.2, q _ R1 H1 w1 x1 it_range⟩
    · cases hf
  · cases hf
theorem i_range2 {ta : TA} {fa : MA} (h : EvA K ta fa) : EvI K (iRng2 ta) (rng2 fa) := fun F R H δ σ ds δ' w hf Q q => by
  obtain ⟨⟨os, δ1⟩, e1, hf⟩ := Option.bind_eq_some_iff.mp hf
  refine h F R H δ σ os δ1 w e1 _ fun vs R1 H1 w1 x1 r1 f1 => ?_
  clear f1
  dsimp only at hf
  split at hf
  · rename_i i j
    split at hf
    · rename_i hc
      cases hf
      simp only [Bool.and_eq_true, decide_eq_true_eq] at hc
      obtain ⟨v, r, e, r2, v2, r', e', r3, r4⟩ := r1
      have : r' = [] := r4
      subst this
      have : v = .int i := r2
      subst this
      have : v2 = .int j := r3
      subst this
      subst e'
      exact ⟨i, j, e, ⟨hc.1.1, hc.1.2, hc.2.1, hc.2.2⟩, q _ R1 H1 w1 x1 it_range⟩
    · cases hf
  · cases hf
/-- enumerate of a list -/
def enumD : Nat → List D → List D
  | _, [] => []
  | n, d :: ds => .tup [.int (n : Int), d] :: enumD (n + 1) ds
theorem enumD_get : ∀ {ds : List D} {n i : Nat} {e : D}, (enumD n ds)[i]? = some e → ∃ d, ds[i]? = some d ∧ e = .tup [.int ((n + i : Nat) : Int), d]
  | [], _, i, _, h => by simp [enumD] at h
  | d :: ds, n, 0, e, h => by simp [enumD] at h; exact ⟨d, rfl, by rw [← h]; rfl⟩
  | d :: ds, n, i + 1, e, h => by
    obtain ⟨d', h1, h2⟩ := enumD_get (ds := ds) (n := n + 1) (i := i) (by simpa [enumD] using h)
    exact ⟨d', by simpa using h1, by rw [h2, show n + 1 + i = n + (i + 1) by omega]⟩
theorem enumD_len : ∀ {ds : List D} {n : Nat}, (enumD n ds).length = ds.length
  | [], _ => rfl
  | d :: ds, n => by simp [enumD, enumD_len]
def enumI (fa : MAD) : MI := fun δ => (fa δ).bind fun p => match p.1 with
  | [.lst ds] => some (enumD 0 ds, p.2)
  | _ => none
theorem i_enum {ta : TA} {fa : MAD} (h : EvAD K ta fa) : EvI K (iEnum K ta) (enumI fa) := fun F R H δ σ ds δ' w hf Q q => by
  obtain ⟨⟨os, δ1⟩, e1, hf⟩ := Option.bind_eq_some_iff.mp hf
  refine h F R H δ σ os δ1 w e1 _ fun vs R1 H1 w1 x1 r1 => ?_
  dsimp only at hf
  split at hf
  · rename_i xs
    cases hf
    obtain ⟨v, r, e, ⟨a, us, e2, ra, h1, rs⟩, r3⟩ := r1
    have : r = [] := r3
    subst this; subst e2
    refine ⟨a, us, e, .of h1, q _ R1 H1 w1 x1 fun R' H' k F' δ' σ' w' i => ?_⟩
    have h' : SqL K H' a us := k.seqL ra (.of h1)
    refine ⟨fun d hd => ?_, fun hl => ⟨us, h', by rw [← rs.length]; rw [enumD_len] at hl; exact hl⟩⟩
    obtain ⟨d0, hd0, rfl⟩ := enumD_get hd
    obtain ⟨u, hu, ru⟩ := rs.get hd0
    refine ⟨⟨us, u, h', hu⟩, fun x H'' y => ?_⟩
    obtain ⟨T, x', e3, hT, e4, e5⟩ := y
    subst e3; subst e4
    have e6 := e5 us h'
    rw [hu] at e6; cases e6
    refine ⟨w'.alloc hT, Grow.new hT, T, _, rfl, .of upd_same, .int i, [u], rfl, ?_, u, [], rfl, RepV.keep (k.trans (Grow.new hT).keep) ru, rfl⟩
    show V.int (i : Int) = V.int ((0 + i : Nat) : Int)
    rw [Nat.zero_add]
  · cases hf

/-! ### comprehensions -/
def wipeE (δ : Env) : List Nat → Env
  | [] => δ
  | v :: vs => (wipeE δ vs).set v .un
def restE (δ0 δ : Env) : List Nat → Env
  | [] => δ
  | v :: vs => (restE δ0 δ vs).set v (δ0.getD v .un)
def noOwn (δ : Env) (vs : List Nat) : Bool := vs.all fun v => !(δ.getD v .un).own?
theorem Wd.setUn (w : Wd K F R H δ σ) (i : Nat) (ov : Option V) : Wd K F R H (δ.set i .un) (σ.set i ov) := by
  refine ⟨fun j s h => ?_, by rw [List.length_set, List.length_set]; exact w.len, fun j k s t a h1 h2 h3 h4 h5 h6 => ?_, fun j d' a h g => ?_, fun j d' a h g => ?_, w.fr, w.sub, w.new, fun j d' h => ?_, w.alv, w.kp⟩
  · rcases set_get h with ⟨q1, q2⟩ | ⟨q1, q2⟩
    · subst q1; subst q2
      have hl : i < σ.length := by
        have := (List.getElem?_eq_some_iff.mp h).1
        rw [List.length_set, w.len] at this; exact this
      exact ⟨ov, List.getElem?_set_self hl, trivial⟩
    · rw [List.getElem?_set_ne q1]; exact w.rep j s q2
  · rcases set_get h1 with ⟨q1, q2⟩ | ⟨q1, q2⟩
    · subst q2; cases h3
    · rcases set_get h2 with ⟨q3, q4⟩ | ⟨q3, q4⟩
      · subst q4; cases h4
      · rw [List.getElem?_set_ne q1] at h5
        rw [List.getElem?_set_ne q3] at h6
        exact w.dis j k s t a q2 q4 h3 h4 h5 h6
  · rcases set_get h with ⟨q1, q2⟩ | ⟨q1, q2⟩
    · cases q2
    · rw [List.getElem?_set_ne q1] at g; exact w.loc j d' a q2 g
  · rcases set_get h with ⟨q1, q2⟩ | ⟨q1, q2⟩
    · cases q2
    · rw [List.getElem?_set_ne q1] at g; exact w.locB j d' a q2 g
  · rcases set_get h with ⟨q1, q2⟩ | ⟨q1, q2⟩
    · cases q2
    · rw [List.getElem?_set_ne q1]; exact w.muts j d' q2
theorem Wd.wipe (w : Wd K F R H δ σ) : ∀ vs : List Nat, Wd K F R H (wipeE δ vs) (L2.wipe σ vs)
  | [] => w
  | v :: vs => (Wd.wipe w vs).setUn v none
theorem wipe_own {a : Addr} : ∀ vs : List Nat, OwnA (wipeE δ vs) (L2.wipe σ vs) a → OwnA δ σ a
  | [], h => h
  | v :: vs, ⟨j, s, h1, h2, h3⟩ => by
    rcases set_get h1 with ⟨_, q⟩ | ⟨q, q2⟩
    · subst q; cases h2
    · have h3' : ((L2.wipe σ vs).set v none)[j]? = some (some (V.ref a)) := h3
      rw [List.getElem?_set_ne q] at h3'
      exact wipe_own vs ⟨j, s, q2, h2, h3'⟩
theorem wipe_len : ∀ vs : List Nat, (wipeE δ vs).length = δ.length
  | [] => rfl
  | v :: vs => by unfold wipeE; rw [List.length_set, wipe_len vs]
theorem wipe_get {j : Nat} : ∀ {vs : List Nat}, j ∉ vs → (L2.wipe σ vs)[j]? = σ[j]?
  | [], _ => rfl
  | v :: vs, h => by
    have h1 : v ≠ j := fun e => h (by rw [e]; exact List.mem_cons_self)
    show ((L2.wipe σ vs).set v none)[j]? = _
    rw [List.getElem?_set_ne h1]
    exact wipe_get fun z => h (List.mem_cons_of_mem _ z)
theorem wipe_idem : ∀ (vs us : List Nat), (∀ v ∈ vs, v ∈ us) → L2.wipe (L2.wipe σ us) vs = L2.wipe σ us
  | [], _, _ => rfl
  | v :: vs, us, h => by
    show (L2.wipe (L2.wipe σ us) vs).set v none = _
    rw [wipe_idem vs us fun x hx => h x (List.mem_cons_of_mem _ hx)]
    have hv := h v List.mem_cons_self
    clear h
    have : ∀ ws : List Nat, v ∈ ws → (L2.wipe σ ws).set v none = L2.wipe σ ws := by
      intro ws
      induction ws with
      | nil => intro h; cases h
      | cons x ws ih =>
        intro h
        show ((L2.wipe σ ws).set x none).set v none = (L2.wipe σ ws).set x none
        by_cases e : v = x
        · subst e; rw [List.set_set]
        · rw [List.set_comm none none (fun q => e q.symm)]
          rcases List.mem_cons.mp h with z | z
          · exact absurd z e
          · rw [ih z]
    exact this us hv
theorem rest_out {δ0 : Env} {j : Nat} : ∀ {vs : List Nat}, j ∉ vs → (restE δ0 δ vs)[j]? = δ[j]?
  | [], _ => rfl
  | v :: vs, h => by
    have h1 : v ≠ j := fun e => h (by rw [e]; exact List.mem_cons_self)
    show ((restE δ0 δ vs).set v _)[j]? = _
    rw [List.getElem?_set_ne h1]
    exact rest_out fun z => h (List.mem_cons_of_mem _ z)
theorem rest_in {δ0 : Env} {j : Nat} {s : Sl} : ∀ {vs : List Nat}, j ∈ vs → (restE δ0 δ vs)[j]? = some s → s = δ0.getD j .un
  | [], h, _ => by cases h
  | v :: vs, h, e => by
    have e' : ((restE δ0 δ vs).set v (δ0.getD v .un))[j]? = some s := e
    rcases set_get e' with ⟨q1, q2⟩ | ⟨q1, q2⟩
    · rw [← q1]; exact q2
    · rcases List.mem_cons.mp h with z | z
      · exact absurd z.symm q1
      · exact rest_in z q2
theorem rest_len {δ0 : Env} : ∀ vs : List Nat, (restE δ0 δ vs).length = δ.length
  | [] => rfl
  | v :: vs => by unfold restE; rw [List.length_set, rest_len vs]
theorem Wd.rest {δ0 : Env} {R0 : Reg} {H0 : Hp} {vs : List Nat} (w0 : Wd K F R0 H0 δ0 σ) (w : Wd K F R H δ (L2.wipe σ vs)) (k : Keep R0 H0 R H) (no : noOwn δ0 vs = true) :
    Wd K F R H (restE δ0 δ vs) σ ∧ ∀ a, OwnA (restE δ0 δ vs) σ a → OwnA δ (L2.wipe σ vs) a := by
  have non : ∀ j s, j ∈ vs → (restE δ0 δ vs)[j]? = some s → s.own? = false := fun j s h e => by
    rw [rest_in h e]
    unfold noOwn at no
    rw [List.all_eq_true] at no
    have := no j h
    simpa using this
  have up : ∀ (j : Nat) (s : Sl), (restE δ0 δ vs)[j]? = some s → s.own? = true → δ[j]? = some s ∧ (L2.wipe σ vs)[j]? = σ[j]? := fun j s e ho => by
    by_cases hj : j ∈ vs
    · rw [non j s hj e] at ho; cases ho
    · exact ⟨by rw [← rest_out (δ0 := δ0) hj]; exact e, wipe_get hj⟩
  have hlen : (restE δ0 δ vs).length = σ.length := by rw [rest_len, w.len, wipe_length]
  refine ⟨⟨fun j s h => ?_, hlen, fun i j s t a h1 h2 h3 h4 h5 h6 => ?_, fun j d a h g => ?_, fun j d a h g => ?_, w.fr, w.sub, w.new, fun j d h => ?_, w.alv, w.kp⟩, fun a ⟨j, s, h1, h2, h3⟩ => ?_⟩
  · by_cases hj : j ∈ vs
    · have e := rest_in hj h
      have hjl : j < δ0.length := by rw [w0.len, ← hlen]; exact (List.getElem?_eq_some_iff.mp h).1
      have e0 : δ0[j]? = some s := by rw [e]; simp [hjl]
      obtain ⟨ov, h1, h2⟩ := w0.rep j s e0
      refine ⟨ov, h1, h2.keep k fun a ho => ?_⟩
      rw [non j s hj h] at ho; cases ho
    · rw [rest_out hj] at h
      obtain ⟨ov, h1, h2⟩ := w.rep j s h
      rw [wipe_get hj] at h1
      exact ⟨ov, h1, h2⟩
  · obtain ⟨a1, b1⟩ := up i s h1 h3
    obtain ⟨a2, b2⟩ := up j t h2 h4
    exact w.dis i j s t a a1 a2 h3 h4 (by rw [b1]; exact h5) (by rw [b2]; exact h6)
  · obtain ⟨a1, b1⟩ := up j _ h rfl
    exact w.loc j d a a1 (by rw [b1]; exact g)
  · obtain ⟨a1, b1⟩ := up j _ h rfl
    exact w.locB j d a a1 (by rw [b1]; exact g)
  · obtain ⟨a1, b1⟩ := up j _ h rfl
    rw [← b1]; exact w.muts j d a1
  · obtain ⟨a1, b1⟩ := up j s h1 h2
    exact ⟨j, s, a1, h2, by rw [b1]; exact h3⟩
/-- a pending object of our own is written -/
theorem Wd.touch (w : Wd K F R H δ σ) {p : Addr} {o : HO} (n : ¬ R p) (no : ¬ OwnA δ σ p) (h0 : F.H0 p = none) (t : ∃ u, H p = some u ∧ (∀ xs, u ≠ .tup xs) ∧ ∀ ob v, u ≠ .frz ob v) : Wd K F R (upd H p o) δ σ := by
  have k := keep_upd (o := o) n t
  have alv : ∀ a, H a ≠ none → upd H p o a ≠ none := fun a h => by
    by_cases e : a = p
    · rw [e, upd_same]; exact fun q => by cases q
    · rw [upd_ne e]; exact h
  refine ⟨fun i s h => ?_, w.len, w.dis, w.loc, w.locB, fun a u h g => ?_, w.sub, fun a h => ⟨(w.new a h).1, alv a (w.new a h).2⟩, w.muts, fun a h => alv a (w.alv a h), w.kp.trans k⟩
  · obtain ⟨ov, h1, h2⟩ := w.rep i s h
    refine ⟨ov, h1, h2.keep k fun a ho e => ?_⟩
    rw [e] at h1
    have oa : OwnA δ σ a := ⟨i, s, h, ho, h1⟩
    exact ⟨(w.ownAt oa).1, upd_ne fun z => no (z ▸ oa)⟩
  · rw [upd_ne fun z => by subst z; rw [h0] at h; cases h]
    exact w.fr a u h g
def GW (g : TG) (vs : List Nat) : Prop := ∀ v σ H (Q Q' : L2.St → Hp → Prop), g v σ H Q → (∀ σ2 H2, L2.wipe σ2 vs = L2.wipe σ vs → Q σ2 H2 → Q' σ2 H2) → g v σ H Q'
theorem wipe_set {i : Nat} {ov : Option V} : ∀ {vs : List Nat}, i ∈ vs → L2.wipe (σ.set i ov) vs = L2.wipe σ vs
  | [], h => by cases h
  | v :: vs, h => by
    show (L2.wipe (σ.set i ov) vs).set v none = (L2.wipe σ vs).set v none
    by_cases hm : i ∈ vs
    · rw [wipe_set hm]
    · have e : i = v := (List.mem_cons.mp h).elim id fun z => absurd z hm
      subst e
      have : ∀ (us : List Nat), i ∉ us → L2.wipe (σ.set i ov) us = (L2.wipe σ us).set i ov := by
        intro us
        induction us with
        | nil => intro _; rfl
        | cons x us ih =>
          intro h
          have h1 : x ≠ i := fun e => h (by rw [e]; exact List.mem_cons_self)
          show (L2.wipe (σ.set i ov) us).set x none = ((L2.wipe σ us).set x none).set i ov
          rw [ih fun z => h (List.mem_cons_of_mem _ z), List.set_comm _ _ h1]
      rw [this vs hm, List.set_set]
theorem gw_name {i : Nat} {vs : List Nat} (h : i ∈ vs) : GW (gName i) vs := fun v σ H Q Q' q f => f _ _ (wipe_set h) q
def GWs (g : TGs) (vs : List Nat) : Prop := ∀ us σ H (Q Q' : L2.St → Hp → Prop), g us σ H Q → (∀ σ2 H2, L2.wipe σ2 vs = L2.wipe σ vs → Q σ2 H2 → Q' σ2 H2) → g us σ H Q'
theorem gws_nil {vs : List Nat} : GWs gNil vs := fun us σ H Q Q' ⟨e, q⟩ f => ⟨e, f _ _ rfl q⟩
theorem gws_name {i : Nat} {vs : List Nat} {gs : TGs} (h : i ∈ vs) (h2 : GWs gs vs) : GWs (gCons (gName i) gs) vs := fun us σ H Q Q' ⟨v, r, e, q⟩ f =>
  ⟨v, r, e, h2 r (σ.set i (some v)) H Q Q' q fun σ2 H2 hw => f σ2 H2 (by rw [hw, wipe_set h])⟩
theorem gw_tup {n : Nat} {gs : TGs} {vs : List Nat} (h : GWs gs vs) : GW (gTup K n gs) vs := fun v σ H Q Q' ⟨a, xs, e, h1, h2, q⟩ f => ⟨a, xs, e, h1, h2, h xs σ H Q Q' q f⟩
def yesT : MT := fun δ => some (true, δ)
theorem t_yes : EvT K tYes yesT := fun F R H δ σ b δ' w hf Q q => by cases hf; exact q R H w Ext.refl
def lcL (g : MG) (t : MT) (e : MD) (vs : List Nat) : List D → List D → Env → Option (List D × Env)
  | [], acc, δ => some (acc, δ)
  | d :: r, acc, δ => (g d δ).bind fun δ2 => (t δ2).bind fun p => if p.1 = true then (e p.2).bind fun q => if acc.length < sizeLine then lcL g t e vs r (acc ++ [q.1]) (wipeE q.2 vs) else none
    else lcL g t e vs r acc (wipeE p.2 vs)
def lcE (fi : MI) (g : MG) (t : MT) (e : MD) (vs : List Nat) : ME := fun δ => (fi δ).bind fun p => if noOwn p.2 vs = true then (lcL g t e vs p.1 [] (wipeE p.2 vs)).bind fun q => some (.fre (.lst q.1), restE p.2 q.2 vs) else none
theorem ev_lc {wi : TI} {fi : MI} {g : TG} {fg : MG} {tt : TT} {ft : MT} {te : TE} {fe : MD} {vs : List Nat} (hi : EvI K wi fi) (hg : EvG K g fg) (gw : GW g vs) (ht : EvT K tt ft) (he : EvD K te fe) : Ev K (tLc wi g tt te vs) (lcE fi fg ft fe vs) :=
  fun F R H δ σ o δ' w hf Q q => by
  obtain ⟨⟨ds, δ1⟩, e1, hf⟩ := Option.bind_eq_some_iff.mp hf
  split at hf
  case isFalse => cases hf
  rename_i no
  obtain ⟨⟨accF, δF⟩, e2, hf⟩ := Option.bind_eq_some_iff.mp hf
  cases hf
  refine hi F R H δ σ ds δ1 w e1 _ fun J R1 H1 w1 x1 hJ => ?_
  intro D hD
  have nS : ¬ OwnA δ1 σ D := w1.ownNe hD
  have gD : Grow H1 (upd H1 D (.lst [])) := Grow.new hD
  refine ⟨fun i m H => m = ds.length - i ∧ ∃ R δ acc us, i ≤ ds.length ∧ Wd K F R H δ (L2.wipe σ vs) ∧ ExtS (OwnA δ1 σ) (OwnA δ (L2.wipe σ vs)) R1 H1 R H ∧ ¬ R D ∧ H D = some (.lst us) ∧ RepVs K R H acc us ∧ lcL fg ft fe vs (ds.drop i) acc δ = some (accF, δF), ⟨ds.length, by simp, R1, wipeE δ1 vs, [], [], Nat.zero_le _, (w1.alloc hD).wipe vs, ?_, fun z => (w1.new D z).2 hD, upd_same, rfl, by simpa using e2⟩, ?_⟩
  · exact ⟨fun _ h => h, fun _ h => .inl h, fun a o h _ => gD a o h, fun a h => wipe_own vs h, (gD.ext (S := fun _ => False) (R := R1)).alv⟩
  rintro i m H2 ⟨rfl, R2, δ2, acc, us, hi2, w2, x2, nR, hDu, ra, hl⟩
  have kp := x2.keep w1
  have it := hJ R2 H2 kp F δ2 _ w2 i
  have nO : ¬ OwnA δ2 (L2.wipe σ vs) D := fun z => nS (x2.own D z)
  by_cases hlt : i < ds.length
  · have hd : ds[i]? = some ds[i] := by simp [hlt]
    rw [List.drop_eq_getElem_cons hlt] at hl
    obtain ⟨δ3, e3, hl⟩ := Option.bind_eq_some_iff.mp hl
    obtain ⟨⟨b, δ4⟩, e4, hl⟩ := Option.bind_eq_some_iff.mp hl
    obtain ⟨go, yl⟩ := it.1 _ hd
    refine .inr ⟨go, fun H => ∃ R δ acc us, i + 1 ≤ ds.length ∧ Wd K F R H δ (L2.wipe σ vs) ∧ ExtS (OwnA δ1 σ) (OwnA δ (L2.wipe σ vs)) R1 H1 R H ∧ ¬ R D ∧ H D = some (.lst us) ∧ RepVs K R H acc us ∧ lcL fg ft fe vs (ds.drop (i + 1)) acc δ = some (accF, δF), fun H' h => ⟨_, by omega, rfl, h⟩, fun x H3 y => ?_⟩
    obtain ⟨w3, g3, r3⟩ := yl x H3 y
    refine gw x _ H3 _ _ (hg F R2 H3 δ2 _ _ x δ3 w3 r3 e3 (fun σ4 H4 => Wd K F R2 H4 δ3 σ4 ∧ Grow H3 H4 ∧ ∀ a, OwnA δ3 σ4 a → OwnA δ2 (L2.wipe σ vs) a) fun σ4 H4 w4 g4 o4 => ⟨w4, g4, o4⟩) ?_
    rintro σ4 H4 hw ⟨w4, g4, o4⟩
    rw [wipe_idem vs vs fun _ h => h] at hw
    refine ⟨hw, ?_⟩
    refine ht F R2 H4 δ3 σ4 b δ4 w4 e4 _ fun R5 H5 w5 x5 => ?_
    have x25 : ExtS (OwnA δ1 σ) (OwnA δ4 σ4) R1 H1 R5 H5 := by
      have a1 : ExtS (OwnA δ2 (L2.wipe σ vs)) (OwnA δ3 σ4) R2 H2 R2 H4 := ⟨fun _ h => h, fun _ h => .inl h, fun a o h _ => g4 a o (g3 a o h), o4, ((g3.trans g4).ext (S := fun _ => False) (R := R2)).alv⟩
      exact (x2.trans a1).trans x5
    have nO3 : ¬ OwnA δ3 σ4 D := fun z => nO (o4 D z)
    have hD4 : H4 D = some (.lst us) := g4 D _ (g3 D _ hDu)
    have hD5 : H5 D = some (.lst us) := x5.frame D _ hD4 nO3
    have nR5 : ¬ R5 D := fun z => by
      rcases x5.fresh D z with z | z | z
      · exact nR z
      · rw [hD4] at z; cases z
      · exact nO3 z
    have ra5 : RepVs K R5 H5 acc us := ra.keep (((g3.trans g4).keep).trans (x5.keep w4))
    cases b with
    | true =>
      simp only [if_true] at hl ⊢
      obtain ⟨⟨d6, δ6⟩, e6, hl⟩ := Option.bind_eq_some_iff.mp hl
      split at hl
      case isFalse => cases hl
      rename_i hz
      refine he F R5 H5 δ4 σ4 d6 δ6 w5 e6 _ fun y R6 H6 w6 x6 r6 => ?_
      have nO5 : ¬ OwnA δ4 σ4 D := fun z => nO3 (x5.own D z)
      have hD6 : H6 D = some (.lst us) := x6.frame D _ hD5 nO5
      have nR6 : ¬ R6 D := fun z => by
        rcases x6.fresh D z with z | z | z
        · exact nR5 z
        · rw [hD5] at z; cases z
        · exact nO5 z
      have nO6 : ¬ OwnA δ6 σ4 D := fun z => nO5 (x6.own D z)
      have tD : ∃ u, H6 D = some u ∧ (∀ xs, u ≠ .tup xs) ∧ ∀ ob v, u ≠ .frz ob v := ⟨_, hD6, (fun _ q => by cases q), fun _ _ q => by cases q⟩
      have ra6 : RepVs K R6 H6 (acc ++ [d6]) (us ++ [y]) := (ra5.keep (x6.keep w5)).append (RepVs.one r6)
      refine ⟨us, hD6, by rw [← ra.length]; exact hz, R6, wipeE δ6 vs, acc ++ [d6], us ++ [y], hlt, ?_, ?_, nR6, upd_same, ra6.keep (keep_upd nR6 tD), hl⟩
      · have := (w6.touch (o := .lst (us ++ [y])) nR6 nO6 (w1.H0none hD) tD).wipe vs
        rw [hw] at this; exact this
      · have x16 := x25.trans x6
        refine ⟨x16.sub, x16.fresh, fun a o h n => ?_, fun a h => x16.own a ?_, fun a h => ?_⟩
        · rw [upd_ne fun z => by subst z; rw [hD] at h; cases h]
          exact x16.frame a o h n
        · rw [← hw] at h
          exact wipe_own vs h
        · by_cases e : a = D
          · rw [e, upd_same]; exact fun q => by cases q
          · rw [upd_ne e]; exact x16.alv a h
    | false =>
      simp only [Bool.false_eq_true, if_false] at hl ⊢
      refine ⟨R5, wipeE δ4 vs, acc, us, hlt, ?_, ?_, nR5, hD5, ra5, hl⟩
      · have := w5.wipe vs
        rw [hw] at this; exact this
      · refine ⟨x25.sub, x25.fresh, x25.frame, fun a h => x25.own a ?_, x25.alv⟩
        rw [← hw] at h
        exact wipe_own vs h
  · rw [List.drop_eq_nil_of_le (by omega)] at hl
    cases hl
    obtain ⟨w3, o3⟩ := Wd.rest w1 w2 kp no
    have x3 : Ext δ1 (restE δ1 δF vs) σ R1 H1 R2 H2 := ⟨x2.sub, x2.fresh, x2.frame, fun a h => x2.own a (o3 a h), x2.alv⟩
    exact .inl ⟨it.2 (by omega), q _ R2 H2 w3 (x1.trans x3) ⟨D, rfl, nR, fun z => nO (o3 D z), w1.H0none hD, us, hDu, ra⟩ fun b e => by cases e; exact x1.back hD⟩
end
end DV

/-! DV9: operators, tests, displays, subscripts, slices on data. -/
namespace DV
open PySem PySem.Spec PyProof.Rows L2
section
variable {K : PySem.W.Frag} {F : Fx} {R R1 R' : Reg} {H H1 H' : Hp} {δ δ1 δ' : Env} {σ σ' : L2.St} {X : Cx}

/-! ### ints -/
theorem ok_I {C : Int → Int → Prop} {g : Int → Int → V} {gD : D → D → Option O} (h : ∀ d1 d2 o, gD d1 d2 = some o → ∃ i j d, d1 = .int i ∧ d2 = .int j ∧ C i j ∧ o = .dat d ∧ ∀ R H, RepV K R H d (g i j)) : OpOk K (rI C g) gD :=
  fun F R H δ σ d1 d2 v1 v2 res w r1 r2 hg Q q => by
  obtain ⟨i, j, d, rfl, rfl, hc, rfl, rv⟩ := h d1 d2 res hg
  exact ⟨i, j, r1.int, r2.int, hc, q _ R H w Ext.refl (rv R H) trivial⟩
theorem ok_I0 {g : Int → Int → V} {gD : D → D → Option O} (h : ∀ d1 d2 o, gD d1 d2 = some o → ∃ i j d, d1 = .int i ∧ d2 = .int j ∧ o = .dat d ∧ ∀ R H, RepV K R H d (g i j)) : OpOk K (rI0 g) gD :=
  fun F R H δ σ d1 d2 v1 v2 res w r1 r2 hg Q q => by
  obtain ⟨i, j, d, rfl, rfl, rfl, rv⟩ := h d1 d2 res hg
  exact ⟨i, j, r1.int, r2.int, q _ R H w Ext.refl (rv R H) trivial⟩
def intG (C : Int → Int → Bool) (g : Int → Int → D) : D → D → Option O
  | .int i, .int j => if C i j = true then some (.dat (g i j)) else none
  | _, _ => none
theorem intG_inv {C : Int → Int → Bool} {g : Int → Int → D} {d1 d2 : D} {o : O} (h : intG C g d1 d2 = some o) : ∃ i j, d1 = .int i ∧ d2 = .int j ∧ C i j = true ∧ o = .dat (g i j) := by
  unfold intG at h
  split at h
  · split at h
    · rename_i i j hc; cases h; exact ⟨i, j, rfl, rfl, hc, rfl⟩
    · cases h
  · cases h
abbrev subG := intG (fun _ _ => true) fun i j => .int (i - j)
theorem k_sub : OpOk K (rI0 fun i j => .int (i - j)) subG := ok_I0 fun d1 d2 o h => let ⟨i, j, e1, e2, _, e3⟩ := intG_inv h; ⟨i, j, _, e1, e2, e3, fun _ _ => rfl⟩
abbrev ltG := intG (fun _ _ => true) fun i j => .bl (decide (i < j))
theorem k_lt : OpOk K (rI0 fun i j => .bl (decide (i < j))) ltG := ok_I0 fun d1 d2 o h => let ⟨i, j, e1, e2, _, e3⟩ := intG_inv h; ⟨i, j, _, e1, e2, e3, fun _ _ => rfl⟩
abbrev leG := intG (fun _ _ => true) fun i j => .bl (decide (i ≤ j))
theorem k_le : OpOk K (rI0 fun i j => .bl (decide (i ≤ j))) leG := ok_I0 fun d1 d2 o h => let ⟨i, j, e1, e2, _, e3⟩ := intG_inv h; ⟨i, j, _, e1, e2, e3, fun _ _ => rfl⟩
abbrev gtG := intG (fun _ _ => true) fun i j => .bl (decide (j < i))
theorem k_gt : OpOk K (rI0 fun i j => .bl (decide (j < i))) gtG := ok_I0 fun d1 d2 o h => let ⟨i, j, e1, e2, _, e3⟩ := intG_inv h; ⟨i, j, _, e1, e2, e3, fun _ _ => rfl⟩
abbrev geG := intG (fun _ _ => true) fun i j => .bl (decide (j ≤ i))
theorem k_ge : OpOk K (rI0 fun i j => .bl (decide (j ≤ i))) geG := ok_I0 fun d1 d2 o h => let ⟨i, j, e1, e2, _, e3⟩ := intG_inv h; ⟨i, j, _, e1, e2, e3, fun _ _ => rfl⟩
abbrev modG := intG (fun _ j => decide (0 < j)) fun i j => .int (i % j)
theorem k_mod : OpOk K (rI (fun _ j => 0 < j) fun i j => .int (i % j)) modG := ok_I fun d1 d2 o h => let ⟨i, j, e1, e2, c, e3⟩ := intG_inv h; ⟨i, j, _, e1, e2, of_decide_eq_true c, e3, fun _ _ => rfl⟩
/-- // by a positive divisor of at most 2^100 -/
abbrev divG := intG (fun _ j => decide (0 < j) && decide (j.natAbs < 2 ^ 100)) fun i j => .int (i / j)
theorem k_div : OpOk K (rI CDivW fun i j => .int (i / j)) divG := ok_I fun d1 d2 o h => by
  obtain ⟨i, j, e1, e2, c, e3⟩ := intG_inv h
  rw [Bool.and_eq_true, decide_eq_true_eq, decide_eq_true_eq] at c
  exact ⟨i, j, _, e1, e2, wide_div c.1 c.2 (by decide) (by decide), e3, fun _ _ => rfl⟩
def CPowB (i j : Int) : Prop := 0 ≤ j ∧ (Builtin.Int.intBits i : Int) * j ≤ 2 ^ 27
theorem op_powB : OpR X (binaryOp .Pow) (rI CPowB fun i j => .int (i ^ j.toNat)) := opI fun _ _ _ _ _ _ _ hc q => PyProof.Rows.pow_int hc.1 hc.2 q
abbrev powG := intG (fun i j => decide (0 ≤ j) && decide ((Builtin.Int.intBits i : Int) * j ≤ 2 ^ 27)) fun i j => .int (i ^ j.toNat)
theorem k_pow : OpOk K (rI CPowB fun i j => .int (i ^ j.toNat)) powG := ok_I fun d1 d2 o h => by
  obtain ⟨i, j, e1, e2, c, e3⟩ := intG_inv h
  rw [Bool.and_eq_true, decide_eq_true_eq, decide_eq_true_eq] at c
  exact ⟨i, j, _, e1, e2, c, e3, fun _ _ => rfl⟩
theorem OpOk.or {r r' : R2} {g g' : D → D → Option O} (h : OpOk K r g) (h' : OpOk K r' g') : OpOk K (fun x y H Q => r x y H Q ∨ r' x y H Q) (fun a b => match g a b with | some o => some o | none => g' a b) :=
  fun F R H δ σ d1 d2 v1 v2 res w r1 r2 hg Q q => by
  dsimp only at hg
  cases e : g d1 d2 with
  | some o => rw [e] at hg; cases hg; exact .inl (h F R H δ σ d1 d2 v1 v2 _ w r1 r2 e Q q)
  | none => rw [e] at hg; exact .inr (h' F R H δ σ d1 d2 v1 v2 res w r1 r2 hg Q q)

/-! ### + of ints, texts, lists, tuples -/
def rAddU (K : PySem.W.Frag) : R2 := fun x y H Q => (rI0 (fun i j => .int (i + j)) x y H Q ∨ rCat x y H Q) ∨ rCatA K x y H Q ∨ ∃ i j, x = .str i ∧ y = .str j ∧ i.length + j.length ≤ sizeLine ∧ Q (.str (i ++ j)) H
theorem op_addU : OpR X (binaryOp .Add) (rAddU X.K) := (op_add.or op_cat).or (op_catA.or op_add_str)
def addG : D → D → Option O
  | .int i, .int j => some (.dat (.int (i + j)))
  | .lst xs, .lst ys => if xs.length + ys.length ≤ sizeLine then some (.fre (.lst (xs ++ ys))) else none
  | .tup xs, .tup ys => if xs.length + ys.length ≤ sizeLine then some (.dat (.tup (xs ++ ys))) else none
  | .str i, .str j => if i.length + j.length ≤ sizeLine then some (.dat (.str (i ++ j))) else none
  | _, _ => none
theorem k_add : OpOk K (rAddU K) addG := fun F R H δ σ d1 d2 v1 v2 res w r1 r2 hg Q q => by
  unfold addG at hg
  split at hg
  · cases hg
    exact .inl (.inl ⟨_, _, r1.int, r2.int, q _ R H w Ext.refl rfl trivial⟩)
  · split at hg
    case isFalse => cases hg
    rename_i hl
    cases hg
    obtain ⟨a, vs, e1, h1, h2⟩ := r1.lst
    obtain ⟨b, us, e2, h3, h4⟩ := r2.lst
    refine .inl (.inr ⟨a, b, vs, us, e1, e2, h1, h3, by rw [← h2.length, ← h4.length]; exact hl, fun p hp => ?_⟩)
    exact q _ R _ (w.alloc hp) (Ext.alloc hp) (fre_lst w hp (h2.append h4)) fun c e => by cases e; exact hp
  · split at hg
    case isFalse => cases hg
    rename_i xs ys hl
    cases hg
    obtain ⟨a, vs, e1, h1, h2⟩ := r1.tup
    obtain ⟨b, us, e2, h3, h4⟩ := r2.tup
    refine .inr (.inl ⟨a, b, vs, us, e1, e2, h1, h3, by rw [← h2.length, ← h4.length]; exact hl, fun z => ?_, fun _ z => ?_, fun _ _ p hp => ?_⟩)
    · subst z
      have : xs = [] := List.length_eq_zero_iff.mp h2.length
      subst this
      exact q _ R H w Ext.refl ⟨b, us, rfl, h3, h4⟩ trivial
    · subst z
      have : ys = [] := List.length_eq_zero_iff.mp h4.length
      subst this
      rw [List.append_nil] at q
      exact q _ R H w Ext.refl ⟨a, vs, rfl, h1, h2⟩ trivial
    · exact q _ R _ (w.alloc hp) (Ext.alloc hp) (dat_tup w hp (h2.append h4)) trivial
  · split at hg
    case isFalse => cases hg
    rename_i hl
    cases hg
    exact .inr (.inr ⟨_, _, r1.str, r2.str, hl, q _ R H w Ext.refl rfl trivial⟩)
  · cases hg
/-! ### * of ints, of a list and an int -/
def rMulU (K : PySem.W.Frag) : R2 := fun x y H Q => (rI CMul (fun i j => .int (i * j)) x y H Q ∨ rRep x y H Q) ∨ rRepT K x y H Q
theorem op_mulU : OpR X (binaryOp .Mult) (rMulU X.K) := (op_mul.or op_rep).or op_repT
def smallI (i : Int) : Bool := decide (-(2 ^ 64) < i) && decide (i < 2 ^ 64)
def mulG : D → D → Option O
  | .int i, .int j => if (smallI i || smallI j) = true then some (.dat (.int (i * j))) else none
  | .lst xs, .int k => if (decide (-(2 ^ 63) ≤ k) && decide (k < 2 ^ 63) && decide (xs.length * k.toNat ≤ sizeLine)) = true then some (.fre (.lst (List.replicate k.toNat xs).flatten)) else none
  | .tup xs, .int k => if (decide (2 ≤ k) && decide (k ≤ 1000) && decide (0 < xs.length) && decide (xs.length ≤ 1000)) = true then some (.dat (.tup (List.replicate k.toNat xs).flatten)) else none
  | _, _ => none
theorem RepVs.flat {ds : List D} {vs : List V} (h : RepVs K R H ds vs) : ∀ n, RepVs K R H (List.replicate n ds).flatten (List.replicate n vs).flatten
  | 0 => rfl
  | n + 1 => by rw [List.replicate_succ, List.replicate_succ, List.flatten_cons, List.flatten_cons]; exact h.append (RepVs.flat h n)
theorem k_mul : OpOk K (rMulU K) mulG := fun F R H δ σ d1 d2 v1 v2 res w r1 r2 hg Q q => by
  unfold mulG at hg
  split at hg
  · split at hg
    case isFalse => cases hg
    rename_i i j hl
    cases hg
    rw [Bool.or_eq_true] at hl
    refine .inl (.inl ⟨i, j, r1.int, r2.int, ?_, q _ R H w Ext.refl rfl trivial⟩)
    rcases hl with z | z
    · unfold smallI at z; rw [Bool.and_eq_true, decide_eq_true_eq, decide_eq_true_eq] at z; exact .inl z
    · unfold smallI at z; rw [Bool.and_eq_true, decide_eq_true_eq, decide_eq_true_eq] at z; exact .inr z
  · split at hg
    case isFalse => cases hg
    rename_i xs k hl
    cases hg
    simp only [Bool.and_eq_true, decide_eq_true_eq] at hl
    obtain ⟨a, vs, e1, h1, h2⟩ := r1.lst
    refine .inl (.inr ⟨a, k, vs, e1, r2.int, h1, hl.1.1, hl.1.2, by rw [← h2.length]; exact hl.2, fun p hp => ?_⟩)
    exact q _ R _ (w.alloc hp) (Ext.alloc hp) (fre_lst w hp (h2.flat _)) fun c e => by cases e; exact hp
  · split at hg
    case isFalse => cases hg
    rename_i xs k hl
    cases hg
    simp only [Bool.and_eq_true, decide_eq_true_eq] at hl
    obtain ⟨a, vs, e1, h1, h2⟩ := r1.tup
    refine .inr ⟨a, k, vs, e1, r2.int, h1, fun z => ?_, hl.1.1.1, hl.1.1.2, by rw [← h2.length]; exact hl.2, fun p hp => ?_⟩
    · have := h2.length; rw [z, List.length_nil] at this; omega
    · exact q _ R _ (w.alloc hp) (Ext.alloc hp) ⟨p, _, rfl, .of upd_same, (h2.flat _).grow (Grow.new hp)⟩ trivial
  · cases hg
/-! ### == -/
def toV : D → Option V
  | .non => some .non
  | .bl b => some (.bl b)
  | .int i => some (.int i)
  | .str x => some (.str x)
  | _ => none
theorem toV_rep {d : D} {u v : V} (h : toV d = some u) (r : RepL K R H d v) : v = u := by
  cases d with
  | non => cases h; exact r.non
  | bl b => cases h; exact r.bl
  | int i => cases h; exact r.int
  | str x => cases h; exact r.str
  | _ => cases h
mutual
def toPd : D → Option PyData
  | .non => some .none
  | .bl b => some (.bool b)
  | .int i => some (.int i)
  | .str x => some (.str x)
  | .lst ds => (toPds ds).bind fun l => some (.list l)
  | .ro ds => (toPds ds).bind fun l => some (.list l)
  | .tup ds => (toPds ds).bind fun l => some (.tuple l)
  | _ => none
def toPds : List D → Option (List PyData)
  | [] => some []
  | d :: ds => (toPd d).bind fun a => (toPds ds).bind fun b => some (a :: b)
end
mutual
theorem dp_of : ∀ {d : D} {v : V} {p : PyData}, toPd d = some p → RepV K R H d v → Dp K H v p
  | .non, _, _, h, r => by simp only [toPd] at h; cases h; cases r; exact .non
  | .bl _, _, _, h, r => by simp only [toPd] at h; cases h; cases r; exact .bl _
  | .int _, _, _, h, r => by simp only [toPd] at h; cases h; cases r; exact .int _
  | .str _, _, _, h, r => by simp only [toPd] at h; cases h; cases r; exact .str _
  | .lst ds, _, _, h, ⟨a, vs, e, _, h1, h2⟩ => by
    simp only [toPd] at h
    obtain ⟨l, h3, h⟩ := Option.bind_eq_some_iff.mp h
    cases h; subst e
    exact .lst (.of h1) (dp_ofs h3 h2)
  | .ro ds, _, _, h, ⟨a, vs, e, h1, h2⟩ => by
    simp only [toPd] at h
    obtain ⟨l, h3, h⟩ := Option.bind_eq_some_iff.mp h
    cases h; subst e
    exact .lst h1.l (dp_ofs h3 h2)
  | .tup ds, _, _, h, ⟨a, vs, e, h1, h2⟩ => by
    simp only [toPd] at h
    obtain ⟨l, h3, h⟩ := Option.bind_eq_some_iff.mp h
    cases h; subst e
    exact .tup h1 (dp_ofs h3 h2)
  | .con _, _, _, h, _ => by simp [toPd] at h
  | .ins _ _ _, _, _, h, _ => by simp [toPd] at h
  | .dic _ _, _, _, h, _ => by simp [toPd] at h
  | .dit _ _, _, _, h, _ => by simp [toPd] at h
theorem dp_ofs : ∀ {ds : List D} {vs : List V} {ps : List PyData}, toPds ds = some ps → RepVs K R H ds vs → DpAll K H vs ps
  | [], _, _, h, r => by simp only [toPds] at h; cases h; cases (show _ = [] from r); exact .nil
  | d :: ds, _, _, h, ⟨v, r, e, h1, h2⟩ => by
    simp only [toPds] at h
    obtain ⟨a, h3, h⟩ := Option.bind_eq_some_iff.mp h
    obtain ⟨b, h4, h⟩ := Option.bind_eq_some_iff.mp h
    cases h; subst e
    exact .cons (dp_of h3 h1) (dp_ofs h4 h2)
end
theorem dp_L {d : D} {v : V} {p : PyData} (h : toPd d = some p) (r : RepL K R H d v) : Dp K H v p := by
  rcases r with r | ⟨a, e, r⟩
  · exact dp_of h r
  · subst e
    cases d with
    | lst ds =>
      simp only [toPd] at h
      obtain ⟨l, h3, h⟩ := Option.bind_eq_some_iff.mp h
      cases h
      obtain ⟨vs, h1, h2⟩ := r
      exact .lst (.of h1) (dp_ofs h3 h2)
    | ins _ _ _ => simp [toPd] at h
    | dic _ _ => simp [toPd] at h
    | dit _ _ => simp [toPd] at h
    | _ => exact r.elim
def rEqU (K : PySem.W.Frag) : R2 := fun x y H Q => rEq x y H Q ∨ rEqD K x y H Q
def rNeU (K : PySem.W.Frag) : R2 := fun x y H Q => rNe x y H Q ∨ rNeD K x y H Q
theorem op_eqU (hu : X.A.units + 64 < cLine) : OpR X (compareOp .Eq) (rEqU X.K) := op_eq.or (op_eqD hu)
theorem op_neU (hu : X.A.units + 64 < cLine) : OpR X (compareOp .NotEq) (rNeU X.K) := op_ne.or (op_neD hu)
/-- what == says of data -/
def eqB (d1 d2 : D) : Option Bool := match (toV d1).bind fun u => (toV d2).bind fun v => if scal u v = true then some (decide (u = v)) else none with
  | some b => some b
  | none => (toPd d1).bind fun a => (toPd d2).bind fun b => if (SeqAt.shaped a && SeqAt.shaped b) = true then some (PyData.eqv a b) else none
def eqG (d1 d2 : D) : Option O := (eqB d1 d2).bind fun b => some (.dat (.bl b))
def neG (d1 d2 : D) : Option O := (eqB d1 d2).bind fun b => some (.dat (.bl (!b)))
theorem eqB_ok {d1 d2 : D} {v1 v2 : V} {b : Bool} (r1 : RepL K R H d1 v1) (r2 : RepL K R H d2 v2) (h : eqB d1 d2 = some b) :
    (scal v1 v2 = true ∧ b = decide (v1 = v2)) ∨ ∃ x y, Dp K H v1 x ∧ Dp K H v2 y ∧ SeqAt.shaped x = true ∧ SeqAt.shaped y = true ∧ b = PyData.eqv x y := by
  unfold eqB at h
  split at h
  · rename_i b' e
    cases h
    obtain ⟨u, e1, e⟩ := Option.bind_eq_some_iff.mp e
    obtain ⟨v, e2, e⟩ := Option.bind_eq_some_iff.mp e
    split at e
    · rename_i hs
      cases e
      rw [toV_rep e1 r1, toV_rep e2 r2]
      exact .inl ⟨hs, rfl⟩
    · cases e
  · obtain ⟨x, e1, h⟩ := Option.bind_eq_some_iff.mp h
    obtain ⟨y, e2, h⟩ := Option.bind_eq_some_iff.mp h
    split at h
    · rename_i hs
      cases h
      rw [Bool.and_eq_true] at hs
      exact .inr ⟨x, y, dp_L e1 r1, dp_L e2 r2, hs.1, hs.2, rfl⟩
    · cases h
theorem k_eq : OpOk K (rEqU K) eqG := fun F R H δ σ d1 d2 v1 v2 res w r1 r2 hg Q q => by
  obtain ⟨b, e, hg⟩ := Option.bind_eq_some_iff.mp hg
  cases hg
  rcases eqB_ok r1 r2 e with ⟨h1, h2⟩ | ⟨x, y, h1, h2, h3, h4, h5⟩
  · exact .inl ⟨h1, q _ R H w Ext.refl (by rw [h2]; rfl) trivial⟩
  · exact .inr ⟨x, y, h1, h2, h3, h4, q _ R H w Ext.refl (by rw [h5]; rfl) trivial⟩
theorem k_ne : OpOk K (rNeU K) neG := fun F R H δ σ d1 d2 v1 v2 res w r1 r2 hg Q q => by
  obtain ⟨b, e, hg⟩ := Option.bind_eq_some_iff.mp hg
  cases hg
  rcases eqB_ok r1 r2 e with ⟨h1, h2⟩ | ⟨x, y, h1, h2, h3, h4, h5⟩
  · exact .inl ⟨h1, q _ R H w Ext.refl (by rw [h2]; rfl) trivial⟩
  · exact .inr ⟨x, y, h1, h2, h3, h4, q _ R H w Ext.refl (by rw [h5]; rfl) trivial⟩
/-! ### is None, in -/
def rIsN' : R2 := fun x y H Q => y = .non ∧ Q (.bl (decide (x = .non))) H
def rNotN' : R2 := fun x y H Q => y = .non ∧ Q (.bl (!decide (x = .non))) H
theorem op_isN' : OpR X (compareOp .Is) rIsN' := op_isN
theorem op_notN' : OpR X (compareOp .IsNot) rNotN' := op_notN
def isNonB : D → Option Bool
  | .non => some true
  | .con _ => none
  | _ => some false
theorem isNonB_ok {d : D} {v : V} {b : Bool} (r : RepL K R H d v) (h : isNonB d = some b) : b = decide (v = .non) := by
  cases d with
  | non => cases h; rw [r.non]; rfl
  | con _ => cases h
  | bl _ => cases h; rw [r.bl]; rfl
  | int _ => cases h; rw [r.int]; rfl
  | str _ => cases h; rw [r.str]; rfl
  | lst _ => cases h; obtain ⟨a, _, e, _⟩ := r.lst; rw [e]; rfl
  | ro _ => cases h; obtain ⟨a, _, e, _⟩ := r.ro; rw [e]; rfl
  | tup _ => cases h; obtain ⟨a, _, e, _⟩ := r.tup; rw [e]; rfl
  | ins _ _ _ => cases h; obtain ⟨a, _, _, e, _⟩ := r.ins; rw [e]; rfl
  | dic _ _ => cases h; rcases r with ⟨a, _, e, _⟩ | ⟨a, e, _⟩ <;> (rw [e]; rfl)
  | dit _ _ => cases h; rcases r with ⟨a, _, e, _⟩ | ⟨a, e, _⟩ <;> (rw [e]; rfl)
def isNG : D → D → Option O
  | d, .non => (isNonB d).bind fun b => some (.dat (.bl b))
  | _, _ => none
def notNG : D → D → Option O
  | d, .non => (isNonB d).bind fun b => some (.dat (.bl (!b)))
  | _, _ => none
theorem k_isN : OpOk K rIsN' isNG := fun F R H δ σ d1 d2 v1 v2 res w r1 r2 hg Q q => by
  cases d2 with
  | non =>
    obtain ⟨b, e, hg⟩ := Option.bind_eq_some_iff.mp hg
    cases hg
    exact ⟨r2.non, q _ R H w Ext.refl (by rw [isNonB_ok r1 e]; rfl) trivial⟩
  | _ => simp [isNG] at hg
theorem k_notN : OpOk K rNotN' notNG := fun F R H δ σ d1 d2 v1 v2 res w r1 r2 hg Q q => by
  cases d2 with
  | non =>
    obtain ⟨b, e, hg⟩ := Option.bind_eq_some_iff.mp hg
    cases hg
    exact ⟨r2.non, q _ R H w Ext.refl (by rw [isNonB_ok r1 e]; rfl) trivial⟩
  | _ => simp [notNG] at hg
def toVs : List D → Option (List V)
  | [] => some []
  | d :: ds => (toV d).bind fun v => (toVs ds).bind fun vs => some (v :: vs)
theorem toVs_rep : ∀ {ds : List D} {us vs : List V}, toVs ds = some us → RepVs K R H ds vs → vs = us ∧ us.all flatV = true
  | [], _, _, h, r => by cases h; exact ⟨r, rfl⟩
  | d :: ds, _, _, h, ⟨v, r, e, h1, h2⟩ => by
    obtain ⟨u, e1, h⟩ := Option.bind_eq_some_iff.mp h
    obtain ⟨us, e2, h⟩ := Option.bind_eq_some_iff.mp h
    cases h
    obtain ⟨q1, q2⟩ := toVs_rep e2 h2
    have q3 := toV_rep e1 (.inl h1)
    subst q1; subst q3
    refine ⟨e, ?_⟩
    rw [List.all_cons, q2, Bool.and_true]
    cases d <;> first | (cases e1; rfl) | cases e1
def inG (neg : Bool) (x y : D) : Option O := (toV x).bind fun u => (itemsOf y).bind fun ds => (toVs ds).bind fun us => some (.dat (.bl (if neg then !inV u us else inV u us)))
theorem k_in (neg : Bool) : OpOk K (rIn K neg) (inG neg) := fun F R H δ σ d1 d2 v1 v2 res w r1 r2 hg Q q => by
  obtain ⟨u, e1, hg⟩ := Option.bind_eq_some_iff.mp hg
  obtain ⟨ds, e2, hg⟩ := Option.bind_eq_some_iff.mp hg
  obtain ⟨us, e3, hg⟩ := Option.bind_eq_some_iff.mp hg
  cases hg
  have ev := toV_rep e1 r1
  subst ev
  have fl : flatV v1 = true := by cases d1 <;> first | (cases e1; rfl) | cases e1
  cases d2 with
  | lst xs =>
    cases e2
    obtain ⟨a, vs, e, h1, h2⟩ := r2.lst
    obtain ⟨q1, q2⟩ := toVs_rep e3 h2
    subst q1
    exact ⟨a, vs, e, .inl (.of h1), fl, q2, q _ R H w Ext.refl rfl trivial⟩
  | ro xs =>
    cases e2
    obtain ⟨a, vs, e, h1, h2⟩ := r2.ro
    obtain ⟨q1, q2⟩ := toVs_rep e3 h2
    subst q1
    exact ⟨a, vs, e, .inl h1, fl, q2, q _ R H w Ext.refl rfl trivial⟩
  | tup xs =>
    cases e2
    obtain ⟨a, vs, e, h1, h2⟩ := r2.tup
    obtain ⟨q1, q2⟩ := toVs_rep e3 h2
    subst q1
    exact ⟨a, vs, e, .inr h1, fl, q2, q _ R H w Ext.refl rfl trivial⟩
  | _ => cases e2
/-! ### items -/
theorem RepVs.atI {ds : List D} {vs : List V} {i : Int} {d : D} (r : RepVs K R H ds vs) (h : atI ds i = some d) : ∃ v, L2.atI vs i = some v ∧ RepV K R H d v := by
  obtain ⟨j, h1, h2⟩ := Option.bind_eq_some_iff.mp h
  obtain ⟨v, h3, h4⟩ := r.get h2
  refine ⟨v, ?_, h4⟩
  unfold L2.atI
  rw [← r.length, h1]; exact h3
def ixG : D → D → Option O
  | .lst xs, .int i => (atI xs i).bind fun d => some (.dat d)
  | .ro xs, .int i => (atI xs i).bind fun d => some (.dat d)
  | .tup xs, .int i => (atI xs i).bind fun d => some (.dat d)
  | .str z, .int i => if z.length ≤ sizeLine then (atI z.cps.toList i).bind fun c => some (.dat (.str ⟨#[c]⟩)) else none
  | _, _ => none
theorem k_ix : OpOk K (rIx K) ixG := fun F R H δ σ d1 d2 v1 v2 res w r1 r2 hg Q q => by
  unfold ixG at hg
  split at hg
  · obtain ⟨d, e, hg⟩ := Option.bind_eq_some_iff.mp hg
    cases hg
    obtain ⟨a, vs, e1, h1, h2⟩ := r1.lst
    obtain ⟨v, h3, h4⟩ := h2.atI e
    exact .inl ⟨a, vs, _, v, e1, r2.int, .of h1, h3, q _ R H w Ext.refl h4 trivial⟩
  · obtain ⟨d, e, hg⟩ := Option.bind_eq_some_iff.mp hg
    cases hg
    obtain ⟨a, vs, e1, h1, h2⟩ := r1.ro
    obtain ⟨v, h3, h4⟩ := h2.atI e
    exact .inl ⟨a, vs, _, v, e1, r2.int, h1, h3, q _ R H w Ext.refl h4 trivial⟩
  · obtain ⟨d, e, hg⟩ := Option.bind_eq_some_iff.mp hg
    cases hg
    obtain ⟨a, vs, e1, h1, h2⟩ := r1.tup
    obtain ⟨v, h3, h4⟩ := h2.atI e
    exact .inr (.inl ⟨a, vs, _, v, e1, r2.int, h1, h3, q _ R H w Ext.refl h4 trivial⟩)
  · split at hg
    case isFalse => cases hg
    rename_i hl
    obtain ⟨c, e, hg⟩ := Option.bind_eq_some_iff.mp hg
    cases hg
    exact .inr (.inr ⟨_, _, c, r1.str, r2.int, hl, e, q _ R H w Ext.refl rfl trivial⟩)
  · cases hg
/-! ### displays -/
def tupE (fa : MAD) : ME := fun δ => (fa δ).bind fun p => if p.1.length ≤ sizeLine then some (.dat (.tup p.1), p.2) else none
def lstE (fa : MAD) : ME := fun δ => (fa δ).bind fun p => if p.1.length ≤ sizeLine then some (.fre (.lst p.1), p.2) else none
theorem ev_tup {ta : TA} {fa : MAD} (h : EvAD K ta fa) : Ev K (tTup ta) (tupE fa) := fun F R H δ σ o δ' w hf Q q => by
  obtain ⟨⟨ds, δ1⟩, e1, hf⟩ := Option.bind_eq_some_iff.mp hf
  split at hf
  case isFalse => cases hf
  rename_i hl
  cases hf
  refine h F R H δ σ ds δ1 w e1 _ fun vs R1 H1 w1 x1 r1 => ⟨by rw [← r1.length]; exact hl, fun p hp => ?_⟩
  exact q _ R1 _ (w1.alloc hp) (x1.trans (Ext.alloc hp)) (dat_tup w1 hp r1) trivial
theorem ev_lst {ta : TA} {fa : MAD} (h : EvAD K ta fa) : Ev K (tLst ta) (lstE fa) := fun F R H δ σ o δ' w hf Q q => by
  obtain ⟨⟨ds, δ1⟩, e1, hf⟩ := Option.bind_eq_some_iff.mp hf
  split at hf
  case isFalse => cases hf
  rename_i hl
  cases hf
  refine h F R H δ σ ds δ1 w e1 _ fun vs R1 H1 w1 x1 r1 => ⟨by rw [← r1.length]; exact hl, fun p hp => ?_⟩
  exact q _ R1 _ (w1.alloc hp) (x1.trans (Ext.alloc hp)) (fre_lst w1 hp r1) fun c e => by cases e; exact x1.back hp
/-! ### slices -/
def nopP : MP := fun δ => some (none, δ)
def intP (f : ME) : MP := fun δ => (f δ).bind fun p => match p.1 with
  | .dat (.int i) => some (some i, p.2)
  | _ => none
theorem p_none : EvP K tNoPart nopP := fun F R H δ σ o δ' w hf Q q => by cases hf; exact q R H w Ext.refl
theorem p_some {te : TE} {f : ME} (h : Ev K te f) : EvP K (tPart te) (intP f) := fun F R H δ σ o δ' w hf Q q => by
  obtain ⟨⟨o1, δ1⟩, e1, hf⟩ := Option.bind_eq_some_iff.mp hf
  refine h F R H δ σ o1 δ1 w e1 _ fun v R1 H1 w1 x1 r1 _ => ?_
  dsimp only at hf
  split at hf
  · cases hf; exact ⟨_, r1, q R1 H1 w1 x1⟩
  · cases hf
def cutD (xs : List D) (lo hi : Option Int) : List D := (xs.drop (HT.sIx xs.length 0 lo)).take (HT.sIx xs.length xs.length hi - HT.sIx xs.length 0 lo)
theorem RepVs.cut {ds : List D} {vs : List V} (r : RepVs K R H ds vs) (lo hi : Option Int) : RepVs K R H (cutD ds lo hi) (cutV vs lo hi) := by
  unfold cutD cutV
  rw [r.length]
  exact (r.drop _).take _
def rSlU (K : PySem.W.Frag) : V → Option Int → Option Int → Hp → VK → Prop := fun x lo hi H Q => rSlL K x lo hi H Q ∨ rSlA K x lo hi H Q
theorem sl_U : SlR X (rSlU X.K) := sl_list.or sl_tupA
def slG (lo hi : Option Int) : D → Option O
  | .lst xs => some (.fre (.lst (cutD xs lo hi)))
  | .ro xs => some (.fre (.lst (cutD xs lo hi)))
  | .tup xs => some (.dat (.tup (cutD xs lo hi)))
  | _ => none
def slE (f : ME) (l h : MP) : ME := fun δ => (f δ).bind fun p => (l p.2).bind fun a => (h a.2).bind fun b => (deref b.2 p.1).bind fun d => (slG a.1 b.1 d).bind fun o => some (o, b.2)
theorem ev_sl {te : TE} {tl th : TO} {f : ME} {l h : MP} (he : Ev K te f) (hl : EvP K tl l) (hh : EvP K th h) : Ev K (tSl (rSlU K) te tl th) (slE f l h) := fun F R H δ σ o δ' w hf Q q => by
  obtain ⟨⟨o1, δ1⟩, e1, hf⟩ := Option.bind_eq_some_iff.mp hf
  obtain ⟨⟨lo, δ2⟩, e2, hf⟩ := Option.bind_eq_some_iff.mp hf
  obtain ⟨⟨hi, δ3⟩, e3, hf⟩ := Option.bind_eq_some_iff.mp hf
  obtain ⟨d, e4, hf⟩ := Option.bind_eq_some_iff.mp hf
  obtain ⟨res, e5, hf⟩ := Option.bind_eq_some_iff.mp hf
  cases hf
  refine he F R H δ σ o1 δ1 w e1 _ fun v R1 H1 w1 x1 r1 _ => ?_
  refine hl F R1 H1 δ1 σ lo δ2 w1 e2 _ fun R2 H2 w2 x2 => ?_
  refine hh F R2 H2 δ2 σ hi δ3 w2 e3 _ fun R3 H3 w3 x3 => ?_
  have rl := deref_ok w3 ((r1.ext w1 x2).ext w2 x3) e4
  have x13 := (x1.trans x2).trans x3
  cases d with
  | lst xs =>
    cases e5
    obtain ⟨a, vs, e, h1, h2⟩ := rl.lst
    exact .inl ⟨a, vs, e, .of h1, fun p hp => q _ R3 _ (w3.alloc hp) (x13.trans (Ext.alloc hp)) (fre_lst w3 hp (h2.cut lo hi)) fun c e => by cases e; exact x13.back hp⟩
  | ro xs =>
    cases e5
    obtain ⟨a, vs, e, h1, h2⟩ := rl.ro
    exact .inl ⟨a, vs, e, h1, fun p hp => q _ R3 _ (w3.alloc hp) (x13.trans (Ext.alloc hp)) (fre_lst w3 hp (h2.cut lo hi)) fun c e => by cases e; exact x13.back hp⟩
  | tup xs =>
    cases e5
    obtain ⟨a, vs, e, h1, h2⟩ := rl.tup
    refine .inr ⟨a, vs, e, h1, fun z => ?_, fun _ p hp => q _ R3 _ (w3.alloc hp) (x13.trans (Ext.alloc hp)) (dat_tup w3 hp (h2.cut lo hi)) trivial⟩
    refine q _ R3 H3 w3 x13 ⟨a, vs, rfl, h1, ?_⟩ trivial
    have c : cutV vs lo hi = vs := by unfold cutV; rw [z.1, z.2]; simp
    have := h2.cut lo hi
    rw [c] at this; exact this
  | _ => cases e5
def revE (f : ME) : ME := fun δ => (f δ).bind fun p => (deref p.2 p.1).bind fun d => match d with
  | .lst xs => some (.fre (.lst xs.reverse), p.2)
  | .ro xs => some (.fre (.lst xs.reverse), p.2)
  | _ => none
theorem RepVs.rev : ∀ {ds : List D} {vs : List V}, RepVs K R H ds vs → RepVs K R H ds.reverse vs.reverse
  | [], _, h => by rw [show _ = [] from h]; rfl
  | d :: ds, _, ⟨v, r, e, h1, h2⟩ => by subst e; rw [List.reverse_cons, List.reverse_cons]; exact h2.rev.append (RepVs.one h1)
theorem ev_rev {te : TE} {f : ME} (he : Ev K te f) : Ev K (tRevL K te) (revE f) := fun F R H δ σ o δ' w hf Q q => by
  obtain ⟨⟨o1, δ1⟩, e1, hf⟩ := Option.bind_eq_some_iff.mp hf
  obtain ⟨d, e4, hf⟩ := Option.bind_eq_some_iff.mp hf
  refine he F R H δ σ o1 δ1 w e1 _ fun v R1 H1 w1 x1 r1 _ => ?_
  have rl := deref_ok w1 r1 e4
  cases d with
  | lst xs =>
    cases hf
    obtain ⟨a, vs, e, h1, h2⟩ := rl.lst
    exact ⟨a, vs, e, .of h1, fun p hp => q _ R1 _ (w1.alloc hp) (x1.trans (Ext.alloc hp)) (fre_lst w1 hp h2.rev) fun c e => by cases e; exact x1.back hp⟩
  | ro xs =>
    cases hf
    obtain ⟨a, vs, e, h1, h2⟩ := rl.ro
    exact ⟨a, vs, e, h1, fun p hp => q _ R1 _ (w1.alloc hp) (x1.trans (Ext.alloc hp)) (fre_lst w1 hp h2.rev) fun c e => by cases e; exact x1.back hp⟩
  | _ => cases hf
/-! ### tests -/
def blOf : O → Option Bool
  | .dat (.bl b) => some b
  | _ => none
theorem blOf_ok {o : O} {v : V} {b : Bool} (h : blOf o = some b) (r : RepO K F R H δ σ o v) : v = .bl b := by
  unfold blOf at h
  split at h
  · cases h; exact r
  · cases h
def testE (f : ME) : MT := fun δ => (f δ).bind fun p => (blOf p.1).bind fun b => some (b, p.2)
theorem t_test {te : TE} {f : ME} (h : Ev K te f) : EvT K (tTest te) (testE f) := fun F R H δ σ b δ' w hf Q q => by
  obtain ⟨⟨o, δ1⟩, e1, hf⟩ := Option.bind_eq_some_iff.mp hf
  obtain ⟨b', e2, hf⟩ := Option.bind_eq_some_iff.mp hf
  cases hf
  exact h F R H δ σ o δ1 w e1 _ fun v R1 H1 w1 x1 r1 _ => ⟨b, blOf_ok e2 r1, q R1 H1 w1 x1⟩
theorem t_b {te : TE} {f : ME} (h : Ev K te f) : EvT K (tB te) (testE f) := fun F R H δ σ b δ' w hf Q q => by
  obtain ⟨⟨o, δ1⟩, e1, hf⟩ := Option.bind_eq_some_iff.mp hf
  obtain ⟨b', e2, hf⟩ := Option.bind_eq_some_iff.mp hf
  cases hf
  exact h F R H δ σ o δ1 w e1 _ fun v R1 H1 w1 x1 r1 _ => ⟨b, blOf_ok e2 r1, q R1 H1 w1 x1⟩
def andT (f g : MT) : MT := fun δ => (f δ).bind fun p => if p.1 = true then g p.2 else some (false, p.2)
def orT (f g : MT) : MT := fun δ => (f δ).bind fun p => if p.1 = true then some (true, p.2) else g p.2
def notT (f : MT) : MT := fun δ => (f δ).bind fun p => some (!p.1, p.2)
theorem t_and {t u : TT} {f g : MT} (h1 : EvT K t f) (h2 : EvT K u g) : EvT K (tAnd t u) (andT f g) := fun F R H δ σ b δ' w hf Q q => by
  obtain ⟨⟨b1, δ1⟩, e1, hf⟩ := Option.bind_eq_some_iff.mp hf
  refine h1 F R H δ σ b1 δ1 w e1 _ fun R1 H1 w1 x1 => ?_
  cases b1 with
  | true => exact h2 F R1 H1 δ1 σ b δ' w1 hf Q fun R2 H2 w2 x2 => q R2 H2 w2 (x1.trans x2)
  | false => cases hf; exact q R1 H1 w1 x1
theorem t_or {t u : TT} {f g : MT} (h1 : EvT K t f) (h2 : EvT K u g) : EvT K (tOr t u) (orT f g) := fun F R H δ σ b δ' w hf Q q => by
  obtain ⟨⟨b1, δ1⟩, e1, hf⟩ := Option.bind_eq_some_iff.mp hf
  refine h1 F R H δ σ b1 δ1 w e1 _ fun R1 H1 w1 x1 => ?_
  cases b1 with
  | true => cases hf; exact q R1 H1 w1 x1
  | false => exact h2 F R1 H1 δ1 σ b δ' w1 hf Q fun R2 H2 w2 x2 => q R2 H2 w2 (x1.trans x2)
theorem t_not {t : TT} {f : MT} (h1 : EvT K t f) : EvT K (tNot t) (notT f) := fun F R H δ σ b δ' w hf Q q => by
  obtain ⟨⟨b1, δ1⟩, e1, hf⟩ := Option.bind_eq_some_iff.mp hf
  cases hf
  exact h1 F R H δ σ b1 δ1 w e1 _ fun R1 H1 w1 x1 => q R1 H1 w1 x1
def andE (f g : ME) : ME := fun δ => (f δ).bind fun p => (blOf p.1).bind fun b => if b = true then g p.2 else some (.dat (.bl false), p.2)
def orE (f g : ME) : ME := fun δ => (f δ).bind fun p => (blOf p.1).bind fun b => if b = true then some (.dat (.bl true), p.2) else g p.2
def notE (f : ME) : ME := fun δ => (f δ).bind fun p => (blOf p.1).bind fun b => some (.dat (.bl (!b)), p.2)
theorem FreO.tr {o : O} {v : V} (x : Ext δ δ' σ R H R' H') (h : FreO H' o v) : FreO H o v := h.ext x
theorem ev_and {ta tb : TE} {f g : ME} (h1 : Ev K ta f) (h2 : Ev K tb g) : Ev K (tAndV ta tb) (andE f g) := fun F R H δ σ o δ' w hf Q q => by
  obtain ⟨⟨o1, δ1⟩, e1, hf⟩ := Option.bind_eq_some_iff.mp hf
  obtain ⟨b, e2, hf⟩ := Option.bind_eq_some_iff.mp hf
  refine h1 F R H δ σ o1 δ1 w e1 _ fun v R1 H1 w1 x1 r1 _ => ⟨b, blOf_ok e2 r1, ?_⟩
  cases b with
  | true => exact h2 F R1 H1 δ1 σ o δ' w1 hf Q fun v R2 H2 w2 x2 r2 f2 => q v R2 H2 w2 (x1.trans x2) r2 (f2.ext x1)
  | false => cases hf; exact q _ R1 H1 w1 x1 rfl trivial
theorem ev_or {ta tb : TE} {f g : ME} (h1 : Ev K ta f) (h2 : Ev K tb g) : Ev K (tOrV ta tb) (orE f g) := fun F R H δ σ o δ' w hf Q q => by
  obtain ⟨⟨o1, δ1⟩, e1, hf⟩ := Option.bind_eq_some_iff.mp hf
  obtain ⟨b, e2, hf⟩ := Option.bind_eq_some_iff.mp hf
  refine h1 F R H δ σ o1 δ1 w e1 _ fun v R1 H1 w1 x1 r1 _ => ⟨b, blOf_ok e2 r1, ?_⟩
  cases b with
  | true => cases hf; exact q _ R1 H1 w1 x1 rfl trivial
  | false => exact h2 F R1 H1 δ1 σ o δ' w1 hf Q fun v R2 H2 w2 x2 r2 f2 => q v R2 H2 w2 (x1.trans x2) r2 (f2.ext x1)
theorem ev_not {ta : TE} {f : ME} (h1 : Ev K ta f) : Ev K (tNotV ta) (notE f) := fun F R H δ σ o δ' w hf Q q => by
  obtain ⟨⟨o1, δ1⟩, e1, hf⟩ := Option.bind_eq_some_iff.mp hf
  obtain ⟨b, e2, hf⟩ := Option.bind_eq_some_iff.mp hf
  cases hf
  exact h1 F R H δ σ o1 δ1 w e1 _ fun v R1 H1 w1 x1 r1 _ => ⟨b, blOf_ok e2 r1, q _ R1 H1 w1 x1 rfl trivial⟩
def ifE (c : MT) (f g : ME) : ME := fun δ => (c δ).bind fun p => if p.1 = true then f p.2 else g p.2
theorem ev_if {c : TT} {ta tb : TE} {fc : MT} {f g : ME} (hc : EvT K c fc) (h1 : Ev K ta f) (h2 : Ev K tb g) : Ev K (tIf c ta tb) (ifE fc f g) := fun F R H δ σ o δ' w hf Q q => by
  obtain ⟨⟨b, δ1⟩, e1, hf⟩ := Option.bind_eq_some_iff.mp hf
  refine hc F R H δ σ b δ1 w e1 _ fun R1 H1 w1 x1 => ?_
  cases b with
  | true => exact h1 F R1 H1 δ1 σ o δ' w1 hf Q fun v R2 H2 w2 x2 r2 f2 => q v R2 H2 w2 (x1.trans x2) r2 (f2.ext x1)
  | false => exact h2 F R1 H1 δ1 σ o δ' w1 hf Q fun v R2 H2 w2 x2 r2 f2 => q v R2 H2 w2 (x1.trans x2) r2 (f2.ext x1)
/-- a < b < c -/
def chainE (g g' : D → D → Option O) (fa fb fc : ME) : ME := fun δ => (fa δ).bind fun p => (fb p.2).bind fun q => (deref q.2 p.1).bind fun d1 => (deref q.2 q.1).bind fun d2 => (g d1 d2).bind fun o => (blOf o).bind fun b => if b = true then
  (fc q.2).bind fun r => (deref r.2 q.1).bind fun d2' => (deref r.2 r.1).bind fun d3 => (g' d2' d3).bind fun o' => some (o', r.2) else some (.dat (.bl false), q.2)
theorem ev_chain {r r' : R2} {ta tb tc : TE} {fa fb fc : ME} {g g' : D → D → Option O} (h : OpOk K r g) (h' : OpOk K r' g') (ha : Ev K ta fa) (hb : Ev K tb fb) (hc : Ev K tc fc) : Ev K (tChain r r' ta tb tc) (chainE g g' fa fb fc) := fun F R H δ σ o δ' w hf Q q => by
  obtain ⟨⟨o1, δ1⟩, h1, hf⟩ := Option.bind_eq_some_iff.mp hf
  obtain ⟨⟨o2, δ2⟩, h2, hf⟩ := Option.bind_eq_some_iff.mp hf
  obtain ⟨d1, h3, hf⟩ := Option.bind_eq_some_iff.mp hf
  obtain ⟨d2, h4, hf⟩ := Option.bind_eq_some_iff.mp hf
  obtain ⟨ob, h5, hf⟩ := Option.bind_eq_some_iff.mp hf
  obtain ⟨b, h6, hf⟩ := Option.bind_eq_some_iff.mp hf
  refine ha F R H δ σ o1 δ1 w h1 _ fun v1 R1 H1 w1 e1 r1 _ => ?_
  refine hb F R1 H1 δ1 σ o2 δ2 w1 h2 _ fun v2 R2 H2 w2 e2 r2 _ => ?_
  refine h F R2 H2 δ2 σ d1 d2 v1 v2 ob w2 (deref_ok w2 (r1.ext w1 e2) h3) (deref_ok w2 r2 h4) h5 _ fun v R3 H3 w3 e3 r3 f3 => ⟨b, blOf_ok h6 r3, ?_⟩
  cases b with
  | true =>
    simp only [if_true] at hf ⊢
    obtain ⟨⟨o3, δ3⟩, h7, hf⟩ := Option.bind_eq_some_iff.mp hf
    obtain ⟨d2', h8, hf⟩ := Option.bind_eq_some_iff.mp hf
    obtain ⟨d3, h9, hf⟩ := Option.bind_eq_some_iff.mp hf
    obtain ⟨o4, h10, hf⟩ := Option.bind_eq_some_iff.mp hf
    cases hf
    refine hc F R3 H3 δ2 σ o3 δ3 w3 h7 _ fun v3 R4 H4 w4 e4 r4 _ => ?_
    have e14 := ((e1.trans e2).trans e3).trans e4
    refine h' F R4 H4 δ3 σ d2' d3 v2 v3 _ w4 (deref_ok w4 ((r2.ext w2 e3).ext w3 e4) h8) (deref_ok w4 r4 h9) h10 Q fun v5 R5 H5 w5 e5 r5 f5 => q v5 R5 H5 w5 (e14.trans e5) r5 (f5.ext e14)
  | false =>
    simp only [Bool.false_eq_true, if_false] at hf ⊢
    cases hf
    exact q _ R3 H3 w3 ((e1.trans e2).trans e3) rfl trivial
end
end DV

/-! DV10: built-in functions on data. -/
namespace DV
open PySem PySem.Spec PyProof.Rows L2
section
variable {K : PySem.W.Frag} {F : Fx} {R R1 R' : Reg} {H H1 H' : Hp} {δ δ1 δ' : Env} {σ σ' : L2.St} {X : Cx}
def RepLs (K : PySem.W.Frag) (R : Reg) (H : Hp) : List D → List V → Prop
  | [], vs => vs = []
  | d :: ds, vs => ∃ v r, vs = v :: r ∧ RepL K R H d v ∧ RepLs K R H ds r
theorem derefs_ok (w : Wd K F R H δ σ) : ∀ {os : List O} {vs : List V} {ds : List D}, RepOs K F R H δ σ os vs → derefs δ os = some ds → RepLs K R H ds vs
  | [], _, _, r, h => by cases h; exact r
  | o :: os, _, _, ⟨v, r, e, h1, h2⟩, h => by
    obtain ⟨d, e1, h⟩ := Option.bind_eq_some_iff.mp h
    obtain ⟨ds, e2, h⟩ := Option.bind_eq_some_iff.mp h
    cases h
    exact ⟨v, r, e, deref_ok w h1 e1, derefs_ok w h2 e2⟩
def CbOk (K : PySem.W.Frag) (r : List V → Hp → VK → Prop) (g : List D → Option O) : Prop := ∀ F R H δ σ ds vs res, Wd K F R H δ σ → RepLs K R H ds vs → g ds = some res → ∀ Q : VK,
  (∀ v R' H', Wd K F R' H' δ σ → Ext δ δ σ R H R' H' → RepO K F R' H' δ σ res v → FreO H res v → Q v H') → r vs H Q
def cbE (g : List D → Option O) (fa : MA) : ME := fun δ => (fa δ).bind fun p => (derefs p.2 p.1).bind fun ds => (g ds).bind fun o => some (o, p.2)
theorem ev_cb {r : List V → Hp → VK → Prop} {g : List D → Option O} {ta : TA} {fa : MA} (h : CbOk K r g) (ha : EvA K ta fa) : Ev K (tCB r ta) (cbE g fa) := fun F R H δ σ o δ' w hf Q q => by
  obtain ⟨⟨os, δ1⟩, e1, hf⟩ := Option.bind_eq_some_iff.mp hf
  obtain ⟨ds, e2, hf⟩ := Option.bind_eq_some_iff.mp hf
  obtain ⟨res, e3, hf⟩ := Option.bind_eq_some_iff.mp hf
  cases hf
  refine ha F R H δ σ os δ1 w e1 _ fun vs R1 H1 w1 x1 r1 _ => ?_
  exact h F R1 H1 δ1 σ ds vs _ w1 (derefs_ok w1 r1 e2) e3 Q fun v R2 H2 w2 x2 r2 f2 => q v R2 H2 w2 (x1.trans x2) r2 (f2.ext x1)
theorem RepLs.one {d : D} {vs : List V} (h : RepLs K R H [d] vs) : ∃ v, vs = [v] ∧ RepL K R H d v := by
  obtain ⟨v, r, e, h1, h2⟩ := h
  have : r = [] := h2
  subst this
  exact ⟨v, e, h1⟩
theorem RepLs.two {d e : D} {vs : List V} (h : RepLs K R H [d, e] vs) : ∃ v u, vs = [v, u] ∧ RepL K R H d v ∧ RepL K R H e u := by
  obtain ⟨v, r, e, h1, u, r', e', h2, h3⟩ := h
  have : r' = [] := h3
  subst this; subst e'
  exact ⟨v, u, e, h1, h2⟩
/-- a list of ints -/
def intsOf : List D → Option (List Int)
  | [] => some []
  | .int i :: ds => (intsOf ds).bind fun l => some (i :: l)
  | _ => none
theorem intsOf_map : ∀ ns : List Int, intsOf (ns.map D.int) = some ns
  | [] => rfl
  | n :: r => by simp [intsOf, intsOf_map r]
theorem intsOf_inv : ∀ {ds : List D} {ns : List Int}, intsOf ds = some ns → ds = ns.map D.int
  | [], _, h => by cases h; rfl
  | .int i :: ds, _, h => by
    obtain ⟨l, e, h⟩ := Option.bind_eq_some_iff.mp h
    cases h
    rw [List.map_cons, intsOf_inv e]
  | .non :: _, _, h => by cases h
  | .bl _ :: _, _, h => by cases h
  | .str _ :: _, _, h => by cases h
  | .con _ :: _, _, h => by cases h
  | .lst _ :: _, _, h => by cases h
  | .ro _ :: _, _, h => by cases h
  | .tup _ :: _, _, h => by cases h
  | .ins _ _ _ :: _, _, h => by cases h
  | .dic _ _ :: _, _, h => by cases h
  | .dit _ _ :: _, _, h => by cases h
theorem ints_rep : ∀ {ns : List Int} {vs : List V}, RepVs K R H (ns.map D.int) vs → vs = ns.map V.int
  | [], _, h => h
  | n :: r, _, ⟨v, u, e, h1, h2⟩ => by subst e; rw [List.map_cons, ints_rep h2, show v = .int n from h1]
def lstOf : D → Option (List D)
  | .lst ds => some ds
  | .ro ds => some ds
  | _ => none
theorem lstOf_rep {d : D} {ds : List D} {v : V} (h : lstOf d = some ds) (r : RepL K R H d v) : ∃ a vs, v = .ref a ∧ SqL K H a vs ∧ RepVs K R H ds vs := by
  cases d with
  | lst xs => cases h; obtain ⟨a, vs, e, h1, h2⟩ := r.lst; exact ⟨a, vs, e, .of h1, h2⟩
  | ro xs => cases h; exact r.ro
  | _ => cases h
theorem intsL {d : D} {ns : List Int} {v : V} (h : (lstOf d).bind intsOf = some ns) (r : RepL K R H d v) : ∃ a, v = .ref a ∧ SqL K H a (ns.map V.int) := by
  obtain ⟨ds, e1, e2⟩ := Option.bind_eq_some_iff.mp h
  obtain ⟨a, vs, e, h1, h2⟩ := lstOf_rep e1 r
  have := intsOf_inv e2
  subst this
  rw [ints_rep h2] at h1
  exact ⟨a, e, h1⟩
/-! ### len -/
def rLen (K : PySem.W.Frag) : List V → Hp → VK → Prop := fun xs H Q => ∃ x n, xs = [x] ∧ LenV K x H n ∧ Q (.int n) H
theorem call_len' : CallR X (.builtin "len") (rLen X.K) := call_len
def lenG : List D → Option O
  | [.lst ds] => some (.dat (.int (ds.length : Nat)))
  | [.ro ds] => some (.dat (.int (ds.length : Nat)))
  | [.tup ds] => some (.dat (.int (ds.length : Nat)))
  | [.str x] => if x.length ≤ sizeLine then some (.dat (.int (x.length : Nat))) else none
  | _ => none
theorem c_len : CbOk K (rLen K) lenG := fun F R H δ σ ds vs res w r hg Q q => by
  unfold lenG at hg
  split at hg
  · cases hg
    obtain ⟨v, e, r1⟩ := r.one
    obtain ⟨a, us, e1, h1, h2⟩ := r1.lst
    exact ⟨v, _, e, by rw [e1]; exact .inl ⟨us, .of h1, rfl⟩, q _ R H w Ext.refl (by rw [h2.length]; rfl) trivial⟩
  · cases hg
    obtain ⟨v, e, r1⟩ := r.one
    obtain ⟨a, us, e1, h1, h2⟩ := r1.ro
    exact ⟨v, _, e, by rw [e1]; exact .inl ⟨us, h1, rfl⟩, q _ R H w Ext.refl (by rw [h2.length]; rfl) trivial⟩
  · cases hg
    obtain ⟨v, e, r1⟩ := r.one
    obtain ⟨a, us, e1, h1, h2⟩ := r1.tup
    exact ⟨v, _, e, by rw [e1]; exact .inr ⟨us, h1, rfl⟩, q _ R H w Ext.refl (by rw [h2.length]; rfl) trivial⟩
  · split at hg
    case isFalse => cases hg
    rename_i hl
    cases hg
    obtain ⟨v, e, r1⟩ := r.one
    exact ⟨v, _, e, by rw [r1.str]; exact ⟨hl, rfl⟩, q _ R H w Ext.refl rfl trivial⟩
  · cases hg
/-! ### int -/
def rInt : List V → Hp → VK → Prop := fun xs H Q => (∃ i, xs = [.int i] ∧ Q (.int i) H) ∨ ∃ k, xs = [.bl k] ∧ Q (.int (if k then 1 else 0)) H
theorem call_int' : CallR X (.type "int") rInt := call_int1
def intOfG : List D → Option O
  | [.int i] => some (.dat (.int i))
  | [.bl b] => some (.dat (.int (if b then 1 else 0)))
  | _ => none
theorem c_int : CbOk K rInt intOfG := fun F R H δ σ ds vs res w r hg Q q => by
  unfold intOfG at hg
  split at hg
  · cases hg
    obtain ⟨v, e, r1⟩ := r.one
    exact .inl ⟨_, by rw [e, r1.int], q _ R H w Ext.refl rfl trivial⟩
  · cases hg
    obtain ⟨v, e, r1⟩ := r.one
    exact .inr ⟨_, by rw [e, r1.bl], q _ R H w Ext.refl rfl trivial⟩
  · cases hg
/-! ### sum, all, any, min, max -/
def blsOf : List D → Option (List Bool)
  | [] => some []
  | .bl b :: ds => (blsOf ds).bind fun l => some (b :: l)
  | _ => none
theorem blsOf_rep : ∀ {ds : List D} {bs : List Bool} {vs : List V}, blsOf ds = some bs → RepVs K R H ds vs → vs = bs.map V.bl
  | [], _, _, h, r => by cases h; exact r
  | d :: ds, _, _, h, ⟨v, u, e, h1, h2⟩ => by
    cases d with
    | bl b =>
      obtain ⟨l, e1, h⟩ := Option.bind_eq_some_iff.mp h
      cases h; subst e
      rw [List.map_cons, blsOf_rep e1 h2, show v = .bl b from h1]
    | _ => cases h
def sumG : List D → Option O
  | [d] => ((lstOf d).bind intsOf).bind fun ns => some (.dat (.int ns.sum))
  | _ => none
theorem c_sum : CbOk K (rSum K) sumG := fun F R H δ σ ds vs res w r hg Q q => by
  unfold sumG at hg
  split at hg
  · obtain ⟨ns, e1, hg⟩ := Option.bind_eq_some_iff.mp hg
    cases hg
    obtain ⟨v, e, r1⟩ := r.one
    obtain ⟨a, e2, h1⟩ := intsL e1 r1
    exact ⟨a, ns, by rw [e, e2], h1, q _ R H w Ext.refl rfl trivial⟩
  · cases hg
def allG : List D → Option O
  | [d] => ((lstOf d).bind blsOf).bind fun bs => some (.dat (.bl (bs.all id)))
  | _ => none
def anyG : List D → Option O
  | [d] => ((lstOf d).bind blsOf).bind fun bs => some (.dat (.bl (bs.any id)))
  | _ => none
theorem c_all : CbOk K (rAll K) allG := fun F R H δ σ ds vs res w r hg Q q => by
  unfold allG at hg
  split at hg
  · obtain ⟨bs, e1, hg⟩ := Option.bind_eq_some_iff.mp hg
    obtain ⟨ds, e1, e2⟩ := Option.bind_eq_some_iff.mp e1
    cases hg
    obtain ⟨v, e, r1⟩ := r.one
    obtain ⟨a, us, e3, h1, h2⟩ := lstOf_rep e1 r1
    rw [blsOf_rep e2 h2] at h1
    exact ⟨a, bs, by rw [e, e3], h1, q _ R H w Ext.refl rfl trivial⟩
  · cases hg
theorem c_any : CbOk K (rAny K) anyG := fun F R H δ σ ds vs res w r hg Q q => by
  unfold anyG at hg
  split at hg
  · obtain ⟨bs, e1, hg⟩ := Option.bind_eq_some_iff.mp hg
    obtain ⟨ds, e1, e2⟩ := Option.bind_eq_some_iff.mp e1
    cases hg
    obtain ⟨v, e, r1⟩ := r.one
    obtain ⟨a, us, e3, h1, h2⟩ := lstOf_rep e1 r1
    rw [blsOf_rep e2 h2] at h1
    exact ⟨a, bs, by rw [e, e3], h1, q _ R H w Ext.refl rfl trivial⟩
  · cases hg
def minL : Int → List Int → Int
  | m, [] => m
  | m, n :: r => minL (if n < m then n else m) r
def maxL : Int → List Int → Int
  | m, [] => m
  | m, n :: r => maxL (if n > m then n else m) r
theorem minL_spec : ∀ (r : List Int) (m : Int), minL m r ∈ m :: r ∧ ∀ y ∈ m :: r, minL m r ≤ y
  | [], m => by simp [minL]
  | n :: r, m => by
    by_cases hc : n < m
    · have ih := minL_spec r n
      have e : minL m (n :: r) = minL n r := by simp [minL, hc]
      rw [e]
      refine ⟨List.mem_cons_of_mem _ ih.1, fun y hy => ?_⟩
      rcases List.mem_cons.mp hy with z | z
      · have := ih.2 n List.mem_cons_self
        rw [z]; omega
      · exact ih.2 y z
    · have ih := minL_spec r m
      have e : minL m (n :: r) = minL m r := by simp [minL, hc]
      rw [e]
      refine ⟨(List.mem_cons.mp ih.1).elim (fun e => by rw [e]; exact List.mem_cons_self) fun z => List.mem_cons_of_mem _ (List.mem_cons_of_mem _ z), fun y hy => ?_⟩
      have h0 := ih.2 m List.mem_cons_self
      rcases List.mem_cons.mp hy with z | z
      · rw [z]; exact h0
      · rcases List.mem_cons.mp z with z | z
        · rw [z]; omega
        · exact ih.2 y (List.mem_cons_of_mem _ z)
theorem maxL_spec : ∀ (r : List Int) (m : Int), maxL m r ∈ m :: r ∧ ∀ y ∈ m :: r, y ≤ maxL m r
  | [], m => by simp [maxL]
  | n :: r, m => by
    by_cases hc : n > m
    · have ih := maxL_spec r n
      have e : maxL m (n :: r) = maxL n r := by simp [maxL, hc]
      rw [e]
      refine ⟨List.mem_cons_of_mem _ ih.1, fun y hy => ?_⟩
      rcases List.mem_cons.mp hy with z | z
      · have := ih.2 n List.mem_cons_self
        rw [z]; omega
      · exact ih.2 y z
    · have ih := maxL_spec r m
      have e : maxL m (n :: r) = maxL m r := by simp [maxL, hc]
      rw [e]
      refine ⟨(List.mem_cons.mp ih.1).elim (fun e => by rw [e]; exact List.mem_cons_self) fun z => List.mem_cons_of_mem _ (List.mem_cons_of_mem _ z), fun y hy => ?_⟩
      have h0 := ih.2 m List.mem_cons_self
      rcases List.mem_cons.mp hy with z | z
      · rw [z]; exact h0
      · rcases List.mem_cons.mp z with z | z
        · rw [z]; omega
        · exact ih.2 y (List.mem_cons_of_mem _ z)
def rMinU (K : PySem.W.Frag) : List V → Hp → VK → Prop := fun xs H Q => (∃ i j, xs = [.int i, .int j] ∧ Q (.int (if j < i then j else i)) H) ∨ rMin K xs H Q
def rMaxU (K : PySem.W.Frag) : List V → Hp → VK → Prop := fun xs H Q => (∃ i j, xs = [.int i, .int j] ∧ Q (.int (if j > i then j else i)) H) ∨ rMax K xs H Q
theorem call_minU (hc : X.calm = true) : CallR X (.builtin "min") (rMinU X.K) := (call_min2 hc).or (cr_min hc)
theorem call_maxU (hc : X.calm = true) : CallR X (.builtin "max") (rMaxU X.K) := (call_max2 hc).or (cr_max hc)
def minG : List D → Option O
  | [.int i, .int j] => some (.dat (.int (if j < i then j else i)))
  | [d] => ((lstOf d).bind intsOf).bind fun ns => match ns with
    | m :: r => some (.dat (.int (minL m r)))
    | [] => none
  | _ => none
def maxG : List D → Option O
  | [.int i, .int j] => some (.dat (.int (if j > i then j else i)))
  | [d] => ((lstOf d).bind intsOf).bind fun ns => match ns with
    | m :: r => some (.dat (.int (maxL m r)))
    | [] => none
  | _ => none
theorem c_min : CbOk K (rMinU K) minG := fun F R H δ σ ds vs res w r hg Q q => by
  unfold minG at hg
  split at hg
  · cases hg
    obtain ⟨v, u, e, r1, r2⟩ := r.two
    exact .inl ⟨_, _, by rw [e, r1.int, r2.int], q _ R H w Ext.refl rfl trivial⟩
  · obtain ⟨ns, e1, hg⟩ := Option.bind_eq_some_iff.mp hg
    obtain ⟨v, e, r1⟩ := r.one
    obtain ⟨a, e2, h1⟩ := intsL e1 r1
    cases ns with
    | nil => cases hg
    | cons m l =>
      cases hg
      refine .inr ⟨a, m :: l, by rw [e, e2], h1, Nat.succ_pos _, fun z hz hy => ?_⟩
      obtain ⟨s1, s2⟩ := minL_spec l m
      have : z = minL m l := Int.le_antisymm (hy _ s1) (s2 _ hz)
      rw [this]
      exact q _ R H w Ext.refl rfl trivial
  · cases hg
theorem c_max : CbOk K (rMaxU K) maxG := fun F R H δ σ ds vs res w r hg Q q => by
  unfold maxG at hg
  split at hg
  · cases hg
    obtain ⟨v, u, e, r1, r2⟩ := r.two
    exact .inl ⟨_, _, by rw [e, r1.int, r2.int], q _ R H w Ext.refl rfl trivial⟩
  · obtain ⟨ns, e1, hg⟩ := Option.bind_eq_some_iff.mp hg
    obtain ⟨v, e, r1⟩ := r.one
    obtain ⟨a, e2, h1⟩ := intsL e1 r1
    cases ns with
    | nil => cases hg
    | cons m l =>
      cases hg
      refine .inr ⟨a, m :: l, by rw [e, e2], h1, Nat.succ_pos _, fun z hz hy => ?_⟩
      obtain ⟨s1, s2⟩ := maxL_spec l m
      have : z = maxL m l := Int.le_antisymm (s2 _ hz) (hy _ s1)
      rw [this]
      exact q _ R H w Ext.refl rfl trivial
  · cases hg
/-! ### tuple, list, sorted -/
def rTup (K : PySem.W.Frag) : List V → Hp → VK → Prop := fun xs H Q => ∃ p ys, xs = [.ref p] ∧ ((SqL K H p ys ∧ ∀ l, H l = none → Q (.ref l) (upd H l (.tup ys))) ∨ (SqT K H p ys ∧ Q (.ref p) H))
theorem call_tup' : CallR X (.type "tuple") (rTup X.K) := call_tuple_of
def tupOfG : List D → Option O
  | [.tup ds] => some (.dat (.tup ds))
  | [d] => (lstOf d).bind fun ds => some (.dat (.tup ds))
  | _ => none
theorem c_tup : CbOk K (rTup K) tupOfG := fun F R H δ σ ds vs res w r hg Q q => by
  unfold tupOfG at hg
  split at hg
  · cases hg
    obtain ⟨v, e, r1⟩ := r.one
    obtain ⟨a, us, e1, h1, h2⟩ := r1.tup
    subst e1
    exact ⟨a, us, e, .inr ⟨h1, q _ R H w Ext.refl ⟨a, us, rfl, h1, h2⟩ trivial⟩⟩
  · obtain ⟨ds, e1, hg⟩ := Option.bind_eq_some_iff.mp hg
    cases hg
    obtain ⟨v, e, r1⟩ := r.one
    obtain ⟨a, us, e2, h1, h2⟩ := lstOf_rep e1 r1
    subst e2
    exact ⟨a, us, e, .inl ⟨h1, fun p hp => q _ R _ (w.alloc hp) (Ext.alloc hp) (dat_tup w hp h2) trivial⟩⟩
  · cases hg
def rLst (K : PySem.W.Frag) : List V → Hp → VK → Prop := fun xs H Q => ∃ p ys, xs = [.ref p] ∧ (SqL K H p ys ∨ SqT K H p ys) ∧ ∀ l, H l = none → Q (.ref l) (upd H l (.lst ys))
theorem call_lst' : CallR X (.type "list") (rLst X.K) := call_list_of
def lstOfG : List D → Option O
  | [d] => (itemsOf d).bind fun ds => some (.fre (.lst ds))
  | _ => none
theorem items_rep {d : D} {ds : List D} {v : V} (h : itemsOf d = some ds) (r : RepL K R H d v) : ∃ a vs, v = .ref a ∧ (SqL K H a vs ∨ SqT K H a vs) ∧ RepVs K R H ds vs := by
  cases d with
  | lst xs => cases h; obtain ⟨a, vs, e, h1, h2⟩ := r.lst; exact ⟨a, vs, e, .inl (.of h1), h2⟩
  | ro xs => cases h; obtain ⟨a, vs, e, h1, h2⟩ := r.ro; exact ⟨a, vs, e, .inl h1, h2⟩
  | tup xs => cases h; obtain ⟨a, vs, e, h1, h2⟩ := r.tup; exact ⟨a, vs, e, .inr h1, h2⟩
  | _ => cases h
theorem c_lst : CbOk K (rLst K) lstOfG := fun F R H δ σ ds vs res w r hg Q q => by
  unfold lstOfG at hg
  split at hg
  · obtain ⟨ds, e1, hg⟩ := Option.bind_eq_some_iff.mp hg
    cases hg
    obtain ⟨v, e, r1⟩ := r.one
    obtain ⟨a, us, e2, h1, h2⟩ := items_rep e1 r1
    exact ⟨a, us, by rw [e, e2], h1, fun p hp => q _ R _ (w.alloc hp) (Ext.alloc hp) (fre_lst w hp h2) fun c e => by cases e; exact hp⟩
  · cases hg
/-- ints in ascending sequence -/
def insI (n : Int) : List Int → List Int
  | [] => [n]
  | m :: r => if n ≤ m then n :: m :: r else m :: insI n r
def srtI : List Int → List Int
  | [] => []
  | n :: r => insI n (srtI r)
theorem insI_perm (n : Int) : ∀ l, (insI n l).Perm (n :: l)
  | [] => .refl _
  | m :: r => by
    unfold insI
    split
    · exact .refl _
    · exact ((insI_perm n r).cons m).trans (.swap n m r)
theorem srtI_perm : ∀ l, (srtI l).Perm l
  | [] => .refl _
  | n :: r => (insI_perm n _).trans ((srtI_perm r).cons n)
theorem insI_srt (n : Int) : ∀ l : List Int, l.Pairwise (· ≤ ·) → (insI n l).Pairwise (· ≤ ·)
  | [], _ => by simp [insI]
  | m :: r, h => by
    unfold insI
    have h' := List.pairwise_cons.mp h
    split
    · rename_i hc
      refine List.pairwise_cons.mpr ⟨fun y hy => ?_, h⟩
      rcases List.mem_cons.mp hy with z | z
      · rw [z]; exact hc
      · exact Int.le_trans hc (h'.1 y z)
    · rename_i hc
      refine List.pairwise_cons.mpr ⟨fun y hy => ?_, insI_srt n r h'.2⟩
      rcases List.mem_cons.mp ((insI_perm n r).mem_iff.mp hy) with z | z
      · rw [z]; omega
      · exact h'.1 y z
theorem srtI_srt : ∀ l : List Int, (srtI l).Pairwise (· ≤ ·)
  | [] => .nil
  | n :: r => insI_srt n _ (srtI_srt r)
theorem srt_uniq : ∀ {a b : List Int}, a.Perm b → a.Pairwise (· ≤ ·) → b.Pairwise (· ≤ ·) → a = b
  | [], b, p, _, _ => (List.nil_perm.mp p).symm
  | x :: a, [], p, _, _ => absurd p.length_eq (by simp)
  | x :: a, y :: b, p, ha, hb => by
    have ha' := List.pairwise_cons.mp ha
    have hb' := List.pairwise_cons.mp hb
    have e : x = y := by
      have h1 : x ∈ y :: b := p.mem_iff.mp List.mem_cons_self
      have h2 : y ∈ x :: a := p.mem_iff.mpr List.mem_cons_self
      rcases List.mem_cons.mp h1 with z | z
      · exact z
      · rcases List.mem_cons.mp h2 with z2 | z2
        · exact z2.symm
        · exact Int.le_antisymm (ha'.1 y z2) (hb'.1 x z)
    subst e
    rw [srt_uniq ((List.perm_cons x).mp p) ha'.2 hb'.2]
def sortG : List D → Option O
  | [d] => ((lstOf d).bind intsOf).bind fun ns => some (.fre (.lst ((srtI ns).map .int)))
  | _ => none
theorem c_sorted : CbOk K (rSortedI K) sortG := fun F R H δ σ ds vs res w r hg Q q => by
  unfold sortG at hg
  split at hg
  · obtain ⟨ns, e1, hg⟩ := Option.bind_eq_some_iff.mp hg
    cases hg
    obtain ⟨v, e, r1⟩ := r.one
    obtain ⟨a, e2, h1⟩ := intsL e1 r1
    refine ⟨a, ns, by rw [e, e2], h1, fun ns' p hp hs hn => ?_⟩
    have : ns' = srtI ns := srt_uniq (hp.trans (srtI_perm ns).symm) hs (srtI_srt ns)
    subst this
    exact q _ R _ (w.alloc hn) (Ext.alloc hn) (fre_lst w hn (RepVs.ints _)) fun c e => by cases e; exact hn
  · cases hg
/-! ### isinstance of a built-in class -/
def tyOf : D → Option String
  | .non => some "NoneType"
  | .bl _ => some "bool"
  | .int _ => some "int"
  | .str _ => some "str"
  | .lst _ => some "list"
  | .tup _ => some "tuple"
  | .dic _ _ => some "dict"
  | .dit _ _ => some "dict"
  | _ => none
end
end DV

/-! DVS: set(xs) of a list of ints; sorted(set(xs)). -/
namespace DVS
open PySem PySem.Spec PyProof.Rows L2
/-- the set as it is made -/
abbrev freshSet (w : World) : Obj := { cls := .type "set", dict := none, data := .set #[] 0 (.fresh 0 0 (!w.params.followText "set-order")) }
section
variable {P : Program} {w : World} {A : Around} {E : Value → Shared → Prop} {s : Shared}
/-- what __init__ leaves of the fresh set at a -/
def Filled (w : World) (s : Shared) (ns : List Int) (r : Value) (t : Shared) : Prop :=
  r = .none ∧ ∃ h tk c, t = { s with heap := h, toks := tk } ∧ SetR w h s.heap.objs.size (fun j => decide (j ∈ ns)) c ∧ c ≤ ns.length ∧ ∀ b o, s.heap.get? b = some o → h.get? b = some o
theorem set_of_list {l : Addr} {items : Array Value} (ns : List Int) {Q : Value → Shared → Prop} (hh : A.handled = none) (hl : s.heap.IsList l items) (hi : IntsAre items.toList ns) (hb : ns.length + 1 < scanBound)
    (q : ∀ t, Filled w s ns .none t → Q (.ref s.heap.objs.size) t) : wpAny (model P w) A (call (.type "set") [.ref l]) Q E s := by
  have len : items.size = ns.length := (Array.length_toList (xs := items)).symm.trans (IntsAre.length hi)
  obtain ⟨cl, tl, mro⟩ := F.called_set.mro
  have a1 := F.called_set.made
  have a2 := F.called_set.sub
  refine wpAny_call (codeAny_of_tree ?_)
  show wpAny _ _ (callAny (.type "set") _) _ _ _
  refine wpAny_pure ⟨Code.quiet_builtin _ (by decide +kernel), codeAny_builtin F.entry_type_call ?_⟩
  rw [Around.under_plain (weight_type_call_type "set" [.ref l] []) rfl]
  have a3 := F.called_set.notType
  have a4 := F.called_set.canCreate
  have a5 := F.typeCall_set_1 (.ref l)
  repeat (any_goals (first | assumption | wp_step))
  refine codeAny_mono (code_set_led1 (.ref l) (E := E) (Q₁ := fun v t => v = .ref s.heap.objs.size ∧ t = { s with heap := s.heap.push (freshSet w) }) ⟨rfl, rfl⟩) fun r t hr => ?_
  match r, hr with
  | .error _, hr => exact hr
  | .ok (.ret v), hr =>
    obtain ⟨rfl, rfl⟩ := hr
    have h0 : (s.heap.push (freshSet w)).get? s.heap.objs.size = some (freshSet w) := Heap.get?_push_size _ rfl
    have ty : Shared.TypeIs { s with heap := s.heap.push (freshSet w) } (.ref s.heap.objs.size) "set" := ⟨_, h0, rfl⟩
    have b1 := F.called_set.init.lookup
    have b2 := F.called_set.init.bind (.ref s.heap.objs.size)
    repeat (any_goals (first | assumption | wp_step))
    refine codeAny_mono (codeAny_call_builtin (R := wants (Filled w s ns) E) F.called_set.init.plain F.entry_set_init (check_set_init_1 ty ?_)) fun r2 t2 hr2 => ?_
    · obtain ⟨⟨oc, od, dt, sl⟩, ho, hc, n, hd⟩ := hl
      dsimp only at hc hd
      subst hc hd
      have ho1 : (s.heap.push (freshSet w)).get? l = some { cls := .type "list", dict := od, data := .seq items n, slots := sl } := Heap.get?_push_of_some _ ho
      have hL : (s.heap.push (freshSet w)).IsList l items := ⟨_, ho1, rfl, n, rfl⟩
      have lt : l < s.heap.objs.size := Heap.lt_size ho
      have sz : (s.heap.push (freshSet w)).objs.size = s.heap.objs.size + 1 := Heap.size_push ..
      have f1 := F.sub_list_set
      have f2 := F.sub_list_frozenset
      have f3 : (Value.type "list" == Value.type "dict") = false := by decide
      unfold Builtin.«set.__init__» noKeywords Builtin.Frozenset.updateFrom
      generalize hy : pyIter = Y
      wp_walk
      subst hy
      refine wpAny_pyIter_list hL (wpAny_bind (wpAny_runValue ?_))
      have hA : A.in1.in1.in1.handled = none := by simp [hh]
      have ne : l ≠ (s.heap.push (freshSet w)).objs.size := by rw [sz]; exact Nat.ne_of_lt (Nat.lt_succ_of_lt lt)
      have nS : s.heap.objs.size ∉ [(s.heap.push (freshSet w)).objs.size, l] := fun z => by
        rw [sz] at z
        rcases List.mem_cons.mp z with z | z
        · exact absurd z (Nat.ne_of_lt (Nat.lt_succ_self _))
        · exact absurd (List.mem_singleton.mp z) (Nat.ne_of_gt lt)
      have val : ∀ (i : Nat) (v : Value), items[i]? = some v → ∃ k t, ns[i]? = some k ∧ v = .int k t := fun i v hv => by
        have hi' : i < ns.length := by rw [← len]; exact (Array.getElem?_eq_some_iff.mp hv).1
        obtain ⟨t, e⟩ := IntsAre.int_at hi i v (by rw [Array.getElem?_toList]; exact hv)
        exact ⟨ns[i], t, List.getElem?_eq_getElem hi', by rw [e]; simp [hi']⟩
      refine set_update_ints ((Walks.list hA _ l ne items).toS) s.heap.objs.size nS ns len hb val (items.size - 0) 0 _ (by omega) (Nat.zero_le _) ⟨⟨_, Heap.get?_push_size _ rfl, rfl, rfl⟩, hL.push _⟩ ?s0 ?s1
      case s0 => exact ⟨0, Nat.le_refl 0, setR_new_at (by exact Heap.get?_push_of_some _ h0)⟩
      case s1 =>
        intro t c m hc r
        obtain ⟨h', g', d', tk, os⟩ := t
        have e1 : g' = s.gens := m.gens
        have e2 : d' = s.drawn := m.drawn
        have e3 : os = s.os := m.os
        subst e1 e2 e3
        show wpAny _ _ _ _ _ _
        refine wpAny_pure ?_
        show wpAny _ _ (ret Value.none) _ _ _
        rw [len] at hc
        refine wpAny_pure ⟨rfl, h', tk, c, rfl, r, hc, fun b o e => ?_⟩
        have lb : b < s.heap.objs.size := Heap.lt_size e
        refine m.heap b o (fun z => ?_) (Heap.get?_push_of_some _ (Heap.get?_push_of_some _ e))
        rcases List.mem_cons.mp z with z | z
        · exact absurd z (Nat.ne_of_lt lb)
        · rw [sz] at z
          exact absurd (List.mem_singleton.mp z) (Nat.ne_of_lt (Nat.lt_succ_of_lt lb))
    · match r2, hr2 with
      | .error _, hr2 => exact hr2
      | .ok (.ret v), hr2 =>
        obtain ⟨rfl, fl⟩ := hr2
        repeat (any_goals (first | assumption | wp_step))
        exact q _ ⟨rfl, fl⟩
      | .ok .next, hr2 => exact hr2.elim
      | .ok .brk, hr2 => exact hr2.elim
      | .ok .cont, hr2 => exact hr2.elim
  | .ok .next, hr => exact hr.elim
  | .ok .brk, hr => exact hr.elim
  | .ok .cont, hr => exact hr.elim
end
/-- set(xs) -/
def rSetL (K : PySem.W.Frag) (w : World) : List V → Hp → VK → Prop := fun vs H Q => ∃ (a : Addr) (ns : List Int), vs = [V.ref a] ∧ SqL K H a (ns.map V.int) ∧ ns.length ≤ 1000 ∧
  ∀ (p : Addr) (c : Nat), c ≤ ns.length → H p = none → Q (.ref p) (upd H p (SetO w p (fun j => decide (j ∈ ns)) c))
theorem cr_setL {X : Cx} (hc : X.calm = true) : CallR X (.type "set") (rSetL X.K X.w) := by
  intro pins s σ H vs us Q I r h
  obtain ⟨a, ns, rfl, hs, hn, q⟩ := h
  obtain ⟨its, rv, hl, _⟩ := I.list hs
  rw [Vals.ref1 r]
  refine set_of_list (items := its.toArray) ns (I.ok.hd hc) hl.isList rv.ints (by have : scanBound = 4096 := rfl; omega) fun t ⟨_, h, tk, c, e, R, hc', k⟩ => ?_
  subst e
  exact ⟨.ref _, _, I.laid (t' := tk) (o := SetO X.w s.heap.objs.size (fun j => decide (j ∈ ns)) c) k (Nat.le_refl _) (setO_new R), rfl, q _ c hc' (I.hok.fresh (Nat.le_refl _))⟩
end DVS

/-! DV11: isinstance, repr, sorted(set(xs)), several targets, extend, calls by keywords. -/
namespace DV
open PySem PySem.Spec PyProof.Rows L2
section
variable {K : PySem.W.Frag} {F : Fx} {R R1 R' : Reg} {H H1 H' : Hp} {δ δ1 δ' : Env} {σ σ' : L2.St} {X : Cx}
/-! ### isinstance of built-in classes -/
theorem tyX_of {d : D} {v : V} {t : String} (h : tyOf d = some t) (r : RepL K R H d v) : (∃ a xs, v = .ref a ∧ d = .tup xs) ∨ TyX K H v (.type t) := by
  cases d with
  | non => cases h; rw [r.non]; exact .inr (.base .non)
  | bl b => cases h; rw [r.bl]; exact .inr (.base (.bl b))
  | int b => cases h; rw [r.int]; exact .inr (.base (.int b))
  | str b => cases h; rw [r.str]; exact .inr (.base (.str b))
  | lst xs => cases h; obtain ⟨a, vs, e, h1, _⟩ := r.lst; rw [e]; exact .inr (.base (.lst h1))
  | tup xs => obtain ⟨a, vs, e, _⟩ := r.tup; exact .inl ⟨a, xs, e, rfl⟩
  | dic ks ds => cases h; rcases r with ⟨a, vs, e, _, h1, _⟩ | ⟨a, e, vs, h1, _⟩ <;> (rw [e]; exact .inr (.base (.dK h1)))
  | dit ks ds => cases h; rcases r with ⟨a, vs, e, _, h1, _⟩ | ⟨a, e, vs, h1, _⟩ <;> (rw [e]; exact .inr (.base (.dT h1)))
  | _ => cases h
theorem tyX {d : D} {v : V} {t : String} (h : tyOf d = some t) (r : RepL K R H d v) : TyX K H v (.type t) := by
  rcases tyX_of h r with ⟨a, xs, e, rfl⟩ | z
  · cases h
    obtain ⟨b, vs, e1, h1, _⟩ := r.tup
    rw [e1]
    rcases h1 with (h1 | ⟨o, h1⟩) | ⟨o, its, n, h1, h2, _⟩
    · exact .base (.tup h1)
    · exact .fTuple h1
    · exact .kTuple h1 h2
  · exact z
def isG : List D → Option O
  | [d, .con (.ty c)] => (tyOf d).bind fun t => (kitB t c).bind fun b => some (.dat (.bl b))
  | _ => none
theorem c_is : CbOk K (rIsi K) isG := fun F R H δ σ ds vs res w r hg Q q => by
  unfold isG at hg
  split at hg
  · rename_i d c
    obtain ⟨t, e1, hg⟩ := Option.bind_eq_some_iff.mp hg
    obtain ⟨b, e2, hg⟩ := Option.bind_eq_some_iff.mp hg
    cases hg
    obtain ⟨v, u, e, r1, r2⟩ := r.two
    exact ⟨v, u, .type t, .type c, b, e, by rw [r2.con]; exact .ty c, tyX e1 r1, kit_ty e2, q _ R H w Ext.refl rfl trivial⟩
  · cases hg
theorem kit_int_int : kitB "int" "int" = some true := by decide +kernel
theorem kit_bool_int : kitB "bool" "int" = some true := by decide +kernel
theorem kit_int_bool : kitB "int" "bool" = some false := by decide +kernel
theorem kit_bool_bool : kitB "bool" "bool" = some true := by decide +kernel
theorem kit_list_list : kitB "list" "list" = some true := by decide +kernel
/-! ### repr -/
def reprOk (p : PyData) : Bool := p.showable && !p.hasDict && decide (p.depth ≤ 64) && decide (p.shown.length ≤ sizeLine)
def reprG : List D → Option O
  | [d] => (toPd d).bind fun p => if reprOk p = true then some (.dat (.str p.shown)) else none
  | _ => none
theorem c_repr : CbOk K (DVG.rRepr K) reprG := fun F R H δ σ ds vs res w r hg Q q => by
  unfold reprG at hg
  split at hg
  · obtain ⟨p, e1, hg⟩ := Option.bind_eq_some_iff.mp hg
    split at hg
    case isFalse => cases hg
    rename_i hc
    cases hg
    unfold reprOk at hc
    simp only [Bool.and_eq_true, Bool.not_eq_true', decide_eq_true_eq] at hc
    obtain ⟨v, e, r1⟩ := r.one
    exact ⟨v, p, e, dp_L e1 r1, hc.1.1.1, hc.1.1.2, hc.1.2, hc.2, q _ R H w Ext.refl rfl trivial⟩
  · cases hg
/-! ### sorted(set(xs)) -/
/-- ascending, each once -/
def dedI : List Int → List Int
  | [] => []
  | n :: r => if n ∈ r then dedI r else n :: dedI r
theorem dedI_mem (k : Int) : ∀ l, k ∈ dedI l ↔ k ∈ l
  | [] => Iff.rfl
  | n :: r => by
    unfold dedI
    have ih := dedI_mem k r
    split
    · rename_i h
      rw [ih, List.mem_cons]
      exact ⟨.inr, fun z => z.elim (fun e => by rw [e]; exact h) id⟩
    · rw [List.mem_cons, List.mem_cons, ih]
theorem dedI_nodup : ∀ l, (dedI l).Nodup
  | [] => .nil
  | n :: r => by
    unfold dedI
    split
    · exact dedI_nodup r
    · rename_i h
      exact List.nodup_cons.mpr ⟨fun z => h ((dedI_mem n r).mp z), dedI_nodup r⟩
def sortSetI (ns : List Int) : List Int := srtI (dedI ns)
theorem sortSet_uniq {ns ms : List Int} (h1 : ms.Pairwise (· < ·)) (h2 : ∀ k, k ∈ ms ↔ k ∈ ns) : ms = sortSetI ns := by
  have nd : ms.Nodup := h1.imp fun h e => by omega
  have p : ms.Perm (dedI ns) := by
    refine (List.perm_ext_iff_of_nodup nd (dedI_nodup ns)).mpr fun k => ?_
    rw [h2, dedI_mem]
  exact srt_uniq (p.trans (srtI_perm _).symm) (h1.imp fun h => Int.le_of_lt h) (srtI_srt _)
theorem dedI_len : ∀ l, (dedI l).length ≤ l.length
  | [] => Nat.le_refl _
  | n :: r => by
    unfold dedI
    split
    · exact Nat.le_succ_of_le (dedI_len r)
    · exact Nat.succ_le_succ (dedI_len r)
def sortSetE (f : ME) : ME := fun δ => (f δ).bind fun p => (deref p.2 p.1).bind fun d => ((lstOf d).bind intsOf).bind fun ns => if ns.length < 64 then some (.fre (.lst ((sortSetI ns).map .int)), p.2) else none
theorem ev_sortSet {w' : World} {te : TE} {f : ME} (h : Ev K te f) : Ev K (tCB (rSortedSet w') (tCons (tCB (DVS.rSetL K w') (tCons te tNil)) tNil)) (sortSetE f) := fun F R H δ σ o δ' w hf Q q => by
  obtain ⟨⟨o1, δ1⟩, e1, hf⟩ := Option.bind_eq_some_iff.mp hf
  obtain ⟨d, e2, hf⟩ := Option.bind_eq_some_iff.mp hf
  obtain ⟨ns, e3, hf⟩ := Option.bind_eq_some_iff.mp hf
  split at hf
  case isFalse => cases hf
  rename_i hl
  cases hf
  refine h F R H δ σ o1 δ1 w e1 _ fun v R1 H1 w1 x1 r1 _ => ?_
  obtain ⟨a, e, h1⟩ := intsL e3 (deref_ok w1 r1 e2)
  refine ⟨a, ns, by rw [e], h1, by omega, fun p c hc hp => ?_⟩
  have w2 := w1.alloc (o := SetO w' p (fun j => decide (j ∈ ns)) c) hp
  refine ⟨p, _, c, rfl, upd_same, by omega, fun ms p2 s1 s2 s3 hp2 => ?_⟩
  have e5 : ms = sortSetI ns := sortSet_uniq s1 fun k => by rw [s2]; simp
  subst e5
  have x2 := (x1.trans (Ext.alloc (o := SetO w' p (fun j => decide (j ∈ ns)) c) hp))
  exact q _ R1 _ (w2.alloc hp2) (x2.trans (Ext.alloc hp2)) (fre_lst w2 hp2 (RepVs.ints _)) fun b e => by cases e; exact x2.back hp2
/-! ### several targets -/
def gNs : List Nat → TGs
  | [] => gNil
  | i :: is => gCons (gName i) (gNs is)
def slO : O → Option Sl
  | .dat d => some (.val d)
  | .fre d => some (.own d)
  | .own _ => none
def setAll : List Nat → List O → Env → Option Env
  | [], [], δ => some δ
  | i :: is, o :: os, δ => (slO o).bind fun s => setAll is os (δ.set i s)
  | _, _, _ => none
theorem set_all (k : ∀ a, ¬ R a ∨ R a) : ∀ {is : List Nat} {os : List O} {vs : List V} {δ δ' : Env} {σ : L2.St}, Wd K F R H δ σ → RepOs K F R H δ σ os vs → FreOs H1 os vs → setAll is os δ = some δ' → ∀ Q : L2.St → Hp → Prop, (∀ σ', Wd K F R H δ' σ' → Q σ' H) → gNs is vs σ H Q
  | [], [], vs, δ, δ', σ, w, r, _, h, Q, q => by cases h; exact ⟨r, q σ w⟩
  | [], _ :: _, _, _, _, _, _, _, _, h, _, _ => by cases h
  | _ :: _, [], _, _, _, _, _, _, _, h, _, _ => by cases h
  | i :: is, o :: os, vs, δ, δ', σ, w, ⟨v, u, e, r1, r2⟩, ⟨v', u', e', f1, nd, f2⟩, h, Q, q => by
    rw [e] at e'; cases e'
    obtain ⟨s, e1, h⟩ := Option.bind_eq_some_iff.mp h
    refine ⟨v, u, e, ?_⟩
    -- what is pending stays pending
    have pend : ∀ {s : Sl}, s.own? = false ∨ (∃ d, o = .fre d) → (s.own? = true → slO o = some s) → ∀ {ps : List O} {us : List V}, (∀ (j : Nat) p x, ps[j]? = some p → us[j]? = some x → ∃ k : Nat, os[k]? = some p ∧ u[k]? = some x) → (∀ (j : Nat) i, ps[j]? ≠ some (.own i)) →
        RepOs K F R H δ σ ps us → RepOs K F R H (δ.set i s) (σ.set i (some v)) ps us := by
      intro s hs hs2 ps
      induction ps with
      | nil => intro us _ _ h; exact h
      | cons p ps ih =>
        intro us hsub hno ⟨x, us', ex, rx, rr⟩
        subst ex
        refine ⟨x, us', rfl, ?_, ih (fun j p y h3 h4 => hsub (j + 1) p y (by simpa using h3) (by simpa using h4)) (fun j i h => hno (j + 1) i (by simpa using h)) rr⟩
        cases p with
        | dat d => exact rx
        | own k => exact absurd rfl (hno 0 k)
        | fre d =>
          obtain ⟨a, ea, n1, n2, n3, t⟩ := rx
          refine ⟨a, ea, n1, fun z => ?_, n3, t⟩
          rcases ownA_set z with ⟨z1, z2⟩ | z
          · rcases hs with hs | ⟨d0, hs⟩
            · rw [hs] at z1; cases z1
            · obtain ⟨k, h5, h6⟩ := hsub 0 (.fre d) x rfl rfl
              exact nd d0 hs k d h5 (by rw [h6, ea, z2])
          · exact n2 z
    have noown : ∀ {is : List Nat} {os : List O} {δ : Env}, setAll is os δ = some δ' → ∀ (j : Nat) i, os[j]? ≠ some (.own i) := by
      intro is
      induction is with
      | nil => intro os δ h j i z; cases os with | nil => simp at z | cons _ _ => cases h
      | cons i0 is ih =>
        intro os δ h j i z
        cases os with
        | nil => cases h
        | cons o os =>
          obtain ⟨s, e1, h⟩ := Option.bind_eq_some_iff.mp h
          cases j with
          | zero => simp at z; subst z; cases e1
          | succ j => exact ih h j i (by simpa using z)
    cases o with
    | own j => cases e1
    | dat d =>
      cases e1
      exact set_all k (w.setVal r1 i) (pend (.inl rfl) (fun z => by cases z) (fun j p x h3 h4 => ⟨j, h3, h4⟩) (noown h) r2) f2 h Q q
    | fre d =>
      cases e1
      exact set_all k (w.setOwn r1 i) (pend (.inr ⟨d, rfl⟩) (fun _ => rfl) (fun j p x h3 h4 => ⟨j, h3, h4⟩) (noown h) r2) f2 h Q q
def unpS (n : Nat) (is : List Nat) (fa : MA) : MS := fun δ => (fa δ).bind fun p => if (decide (p.1.length = n) && decide (n ≤ sizeLine)) = true then (setAll is p.1 p.2).bind fun δ' => some (.nx δ') else none
theorem s_unp {ta : TA} {fa : MA} {n : Nat} {is : List Nat} (h : EvA K ta fa) : EvS K (tAsg (tTup ta) (gTup K n (gNs is))) (unpS n is fa) := fun F R H δ σ fl w hf E q => by
  obtain ⟨⟨os, δ1⟩, e1, hf⟩ := Option.bind_eq_some_iff.mp hf
  split at hf
  case isFalse => cases hf
  rename_i hn
  obtain ⟨δ2, e2, hf⟩ := Option.bind_eq_some_iff.mp hf
  cases hf
  rw [Bool.and_eq_true, decide_eq_true_eq, decide_eq_true_eq] at hn
  refine h F R H δ σ os δ1 w e1 _ fun vs R1 H1 w1 x1 r1 f1 => ⟨by rw [← r1.length, hn.1]; exact hn.2, fun p hp => ?_⟩
  refine ⟨p, vs, rfl, .of upd_same, by rw [← r1.length]; exact hn.1, ?_⟩
  have w2 := w1.alloc (o := .tup vs) hp
  refine set_all (fun a => (Classical.em (R1 a)).symm) w2 (r1.ext w1 (Ext.alloc hp)) f1 e2 _ fun σ' w3 => q σ' R1 _ w3 ((x1.keep w).trans (Grow.new hp).keep)
def parS (i j : Nat) (fa : MA) : MS := fun δ => (fa δ).bind fun p => if p.1.length = 2 then (setAll [i, j] p.1 p.2).bind fun δ' => some (.nx δ') else none
theorem s_par {ta : TA} {fa : MA} {i j : Nat} (h : EvA K ta fa) : EvS K (tPar i j ta) (parS i j fa) := fun F R H δ σ fl w hf E q => by
  obtain ⟨⟨os, δ1⟩, e1, hf⟩ := Option.bind_eq_some_iff.mp hf
  split at hf
  case isFalse => cases hf
  rename_i hn
  obtain ⟨δ2, e2, hf⟩ := Option.bind_eq_some_iff.mp hf
  cases hf
  refine h F R H δ σ os δ1 w e1 _ fun vs R1 H1 w1 x1 r1 f1 => ?_
  have hv : vs.length = 2 := by rw [← r1.length]; exact hn
  match vs, hv with
  | [v, u], _ =>
    refine ⟨v, u, rfl, ?_⟩
    have := set_all (fun a => (Classical.em (R1 a)).symm) w1 r1 f1 e2 (fun σ' H' => E.nx σ' H') fun σ' w3 => q σ' R1 _ w3 (x1.keep w)
    obtain ⟨v1, r1', e3, h4⟩ := this
    cases e3
    obtain ⟨v2, r2', e5, h6⟩ := h4
    cases e5
    exact h6.2
/-! ### extend -/
def extG (d : D) (ds : List D) : Option (D × D) := match d, ds with
  | .lst xs, [.lst ys] => if xs.length + ys.length ≤ sizeLine then some (.lst (xs ++ ys), .non) else none
  | _, _ => none
theorem m_extend : MutOk K rExtend extG := fun R H d0 ds d1 res l vs k t rv hg Q q => by
  unfold extG at hg
  split at hg
  · rename_i xs ys
    split at hg
    · rename_i hl
      cases hg
      obtain ⟨us, h1, h2⟩ := t
      obtain ⟨v, r, e, ⟨b, ws, e2, _, h3, h4⟩, h5⟩ := rv
      have : r = [] := h5
      subst this; subst e2; subst e
      exact ⟨l, b, us, ws, rfl, rfl, h1, h3, by rw [← h2.length, ← h4.length]; exact hl, q _ _ ⟨_, upd_same, (h2.append h4).keep (k _)⟩ rfl⟩
    · cases hg
  · cases hg
end
end DV

/-! DV12: calls by keywords alone, in the parameters' order. -/
namespace DVG
open PySem PySem.Spec PyProof.Rows L2
def KwAll (K : PySem.W.Frag) (fd : FuncData) (ps ks : List Str) : Prop := ∀ (s : Shared) (ws : List Value), K.In s.heap → ws.length = ps.length → BindsTo s fd ⟨[], ks.zip ws⟩ (ps.zip ws)
theorem kwAll {K : PySem.W.Frag} {x qual : Str} {st : Stmt} {f : Addr} {fd : FuncData} {ps ks : List Str} (F : L2.Fun K x qual st f fd)
    (h : ∀ (kV doc pm : Value) (an : Option Addr) (cdv ct : Value) (ws : List Value), ws.length = ps.length → bindArgs (PySem.W.fnOf x qual (defArgs st) (defBody st) (defScope st) .none kV doc pm an cdv ct) ⟨[], ks.zip ws⟩ = pure (ps.zip ws)) : KwAll K fd ps ks := by
  obtain ⟨_, _, kV, doc, pm, an, cdv, ct, _, e, _, _⟩ := F.ex
  subst e
  exact fun s ws _ l => BindsTo.of_eq (h kV doc pm an cdv ct ws l)
section
variable {X : Cx} {CX : CXT} {k : Nat} {f : Addr} {fd : FuncData} {ps ks : List Str} {sp : Sp} {E : XK} {x : Str} {p pos : Pos} {kws : List Keyword} {tk : TA}
theorem pe_callGW (F : FnG bb X.prog X.w X.K X.mg X.base CX k f fd ps sp) (hr : Rm bb k X.A) (hg : Gl X x) (hm : X.mg x = some (.ref f)) (hk : PySem.W.keepIn X.K (.ref f) = true) (hb : KwAll X.K fd ps ks) (hx : Passes CX X E) (hkw : PK X kws tk)
    (hall : (backToKw pos (keywordEach kws X.env)).all (·.1.isSome) = true := by rfl) (hks : (backToKw pos (keywordEach kws X.env)).filterMap (·.1) = ks := by rfl) (hdb : (x == ("__debug__" : Str)) = false := by decide)
    (hpl : ((backTo pos (starEach [] X.env)).any (·.1) || (backToKw pos (keywordEach kws X.env)).any (·.1.isNone)) = false := by rfl) :
    PE X (.Call (.Name x p) [] kws pos) (tCall sp [] E tk) := by
  constructor
  intro pins s σ H Q I h
  refine wpAny_Call_Name_kw (ld_glob I hg hm (PySem.W.callWith_KW0 (h₀ := X.base) I.ok.mod.kin hk hall (thn (hkw.run pos pins s σ H _ I h) fun ws s2 ⟨zs, H2, I2, rz, q⟩ => ⟨I2.kIn, ?_⟩) hpl) hdb)
  have q' : sp zs H2 Q E := by
    have z : sp (zs ++ []) H2 Q E := q
    rwa [List.append_nil] at z
  rw [hks]
  refine wpAny_call (codeAny_mono (F.run X.A X.stack s2 H2 ⟨[], ks.zip ws⟩ ws zs Q E hr I2.env0 (hb s2 ws I2.kIn (by rw [← rz.length]; exact F.len _ _ _ _ q')) rz q') fun r s' z => ?_)
  revert z
  match r with
  | .error _ => exact fun z => back hx I2 z
  | .ok (.ret _) => exact fun z => back hx I2 z
  | .ok .next => exact fun z => (back hx I2 z).elim
  | .ok .brk => exact fun z => (back hx I2 z).elim
  | .ok .cont => exact fun z => (back hx I2 z).elim
end
end DVG
namespace DV
open PySem PySem.Spec PyProof.Rows L2
section
variable {K : PySem.W.Frag}
def negG : D → Option O
  | .int i => some (.dat (.int (-i)))
  | _ => none
theorem k_neg : UnOk K (rU fun i => .int (-i)) negG := fun F R H δ σ d1 v1 res w r hg Q q => by
  cases d1 with
  | int i =>
    cases hg
    rcases r with r | ⟨a, _, r⟩
    · cases (show v1 = V.int i from r)
      exact ⟨i, rfl, q _ R H w Ext.refl rfl trivial⟩
    · exact r.elim
  | _ => cases hg
theorem hU {k : Nat} {A : Around} (h : DVG.Rm bb k A) : A.units + 64 < cLine := by have := h.r.un; omega
theorem hU2 {k : Nat} {A : Around} (h : DVG.Rm bb k A) : A.units + 100 < cLine := by have := h.r.un; omega
def par3S (i j l : Nat) (fa : MA) : MS := fun δ => (fa δ).bind fun p => if p.1.length = 3 then (setAll [i, j, l] p.1 p.2).bind fun δ' => some (.nx δ') else none
theorem s_par3 {ta : TA} {fa : MA} {i j l : Nat} (h : EvA K ta fa) : EvS K (tPar3 i j l ta) (par3S i j l fa) := fun F R H δ σ fl w hf E q => by
  obtain ⟨⟨os, δ1⟩, e1, hf⟩ := Option.bind_eq_some_iff.mp hf
  split at hf
  case isFalse => cases hf
  rename_i hn
  obtain ⟨δ2, e2, hf⟩ := Option.bind_eq_some_iff.mp hf
  cases hf
  refine h F R H δ σ os δ1 w e1 _ fun vs R1 H1 w1 x1 r1 f1 => ?_
  have hv : vs.length = 3 := by rw [← r1.length]; exact hn
  match vs, hv with
  | [v, u, t], _ =>
    refine ⟨v, u, t, rfl, ?_⟩
    have := set_all (fun a => (Classical.em (R1 a)).symm) w1 r1 f1 e2 (fun σ' H' => E.nx σ' H') fun σ' w3 => q σ' R1 _ w3 (x1.keep w)
    obtain ⟨v1, r1', e3, h4⟩ := this
    cases e3
    obtain ⟨v2, r2', e5, h6⟩ := h4
    cases e5
    obtain ⟨v3, r3', e7, h8⟩ := h6
    cases e7
    exact h8.2
/-- a call: its arguments plain, or lent -/
def callX (bo : Option Nat) (n : Nat) (f : FD) (os : List O) (δ : Env) : Option (O × Env) := match callP bo n f os δ with
  | some r => some r
  | none => callL bo n f os δ
theorem call_ok {bo : Option Nat} {n : Nat} {f : FD} : CallOk K (spD K bo n f) (callX bo n f) := fun F R H δ σ os vs o δ' w ro h Q E q => by
  unfold callX at h
  split at h
  · rename_i r hr
    cases h
    exact call_plain w ro hr Q E q
  · exact call_lend w ro h Q E q
theorem law_spD {F : FD} {H : Hp} {a : Addr} {ns : List Int} {E : XK} (hO : Only H) (hS : SqL K H a (ns.map V.int)) (h : F [.ro (ns.map D.int)] = some (.dat (.bl true), .non)) : spD K none 1 F [.ref a] H (fun v _ => v = .bl true) E := by
  refine ⟨rfl, fun _ => False, [.ro (ns.map D.int)], .dat (.bl true), .non, ⟨rfl, fun i d v h1 h2 => ⟨(fun z => by cases z), fun _ => ?_⟩⟩, fun _ z => z.elim, h, fun v R' H' e => e.res⟩
  cases i with
  | zero =>
    cases h1; cases h2
    exact ⟨a, _, rfl, .of hO hS, .ints ns⟩
  | succ i => simp at h1
theorem walkD {l : PySem.W.OpenLaw} {n k : Nat} {q : Program} {loose : List Str} {XP : (Str → Option Value) → Heap → Prop} {YP : World → Heap → Prop} {d : DefRec} {K : Params → PySem.W.Frag} {x : Str} {f : FD}
    (hn : l.most = some n) (hn2 : n ≤ sizeLine) (hdf : d.params.defaults = []) (hr : DVG.Rm bb k callerA) (hY : ∀ (w : World) (h : Heap), YP w h → (K w.params).In h)
    (hf : ∀ ns : List Int, ns.length ≤ n → (∀ z ∈ ns, Builtin.Int.intBits z ≤ 1048576) → f [.ro (ns.map D.int)] = some (.dat (.bl true), .non))
    (G : ∀ (w : World) (mg : Str → Option Value) (fa : Addr) (h : Heap), (K w.params).In h → h.Ns mainGlobals mg → mg d.name = some (.ref fa) →
      ∃ fd : FuncData, (∀ (s : Shared) (u : Value), BindsTo s fd ⟨[u], []⟩ [(x, u)]) ∧ ∀ base : Heap, (K w.params).In base → base.Ns mainGlobals mg → DVG.FnG bb l.prog w (K w.params) mg base CX0 k fa fd [x] (spD (K w.params) none 1 f)) :
    PySem.W.WalkO q loose XP YP l.row.toRowW d [] (fun f vs => PySem.call f vs) :=
  DVG.walkG (CX := fun _ => CX0) (sp := fun w => spD (K w.params) none 1 f) hn hn2 hdf hr hY G (fun w H a ns hl hb hO hS => law_spD hO hS (hf ns hl hb)) (fun _ _ _ _ _ z => z)
theorem bt_len : bootBuiltins "len" = some (.builtin "len") := by decide +kernel
theorem bt_isinstance : bootBuiltins "isinstance" = some (.builtin "isinstance") := by decide +kernel
theorem bt_sum : bootBuiltins "sum" = some (.builtin "sum") := by decide +kernel
theorem bt_all : bootBuiltins "all" = some (.builtin "all") := by decide +kernel
theorem bt_any : bootBuiltins "any" = some (.builtin "any") := by decide +kernel
theorem bt_min : bootBuiltins "min" = some (.builtin "min") := by decide +kernel
theorem bt_max : bootBuiltins "max" = some (.builtin "max") := by decide +kernel
theorem bt_sorted : bootBuiltins "sorted" = some (.builtin "sorted") := by decide +kernel
theorem bt_repr : bootBuiltins "repr" = some (.builtin "repr") := by decide +kernel
theorem bt_abs : bootBuiltins "abs" = some (.builtin "abs") := by decide +kernel
theorem bt_int : bootBuiltins "int" = some (.type "int") := by decide +kernel
theorem bt_list : bootBuiltins "list" = some (.type "list") := by decide +kernel
theorem bt_tuple : bootBuiltins "tuple" = some (.type "tuple") := by decide +kernel
theorem bt_set : bootBuiltins "set" = some (.type "set") := by decide +kernel
theorem bt_range : bootBuiltins "range" = some (.type "range") := by decide +kernel
theorem bt_enumerate : bootBuiltins "enumerate" = some (.type "enumerate") := by decide +kernel
theorem bt_bool : bootBuiltins "bool" = some (.type "bool") := by decide +kernel
theorem bt_reversed : bootBuiltins "reversed" = some (.type "reversed") := by decide +kernel
end
end DV

/-! DV13: the functions on data as a machine: each step a rewriting rule. -/
namespace DV
open PySem PySem.Spec PyProof.Rows L2
section
variable {δ δ1 δ2 : Env} {o o1 o2 : O} {d d1 d2 : D} {b : Bool} {i j n : Nat} {os : List O} {ds : List D}
/-! names -/
def var1 (i : Nat) (δ : Env) : Option Sl → Option (O × Env)
  | some (.val d) => some (.dat d, δ)
  | some (.own _) => some (.own i, δ)
  | some (.brw _) => some (.own i, δ)
  | _ => none
theorem e_var : varE i δ = var1 i δ δ[i]? := by
  unfold varE var1
  cases δ[i]? with
  | none => rfl
  | some s => cases s <;> rfl
theorem e_var1 : var1 i δ (some (.val d)) = some (.dat d, δ) := id rfl
theorem e_var2 : var1 i δ (some (.own d)) = some (.own i, δ) := id rfl
theorem e_var3 : var1 i δ (some (.brw d)) = some (.own i, δ) := id rfl
theorem e_dat : datC d δ = some (.dat d, δ) := id rfl
def sd1 : Option Sl → Option D := fun s => s.bind Sl.d?
theorem e_der1 : deref δ (.dat d) = some d := id rfl
theorem e_der2 : deref δ (.fre d) = some d := id rfl
theorem e_der3 : deref δ (.own i) = sd1 δ[i]? := id rfl
theorem e_sd1 : sd1 (some (.val d)) = some d := id rfl
theorem e_sd2 : sd1 (some (.own d)) = some d := id rfl
theorem e_sd3 : sd1 (some (.brw d)) = some d := id rfl
/-! operations -/
def op1 (g : D → D → Option O) (fb : ME) (x : Option (O × Env)) : Option (O × Env) := x.bind fun p => (fb p.2).bind fun q => (deref q.2 p.1).bind fun d1 => (deref q.2 q.1).bind fun d2 => (g d1 d2).bind fun o => some (o, q.2)
def op2 (g : D → D → Option O) (o1 : O) (x : Option (O × Env)) : Option (O × Env) := x.bind fun q => (deref q.2 o1).bind fun d1 => (deref q.2 q.1).bind fun d2 => (g d1 d2).bind fun o => some (o, q.2)
def op3 (g : D → D → Option O) (δ : Env) (x y : Option D) : Option (O × Env) := x.bind fun d1 => y.bind fun d2 => (g d1 d2).bind fun o => some (o, δ)
def op4 (δ : Env) (x : Option O) : Option (O × Env) := x.bind fun o => some (o, δ)
theorem e_op {g : D → D → Option O} {fa fb : ME} : opE g fa fb δ = op1 g fb (fa δ) := id rfl
theorem e_op1 {g : D → D → Option O} {fb : ME} : op1 g fb (some (o, δ)) = op2 g o (fb δ) := id rfl
theorem e_op2 {g : D → D → Option O} : op2 g o1 (some (o, δ)) = op3 g δ (deref δ o1) (deref δ o) := id rfl
theorem e_op3 {g : D → D → Option O} : op3 g δ (some d1) (some d2) = op4 δ (g d1 d2) := id rfl
theorem e_op4 : op4 δ (some o) = some (o, δ) := id rfl
def un1 (g : D → Option O) (x : Option (O × Env)) : Option (O × Env) := x.bind fun p => (deref p.2 p.1).bind fun d1 => (g d1).bind fun o => some (o, p.2)
def un2 (g : D → Option O) (δ : Env) (x : Option D) : Option (O × Env) := x.bind fun d1 => (g d1).bind fun o => some (o, δ)
theorem e_un {g : D → Option O} {fa : ME} : unE g fa δ = un1 g (fa δ) := id rfl
theorem e_un1 {g : D → Option O} : un1 g (some (o, δ)) = un2 g δ (deref δ o) := id rfl
theorem e_un2 {g : D → Option O} : un2 g δ (some d) = op4 δ (g d) := id rfl
def sol1 (x : Option (O × Env)) : Option (D × Env) := x.bind fun p => solid p.1 p.2
def sol2 (i : Nat) (δ : Env) : Option Sl → Option (D × Env)
  | some (.own d) => some (d, δ.set i (.val d))
  | some (.val d) => some (d, δ)
  | _ => none
theorem e_sol {f : ME} : solidE f δ = sol1 (f δ) := id rfl
theorem e_sol1 : sol1 (some (.dat d, δ)) = some (d, δ) := id rfl
theorem e_sol2 : sol1 (some (.fre d, δ)) = some (d, δ) := id rfl
theorem solid_own : solid (.own i) δ = sol2 i δ δ[i]? := by
  simp only [solid]
  generalize δ[i]? = x
  cases x with
  | none => rfl
  | some s => cases s <;> rfl
theorem e_sol3 : sol1 (some (.own i, δ)) = sol2 i δ δ[i]? := solid_own
theorem e_sol4 : sol2 i δ (some (.own d)) = some (d, δ.set i (.val d)) := id rfl
theorem e_sol5 : sol2 i δ (some (.val d)) = some (d, δ) := id rfl
def da1 (x : Option (D × Env)) : Option (O × Env) := x.bind fun p => some (.dat p.1, p.2)
theorem e_da {f : MD} : datE f δ = da1 (f δ) := id rfl
theorem e_da1 : da1 (some (d, δ)) = some (.dat d, δ) := id rfl
/-! arguments -/
def ca1 (g : MA) (x : Option (O × Env)) : Option (List O × Env) := x.bind fun p => (g p.2).bind fun q => some (p.1 :: q.1, q.2)
def ca2 (o : O) (x : Option (List O × Env)) : Option (List O × Env) := x.bind fun q => some (o :: q.1, q.2)
theorem e_na : nilA δ = some ([], δ) := id rfl
theorem e_ca {f : ME} {g : MA} : consA f g δ = ca1 g (f δ) := id rfl
theorem e_ca1 {g : MA} : ca1 g (some (o, δ)) = ca2 o (g δ) := id rfl
theorem e_ca2 : ca2 o (some (os, δ)) = some (o :: os, δ) := id rfl
def cd1 (g : MAD) (x : Option (D × Env)) : Option (List D × Env) := x.bind fun p => (g p.2).bind fun q => some (p.1 :: q.1, q.2)
def cd2 (o : D) (x : Option (List D × Env)) : Option (List D × Env) := x.bind fun q => some (o :: q.1, q.2)
theorem e_nd : nilD δ = some ([], δ) := id rfl
theorem e_cd {f : MD} {g : MAD} : consD f g δ = cd1 g (f δ) := id rfl
theorem e_cd1 {g : MAD} : cd1 g (some (d, δ)) = cd2 d (g δ) := id rfl
theorem e_cd2 : cd2 d (some (ds, δ)) = some (d :: ds, δ) := id rfl
def dr1 (x : Option D) (y : Option (List D)) : Option (List D) := x.bind fun d => y.bind fun ds => some (d :: ds)
theorem e_dn : derefs δ [] = some [] := id rfl
theorem e_dc : derefs δ (o :: os) = dr1 (deref δ o) (derefs δ os) := id rfl
theorem e_dc1 : dr1 (some d) (some ds) = some (d :: ds) := id rfl
/-! built-ins, displays -/
def cb1 (g : List D → Option O) (x : Option (List O × Env)) : Option (O × Env) := x.bind fun p => (derefs p.2 p.1).bind fun ds => (g ds).bind fun o => some (o, p.2)
def cb2 (g : List D → Option O) (δ : Env) (x : Option (List D)) : Option (O × Env) := x.bind fun ds => (g ds).bind fun o => some (o, δ)
theorem e_cb {g : List D → Option O} {fa : MA} : cbE g fa δ = cb1 g (fa δ) := id rfl
theorem e_cb1 {g : List D → Option O} : cb1 g (some (os, δ)) = cb2 g δ (derefs δ os) := id rfl
theorem e_cb2 {g : List D → Option O} : cb2 g δ (some ds) = op4 δ (g ds) := id rfl
def ls1 (x : Option (List D × Env)) : Option (O × Env) := x.bind fun p => if p.1.length ≤ sizeLine then some (.fre (.lst p.1), p.2) else none
theorem e_ls {fa : MAD} : lstE fa δ = ls1 (fa δ) := id rfl
theorem szl {n : Nat} (h : n ≤ 100000) : n ≤ sizeLine := Nat.le_trans h (by decide)
theorem e_ls1 (h : ds.length ≤ 100000) : ls1 (some (ds, δ)) = some (.fre (.lst ds), δ) := if_pos (szl h)
def tp1 (x : Option (List D × Env)) : Option (O × Env) := x.bind fun p => if p.1.length ≤ sizeLine then some (.dat (.tup p.1), p.2) else none
theorem e_tp {fa : MAD} : tupE fa δ = tp1 (fa δ) := id rfl
theorem e_tp1 (h : ds.length ≤ 100000) : tp1 (some (ds, δ)) = some (.dat (.tup ds), δ) := if_pos (szl h)
/-! slices -/
def ip1 (x : Option (O × Env)) : Option (Option Int × Env) := x.bind fun p => match p.1 with
  | .dat (.int i) => some (some i, p.2)
  | _ => none
theorem e_np : nopP δ = some (none, δ) := id rfl
theorem e_ip {f : ME} : intP f δ = ip1 (f δ) := id rfl
theorem e_ip1 {k : Int} : ip1 (some (.dat (.int k), δ)) = some (some k, δ) := id rfl
def sl1 (l h : MP) (x : Option (O × Env)) : Option (O × Env) := x.bind fun p => (l p.2).bind fun a => (h a.2).bind fun b => (deref b.2 p.1).bind fun d => (slG a.1 b.1 d).bind fun o => some (o, b.2)
def sl2 (h : MP) (o : O) (x : Option (Option Int × Env)) : Option (O × Env) := x.bind fun a => (h a.2).bind fun b => (deref b.2 o).bind fun d => (slG a.1 b.1 d).bind fun o => some (o, b.2)
def sl3 (o : O) (u : Option Int) (x : Option (Option Int × Env)) : Option (O × Env) := x.bind fun b => (deref b.2 o).bind fun d => (slG u b.1 d).bind fun o => some (o, b.2)
theorem e_sl {f : ME} {l h : MP} : slE f l h δ = sl1 l h (f δ) := id rfl
theorem e_sl1 {l h : MP} : sl1 l h (some (o, δ)) = sl2 h o (l δ) := id rfl
theorem e_sl2 {h : MP} {u : Option Int} : sl2 h o (some (u, δ)) = sl3 o u (h δ) := id rfl
theorem e_sl3 {u v : Option Int} : sl3 o u (some (v, δ)) = un2 (slG u v) δ (deref δ o) := id rfl
def rv1 (x : Option (O × Env)) : Option (O × Env) := x.bind fun p => (deref p.2 p.1).bind fun d => match d with
  | .lst xs => some (.fre (.lst xs.reverse), p.2)
  | .ro xs => some (.fre (.lst xs.reverse), p.2)
  | _ => none
def rvG : D → Option O
  | .lst xs => some (.fre (.lst xs.reverse))
  | .ro xs => some (.fre (.lst xs.reverse))
  | _ => none
theorem e_rv {f : ME} : revE f δ = rv1 (f δ) := id rfl
theorem e_rv1 : rv1 (some (o, δ)) = un2 rvG δ (deref δ o) := by
  unfold rv1 un2
  show (deref δ o).bind _ = _
  cases deref δ o with
  | none => rfl
  | some d => cases d <;> rfl
theorem e_rv2 : rvG (.lst ds) = some (.fre (.lst ds.reverse)) := id rfl
/-! tests -/
def te1 (x : Option (O × Env)) : Option (Bool × Env) := x.bind fun p => (blOf p.1).bind fun b => some (b, p.2)
theorem e_te {f : ME} : testE f δ = te1 (f δ) := id rfl
theorem e_te1 : te1 (some (.dat (.bl b), δ)) = some (b, δ) := id rfl
def at1 (g : MT) (x : Option (Bool × Env)) : Option (Bool × Env) := x.bind fun p => if p.1 = true then g p.2 else some (false, p.2)
def ot1 (g : MT) (x : Option (Bool × Env)) : Option (Bool × Env) := x.bind fun p => if p.1 = true then some (true, p.2) else g p.2
def nt1 (x : Option (Bool × Env)) : Option (Bool × Env) := x.bind fun p => some (!p.1, p.2)
theorem e_at {f g : MT} : andT f g δ = at1 g (f δ) := id rfl
theorem e_at1 {g : MT} : at1 g (some (true, δ)) = g δ := id rfl
theorem e_at2 {g : MT} : at1 g (some (false, δ)) = some (false, δ) := id rfl
theorem e_ot {f g : MT} : orT f g δ = ot1 g (f δ) := id rfl
theorem e_ot1 {g : MT} : ot1 g (some (true, δ)) = some (true, δ) := id rfl
theorem e_ot2 {g : MT} : ot1 g (some (false, δ)) = g δ := id rfl
theorem e_nt {f : MT} : notT f δ = nt1 (f δ) := id rfl
theorem e_nt1 : nt1 (some (b, δ)) = some (!b, δ) := id rfl
def ae1 (g : ME) (x : Option (O × Env)) : Option (O × Env) := x.bind fun p => (blOf p.1).bind fun b => if b = true then g p.2 else some (.dat (.bl false), p.2)
def oe1 (g : ME) (x : Option (O × Env)) : Option (O × Env) := x.bind fun p => (blOf p.1).bind fun b => if b = true then some (.dat (.bl true), p.2) else g p.2
def ne1 (x : Option (O × Env)) : Option (O × Env) := x.bind fun p => (blOf p.1).bind fun b => some (.dat (.bl (!b)), p.2)
theorem e_ae {f g : ME} : andE f g δ = ae1 g (f δ) := id rfl
theorem e_ae1 {g : ME} : ae1 g (some (.dat (.bl true), δ)) = g δ := id rfl
theorem e_ae2 {g : ME} : ae1 g (some (.dat (.bl false), δ)) = some (.dat (.bl false), δ) := id rfl
theorem e_oe {f g : ME} : orE f g δ = oe1 g (f δ) := id rfl
theorem e_oe1 {g : ME} : oe1 g (some (.dat (.bl true), δ)) = some (.dat (.bl true), δ) := id rfl
theorem e_oe2 {g : ME} : oe1 g (some (.dat (.bl false), δ)) = g δ := id rfl
theorem e_ne {f : ME} : notE f δ = ne1 (f δ) := id rfl
theorem e_ne1 : ne1 (some (.dat (.bl b), δ)) = some (.dat (.bl (!b)), δ) := id rfl
def ie1 (f g : ME) (x : Option (Bool × Env)) : Option (O × Env) := x.bind fun p => if p.1 = true then f p.2 else g p.2
theorem e_ie {c : MT} {f g : ME} : ifE c f g δ = ie1 f g (c δ) := id rfl
theorem e_ie1 {f g : ME} : ie1 f g (some (true, δ)) = f δ := id rfl
theorem e_ie2 {f g : ME} : ie1 f g (some (false, δ)) = g δ := id rfl
def ch1 (g g' : D → D → Option O) (fb fc : ME) (x : Option (O × Env)) : Option (O × Env) := x.bind fun p => (fb p.2).bind fun q => (deref q.2 p.1).bind fun d1 => (deref q.2 q.1).bind fun d2 => (g d1 d2).bind fun o => (blOf o).bind fun b => if b = true then
  (fc q.2).bind fun r => (deref r.2 q.1).bind fun d2' => (deref r.2 r.1).bind fun d3 => (g' d2' d3).bind fun o' => some (o', r.2) else some (.dat (.bl false), q.2)
def ch2 (g g' : D → D → Option O) (fc : ME) (o1 : O) (x : Option (O × Env)) : Option (O × Env) := x.bind fun q => (deref q.2 o1).bind fun d1 => (deref q.2 q.1).bind fun d2 => (g d1 d2).bind fun o => (blOf o).bind fun b => if b = true then
  (fc q.2).bind fun r => (deref r.2 q.1).bind fun d2' => (deref r.2 r.1).bind fun d3 => (g' d2' d3).bind fun o' => some (o', r.2) else some (.dat (.bl false), q.2)
def ch3 (g g' : D → D → Option O) (fc : ME) (o2 : O) (δ : Env) (x y : Option D) : Option (O × Env) := x.bind fun d1 => y.bind fun d2 => (g d1 d2).bind fun o => (blOf o).bind fun b => if b = true then
  (fc δ).bind fun r => (deref r.2 o2).bind fun d2' => (deref r.2 r.1).bind fun d3 => (g' d2' d3).bind fun o' => some (o', r.2) else some (.dat (.bl false), δ)
def ch4 (g' : D → D → Option O) (fc : ME) (o2 : O) (δ : Env) (x : Option O) : Option (O × Env) := x.bind fun o => (blOf o).bind fun b => if b = true then
  (fc δ).bind fun r => (deref r.2 o2).bind fun d2' => (deref r.2 r.1).bind fun d3 => (g' d2' d3).bind fun o' => some (o', r.2) else some (.dat (.bl false), δ)
theorem e_ch {g g' : D → D → Option O} {fa fb fc : ME} : chainE g g' fa fb fc δ = ch1 g g' fb fc (fa δ) := id rfl
theorem e_ch1 {g g' : D → D → Option O} {fb fc : ME} : ch1 g g' fb fc (some (o, δ)) = ch2 g g' fc o (fb δ) := id rfl
theorem e_ch2 {g g' : D → D → Option O} {fc : ME} : ch2 g g' fc o1 (some (o, δ)) = ch3 g g' fc o δ (deref δ o1) (deref δ o) := id rfl
theorem e_ch3 {g g' : D → D → Option O} {fc : ME} : ch3 g g' fc o δ (some d1) (some d2) = ch4 g' fc o δ (g d1 d2) := id rfl
theorem e_ch4 {g' : D → D → Option O} {fc : ME} : ch4 g' fc o δ (some (.dat (.bl true))) = op2 g' o (fc δ) := id rfl
theorem e_ch5 {g' : D → D → Option O} {fc : ME} : ch4 g' fc o δ (some (.dat (.bl false))) = some (.dat (.bl false), δ) := id rfl
/-! calls -/
def cl1 (call : List O → Env → Option (O × Env)) (dds : List D) (x : Option (List O × Env)) : Option (O × Env) := x.bind fun p => call (p.1 ++ dds.map .dat) p.2
theorem e_cl {call : List O → Env → Option (O × Env)} {dds : List D} {fa : MA} : callE call dds fa δ = cl1 call dds (fa δ) := id rfl
theorem e_cl1 {call : List O → Env → Option (O × Env)} : cl1 call [] (some (os, δ)) = call os δ := by
  show call (os ++ []) δ = _
  rw [List.append_nil]
def cx1 (bo : Option Nat) (n : Nat) (f : FD) (os : List O) (δ : Env) (x : Bool) : Option (O × Env) := match (if x = true then (derefs δ os).bind fun ds => (f ds).bind fun p => (putBack bo os δ p.2).bind fun δ2 => some (p.1.o, δ2) else none) with
  | some r => some r
  | none => callL bo n f os δ
def cx2 (bo : Option Nat) (n : Nat) (f : FD) (os : List O) (δ : Env) (x : Option (List D)) : Option (O × Env) := match (x.bind fun ds => (f ds).bind fun p => (putBack bo os δ p.2).bind fun δ2 => some (p.1.o, δ2)) with
  | some r => some r
  | none => callL bo n f os δ
def cx3 (bo : Option Nat) (n : Nat) (f : FD) (os : List O) (δ : Env) (x : Option (Ret × D)) : Option (O × Env) := match (x.bind fun p => (putBack bo os δ p.2).bind fun δ2 => some (p.1.o, δ2)) with
  | some r => some r
  | none => callL bo n f os δ
def cx4 (bo : Option Nat) (n : Nat) (f : FD) (os : List O) (δ : Env) (o : O) (x : Option Env) : Option (O × Env) := match (x.bind fun δ2 => some (o, δ2)) with
  | some r => some r
  | none => callL bo n f os δ
theorem e_cx {bo : Option Nat} {f : FD} : callX bo n f os δ = cx1 bo n f os δ (decide (os.length = n) && plainB bo 0 os) := id rfl
theorem e_cx1 {bo : Option Nat} {f : FD} : cx1 bo n f os δ true = cx2 bo n f os δ (derefs δ os) := id rfl
theorem e_cx2 {bo : Option Nat} {f : FD} : cx2 bo n f os δ (some ds) = cx3 bo n f os δ (f ds) := id rfl
theorem e_cx3 {bo : Option Nat} {f : FD} {r : Ret} : cx3 bo n f os δ (some (r, d)) = cx4 bo n f os δ r.o (putBack bo os δ d) := id rfl
theorem e_cx4 {bo : Option Nat} {f : FD} : cx4 bo n f os δ o (some δ1) = some (o, δ1) := id rfl
theorem e_cx5 {bo : Option Nat} {f : FD} : cx1 bo n f os δ false = callL bo n f os δ := id rfl
def cz1 (bo : Option Nat) (f : FD) (os : List O) (δ : Env) (x : Bool) : Option (O × Env) := if x = true then
  (derefs δ os).bind fun ds => (f ds).bind fun p => if (flatR p.1 && (flatT p.2)) = true then (putBack bo os δ p.2).bind fun δ2 => some (p.1.o, δ2) else none else none
def cz2 (bo : Option Nat) (f : FD) (os : List O) (δ : Env) (x : Option (List D)) : Option (O × Env) := x.bind fun ds => (f ds).bind fun p => if (flatR p.1 && (flatT p.2)) = true then (putBack bo os δ p.2).bind fun δ2 => some (p.1.o, δ2) else none
def cz3 (bo : Option Nat) (os : List O) (δ : Env) (x : Option (Ret × D)) : Option (O × Env) := x.bind fun p => if (flatR p.1 && (flatT p.2)) = true then (putBack bo os δ p.2).bind fun δ2 => some (p.1.o, δ2) else none
def cz4 (o : O) (x : Option Env) (y : Bool) : Option (O × Env) := if y = true then x.bind fun δ2 => some (o, δ2) else none
theorem e_cz {bo : Option Nat} {f : FD} : callL bo n f os δ = cz1 bo f os δ (decide (os.length = n) && lendB bo os) := id rfl
theorem e_cz1 {bo : Option Nat} {f : FD} : cz1 bo f os δ true = cz2 bo f os δ (derefs δ os) := id rfl
theorem e_cz2 {bo : Option Nat} {f : FD} : cz2 bo f os δ (some ds) = cz3 bo os δ (f ds) := id rfl
theorem e_cz3 {bo : Option Nat} {r : Ret} : cz3 bo os δ (some (r, d)) = cz4 r.o (putBack bo os δ d) (flatR r && flatT d) := id rfl
theorem e_cz4 : cz4 o (some δ) true = some (o, δ) := id rfl
theorem e_ro1 : (Ret.dat d).o = .dat d := id rfl
theorem e_ro2 : (Ret.fre d).o = .fre d := id rfl
theorem e_pl1 {bo : Option Nat} : plainB bo i [] = true := id rfl
theorem e_pl2 {bo : Option Nat} : plainB bo i (.dat d :: os) = plainB bo (i + 1) os := id rfl
theorem e_pl3 {bo : Option Nat} : plainB bo i (.own j :: os) = (decide (bo = some i) && plainB bo (i + 1) os) := id rfl
theorem e_pl4 {bo : Option Nat} : plainB bo i (.fre d :: os) = (decide (bo = some i) && plainB bo (i + 1) os) := id rfl
theorem e_ld0 : lendB none os = true := id rfl
theorem e_ld1 : lendB (some 0) (.own j :: os) = lendB.lendN 0 j 1 os := by
  simp [lendB, lendB.lendN]
theorem e_ld2 : lendB.lendN i j n [] = true := id rfl
theorem e_ld3 : lendB.lendN i j n (.dat d :: os) = lendB.lendN i j (n + 1) os := id rfl
theorem e_ld4 : lendB.lendN i j n (.fre d :: os) = lendB.lendN i j (n + 1) os := id rfl
theorem e_ld5 {l : Nat} : lendB.lendN i j n (.own l :: os) = ((decide (n = i) || decide (l ≠ j)) && lendB.lendN i j (n + 1) os) := id rfl
def pb1 (j : Nat) (δ : Env) (m : D) : Option Sl → Option Env
  | some (.own _) => some (δ.set j (.own m))
  | some (.brw _) => some (δ.set j (.brw m))
  | _ => none
theorem e_pb0 : putBack none os δ d = some δ := id rfl
theorem e_pb1 : putBack (some 0) (.own j :: os) δ d = pb1 j δ d δ[j]? := by
  simp only [putBack, List.getElem?_cons_zero]
  generalize δ[j]? = x
  cases x with
  | none => rfl
  | some s => cases s <;> rfl
theorem e_pb2 : pb1 j δ d (some (.own d1)) = some (δ.set j (.own d)) := id rfl
theorem e_pb3 : pb1 j δ d (some (.brw d1)) = some (δ.set j (.brw d)) := id rfl
/-! statements -/
def sq1 (g : MS) (x : Option Fl) : Option Fl := x.bind fun fl => match fl with
  | .nx δ' => g δ'
  | fl => some fl
theorem e_sq {f g : MS} : seqS f g δ = sq1 g (f δ) := id rfl
theorem e_sq1 {g : MS} : sq1 g (some (.nx δ)) = g δ := id rfl
theorem e_sq2 {g : MS} : sq1 g (some (.rt o δ)) = some (.rt o δ) := id rfl
theorem e_sq3 {g : MS} : sq1 g (some (.bk δ)) = some (.bk δ) := id rfl
theorem e_sq4 {g : MS} : sq1 g (some (.ct δ)) = some (.ct δ) := id rfl
theorem e_nx : nextS δ = some (.nx δ) := id rfl
def rt1 (x : Option (O × Env)) : Option Fl := x.bind fun p => some (.rt p.1 p.2)
theorem e_rt {f : ME} : retS f δ = rt1 (f δ) := id rfl
theorem e_rt1 : rt1 (some (o, δ)) = some (.rt o δ) := id rfl
def dp1 (x : Option (O × Env)) : Option Fl := x.bind fun p => some (.nx p.2)
theorem e_dp {f : ME} : dropS f δ = dp1 (f δ) := id rfl
theorem e_dp1 : dp1 (some (o, δ)) = some (.nx δ) := id rfl
def is1 (f g : MS) (x : Option (Bool × Env)) : Option Fl := x.bind fun p => if p.1 = true then f p.2 else g p.2
theorem e_is {c : MT} {f g : MS} : ifS c f g δ = is1 f g (c δ) := id rfl
theorem e_is1 {f g : MS} : is1 f g (some (true, δ)) = f δ := id rfl
theorem e_is2 {f g : MS} : is1 f g (some (false, δ)) = g δ := id rfl
def as1 (i : Nat) (x : Option (O × Env)) : Option Fl := x.bind fun p => match p.1 with
  | .dat d => some (.nx (p.2.set i (.val d)))
  | .fre d => some (.nx (p.2.set i (.own d)))
  | .own j => (solid (.own j) p.2).bind fun q => some (.nx (q.2.set i (.val q.1)))
def as2 (i : Nat) (x : Option (D × Env)) : Option Fl := x.bind fun q => some (.nx (q.2.set i (.val q.1)))
theorem e_as {f : ME} : asgS i f δ = as1 i (f δ) := id rfl
theorem e_as1 : as1 i (some (.dat d, δ)) = some (.nx (δ.set i (.val d))) := id rfl
theorem e_as2 : as1 i (some (.fre d, δ)) = some (.nx (δ.set i (.own d))) := id rfl
theorem e_as3 : as1 i (some (.own j, δ)) = as2 i (sol2 j δ δ[j]?) := by rw [← solid_own]; rfl
theorem e_as4 : as2 i (some (d, δ)) = some (.nx (δ.set i (.val d))) := id rfl
def ls_ (fo fi : ME) (x : Option (D × Env)) : Option Fl := x.bind fun p => (fo p.2).bind fun q => (fi q.2).bind fun r => match q.1, r.1 with
  | .own i, .dat (.int k) => match r.2[i]? with
    | some (.own (.lst xs)) => (ixN xs.length k).bind fun j => some (.nx (r.2.set i (.own (.lst (xs.set j p.1)))))
    | some (.brw (.lst xs)) => (ixN xs.length k).bind fun j => some (.nx (r.2.set i (.brw (.lst (xs.set j p.1)))))
    | _ => none
  | _, _ => none
def st2 (fi : ME) (d : D) (x : Option (O × Env)) : Option Fl := x.bind fun q => (fi q.2).bind fun r => match q.1, r.1 with
  | .own i, .dat (.int k) => match r.2[i]? with
    | some (.own (.lst xs)) => (ixN xs.length k).bind fun j => some (.nx (r.2.set i (.own (.lst (xs.set j d)))))
    | some (.brw (.lst xs)) => (ixN xs.length k).bind fun j => some (.nx (r.2.set i (.brw (.lst (xs.set j d)))))
    | _ => none
  | _, _ => none
def st4 (d : D) (i : Nat) (k : Int) (δ : Env) : Option Sl → Option Fl
  | some (.own (.lst xs)) => (ixN xs.length k).bind fun j => some (.nx (δ.set i (.own (.lst (xs.set j d)))))
  | some (.brw (.lst xs)) => (ixN xs.length k).bind fun j => some (.nx (δ.set i (.brw (.lst (xs.set j d)))))
  | _ => none
def st3 (d : D) (o : O) (x : Option (O × Env)) : Option Fl := x.bind fun r => match o, r.1 with
  | .own i, .dat (.int k) => st4 d i k r.2 r.2[i]?
  | _, _ => none
def st5 (sl : D → Sl) (d : D) (i : Nat) (xs : List D) (δ : Env) (x : Option Nat) : Option Fl := x.bind fun j => some (.nx (δ.set i (sl (.lst (xs.set j d)))))
theorem e_st {fe : MD} {fo fi : ME} : setL fe fo fi δ = ls_ fo fi (fe δ) := id rfl
theorem e_st1 {fo fi : ME} : ls_ fo fi (some (d, δ)) = st2 fi d (fo δ) := id rfl
theorem e_st2 {fi : ME} : st2 fi d (some (o, δ)) = st3 d o (fi δ) := by
  unfold st2 st3
  show (fi δ).bind _ = (fi δ).bind _
  cases fi δ with
  | none => rfl
  | some r =>
    show (match o, r.1 with | .own i, .dat (.int k) => _ | _, _ => _) = (match o, r.1 with | .own i, .dat (.int k) => _ | _, _ => _)
    cases o with
    | own i =>
      cases r.1 with
      | dat d =>
        cases d with
        | int k =>
          show (match r.2[i]? with | some (.own (.lst xs)) => _ | some (.brw (.lst xs)) => _ | _ => _) = st4 _ _ _ _ r.2[i]?
          unfold st4
          cases r.2[i]? with
          | none => rfl
          | some s => cases s with
            | own d => cases d <;> rfl
            | brw d => cases d <;> rfl
            | _ => rfl
        | _ => rfl
      | _ => rfl
    | _ => rfl
theorem e_st3 {k : Int} : st3 d (.own i) (some (.dat (.int k), δ)) = st4 d i k δ δ[i]? := id rfl
theorem e_st4 {k : Int} {xs : List D} : st4 d i k δ (some (.own (.lst xs))) = st5 .own d i xs δ (ixN xs.length k) := id rfl
theorem e_st5 {k : Int} {xs : List D} : st4 d i k δ (some (.brw (.lst xs))) = st5 .brw d i xs δ (ixN xs.length k) := id rfl
theorem e_st6 {sl : D → Sl} {xs : List D} : st5 sl d i xs δ (some j) = some (.nx (δ.set i (sl (.lst (xs.set j d))))) := id rfl
def up1 (n : Nat) (is : List Nat) (x : Option (List O × Env)) : Option Fl := x.bind fun p => if (decide (p.1.length = n) && decide (n ≤ sizeLine)) = true then (setAll is p.1 p.2).bind fun δ' => some (.nx δ') else none
def up2 (x : Option Env) : Option Fl := x.bind fun δ' => some (.nx δ')
theorem e_up {is : List Nat} {fa : MA} : unpS n is fa δ = up1 n is (fa δ) := id rfl
theorem e_up1 {is : List Nat} (h : os.length = n) (h2 : n ≤ 100000) : up1 n is (some (os, δ)) = up2 (setAll is os δ) := by
  show (if _ then _ else _) = _
  rw [if_pos (by simp [h, szl h2])]; rfl
theorem e_up2 : up2 (some δ) = some (.nx δ) := id rfl
def pr1 (n : Nat) (is : List Nat) (x : Option (List O × Env)) : Option Fl := x.bind fun p => if p.1.length = n then (setAll is p.1 p.2).bind fun δ' => some (.nx δ') else none
theorem e_pr {fa : MA} : parS i j fa δ = pr1 2 [i, j] (fa δ) := id rfl
theorem e_pr3 {fa : MA} : par3S i j n fa δ = pr1 3 [i, j, n] (fa δ) := id rfl
theorem e_pr1 {is : List Nat} (h : os.length = n) : pr1 n is (some (os, δ)) = up2 (setAll is os δ) := by
  show (if _ then _ else _) = _
  rw [if_pos h]; rfl
def sa1 (is : List Nat) (os : List O) (i : Nat) (δ : Env) (x : Option Sl) : Option Env := x.bind fun s => setAll is os (δ.set i s)
theorem e_sa0 : setAll [] [] δ = some δ := id rfl
theorem e_sa1 {is : List Nat} : setAll (i :: is) (.dat d :: os) δ = setAll is os (δ.set i (.val d)) := id rfl
theorem e_sa2 {is : List Nat} : setAll (i :: is) (.fre d :: os) δ = setAll is os (δ.set i (.own d)) := id rfl
def lt1 (g : MG) (x : Option (D × Env)) : Option Fl := x.bind fun p => (g p.1 p.2).bind fun δ' => some (.nx δ')
theorem e_lt {f : MD} {g : MG} : letS f g δ = lt1 g (f δ) := id rfl
theorem e_lt1 {g : MG} : lt1 g (some (d, δ)) = up2 (g d δ) := id rfl
theorem e_ng : nameG i d δ = some (δ.set i (.val d)) := id rfl
theorem e_tg {fs : List D → Env → Option Env} (h : ds.length = n) : tupG n fs (.tup ds) δ = fs ds δ := if_pos h
def cg1 (g : List D → Env → Option Env) (r : List D) (x : Option Env) : Option Env := x.bind fun δ1 => g r δ1
theorem e_gn : nilG [] δ = some δ := id rfl
theorem e_gc {f : MG} {g : List D → Env → Option Env} : consG f g (d :: ds) δ = cg1 g ds (f d δ) := id rfl
theorem e_gc1 {g : List D → Env → Option Env} : cg1 g ds (some δ) = g ds δ := id rfl
/-! loops -/
def fr1 (g : MG) (b : MS) (x : Option (List D × Env)) : Option Fl := x.bind fun p => loopL g b p.1 p.2
theorem e_fr {fi : MI} {g : MG} {b : MS} : forS fi g b δ = fr1 g b (fi δ) := id rfl
theorem e_fr1 {g : MG} {b : MS} : fr1 g b (some (ds, δ)) = loopL g b ds δ := id rfl
theorem e_lp0 {g : MG} {b : MS} : loopL g b [] δ = some (.nx δ) := id rfl
def lp1 (g : MG) (b : MS) (r : List D) (x : Option Env) : Option Fl := x.bind fun δ1 => (b δ1).bind fun fl => match fl with
    | .nx δ2 => loopL g b r δ2
    | .ct δ2 => loopL g b r δ2
    | .bk δ2 => some (.nx δ2)
    | .rt o δ2 => some (.rt o δ2)
def lp2 (g : MG) (b : MS) (r : List D) (x : Option Fl) : Option Fl := x.bind fun fl => match fl with
    | .nx δ2 => loopL g b r δ2
    | .ct δ2 => loopL g b r δ2
    | .bk δ2 => some (.nx δ2)
    | .rt o δ2 => some (.rt o δ2)
theorem e_lpc {g : MG} {b : MS} : loopL g b (d :: ds) δ = lp1 g b ds (g d δ) := id rfl
theorem e_lp1 {g : MG} {b : MS} : lp1 g b ds (some δ) = lp2 g b ds (b δ) := id rfl
theorem e_lp2 {g : MG} {b : MS} : lp2 g b ds (some (.nx δ)) = loopL g b ds δ := id rfl
theorem e_lp3 {g : MG} {b : MS} : lp2 g b ds (some (.ct δ)) = loopL g b ds δ := id rfl
theorem e_lp4 {g : MG} {b : MS} : lp2 g b ds (some (.bk δ)) = some (.nx δ) := id rfl
theorem e_lp5 {g : MG} {b : MS} : lp2 g b ds (some (.rt o δ)) = some (.rt o δ) := id rfl
def wh1 (c : MT) (b : MS) (n : Nat) (x : Option (Bool × Env)) : Option Fl := x.bind fun p => if p.1 = true then (b p.2).bind fun fl => match fl with
    | .nx δ2 => whileL c b n δ2
    | .ct δ2 => whileL c b n δ2
    | .bk δ2 => some (.nx δ2)
    | .rt o δ2 => some (.rt o δ2)
    else some (.nx p.2)
def wh2 (c : MT) (b : MS) (n : Nat) (x : Option Fl) : Option Fl := x.bind fun fl => match fl with
    | .nx δ2 => whileL c b n δ2
    | .ct δ2 => whileL c b n δ2
    | .bk δ2 => some (.nx δ2)
    | .rt o δ2 => some (.rt o δ2)
theorem e_wh {c : MT} {b : MS} : whileL c b (n + 1) δ = wh1 c b n (c δ) := id rfl
theorem e_wh1 {c : MT} {b : MS} : wh1 c b n (some (true, δ)) = wh2 c b n (b δ) := id rfl
theorem e_wh2 {c : MT} {b : MS} : wh1 c b n (some (false, δ)) = some (.nx δ) := id rfl
theorem e_wh3 {c : MT} {b : MS} : wh2 c b n (some (.nx δ)) = whileL c b n δ := id rfl
theorem e_wh4 {c : MT} {b : MS} : wh2 c b n (some (.rt o δ)) = some (.rt o δ) := id rfl
theorem e_wh5 {c : MT} {b : MS} : wh2 c b n (some (.bk δ)) = some (.nx δ) := id rfl
def sq_ (x : Option (D × Env)) : Option (List D × Env) := x.bind fun p => (itemsOf p.1).bind fun ds => some (ds, p.2)
theorem e_si {f : MD} : seqI f δ = sq_ (f δ) := id rfl
theorem e_si1 : sq_ (some (.lst ds, δ)) = some (ds, δ) := id rfl
theorem e_si2 : sq_ (some (.ro ds, δ)) = some (ds, δ) := id rfl
theorem e_si3 : sq_ (some (.tup ds, δ)) = some (ds, δ) := id rfl
def r11 (x : Option (List O × Env)) : Option (List D × Env) := x.bind fun p => match p.1 with
  | [.dat (.int j)] => if (decide (-(2 ^ 62) ≤ j) && decide (j < 2 ^ 62)) = true then some (rangeD 0 j.toNat, p.2) else none
  | _ => none
theorem e_r1 {fa : MA} : rng1 fa δ = r11 (fa δ) := id rfl
theorem e_r11 {k : Int} (h : -100000 ≤ k ∧ k ≤ 100000) : r11 (some ([.dat (.int k)], δ)) = some (rangeD 0 k.toNat, δ) := by
  show (if _ then _ else _) = _
  rw [if_pos (by rw [Bool.and_eq_true, decide_eq_true_eq, decide_eq_true_eq]; omega)]
def r21 (x : Option (List O × Env)) : Option (List D × Env) := x.bind fun p => match p.1 with
  | [.dat (.int i), .dat (.int j)] => if (decide (-(2 ^ 62) ≤ i) && decide (i < 2 ^ 62) && (decide (-(2 ^ 62) ≤ j) && decide (j < 2 ^ 62))) = true then some (rangeD i (j - i).toNat, p.2) else none
  | _ => none
theorem e_r2 {fa : MA} : rng2 fa δ = r21 (fa δ) := id rfl
theorem e_r21 {k l : Int} (h : -100000 ≤ k ∧ k ≤ 100000) (h2 : -100000 ≤ l ∧ l ≤ 100000) : r21 (some ([.dat (.int k), .dat (.int l)], δ)) = some (rangeD k (l - k).toNat, δ) := by
  show (if _ then _ else _) = _
  rw [if_pos (by simp only [Bool.and_eq_true, decide_eq_true_eq]; omega)]
def en1 (x : Option (List D × Env)) : Option (List D × Env) := x.bind fun p => match p.1 with
  | [.lst ds] => some (enumD 0 ds, p.2)
  | _ => none
theorem e_en {fa : MAD} : enumI fa δ = en1 (fa δ) := id rfl
theorem e_en1 : en1 (some ([.lst ds], δ)) = some (enumD 0 ds, δ) := id rfl
/-! comprehensions -/
def lc1 (g : MG) (t : MT) (e : MD) (vs : List Nat) (x : Option (List D × Env)) : Option (O × Env) := x.bind fun p => if noOwn p.2 vs = true then (lcL g t e vs p.1 [] (wipeE p.2 vs)).bind fun q => some (.fre (.lst q.1), restE p.2 q.2 vs) else none
def lc2 (g : MG) (t : MT) (e : MD) (vs : List Nat) (ds : List D) (δ : Env) (x : Bool) : Option (O × Env) := if x = true then (lcL g t e vs ds [] (wipeE δ vs)).bind fun q => some (.fre (.lst q.1), restE δ q.2 vs) else none
def lc3 (δ : Env) (vs : List Nat) (x : Option (List D × Env)) : Option (O × Env) := x.bind fun q => some (.fre (.lst q.1), restE δ q.2 vs)
theorem e_lc {fi : MI} {g : MG} {t : MT} {e : MD} {vs : List Nat} : lcE fi g t e vs δ = lc1 g t e vs (fi δ) := id rfl
theorem e_lc1 {g : MG} {t : MT} {e : MD} {vs : List Nat} : lc1 g t e vs (some (ds, δ)) = lc2 g t e vs ds δ (noOwn δ vs) := id rfl
theorem e_lc2 {g : MG} {t : MT} {e : MD} {vs : List Nat} : lc2 g t e vs ds δ true = lc3 δ vs (lcL g t e vs ds [] (wipeE δ vs)) := id rfl
theorem e_lc3 {vs : List Nat} : lc3 δ vs (some (ds, δ1)) = some (.fre (.lst ds), restE δ δ1 vs) := id rfl
def lcn1 (g : MG) (t : MT) (e : MD) (vs : List Nat) (r acc : List D) (x : Option Env) : Option (List D × Env) := x.bind fun δ2 => (t δ2).bind fun p => if p.1 = true then (e p.2).bind fun q => if acc.length < sizeLine then lcL g t e vs r (acc ++ [q.1]) (wipeE q.2 vs) else none
    else lcL g t e vs r acc (wipeE p.2 vs)
def lcn2 (g : MG) (t : MT) (e : MD) (vs : List Nat) (r acc : List D) (x : Option (Bool × Env)) : Option (List D × Env) := x.bind fun p => if p.1 = true then (e p.2).bind fun q => if acc.length < sizeLine then lcL g t e vs r (acc ++ [q.1]) (wipeE q.2 vs) else none
    else lcL g t e vs r acc (wipeE p.2 vs)
def lcn3 (g : MG) (t : MT) (e : MD) (vs : List Nat) (r acc : List D) (x : Option (D × Env)) : Option (List D × Env) := x.bind fun q => if acc.length < sizeLine then lcL g t e vs r (acc ++ [q.1]) (wipeE q.2 vs) else none
theorem e_lcl {g : MG} {t : MT} {e : MD} {vs : List Nat} {acc : List D} : lcL g t e vs (d :: ds) acc δ = lcn1 g t e vs ds acc (g d δ) := id rfl
theorem e_lcn1 {g : MG} {t : MT} {e : MD} {vs : List Nat} {acc : List D} : lcn1 g t e vs ds acc (some δ) = lcn2 g t e vs ds acc (t δ) := id rfl
theorem e_lcn2 {g : MG} {t : MT} {e : MD} {vs : List Nat} {acc : List D} : lcn2 g t e vs ds acc (some (true, δ)) = lcn3 g t e vs ds acc (e δ) := id rfl
theorem e_lcn3 {g : MG} {t : MT} {e : MD} {vs : List Nat} {acc : List D} : lcn2 g t e vs ds acc (some (false, δ)) = lcL g t e vs ds acc (wipeE δ vs) := id rfl
theorem e_lcn4 {g : MG} {t : MT} {e : MD} {vs : List Nat} {acc : List D} (h : acc.length ≤ 100000) : lcn3 g t e vs ds acc (some (d, δ)) = lcL g t e vs ds (acc ++ [d]) (wipeE δ vs) := if_pos (Nat.lt_of_le_of_lt h (by decide))
theorem e_lcl0 {g : MG} {t : MT} {e : MD} {vs : List Nat} {acc : List D} : lcL g t e vs [] acc δ = some (acc, δ) := id rfl
theorem e_ye : yesT δ = some (true, δ) := id rfl
theorem e_wi0 : wipeE δ [] = δ := id rfl
theorem e_wi1 {vs : List Nat} : wipeE δ (i :: vs) = (wipeE δ vs).set i .un := id rfl
theorem e_re0 : restE δ1 δ [] = δ := id rfl
theorem e_re1 {vs : List Nat} : restE δ1 δ (i :: vs) = (restE δ1 δ vs).set i (δ1.getD i .un) := id rfl
theorem e_no0 : noOwn δ [] = true := id rfl
theorem e_no1 {vs : List Nat} : noOwn δ (i :: vs) = (!(δ.getD i .un).own? && noOwn δ vs) := id rfl
theorem e_ow1 : Sl.own? .un = false := id rfl
theorem e_ow2 : Sl.own? (.val d) = false := id rfl
/-- the items of a comprehension, each by its own value, the slots kept -/
theorem lcL_all {i : Nat} {t : MT} {e : MD} {α : Type} (δ0 : Env) (inj : α → D) (ok : α → Bool) (out : α → D) : ∀ (xs : List α) (acc : List D), acc.length + xs.length ≤ 100000 →
    (∀ x ∈ xs, t (δ0.set i (.val (inj x))) = some (ok x, δ0.set i (.val (inj x)))) → (∀ x ∈ xs, ok x = true → e (δ0.set i (.val (inj x))) = some (out x, δ0.set i (.val (inj x)))) →
    lcL (nameG i) t e [i] (xs.map inj) acc (δ0.set i .un) = some (acc ++ (xs.filter ok).map out, δ0.set i .un)
  | [], acc, _, _, _ => by simp [lcL]
  | x :: xs, acc, hl, ht, he => by
    have h1 := ht x (List.mem_cons_self ..)
    rw [List.length_cons] at hl
    show ((nameG i (inj x) (δ0.set i .un)).bind _) = _
    simp only [e_ng, Option.bind_some, List.set_set]
    rw [h1]
    simp only [Option.bind_some]
    cases hk : ok x with
    | true =>
      have h2 := he x (List.mem_cons_self ..) hk
      simp only [if_true]
      rw [h2]
      simp only [Option.bind_some]
      rw [if_pos (Nat.lt_of_lt_of_le (by omega : acc.length < 100001) (by decide))]
      show lcL _ _ _ _ _ _ (wipeE _ [i]) = _
      simp only [wipeE, List.set_set]
      rw [lcL_all δ0 inj ok out xs _ (by simp; omega) (fun y hy => ht y (List.mem_cons_of_mem _ hy)) (fun y hy => he y (List.mem_cons_of_mem _ hy))]
      simp [hk]
    | false =>
      simp only [if_false, Bool.false_eq_true]
      show lcL _ _ _ _ _ _ (wipeE _ [i]) = _
      simp only [wipeE, List.set_set]
      rw [lcL_all δ0 inj ok out xs acc (by omega) (fun y hy => ht y (List.mem_cons_of_mem _ hy)) (fun y hy => he y (List.mem_cons_of_mem _ hy))]
      simp [hk]
/-! defs -/
def df1 (bo : Option Nat) (x : Option Fl) : Option (Ret × D) := x.bind fun fl => match fl with
  | .nx δ => (outOf bo δ).bind fun m => some (.dat .non, m)
  | .rt o δ => (resOf o δ).bind fun r => (outOf bo δ).bind fun m => some (r, m)
  | _ => none
def df2 (x : Option Ret) (y : Option D) : Option (Ret × D) := x.bind fun r => y.bind fun m => some (r, m)
theorem e_df {bo : Option Nat} {body : MS} (h : (bo.all fun i => decide (i < ds.length)) = true) : defF bo n body ds = df1 bo (body (entry bo ds n)) := if_pos h
theorem e_df1 {bo : Option Nat} : df1 bo (some (.nx δ)) = df2 (some (.dat .non)) (outOf bo δ) := id rfl
theorem e_df2 {bo : Option Nat} : df1 bo (some (.rt o δ)) = df2 (resOf o δ) (outOf bo δ) := id rfl
theorem e_df3 {r : Ret} : df2 (some r) (some d) = some (r, d) := id rfl
def rs1 : Option Sl → Option Ret
  | some (.own d) => some (.fre d)
  | some (.val d) => some (.dat d)
  | _ => none
theorem e_rs1 : resOf (.dat d) δ = some (.dat d) := id rfl
theorem e_rs2 : resOf (.fre d) δ = some (.fre d) := id rfl
theorem e_rs3 : resOf (.own i) δ = rs1 δ[i]? := by
  simp only [resOf]
  generalize δ[i]? = x
  cases x with
  | none => rfl
  | some s => cases s <;> rfl
theorem e_rs4 : rs1 (some (.own d)) = some (.fre d) := id rfl
theorem e_rs5 : rs1 (some (.val d)) = some (.dat d) := id rfl
def ou1 : Option Sl → Option D
  | some (.brw d) => some d
  | _ => none
theorem e_ou : outOf none δ = some .non := id rfl
theorem e_ou1 : outOf (some i) δ = ou1 δ[i]? := by
  simp only [outOf]
  generalize δ[i]? = x
  cases x with
  | none => rfl
  | some s => cases s <;> rfl
theorem e_ou2 : ou1 (some (.brw d)) = some d := id rfl
/-! mutation -/
def mu1 (ty : D → Bool) (g : D → List D → Option (D × D)) (fa : MAD) (x : Option (O × Env)) : Option (O × Env) := x.bind fun p => (deref p.2 p.1).bind fun d0 => if ty d0 = true then (fa p.2).bind fun q => match p.1 with
  | .own i => match q.2[i]? with
    | some (.own d) => (g d q.1).bind fun x => some (.dat x.2, q.2.set i (.own x.1))
    | some (.brw d) => (g d q.1).bind fun x => some (.dat x.2, q.2.set i (.brw x.1))
    | _ => none
  | _ => none
  else none
theorem e_mu {ty : D → Bool} {g : D → List D → Option (D × D)} {fo : ME} {fa : MAD} : mutE ty g fo fa δ = mu1 ty g fa (fo δ) := id rfl
def mu3 (g : D → List D → Option (D × D)) (i : Nat) (ds : List D) (δ : Env) : Option Sl → Option (O × Env)
  | some (.own d) => (g d ds).bind fun x => some (.dat x.2, δ.set i (.own x.1))
  | some (.brw d) => (g d ds).bind fun x => some (.dat x.2, δ.set i (.brw x.1))
  | _ => none
def mu2 (g : D → List D → Option (D × D)) (i : Nat) (x : Option (List D × Env)) : Option (O × Env) := x.bind fun q => mu3 g i q.1 q.2 q.2[i]?
def mu5 (ty : D → Bool) (g : D → List D → Option (D × D)) (fa : MAD) (i : Nat) (δ : Env) (x : Option D) : Option (O × Env) := x.bind fun d0 => if ty d0 = true then mu2 g i (fa δ) else none
theorem e_mu1 {ty : D → Bool} {g : D → List D → Option (D × D)} {fa : MAD} : mu1 ty g fa (some (.own i, δ)) = mu5 ty g fa i δ (deref δ (.own i)) := by
  unfold mu1 mu5
  show ((deref δ (.own i)).bind fun d0 => if ty d0 = true then (fa δ).bind fun q => _ else none) = _
  congr
theorem e_mu6 {g : D → List D → Option (D × D)} {fa : MAD} {xs : List D} : mu5 isLst g fa i δ (some (.lst xs)) = mu2 g i (fa δ) := id rfl
theorem e_mu2 {g : D → List D → Option (D × D)} : mu2 g i (some (ds, δ)) = mu3 g i ds δ δ[i]? := id rfl
def mu4 (sl : D → Sl) (i : Nat) (δ : Env) (x : Option (D × D)) : Option (O × Env) := x.bind fun x => some (.dat x.2, δ.set i (sl x.1))
theorem e_mu3 {g : D → List D → Option (D × D)} : mu3 g i ds δ (some (.own d)) = mu4 .own i δ (g d ds) := id rfl
theorem e_mu4 {g : D → List D → Option (D × D)} : mu3 g i ds δ (some (.brw d)) = mu4 .brw i δ (g d ds) := id rfl
theorem e_mu5 {sl : D → Sl} : mu4 sl i δ (some (d1, d2)) = some (.dat d2, δ.set i (sl d1)) := id rfl
end
/-! ### on data -/
section
variable {i j : Int} {xs ys : List D}
theorem g_addI : addG (.int i) (.int j) = some (.dat (.int (i + j))) := id rfl
theorem g_addL (h : xs.length + ys.length ≤ 100000) : addG (.lst xs) (.lst ys) = some (.fre (.lst (xs ++ ys))) := if_pos (szl h)
theorem g_sub : subG (.int i) (.int j) = some (.dat (.int (i - j))) := id rfl
theorem g_lt : ltG (.int i) (.int j) = some (.dat (.bl (decide (i < j)))) := id rfl
theorem g_le : leG (.int i) (.int j) = some (.dat (.bl (decide (i ≤ j)))) := id rfl
theorem g_gt : gtG (.int i) (.int j) = some (.dat (.bl (decide (j < i)))) := id rfl
theorem g_ge : geG (.int i) (.int j) = some (.dat (.bl (decide (j ≤ i)))) := id rfl
theorem g_mod (h : 0 < j) : modG (.int i) (.int j) = some (.dat (.int (i % j))) := if_pos (decide_eq_true h)
theorem g_div (h : 0 < j) (h2 : j < 18446744073709551616) : divG (.int i) (.int j) = some (.dat (.int (i / j))) := if_pos (by
  rw [Bool.and_eq_true, decide_eq_true_eq, decide_eq_true_eq]
  exact ⟨h, by omega⟩)
theorem g_pow {b : Nat} (h : 0 ≤ j) (hb : Builtin.Int.intBits i ≤ b) (h2 : (b : Int) * j ≤ 2 ^ 27) : powG (.int i) (.int j) = some (.dat (.int (i ^ j.toNat))) := if_pos (by
  rw [Bool.and_eq_true, decide_eq_true_eq, decide_eq_true_eq]
  exact ⟨h, Int.le_trans (Int.mul_le_mul_of_nonneg_right (by omega) h) h2⟩)
theorem g_mulI (h : smallI i = true ∨ smallI j = true) : mulG (.int i) (.int j) = some (.dat (.int (i * j))) := if_pos (by rw [Bool.or_eq_true]; exact h)
theorem g_mulL {d : D} (h : j < 100000) (h0 : 0 ≤ j) : mulG (.lst [d]) (.int j) = some (.fre (.lst (List.replicate j.toNat d))) := by
  have e : (List.replicate j.toNat [d]).flatten = List.replicate j.toNat d := by
    generalize j.toNat = n
    induction n with
    | zero => rfl
    | succ n ih => rw [List.replicate_succ, List.flatten_cons, ih]; rfl
  show (if _ then _ else _) = _
  rw [if_pos, e]
  simp only [Bool.and_eq_true, decide_eq_true_eq]
  refine ⟨⟨by omega, by omega⟩, ?_⟩
  show 1 * j.toNat ≤ sizeLine
  exact szl (by omega)
theorem g_eqI : eqG (.int i) (.int j) = some (.dat (.bl (decide (i = j)))) := by
  show some (O.dat (.bl (decide (V.int i = V.int j)))) = _
  simp
theorem g_neI : neG (.int i) (.int j) = some (.dat (.bl (!decide (i = j)))) := by
  show some (O.dat (.bl (!decide (V.int i = V.int j)))) = _
  simp
theorem g_eqB {a b : Bool} : eqG (.bl a) (.bl b) = some (.dat (.bl (decide (a = b)))) := by
  show some (O.dat (.bl (decide (V.bl a = V.bl b)))) = _
  simp
theorem g_neB {a b : Bool} : neG (.bl a) (.bl b) = some (.dat (.bl (!decide (a = b)))) := by
  show some (O.dat (.bl (!decide (V.bl a = V.bl b)))) = _
  simp
theorem g_eqS {a b : Str} : eqG (.str a) (.str b) = some (.dat (.bl (decide (a = b)))) := by
  show some (O.dat (.bl (decide (V.str a = V.str b)))) = _
  simp
theorem ixN_nat {n k : Nat} (h : k < n) : ixN n (k : Int) = some k := by
  unfold ixN
  rw [if_pos (by omega), if_pos (by omega)]; simp
theorem ixN_pos {n : Nat} (h0 : 0 ≤ i) (h : i < n) : ixN n i = some i.toNat := by
  unfold ixN
  rw [if_pos h0, if_pos h]
theorem ixN_last {n : Nat} (h : 0 < n) : ixN n (-1) = some (n - 1) := by
  unfold ixN
  rw [if_neg (by omega), if_pos (by omega)]
  exact congrArg some (by omega)
def ix1 (x : Option D) : Option O := x.bind fun d => some (.dat d)
theorem g_ixL : ixG (.lst xs) (.int i) = ix1 (L2.atI xs i) := id rfl
theorem g_ixR : ixG (.ro xs) (.int i) = ix1 (L2.atI xs i) := id rfl
theorem g_ixT : ixG (.tup xs) (.int i) = ix1 (L2.atI xs i) := id rfl
theorem g_ix1 {d : D} : ix1 (some d) = some (.dat d) := id rfl
theorem atI_pos {α : Type} {l : List α} (h0 : 0 ≤ i) (h : i < l.length) : L2.atI l i = l[i.toNat]? := by
  unfold L2.atI; rw [ixN_pos h0 h]; rfl
theorem atI_last {α : Type} {l : List α} (h : 0 < l.length) : L2.atI l (-1) = l[l.length - 1]? := by
  unfold L2.atI; rw [ixN_last h]; rfl
theorem g_lenL : lenG [.lst xs] = some (.dat (.int (xs.length : Nat))) := id rfl
theorem g_lenR : lenG [.ro xs] = some (.dat (.int (xs.length : Nat))) := id rfl
theorem g_lenT : lenG [.tup xs] = some (.dat (.int (xs.length : Nat))) := id rfl
theorem g_intI : intOfG [.int i] = some (.dat (.int i)) := id rfl
theorem g_intB {b : Bool} : intOfG [.bl b] = some (.dat (.int (if b then 1 else 0))) := id rfl
theorem g_min2 : minG [.int i, .int j] = some (.dat (.int (if j < i then j else i))) := id rfl
theorem g_max2 : maxG [.int i, .int j] = some (.dat (.int (if j > i then j else i))) := id rfl
theorem g_app (h : xs.length < 100000) {d : D} : appG (.lst xs) [d] = some (.lst (xs ++ [d]), .non) := by
  unfold appG
  simp only
  rw [if_pos (Nat.lt_of_lt_of_le h (by decide))]
theorem g_ext (h : xs.length + ys.length ≤ 100000) : extG (.lst xs) [.lst ys] = some (.lst (xs ++ ys), .non) := by
  unfold extG
  simp only
  rw [if_pos (szl h)]
theorem g_slL {u v : Option Int} : slG u v (.lst xs) = some (.fre (.lst (cutD xs u v))) := id rfl
theorem g_slT {u v : Option Int} : slG u v (.tup xs) = some (.dat (.tup (cutD xs u v))) := id rfl
theorem g_neg : negG (.int i) = some (.dat (.int (-i))) := id rfl
theorem g_atI0 {α : Type} {x : α} {l : List α} : L2.atI (x :: l) 0 = some x := by
  rw [atI_pos (Int.le_refl 0) (by simp only [List.length_cons]; omega)]; rfl
theorem g_atI1 {α : Type} {x y : α} {l : List α} : L2.atI (x :: y :: l) 1 = some y := by
  rw [atI_pos (by decide) (by simp only [List.length_cons]; omega)]; rfl
theorem g_atIl {α : Type} {x : α} {l : List α} : L2.atI (l ++ [x]) (-1) = some x := by
  rw [atI_last (by simp)]; simp
theorem g_ixN0 {n : Nat} : ixN (n + 1) 0 = some 0 := by rw [ixN_pos (Int.le_refl 0) (by omega)]; rfl
theorem g_ixN1 {n : Nat} : ixN (n + 2) 1 = some 1 := by rw [ixN_pos (by decide) (by omega)]; rfl
theorem bits_le {z : Int} {b : Nat} (h0 : 0 ≤ z) (h : z < 2 ^ b) : Builtin.Int.intBits z ≤ b := PySem.intBits_le_iff.mpr (by
  have e : ((2 ^ b : Nat) : Int) = (2 : Int) ^ b := by push_cast; rfl
  omega)
theorem g_powM3 {x m : Int} (h : 0 < m) (h2 : m < 2 ^ 32) : powG (.int (x % m)) (.int 3) = some (.dat (.int ((x % m) ^ 3))) :=
  g_pow (b := 32) (by decide) (bits_le (Int.emod_nonneg _ (by omega)) (Int.lt_trans (Int.emod_lt_of_pos _ h) h2)) (by decide)
theorem g_powM5 {x m : Int} (h : 0 < m) (h2 : m < 2 ^ 32) : powG (.int (x % m)) (.int 5) = some (.dat (.int ((x % m) ^ 5))) :=
  g_pow (b := 32) (by decide) (bits_le (Int.emod_nonneg _ (by omega)) (Int.lt_trans (Int.emod_lt_of_pos _ h) h2)) (by decide)
theorem g_mulR {x k : Int} (h : smallI k = true) : mulG (.int x) (.int k) = some (.dat (.int (x * k))) := g_mulI (.inr h)
end
end DV

/-! DV14: lists of ints and of truth values: equal, in, cut, shown. -/
namespace DV
open PySem PySem.Spec PyProof.Rows L2
def il (ns : List Int) : D := .lst (ns.map .int)
def bl (bs : List Bool) : D := .lst (bs.map .bl)
theorem toPds_int : ∀ ns : List Int, toPds (ns.map .int) = some (ns.map PyData.int)
  | [] => rfl
  | n :: ns => by
    show (toPd (.int n)).bind _ = _
    simp only [toPd, Option.bind_some, toPds_int ns, List.map_cons]
theorem toPds_bl : ∀ ns : List Bool, toPds (ns.map .bl) = some (ns.map PyData.bool)
  | [] => rfl
  | n :: ns => by
    show (toPd (.bl n)).bind _ = _
    simp only [toPd, Option.bind_some, toPds_bl ns, List.map_cons]
theorem canAll_int : ∀ ns : List Int, PyData.canLayAll0 (ns.map PyData.int) = true
  | [] => rfl
  | n :: ns => by simp only [List.map_cons, PyData.canLayAll0, PyData.canLay0, canAll_int ns, Bool.and_self]
theorem canAll_bl : ∀ ns : List Bool, PyData.canLayAll0 (ns.map PyData.bool) = true
  | [] => rfl
  | n :: ns => by simp only [List.map_cons, PyData.canLayAll0, PyData.canLay0, canAll_bl ns, Bool.and_self]
theorem dep_int : ∀ ns : List Int, PyData.depthAll (ns.map PyData.int) = 0
  | [] => rfl
  | n :: ns => by simp only [List.map_cons, PyData.depthAll, PyData.depth, dep_int ns, Nat.max_self]
theorem dep_bl : ∀ ns : List Bool, PyData.depthAll (ns.map PyData.bool) = 0
  | [] => rfl
  | n :: ns => by simp only [List.map_cons, PyData.depthAll, PyData.depth, dep_bl ns, Nat.max_self]
theorem shaped_int (ns : List Int) : SeqAt.shaped (.list (ns.map PyData.int)) = true := by
  simp [SeqAt.shaped, PyData.canLay0, canAll_int, PyData.depth, dep_int]
theorem shaped_bl (ns : List Bool) : SeqAt.shaped (.list (ns.map PyData.bool)) = true := by
  simp [SeqAt.shaped, PyData.canLay0, canAll_bl, PyData.depth, dep_bl]
theorem shaped_tint (ns : List Int) : SeqAt.shaped (.tuple (ns.map PyData.int)) = true := by
  simp [SeqAt.shaped, PyData.canLay0, canAll_int, PyData.depth, dep_int]
theorem eqvAll_int : ∀ xs ys : List Int, PyData.eqvAll (xs.map PyData.int) (ys.map PyData.int) = decide (xs = ys)
  | [], [] => by simp [PyData.eqvAll]
  | [], _ :: _ => by simp [PyData.eqvAll]
  | _ :: _, [] => by simp [PyData.eqvAll]
  | x :: xs, y :: ys => by
    rw [List.map_cons, List.map_cons, PyData.eqvAll, eqvAll_int xs ys, PyData.eqv, Bool.eq_iff_iff]
    simp
theorem eqvAll_bl : ∀ xs ys : List Bool, PyData.eqvAll (xs.map PyData.bool) (ys.map PyData.bool) = decide (xs = ys)
  | [], [] => by simp [PyData.eqvAll]
  | [], _ :: _ => by simp [PyData.eqvAll]
  | _ :: _, [] => by simp [PyData.eqvAll]
  | x :: xs, y :: ys => by
    rw [List.map_cons, List.map_cons, PyData.eqvAll, eqvAll_bl xs ys, PyData.eqv, Bool.eq_iff_iff]
    simp
theorem eqB_lst {xs ys : List D} {a b : List PyData} (h1 : toPds xs = some a) (h2 : toPds ys = some b) (s1 : SeqAt.shaped (.list a) = true) (s2 : SeqAt.shaped (.list b) = true) : eqB (.lst xs) (.lst ys) = some (PyData.eqvAll a b) := by
  unfold eqB
  simp only [toV, Option.bind_none, toPd, h1, h2, Option.bind_some, s1, s2, Bool.and_self, if_true, PyData.eqv]
theorem eqB_tup {xs ys : List D} {a b : List PyData} (h1 : toPds xs = some a) (h2 : toPds ys = some b) (s1 : SeqAt.shaped (.tuple a) = true) (s2 : SeqAt.shaped (.tuple b) = true) : eqB (.tup xs) (.tup ys) = some (PyData.eqvAll a b) := by
  unfold eqB
  simp only [toV, Option.bind_none, toPd, h1, h2, Option.bind_some, s1, s2, Bool.and_self, if_true, PyData.eqv]
theorem eqB_ints (xs ys : List Int) : eqB (.lst (xs.map .int)) (.lst (ys.map .int)) = some (decide (xs = ys)) := by
  rw [eqB_lst (toPds_int xs) (toPds_int ys) (shaped_int _) (shaped_int _), eqvAll_int]
theorem eqB_bls (xs ys : List Bool) : eqB (.lst (xs.map .bl)) (.lst (ys.map .bl)) = some (decide (xs = ys)) := by
  rw [eqB_lst (toPds_bl xs) (toPds_bl ys) (shaped_bl _) (shaped_bl _), eqvAll_bl]
theorem eqB_tints (xs ys : List Int) : eqB (.tup (xs.map .int)) (.tup (ys.map .int)) = some (decide (xs = ys)) := by
  rw [eqB_tup (toPds_int xs) (toPds_int ys) (shaped_tint _) (shaped_tint _), eqvAll_int]
theorem g_eqIs (xs ys : List Int) : eqG (.lst (xs.map .int)) (.lst (ys.map .int)) = some (.dat (.bl (decide (xs = ys)))) := by unfold eqG; rw [eqB_ints]; rfl
theorem g_neIs (xs ys : List Int) : neG (.lst (xs.map .int)) (.lst (ys.map .int)) = some (.dat (.bl (!decide (xs = ys)))) := by unfold neG; rw [eqB_ints]; rfl
theorem g_eqBs (xs ys : List Bool) : eqG (.lst (xs.map .bl)) (.lst (ys.map .bl)) = some (.dat (.bl (decide (xs = ys)))) := by unfold eqG; rw [eqB_bls]; rfl
theorem g_neBs (xs ys : List Bool) : neG (.lst (xs.map .bl)) (.lst (ys.map .bl)) = some (.dat (.bl (!decide (xs = ys)))) := by unfold neG; rw [eqB_bls]; rfl
theorem g_eqI0 (xs : List Int) : eqG (.lst (xs.map .int)) (.lst []) = some (.dat (.bl (decide (xs = [])))) := g_eqIs xs []
theorem g_neI0 (xs : List Int) : neG (.lst (xs.map .int)) (.lst []) = some (.dat (.bl (!decide (xs = [])))) := g_neIs xs []
theorem g_neT0 (xs : List Int) : neG (.tup (xs.map .int)) (.tup []) = some (.dat (.bl (!decide (xs = [])))) := by
  unfold neG
  rw [show D.tup [] = .tup (([] : List Int).map .int) from rfl, eqB_tints]; rfl
/-! in -/
theorem toVs_bl : ∀ bs : List Bool, toVs (bs.map .bl) = some (bs.map V.bl)
  | [] => rfl
  | b :: bs => by
    show (toV (.bl b)).bind _ = _
    simp only [toV, Option.bind_some, toVs_bl bs, List.map_cons]
theorem g_inB (bs : List Bool) (b : Bool) : inG false (.bl b) (.lst (bs.map .bl)) = some (.dat (.bl (bs.contains b))) := by
  have e : inV (.bl b) (bs.map V.bl) = bs.contains b := by
    unfold inV
    induction bs with
    | nil => rfl
    | cons c bs ih =>
      rw [List.map_cons, List.any_cons, ih, List.contains_cons]
      cases b <;> cases c <;> rfl
  unfold inG
  simp only [toV, Option.bind_some, itemsOf, toVs_bl, e, Bool.false_eq_true, if_false]
/-- a list of ints, with None at its end or not -/
def withNone (ns : List Int) (z : Bool) : List D := ns.map .int ++ (if z then [.non] else [])
theorem toVs_app : ∀ {xs ys : List D} {a b : List V}, toVs xs = some a → toVs ys = some b → toVs (xs ++ ys) = some (a ++ b)
  | [], ys, a, b, h1, h2 => by cases h1; exact h2
  | x :: xs, ys, a, b, h1, h2 => by
    obtain ⟨v, e1, h1⟩ := Option.bind_eq_some_iff.mp h1
    obtain ⟨vs, e2, h1⟩ := Option.bind_eq_some_iff.mp h1
    cases h1
    show ((toV x).bind fun v => (toVs (xs ++ ys)).bind fun vs => some (v :: vs)) = _
    rw [e1, toVs_app e2 h2]
    rfl
theorem toVs_int : ∀ bs : List Int, toVs (bs.map .int) = some (bs.map V.int)
  | [] => rfl
  | b :: bs => by
    show (toV (.int b)).bind _ = _
    simp only [toV, Option.bind_some, toVs_int bs, List.map_cons]
theorem g_inN (ns : List Int) (z : Bool) : inG false .non (.lst (withNone ns z)) = some (.dat (.bl z)) := by
  have e : ∀ ns : List Int, inV .non (ns.map V.int) = false := fun ns => by
    unfold inV
    induction ns with
    | nil => rfl
    | cons c bs ih => rw [List.map_cons, List.any_cons, ih]; rfl
  unfold inG withNone
  cases z with
  | true =>
    have h := toVs_app (toVs_int ns) (show toVs [.non] = some [V.non] from rfl)
    simp only [toV, Option.bind_some, itemsOf, if_true, h, Bool.false_eq_true, if_false]
    have e2 : inV .non (ns.map V.int ++ [V.non]) = true := by
      unfold inV
      rw [List.any_append]
      have : ([V.non].any fun y => eqV y .non) = true := rfl
      rw [this, Bool.or_true]
    rw [e2]
  | false =>
    have h := toVs_int ns
    simp only [toV, Option.bind_some, itemsOf, Bool.false_eq_true, if_false, List.append_nil, h, e]
/-! cut -/
theorem cut_map {α : Type} (f : α → D) (xs : List α) (i j : Nat) (hi : i ≤ xs.length) : cutD (xs.map f) (some (i : Int)) (some (j : Int)) = ((xs.drop i).take (j - i)).map f := by
  unfold cutD
  rw [HT.sIx_nat, HT.sIx_nat, List.length_map, Nat.min_eq_left hi, List.map_take, List.map_drop]
  by_cases h : j ≤ xs.length
  · rw [Nat.min_eq_left h]
  · rw [Nat.min_eq_right (by omega), List.take_of_length_le (by simp), List.take_of_length_le (by simp; omega)]
theorem cut_from {α : Type} (f : α → D) (xs : List α) (i : Nat) (hi : i ≤ xs.length) : cutD (xs.map f) (some (i : Int)) none = (xs.drop i).map f := by
  unfold cutD
  rw [HT.sIx_nat, HT.sIx_none, List.length_map, Nat.min_eq_left hi, List.map_drop, List.take_of_length_le (by simp)]
theorem cut_to {α : Type} (f : α → D) (xs : List α) (j : Nat) : cutD (xs.map f) none (some (j : Int)) = (xs.take j).map f := by
  unfold cutD
  rw [HT.sIx_none, HT.sIx_nat, List.length_map, List.drop_zero, Nat.sub_zero, List.map_take]
  by_cases h : j ≤ xs.length
  · rw [Nat.min_eq_left h]
  · rw [Nat.min_eq_right (by omega), List.take_of_length_le (by simp), List.take_of_length_le (by simp; omega)]
/-! shown -/
theorem short1000 : ∀ n : Nat, n ≤ 1000 → (PyData.shown (.int (n : Int))).length ≤ 13 := by
  have h : (List.range 1001).all (fun n => decide ((PyData.shown (.int (n : Int))).length ≤ 13)) = true := by decide +kernel
  intro n hn
  have := List.all_eq_true.mp h n (List.mem_range.mpr (by omega))
  exact of_decide_eq_true this
theorem short_int {i : Int} (h0 : 0 ≤ i) (h : i ≤ 1000) : (PyData.shown (.int i)).length ≤ 13 := by
  obtain ⟨n, rfl⟩ : ∃ n : Nat, i = (n : Int) := ⟨i.toNat, by omega⟩
  exact short1000 n (by omega)
theorem ishort : ∀ ns : List Int, (∀ n ∈ ns, 0 ≤ n ∧ n ≤ 1000) → PyData.intsShortAll 13 (ns.map PyData.int) = true
  | [], _ => rfl
  | n :: ns, h => by
    obtain ⟨h0, h1⟩ := h n (List.mem_cons_self ..)
    have e := decide_eq_true (short_int h0 h1)
    rw [List.map_cons, PyData.intsShortAll, ishort ns fun m hm => h m (List.mem_cons_of_mem _ hm), PyData.intsShort, e]
    rfl
theorem ishow : ∀ ns : List Int, (∀ n ∈ ns, 0 ≤ n ∧ n ≤ 1000) → PyData.showableAll (ns.map PyData.int) = true
  | [], _ => rfl
  | n :: ns, h => by
    obtain ⟨h0, h1⟩ := h n (List.mem_cons_self ..)
    have e : n.natAbs.log2 < 1920 := by
      have : n.natAbs.log2 ≤ n.natAbs := Nat.log2_le_self _
      omega
    rw [List.map_cons, PyData.showableAll, ishow ns fun m hm => h m (List.mem_cons_of_mem _ hm), PyData.showable, decide_eq_true e]
    rfl
theorem iweight : ∀ ns : List Int, (∀ n ∈ ns, 0 ≤ n ∧ n ≤ 1000) → PyData.weightAll (ns.map PyData.int) ≤ 1002 * ns.length
  | [], _ => Nat.le_refl _
  | n :: ns, h => by
    obtain ⟨h0, h1⟩ := h n (List.mem_cons_self ..)
    have e := iweight ns fun m hm => h m (List.mem_cons_of_mem _ hm)
    have e2 : PyData.weight (.int n) ≤ 1001 := by
      rw [PyData.weight]
      have : n.natAbs.log2 ≤ n.natAbs := Nat.log2_le_self _
      split <;> omega
    rw [List.map_cons, PyData.weightAll, List.length_cons]
    omega
theorem repr_ints (ns : List Int) (hl : ns.length ≤ 1000) (h : ∀ n ∈ ns, 0 ≤ n ∧ n ≤ 1000) : ∃ x : Str, reprG [.lst (ns.map .int)] = some (.dat (.str x)) := by
  have hlay : PyData.layable0 (.list (ns.map PyData.int)) = true := by
    simp only [PyData.layable0, PyData.canLay0, canAll_int, PyData.depth, dep_int, PyData.weight, Bool.true_and, Bool.and_eq_true, decide_eq_true_eq]
    have e := iweight ns h
    exact ⟨by decide, decide_eq_true (Nat.le_trans e (Nat.le_trans (Nat.mul_le_mul_left 1002 hl) (by decide)))⟩
  have hlen := PyProof.Rows.shown_le13 hlay (by rw [PyData.intsShort]; exact ishort ns h)
  refine ⟨PyData.shown (.list (ns.map PyData.int)), ?_⟩
  have hok : reprOk (.list (ns.map PyData.int)) = true := by
    unfold reprOk
    simp only [Bool.and_eq_true, decide_eq_true_eq, Bool.not_eq_true']
    refine ⟨⟨⟨by rw [PyData.showable]; exact ishow ns h, PyData.hasDict_of_layable hlay⟩, ?_⟩, Nat.le_trans hlen (by decide)⟩
    rw [PyData.depth, dep_int]; decide
  unfold reprG
  simp only [toPd, toPds_int, Option.bind_some, hok, if_true]
/-! sorted sets, least numbers -/
def ss1 (x : Option (O × Env)) : Option (O × Env) := x.bind fun p => (deref p.2 p.1).bind fun d => ((lstOf d).bind intsOf).bind fun ns => if ns.length < 64 then some (.fre (.lst ((sortSetI ns).map .int)), p.2) else none
def ssG (d : D) : Option O := ((lstOf d).bind intsOf).bind fun ns => if ns.length < 64 then some (.fre (.lst ((sortSetI ns).map .int))) else none
theorem h_ss {f : ME} {δ : Env} : sortSetE f δ = ss1 (f δ) := id rfl
theorem h_ss1 {o : O} {δ : Env} : ss1 (some (o, δ)) = un2 ssG δ (deref δ o) := by
  show ((deref δ o).bind fun d => ((lstOf d).bind intsOf).bind fun ns => if ns.length < 64 then some (O.fre (.lst ((sortSetI ns).map .int)), δ) else none) = (deref δ o).bind fun d => (((lstOf d).bind intsOf).bind fun ns => if ns.length < 64 then some (O.fre (.lst ((sortSetI ns).map .int))) else none).bind fun o => some (o, δ)
  congr
  funext d
  cases (lstOf d).bind intsOf with
  | none => rfl
  | some ns =>
    show (if _ then _ else _) = Option.bind (if _ then _ else _) _
    split <;> rfl
theorem h_ssG {ns : List Int} (h : ns.length < 64) : ssG (.lst (ns.map .int)) = some (.fre (.lst ((sortSetI ns).map .int))) := by
  unfold ssG
  simp only [lstOf, Option.bind_some, intsOf_map, h, if_true]
theorem mem_sortSet {k : Int} {ns : List Int} : k ∈ sortSetI ns ↔ k ∈ ns := by
  unfold sortSetI
  rw [(srtI_perm _).mem_iff, dedI_mem]
theorem h_min {m : Int} {r : List Int} : minG [.lst ((m :: r).map .int)] = some (.dat (.int (minL m r))) := by
  show (((lstOf (.lst ((m :: r).map .int))).bind intsOf).bind fun ns => match ns with | m :: r => some (O.dat (.int (minL m r))) | [] => none) = _
  simp only [lstOf, Option.bind_some, intsOf_map]
theorem h_tup {ds : List D} : tupOfG [.lst ds] = some (.dat (.tup ds)) := id rfl
theorem h_lst {ds : List D} : lstOfG [.lst ds] = some (.fre (.lst ds)) := id rfl
theorem flat_ints : ∀ ns : List Int, flatDs (ns.map .int) = true
  | [] => rfl
  | n :: ns => by rw [List.map_cons]; unfold flatDs; rw [flat_ints ns]; rfl
theorem flat_bls : ∀ ns : List Bool, flatDs (ns.map .bl) = true
  | [] => rfl
  | n :: ns => by rw [List.map_cons]; unfold flatDs; rw [flat_bls ns]; rfl
theorem h_flT {ns : List Int} : flatR (.dat (.tup (ns.map .int))) = true := flat_ints ns
theorem h_flL {ns : List Int} : flatR (.fre (.lst (ns.map .int))) = true := flat_ints ns
theorem h_flB {ns : List Bool} : flatR (.fre (.lst (ns.map .bl))) = true := flat_bls ns
theorem h_flb {b : Bool} : flatR (.dat (.bl b)) = true := id rfl
theorem h_fli {b : Int} : flatR (.dat (.int b)) = true := id rfl
theorem h_fln : flatR (.dat .non) = true := id rfl
theorem h_flN : flatT .non = true := id rfl
theorem h_flS {a b : Int} : flatT (.lst [.int a, .int b]) = true := id rfl
theorem h_mapi {xs : List Int} {v : Int} : xs.map D.int ++ [.int v] = (xs ++ [v]).map .int := by simp
theorem h_mapb {xs : List Bool} {v : Bool} : xs.map D.bl ++ [.bl v] = (xs ++ [v]).map .bl := by simp
theorem h_mapI {xs ys : List Int} : xs.map D.int ++ ys.map D.int = (xs ++ ys).map .int := by simp
theorem h_mapB {xs ys : List Bool} : xs.map D.bl ++ ys.map D.bl = (xs ++ ys).map .bl := by simp
theorem h_revI {xs : List Int} : (xs.map D.int).reverse = xs.reverse.map .int := by simp
end DV

/-! DVE: enumerate of a list or a tuple. -/
namespace DV
open PySem PySem.Spec PyProof.Rows L2
theorem meets_enumT (t : Addr) (items : Array Value) :
    Meets (Builtin.«enumerate.__new__» ⟨[.type "enumerate", .ref t], []⟩) (fun _ Res sh => sh.heap.IsTuple t items ∧ Res (.ok (.ret (.ref (sh.heap.objs.size + 1))))
      { sh with heap := (sh.heap.push { cls := .type "tuple_iterator", data := .fields #[.ref t, .int 0 0] }).push { cls := .type "enumerate", data := .fields #[.none, .bool false, .ref sh.heap.objs.size, rawInt 0, .none, .none] } }) :=
  .of_wp fun prog w A Res sh hh => by
    obtain ⟨hp, gs, dr, tk, os⟩ := sh
    obtain ⟨ht, hres⟩ := hh
    have sub_e := sub_enumerate
    have hz : (hp.push { cls := .type "tuple_iterator", data := .fields #[.ref t, .int 0 0] }).objs.size = hp.objs.size + 1 := Heap.size_push ..
    have step : ∀ {A' : Around} {Er : Value → Shared → Prop} {Qr : Value → Shared → Prop}, Qr (.ref hp.objs.size) ⟨hp.push { cls := .type "tuple_iterator", data := .fields #[.ref t, .int 0 0] }, gs, dr, tk, os⟩ →
        wpAny (model prog w) A' (pyIter (.ref t)) Qr Er ⟨hp, gs, dr, tk, os⟩ := fun qr => (begins_tuple t items).iter prog w _ _ ⟨hp, gs, dr, tk, os⟩ _ ht qr
    wp_walk using step
    refine wpAny_stack_any fun _ => wpAny_pure ?_
    split
    · rename_i cl _ _ _ _ _
      cases (cl == Value.type "enumerate") <;> (wp_walk using step; exact ⟨_, rfl, by rw [hz]; exact hres⟩)
    · wp_walk using step
      exact ⟨_, rfl, by rw [hz]; exact hres⟩
section
variable {prog : Program} {w : World} {A : Around} {E : Value → Shared → Prop} {s : Shared}
theorem call_enumT {t : Addr} {items : Array Value} {Q : Value → Shared → Prop} (ht : s.heap.IsTuple t items)
    (hq : ∀ h', IsEnum h' (s.heap.objs.size + 1) s.heap.objs.size 0 .none → h'.IsTupleIter s.heap.objs.size t 0 → (∀ b o, s.heap.get? b = some o → h'.get? b = some o) → Q (.ref (s.heap.objs.size + 1)) { s with heap := h' }) :
    wpAny (model prog w) A (call (.type "enumerate") [.ref t]) Q E s := by
  refine callType_new F.called_enumerate (by decide) (F.typeCall_enumerate_1 _) (F.newCall_enumerate_1 _) (fun ob => F.args_object_init_2 ob _) F.entry_enumerate_new (meets_enumT t items) ⟨ht, ?_⟩
  have hz : (s.heap.push { cls := .type "tuple_iterator", data := .fields #[.ref t, .int 0 0] }).objs.size = s.heap.objs.size + 1 := Heap.size_push ..
  have he : IsEnum ((s.heap.push { cls := .type "tuple_iterator", data := .fields #[.ref t, .int 0 0] }).push { cls := .type "enumerate", data := .fields #[.none, .bool false, .ref s.heap.objs.size, rawInt 0, .none, .none] }) (s.heap.objs.size + 1) s.heap.objs.size 0 .none := by
    have q := Heap.get?_push_size (s.heap.push { cls := .type "tuple_iterator", data := .fields #[.ref t, .int 0 0] }) (o := { cls := .type "enumerate", data := .fields #[.none, .bool false, .ref s.heap.objs.size, rawInt 0, .none, .none] }) rfl
    rw [hz] at q
    exact q
  exact ⟨⟨_, he, rfl⟩, hq _ he ⟨_, Heap.get?_push_of_some _ (Heap.get?_push_size _ rfl), rfl, rfl⟩ fun b o x => Heap.get?_push_of_some _ (Heap.get?_push_of_some _ x)⟩
end
/-- the tuple at a, its items in new pairs -/
def IteT (K : PySem.W.Frag) (a : Addr) : It :=
  ⟨fun i H => ∃ xs x, SqT K H a xs ∧ xs[i]? = some x, fun i H v H' => ∃ T x, v = .ref T ∧ H T = none ∧ H' = upd H T (.tup [.int (i : Nat), x]) ∧ ∀ xs, SqT K H a xs → xs[i]? = some x, fun i H => ∃ xs, SqT K H a xs ∧ xs.length ≤ i⟩
theorem tup_ne_iter {h : Heap} {t it : Addr} {items : Array Value} {i : Nat} (h1 : h.IsTuple t items) (h2 : h.IsTupleIter it t i) : t ≠ it := fun e => by
  obtain ⟨o, e1, c1, _⟩ := h1
  obtain ⟨o', e2, c2, _⟩ := h2
  subst e
  rw [e1] at e2; cases e2
  rw [c1] at c2
  exact absurd c2 (by decide)
theorem tup_ne_enum {h : Heap} {t e it : Addr} {items : Array Value} {i : Int} {old : Value} (h1 : h.IsTuple t items) (h2 : IsEnum h e it i old) : e ≠ t := fun q => by
  obtain ⟨o, e1, c1, _⟩ := h1
  subst q
  have e2 : h.get? e = _ := h2
  rw [e1] at e2; cases e2
  exact absurd (show Value.type "enumerate" = Value.type "tuple" from c1) (by decide)
theorem turn_enumT {P : Program} {w : World} {K : PySem.W.Frag} {elts : List Expr} {kk : Nat} {tpos : Pos} (a e it : Addr) :
    Turn P w K (.Tuple elts kk tpos) (IteT K a) [e, it] e (fun i h => (∃ old, IsEnum h e it ((i : Nat) : Int) old) ∧ h.IsTupleIter it a i ∧ e ≠ it) := by
  constructor
  · simp
  · rintro i h ⟨⟨old, he⟩, ⟨o, ho, hc, hd⟩, _⟩ b hb
    have hb' : b = e ∨ b = it := by simpa using hb
    rcases hb' with rfl | rfl
    · exact ⟨_, he, fun v q => nomatch q⟩
    · exact ⟨o, ho, fun v q => by rw [hd] at q; cases q⟩
  · rintro i h h' ⟨⟨old, he⟩, hi, hne⟩ k
    exact ⟨⟨old, k e (by simp) _ he⟩, hi.at fun o q => k it (by simp) o q, hne⟩
  · intro X hP hw hK hc i pins s σ H E I hf st hg
    subst hP; subst hw; subst hK
    obtain ⟨⟨old, he⟩, hit, hne⟩ := st
    obtain ⟨xs, x, hq, hx⟩ := hg
    obtain ⟨its, rv, p, hz⟩ := I.tuple hq
    have pt : s.heap.IsTuple a its.toArray := p
    obtain ⟨u, hu, ru⟩ := rv.get hx
    have hel : e < s.heap.objs.size := Heap.lt_size he
    have hil : it < s.heap.objs.size := by obtain ⟨_, q, _⟩ := hit; exact Heap.lt_size q
    have nf : e ∉ [it, a] := fun q => by
      have q' : e = it ∨ e = a := by simpa using q
      exact q'.elim hne (tup_ne_enum pt he)
    have hlt : i < its.toArray.size := by
      have := (List.getElem?_eq_some_iff.mp hu).1
      simpa using this
    refine wpAny_pyNext_enum_itemD (Draws.tuple (show X.A.in1.handled = none from I.ok.hd hc) it a (tup_ne_iter pt hit) its.toArray) he ⟨hit, pt⟩ hlt hne nf fun y h' tk hy ho hst hT hsz hk => ?_
    have ey : y = u := by
      have hy' : its[i]? = some y := by simpa using hy
      rw [hu] at hy'; cases hy'; rfl
    subst ey
    refine ⟨_, rfl, wpAny_letOwnedTupleGo_enum (s := { s with heap := h', toks := tk + 1 }) ho fun h'' he' sb => ?_⟩
    have hT2 : h''.get? s.heap.objs.size = some { cls := .type "tuple", data := .seq #[.int i tk, y] } := (sb.2 _ (Nat.ne_of_gt hel)).trans hT
    have new : ObjOk X.prog X.w (upd H s.heap.objs.size (.tup [.int (i : Nat), x])) h'' s.heap.objs.size (.tup [.int (i : Nat), x]) :=
      ⟨by show 2 ≤ sizeLine; decide, [.int i tk, y], .cons ⟨_, rfl⟩ (.cons ru .nil), ⟨_, hT2, rfl, _, rfl⟩⟩
    have I1 := I.turnedNew (t' := tk + 1) (ch := [e, it]) (h' := h'') (fun b ob hb q => (sb.2 b (fun z => hb (by simp [z]))).trans (hk b ob (fun z => hb (by simp [z])) (fun z => hb (by simp [z])) q)) hf (Nat.le_refl _) new
    have inj : ∀ ys, SqT X.K H a ys → ys[i]? = some x := fun ys hy => by
      obtain ⟨its2, rv2, p2, _⟩ := I.tuple hy
      have e2 : ys = xs := I.tuple_inj hy hq
      rw [e2]; exact hx
    refine ⟨.ref s.heap.objs.size, _, I1, rfl, ⟨_, x, rfl, I.hok.fresh (Nat.le_refl _), rfl, inj⟩, ⟨⟨y, ?_⟩, hst.1.at fun o q => (sb.2 it (Ne.symm hne)).trans q, hne⟩, fun b hb => ?_⟩
    · have e1 : ((i + 1 : Nat) : Int) = (i : Int) + 1 := by omega
      rw [e1]
      exact he'
    · have hb' : b = e ∨ b = it := by simpa using hb
      have lt : b < s.heap.objs.size := by
        rcases hb' with z | z
        · rw [z]; exact hel
        · rw [z]; exact hil
      rw [upd_ne (Nat.ne_of_lt lt)]
      exact (hf b hb).1
  · intro X hP hw hK hc i pins s σ H E I hf st hg
    subst hP; subst hw; subst hK
    obtain ⟨⟨old, he⟩, hit, hne⟩ := st
    obtain ⟨xs, hq, hx⟩ := hg
    obtain ⟨its, rv, p, hz⟩ := I.tuple hq
    have pt : s.heap.IsTuple a its.toArray := p
    obtain ⟨f0, f1, f2, f3, f4, f5⟩ := hf it (by simp)
    have hl := rv.length
    have hnone : its.toArray[i]? = none := by simp; omega
    have hd : X.A.in1.handled = none := I.ok.hd hc
    have D0 : Draws X.prog X.w X.A.in1 it [it, a] 0 (fun _ _ => False) (fun _ h => h.IsTupleIter it a i ∧ h.IsTuple a its.toArray) :=
      ⟨fun _ _ st => let ⟨o, ho, _⟩ := st.1; ⟨o, ho⟩, fun _ _ _ st hk => ⟨st.1.at fun o q => hk it (by simp) o q, st.2.at fun o q => hk a (by simp) o q⟩, fun j s Q E hj => absurd hj (Nat.not_lt_zero _),
        fun s Q E st hE => wpAny_nextOf_tuple_end hd st.1 st.2 hnone hE⟩
    exact wpAny_pyNext_enum_endD D0 he ⟨hit, pt⟩ fun h' eb => ⟨rfl, I.turned (t' := s.toks) (fun b o hb q => eb b o hb q) f0 f1 f3 f4 f5⟩
  · exact fun A i s Q E st hq => let ⟨⟨_, he⟩, _⟩ := st; wpAny_pyIter_enum he hq
/-- enumerate(e), a list or a tuple -/
def iEnumU (K : PySem.W.Frag) (ta : TA) : TI := fun σ H R => ta σ H fun vs H1 => ∃ a, vs = [.ref a] ∧ (((∃ xs, SqL K H1 a xs) ∧ R (Ite K a) H1) ∨ ((∃ xs, SqT K H1 a xs) ∧ R (IteT K a) H1))
theorem pi_enumU {X : Cx} {e : Expr} {ta : TA} {p pos tpos : Pos} {elts : List Expr} {kk : Nat} (hg : Gl X "enumerate") (hm : X.mg "enumerate" = none) (ha : PA X [e] ta) (hs : starEach [e] X.env = [(false, eval e X.env)] := by rfl) :
    PI X (.Tuple elts kk tpos) (.Call (.Name "enumerate" p) [e] [] pos) (iEnumU X.K ta) := by
  constructor
  intro pins s σ H R I h
  refine Call_ (ld_blt I hg hm PyProof.Rows.boot_enumerate (PyProof.Rows.callWith_type1 (thn (ha.run pos pins s σ H _ I h) fun us s1 ⟨vs, H1, I1, r1, q1⟩ => ?_) hs rfl))
  obtain ⟨a, ex, q1⟩ := q1
  subst ex
  cases r1 with
  | cons r rr =>
  cases rr
  cases r
  have fresh2 : ∀ b ∈ [s1.heap.objs.size + 1, s1.heap.objs.size], FpOk X pins H1 b := fun b hb => by
    have hb' : b = s1.heap.objs.size + 1 ∨ b = s1.heap.objs.size := by simpa using hb
    have le : s1.heap.objs.size ≤ b := by
      rcases hb' with z | z
      · rw [z]; exact Nat.le_add_right _ _
      · rw [z]; exact Nat.le_refl _
    exact I1.fpOk le (I1.hok.fresh le)
  rcases q1 with ⟨⟨xs, hq⟩, q⟩ | ⟨⟨xs, hq⟩, q⟩
  · obtain ⟨its, rv, p', hz⟩ := I1.list hq
    refine call_enumerate_list p'.isList fun h' he hit hsz hk => wpAny_pyIter_enum he ?_
    have I2 : Inv X pins σ H1 { s1 with heap := h' } := I1.kept (t' := s1.toks) hk
    exact ⟨s1.heap.objs.size + 1, [s1.heap.objs.size + 1, s1.heap.objs.size], _, _, H1, rfl, I2, turn_enum a (s1.heap.objs.size + 1) s1.heap.objs.size, ⟨⟨.none, he⟩, hit, Nat.succ_ne_self _⟩, fresh2, q⟩
  · obtain ⟨its, rv, p', hz⟩ := I1.tuple hq
    refine call_enumT (show s1.heap.IsTuple a its.toArray from p') fun h' he hit hk => wpAny_pyIter_enum he ?_
    have I2 : Inv X pins σ H1 { s1 with heap := h' } := I1.kept (t' := s1.toks) hk
    exact ⟨s1.heap.objs.size + 1, [s1.heap.objs.size + 1, s1.heap.objs.size], _, _, H1, rfl, I2, turn_enumT a (s1.heap.objs.size + 1) s1.heap.objs.size, ⟨⟨.none, he⟩, hit, Nat.succ_ne_self _⟩, fresh2, q⟩
section
variable {K : PySem.W.Frag}
def enumU (fa : MAD) : MI := fun δ => (fa δ).bind fun p => match p.1 with
  | [.lst ds] => some (enumD 0 ds, p.2)
  | [.tup ds] => some (enumD 0 ds, p.2)
  | _ => none
theorem it_pair {J : It} {R : Reg} {H : Hp} {Sq : Hp → List V → Prop} {ds : List D} {us : List V} (rs : RepVs K R H ds us) (sq : ∀ R' H', Keep R H R' H' → Sq H' us)
    (hgo : ∀ i H' x, Sq H' us → us[i]? = some x → J.go i H') (hst : ∀ i H', Sq H' us → us.length ≤ i → J.stop i H')
    (hy : ∀ i H' v H'', J.yld i H' v H'' → ∃ T x, v = .ref T ∧ H' T = none ∧ H'' = upd H' T (.tup [.int (i : Nat), x]) ∧ (Sq H' us → us[i]? = some x)) : ItOk K J R H (enumD 0 ds) := fun R' H' k F' δ' σ' w' i => by
  have h' := sq R' H' k
  refine ⟨fun d hd => ?_, fun hl => hst i H' h' (by rw [← rs.length]; rw [enumD_len] at hl; exact hl)⟩
  obtain ⟨d0, hd0, rfl⟩ := enumD_get hd
  obtain ⟨u, hu, ru⟩ := rs.get hd0
  refine ⟨hgo i H' u h' hu, fun x H'' y => ?_⟩
  obtain ⟨T, x', e3, hT, e4, e5⟩ := hy i H' x H'' y
  subst e3; subst e4
  have e6 := e5 h'
  rw [hu] at e6; cases e6
  refine ⟨w'.alloc hT, Grow.new hT, T, _, rfl, .of upd_same, .int i, [u], rfl, ?_, u, [], rfl, RepV.keep (k.trans (Grow.new hT).keep) ru, rfl⟩
  show V.int (i : Int) = V.int ((0 + i : Nat) : Int)
  rw [Nat.zero_add]
theorem i_enumU {ta : TA} {fa : MAD} (h : EvAD K ta fa) : EvI K (iEnumU K ta) (enumU fa) := fun F R H δ σ ds δ' w hf Q q => by
  obtain ⟨⟨os, δ1⟩, e1, hf⟩ := Option.bind_eq_some_iff.mp hf
  refine h F R H δ σ os δ1 w e1 _ fun vs R1 H1 w1 x1 r1 => ?_
  dsimp only at hf
  split at hf
  · cases hf
    obtain ⟨v, r, e, ⟨a, us, e2, ra, h1, rs⟩, r3⟩ := r1
    have : r = [] := r3
    subst this; subst e2
    exact ⟨a, e, .inl ⟨⟨us, .of h1⟩, q _ R1 H1 w1 x1 (it_pair (Sq := fun H' xs => SqL K H' a xs) rs (fun R' H' k => k.seqL ra (.of h1)) (fun i H' x hs hx => ⟨us, x, hs, hx⟩) (fun i H' hs hl => ⟨us, hs, hl⟩) (fun i H' v H'' ⟨T, x, e1, e2, e3, e4⟩ => ⟨T, x, e1, e2, e3, e4 us⟩))⟩⟩
  · cases hf
    obtain ⟨v, r, e, ⟨a, us, e2, h1, rs⟩, r3⟩ := r1
    have : r = [] := r3
    subst this; subst e2
    exact ⟨a, e, .inr ⟨⟨us, h1⟩, q _ R1 H1 w1 x1 (it_pair (Sq := fun H' xs => SqT K H' a xs) rs (fun R' H' k => k.seqT h1) (fun i H' x hs hx => ⟨us, x, hs, hx⟩) (fun i H' hs hl => ⟨us, hs, hl⟩) (fun i H' v H'' ⟨T, x, e1, e2, e3, e4⟩ => ⟨T, x, e1, e2, e3, e4 us⟩))⟩⟩
  · cases hf
/-! ### range with a step -/
def stepD (i c : Int) (n : Nat) : List D := (List.range n).map fun (k : Nat) => D.int (i + (k : Int) * c)
end
end DV

/-! DV15: range with step -1, fields, isinstance of own classes and of several, own ==. -/
namespace DV
open PySem PySem.Spec PyProof.Rows L2
section
variable {K : PySem.W.Frag} {F : Fx} {R R1 R2 R' : Reg} {H H1 H' : Hp} {δ δ1 δ' : Env} {σ σ' : L2.St}
/-! ### range down -/
def downD (i : Int) (n : Nat) : List D := (List.range n).map fun (k : Nat) => D.int (i + (k : Int) * -1)
theorem it_down {lo : Int} {n : Nat} : ItOk K (Itc lo (-1) n) R H (downD lo n) := fun R' H' k F δ σ w i => by
  have hl : (downD lo n).length = n := by unfold downD; rw [List.length_map, List.length_range]
  refine ⟨fun d hd => ?_, fun h => by rw [hl] at h; exact h⟩
  have hi : i < n := by rw [← hl]; exact (List.getElem?_eq_some_iff.mp hd).1
  refine ⟨hi, fun x H'' y => ?_⟩
  obtain ⟨e1, e2⟩ := y
  subst e1; subst e2
  have e3 : d = .int (lo + (i : Int) * -1) := by
    unfold downD at hd
    rw [List.getElem?_map, List.getElem?_range hi] at hd
    exact (Option.some.inj hd).symm
  subst e3
  exact ⟨w, Grow.refl, rfl⟩
def rng3 (fa : MA) : MI := fun δ => (fa δ).bind fun p => match p.1 with
  | [.dat (.int i), .dat (.int j), .dat (.int c)] => if (decide (-(2 ^ 62) ≤ i) && decide (i < 2 ^ 62) && (decide (-(2 ^ 62) ≤ j) && decide (j < 2 ^ 62)) && decide (c = -1)) = true then some (downD i (i - j).toNat, p.2) else none
  | _ => none
theorem i_range3 {ta : TA} {fa : MA} (h : EvA K ta fa) : EvI K (iRng3 ta) (rng3 fa) := fun F R H δ σ ds δ' w hf Q q => by
  obtain ⟨⟨os, δ1⟩, e1, hf⟩ := Option.bind_eq_some_iff.mp hf
  refine h F R H δ σ os δ1 w e1 _ fun vs R1 H1 w1 x1 r1 f1 => ?_
  dsimp only at hf
  split at hf
  · rename_i i j c
    split at hf
    · rename_i hc
      simp only [Bool.and_eq_true, decide_eq_true_eq] at hc
      obtain ⟨⟨⟨h1, h2⟩, h3, h4⟩, h5⟩ := hc
      cases hf
      obtain ⟨v, r, ea, ra, v2, r2, eb, rb, v3, r3, ec, rc, r4⟩ := r1
      have r4' : r3 = [] := r4
      have ra' : v = .int i := ra
      have rb' : v2 = .int j := rb
      have rc' : v3 = .int c := rc
      subst ea; subst eb; subst ec; subst r4'; subst ra'; subst rb'; subst rc'; subst h5
      exact ⟨i, j, -1, _, rfl, RgC.neg h1 h2 h3 h4, q _ R1 H1 w1 x1 it_down⟩
    · cases hf
  · cases hf
/-! ### fields -/
theorem lookup_rep : ∀ {ks : List Str} {ds : List D} {vs : List V} {f : Str} {d : D}, RepVs K R H ds vs → (ks.zip ds).lookup f = some d → ∃ v, (ks.zip vs).lookup f = some v ∧ RepV K R H d v
  | [], _, _, _, _, _, h => by cases h
  | k :: ks, [], _, _, _, _, h => by cases h
  | k :: ks, d0 :: ds, vs, f, d, r, h => by
    obtain ⟨v, us, e, r1, r2⟩ := r
    subst e
    rw [List.zip_cons_cons, List.lookup_cons] at h ⊢
    split at h
    · cases h
      exact ⟨v, rfl, r1⟩
    · exact lookup_rep r2 h
def fldG (C : Addr) (f : Str) : D → Option D
  | .ins C' ks ds => if C' = C then (ks.zip ds).lookup f else none
  | _ => none
def fldE (C : Addr) (f : Str) (fo : ME) : ME := fun δ => (fo δ).bind fun p => (deref p.2 p.1).bind fun d => (fldG C f d).bind fun x => some (.dat x, p.2)
theorem ev_fld {C : Addr} {f : Str} {to : TE} {fo : ME} (c : Cls K C) (n : NoAttr K C f) (ho : Ev K to fo) : Ev K (tFld K to f) (fldE C f fo) := fun F R H δ σ o δ' w hf Q q => by
  obtain ⟨⟨o0, δ1⟩, e1, hf1⟩ := Option.bind_eq_some_iff.mp hf
  obtain ⟨d, e2, hf2⟩ := Option.bind_eq_some_iff.mp hf1
  obtain ⟨x0, e3, hf3⟩ := Option.bind_eq_some_iff.mp hf2
  cases hf3
  refine ho F R H δ σ o0 δ1 w e1 _ fun x R1 H1 w1 x1 r1 f1 => ?_
  have rl := deref_ok w1 r1 e2
  cases d with
  | ins C' ks ds =>
    simp only [fldG] at e3
    by_cases hC : C' = C
    · rw [if_pos hC] at e3
      subst hC
      obtain ⟨a, dx, vs, e, h1, l, rs⟩ := rl.ins
      obtain ⟨v, h2, rv⟩ := lookup_rep rs e3
      exact ⟨a, C', dx, _, v, e, h1, c, n, h2, q v R1 H1 w1 x1 rv trivial⟩
    · rw [if_neg hC] at e3; cases e3
  | _ => cases e3
/-- the fields with one more put -/
def putK (f : Str) (d : D) : List Str → List D → List Str × List D
  | k :: ks, x :: ds => if k = f then (k :: ks, d :: ds) else (k :: (putK f d ks ds).1, x :: (putK f d ks ds).2)
  | _, _ => ([f], [d])
theorem putK_len {f : Str} {d : D} : ∀ {ks : List Str} {ds : List D}, ks.length = ds.length → (putK f d ks ds).1.length = (putK f d ks ds).2.length ∧ (putK f d ks ds).1.length ≤ ks.length + 1
  | [], [], _ => by simp [putK]
  | [], _ :: _, h => by simp at h
  | _ :: _, [], h => by simp at h
  | k :: ks, x :: ds, h => by
    have h' : ks.length = ds.length := by simpa using h
    obtain ⟨h1, h2⟩ := putK_len (f := f) (d := d) h'
    unfold putK
    split
    · simp; omega
    · simp only [List.length_cons]; omega
theorem putK_rep {f : Str} {d : D} {v : V} (r : RepV K R H d v) : ∀ {ks : List Str} {ds : List D} {vs : List V}, ks.length = ds.length → RepVs K R H ds vs → ∃ us, putF f v (ks.zip vs) = (putK f d ks ds).1.zip us ∧ RepVs K R H (putK f d ks ds).2 us
  | [], [], vs, _, h => by
    have : vs = [] := h
    subst this
    exact ⟨[v], rfl, .one r⟩
  | [], _ :: _, _, h, _ => by simp at h
  | _ :: _, [], _, h, _ => by simp at h
  | k :: ks, x :: ds, vs, h, rs => by
    have h' : ks.length = ds.length := by simpa using h
    obtain ⟨u, us, e, r1, r2⟩ := rs
    subst e
    unfold putK
    rw [List.zip_cons_cons]
    unfold putF
    by_cases hk : k = f
    · rw [if_pos hk, if_pos hk]
      subst hk
      exact ⟨v :: us, rfl, v, us, rfl, r, r2⟩
    · rw [if_neg hk, if_neg hk]
      obtain ⟨ws, e1, e2⟩ := putK_rep r h' r2
      exact ⟨u :: ws, by rw [e1]; rfl, u, ws, rfl, r1, e2⟩
def fldS (C : Addr) (f : Str) (fv : MD) (fo : ME) : MS := fun δ => (fv δ).bind fun p => (fo p.2).bind fun q => match q.1 with
  | .own i => match q.2[i]? with
    | some (.own (.ins C' ks ds)) => if (decide (C' = C) && decide (ks.length < 1000)) = true then some (.nx (q.2.set i (.own (.ins C (putK f p.1 ks ds).1 (putK f p.1 ks ds).2)))) else none
    | some (.brw (.ins C' ks ds)) => if (decide (C' = C) && decide (ks.length < 1000)) = true then some (.nx (q.2.set i (.brw (.ins C (putK f p.1 ks ds).1 (putK f p.1 ks ds).2)))) else none
    | _ => none
  | _ => none
theorem s_fld {C : Addr} {f : Str} {to tv : TE} {fv : MD} {fo : ME} (c : Cls K C) (n : NoAttr K C f) (hv : EvD K tv fv) (ho : Ev K to fo) : EvS K (sFld K to tv f) (fldS C f fv fo) := fun F R H δ σ fl w hf E q => by
  obtain ⟨⟨d, δ1⟩, e1, hf⟩ := Option.bind_eq_some_iff.mp hf
  obtain ⟨⟨o, δ2⟩, e2, hf⟩ := Option.bind_eq_some_iff.mp hf
  refine hv F R H δ σ d δ1 w e1 _ fun v R1 H1 w1 x1 r1 => ?_
  refine ho F R1 H1 δ1 σ o δ2 w1 e2 _ fun x R2 H2 w2 x2 r2 _ => ?_
  have core : ∀ (i : Nat) (s : Sl) (ks : List Str) (ds : List D), o = .own i → δ2[i]? = some s → s.own? = true → s.d? = some (.ins C ks ds) → ks.length < 1000 → fl = .nx (δ2.set i (s.put (.ins C (putK f d ks ds).1 (putK f d ks ds).2))) →
      ∃ a C dx fs, x = V.ref a ∧ H2 a = some (.ins C dx fs) ∧ Cls K C ∧ NoAttr K C f ∧ fs.length < 1000 ∧ E.nx σ (upd H2 a (.ins C dx (putF f v fs))) := by
    rintro i s ks ds rfl h1 h2 h3 h4 rfl
    have rx : σ[i]? = some (some x) := r2
    obtain ⟨ov, h5, h6⟩ := w2.rep i s h1
    rw [rx] at h5; cases h5
    have : ∃ l, x = V.ref l ∧ ¬ R2 l ∧ RepTop K R2 H2 (.ins C ks ds) l := by
      cases s with
      | un => cases h2
      | val _ => cases h2
      | own d' => cases h3; exact h6
      | brw d' => cases h3; exact h6
    obtain ⟨l, rfl, nl, dx, us, h7, hlen, h8⟩ := this
    have ta : ∃ o, H2 l = some o ∧ (∀ xs, o ≠ .tup xs) ∧ ∀ ob u, o ≠ .frz ob u := ⟨_, h7, (fun _ q => by cases q), fun _ _ q => by cases q⟩
    have k2 := x2.keep w1
    obtain ⟨ws, e3, e4⟩ := putK_rep (f := f) (RepV.keep k2 r1) hlen h8
    refine ⟨l, C, dx, _, rfl, h7, c, n, by rw [List.length_zip]; omega, ?_⟩
    have t : RepTop K R2 (upd H2 l (.ins C dx (putF f v (ks.zip us)))) (.ins C (putK f d ks ds).1 (putK f d ks ds).2) l :=
      ⟨dx, ws, by rw [e3]; exact upd_same, (putK_len hlen).1, e4.keep (keep_upd nl ta)⟩
    obtain ⟨w4, x4⟩ := w2.write h1 h2 rx t
    exact q σ R2 _ w4 (((x1.keep w).trans k2).trans (x4.keep w2))
  cases o with
  | dat _ => cases hf
  | fre _ => cases hf
  | own i =>
    simp only at hf
    cases h1 : δ2[i]? with
    | none => rw [h1] at hf; cases hf
    | some s =>
      rw [h1] at hf
      cases s with
      | un => cases hf
      | val _ => cases hf
      | own d' =>
        cases d' with
        | ins C' ks ds =>
          dsimp only at hf
          split at hf
          · rename_i hc
            simp only [Bool.and_eq_true, decide_eq_true_eq] at hc
            obtain ⟨rfl, hl⟩ := hc
            cases hf
            exact core i _ ks ds rfl h1 rfl rfl hl rfl
          · cases hf
        | _ => cases hf
      | brw d' =>
        cases d' with
        | ins C' ks ds =>
          dsimp only at hf
          split at hf
          · rename_i hc
            simp only [Bool.and_eq_true, decide_eq_true_eq] at hc
            obtain ⟨rfl, hl⟩ := hc
            cases hf
            exact core i _ ks ds rfl h1 rfl rfl hl rfl
          · cases hf
        | _ => cases hf
end
end DV

/-! DV16: own classes: isinstance, ==, in. -/
namespace DVG
open PySem PySem.Spec PyProof.Rows L2
/-- what the written part says of a class of the text -/
structure Own (K : PySem.W.Frag) (C : Addr) : Prop where
  cls : Cls K C
  ca : PySem.W.findIn K (.ref C) "__class__" = some (some (.builtin "object.__class__"))
  gs : PySem.W.specialIn K (.builtin "object.__class__") "__get__" = some (some (.builtin "getset_descriptor.__get__"))
  tk : PySem.W.takesIn K (.builtin "object.__class__") = some true
  mo : PySem.W.mroIn K C (.type "object") = some true
  one : PySem.W.kitOne K (.ref C) (.ref C) = some true
theorem kit_self {K : PySem.W.Frag} {C : Addr} : PySem.W.kitOne K (.ref C) (.ref C) = some true := by
  unfold PySem.W.kitOne
  exact if_pos (beq_self_eq_true _)
def AtC (C : Addr) (x : V) (H : Hp) : Prop := ∃ a dx fs, x = .ref a ∧ H a = some (.ins C dx fs)
def rOwnEq (C : Addr) (sp : Sp) (E : XK) : R2 := fun x y H Q => AtC C x H ∧ AtC C y H ∧ sp [x, y] H (fun v H' => ∃ b, v = .bl b ∧ Q v H') E
def rOwnIn (C : Addr) (sp : Sp) (E : XK) : R2 := fun x y H Q => AtC C y H ∧ sp [y, x] H (fun v H' => ∃ b, v = .bl b ∧ Q v H') E
section
variable {X : Cx} {CX : CXT} {k : Nat} {f C : Addr} {fd : FuncData} {ps : List Str} {sp : Sp} {E : XK}
theorem op_eqOwn (F : FnG bb X.prog X.w X.K X.mg X.base CX k f fd ps sp) (hr : Rm bb k X.A) (hs : PySem.W.findIn X.K (.ref C) "__eq__" = some (some (.ref f))) (hf : PySem.W.isFn X.K (.ref f) = true) (hb : Binds X.K fd ps []) (hx : Passes CX X E) :
    OpR X (compareOp .Eq) (rOwnEq C sp E) := by
  intro pins s σ H x y v u Q I rx ry h
  obtain ⟨⟨a, dx, fs, ex, ha⟩, ⟨b, dy, gs, ey, hb'⟩, q⟩ := h
  subst ex; subst ey
  cases rx
  cases ry
  obtain ⟨mA, oA, _⟩ := ins_get I.hok ha
  obtain ⟨mB, oB, _⟩ := ins_get I.hok hb'
  obtain ⟨od, iA, _⟩ := oA.look
  obtain ⟨od', iB, _⟩ := oB.look
  obtain ⟨m, hF⟩ := I.fr
  show wpAny (model X.prog X.w) X.A (richCompare .Eq (.ref a) (.ref b)) (EP X pins σ Q) X.xe s
  refine PySem.W.cmp_K (op := .Eq) (tb := .ref C) (by have := hr.r.un; omega) hF I.ok.mod.kin iA iB.type (by simp [PySem.W.notFirst]) hs hf ?_
  refine wpAny_mono (callG (us := [.ref a, .ref b]) (vs := [.ref a, .ref b]) F hr hb .nil hx I (.cons rfl (.cons rfl .nil)) q) (fun r s' z => ?_) fun _ _ z => z
  obtain ⟨w, H', I', rw', bb, ew, qq⟩ := z
  subst ew
  cases rw'
  exact ⟨V.bl bb, H', I', rfl, qq⟩
theorem op_inOwn (F : FnG bb X.prog X.w X.K X.mg X.base CX k f fd ps sp) (hr : Rm bb k X.A) (hs : PySem.W.findIn X.K (.ref C) "__contains__" = some (some (.ref f))) (hf : PySem.W.isFn X.K (.ref f) = true) (hb : Binds X.K fd ps []) (hx : Passes CX X E) :
    OpR X (compareOp .In) (rOwnIn C sp E) := by
  intro pins s σ H x y v u Q I rx ry h
  obtain ⟨⟨a, dx, fs, ey, ha⟩, q⟩ := h
  subst ey
  cases ry
  obtain ⟨mA, oA, _⟩ := ins_get I.hok ha
  obtain ⟨od, iA, _⟩ := oA.look
  obtain ⟨m, hF⟩ := I.fr
  have kIn := I.kIn
  have run := callG (us := [.ref a, v]) (vs := [.ref a, x]) F hr hb .nil hx I (.cons rfl (.cons rx .nil)) q
  show wpAny (model X.prog X.w) X.A (contains (.ref a) v >>= fun r => pure (Value.bool r)) (EP X pins σ Q) X.xe s
  refine wpAny_bind ?_
  unfold contains
  refine wpAny_holding ?_
  show wpAny _ _ (specialOf (.ref a) "__contains__" >>= _) _ _ _
  refine wpAny_bind (wpAny_bind (iA.type.here ((PySem.W.looks_findIn kIn hs).here ?_)))
  rw [if_neg (show ¬ ((some (Value.ref f) == some Value.none) = true) from Bool.false_ne_true)]
  have call1 : ∀ (refuse : Sem Value) (Z : Option Value → Shared → Prop), (∀ bb s', EP X pins σ Q (.bool bb) s' → Z (some (.bool bb)) s') → wpAny (model X.prog X.w) X.A (callSpecialUnlessNone? (.ref a) (Str.ofString "__contains__") [v] refuse) Z X.xe s := by
    intro refuse Z hZ
    unfold callSpecialUnlessNone?
    refine wpAny_bind (wpAny_bind (iA.type.here ((PySem.W.looks_findIn kIn hs).here ?_)))
    refine wpAny_holding (wpAny_bind ((PySem.W.bind_fn kIn _ (beq_iff_eq.mp hf)).here ?_))
    have nf : ¬ ((Value.ref f == Value.none) = true) := Bool.false_ne_true
    simp only [nf, if_false]
    refine wpAny_bind (wpAny_mono run (fun r s' z => ?_) fun _ _ z => z)
    obtain ⟨w, H', I', rw', bb, ew, qq⟩ := z
    subst ew
    cases rw'
    exact wpAny_pure (hZ bb s' ⟨V.bl bb, H', I', rfl, qq⟩)
  refine wpAny_bind (call1 _ _ fun bb s' z => ?_)
  exact wpAny_truthy_bool (wpAny_pure z)
theorem Rm.in1 {k : Nat} {A : Around} (h : Rm bb (k + 1) A) : Rm bb k A.in1 := ⟨h.r.in1, h.g⟩
theorem callGA {A : Around} {pins : List (Addr × Obj)} {σ : L2.St} {H : Hp} {s : Shared} {Q : VK} {us : List Value} {vs : List V} (hA : Rm bb k A) (hfr : A.frames = X.A.frames) (F : FnG bb X.prog X.w X.K X.mg X.base CX k f fd ps sp) (hb : Binds X.K fd ps []) (hx : Passes CX X E)
    (I : Inv X pins σ H s) (r : Vals vs us) (h : sp vs H Q E) : wpAny (model X.prog X.w) A (call (.ref f) us) (EP X pins σ Q) X.xe s := by
  have e := I.env0
  have e0 : Env0 X.prog X.w X.K X.mg X.base A X.stack s H := ⟨by rw [hfr]; exact e.frames, e.mod, e.bs, e.bsz, e.funs, e.frf, e.hok, e.bare⟩
  have l := F.len _ _ _ _ h
  refine wpAny_call (codeAny_mono (F.run A X.stack s H ⟨us, []⟩ us vs Q E hA e0 (by
    have := hb s us I.kIn (by rw [List.append_nil, ← r.length]; exact l)
    rwa [List.append_nil] at this) r h) fun r s' z => ?_)
  revert z
  match r with
  | .error _ => exact fun z => back hx I z
  | .ok (.ret _) => exact fun z => back hx I z
  | .ok .next => exact fun z => (back hx I z).elim
  | .ok .brk => exact fun z => (back hx I z).elim
  | .ok .cont => exact fun z => (back hx I z).elim
def rOwnIx (C : Addr) (sp : Sp) (E : XK) : R2 := fun x y H Q => AtC C x H ∧ sp [x, y] H Q E
/-- o[i], o of a class with its own __getitem__ -/
theorem pe_ixOwn {a b : Expr} {ta tb : TE} {pos : Pos} (F : FnG bb X.prog X.w X.K X.mg X.base CX k f fd ps sp) (hr : Rm bb (k + 1) X.A) (hs : PySem.W.findIn X.K (.ref C) "__getitem__" = some (some (.ref f))) (hi : PySem.W.fnIn X.K f = true) (hf : PySem.W.isFn X.K (.ref f) = true)
    (hb : Binds X.K fd ps []) (hx : Passes CX X E) (ha : PE X a ta) (hbe : PE X b tb) (hsl : ∀ o i, subscripted b true o i = runValue (.builtin "lifetime.subscript" ⟨[o, i], []⟩)) : PE X (.Subscript a b pos) (tOp (rOwnIx C sp E) ta tb) := by
  constructor
  intro pins s σ H Q I h
  refine Subscript_ (binT ha hbe I h fun v u s2 x y H2 I2 rx ry q => ?_)
  obtain ⟨⟨o, dx, fs, ex, ho⟩, q⟩ := q
  subst ex
  cases rx
  obtain ⟨mA, oA, _⟩ := ins_get I2.hok ho
  obtain ⟨od, iA, _⟩ := oA.look
  obtain ⟨m, hF⟩ := I2.fr
  exact PySem.W.sub_K hF I2.ok.mod.kin iA hs hi hf (callGA (us := [.ref o, u]) (vs := [.ref o, y]) hr.in1 rfl F hb hx I2 (.cons rfl (.cons ry .nil)) q) (hsl _ _)
end
end DVG
namespace DV
open PySem PySem.Spec PyProof.Rows L2
section
variable {K : PySem.W.Frag} {F : Fx} {R R1 R2 R' : Reg} {H H1 H' : Hp} {δ δ1 δ' : Env} {σ σ' : L2.St}
theorem Wd.grow (w : Wd K F R H δ σ) (g : Grow H H') : Wd K F R H' δ σ := by
  refine w.step (g.ext) (fun a h => ?_) fun a h => ⟨(w.new a h).1, (g.ext (S := fun _ => True) (R := R)).alv a (w.new a h).2⟩
  obtain ⟨n, u, hu, _⟩ := w.ownAt h
  exact ⟨n, by rw [hu]; exact g a u hu⟩
theorem RepL.lent {d : D} {v : V} (r : RepL K R H d v) : RepV K (fun a => R a ∨ v = .ref a ∧ H a ≠ none) H d v := by
  have k : Keep R H (fun a => R a ∨ v = .ref a ∧ H a ≠ none) H := ⟨fun _ h => .inl h, fun _ _ _ h => h, fun _ _ h => h, fun _ _ _ h => h⟩
  rcases r with r | ⟨a, e, t⟩
  · exact RepV.keep k r
  · subst e
    obtain ⟨o, ho, _⟩ := t.at
    exact (t.keep k rfl).val (.inr ⟨rfl, by rw [ho]; exact fun q => by cases q⟩)
theorem RepV.wide {d : D} {v : V} (r : RepV K R H d v) (s : ∀ a, R a → R' a) : RepV K R' H d v := RepV.keep ⟨s, fun _ _ _ h => h, fun _ _ h => h, fun _ _ _ h => h⟩ r
/-- what a def of two parameters says of two values that are only read: a bool -/
theorem two_bool {F2 : FD} {d1 d2 : D} {v1 v2 : V} {b : Bool} {m : D} {E : XK} (w : Wd K F R H δ σ) (r1 : RepL K R H d1 v1) (r2 : RepL K R H d2 v2) (h : F2 [d1, d2] = some (.dat (.bl b), m)) (Q : VK)
    (q : ∀ R' H', Wd K F R' H' δ σ → Ext δ δ σ R H R' H' → Q (.bl b) H') : spD K none 2 F2 [v1, v2] H (fun v H' => ∃ b, v = .bl b ∧ Q v H') E := by
  refine ⟨rfl, fun a => (R a ∨ v1 = .ref a ∧ H a ≠ none) ∨ v2 = .ref a ∧ H a ≠ none, [d1, d2], _, _, ⟨rfl, fun i d v h1 h2 => ⟨(fun z => by cases z), fun _ => ?_⟩⟩, fun a ha => ?_, h, fun v R2 H2 e => ?_⟩
  · match i with
    | 0 =>
      cases h1; cases h2
      exact (RepL.lent r1).wide fun _ z => .inl z
    | 1 =>
      cases h1; cases h2
      exact (RepL.lent r2).wide fun _ z => z.elim (fun z => .inl (.inl z)) .inr
    | i + 2 => simp at h1
  · rcases ha with (ha | ha) | ha
    · exact (w.new a ha).2
    · exact ha.2
    · exact ha.2
  · have ev : v = .bl b := e.res
    subst ev
    have g : Grow H H2 := fun a o ho => e.frame a o ho fun ⟨_, z, _⟩ => by cases z
    exact ⟨b, rfl, q R H2 (w.grow g) g.ext⟩
def insAt (C : Addr) : D → Bool
  | .ins C' _ _ => decide (C' = C)
  | _ => false
theorem at_of {C : Addr} {d : D} {v : V} (h : insAt C d = true) (r : RepL K R H d v) : DVG.AtC C v H := by
  cases d with
  | ins C' ks ds =>
    have e : C' = C := of_decide_eq_true h
    subst e
    obtain ⟨a, dx, vs, e, h1, _⟩ := r.ins
    exact ⟨a, dx, _, e, h1⟩
  | _ => cases h
def boolR : Option (Ret × D) → Option Bool
  | some (.dat (.bl b), _) => some b
  | _ => none
def eqOwnG (C : Addr) (F2 : FD) (d1 d2 : D) : Option O := if (insAt C d1 && insAt C d2) = true then (boolR (F2 [d1, d2])).bind fun b => some (.dat (.bl b)) else none
def inOwnG (C : Addr) (F2 : FD) (d1 d2 : D) : Option O := if insAt C d2 = true then (boolR (F2 [d2, d1])).bind fun b => some (.dat (.bl b)) else none
theorem boolR_inv {x : Option (Ret × D)} {b : Bool} (h : boolR x = some b) : ∃ m, x = some (.dat (.bl b), m) := by
  unfold boolR at h
  split at h
  · cases h; exact ⟨_, rfl⟩
  · cases h
theorem k_eqOwn {C : Addr} {F2 : FD} {E : XK} : OpOk K (DVG.rOwnEq C (spD K none 2 F2) E) (eqOwnG C F2) := fun F R H δ σ d1 d2 v1 v2 res w r1 r2 hg Q q => by
  unfold eqOwnG at hg
  split at hg
  · rename_i hi
    rw [Bool.and_eq_true] at hi
    obtain ⟨b, e1, hg⟩ := Option.bind_eq_some_iff.mp hg
    cases hg
    obtain ⟨m, e2⟩ := boolR_inv e1
    exact ⟨at_of hi.1 r1, at_of hi.2 r2, two_bool w r1 r2 e2 Q fun R' H' w' x' => q _ R' H' w' x' rfl trivial⟩
  · cases hg
theorem k_inOwn {C : Addr} {F2 : FD} {E : XK} : OpOk K (DVG.rOwnIn C (spD K none 2 F2) E) (inOwnG C F2) := fun F R H δ σ d1 d2 v1 v2 res w r1 r2 hg Q q => by
  unfold inOwnG at hg
  split at hg
  · rename_i hi
    obtain ⟨b, e1, hg⟩ := Option.bind_eq_some_iff.mp hg
    cases hg
    obtain ⟨m, e2⟩ := boolR_inv e1
    exact ⟨at_of hi r2, two_bool w r2 r1 e2 Q fun R' H' w' x' => q _ R' H' w' x' rfl trivial⟩
  · cases hg
/-! isinstance(x, C) -/
def isOwnG (C : Addr) : List D → Option O
  | [d, .con (.ref c)] => if (insAt C d && decide (c = C)) = true then some (.dat (.bl true)) else none
  | _ => none
theorem c_isOwn {C : Addr} (o : DVG.Own K C) : CbOk K (rIsi K) (isOwnG C) := fun F R H δ σ ds vs res w r hg Q q => by
  unfold isOwnG at hg
  split at hg
  · rename_i d c
    split at hg
    · rename_i hi
      rw [Bool.and_eq_true, decide_eq_true_eq] at hi
      obtain ⟨hi, rfl⟩ := hi
      cases hg
      obtain ⟨v, u, e, r1, r2⟩ := r.two
      obtain ⟨a, dx, fs, ev, ha⟩ := at_of hi r1
      have eu : u = .ref c := by
        rcases r2 with r2 | ⟨_, _, r2⟩
        · exact r2
        · exact r2.elim
      subst ev; subst eu
      exact ⟨_, _, .ref c, .ref c, true, e, .own c, .base (.ins ha o.cls o.ca o.gs o.tk o.mo), o.one, q _ R H w Ext.refl rfl trivial⟩
    · cases hg
  · cases hg
/-! isinstance(x, (T, U)) -/
def rIsiU (K : PySem.W.Frag) : List V → Hp → VK → Prop := fun xs H Q => ∃ (x : V) (tp : Addr) (cs : List V) (t : Value) (us : List Value) (b : Bool), xs = [x, .ref tp] ∧ SqT K H tp cs ∧ Paired ClsV cs us ∧ TyX K H x t ∧ PySem.W.kitAny K t us = some b ∧ Q (.bl b) H
theorem call_isiU {X : Cx} : CallR X (.builtin "isinstance") (rIsiU X.K) := by
  intro pins s σ H xs us Q I r h
  obtain ⟨x, tp, cs, t, ws, b, ex, hT, k, ty, e, q⟩ := h
  subst ex
  obtain ⟨u1, u2, eu, r1, r2⟩ := vals2 r
  subst eu
  cases (show u2 = Value.ref tp from r2)
  obtain ⟨Ph, Z, p, hx⟩ := kit_of I r1 ty
  obtain ⟨its, rv, ⟨o, h1, h2, n, h3⟩, _⟩ := I.tuple hT
  have e3 := ClsV.all k rv
  subst e3
  obtain ⟨oc, od, dt, sl⟩ := o
  simp only at h2 h3
  subst h2; subst h3
  exact PySem.W.kia_tup Z I.kIn p h1 e hx fun tk => ⟨.bl b, H, I.tok tk, rfl, q⟩
def isTG : List D → Option O
  | [d, .tup [.con (.ty a), .con (.ty c)]] => (tyOf d).bind fun t => (kitB t a).bind fun b1 => (kitB t c).bind fun b2 => some (.dat (.bl (b1 || b2)))
  | _ => none
theorem c_isT : CbOk K (rIsiU K) isTG := fun F R H δ σ ds vs res w r hg Q q => by
  unfold isTG at hg
  split at hg
  · rename_i d a c
    obtain ⟨t, e1, hg1⟩ := Option.bind_eq_some_iff.mp hg
    obtain ⟨b1, e2, hg2⟩ := Option.bind_eq_some_iff.mp hg1
    obtain ⟨b2, e3, hg3⟩ := Option.bind_eq_some_iff.mp hg2
    cases hg3
    obtain ⟨v, u, e, r1, r2⟩ := r.two
    obtain ⟨tp, us, eu, hT, va, ra, f1, pa, vb, rb, f2, pb, f3⟩ := r2.tup
    have f3' : rb = [] := f3
    have pa' : va = .ty a := pa
    have pb' : vb = .ty c := pb
    subst f3'; subst f2; subst f1; subst eu; subst pa'; subst pb'
    refine ⟨v, tp, _, .type t, [.type a, .type c], b1 || b2, e, hT, .cons (.ty a) (.cons (.ty c) .nil), tyX e1 r1, kitAny_cons (kit_ty e2) (fun h1 => ?_) (fun h1 => by rw [h1]; rfl), q _ R H w Ext.refl rfl trivial⟩
    rw [h1]
    exact kitAny_cons (kit_ty e3) (fun h2 => by rw [h2]; rfl) (fun h2 => by rw [h2]; rfl)
  · cases hg
/-! the end of a law whose functions on data know where the classes lie -/
def spT (K : PySem.W.Frag) (n : Nat) : Sp := fun vs H Q _ => ∃ (a : Addr) (ns : List Int), vs = [.ref a] ∧ Only H ∧ SqL K H a (ns.map V.int) ∧ ns.length ≤ n ∧ (∀ z ∈ ns, Builtin.Int.intBits z ≤ 1048576) ∧ ∀ H', Q (.bl true) H'
theorem toTrue {P : Program} {w : World} {mg : Str → Option Value} {base : Heap} {k n : Nat} {f : Addr} {fd : FuncData} {x : Str} {F2 : FD} (h : ∀ ns : List Int, ns.length ≤ n → (∀ z ∈ ns, Builtin.Int.intBits z ≤ 1048576) → F2 [.ro (ns.map D.int)] = some (.dat (.bl true), .non))
    (G : DVG.FnG bb P w K mg base CX0 k f fd [x] (spD K none 1 F2)) : DVG.FnG bb P w K mg base CX0 k f fd [x] (spT K n) := by
  have key : ∀ vs H Q E, spT K n vs H Q E → spD K none 1 F2 vs H Q E := fun vs H Q E ⟨a, ns, ev, hO, hS, hl, hb, q⟩ => by
    subst ev
    obtain ⟨h1, R, ds, r, m, h2, h3, h4, h5⟩ := law_spD (E := E) hO hS (h ns hl hb)
    exact ⟨h1, R, ds, r, m, h2, h3, h4, fun v R' H' e => by rw [h5 v R' H' e]; exact q H'⟩
  exact ⟨fun vs H Q E z => G.len _ _ _ _ (key vs H Q E z), fun A outer s H args us vs Q E hr e b r z => G.run A outer s H args us vs Q E hr e b r (key vs H Q E z)⟩
theorem walkT {l : PySem.W.OpenLaw} {n k : Nat} {q : Program} {loose : List Str} {XP : (Str → Option Value) → Heap → Prop} {YP : World → Heap → Prop} {d : DefRec} {K : Params → PySem.W.Frag} {x : Str}
    (hn : l.most = some n) (hn2 : n ≤ sizeLine) (hdf : d.params.defaults = []) (hr : DVG.Rm bb k callerA) (hY : ∀ (w : World) (h : Heap), YP w h → (K w.params).In h)
    (G : ∀ (w : World) (mg : Str → Option Value) (fa : Addr) (h : Heap), (K w.params).In h → h.Ns mainGlobals mg → mg d.name = some (.ref fa) →
      ∃ fd : FuncData, (∀ (s : Shared) (u : Value), BindsTo s fd ⟨[u], []⟩ [(x, u)]) ∧ ∀ base : Heap, (K w.params).In base → base.Ns mainGlobals mg → DVG.FnG bb l.prog w (K w.params) mg base CX0 k fa fd [x] (spT (K w.params) n)) :
    PySem.W.WalkO q loose XP YP l.row.toRowW d [] (fun f vs => PySem.call f vs) :=
  DVG.walkG (CX := fun _ => CX0) (sp := fun w => spT (K w.params) n) hn hn2 hdf hr hY G (fun w H a ns hl hb hO hS => ⟨a, ns, rfl, hO, hS, hl, hb, fun _ => rfl⟩) (fun _ _ _ _ _ z => z)
end
end DV

/-! DV17: rewriting rules for classes, enumerate, range down. -/
namespace DV
open PySem PySem.Spec PyProof.Rows L2
section
variable {δ δ1 : Env} {o : O} {d d1 d2 : D} {b : Bool} {i j n : Nat} {os : List O} {ds es : List D} {ks ls : List Str} {C : Addr} {f m : Str}
def eu1 (x : Option (List D × Env)) : Option (List D × Env) := x.bind fun p => match p.1 with
  | [.lst ds] => some (enumD 0 ds, p.2)
  | [.tup ds] => some (enumD 0 ds, p.2)
  | _ => none
theorem h_eu {fa : MAD} : enumU fa δ = eu1 (fa δ) := id rfl
theorem h_eu1 : eu1 (some ([.lst ds], δ)) = some (enumD 0 ds, δ) := id rfl
theorem h_eu2 : eu1 (some ([.tup ds], δ)) = some (enumD 0 ds, δ) := id rfl
def r31 (x : Option (List O × Env)) : Option (List D × Env) := x.bind fun p => match p.1 with
  | [.dat (.int i), .dat (.int j), .dat (.int c)] => if (decide (-(2 ^ 62) ≤ i) && decide (i < 2 ^ 62) && (decide (-(2 ^ 62) ≤ j) && decide (j < 2 ^ 62)) && decide (c = -1)) = true then some (downD i (i - j).toNat, p.2) else none
  | _ => none
theorem h_r3 {fa : MA} : rng3 fa δ = r31 (fa δ) := id rfl
theorem h_r31 {k l : Int} (h : -100000 ≤ k ∧ k ≤ 100000) (h2 : -100000 ≤ l ∧ l ≤ 100000) : r31 (some ([.dat (.int k), .dat (.int l), .dat (.int (-1))], δ)) = some (downD k (k - l).toNat, δ) := by
  show (if _ then _ else _) = _
  rw [decide_eq_true (show -(2 ^ 62) ≤ k by omega), decide_eq_true (show k < 2 ^ 62 by omega), decide_eq_true (show -(2 ^ 62) ≤ l by omega), decide_eq_true (show l < 2 ^ 62 by omega)]
  rfl
def fd1 (C : Addr) (f : Str) (x : Option (O × Env)) : Option (O × Env) := x.bind fun p => (deref p.2 p.1).bind fun d => (fldG C f d).bind fun x => some (.dat x, p.2)
def fd2 (C : Addr) (f : Str) (δ : Env) (x : Option D) : Option (O × Env) := x.bind fun d => (fldG C f d).bind fun x => some (.dat x, δ)
def fd3 (δ : Env) (x : Option D) : Option (O × Env) := x.bind fun x => some (.dat x, δ)
theorem h_fd {fo : ME} : fldE C f fo δ = fd1 C f (fo δ) := id rfl
theorem h_fd1 : fd1 C f (some (o, δ)) = fd2 C f δ (deref δ o) := id rfl
theorem h_fd2 : fd2 C f δ (some (.ins C ks ds)) = fd3 δ ((ks.zip ds).lookup f) := by
  show (fldG C f (.ins C ks ds)).bind _ = _
  simp only [fldG, if_true]; rfl
theorem h_fd3 : fd3 δ (some d) = some (.dat d, δ) := id rfl
def fs1 (C : Addr) (f : Str) (fo : ME) (x : Option (D × Env)) : Option Fl := x.bind fun p => (fo p.2).bind fun q => match q.1 with
  | .own i => match q.2[i]? with
    | some (.own (.ins C' ks ds)) => if (decide (C' = C) && decide (ks.length < 1000)) = true then some (.nx (q.2.set i (.own (.ins C (putK f p.1 ks ds).1 (putK f p.1 ks ds).2)))) else none
    | some (.brw (.ins C' ks ds)) => if (decide (C' = C) && decide (ks.length < 1000)) = true then some (.nx (q.2.set i (.brw (.ins C (putK f p.1 ks ds).1 (putK f p.1 ks ds).2)))) else none
    | _ => none
  | _ => none
def fs3 (C : Addr) (f : Str) (d : D) (i : Nat) (δ : Env) : Option Sl → Option Fl
  | some (.own (.ins C' ks ds)) => if (decide (C' = C) && decide (ks.length < 1000)) = true then some (.nx (δ.set i (.own (.ins C (putK f d ks ds).1 (putK f d ks ds).2)))) else none
  | some (.brw (.ins C' ks ds)) => if (decide (C' = C) && decide (ks.length < 1000)) = true then some (.nx (δ.set i (.brw (.ins C (putK f d ks ds).1 (putK f d ks ds).2)))) else none
  | _ => none
def fs2 (C : Addr) (f : Str) (d : D) (x : Option (O × Env)) : Option Fl := x.bind fun q => match q.1 with
  | .own i => fs3 C f d i q.2 q.2[i]?
  | _ => none
theorem h_fs {fv : MD} {fo : ME} : fldS C f fv fo δ = fs1 C f fo (fv δ) := id rfl
theorem h_fs1 {fo : ME} : fs1 C f fo (some (d, δ)) = fs2 C f d (fo δ) := id rfl
theorem h_fs2 : fs2 C f d (some (.own i, δ)) = fs3 C f d i δ δ[i]? := id rfl
theorem h_fs3 (h : ks.length < 1000) : fs3 C f d i δ (some (.brw (.ins C ks ds))) = some (.nx (δ.set i (.brw (.ins C (putK f d ks ds).1 (putK f d ks ds).2)))) := by
  show (if _ then _ else _) = _
  rw [if_pos (by simp [h])]
def mk1 (C : Addr) (n : Nat) (f : FD) (dds : List D) (x : Option (List D × Env)) : Option (O × Env) := x.bind fun p => if (decide ((p.1 ++ dds).length + 1 = n)) = true then (f (.ins C [] [] :: (p.1 ++ dds))).bind fun q => match q.1 with
  | .dat .non => some (.fre q.2, p.2)
  | _ => none
  else none
def mk2 (δ : Env) (x : Option (Ret × D)) : Option (O × Env) := x.bind fun q => match q.1 with
  | .dat .non => some (.fre q.2, δ)
  | _ => none
theorem h_mk {g : FD} {fa : MAD} : makeE C n g es fa δ = mk1 C n g es (fa δ) := id rfl
theorem h_mk1 {g : FD} (h : ds.length + 1 = n) : mk1 C n g [] (some (ds, δ)) = mk2 δ (g (.ins C [] [] :: ds)) := by
  show (if _ then _ else _) = _
  rw [if_pos (by rw [List.append_nil]; exact decide_eq_true h), List.append_nil]
  rfl
theorem h_mk2 : mk2 δ (some (.dat .non, d)) = some (.fre d, δ) := id rfl
def me1 (C : Addr) (m : Str) (call : List O → Env → Option (O × Env)) (dds : List D) (fa : MA) (x : Option (O × Env)) : Option (O × Env) := x.bind fun p => (deref p.2 p.1).bind fun d => if insB C m d = true then
  (fa p.2).bind fun q => call (p.1 :: (q.1 ++ dds.map .dat)) q.2 else none
def me2 (C : Addr) (m : Str) (call : List O → Env → Option (O × Env)) (dds : List D) (fa : MA) (o : O) (δ : Env) (x : Option D) : Option (O × Env) := x.bind fun d => if insB C m d = true then
  (fa δ).bind fun q => call (o :: (q.1 ++ dds.map .dat)) q.2 else none
def me3 (call : List O → Env → Option (O × Env)) (o : O) (x : Option (List O × Env)) : Option (O × Env) := x.bind fun q => call (o :: (q.1 ++ ([] : List D).map .dat)) q.2
theorem h_me {call : List O → Env → Option (O × Env)} {fo : ME} {fa : MA} : methE C m call es fo fa δ = me1 C m call es fa (fo δ) := id rfl
theorem h_me1 {call : List O → Env → Option (O × Env)} {fa : MA} : me1 C m call es fa (some (o, δ)) = me2 C m call es fa o δ (deref δ o) := id rfl
theorem h_me2 {call : List O → Env → Option (O × Env)} {fa : MA} (h : insB C m d = true) : me2 C m call [] fa o δ (some d) = me3 call o (fa δ) := if_pos h
theorem h_me3 {call : List O → Env → Option (O × Env)} : me3 call o (some (os, δ)) = call (o :: os) δ := by
  show call (o :: (os ++ [])) δ = _
  rw [List.append_nil]
theorem h_io : isOwnG C [.ins C ks ds, .con (.ref C)] = some (.dat (.bl true)) := by
  unfold isOwnG
  simp [insAt]
def eo1 (x : Option (Ret × D)) : Option O := (boolR x).bind fun b => some (.dat (.bl b))
theorem h_eo {g : FD} : eqOwnG C g (.ins C ks ds) (.ins C ls es) = eo1 (g [.ins C ks ds, .ins C ls es]) := by
  unfold eqOwnG
  rw [if_pos (by simp [insAt])]; rfl
theorem h_no {g : FD} : inOwnG C g d (.ins C ls es) = eo1 (g [.ins C ls es, d]) := by
  unfold inOwnG
  rw [if_pos (by simp [insAt])]; rfl
theorem h_eo1 : eo1 (some (.dat (.bl b), d)) = some (.dat (.bl b)) := id rfl
theorem is_tl : isTG [.lst ds, .tup [.con (.ty "list"), .con (.ty "tuple")]] = some (.dat (.bl true)) := by
  show ((tyOf (.lst ds)).bind fun t => (kitB t "list").bind fun b1 => (kitB t "tuple").bind fun b2 => some (O.dat (.bl (b1 || b2)))) = _
  have e : kitB "list" "tuple" = some false := by decide +kernel
  simp only [tyOf, Option.bind_some, kit_list_list, e, Bool.true_or]
theorem is_tt : isTG [.tup ds, .tup [.con (.ty "list"), .con (.ty "tuple")]] = some (.dat (.bl true)) := by
  show ((tyOf (.tup ds)).bind fun t => (kitB t "list").bind fun b1 => (kitB t "tuple").bind fun b2 => some (O.dat (.bl (b1 || b2)))) = _
  have e : kitB "tuple" "list" = some false := by decide +kernel
  have e2 : kitB "tuple" "tuple" = some true := by decide +kernel
  simp only [tyOf, Option.bind_some, e, e2, Bool.or_true]
theorem iz_int (i : Int) : isG [.int i, .con (.ty "int")] = some (.dat (.bl true)) := by
  show ((tyOf (.int i)).bind fun t => (kitB t "int").bind fun b => some (O.dat (.bl b))) = _
  simp only [tyOf, Option.bind_some, kit_int_int]
theorem iz_bool (i : Int) : isG [.int i, .con (.ty "bool")] = some (.dat (.bl false)) := by
  show ((tyOf (.int i)).bind fun t => (kitB t "bool").bind fun b => some (O.dat (.bl b))) = _
  simp only [tyOf, Option.bind_some, kit_int_bool]
end
theorem toTup_ints (ns : List Int) : toPd (.tup (ns.map .int)) = some (.tuple (ns.map PyData.int)) := by simp only [toPd, toPds_int, Option.bind_some]
theorem repr_tints (ns : List Int) (hl : ns.length ≤ 1000) (h : ∀ n ∈ ns, 0 ≤ n ∧ n ≤ 1000) : ∃ x : Str, reprG [.tup (ns.map .int)] = some (.dat (.str x)) := by
  have hlay : PyData.layable0 (.tuple (ns.map PyData.int)) = true := by
    simp only [PyData.layable0, PyData.canLay0, canAll_int, PyData.depth, dep_int, PyData.weight, Bool.true_and, Bool.and_eq_true, decide_eq_true_eq]
    have e := iweight ns h
    exact ⟨by decide, decide_eq_true (Nat.le_trans e (Nat.le_trans (Nat.mul_le_mul_left 1002 hl) (by decide)))⟩
  have hlen := PyProof.Rows.shown_le13 hlay (by rw [PyData.intsShort]; exact ishort ns h)
  refine ⟨PyData.shown (.tuple (ns.map PyData.int)), ?_⟩
  have hok : reprOk (.tuple (ns.map PyData.int)) = true := by
    unfold reprOk
    simp only [Bool.and_eq_true, decide_eq_true_eq, Bool.not_eq_true']
    refine ⟨⟨⟨by rw [PyData.showable]; exact ishow ns h, PyData.hasDict_of_layable hlay⟩, ?_⟩, Nat.le_trans hlen (by decide)⟩
    rw [PyData.depth, dep_int]; decide
  unfold reprG
  simp only [toTup_ints, Option.bind_some, hok, if_true]
theorem g_eqTs (xs ys : List Int) : eqG (.tup (xs.map .int)) (.tup (ys.map .int)) = some (.dat (.bl (decide (xs = ys)))) := by unfold eqG; rw [eqB_tints]; rfl
end DV

/-! DVK: calls with keywords in any order, keyword-only defaults that lack. -/
namespace DV
open PySem PySem.Spec PyProof.Rows L2
def pick {α : Type} (idx : List Nat) (xs : List α) : List α := idx.filterMap fun i => xs[i]?
theorem pick_vals : ∀ (idx : List Nat) {vs : List V} {us : List Value}, Vals vs us → Vals (pick idx vs) (pick idx us)
  | [], _, _, _ => .nil
  | i :: idx, vs, us, r => by
    have ih := pick_vals idx r
    unfold pick at ih ⊢
    rw [List.filterMap_cons, List.filterMap_cons]
    cases e : vs[i]? with
    | none =>
      have e2 : us[i]? = none := by
        rw [List.getElem?_eq_none_iff] at e ⊢
        rw [← r.length]; exact e
      rw [e2]
      exact ih
    | some v =>
      obtain ⟨u, hu, ru⟩ := r.get e
      rw [hu]
      exact .cons ru ih
section
variable {K : PySem.W.Frag} {F : Fx} {R R1 R2 R' : Reg} {H H1 H' : Hp} {δ δ1 δ' : Env} {σ σ' : L2.St}
theorem pick_os : ∀ (idx : List Nat) {os : List O} {vs : List V}, RepOs K F R H δ σ os vs → RepOs K F R H δ σ (pick idx os) (pick idx vs)
  | [], _, _, _ => rfl
  | i :: idx, os, vs, r => by
    have ih := pick_os idx r
    unfold pick at ih ⊢
    rw [List.filterMap_cons, List.filterMap_cons]
    cases e : os[i]? with
    | none =>
      have e2 : vs[i]? = none := by
        rw [List.getElem?_eq_none_iff] at e ⊢
        rw [← r.length]; exact e
      rw [e2]
      exact ih
    | some o =>
      have hi : i < vs.length := by rw [← r.length]; exact (List.getElem?_eq_some_iff.mp e).1
      have hv : vs[i]? = some vs[i] := List.getElem?_eq_getElem hi
      rw [hv]
      exact ⟨_, _, rfl, r.get e hv, ih⟩
end
/-- how a call with n values by place and the keywords ks binds; ms: what lacks -/
def KwP (K : PySem.W.Frag) (fd : FuncData) (ps : List Str) (n : Nat) (ks : List Str) (idx : List Nat) (ms : List V) : Prop := ∃ g : List Value → List Value → List Value, KBn K fd ps n ks g fun vs zs => pick idx (vs ++ (ms ++ zs))
theorem kwP {K : PySem.W.Frag} {x qual : Str} {params : Arguments} {body : List Stmt} {scope : Scope} {kws : List (Str × V)} {f : Addr} {fd : FuncData} {ps : List Str} (F : FunD K x qual params body scope [] kws f fd) (n : Nat) (ks : List Str) (ms : List (Str × V)) (idx : List Nat) (hk : kws ≠ []) (hms : ∀ q ∈ ms, q ∈ kws)
    (h : ∀ (D : Addr) (doc pm : Value) (an : Option Addr) (cdv ct : Value) (us mv ws : List Value), us.length = n → mv.length = ms.length → ws.length = ks.length →
      KwChain D ((ms.map (·.1)).zip mv) (bindArgs (PySem.W.fnOf x qual params body scope .none (.ref D) doc pm an cdv ct) ⟨us, ks.zip ws⟩) (ps.zip (pick idx (us ++ (mv ++ ws))))) : KwP K fd ps n ks idx (ms.map (·.2)) := by
  obtain ⟨mv, hb⟩ := F.kbinds0 n ks ms (fun us mv ws => pick idx (us ++ (mv ++ ws))) hk hms (fun r1 r2 r3 => pick_vals idx (r1.append (r2.append r3))) h
  exact ⟨_, hb⟩
/-- the same where no parameter has a default -/
theorem kwP0 {K : PySem.W.Frag} {x qual : Str} {st : Stmt} {f : Addr} {fd : FuncData} {ps : List Str} (F : L2.Fun K x qual st f fd) (n : Nat) (ks : List Str) (idx : List Nat)
    (h : ∀ (kV doc pm : Value) (an : Option Addr) (cdv ct : Value) (us ws : List Value), us.length = n → ws.length = ks.length →
      bindArgs (PySem.W.fnOf x qual (defArgs st) (defBody st) (defScope st) .none kV doc pm an cdv ct) ⟨us, ks.zip ws⟩ = pure (ps.zip (pick idx (us ++ ws)))) : KwP K fd ps n ks idx [] := by
  obtain ⟨_, _, kV, doc, pm, an, cdv, ct, _, e, _, _⟩ := F.ex
  subst e
  exact ⟨fun us ws => pick idx (us ++ ([] ++ ws)), ⟨fun s us ws _ l1 l2 => BindsTo.of_eq (h kV doc pm an cdv ct us ws l1 l2), fun {vs us zs ws} r1 r2 => pick_vals idx (r1.append (show Vals ([] ++ zs) ([] ++ ws) from r2))⟩⟩
end DV
namespace DVG
open PySem PySem.Spec PyProof.Rows L2
section
variable {X : Cx} {CX : CXT} {k n : Nat} {f : Addr} {fd : FuncData} {ps ks : List Str} {sp : Sp} {E : XK} {x : Str} {p pos : Pos} {e : Expr} {es : List Expr} {kws : List Keyword} {t tk : TA} {idx : List Nat} {ms : List V}
theorem callGN {pins : List (Addr × Obj)} {σ : L2.St} {H : Hp} {s : Shared} {Q : VK} {us ws : List Value} {vs zs : List V} {g : List Value → List Value → List Value} {gV : List V → List V → List V} (F : FnG bb X.prog X.w X.K X.mg X.base CX k f fd ps sp) (hr : Rm bb k X.A) (hb : KBn X.K fd ps n ks g gV) (hx : Passes CX X E)
    (I : Inv X pins σ H s) (r : Vals vs us) (rz : Vals zs ws) (l1 : vs.length = n) (l2 : zs.length = ks.length) (h : sp (gV vs zs) H Q E) : wpAny (model X.prog X.w) X.A (call (.ref f) us (ks.zip ws)) (EP X pins σ Q) X.xe s := by
  have r2 := hb.rel r rz
  refine wpAny_call (codeAny_mono (F.run X.A X.stack s H ⟨us, ks.zip ws⟩ (g us ws) (gV vs zs) Q E hr I.env0 (hb.to s us ws I.kIn (r.length.symm.trans l1) (rz.length.symm.trans l2)) r2 h) fun r s' z => ?_)
  revert z
  match r with
  | .error _ => exact fun z => back hx I z
  | .ok (.ret _) => exact fun z => back hx I z
  | .ok .next => exact fun z => (back hx I z).elim
  | .ok .brk => exact fun z => (back hx I z).elim
  | .ok .cont => exact fun z => (back hx I z).elim
/-- f(e, .., k = v, ..) -/
theorem pe_callGN (F : FnG bb X.prog X.w X.K X.mg X.base CX k f fd ps sp) (hr : Rm bb k X.A) (hg : Gl X x) (hm : X.mg x = some (.ref f)) (hk : PySem.W.keepIn X.K (.ref f) = true) (hb : DV.KwP X.K fd ps n ks idx ms) (hx : Passes CX X E) (ha : PA X (e :: es) t) (hkw : PK X kws tk)
    (hall : (backToKw pos (keywordEach kws X.env)).all (·.1.isSome) = true := by rfl) (hks : (backToKw pos (keywordEach kws X.env)).filterMap (·.1) = ks := by rfl) (hdb : (x == ("__debug__" : Str)) = false := by decide)
    (he : starEach (e :: es) X.env = (false, eval e X.env) :: starEach es X.env := by rfl) (hpl : ((backTo pos (starEach (e :: es) X.env)).any (·.1) || (backToKw pos (keywordEach kws X.env)).any (·.1.isNone)) = false := by rfl) :
    PE X (.Call (.Name x p) (e :: es) kws pos) (tCallN n ks.length sp (fun vs zs => DV.pick idx (vs ++ (ms ++ zs))) E t tk) := by
  obtain ⟨g, hb⟩ := hb
  constructor
  intro pins s σ H Q I h
  refine wpAny_Call_Name_kw (ld_glob I hg hm ?_ hdb)
  refine PySem.W.callWith_KW (h₀ := X.base) I.ok.mod.kin hk hall (thn (ha.run pos pins s σ H _ I h) fun us s1 ⟨vs, H1, I1, r, q⟩ => ?_) hpl he
  refine thn (hkw.run pos pins s1 σ H1 _ I1 q) fun ws s2 ⟨zs, H2, I2, rz, l1, l2, q2⟩ => ⟨I2.kIn, ?_⟩
  rw [hks]
  exact callGN F hr hb hx I2 r rz l1 l2 q2
/-- f(k = v, ..) -/
theorem pe_callGN0 (F : FnG bb X.prog X.w X.K X.mg X.base CX k f fd ps sp) (hr : Rm bb k X.A) (hg : Gl X x) (hm : X.mg x = some (.ref f)) (hk : PySem.W.keepIn X.K (.ref f) = true) (hb : DV.KwP X.K fd ps 0 ks idx ms) (hx : Passes CX X E) (hkw : PK X kws tk)
    (hall : (backToKw pos (keywordEach kws X.env)).all (·.1.isSome) = true := by rfl) (hks : (backToKw pos (keywordEach kws X.env)).filterMap (·.1) = ks := by rfl) (hdb : (x == ("__debug__" : Str)) = false := by decide)
    (hpl : ((backTo pos (starEach [] X.env)).any (·.1) || (backToKw pos (keywordEach kws X.env)).any (·.1.isNone)) = false := by rfl) :
    PE X (.Call (.Name x p) [] kws pos) (tCallN 0 ks.length sp (fun vs zs => DV.pick idx (vs ++ (ms ++ zs))) E tNil tk) := by
  obtain ⟨g, hb⟩ := hb
  constructor
  intro pins s σ H Q I h
  refine wpAny_Call_Name_kw (ld_glob I hg hm (PySem.W.callWith_KW0 (h₀ := X.base) I.ok.mod.kin hk hall ?_ hpl) hdb)
  refine thn (hkw.run pos pins s σ H _ I h) fun ws s2 ⟨zs, H2, I2, rz, l1, l2, q2⟩ => ⟨I2.kIn, ?_⟩
  rw [hks]
  exact callGN (us := []) (vs := []) F hr hb hx I2 .nil rz rfl l2 q2
end
end DVG
namespace DV
open PySem PySem.Spec PyProof.Rows L2
section
variable {K : PySem.W.Frag} {F : Fx} {R R1 R2 R' : Reg} {H H1 H' : Hp} {δ δ1 δ' : Env} {σ σ' : L2.St}
def callNE (call : List O → Env → Option (O × Env)) (idx : List Nat) (n m : Nat) (dms : List D) (fa fk : MA) : ME := fun δ => (fa δ).bind fun p => (fk p.2).bind fun q => if (decide (p.1.length = n) && decide (q.1.length = m)) = true then call (pick idx (p.1 ++ (dms.map .dat ++ q.1))) q.2 else none
theorem ev_callN {sp : Sp} {call : List O → Env → Option (O × Env)} {idx : List Nat} {n m : Nat} {dms : List D} {ms : List V} {E : XK} {ta tk : TA} {fa fk : MA} (hc : CallOk K sp call) (hd : ∀ R H, RepVs K R H dms ms) (ha : EvA K ta fa) (hk : EvA K tk fk) :
    Ev K (tCallN n m sp (fun vs zs => pick idx (vs ++ (ms ++ zs))) E ta tk) (callNE call idx n m dms fa fk) := fun F R H δ σ o δ' w hf Q q => by
  obtain ⟨⟨os, δ1⟩, e1, hf1⟩ := Option.bind_eq_some_iff.mp hf
  obtain ⟨⟨zs, δ2⟩, e2, hf2⟩ := Option.bind_eq_some_iff.mp hf1
  dsimp only at hf2
  split at hf2
  case isFalse => cases hf2
  rename_i hn
  rw [Bool.and_eq_true, decide_eq_true_eq, decide_eq_true_eq] at hn
  refine ha F R H δ σ os δ1 w e1 _ fun vs R1 H1 w1 x1 r1 f1 => ?_
  refine hk F R1 H1 δ1 σ zs δ2 w1 e2 _ fun us R2 H2 w2 x2 r2 f2 => ?_
  refine ⟨by rw [← r1.length]; exact hn.1, by rw [← r2.length]; exact hn.2, ?_⟩
  have rr : RepOs K F R2 H2 δ2 σ (os ++ (dms.map .dat ++ zs)) (vs ++ (ms ++ us)) := (r1.ext w1 x2).append ((RepOs.dats (hd R2 H2)).append r2)
  exact hc F R2 H2 δ2 σ _ _ o δ' w2 (pick_os idx rr) hf2 Q E fun v R3 H3 w3 x3 r3 f3 => q v R3 H3 w3 ((x1.trans x2).trans x3) r3 (f3.ext (x1.trans x2))
end
end DV

/-! DVN: a != b by an own __eq__. -/
namespace DVG
open PySem PySem.Spec PyProof.Rows L2
section
variable {prog : Program} {w : World} {A : Around} {E : Value → Shared → Prop} {s : Shared} {K : PySem.W.Frag} {x y C f : Addr} {ox oy : Obj} {od od' : Option Obj}
theorem ne_bound {args : List Value} {Q : Option Value → Shared → Prop} (X : K.In s.heap) (I : PySem.W.InstAt s.heap x ox C od) (hn : PySem.W.findIn K (.ref C) "__ne__" = some (some (.builtin "object.__ne__")))
    (h : wpAny (model prog w) A (call (.builtin "object.__ne__") (.ref x :: args)) (fun v => Q (some v)) E s) : wpAny (model prog w) A (callSpecialIfBound? (.ref x) "__ne__" args) Q E s := by
  unfold callSpecialIfBound? bindSpecialIfBound?
  refine wpAny_holding (wpAny_bind (wpAny_bind (wpAny_bind (I.type.here ((PySem.W.looks_findIn X hn).here ?_)))))
  have fin : wpAny (model prog w) A (call (.builtin "object.__ne__") ([.ref x] ++ args) >>= fun v => pure (some v)) Q E s := wpAny_bind (wpAny_mono h (fun v s' z => wpAny_pure z) fun _ _ z => z)
  refine wpAny_bind (wpAny_askSetting (wpAny_ite ?_))
  split
  · exact wpAny_bind (wpAny_of_eq (F.cmp_object.ne.bind _) (wpAny_pure (by exact fin)))
  · exact wpAny_tryCatch (wpAny_bind (wpAny_of_eq (F.cmp_object.ne.bind _) (wpAny_pure (by exact fin))))
def NeBack (Q : Value → Shared → Prop) (v : Value) (s' : Shared) : Prop := ∃ b, v = .bool b ∧ Q (.bool (!b)) s'
theorem ne_call {Q : Value → Shared → Prop} (hu : A.in1.units < cLine) (X : K.In s.heap) (I : PySem.W.InstAt s.heap x ox C od) (hm : PySem.W.mroIn K C (.type "object") = some true) (hs : PySem.W.findIn K (.ref C) "__eq__" = some (some (.ref f))) (hf : PySem.W.isFn K (.ref f) = true)
    (h : wpAny (model prog w) A.in1 (call (.ref f) [.ref x, .ref y]) (NeBack Q) E s) : wpAny (model prog w) A (call (.builtin "object.__ne__") [.ref x, .ref y]) Q E s := by
  refine wpAny_call (codeAny_call_builtin F.cmp_object.ne.plain F.cmpEntry_ne (PySem.W.check_slot F.cmpKind_ne F.cmpSplit_ne (I.type.andThen (PySem.W.looks_mroIn X hm)) (F.cmpArgs_ne _ _) ?_))
  unfold Builtin.«object.__ne__»
  refine wpAny_bind (m := slotArgs "__ne__" 1 _) (wpAny_pure ?_)
  refine wpAny_bind (wpAny_cRoomFor hu ?_)
  refine wpAny_bind (m := callSpecialIfBound? (.ref x) (Str.ofString "__eq__") [.ref y]) (PySem.W.ifBound_K X I hs hf (wpAny_mono h (fun v s' z => ?_) fun _ _ z => z))
  obtain ⟨b, e, q⟩ := z
  subst e
  refine wpAny_bind (wpAny_truthy_bool ?_)
  exact wpAny_pure q
theorem ne_cmp {Q : Value → Shared → Prop} (hu : A.units + 2 < cLine) (X : K.In s.heap) (I : PySem.W.InstAt s.heap x ox C od) (J : PySem.W.InstAt s.heap y oy C od') (hn : PySem.W.findIn K (.ref C) "__ne__" = some (some (.builtin "object.__ne__"))) (hm : PySem.W.mroIn K C (.type "object") = some true)
    (hs : PySem.W.findIn K (.ref C) "__eq__" = some (some (.ref f))) (hf : PySem.W.isFn K (.ref f) = true) (h : wpAny (model prog w) A.in1 (call (.ref f) [.ref x, .ref y]) (NeBack Q) E s) : wpAny (model prog w) A (richCompare .NotEq (.ref x) (.ref y)) Q E s := by
  have one : wpAny (model prog w) A (tryCompare (.ref x) "__ne__" (.ref y)) (fun r s' => ∃ b, r = some (.bool b) ∧ Q (.bool b) s') E s := by
    unfold tryCompare
    refine wpAny_bind (ne_bound X I hn (wpAny_mono (ne_call (Q := fun v s' => ∃ b, v = .bool b ∧ Q (.bool b) s') (show A.units + 1 < cLine by omega) X I hm hs hf (wpAny_mono h (fun v s' z => ?_) fun _ _ z => z)) (fun v s' z => ?_) fun _ _ z => z))
    · obtain ⟨b, e, q⟩ := z
      exact ⟨b, e, !b, rfl, q⟩
    · obtain ⟨b, e, q⟩ := z
      subst e
      exact wpAny_pure ⟨b, rfl, q⟩
  unfold richCompare
  simp only [oneThing_ref]
  refine wpAny_holding (wpAny_bind (wpAny_cRoomFor (by omega) ?_))
  refine wpAny_bind (I.type.here (wpAny_bind (J.type.here ?_)))
  rw [show (Value.ref C != Value.ref C) = false from by simp]
  simp only [Bool.false_eq_true, if_false]
  refine wpAny_bind (wpAny_pure ?_)
  simp only [Bool.false_eq_true, if_false]
  refine wpAny_bind (wpAny_mono one (fun r s' z => ?_) fun _ _ z => z)
  obtain ⟨b, e, q⟩ := z
  subst e
  exact wpAny_pure q
end
section
variable {X : Cx} {CX : CXT} {k : Nat} {f C : Addr} {fd : FuncData} {ps : List Str} {sp : Sp} {E : XK}
def rOwnNe (C : Addr) (sp : Sp) (E : XK) : R2 := fun x y H Q => AtC C x H ∧ AtC C y H ∧ sp [x, y] H (fun v H' => ∃ b, v = .bl b ∧ Q (.bl (!b)) H') E
theorem op_neOwn (F : FnG bb X.prog X.w X.K X.mg X.base CX k f fd ps sp) (hr : Rm bb (k + 1) X.A) (o : Own X.K C) (hn : PySem.W.findIn X.K (.ref C) "__ne__" = some (some (.builtin "object.__ne__"))) (hs : PySem.W.findIn X.K (.ref C) "__eq__" = some (some (.ref f))) (hf : PySem.W.isFn X.K (.ref f) = true)
    (hb : Binds X.K fd ps []) (hx : Passes CX X E) : OpR X (compareOp .NotEq) (rOwnNe C sp E) := by
  intro pins s σ H x y v u Q I rx ry h
  obtain ⟨⟨a, dx, fs, ex, ha⟩, ⟨b, dy, gs, ey, hb'⟩, q⟩ := h
  subst ex; subst ey
  cases rx
  cases ry
  obtain ⟨mA, oA, _⟩ := ins_get I.hok ha
  obtain ⟨mB, oB, _⟩ := ins_get I.hok hb'
  obtain ⟨od, iA, _⟩ := oA.look
  obtain ⟨od', iB, _⟩ := oB.look
  show wpAny (model X.prog X.w) X.A (richCompare .NotEq (.ref a) (.ref b)) (EP X pins σ Q) X.xe s
  refine ne_cmp (by have := hr.r.un; omega) I.kIn iA iB hn o.mo hs hf (wpAny_mono (callGA (us := [.ref a, .ref b]) (vs := [.ref a, .ref b]) hr.in1 rfl F hb hx I (.cons rfl (.cons rfl .nil)) q) (fun r s' z => ?_) fun _ _ z => z)
  obtain ⟨w, H', I', rw', bb, ew, qq⟩ := z
  subst ew
  cases rw'
  exact ⟨bb, rfl, V.bl (!bb), H', I', rfl, qq⟩
end
end DVG
namespace DV
open PySem PySem.Spec PyProof.Rows L2
section
variable {K : PySem.W.Frag}
def neOwnG (C : Addr) (F2 : FD) (d1 d2 : D) : Option O := if (insAt C d1 && insAt C d2) = true then (boolR (F2 [d1, d2])).bind fun b => some (.dat (.bl (!b))) else none
theorem k_neOwn {C : Addr} {F2 : FD} {E : XK} : OpOk K (DVG.rOwnNe C (spD K none 2 F2) E) (neOwnG C F2) := fun F R H δ σ d1 d2 v1 v2 res w r1 r2 hg Q q => by
  unfold neOwnG at hg
  split at hg
  · rename_i hi
    rw [Bool.and_eq_true] at hi
    obtain ⟨b, e1, hg⟩ := Option.bind_eq_some_iff.mp hg
    cases hg
    obtain ⟨m, e2⟩ := boolR_inv e1
    have t := two_bool (E := E) w r1 r2 e2 (fun v H' => ∃ b, v = .bl b ∧ Q (.bl (!b)) H') fun R' H' w' x' => ⟨b, rfl, q _ R' H' w' x' rfl trivial⟩
    obtain ⟨t1, R2, ds, r, m2, t2, t3, t4, t5⟩ := t
    exact ⟨at_of hi.1 r1, at_of hi.2 r2, t1, R2, ds, r, m2, t2, t3, t4, fun v R' H' e => let ⟨_, _, z⟩ := t5 v R' H' e; z⟩
  · cases hg
end
end DV

/-! DV18: rewriting rules for keyword calls and for !=. -/
namespace DV
open PySem PySem.Spec PyProof.Rows L2
section
variable {δ δ1 : Env} {o : O} {d : D} {b : Bool} {i n m : Nat} {os zs : List O} {ds es : List D} {ks ls : List Str} {C : Addr} {idx : List Nat} {call : List O → Env → Option (O × Env)}
def apd (ds : List D) (zs : List O) : List O := ds.map .dat ++ zs
def apo (os zs : List O) : List O := os ++ zs
theorem h_apd0 : apd [] zs = zs := id rfl
theorem h_apd1 : apd (d :: ds) zs = .dat d :: apd ds zs := id rfl
theorem h_apo0 : apo [] zs = zs := id rfl
theorem h_apo1 : apo (o :: os) zs = o :: apo os zs := id rfl
def cn1 (call : List O → Env → Option (O × Env)) (idx : List Nat) (n m : Nat) (dms : List D) (fk : MA) (x : Option (List O × Env)) : Option (O × Env) := x.bind fun p => (fk p.2).bind fun q => if (decide (p.1.length = n) && decide (q.1.length = m)) = true then call (pick idx (p.1 ++ (dms.map .dat ++ q.1))) q.2 else none
def cn2 (call : List O → Env → Option (O × Env)) (idx : List Nat) (n m : Nat) (dms : List D) (os : List O) (x : Option (List O × Env)) : Option (O × Env) := x.bind fun q => if (decide (os.length = n) && decide (q.1.length = m)) = true then call (pick idx (os ++ (dms.map .dat ++ q.1))) q.2 else none
theorem h_cn {fa fk : MA} : callNE call idx n m ds fa fk δ = cn1 call idx n m ds fk (fa δ) := id rfl
theorem h_cn1 {fk : MA} : cn1 call idx n m ds fk (some (os, δ)) = cn2 call idx n m ds os (fk δ) := id rfl
theorem h_cn2 (h : os.length = n) (h2 : zs.length = m) : cn2 call idx n m ds os (some (zs, δ)) = call (pick idx (apo os (apd ds zs))) δ := by
  show (if _ then _ else _) = _
  rw [if_pos (by simp [h, h2])]
  rfl
def pk1 {α : Type} (x : Option α) (l : List α) : List α := match x with
  | some y => y :: l
  | none => l
theorem h_pk0 {α : Type} {xs : List α} : pick [] xs = [] := id rfl
theorem h_pk1 {α : Type} {xs : List α} : pick (i :: idx) xs = pk1 xs[i]? (pick idx xs) := by
  unfold pick pk1
  rw [List.filterMap_cons]
  cases xs[i]? <;> rfl
theorem h_pk2 {α : Type} {x : α} {l : List α} : pk1 (some x) l = x :: l := id rfl
def no1 (x : Option (Ret × D)) : Option O := (boolR x).bind fun b => some (.dat (.bl (!b)))
theorem h_nw {g : FD} : neOwnG C g (.ins C ks ds) (.ins C ls es) = no1 (g [.ins C ks ds, .ins C ls es]) := by
  unfold neOwnG
  rw [if_pos (by simp [insAt])]; rfl
theorem h_nw1 : no1 (some (.dat (.bl b), d)) = some (.dat (.bl (!b))) := id rfl
end
/-! ### repr of small data -/
/-- None, a truth value, a number to 1000 -/
def Sc (d : D) : Prop := d = .non ∨ (∃ b, d = .bl b) ∨ ∃ i, d = .int i ∧ 0 ≤ i ∧ i ≤ 1000
theorem sc_pd {d : D} (h : Sc d) : ∃ p, toPd d = some p ∧ PyData.canLay0 p = true ∧ PyData.depth p = 0 ∧ PyData.weight p ≤ 1001 ∧ PyData.intsShort 13 p = true ∧ PyData.showable p = true := by
  rcases h with rfl | ⟨b, rfl⟩ | ⟨i, rfl, h0, h1⟩
  · exact ⟨_, rfl, rfl, rfl, Nat.zero_le _, rfl, rfl⟩
  · exact ⟨_, rfl, rfl, rfl, Nat.zero_le _, rfl, rfl⟩
  · refine ⟨.int i, rfl, rfl, rfl, ?_, ?_, ?_⟩
    · have := iweight [i] (by intro n hn; rw [List.mem_singleton] at hn; omega)
      simp only [List.map_cons, List.map_nil, PyData.weightAll, List.length_cons, List.length_nil] at this
      omega
    · rw [PyData.intsShort]; exact decide_eq_true (short_int h0 h1)
    · have := ishow [i] (by intro n hn; rw [List.mem_singleton] at hn; omega)
      simpa [PyData.showableAll] using this
theorem repr_of {d : D} {p : PyData} (e : toPd d = some p) (hlay : PyData.layable0 p = true) (hs : PyData.intsShort 13 p = true) (hw : PyData.showable p = true) (hd : p.depth ≤ 64) : ∃ x : Str, reprG [d] = some (.dat (.str x)) := by
  have hlen := PyProof.Rows.shown_le13 hlay hs
  refine ⟨PyData.shown p, ?_⟩
  have hok : reprOk p = true := by
    unfold reprOk
    simp only [Bool.and_eq_true, decide_eq_true_eq, Bool.not_eq_true']
    exact ⟨⟨⟨hw, PyData.hasDict_of_layable hlay⟩, hd⟩, Nat.le_trans hlen (by decide)⟩
  unfold reprG
  simp only [e, Option.bind_some, hok, if_true]
theorem repr_sc {d : D} (h : Sc d) : ∃ x : Str, reprG [d] = some (.dat (.str x)) := by
  obtain ⟨p, e, h1, h2, h3, h4, h5⟩ := sc_pd h
  refine repr_of e ?_ h4 h5 (by rw [h2]; decide)
  simp only [PyData.layable0, h1, h2, Bool.true_and, Bool.and_eq_true, decide_eq_true_eq]
  exact ⟨by decide, Nat.le_trans h3 (by decide)⟩
theorem repr_two {d1 d2 : D} (g1 : Sc d1) (g2 : Sc d2) : ∃ x : Str, reprG [.lst [d1, d2]] = some (.dat (.str x)) := by
  obtain ⟨p, e, h1, h2, h3, h4, h5⟩ := sc_pd g1
  obtain ⟨q, e', k1, k2, k3, k4, k5⟩ := sc_pd g2
  have ee : toPd (.lst [d1, d2]) = some (.list [p, q]) := by
    simp only [toPd, toPds, e, e', Option.bind_some]
  refine repr_of ee ?_ ?_ ?_ ?_
  · simp only [PyData.layable0, PyData.canLay0, PyData.canLayAll0, h1, k1, PyData.depth, PyData.depthAll, h2, k2, PyData.weight, PyData.weightAll, Bool.true_and, Bool.and_self, Bool.and_eq_true, decide_eq_true_eq]
    exact ⟨by decide, decide_eq_true (show _ ≤ 2 ^ 20 by omega)⟩
  · rw [PyData.intsShort, PyData.intsShortAll, PyData.intsShortAll, PyData.intsShortAll, h4, k4]; rfl
  · rw [PyData.showable, PyData.showableAll, PyData.showableAll, PyData.showableAll, h5, k5]; rfl
  · rw [PyData.depth, PyData.depthAll, PyData.depthAll, PyData.depthAll, h2, k2]; decide
end DV

/-! DVZ: zip of two lists or two tuples. -/
namespace DV
open PySem PySem.Spec PyProof.Rows L2
section
variable {K : PySem.W.Frag}
def zipD : List D → List D → List D
  | d :: ds, e :: es => .tup [d, e] :: zipD ds es
  | _, _ => []
theorem zipD_get : ∀ {ds es : List D} {i : Nat} {e : D}, (zipD ds es)[i]? = some e → ∃ d d', ds[i]? = some d ∧ es[i]? = some d' ∧ e = .tup [d, d']
  | [], _, i, _, h => by simp [zipD] at h
  | _ :: _, [], i, _, h => by simp [zipD] at h
  | d :: ds, d' :: es, 0, e, h => by simp [zipD] at h; exact ⟨d, d', rfl, rfl, h.symm⟩
  | d :: ds, d' :: es, i + 1, e, h => by
    obtain ⟨x, y, h1, h2, h3⟩ := zipD_get (ds := ds) (es := es) (i := i) (by simpa [zipD] using h)
    exact ⟨x, y, by simpa using h1, by simpa using h2, h3⟩
theorem zipD_len : ∀ {ds es : List D}, (zipD ds es).length = min ds.length es.length
  | [], _ => by simp [zipD]
  | _ :: _, [] => by simp [zipD]
  | d :: ds, e :: es => by simp only [zipD, List.length_cons, zipD_len]; omega
def zipU (fa : MAD) : MI := fun δ => (fa δ).bind fun p => match p.1 with
  | [.lst ds, .lst es] => some (zipD ds es, p.2)
  | [.tup ds, .tup es] => some (zipD ds es, p.2)
  | _ => none
theorem it_zip {J : It} {R : Reg} {H : Hp} {Sq1 Sq2 : Hp → List V → Prop} {ds es : List D} {us us' : List V} (rs : RepVs K R H ds us) (rs' : RepVs K R H es us') (sq : ∀ R' H', Keep R H R' H' → Sq1 H' us) (sq' : ∀ R' H', Keep R H R' H' → Sq2 H' us')
    (hgo : ∀ i H' x y, Sq1 H' us → Sq2 H' us' → us[i]? = some x → us'[i]? = some y → J.go i H') (hst : ∀ i H', Sq1 H' us → Sq2 H' us' → us.length ≤ i ∨ us'.length ≤ i → J.stop i H')
    (hy : ∀ i H' v H'', J.yld i H' v H'' → ∃ T x y, v = .ref T ∧ H' T = none ∧ H'' = upd H' T (.tup [x, y]) ∧ (Sq1 H' us → us[i]? = some x) ∧ (Sq2 H' us' → us'[i]? = some y)) : ItOk K J R H (zipD ds es) := fun R' H' k F' δ' σ' w' i => by
  have h1 := sq R' H' k
  have h2 := sq' R' H' k
  refine ⟨fun d hd => ?_, fun hl => hst i H' h1 h2 (by rw [← rs.length, ← rs'.length]; rw [zipD_len] at hl; omega)⟩
  obtain ⟨d0, d1, hd0, hd1, rfl⟩ := zipD_get hd
  obtain ⟨u, hu, ru⟩ := rs.get hd0
  obtain ⟨u', hu', ru'⟩ := rs'.get hd1
  refine ⟨hgo i H' u u' h1 h2 hu hu', fun x H'' y => ?_⟩
  obtain ⟨T, x', y', e3, hT, e4, e5, e6⟩ := hy i H' x H'' y
  subst e3; subst e4
  have e7 := e5 h1
  have e8 := e6 h2
  rw [hu] at e7; cases e7
  rw [hu'] at e8; cases e8
  exact ⟨w'.alloc hT, Grow.new hT, T, _, rfl, .of upd_same, u, [u'], rfl, RepV.keep (k.trans (Grow.new hT).keep) ru, u', [], rfl, RepV.keep (k.trans (Grow.new hT).keep) ru', rfl⟩
theorem i_zipU {ta : TA} {fa : MAD} (h : EvAD K ta fa) : EvI K (RZ.iZipA K ta) (zipU fa) := fun F R H δ σ ds δ' w hf Q q => by
  obtain ⟨⟨os, δ1⟩, e1, hf⟩ := Option.bind_eq_some_iff.mp hf
  refine h F R H δ σ os δ1 w e1 _ fun vs R1 H1 w1 x1 r1 => ?_
  dsimp only at hf
  split at hf
  · cases hf
    obtain ⟨v, r, e, ⟨a, us, e2, ra, h1, rs⟩, v', r', e', ⟨a', us', e2', ra', h1', rs'⟩, r3⟩ := r1
    have : r' = [] := r3
    subst this; subst e'; subst e2; subst e2'
    exact ⟨a, a', us, us', e, .inl ⟨.of h1, .of h1', q _ R1 H1 w1 x1 (it_zip (Sq1 := fun H' xs => SqL K H' a xs) (Sq2 := fun H' xs => SqL K H' a' xs) rs rs' (fun R' H' k => k.seqL ra (.of h1)) (fun R' H' k => k.seqL ra' (.of h1')) (fun i H' x y hs hs' hx hy => ⟨us, us', x, y, hs, hs', hx, hy⟩) (fun i H' hs hs' hl => ⟨us, us', hs, hs', hl⟩) (fun i H' v H'' ⟨T, x, y, e1, e2, e3, e4, e5⟩ => ⟨T, x, y, e1, e2, e3, e4 us, e5 us'⟩))⟩⟩
  · cases hf
    obtain ⟨v, r, e, ⟨a, us, e2, h1, rs⟩, v', r', e', ⟨a', us', e2', h1', rs'⟩, r3⟩ := r1
    have : r' = [] := r3
    subst this; subst e'; subst e2; subst e2'
    exact ⟨a, a', us, us', e, .inr ⟨h1, h1', q _ R1 H1 w1 x1 (it_zip (Sq1 := fun H' xs => SqT K H' a xs) (Sq2 := fun H' xs => SqT K H' a' xs) rs rs' (fun R' H' k => k.seqT h1) (fun R' H' k => k.seqT h1') (fun i H' x y hs hs' hx hy => ⟨us, us', x, y, hs, hs', hx, hy⟩) (fun i H' hs hs' hl => ⟨us, us', hs, hs', hl⟩) (fun i H' v H'' ⟨T, x, y, e1, e2, e3, e4, e5⟩ => ⟨T, x, y, e1, e2, e3, e4 us, e5 us'⟩))⟩⟩
  · cases hf
end
end DV

/-! DVO: a + b by an own __add__; a[b] by an own __getitem__, on data. -/
namespace DVG
open PySem PySem.Spec PyProof.Rows L2
section
variable {X : Cx} {CX : CXT} {k : Nat} {f C : Addr} {fd : FuncData} {ps : List Str} {sp : Sp} {E : XK}
def rOwnAdd (C : Addr) (sp : Sp) (E : XK) : R2 := fun x y H Q => AtC C x H ∧ AtC C y H ∧ sp [x, y] H Q E
theorem relV_nni {v : V} {u : Value} (r : RelV v u) : u ≠ .notImplemented := by
  intro e
  subst e
  cases v <;> first | (obtain ⟨_, r⟩ := r; exact nomatch r) | exact nomatch r
theorem op_addOwn (F : FnG bb X.prog X.w X.K X.mg X.base CX k f fd ps sp) (hr : Rm bb k X.A) (hc : PySem.W.selfFirst X.K C = true) (hs : PySem.W.findIn X.K (.ref C) "__add__" = some (some (.ref f))) (hf : PySem.W.isFn X.K (.ref f) = true) (hb : Binds X.K fd ps []) (hx : Passes CX X E) :
    OpR X (binaryOp .Add) (rOwnAdd C sp E) := by
  intro pins s σ H x y v u Q I rx ry h
  obtain ⟨⟨a, dx, fs, ex, ha⟩, ⟨b, dy, gs, ey, hb'⟩, q⟩ := h
  subst ex; subst ey
  cases rx
  cases ry
  obtain ⟨mA, oA, _⟩ := ins_get I.hok ha
  obtain ⟨mB, oB, _⟩ := ins_get I.hok hb'
  obtain ⟨od, iA, _⟩ := oA.look
  obtain ⟨od', iB, _⟩ := oB.look
  obtain ⟨m, hF⟩ := I.fr
  refine PySem.W.binop_K (op := .Add) hF I.ok.mod.kin iA iB.type hc hs hf ?_
  refine wpAny_mono (callG (us := [.ref a, .ref b]) (vs := [.ref a, .ref b]) F hr hb .nil hx I (.cons rfl (.cons rfl .nil)) q) (fun r s' z => ?_) fun _ _ z => z
  obtain ⟨w, H', I', rw', qq⟩ := z
  have := relV_nni rw'
  cases r <;> first | exact (this rfl).elim | exact ⟨w, H', I', rw', qq⟩
end
end DVG
namespace DV
open PySem PySem.Spec PyProof.Rows L2
section
variable {K : PySem.W.Frag}
def addOwnE (C : Addr) (F2 : FD) (fa fb : ME) : ME := fun δ => (fa δ).bind fun p => (fb p.2).bind fun q => (deref q.2 p.1).bind fun d1 => (deref q.2 q.1).bind fun d2 =>
  if (insAt C d1 && insAt C d2) = true then callX none 2 F2 [p.1, q.1] q.2 else none
def ixOwnE (C : Addr) (F2 : FD) (fa fb : ME) : ME := fun δ => (fa δ).bind fun p => (fb p.2).bind fun q => (deref q.2 p.1).bind fun d1 =>
  if insAt C d1 = true then callX none 2 F2 [p.1, q.1] q.2 else none
theorem ev_addOwn {C : Addr} {F2 : FD} {E : XK} {ta tb : TE} {fa fb : ME} (ha : Ev K ta fa) (hb : Ev K tb fb) : Ev K (tOp (DVG.rOwnAdd C (spD K none 2 F2) E) ta tb) (addOwnE C F2 fa fb) := fun F R H δ σ o δ' w hf Q q => by
  obtain ⟨⟨o1, δ1⟩, h1, hf⟩ := Option.bind_eq_some_iff.mp hf
  obtain ⟨⟨o2, δ2⟩, h2, hf⟩ := Option.bind_eq_some_iff.mp hf
  obtain ⟨d1, h3, hf⟩ := Option.bind_eq_some_iff.mp hf
  obtain ⟨d2, h4, hf⟩ := Option.bind_eq_some_iff.mp hf
  refine ha F R H δ σ o1 δ1 w h1 _ fun v1 R1 H1 w1 e1 r1 _ => ?_
  refine hb F R1 H1 δ1 σ o2 δ2 w1 h2 _ fun v2 R2 H2 w2 e2 r2 _ => ?_
  split at hf
  · rename_i hi
    rw [Bool.and_eq_true] at hi
    exact ⟨at_of hi.1 (deref_ok w2 (r1.ext w1 e2) h3), at_of hi.2 (deref_ok w2 r2 h4), call_ok F R2 H2 δ2 σ [o1, o2] [v1, v2] o δ' w2 ⟨_, _, rfl, r1.ext w1 e2, _, _, rfl, r2, rfl⟩ hf Q E fun v R3 H3 w3 e3 r3 f3 => q v R3 H3 w3 ((e1.trans e2).trans e3) r3 (f3.ext (e1.trans e2))⟩
  · cases hf
theorem ev_ixOwn {C : Addr} {F2 : FD} {E : XK} {ta tb : TE} {fa fb : ME} (ha : Ev K ta fa) (hb : Ev K tb fb) : Ev K (tOp (DVG.rOwnIx C (spD K none 2 F2) E) ta tb) (ixOwnE C F2 fa fb) := fun F R H δ σ o δ' w hf Q q => by
  obtain ⟨⟨o1, δ1⟩, h1, hf⟩ := Option.bind_eq_some_iff.mp hf
  obtain ⟨⟨o2, δ2⟩, h2, hf⟩ := Option.bind_eq_some_iff.mp hf
  obtain ⟨d1, h3, hf⟩ := Option.bind_eq_some_iff.mp hf
  refine ha F R H δ σ o1 δ1 w h1 _ fun v1 R1 H1 w1 e1 r1 _ => ?_
  refine hb F R1 H1 δ1 σ o2 δ2 w1 h2 _ fun v2 R2 H2 w2 e2 r2 _ => ?_
  split at hf
  · rename_i hi
    exact ⟨at_of hi (deref_ok w2 (r1.ext w1 e2) h3), call_ok F R2 H2 δ2 σ [o1, o2] [v1, v2] o δ' w2 ⟨_, _, rfl, r1.ext w1 e2, _, _, rfl, r2, rfl⟩ hf Q E fun v R3 H3 w3 e3 r3 f3 => q v R3 H3 w3 ((e1.trans e2).trans e3) r3 (f3.ext (e1.trans e2))⟩
  · cases hf
end
end DV

/-! DVP: loops and comprehensions by invariants. -/
namespace DV
open PySem PySem.Spec PyProof.Rows L2
/-- x ends, with Q -/
def Ends {α : Type} (x : Option α) (Q : α → Prop) : Prop := ∃ a, x = some a ∧ Q a
theorem ends_some {α : Type} {a : α} {Q : α → Prop} : Ends (some a) Q = Q a := by
  unfold Ends
  apply propext
  constructor
  · rintro ⟨b, h, q⟩
    cases h; exact q
  · exact fun q => ⟨a, rfl, q⟩
theorem Ends.mono {α : Type} {x : Option α} {Q Q' : α → Prop} (h : Ends x Q) (f : ∀ a, Q a → Q' a) : Ends x Q' := h.imp fun a p => ⟨p.1, f a p.2⟩
theorem Ends.eq {α : Type} {x : Option α} {a : α} (h : Ends x fun b => b = a) : x = some a := by
  obtain ⟨b, h1, h2⟩ := h
  rw [h1, h2]
section
variable {g : MG} {b : MS} {c : MT} {t : MT} {e : MD} {δ δ1 : Env} {ds : List D} {d : D} {vs : List Nat} {n : Nat}
/-! ### one turn -/
def turn (g : MG) (b : MS) (d : D) (δ : Env) : Option Fl := (g d δ).bind b
def turn1 (b : MS) (x : Option Env) : Option Fl := x.bind b
theorem e_tu : turn g b d δ = turn1 b (g d δ) := id rfl
theorem e_tu1 : turn1 b (some δ) = b δ := id rfl
/-- what a turn must show: I at the next turn, or Q of the loop's end -/
def After (I : Env → Prop) (Q : Fl → Prop) : Fl → Prop
  | .nx δ => I δ
  | .ct δ => I δ
  | .bk δ => Q (.nx δ)
  | .rt o δ => Q (.rt o δ)
theorem e_af1 {I : Env → Prop} {Q : Fl → Prop} : After I Q (.nx δ) = I δ := id rfl
theorem e_af2 {I : Env → Prop} {Q : Fl → Prop} : After I Q (.ct δ) = I δ := id rfl
theorem e_af3 {I : Env → Prop} {Q : Fl → Prop} : After I Q (.bk δ) = Q (.nx δ) := id rfl
theorem e_af4 {I : Env → Prop} {Q : Fl → Prop} {o : O} : After I Q (.rt o δ) = Q (.rt o δ) := id rfl
theorem loop_raw {g : MG} {b : MS} (I : Nat → Env → Prop) (Q : Fl → Prop) : ∀ (rest : List D) (k : Nat) (δ : Env), I k δ →
    (∀ i d δ, rest[i]? = some d → I (k + i) δ → Ends (turn g b d δ) (After (I (k + i + 1)) Q)) → (∀ δ, I (k + rest.length) δ → Q (.nx δ)) → Ends (loopL g b rest δ) Q
  | [], k, δ, h, _, he => ⟨.nx δ, rfl, he δ h⟩
  | d :: rest, k, δ, h, hs, he => by
    obtain ⟨fl, h1, h2⟩ := hs 0 d δ rfl h
    have go : ∀ δ', I (k + 1) δ' → Ends (loopL g b rest δ') Q := fun δ' h' => by
      refine loop_raw I Q rest (k + 1) δ' h' (fun i d δ hi hI => ?_) (fun δ hI => he δ ?_)
      · have := hs (i + 1) d δ (by simpa using hi) (by rw [show k + (i + 1) = k + 1 + i by omega]; exact hI)
        rw [show k + (i + 1) + 1 = k + 1 + i + 1 by omega] at this
        exact this
      · rw [List.length_cons, show k + (rest.length + 1) = k + 1 + rest.length by omega]; exact hI
    unfold turn at h1
    obtain ⟨δ1, g1, g2⟩ := Option.bind_eq_some_iff.mp h1
    rw [e_lpc, g1, e_lp1, g2]
    cases fl with
    | nx δ' => exact go δ' h2
    | ct δ' => exact go δ' h2
    | bk δ' => exact ⟨_, rfl, h2⟩
    | rt o δ' => exact ⟨_, rfl, h2⟩
/-- a for loop by an invariant over what is gone through -/
theorem loop_inv {α : Type} (enc : α → D) (xs : List α) (I : Nat → Env → Prop) (Q : Fl → Prop) (δ : Env) (h0 : I 0 δ)
    (hs : ∀ i x δ, xs[i]? = some x → I i δ → Ends (turn g b (enc x) δ) (After (I (i + 1)) Q)) (he : ∀ δ, I xs.length δ → Q (.nx δ)) : Ends (loopL g b (xs.map enc) δ) Q := by
  refine loop_raw I Q (xs.map enc) 0 δ h0 (fun i d δ hi hI => ?_) (fun δ hI => he δ ?_)
  · rw [List.getElem?_map] at hi
    cases hx : xs[i]? with
    | none => rw [hx] at hi; cases hi
    | some x =>
      rw [hx] at hi; cases hi
      rw [Nat.zero_add] at hI ⊢
      exact hs i x δ hx hI
  · rw [Nat.zero_add, List.length_map] at hI; exact hI
theorem loop_range (lo : Int) (m : Nat) (I : Nat → Env → Prop) (Q : Fl → Prop) (δ : Env) (h0 : I 0 δ)
    (hs : ∀ i δ, i < m → I i δ → Ends (turn g b (.int (lo + (i : Int))) δ) (After (I (i + 1)) Q)) (he : ∀ δ, I m δ → Q (.nx δ)) : Ends (loopL g b (rangeD lo m) δ) Q := by
  refine loop_inv (fun (i : Nat) => D.int (lo + (i : Int))) (List.range m) I Q δ h0 (fun i x δ hi hI => ?_) (fun δ hI => he δ (by rw [List.length_range] at hI; exact hI))
  obtain ⟨h1, h2⟩ := List.getElem?_eq_some_iff.mp hi
  rw [List.length_range] at h1
  rw [List.getElem_range] at h2
  subst h2
  exact hs i δ h1 hI
/-- the same over any list of data -/
theorem loop_any (ds : List D) (I : Nat → Env → Prop) (Q : Fl → Prop) (δ : Env) (h0 : I 0 δ)
    (hs : ∀ i d δ, ds[i]? = some d → I i δ → Ends (turn g b d δ) (After (I (i + 1)) Q)) (he : ∀ δ, I ds.length δ → Q (.nx δ)) : Ends (loopL g b ds δ) Q := by
  refine loop_raw I Q ds 0 δ h0 (fun i d δ hi hI => ?_) (fun δ hI => he δ (by rw [Nat.zero_add] at hI; exact hI))
  rw [Nat.zero_add] at hI ⊢
  exact hs i d δ hi hI
/-- an enumerate loop -/
theorem loop_enum {α : Type} (enc : α → D) (xs : List α) (I : Nat → Env → Prop) (Q : Fl → Prop) (δ : Env) (h0 : I 0 δ)
    (hs : ∀ i x δ, xs[i]? = some x → I i δ → Ends (turn g b (.tup [.int (i : Int), enc x]) δ) (After (I (i + 1)) Q)) (he : ∀ δ, I xs.length δ → Q (.nx δ)) : Ends (loopL g b (enumD 0 (xs.map enc)) δ) Q := by
  refine loop_any _ I Q δ h0 (fun i d δ hi hI => ?_) (fun δ hI => he δ (by rw [enumD_len, List.length_map] at hI; exact hI))
  obtain ⟨d', h1, h2⟩ := enumD_get hi
  rw [List.getElem?_map] at h1
  cases hx : xs[i]? with
  | none => rw [hx] at h1; cases h1
  | some x =>
    rw [hx] at h1; cases h1
    rw [Nat.zero_add] at h2
    subst h2
    exact hs i x δ hx hI
/-- what the test of a while and its body must show -/
def While (I : Env → Prop) (b : MS) (Q : Fl → Prop) (p : Bool × Env) : Prop := if p.1 = true then Ends (b p.2) (After I Q) else Q (.nx p.2)
theorem e_wl1 {I : Env → Prop} {Q : Fl → Prop} : While I b Q (true, δ) = Ends (b δ) (After I Q) := if_pos rfl
theorem e_wl2 {I : Env → Prop} {Q : Fl → Prop} : While I b Q (false, δ) = Q (.nx δ) := if_neg Bool.false_ne_true
theorem while_inv (I : Nat → Env → Prop) (Q : Fl → Prop) : ∀ (n m : Nat) (δ : Env), m < n → I m δ →
    (∀ m δ, I m δ → Ends (c δ) (While (fun δ' => ∃ m' < m, I m' δ') b Q)) → Ends (whileL c b n δ) Q
  | 0, m, δ, h, _, _ => absurd h (Nat.not_lt_zero _)
  | n + 1, m, δ, h, hI, hs => by
    obtain ⟨⟨z, δ1⟩, h1, h2⟩ := hs m δ hI
    rw [e_wh, h1]
    cases z with
    | false => rw [e_wl2] at h2; exact ⟨_, rfl, h2⟩
    | true =>
      rw [e_wl1] at h2
      obtain ⟨fl, h3, h4⟩ := h2
      rw [e_wh1, h3]
      cases fl with
      | nx δ' => obtain ⟨m', l, h5⟩ := h4; exact while_inv I Q n m' δ' (by omega) h5 hs
      | ct δ' => obtain ⟨m', l, h5⟩ := h4; exact while_inv I Q n m' δ' (by omega) h5 hs
      | bk δ' => exact ⟨_, rfl, h4⟩
      | rt o δ' => exact ⟨_, rfl, h4⟩
/-! ### comprehensions -/
/-- one turn of a comprehension: what is put to the list, if anything -/
def lct (g : MG) (t : MT) (e : MD) (vs : List Nat) (d : D) (δ : Env) : Option (Option D × Env) := (g d δ).bind fun δ2 => (t δ2).bind fun p => if p.1 = true then (e p.2).bind fun q => some (some q.1, wipeE q.2 vs) else some (none, wipeE p.2 vs)
def lct1 (t : MT) (e : MD) (vs : List Nat) (x : Option Env) : Option (Option D × Env) := x.bind fun δ2 => (t δ2).bind fun p => if p.1 = true then (e p.2).bind fun q => some (some q.1, wipeE q.2 vs) else some (none, wipeE p.2 vs)
def lct2 (e : MD) (vs : List Nat) (x : Option (Bool × Env)) : Option (Option D × Env) := x.bind fun p => if p.1 = true then (e p.2).bind fun q => some (some q.1, wipeE q.2 vs) else some (none, wipeE p.2 vs)
def lct3 (vs : List Nat) (x : Option (D × Env)) : Option (Option D × Env) := x.bind fun q => some (some q.1, wipeE q.2 vs)
theorem e_lct : lct g t e vs d δ = lct1 t e vs (g d δ) := id rfl
theorem e_lct1 : lct1 t e vs (some δ) = lct2 e vs (t δ) := id rfl
theorem e_lct2 : lct2 e vs (some (true, δ)) = lct3 vs (e δ) := id rfl
theorem e_lct3 : lct2 e vs (some (false, δ)) = some (none, wipeE δ vs) := id rfl
theorem e_lct4 : lct3 vs (some (d, δ)) = some (some d, wipeE δ vs) := id rfl
theorem lcL_turn {acc : List D} {o : Option D} (h : lct g t e vs d δ = some (o, δ1)) (hl : acc.length < 100000) : lcL g t e vs (d :: ds) acc δ = lcL g t e vs ds (acc ++ o.toList) δ1 := by
  unfold lct at h
  obtain ⟨δ2, h1, h⟩ := Option.bind_eq_some_iff.mp h
  obtain ⟨⟨z, δ3⟩, h2, h⟩ := Option.bind_eq_some_iff.mp h
  rw [e_lcl, h1, e_lcn1, h2]
  cases z with
  | false =>
    simp only [Bool.false_eq_true, if_false] at h
    cases h
    rw [e_lcn3]; simp
  | true =>
    simp only [if_true] at h
    obtain ⟨⟨d', δ4⟩, h3, h⟩ := Option.bind_eq_some_iff.mp h
    cases h
    rw [e_lcn2, h3, e_lcn4 (by omega)]; rfl
/-- a comprehension whose parts change nothing -/
theorem lc_pure {α : Type} (enc : α → D) (h : α → Option D) : ∀ (xs : List α) (acc : List D) (δ : Env), acc.length + xs.length ≤ 100000 → (∀ x ∈ xs, lct g t e vs (enc x) δ = some (h x, δ)) →
    lcL g t e vs (xs.map enc) acc δ = some (acc ++ xs.filterMap h, δ)
  | [], acc, δ, _, _ => by simp [lcL]
  | x :: xs, acc, δ, hl, hs => by
    rw [List.length_cons] at hl
    rw [List.map_cons, lcL_turn (hs x (List.mem_cons_self ..)) (by omega)]
    rw [lc_pure enc h xs _ δ (by rw [List.length_append]; cases h x <;> simp <;> omega) (fun y hy => hs y (List.mem_cons_of_mem _ hy)), List.filterMap_cons]
    cases h x <;> simp
theorem lc_map {α : Type} (enc : α → D) (h : α → D) (xs : List α) (δ : Env) (hl : xs.length ≤ 100000) (hs : ∀ x ∈ xs, lct g t e vs (enc x) δ = some (some (h x), δ)) :
    lcL g t e vs (xs.map enc) [] δ = some (xs.map h, δ) := by
  rw [lc_pure enc (fun x => some (h x)) xs [] δ (by simpa using hl) hs]
  simp
/-- a comprehension whose parts change slots: by an invariant -/
theorem lc_inv {α : Type} (enc : α → D) (xs : List α) (I : Nat → List D → Env → Prop) (Q : List D × Env → Prop) (acc : List D) (δ : Env) (h0 : I 0 acc δ) (hl : acc.length + xs.length ≤ 100000)
    (hs : ∀ i x acc δ, xs[i]? = some x → I i acc δ → Ends (lct g t e vs (enc x) δ) (fun p => I (i + 1) (acc ++ p.1.toList) p.2)) (he : ∀ acc δ, I xs.length acc δ → Q (acc, δ)) : Ends (lcL g t e vs (xs.map enc) acc δ) Q := by
  have go : ∀ (rest : List α) (k : Nat) (acc : List D) (δ : Env), acc.length + rest.length ≤ 100000 → I k acc δ → (∀ i x acc δ, rest[i]? = some x → I (k + i) acc δ → Ends (lct g t e vs (enc x) δ) (fun p => I (k + i + 1) (acc ++ p.1.toList) p.2)) → (∀ acc δ, I (k + rest.length) acc δ → Q (acc, δ)) → Ends (lcL g t e vs (rest.map enc) acc δ) Q := by
    intro rest
    induction rest with
    | nil => intro k acc δ _ h _ he; exact ⟨(acc, δ), rfl, he acc δ h⟩
    | cons x rest ih =>
      intro k acc δ hl h hs he
      obtain ⟨⟨o, δ1⟩, h1, h2⟩ := hs 0 x acc δ rfl h
      rw [List.length_cons] at hl
      rw [List.map_cons, lcL_turn h1 (by omega)]
      refine ih (k + 1) _ δ1 (by rw [List.length_append]; cases o <;> simp <;> omega) h2 (fun i y acc δ hi hI => ?_) (fun acc δ hI => he acc δ ?_)
      · have := hs (i + 1) y acc δ (by simpa using hi) (by rw [show k + (i + 1) = k + 1 + i by omega]; exact hI)
        rw [show k + (i + 1) + 1 = k + 1 + i + 1 by omega] at this
        exact this
      · rw [List.length_cons, show k + (rest.length + 1) = k + 1 + rest.length by omega]; exact hI
  refine go xs 0 acc δ hl h0 (fun i x acc δ hi hI => ?_) (fun acc δ hI => he acc δ (by rw [Nat.zero_add] at hI; exact hI))
  rw [Nat.zero_add] at hI ⊢
  exact hs i x acc δ hi hI
theorem lc_inv_range (lo : Int) (m : Nat) (I : Nat → List D → Env → Prop) (Q : List D × Env → Prop) (δ : Env) (h0 : I 0 [] δ) (hl : m ≤ 100000)
    (hs : ∀ i acc δ, i < m → I i acc δ → Ends (lct g t e vs (.int (lo + (i : Int))) δ) (fun p => I (i + 1) (acc ++ p.1.toList) p.2)) (he : ∀ acc δ, I m acc δ → Q (acc, δ)) : Ends (lcL g t e vs (rangeD lo m) [] δ) Q := by
  refine lc_inv (fun (i : Nat) => D.int (lo + (i : Int))) (List.range m) I Q [] δ h0 (by simpa using hl) (fun i x acc δ hi hI => ?_) (fun acc δ hI => he acc δ (by rw [List.length_range] at hI; exact hI))
  obtain ⟨h1, h2⟩ := List.getElem?_eq_some_iff.mp hi
  rw [List.length_range] at h1
  rw [List.getElem_range] at h2
  subst h2
  exact hs i acc δ h1 hI
end
end DV

/-! DVQ: recursion; list(range(..)). -/
namespace DVG
open PySem PySem.Spec PyProof.Rows L2
section
variable {X : Cx} {CX : CXT} {k : Nat} {f C : Addr} {fd : FuncData} {ps : List Str} {sp : Sp} {E : XK}
def rOwnNotIn (C : Addr) (sp : Sp) (E : XK) : R2 := fun x y H Q => AtC C y H ∧ sp [y, x] H (fun v H' => ∃ b, v = .bl b ∧ Q (.bl (!b)) H') E
theorem op_notInOwn (F : FnG bb X.prog X.w X.K X.mg X.base CX k f fd ps sp) (hr : Rm bb k X.A) (hs : PySem.W.findIn X.K (.ref C) "__contains__" = some (some (.ref f))) (hf : PySem.W.isFn X.K (.ref f) = true) (hb : Binds X.K fd ps []) (hx : Passes CX X E) :
    OpR X (compareOp .NotIn) (rOwnNotIn C sp E) := by
  intro pins s σ H x y v u Q I rx ry h
  obtain ⟨⟨a, dx, fs, ey, ha⟩, q⟩ := h
  subst ey
  cases ry
  obtain ⟨mA, oA, _⟩ := ins_get I.hok ha
  obtain ⟨od, iA, _⟩ := oA.look
  obtain ⟨m, hF⟩ := I.fr
  have kIn := I.kIn
  have run := callG (us := [.ref a, v]) (vs := [.ref a, x]) F hr hb .nil hx I (.cons rfl (.cons rx .nil)) q
  show wpAny (model X.prog X.w) X.A (contains (.ref a) v >>= fun r => pure (Value.bool (!r))) (EP X pins σ Q) X.xe s
  refine wpAny_bind ?_
  unfold contains
  refine wpAny_holding ?_
  show wpAny _ _ (specialOf (.ref a) "__contains__" >>= _) _ _ _
  refine wpAny_bind (wpAny_bind (iA.type.here ((PySem.W.looks_findIn kIn hs).here ?_)))
  rw [if_neg (show ¬ ((some (Value.ref f) == some Value.none) = true) from Bool.false_ne_true)]
  have call1 : ∀ (refuse : Sem Value) (Z : Option Value → Shared → Prop), (∀ bb s', EP X pins σ Q (.bool (!bb)) s' → Z (some (.bool bb)) s') → wpAny (model X.prog X.w) X.A (callSpecialUnlessNone? (.ref a) (Str.ofString "__contains__") [v] refuse) Z X.xe s := by
    intro refuse Z hZ
    unfold callSpecialUnlessNone?
    refine wpAny_bind (wpAny_bind (iA.type.here ((PySem.W.looks_findIn kIn hs).here ?_)))
    refine wpAny_holding (wpAny_bind ((PySem.W.bind_fn kIn _ (beq_iff_eq.mp hf)).here ?_))
    have nf : ¬ ((Value.ref f == Value.none) = true) := Bool.false_ne_true
    simp only [nf, if_false]
    refine wpAny_bind (wpAny_mono run (fun r s' z => ?_) fun _ _ z => z)
    obtain ⟨w, H', I', rw', bb, ew, qq⟩ := z
    subst ew
    cases rw'
    exact wpAny_pure (hZ bb s' ⟨V.bl (!bb), H', I', rfl, qq⟩)
  refine wpAny_bind (call1 _ _ fun bb s' z => ?_)
  exact wpAny_truthy_bool (wpAny_pure z)
end
end DVG
namespace DVG
open PySem PySem.Spec PyProof.Rows L2 PySem.W
/-! max and min of a tuple of ints -/
theorem readsAll_ints {h : Heap} : ∀ {ns : List Int} {its : List Value}, Vals (ns.map V.int) its → ReadsAll h its (ns.map PyData.int) []
  | [], _, r => by cases r; exact .nil
  | n :: ns, _, r => by
    cases r with
    | cons r1 r2 =>
      obtain ⟨t, rfl⟩ := r1
      exact .cons (.int n t) (readsAll_ints r2)
theorem fmax_spec : ∀ (l : List Int) (n : Int), l.foldl max n ∈ n :: l ∧ ∀ y ∈ n :: l, y ≤ l.foldl max n
  | [], n => by simp
  | k :: l, n => by
    obtain ⟨h1, h2⟩ := fmax_spec l (max n k)
    rw [List.foldl_cons]
    have hle := h2 _ (List.mem_cons_self ..)
    constructor
    · rcases List.mem_cons.mp h1 with e | e
      · rw [e]
        by_cases q : n ≤ k
        · rw [Int.max_eq_right q]; simp
        · rw [Int.max_eq_left (by omega)]; simp
      · exact List.mem_cons_of_mem _ (List.mem_cons_of_mem _ e)
    · intro y hy
      rcases List.mem_cons.mp hy with rfl | hy
      · omega
      · rcases List.mem_cons.mp hy with rfl | hy
        · omega
        · exact h2 y (List.mem_cons_of_mem _ hy)
theorem fmin_spec : ∀ (l : List Int) (n : Int), l.foldl min n ∈ n :: l ∧ ∀ y ∈ n :: l, l.foldl min n ≤ y
  | [], n => by simp
  | k :: l, n => by
    obtain ⟨h1, h2⟩ := fmin_spec l (min n k)
    rw [List.foldl_cons]
    have hle := h2 _ (List.mem_cons_self ..)
    constructor
    · rcases List.mem_cons.mp h1 with e | e
      · rw [e]
        by_cases q : n ≤ k
        · rw [Int.min_eq_left q]; simp
        · rw [Int.min_eq_right (by omega)]; simp
      · exact List.mem_cons_of_mem _ (List.mem_cons_of_mem _ e)
    · intro y hy
      rcases List.mem_cons.mp hy with rfl | hy
      · omega
      · rcases List.mem_cons.mp hy with rfl | hy
        · omega
        · exact h2 y (List.mem_cons_of_mem _ hy)
theorem alike_ints (ns : List Int) : AlikeAll (ns.map PyData.int) := by
  refine ⟨fun x hx y hy => ?_, fun x hx => ?_⟩
  · obtain ⟨i, _, rfl⟩ := List.mem_map.mp hx
    obtain ⟨j, _, rfl⟩ := List.mem_map.mp hy
    rfl
  · obtain ⟨i, _, rfl⟩ := List.mem_map.mp hx
    exact fun q => by cases q
theorem depth_ints : ∀ ns : List Int, PyData.depthAll (ns.map PyData.int) = 0
  | [] => rfl
  | n :: ns => by rw [List.map_cons, PyData.depthAll, depth_ints ns]; rfl
section
variable {X : Cx}
def rMaxT (K : PySem.W.Frag) : List V → Hp → VK → Prop := fun vs H Q => ∃ (a : Addr) (ns : List Int), vs = [V.ref a] ∧ SqT K H a (ns.map V.int) ∧ 0 < ns.length ∧ ∀ m, m ∈ ns → (∀ y, y ∈ ns → y ≤ m) → Q (.int m) H
def rMinT (K : PySem.W.Frag) : List V → Hp → VK → Prop := fun vs H Q => ∃ (a : Addr) (ns : List Int), vs = [V.ref a] ∧ SqT K H a (ns.map V.int) ∧ 0 < ns.length ∧ ∀ m, m ∈ ns → (∀ y, y ∈ ns → m ≤ y) → Q (.int m) H
theorem cr_maxT (hc : X.calm = true) (hu : X.A.units + 64 < cLine) : CallR X (.builtin "max") (rMaxT X.K) := by
  intro pins s σ H vs us Q I r h
  obtain ⟨a, ns, rfl, hs, hne, q⟩ := h
  obtain ⟨its, rv, pl, _⟩ := I.tuple hs
  rw [Vals.ref1 r]
  cases ns with
  | nil => simp at hne
  | cons n l =>
    have hr : ReadsAll s.heap its.toArray.toList (PyData.int n :: l.map PyData.int) [] := readsAll_ints (ns := n :: l) rv
    have hd : PyData.depthAll (PyData.int n :: l.map PyData.int) = 0 := depth_ints (n :: l)
    refine max_tuple_data (I.ok.hd hc) pl hr (alike_ints (n :: l)) (by rw [hd]; omega) fun i v h' tk bs _ hR hk => ?_
    rw [maxD_ints] at hR
    cases hR
    obtain ⟨h1, h2⟩ := fmax_spec l n
    exact ⟨.int _, H, I.kept hk, ⟨_, rfl⟩, q _ h1 h2⟩
theorem cr_minT (hc : X.calm = true) (hu : X.A.units + 64 < cLine) : CallR X (.builtin "min") (rMinT X.K) := by
  intro pins s σ H vs us Q I r h
  obtain ⟨a, ns, rfl, hs, hne, q⟩ := h
  obtain ⟨its, rv, pl, _⟩ := I.tuple hs
  rw [Vals.ref1 r]
  cases ns with
  | nil => simp at hne
  | cons n l =>
    have hr : ReadsAll s.heap its.toArray.toList (PyData.int n :: l.map PyData.int) [] := readsAll_ints (ns := n :: l) rv
    have hd : PyData.depthAll (PyData.int n :: l.map PyData.int) = 0 := depth_ints (n :: l)
    refine min_tuple_data (I.ok.hd hc) pl hr (alike_ints (n :: l)) (by rw [hd]; omega) fun i v h' tk bs _ hR hk => ?_
    rw [minD_ints] at hR
    cases hR
    obtain ⟨h1, h2⟩ := fmin_spec l n
    exact ⟨.int _, H, I.kept hk, ⟨_, rfl⟩, q _ h1 h2⟩
end
end DVG
namespace DV
open PySem PySem.Spec PyProof.Rows L2
theorem fn_none {P : Program} {w : World} {K : PySem.W.Frag} {mg : Str → Option Value} {base : Heap} {CX : CXT} {k n : Nat} {f : Addr} {fd : FuncData} {ps : List Str} {bo : Option Nat} (h : n = ps.length) :
    DVG.FnG bb P w K mg base CX k f fd ps (spD K bo n fun _ => none) := by
  refine ⟨fun vs H Q E q => q.1.trans h, fun A outer s H args us vs Q E hr e0 hb hv q => ?_⟩
  obtain ⟨_, R, ds, r, m, _, _, hF, _⟩ := q
  cases hF
section
variable {K : PySem.W.Frag}
def rgB (a b : Int) : Bool := decide (-1000000 ≤ a) && decide (a ≤ 1000000) && decide (-1000000 ≤ b) && decide (b ≤ 1000000)
theorem rgB_ok {a b : Int} (h : rgB a b = true) : RgOk a b := by
  unfold rgB at h
  simp only [Bool.and_eq_true, decide_eq_true_eq] at h
  exact ⟨by omega, by omega, by omega, by omega, by omega⟩
def rgL1 (x : Option (O × Env)) : Option (O × Env) := x.bind fun p => match p.1 with
  | .dat (.int b) => if rgB 0 b = true then some (.fre (.lst (rangeD 0 b.toNat)), p.2) else none
  | _ => none
def rgL2 (fb : ME) (x : Option (O × Env)) : Option (O × Env) := x.bind fun p => (fb p.2).bind fun q => match p.1, q.1 with
  | .dat (.int a), .dat (.int b) => if rgB a b = true then some (.fre (.lst (rangeD a (b - a).toNat)), q.2) else none
  | _, _ => none
def rgL3 (o : O) (x : Option (O × Env)) : Option (O × Env) := x.bind fun q => match o, q.1 with
  | .dat (.int a), .dat (.int b) => if rgB a b = true then some (.fre (.lst (rangeD a (b - a).toNat)), q.2) else none
  | _, _ => none
def lrg1 (fa : ME) : ME := fun δ => rgL1 (fa δ)
def lrg2 (fa fb : ME) : ME := fun δ => rgL2 fb (fa δ)
theorem rangeD_rep {R : Reg} {H : Hp} (a b : Int) : RepVs K R H (rangeD a (b - a).toNat) (rgV a b) := by
  unfold rangeD rgV
  generalize (List.range (b - a).toNat) = l
  induction l with
  | nil => rfl
  | cons i l ih => exact ⟨_, _, rfl, rfl, ih⟩
theorem ev_lrg2 {ta tb : TE} {fa fb : ME} (ha : Ev K ta fa) (hb : Ev K tb fb) : Ev K (tLstRg (tRg2 ta tb)) (lrg2 fa fb) := fun F R H δ σ o δ' w hf Q q => by
  obtain ⟨⟨o1, δ1⟩, h1, hf⟩ := Option.bind_eq_some_iff.mp hf
  obtain ⟨⟨o2, δ2⟩, h2, hf⟩ := Option.bind_eq_some_iff.mp hf
  dsimp only at hf
  refine ha F R H δ σ o1 δ1 w h1 _ fun v1 R1 H1 w1 e1 r1 f1 => ?_
  refine hb F R1 H1 δ1 σ o2 δ2 w1 h2 _ fun v2 R2 H2 w2 e2 r2 f2 => ?_
  clear f1 f2
  split at hf
  · rename_i a b heq
    split at hf
    · rename_i hr
      cases hf
      refine ⟨a, b, r1, r2, rgB_ok hr, fun p hp => ?_⟩
      exact q _ R2 _ (w2.alloc hp) ((e1.trans e2).trans (Ext.alloc hp)) (fre_lst w2 hp (rangeD_rep a b)) fun c e => by cases e; exact (e1.trans e2).back hp
    · cases hf
  · cases hf
theorem ev_lrg1 {ta : TE} {fa : ME} (ha : Ev K ta fa) : Ev K (tLstRg (tRg1 ta)) (lrg1 fa) := fun F R H δ σ o δ' w hf Q q => by
  obtain ⟨⟨o1, δ1⟩, h1, hf⟩ := Option.bind_eq_some_iff.mp hf
  dsimp only at hf
  refine ha F R H δ σ o1 δ1 w h1 _ fun v1 R1 H1 w1 e1 r1 f1 => ?_
  clear f1
  split at hf
  · rename_i b
    split at hf
    · rename_i hr
      cases hf
      refine ⟨b, r1, rgB_ok hr, fun p hp => ?_⟩
      have rp := rangeD_rep (K := K) (R := R1) (H := H1) 0 b
      rw [Int.sub_zero] at rp
      exact q _ R1 _ (w1.alloc hp) (e1.trans (Ext.alloc hp)) (fre_lst w1 hp rp) fun c e => by cases e; exact e1.back hp
    · cases hf
  · cases hf
def notInOwnG (C : Addr) (F2 : FD) (d1 d2 : D) : Option O := if insAt C d2 = true then (boolR (F2 [d2, d1])).bind fun b => some (.dat (.bl (!b))) else none
theorem k_notInOwn {C : Addr} {F2 : FD} {E : XK} : OpOk K (DVG.rOwnNotIn C (spD K none 2 F2) E) (notInOwnG C F2) := fun F R H δ σ d1 d2 v1 v2 res w r1 r2 hg Q q => by
  unfold notInOwnG at hg
  split at hg
  · rename_i hi
    obtain ⟨b, e1, hg⟩ := Option.bind_eq_some_iff.mp hg
    cases hg
    obtain ⟨m, e2⟩ := boolR_inv e1
    obtain ⟨e0, R0, ds, r, m, a1, a2, a3, a4⟩ := two_bool (E := E) w r2 r1 e2 (fun v H' => ∀ b', v = .bl b' → Q (.bl (!b')) H') fun R' H' w' x' b' eb => by cases eb; exact q _ R' H' w' x' rfl trivial
    exact ⟨at_of hi r2, e0, R0, ds, r, m, a1, a2, a3, fun v R' H' z => let ⟨b, e, h⟩ := a4 v R' H' z; ⟨b, e, h b e⟩⟩
  · cases hg
variable {δ : Env} {o : O} {b : Bool} {d : D} {C : Addr} {ls : List Str} {es : List D}
def no2 (x : Option (Ret × D)) : Option O := (boolR x).bind fun b => some (.dat (.bl (!b)))
theorem e_ni {g : FD} : notInOwnG C g d (.ins C ls es) = no2 (g [.ins C ls es, d]) := by
  unfold notInOwnG
  rw [if_pos (by simp [insAt])]; rfl
theorem e_ni1 : no2 (some (.dat (.bl b), d)) = some (.dat (.bl (!b))) := id rfl
theorem e_lg1 {fa : ME} : lrg1 fa δ = rgL1 (fa δ) := id rfl
theorem e_lg2 {fa fb : ME} : lrg2 fa fb δ = rgL2 fb (fa δ) := id rfl
theorem e_lg3 {fb : ME} : rgL2 fb (some (o, δ)) = rgL3 o (fb δ) := id rfl
theorem e_lg4 {a b : Int} (h : -1000000 ≤ a ∧ a ≤ 1000000) (h2 : -1000000 ≤ b ∧ b ≤ 1000000) : rgL3 (.dat (.int a)) (some (.dat (.int b), δ)) = some (.fre (.lst (rangeD a (b - a).toNat)), δ) := by
  show (if _ then _ else _) = _
  rw [if_pos (by unfold rgB; simp only [Bool.and_eq_true, decide_eq_true_eq]; omega)]
theorem e_lg5 {b : Int} (h2 : -1000000 ≤ b ∧ b ≤ 1000000) : rgL1 (some (.dat (.int b), δ)) = some (.fre (.lst (rangeD 0 b.toNat)), δ) := by
  show (if _ then _ else _) = _
  rw [if_pos (by unfold rgB; simp only [Bool.and_eq_true, decide_eq_true_eq]; omega)]
/-! own [], own +, zip -/
variable {o1 : O} {ks : List Str} {ds : List D} {F2 : FD}
def ixw1 (C : Addr) (F2 : FD) (fb : ME) (x : Option (O × Env)) : Option (O × Env) := x.bind fun p => (fb p.2).bind fun q => (deref q.2 p.1).bind fun d1 => if insAt C d1 = true then callX none 2 F2 [p.1, q.1] q.2 else none
def ixw2 (C : Addr) (F2 : FD) (o : O) (x : Option (O × Env)) : Option (O × Env) := x.bind fun q => (deref q.2 o).bind fun d1 => if insAt C d1 = true then callX none 2 F2 [o, q.1] q.2 else none
def ixw3 (C : Addr) (F2 : FD) (o o2 : O) (δ : Env) (x : Option D) : Option (O × Env) := x.bind fun d1 => if insAt C d1 = true then callX none 2 F2 [o, o2] δ else none
theorem e_ixw {fa fb : ME} : ixOwnE C F2 fa fb δ = ixw1 C F2 fb (fa δ) := id rfl
theorem e_ixw1 {fb : ME} : ixw1 C F2 fb (some (o, δ)) = ixw2 C F2 o (fb δ) := id rfl
theorem e_ixw2 : ixw2 C F2 o1 (some (o, δ)) = ixw3 C F2 o1 o δ (deref δ o1) := id rfl
theorem e_ixw3 : ixw3 C F2 o1 o δ (some (.ins C ks ds)) = callX none 2 F2 [o1, o] δ := by
  show (if _ then _ else _) = _
  rw [if_pos (by simp [insAt])]
def aow1 (C : Addr) (F2 : FD) (fb : ME) (x : Option (O × Env)) : Option (O × Env) := x.bind fun p => (fb p.2).bind fun q => (deref q.2 p.1).bind fun d1 => (deref q.2 q.1).bind fun d2 =>
  if (insAt C d1 && insAt C d2) = true then callX none 2 F2 [p.1, q.1] q.2 else none
def aow2 (C : Addr) (F2 : FD) (o : O) (x : Option (O × Env)) : Option (O × Env) := x.bind fun q => (deref q.2 o).bind fun d1 => (deref q.2 q.1).bind fun d2 =>
  if (insAt C d1 && insAt C d2) = true then callX none 2 F2 [o, q.1] q.2 else none
def aow3 (C : Addr) (F2 : FD) (o o2 : O) (δ : Env) (x y : Option D) : Option (O × Env) := x.bind fun d1 => y.bind fun d2 => if (insAt C d1 && insAt C d2) = true then callX none 2 F2 [o, o2] δ else none
theorem e_aow {fa fb : ME} : addOwnE C F2 fa fb δ = aow1 C F2 fb (fa δ) := id rfl
theorem e_aow1 {fb : ME} : aow1 C F2 fb (some (o, δ)) = aow2 C F2 o (fb δ) := id rfl
theorem e_aow2 : aow2 C F2 o1 (some (o, δ)) = aow3 C F2 o1 o δ (deref δ o1) (deref δ o) := id rfl
theorem e_aow3 : aow3 C F2 o1 o δ (some (.ins C ks ds)) (some (.ins C ls es)) = callX none 2 F2 [o1, o] δ := by
  show (if _ then _ else _) = _
  rw [if_pos (by simp [insAt])]
def zuw1 (x : Option (List D × Env)) : Option (List D × Env) := x.bind fun p => match p.1 with
  | [.lst ds, .lst es] => some (zipD ds es, p.2)
  | [.tup ds, .tup es] => some (zipD ds es, p.2)
  | _ => none
theorem e_zu {fa : MAD} : zipU fa δ = zuw1 (fa δ) := id rfl
theorem e_zu1 : zuw1 (some ([.lst ds, .lst es], δ)) = some (zipD ds es, δ) := id rfl
theorem e_zu2 : zuw1 (some ([.tup ds, .tup es], δ)) = some (zipD ds es, δ) := id rfl
theorem e_mulT {k : Int} (h : 2 ≤ k) (h1 : k ≤ 1000) (h2 : 0 < ds.length) (h3 : ds.length ≤ 1000) : mulG (.tup ds) (.int k) = some (.dat (.tup (List.replicate k.toNat ds).flatten)) := by
  show (if _ then _ else _) = _
  rw [if_pos (by simp only [Bool.and_eq_true, decide_eq_true_eq]; omega)]
/-! max and min of lists and tuples -/
def rMaxV (K : PySem.W.Frag) : List V → Hp → VK → Prop := fun xs H Q => rMaxU K xs H Q ∨ DVG.rMaxT K xs H Q
def rMinV (K : PySem.W.Frag) : List V → Hp → VK → Prop := fun xs H Q => rMinU K xs H Q ∨ DVG.rMinT K xs H Q
theorem call_maxV {X : Cx} (hc : X.calm = true) (hu : X.A.units + 64 < cLine) : CallR X (.builtin "max") (rMaxV X.K) := (call_maxU hc).or (DVG.cr_maxT hc hu)
theorem call_minV {X : Cx} (hc : X.calm = true) (hu : X.A.units + 64 < cLine) : CallR X (.builtin "min") (rMinV X.K) := (call_minU hc).or (DVG.cr_minT hc hu)
def maxV : List D → Option O
  | [.tup ds] => (intsOf ds).bind fun ns => match ns with
    | m :: r => some (.dat (.int (maxL m r)))
    | [] => none
  | ds => maxG ds
def minV : List D → Option O
  | [.tup ds] => (intsOf ds).bind fun ns => match ns with
    | m :: r => some (.dat (.int (minL m r)))
    | [] => none
  | ds => minG ds
theorem c_maxV : CbOk K (rMaxV K) maxV := fun F R H δ σ ds vs res w r hg Q q => by
  unfold maxV at hg
  split at hg
  · obtain ⟨ns, e1, hg2⟩ := Option.bind_eq_some_iff.mp hg
    clear hg
    obtain ⟨v, e, r1⟩ := r.one
    obtain ⟨a, us, e2, h1, h2⟩ := r1.tup
    have := intsOf_inv e1
    subst this
    have := ints_rep h2
    subst this
    cases ns with
    | nil => cases hg2
    | cons m l =>
      cases hg2
      refine .inr ⟨a, m :: l, by rw [e, e2], h1, Nat.succ_pos _, fun z hz hy => ?_⟩
      obtain ⟨s1, s2⟩ := maxL_spec l m
      have : z = maxL m l := Int.le_antisymm (s2 _ hz) (hy _ s1)
      rw [this]
      exact q _ R H w Ext.refl rfl trivial
  · exact .inl (c_max F R H δ σ _ vs res w r hg Q q)
theorem c_minV : CbOk K (rMinV K) minV := fun F R H δ σ ds vs res w r hg Q q => by
  unfold minV at hg
  split at hg
  · obtain ⟨ns, e1, hg2⟩ := Option.bind_eq_some_iff.mp hg
    clear hg
    obtain ⟨v, e, r1⟩ := r.one
    obtain ⟨a, us, e2, h1, h2⟩ := r1.tup
    have := intsOf_inv e1
    subst this
    have := ints_rep h2
    subst this
    cases ns with
    | nil => cases hg2
    | cons m l =>
      cases hg2
      refine .inr ⟨a, m :: l, by rw [e, e2], h1, Nat.succ_pos _, fun z hz hy => ?_⟩
      obtain ⟨s1, s2⟩ := minL_spec l m
      have : z = minL m l := Int.le_antisymm (hy _ s1) (s2 _ hz)
      rw [this]
      exact q _ R H w Ext.refl rfl trivial
  · exact .inl (c_min F R H δ σ _ vs res w r hg Q q)
theorem e_mxI {i j : Int} : maxV [.int i, .int j] = some (.dat (.int (if i < j then j else i))) := id rfl
theorem e_mnI {i j : Int} : minV [.int i, .int j] = some (.dat (.int (if j < i then j else i))) := id rfl
theorem e_mxL {m : Int} {r : List Int} : maxV [.lst ((m :: r).map .int)] = some (.dat (.int (maxL m r))) := by
  show (((lstOf (.lst ((m :: r).map .int))).bind intsOf).bind fun ns => match ns with | m :: r => some (O.dat (.int (maxL m r))) | [] => none) = _
  simp only [lstOf, Option.bind_some, intsOf_map]
theorem e_mnL {m : Int} {r : List Int} : minV [.lst ((m :: r).map .int)] = some (.dat (.int (minL m r))) := h_min
theorem e_mxT {m : Int} {r : List Int} : maxV [.tup ((m :: r).map .int)] = some (.dat (.int (maxL m r))) := by
  show ((intsOf ((m :: r).map .int)).bind fun ns => match ns with | m :: r => some (O.dat (.int (maxL m r))) | [] => none) = _
  rw [intsOf_map]; rfl
theorem e_mnT {m : Int} {r : List Int} : minV [.tup ((m :: r).map .int)] = some (.dat (.int (minL m r))) := by
  show ((intsOf ((m :: r).map .int)).bind fun ns => match ns with | m :: r => some (O.dat (.int (minL m r))) | [] => none) = _
  rw [intsOf_map]; rfl
end
end DV

/-! DVY: a for loop in a generator def's body. -/
namespace DVG
open PySem PySem.Spec PyProof.Rows L2 GenW
section
variable {X : Cx}
def tGFor (wi : TI) (g : TG) (tb : TGn) : TGn := fun D ys σ H => wi σ H fun J H2 => ∃ W : Nat → Nat → List V → L2.St → Hp → Prop, (∃ m, W 0 m ys σ H2) ∧ ∀ i m ys σ H, W i m ys σ H →
  (J.stop i H ∧ D.nx ys σ H) ∨ (J.go i H ∧ ∃ N : List V → L2.St → Hp → Prop, (∀ ys' σ' H', N ys' σ' H' → ∃ m', m' < m ∧ W (i + 1) m' ys' σ' H') ∧ ∀ x H', J.yld i H x H' → g x σ H' fun σ2 H2 => tb { D with nx := N, ct := N, bk := D.nx } ys σ2 H2)
theorem gs_for {tg iter : Expr} {body : List Stmt} {wi : TI} {g : TG} {tb : TGn} {pos : Pos} (hp : PassesOwn (model X.prog X.w) X.A X.env X.xe) (hc : X.calm = true) (hi : PI X tg iter wi) (hg : PG X tg g) (hb : GSs X body tb)
    (hs : ∀ x, foldedSetIterable iter X.env x = pure x := by intro _; rfl) : GS X (.For tg iter body [] pos) (tGFor wi g tb) := by
  refine ⟨fun A S ip R n ys s₀ c fs K J gd lv s σ H D gc hn k hI ht => ?_⟩
  obtain ⟨acc, cc, rv, I⟩ := hI
  rw [exec_For]
  refine seg_bind_wrap (wpAny_standAt ?_)
  refine seg_bind_wrap ?_
  rw [gc.over]
  refine wpAny_mono (hi.run _ s σ H _ I ht) (fun v s1 h1 => ?_) fun x s' hx => k.exc n s₀ x s' hx
  refine seg_bind_wrap (wpAny_of_eq (hs v) ?_)
  refine seg_bind_wrap (wpAny_standAt ?_)
  refine seg_bind_wrap (wpAny_holding ?_)
  rw [gc.over]
  refine wpAny_mono h1 (fun itv s2 h2 => ?_) fun x s' hx => k.exc n s₀ x s' hx
  obtain ⟨it, fp, tn, Jt, H2, e, I2, T, st2, f2, W, ⟨m0, w0⟩, turn⟩ := h2
  subst e
  refine seg_call fun p => ?_
  have gl := fun (kk : Result → Sem PySem.Fin) => gc_loop (k := kk) (c' := .forLoop tg (.ref it) body [] X.env) (l := lv []) (kp := []) (p := p) gc rfl rfl
  have gl2 := fun (kk : Result → Sem PySem.Fin) => gc_loop (k := kk) (c' := .block [] X.env) (l := lv []) (kp := []) (p := p) gc rfl rfl
  -- what never changes about the iterator's objects
  have fpS : ∀ b ∈ fp, S ≠ b := fun b hb => (f2 b hb).2.2.2.2.2 (S, lstObj acc cc) (List.mem_append_right _ (List.mem_cons_self ..))
  have stat : ∀ {acc' : Array Value} {c' : Nat} {H' : Hp}, (∀ b ∈ fp, H' b = none) → ∀ b ∈ fp, FpOk X ((S, lstObj acc' c') :: ip) H' b := fun hn b hb => by
    obtain ⟨_, a1, a2, a3, a4, a5⟩ := f2 b hb
    refine ⟨hn b hb, a1, a2, a3, a4, fun q hq => ?_⟩
    rcases List.mem_append.mp hq with hq | hq
    · exact a5 q (List.mem_append_left _ hq)
    · rcases List.mem_cons.mp hq with hq | hq
      · rw [hq]; exact fpS b hb
      · exact a5 q (List.mem_append_right _ (List.mem_cons_of_mem _ hq))
  have main : ∀ (m i n : Nat) (ys : List V) (s₀ s : Shared) (σ : L2.St) (H : Hp), n + ys.length = sizeLine → W i m ys σ H → GI X S ip ys σ H s → tn i s.heap → (∀ b ∈ fp, H b = none) →
      Seg (model X.prog X.w) A R (GY X S) n s₀ (.forLoop tg (.ref it) body [] X.env) ((model X.prog X.w).den (.forLoop tg (.ref it) body [] X.env))
        (.ret (fun r => ((match r with | .ok f => (.pure f : Sem Flow) | .error e => .raise e).onRaise (cameBack X.env)).wrap K J gd lv) none (gd false) (lv []) c p [] :: fs) s := by
    intro m
    induction m using Nat.strongRecOn with
    | ind m ih =>
      intro i n ys s₀ s σ H hn w hI st fr
      have ee : ∀ (n : Nat) (s₀ : Shared) (x : Value) (s' : Shared), X.xe x s' → Seg (model X.prog X.w) A R (GY X S) n s₀ (.forLoop tg (.ref it) body [] X.env)
          (((do noteFrame x X.env; theTreesLotGoes x : Sem Unit).bind fun _ => (Sem.raise x : Sem PySem.Fin)))
          (.ret (fun r => ((match r with | .ok f => (.pure f : Sem Flow) | .error e => .raise e).onRaise (cameBack X.env)).wrap K J gd lv) none (gd false) (lv []) c p [] :: fs) s' := fun n s₀ x s' hx => by
        rw [Sem.bind_eq_wrap]
        refine seg_wrap ?_
        rw [(gl _).over]
        refine wpAny_bind (wpAny_mono (hp x s' hx) (fun _ s'' hcb => wpAny_theTreesLotGoes ?_) fun y s'' hcb => ?_)
        · exact seg_leaf (.error x) (seg_cameBack gc k hcb)
        · exact seg_leaf (.error y) (seg_cameBack gc k hcb)
      show Seg _ A R _ n s₀ _ ((forTurn tg (.ref it) body [] X.env).onRaise (fun x => do noteFrame x X.env; theTreesLotGoes x)) _ s
      obtain ⟨acc, cc, rv, I⟩ := hI
      unfold forTurn
      rw [Sem.onRaise_eq_wrap]
      refine seg_bind_wrap (wpAny_standAt ?_)
      refine seg_bind_wrap ?_
      rw [(gl _).over]
      rcases turn i m ys σ H w with ⟨stop, qn⟩ | ⟨go, N, hN, step⟩
      · refine wpAny_onRaise (wpAny_mono (T.done X rfl rfl rfl hc i _ s σ H X.xe I (stat fr) st stop) (fun r s4 hr => ?_) fun x s' hx => wpAny_standAt (ee n s₀ x s' hx))
        obtain ⟨rfl, I4⟩ := hr
        refine seg_again (c' := .block [] X.env) rfl ?_
        show Seg _ A R _ n s₀ _ (((execs [] X.env).onRaise (fun x => do noteFrame x X.env; theTreesLotGoes x)) >>= fun f => pure (PySem.Fin.done f)) _ s4
        rw [Sem.onRaise_eq_wrap, Sem.bind_eq_wrap', Sem.wrap_wrap]
        refine seg_execs_nil ?_
        exact seg_leaf (.ok .next) (k.ok n ys s₀ s4 .next hn ⟨σ, H, ⟨acc, cc, rv, I4⟩, qn⟩)
      · refine wpAny_onRaise (wpAny_mono (T.item X rfl rfl rfl hc i _ s σ H X.xe I (stat fr) st go) (fun r s4 hr => ?_) fun x s' hx => wpAny_standAt (ee n s₀ x s' hx))
        obtain ⟨u, rfl, h4⟩ := hr
        refine seg_bind_wrap ?_
        rw [(gl _).over]
        refine wpAny_mono h4 (fun _ s5 h5 => ?_) fun x s' hx => ee n s₀ x s' hx
        obtain ⟨x, H5, I5, r5, y5, st5, fr5⟩ := h5
        have I5' := I5.pinned (stat fr5) (T.obj _ _ st5)
        refine seg_bind_wrap ?_
        rw [(gl _).over]
        refine wpAny_mono (hg.run _ s5 σ H5 x u _ I5' r5 (step x H5 y5)) (fun _ s6 h6 => ?_) fun x s' hx => ee n s₀ x s' hx
        obtain ⟨σ6, H6, I6, q6⟩ := h6
        rw [Sem.bind_eq_wrap', Sem.wrap_wrap]
        have again : ∀ {n' : Nat} {ys' : List V} {s₀' s7 : Shared} {σ7 : L2.St} {H7 : Hp}, n' + ys'.length = sizeLine → GI X S (ip ++ pinsAt fp s5.heap) ys' σ7 H7 s7 → N ys' σ7 H7 →
            Seg (model X.prog X.w) A R (GY X S) n' s₀' (.forLoop tg (.ref it) body [] X.env) ((model X.prog X.w).den (.forLoop tg (.ref it) body [] X.env))
              (.ret (fun r => ((match r with | .ok f => (.pure f : Sem Flow) | .error e => .raise e).onRaise (cameBack X.env)).wrap K J gd lv) none (gd false) (lv []) c p [] :: fs) s7 := fun {n' ys' s₀' s7 σ7 H7} hn' h7 n7 => by
          obtain ⟨m', hm, w7⟩ := hN ys' σ7 H7 n7
          obtain ⟨acc7, cc7, rv7, I7⟩ := h7
          have at7 : ∀ b ∈ fp, ∀ o, s5.heap.get? b = some o → s7.heap.get? b = some o ∧ H7 b = none := fun b hb o e => by
            have := I7.pin (b, o) (List.mem_append_right _ (List.mem_cons_of_mem _ (List.mem_append_right _ (mem_pinsAt hb e))))
            exact ⟨this.1, this.2.1⟩
          refine ih m' hm (i + 1) n' ys' s₀' s7 σ7 H7 hn' w7 ⟨acc7, cc7, rv7, ?_⟩ (T.keep _ _ _ st5 fun b hb o e => (at7 b hb o e).1) fun b hb => ?_
          · exact Inv.unpinned (pins := (S, lstObj acc7 cc7) :: ip) (pl := pinsAt fp s5.heap) I7
          · obtain ⟨o, e, d⟩ := T.obj _ _ st5 b hb
            exact (at7 b hb o e).2
        have hip : ∀ q ∈ ip ++ pinsAt fp s5.heap, q.1 ≠ S := fun q hq => by
          rcases List.mem_append.mp hq with hq | hq
          · exact gc.ip q hq
          · exact fun z => fpS q.1 (of_pinsAt hq).1 z.symm
        have gb : GC X S (ip ++ pinsAt fp s5.heap) A (.forLoop tg (.ref it) body [] X.env) (.ret (fun r => ((match r with | .ok f => (.pure f : Sem Flow) | .error e => .raise e).onRaise (cameBack X.env)).wrap K J gd lv) none (gd false) (lv []) c p [] :: fs) id :=
          ⟨gc.pn, hip, gc.apart, (gl _).over, (gl _).split, (gl _).guard, rfl⟩
        refine hb.run A S (ip ++ pinsAt fp s5.heap) R n ys s₀ _ _ _ _ id id s6 σ6 H6 { D with nx := N, ct := N, bk := D.nx } gb hn ⟨fun n' ys' s₀' s7 f hn' hs => ?_, fun n' s₀' x s' hx => ?_⟩ ⟨acc, cc, rv, I6⟩ q6
        · cases f with
          | next =>
            obtain ⟨σ7, H7, I7, n7⟩ := hs
            exact seg_again (c' := .forLoop tg (.ref it) body [] X.env) rfl (again hn' I7 n7)
          | cont =>
            obtain ⟨σ7, H7, I7, n7⟩ := hs
            exact seg_again (c' := .forLoop tg (.ref it) body [] X.env) rfl (again hn' I7 n7)
          | brk =>
            obtain ⟨σ7, H7, ⟨a7, c7, r7, I7⟩, q7⟩ := hs
            exact seg_leaf (.ok .next) (k.ok n' ys' s₀' s7 .next hn' ⟨σ7, H7, ⟨a7, c7, r7, Inv.unpinned (pins := (S, lstObj a7 c7) :: ip) (pl := pinsAt fp s5.heap) I7⟩, q7⟩)
          | ret v =>
            obtain ⟨x7, σ7, H7, ⟨a7, c7, r7, I7⟩, rx, q7⟩ := hs
            exact seg_leaf (.ok (.ret v)) (k.ok n' ys' s₀' s7 (.ret v) hn' ⟨x7, σ7, H7, ⟨a7, c7, r7, Inv.unpinned (pins := (S, lstObj a7 c7) :: ip) (pl := pinsAt fp s5.heap) I7⟩, rx, q7⟩)
        · exact ee n' s₀' x s' hx
  exact main m0 0 n ys s₀ s2 σ H2 hn w0 ⟨acc, cc, rv, I2⟩ st2 fun b hb => (f2 b hb).1
end
end DVG
namespace DV
open PySem PySem.Spec PyProof.Rows L2
abbrev MGS := List D → Env → Option (Fl × List D)
def GFlOk (K : PySem.W.Frag) (F : Fx) (R : Reg) (H : Hp) (out : List D) : Fl → GEnds → Prop
  | .nx δ, E => ∀ vs σ' R' H', Wd K F R' H' δ σ' → Keep R H R' H' → RepVs K R' H' out vs → E.nx vs σ' H'
  | .rt o δ, E => ∀ vs v σ' R' H', Wd K F R' H' δ σ' → Keep R H R' H' → RepVs K R' H' out vs → RepO K F R' H' δ σ' o v → E.rt vs v H'
  | .bk δ, E => ∀ vs σ' R' H', Wd K F R' H' δ σ' → Keep R H R' H' → RepVs K R' H' out vs → E.bk vs σ' H'
  | .ct δ, E => ∀ vs σ' R' H', Wd K F R' H' δ σ' → Keep R H R' H' → RepVs K R' H' out vs → E.ct vs σ' H'
def EvGS (K : PySem.W.Frag) (t : TGn) (f : MGS) : Prop := ∀ F R H δ σ out vs fl out', Wd K F R H δ σ → RepVs K R H out vs → f out δ = some (fl, out') → ∀ E : GEnds, GFlOk K F R H out' fl E → t E vs σ H
section
variable {K : PySem.W.Frag} {F : Fx} {R R1 R' : Reg} {H H1 H' : Hp} {δ δ1 δ' : Env} {σ : L2.St} {out : List D}
theorem GFlOk.keep {fl : Fl} {E : GEnds} (k : Keep R H R1 H1) (h : GFlOk K F R H out fl E) : GFlOk K F R1 H1 out fl E := by
  cases fl with
  | nx δ => exact fun vs σ' R' H' w k' => h vs σ' R' H' w (k.trans k')
  | rt o δ => exact fun vs v σ' R' H' w k' => h vs v σ' R' H' w (k.trans k')
  | bk δ => exact fun vs σ' R' H' w k' => h vs σ' R' H' w (k.trans k')
  | ct δ => exact fun vs σ' R' H' w k' => h vs σ' R' H' w (k.trans k')
def plainS (f : MS) : MGS := fun out δ => (f δ).bind fun fl => some (fl, out)
theorem gv_plain {t : TS} {f : MS} (h : EvS K t f) : EvGS K (tPlain t) (plainS f) := fun F R H δ σ out vs fl out' w r hf E q => by
  obtain ⟨fl1, e1, hf⟩ := Option.bind_eq_some_iff.mp hf
  cases hf
  refine h F R H δ σ fl w e1 (E.at vs) ?_
  cases fl with
  | nx δ => exact fun σ' R' H' w' k => q vs σ' R' H' w' k (r.keep k)
  | rt o δ => exact fun v σ' R' H' w' k ro => q vs v σ' R' H' w' k (r.keep k) ro
  | bk δ => exact fun σ' R' H' w' k => q vs σ' R' H' w' k (r.keep k)
  | ct δ => exact fun σ' R' H' w' k => q vs σ' R' H' w' k (r.keep k)
def nextGS : MGS := fun out δ => some (.nx δ, out)
theorem gv_nil : EvGS K tG0 nextGS := fun F R H δ σ out vs fl out' w r hf E q => by
  cases hf
  exact q vs σ R H w Keep.refl r
def seqGS (f g : MGS) : MGS := fun out δ => (f out δ).bind fun p => match p.1 with
  | .nx δ' => g p.2 δ'
  | fl => some (fl, p.2)
theorem gv_cons {t u : TGn} {f g : MGS} (h1 : EvGS K t f) (h2 : EvGS K u g) : EvGS K (tGThen t u) (seqGS f g) := fun F R H δ σ out vs fl out' w r hf E q => by
  obtain ⟨⟨f1, out1⟩, e1, hf⟩ := Option.bind_eq_some_iff.mp hf
  refine h1 F R H δ σ out vs f1 out1 w r e1 _ ?_
  cases f1 with
  | nx δ1 => exact fun vs1 σ1 R1 H1 w1 k1 r1 => h2 F R1 H1 δ1 σ1 out1 vs1 fl out' w1 r1 hf E (q.keep k1)
  | rt o δ1 => cases hf; exact q
  | bk δ1 => cases hf; exact q
  | ct δ1 => cases hf; exact q
def yieldS (f : MD) : MGS := fun out δ => if out.length < sizeLine then (f δ).bind fun p => some (.nx p.2, out ++ [p.1]) else none
theorem gv_yield {te : TE} {f : MD} (h : EvD K te f) : EvGS K (tGYield te) (yieldS f) := fun F R H δ σ out vs fl out' w r hf E q => by
  unfold yieldS at hf
  split at hf
  · rename_i hl
    obtain ⟨⟨d, δ1⟩, e1, hf⟩ := Option.bind_eq_some_iff.mp hf
    cases hf
    refine ⟨by rw [← r.length]; exact hl, h F R H δ σ d δ1 w e1 _ fun v R1 H1 w1 x1 r1 => ?_⟩
    exact q _ σ R1 H1 w1 (x1.keep w) ((r.keep (x1.keep w)).append (RepVs.one r1))
  · cases hf
def gloopL (g : MG) (b : MGS) : List D → MGS
  | [], out, δ => some (.nx δ, out)
  | d :: r, out, δ => (g d δ).bind fun δ1 => (b out δ1).bind fun p => match p.1 with
    | .nx δ2 => gloopL g b r p.2 δ2
    | .ct δ2 => gloopL g b r p.2 δ2
    | .bk δ2 => some (.nx δ2, p.2)
    | .rt o δ2 => some (.rt o δ2, p.2)
def gforS (fi : MI) (g : MG) (b : MGS) : MGS := fun out δ => (fi δ).bind fun p => gloopL g b p.1 out p.2
theorem gv_for {wi : TI} {fi : MI} {g : TG} {fg : MG} {tb : TGn} {fb : MGS} (hi : EvI K wi fi) (hg : EvG K g fg) (hb : EvGS K tb fb) : EvGS K (DVG.tGFor wi g tb) (gforS fi fg fb) := fun F R H δ σ out vs fl out' w r hf E q => by
  obtain ⟨⟨ds, δ1⟩, e1, hf⟩ := Option.bind_eq_some_iff.mp hf
  refine hi F R H δ σ ds δ1 w e1 _ fun J R1 H1 w1 x1 hJ => ?_
  have k0 := x1.keep w
  have q1 := q.keep k0
  refine ⟨fun i m ys σ H => m = ds.length - i ∧ i ≤ ds.length ∧ ∃ R δ o, Wd K F R H δ σ ∧ Keep R1 H1 R H ∧ RepVs K R H o ys ∧ gloopL fg fb (ds.drop i) o δ = some (fl, out'), ⟨ds.length, by simp, Nat.zero_le _, R1, δ1, out, w1, Keep.refl, r.keep k0, by simpa using hf⟩, ?_⟩
  rintro i m ys σ2 H2 ⟨rfl, hi, R2, δ2, o2, w2, k2, r2, hl⟩
  have it := hJ R2 H2 k2 F δ2 σ2 w2 i
  by_cases hlt : i < ds.length
  · have hd : ds[i]? = some ds[i] := by simp [hlt]
    rw [List.drop_eq_getElem_cons hlt] at hl
    obtain ⟨δ3, e3, hl⟩ := Option.bind_eq_some_iff.mp hl
    obtain ⟨⟨f4, o4⟩, e4, hl⟩ := Option.bind_eq_some_iff.mp hl
    obtain ⟨go, yl⟩ := it.1 _ hd
    refine .inr ⟨go, fun ys' σ' H' => i + 1 ≤ ds.length ∧ ∃ R δ o, Wd K F R H' δ σ' ∧ Keep R1 H1 R H' ∧ RepVs K R H' o ys' ∧ gloopL fg fb (ds.drop (i + 1)) o δ = some (fl, out'), fun ys' σ' H' h => ⟨_, ?_, rfl, h⟩, fun x H3 y => ?_⟩
    · omega
    obtain ⟨w3, g3, r3⟩ := yl x H3 y
    refine hg F R2 H3 δ2 σ2 _ x δ3 w3 r3 e3 _ fun σ4 H4 w4 g4 _ => ?_
    have g34 := g3.trans g4
    have k4 : Keep R1 H1 R2 H4 := k2.trans g34.keep
    refine hb F R2 H4 δ3 σ4 o2 ys f4 o4 w4 (r2.grow g34) e4 _ ?_
    cases f4 with
    | nx δ5 => exact fun vs5 σ5 R5 H5 w5 k5 r5 => ⟨hlt, R5, δ5, o4, w5, k4.trans k5, r5, hl⟩
    | ct δ5 => exact fun vs5 σ5 R5 H5 w5 k5 r5 => ⟨hlt, R5, δ5, o4, w5, k4.trans k5, r5, hl⟩
    | bk δ5 => cases hl; exact q1.keep k4
    | rt o δ5 => cases hl; exact q1.keep k4
  · rw [List.drop_eq_nil_of_le (by omega)] at hl
    cases hl
    exact .inl ⟨it.2 (by omega), q1 ys σ2 R2 H2 w2 k2 r2⟩
/-! ### generator defs -/
abbrev GFD := List D → Option (List D)
def gdefF (n : Nat) (body : MGS) : GFD := fun ds => (body [] (entry none ds n)).bind fun p => match p.1 with
  | .nx _ => some p.2
  | .rt (.dat .non) _ => some p.2
  | _ => none
def spGD (K : PySem.W.Frag) (n : Nat) (G : GFD) : SpG := fun vs H Q _ => vs.length = n ∧ ∃ R ds out, ArgRep K R H none ds vs ∧ (∀ a, R a → H a ≠ none) ∧ G ds = some out ∧ ∀ ws R' H', DefEnd K none R H vs (.dat .non) .non .non R' H' → RepVs K R' H' out ws → Q ws H'
theorem gend {vs : List V} {N : List Str} (w : Wd K (fx none R H vs N) R' H' δ σ) : DefEnd K none R H vs (.dat .non) .non .non R' H' := def_end (o := .dat .non) w rfl rfl rfl
theorem fn_gd {P : Program} {w : World} {mg : Str → Option Value} {base : Heap} {x qual : Str} {st : Stmt} {f : Addr} {fd : FuncData} {N ps : List Str} {k : Nat} {t : TGn} {body : MGS} (Fn : L2.Fun K x qual st f fd) (S : GScope N ps (defScope st))
    (hb : ∀ (cdv : Value) (A : Around) (outer : List PySem.Env) (s : Shared) (H : Hp) (E : XK) (pn : List (Addr × Obj)), DVG.Rm false k (A.deeper (envOfC qual (defScope st) s.heap.objs.size f cdv)) → GSs (gcxOf P w K mg base N qual (defScope st) f cdv A outer s H E pn) (defBody st) t)
    (he : EvGS K t body) : GFn P w K mg base (k + 1) f fd ps (spGD K ps.length (gdefF N.length body)) := by
  obtain ⟨oc, od, kV, doc, pm, an, cdv, ct, osl, rfl, lk, hc⟩ := Fn.ex
  refine gfn_of lk hc S (fun vs H Q E h => h.1) fun A outer s H vs Q E pn hr h => ⟨t, hb cdv A outer s H E pn ⟨hr, fun q => (by cases q)⟩, ?_⟩
  obtain ⟨hl, R, ds, out, ha, ht, hG, q⟩ := h
  obtain ⟨⟨fl, out1⟩, e1, hG⟩ := Option.bind_eq_some_iff.mp hG
  refine he (fx none R H vs N) R H _ _ [] [] fl out1 (wd_entry ha ht rfl) rfl e1 _ ?_
  cases fl with
  | nx δ =>
    cases hG
    exact fun ws σ' R' H' w' _ r' => q ws R' H' (gend w') r'
  | rt o δ =>
    cases o with
    | dat d =>
      cases d with
      | non =>
        cases hG
        exact fun ws v σ' R' H' w' _ r' rv => ⟨rv, q ws R' H' (gend w') r'⟩
      | _ => cases hG
    | _ => cases hG
  | bk δ => cases hG
  | ct δ => cases hG
end
end DV

/-! DVL: list(o.m(..)) and list(f(..)) of generator defs; rewriting rules of generator bodies. -/
namespace DV
open PySem PySem.Spec PyProof.Rows L2
def noE : XK := fun _ _ _ => False
theorem passGen {X : Cx} : Passes (L2.CX X.prog X.w) X noE := fun _ _ _ _ _ _ _ h => by
  obtain ⟨_, _, _, _, _, _, _, _, _, _, _, _, z⟩ := h
  exact z.elim
theorem noStopGen {K : PySem.W.Frag} : NoStop K noE := fun _ _ _ h => h.elim
section
variable {K : PySem.W.Frag} {F : Fx} {R R1 R' : Reg} {H H1 H' : Hp} {δ δ1 δ' : Env} {σ : L2.St}
theorem gen_plain {n : Nat} {G : GFD} {ds out : List D} {vs : List V} {E : XK} (w : Wd K F R H δ σ) (rv : RepVs K R H ds vs) (hn : ds.length = n) (hG : G ds = some out) (Q : VK)
    (q : ∀ v R' H', Wd K F R' H' δ σ → Ext δ δ σ R H R' H' → RepO K F R' H' δ σ (.fre (.lst out)) v → FreO H (.fre (.lst out)) v → Q v H') :
    spGD K n G vs H (fun ws H2 => ∀ p, H2 p = none → Q (.ref p) (upd H2 p (.lst ws))) E := by
  refine ⟨by rw [← rv.length]; exact hn, R, ds, out, ⟨rv.length, fun i d v e1 e2 => ⟨(fun hb => by cases hb), fun hb => ?_⟩⟩, fun a h => (w.new a h).2, hG, fun ws R' H' de rw' p hp => ?_⟩
  · obtain ⟨v', h3, h4⟩ := rv.get (i := i) (d := d) e1
    have : v' = v := by
      rw [h3] at e2; exact Option.some.inj e2
    subst this
    exact h4
  · obtain ⟨w2, x2⟩ := call_world (Rn := R') (bo := none) (os := ds.map .dat) (m := .non) w (RepOs.dats rv) rfl de de.sub (fun _ h => h) de.fresh de.tr fun a h => (de.out a h).2
    exact q _ R' _ (w2.alloc hp) (x2.trans (Ext.alloc hp)) (fre_lst w2 hp rw') fun c e => by cases e; exact x2.back hp
def lgm3 (δ : Env) (x : Option (List D)) : Option (O × Env) := x.bind fun out => some (.fre (.lst out), δ)
def lgm2 (d : D) (n : Nat) (G : GFD) (x : Option (List D × Env)) : Option (O × Env) := x.bind fun q => if (d :: q.1).length = n then lgm3 q.2 (G (d :: q.1)) else none
def lgm1 (C : Addr) (m : Str) (n : Nat) (G : GFD) (fa : MAD) (x : Option (D × Env)) : Option (O × Env) := x.bind fun p => if insB C m p.1 = true then lgm2 p.1 n G (fa p.2) else none
def lgmE (C : Addr) (m : Str) (n : Nat) (G : GFD) (fo : MD) (fa : MAD) : ME := fun δ => lgm1 C m n G fa (fo δ)
theorem ev_lgm {C : Addr} {m : Str} {n : Nat} {G : GFD} {to : TE} {fo : MD} {ta : TA} {fa : MAD} (ho : EvD K to fo) (ha : EvAD K ta fa) : Ev K (tListG (tMethG C m (spGD K n G) [] noE to ta)) (lgmE C m n G fo fa) := fun F R H δ σ o δ' w hf Q q => by
  obtain ⟨⟨d, δ1⟩, e1, hf⟩ := Option.bind_eq_some_iff.mp hf
  dsimp only at hf
  split at hf
  case isFalse => cases hf
  rename_i hi
  obtain ⟨⟨ds, δ2⟩, e3, hf⟩ := Option.bind_eq_some_iff.mp hf
  dsimp only at hf
  split at hf
  case isFalse => cases hf
  rename_i hn
  obtain ⟨out, e4, hf⟩ := Option.bind_eq_some_iff.mp hf
  cases hf
  refine ho F R H δ σ d δ1 w e1 _ fun x R1 H1 w1 x1 r1 => ?_
  cases d with
  | ins C' ks fs =>
    have hi' : C' = C ∧ ks.contains m = false := by simpa [insB] using hi
    obtain ⟨rfl, hm⟩ := hi'
    obtain ⟨a, dx, vs, e, h1, _, _⟩ := RepL.ins (.inl r1)
    refine ⟨a, dx, _, e, h1, lookup_zip_none hm, ?_⟩
    refine ha F R1 H1 δ1 σ ds δ' w1 e3 _ fun us R2 H2 w2 x2 r2 => ?_
    rw [List.append_nil]
    exact gen_plain (ds := .ins C' ks fs :: ds) w2 ⟨x, _, rfl, r1.keep (x2.keep w1), r2⟩ hn e4 Q fun v R3 H3 w3 x3 r3 f3 => q v R3 H3 w3 ((x1.trans x2).trans x3) r3 (f3.ext (x1.trans x2))
  | _ => simp [insB] at hi
def lgc2 (n : Nat) (G : GFD) (x : Option (List D × Env)) : Option (O × Env) := x.bind fun q => if q.1.length = n then lgm3 q.2 (G q.1) else none
def lgcE (n : Nat) (G : GFD) (fa : MAD) : ME := fun δ => lgc2 n G (fa δ)
theorem ev_lgc {n : Nat} {G : GFD} {ta : TA} {fa : MAD} (ha : EvAD K ta fa) : Ev K (tListG (tCallG (spGD K n G) [] noE ta)) (lgcE n G fa) := fun F R H δ σ o δ' w hf Q q => by
  obtain ⟨⟨ds, δ2⟩, e3, hf⟩ := Option.bind_eq_some_iff.mp hf
  dsimp only at hf
  split at hf
  case isFalse => cases hf
  rename_i hn
  obtain ⟨out, e4, hf⟩ := Option.bind_eq_some_iff.mp hf
  cases hf
  refine ha F R H δ σ ds δ' w e3 _ fun us R2 H2 w2 x2 r2 => ?_
  rw [List.append_nil]
  exact gen_plain w2 r2 hn e4 Q fun v R3 H3 w3 x3 r3 f3 => q v R3 H3 w3 (x2.trans x3) r3 (f3.ext x2)
end
theorem pe_fldC {X : Cx} {x f : Str} {p q pos : Pos} {a : Expr} {as : List Expr} {kws : List Keyword} {ta : TE} (he : PE X (.Call (.Name x p) (a :: as) kws q) ta) : PE X (.Attribute (.Call (.Name x p) (a :: as) kws q) f pos) (tFld X.K ta f) := pe_fld he rfl
end DV
namespace DVG
open PySem PySem.Spec PyProof.Rows L2
section
variable {X : Cx} {CX : CXT} {k n : Nat} {f : Addr} {fd : FuncData} {ps ks : List Str} {sp : Sp} {E : XK} {x fn : Str} {p pos fpos : Pos} {e : Expr} {es : List Expr} {kws : List Keyword} {t tk : TA} {idx : List Nat} {ms : List V} {bb : Bool}
/-- f(e, .., k = v, ..) with the number of keywords by itself -/
theorem pe_callGM {nk : Nat} (F : FnG bb X.prog X.w X.K X.mg X.base CX k f fd ps sp) (hr : Rm bb k X.A) (hg : Gl X x) (hm : X.mg x = some (.ref f)) (hk : PySem.W.keepIn X.K (.ref f) = true) (hb : DV.KwP X.K fd ps n ks idx ms) (hx : Passes CX X E) (ha : PA X (e :: es) t) (hkw : PK X kws tk) (hnk : ks.length = nk := by rfl)
    (hall : (backToKw pos (keywordEach kws X.env)).all (·.1.isSome) = true := by rfl) (hks : (backToKw pos (keywordEach kws X.env)).filterMap (·.1) = ks := by rfl) (hdb : (x == ("__debug__" : Str)) = false := by decide)
    (he : starEach (e :: es) X.env = (false, eval e X.env) :: starEach es X.env := by rfl) (hpl : ((backTo pos (starEach (e :: es) X.env)).any (·.1) || (backToKw pos (keywordEach kws X.env)).any (·.1.isNone)) = false := by rfl) :
    PE X (.Call (.Name x p) (e :: es) kws pos) (tCallN n nk sp (fun vs zs => DV.pick idx (vs ++ (ms ++ zs))) E t tk) := by subst hnk; exact pe_callGN F hr hg hm hk hb hx ha hkw hall hks hdb he hpl
theorem pe_callGM0 {nk : Nat} (F : FnG bb X.prog X.w X.K X.mg X.base CX k f fd ps sp) (hr : Rm bb k X.A) (hg : Gl X x) (hm : X.mg x = some (.ref f)) (hk : PySem.W.keepIn X.K (.ref f) = true) (hb : DV.KwP X.K fd ps 0 ks idx ms) (hx : Passes CX X E) (hkw : PK X kws tk) (hnk : ks.length = nk := by rfl)
    (hall : (backToKw pos (keywordEach kws X.env)).all (·.1.isSome) = true := by rfl) (hks : (backToKw pos (keywordEach kws X.env)).filterMap (·.1) = ks := by rfl) (hdb : (x == ("__debug__" : Str)) = false := by decide)
    (hpl : ((backTo pos (starEach [] X.env)).any (·.1) || (backToKw pos (keywordEach kws X.env)).any (·.1.isNone)) = false := by rfl) :
    PE X (.Call (.Name x p) [] kws pos) (tCallN 0 nk sp (fun vs zs => DV.pick idx (vs ++ (ms ++ zs))) E tNil tk) := by subst hnk; exact pe_callGN0 F hr hg hm hk hb hx hkw hall hks hdb hpl
end
end DVG
namespace DV
open PySem PySem.Spec PyProof.Rows L2
/-- a, b, .. = a list -/
def unlG (n : Nat) (fs : List D → Env → Option Env) : MG := fun d δ => match d with
  | .lst ds => if ds.length = n then fs ds δ else none
  | _ => none
theorem g_unl {K : PySem.W.Frag} {gs : TGs} {fs : List D → Env → Option Env} {n : Nat} (h : EvGs K gs fs) : EvG K (gUnl K n gs) (unlG n fs) := fun F R H δ σ d v δ' w r hf Q q => by
  cases d with
  | lst ds =>
    obtain ⟨a, vs, e, _, hs, rs⟩ := r
    simp only [unlG] at hf
    by_cases c : ds.length = n
    · rw [if_pos c] at hf
      exact ⟨a, vs, e, .of hs, by rw [← rs.length]; exact c, h F R H δ σ ds vs δ' w rs hf Q q⟩
    · rw [if_neg c] at hf; cases hf
  | _ => cases hf
/-! ### rewriting rules -/
section
variable {C : Addr} {m : Str} {n : Nat} {G : GFD} {fo : MD} {fa : MAD} {δ δ1 : Env} {d : D} {ds out : List D}
theorem e_lgm : lgmE C m n G fo fa δ = lgm1 C m n G fa (fo δ) := id rfl
theorem e_lgm1 (h : insB C m d = true) : lgm1 C m n G fa (some (d, δ)) = lgm2 d n G (fa δ) := if_pos h
theorem e_lgm2 (h : (d :: ds).length = n) : lgm2 d n G (some (ds, δ)) = lgm3 δ (G (d :: ds)) := if_pos h
theorem e_lgm3 : lgm3 δ (some out) = some (.fre (.lst out), δ) := id rfl
theorem e_tupT {ds : List D} : tupOfG [.tup ds] = some (.dat (.tup ds)) := id rfl
theorem e_lstT {ds : List D} : lstOfG [.tup ds] = some (.fre (.lst ds)) := id rfl
theorem e_lgc : lgcE n G fa δ = lgc2 n G (fa δ) := id rfl
theorem e_lgc2 (h : ds.length = n) : lgc2 n G (some (ds, δ)) = lgm3 δ (G ds) := if_pos h
def gd1 (x : Option (Fl × List D)) : Option (List D) := x.bind fun p => match p.1 with
  | .nx _ => some p.2
  | .rt (.dat .non) _ => some p.2
  | _ => none
theorem e_gd1 : gd1 (some (.nx δ, out)) = some out := id rfl
theorem e_gd2 : gd1 (some (.rt (.dat .non) δ, out)) = some out := id rfl
def gpl1 (out : List D) (x : Option Fl) : Option (Fl × List D) := x.bind fun fl => some (fl, out)
variable {f : MS} {b g1 g2 : MGS} {fi : MI} {g : MG} {fy : MD} {fl : Fl}
theorem e_gpl : plainS f out δ = gpl1 out (f δ) := id rfl
theorem e_gpl1 : gpl1 out (some fl) = some (fl, out) := id rfl
theorem e_gnx : nextGS out δ = some (.nx δ, out) := id rfl
def gsq1 (g : MGS) (x : Option (Fl × List D)) : Option (Fl × List D) := x.bind fun p => match p.1 with
  | .nx δ' => g p.2 δ'
  | fl => some (fl, p.2)
theorem e_gsq : seqGS g1 g2 out δ = gsq1 g2 (g1 out δ) := id rfl
theorem e_gsq1 : gsq1 g2 (some (.nx δ, out)) = g2 out δ := id rfl
def gyd1 (out : List D) (x : Option (D × Env)) : Option (Fl × List D) := x.bind fun p => some (.nx p.2, out ++ [p.1])
theorem e_gyd (h : out.length < 100000) : yieldS fy out δ = gyd1 out (fy δ) := if_pos (Nat.lt_of_lt_of_le h (by decide : 100000 ≤ sizeLine))
theorem e_gyd1 : gyd1 out (some (d, δ)) = some (.nx δ, out ++ [d]) := id rfl
def gfr1 (g : MG) (b : MGS) (out : List D) (x : Option (List D × Env)) : Option (Fl × List D) := x.bind fun p => gloopL g b p.1 out p.2
theorem e_gfr : gforS fi g b out δ = gfr1 g b out (fi δ) := id rfl
theorem e_gfr1 : gfr1 g b out (some (ds, δ)) = gloopL g b ds out δ := id rfl
def glp1 (g : MG) (b : MGS) (r : List D) (x : Option (Fl × List D)) : Option (Fl × List D) := x.bind fun p => match p.1 with
  | .nx δ2 => gloopL g b r p.2 δ2
  | .ct δ2 => gloopL g b r p.2 δ2
  | .bk δ2 => some (.nx δ2, p.2)
  | .rt o δ2 => some (.rt o δ2, p.2)
def glp0 (g : MG) (b : MGS) (r : List D) (out : List D) (x : Option Env) : Option (Fl × List D) := x.bind fun δ1 => glp1 g b r (b out δ1)
theorem e_glp : gloopL g b (d :: ds) out δ = glp0 g b ds out (g d δ) := id rfl
theorem e_glp0 : glp0 g b ds out (some δ) = glp1 g b ds (b out δ) := id rfl
theorem e_glp1 : glp1 g b ds (some (.nx δ, out)) = gloopL g b ds out δ := id rfl
theorem e_glpN : gloopL g b [] out δ = some (.nx δ, out) := id rfl
end
end DV

namespace PL
open PySem PySem.Spec PyProof.Rows L2 DV

theorem atB {bs : List Bool} {k : Nat} {c : Bool} (h : bs[k]? = some c) : L2.atI (bs.map D.bl) (k : Int) = some (.bl c) := by
  have hk := (List.getElem?_eq_some_iff.mp h).1
  rw [atI_pos (by omega) (by rw [List.length_map]; omega)]
  simp [h]
theorem atN {ns : List Int} {k : Nat} {c : Int} (h : ns[k]? = some c) : L2.atI (ns.map D.int) (k : Int) = some (.int c) := by
  have hk := (List.getElem?_eq_some_iff.mp h).1
  rw [atI_pos (by omega) (by rw [List.length_map]; omega)]
  simp [h]
theorem atM {α : Type} {enc : α → D} {ns : List α} {k : Nat} {c : α} (h : ns[k]? = some c) : L2.atI (ns.map enc) (k : Int) = some (enc c) := by
  have hk := (List.getElem?_eq_some_iff.mp h).1
  rw [atI_pos (by omega) (by rw [List.length_map]; omega)]
  simp [h]
theorem rangeN (i m : Nat) : rangeD i m = (List.range' i m).map fun (k : Nat) => D.int (k : Int) := by
  unfold rangeD
  rw [List.range'_eq_map_range, List.map_map]
  exact List.map_congr_left fun k _ => by simp
theorem rangeI (i : Int) (m : Nat) : rangeD i m = (List.range m).map fun (k : Nat) => D.int (i + (k : Int)) := rfl
theorem atT {ns : List Int} {k : Nat} {c : Int} (h : ns[k]? = some c) : ixG (.tup (ns.map .int)) (.int (k : Int)) = some (.dat (.int c)) := by
  rw [g_ixT, atN h]; rfl
theorem atL {ns : List Int} {k : Nat} {c : Int} (h : ns[k]? = some c) : ixG (.lst (ns.map .int)) (.int (k : Int)) = some (.dat (.int c)) := by
  rw [g_ixL, atN h]; rfl
theorem at0 {x : Int} {r : List Int} : L2.atI ((x :: r).map D.int) 0 = some (.int x) := g_atI0
theorem atEnd {α : Type} {enc : α → D} {xs : List α} {x : α} : L2.atI ((xs ++ [x]).map enc) (-1) = some (enc x) := by
  rw [DV.atI_last (by simp)]; simp
/-- a list or a tuple of ints -/
def IsSq (d : D) (ns : List Int) : Prop := d = .lst (ns.map .int) ∨ d = .tup (ns.map .int)
theorem smallOf {i : Int} (h0 : 0 ≤ i) (h : i < 1000000000000) : smallI i = true := by
  unfold smallI
  rw [Bool.and_eq_true, decide_eq_true_eq, decide_eq_true_eq]; omega
def dl : Nat → List D
  | 0 => []
  | m + 1 => .int (m : Int) :: dl m
theorem down_dl : ∀ n : Nat, downD ((n : Int) - 1) n = dl n
  | 0 => rfl
  | n + 1 => by
    have ih := down_dl n
    unfold downD at ih ⊢
    rw [List.range_succ_eq_map, List.map_cons, List.map_map]
    show D.int _ :: _ = D.int _ :: dl n
    rw [← ih]
    congr 1
    · congr 1; omega
    · refine List.map_congr_left fun k _ => ?_
      show D.int _ = D.int _
      congr 1
      omega
theorem consI {r : Int} {ks : List Int} : [D.int r] ++ ks.map D.int = (r :: ks).map .int := rfl
theorem lk1 {x : D} : List.lookup (Str.ofString "cuts") (List.zip [Str.ofString "cuts"] [x]) = some x := by
  rw [List.zip_cons_cons, List.lookup_cons]
  simp
theorem lk2 {x y : D} : List.lookup (Str.ofString "cuts") (List.zip [Str.ofString "cuts", Str.ofString "counts"] [x, y]) = some x := by
  rw [List.zip_cons_cons, List.lookup_cons]
  simp
theorem lk3 {x y : D} : List.lookup (Str.ofString "counts") (List.zip [Str.ofString "cuts", Str.ofString "counts"] [x, y]) = some y := by
  rw [List.zip_cons_cons, List.lookup_cons, show (Str.ofString "counts" == Str.ofString "cuts") = false by decide +kernel, List.zip_cons_cons, List.lookup_cons]
  simp
theorem pk1 {x : D} : DV.putK (Str.ofString "cuts") x [] [] = ([Str.ofString "cuts"], [x]) := by unfold DV.putK; rfl
theorem pk2 {x y : D} : DV.putK (Str.ofString "counts") y [Str.ofString "cuts"] [x] = ([Str.ofString "cuts", Str.ofString "counts"], [x, y]) := by
  unfold DV.putK
  rw [if_neg (show ¬ (Str.ofString "cuts" = Str.ofString "counts") by decide +kernel)]
  unfold DV.putK
  rfl
theorem isN0 : isNG .non .non = some (.dat (.bl true)) := id rfl
theorem isN1 {i : Int} : isNG (.int i) .non = some (.dat (.bl false)) := id rfl
theorem isN2 (xs : List D) : isNG (.lst xs) .non = some (.dat (.bl false)) := id rfl
theorem isN3 {C : Addr} {ks : List Str} {ds : List D} : isNG (.ins C ks ds) .non = some (.dat (.bl false)) := id rfl
theorem ntN0 : notNG .non .non = some (.dat (.bl false)) := id rfl
theorem ntN1 {i : Int} : notNG (.int i) .non = some (.dat (.bl true)) := id rfl
theorem ntN2 (xs : List D) : notNG (.lst xs) .non = some (.dat (.bl true)) := id rfl
theorem ntN3 {C : Addr} {ks : List Str} {ds : List D} : notNG (.ins C ks ds) .non = some (.dat (.bl true)) := id rfl
theorem g_eqTs0 (xs : List Int) : eqG (.tup (xs.map .int)) (.tup []) = some (.dat (.bl (decide (xs = [])))) := g_eqTs xs []
theorem g_eqI00 : eqG (.lst []) (.lst []) = some (.dat (.bl true)) := (g_eqI0 []).trans (by simp)
theorem g_eqT00 : eqG (.tup []) (.tup []) = some (.dat (.bl true)) := (g_eqTs0 []).trans (by simp)
theorem g_neI00 : neG (.lst []) (.lst []) = some (.dat (.bl false)) := (g_neI0 []).trans (by simp)
theorem g_neTs (xs ys : List Int) : neG (.tup (xs.map .int)) (.tup (ys.map .int)) = some (.dat (.bl (!decide (xs = ys)))) := by unfold neG; rw [eqB_tints]; rfl
theorem fm_if {α β : Type} (b : α → Bool) (f : α → β) : ∀ xs : List α, xs.filterMap (fun p => if b p = true then some (f p) else none) = (xs.filter b).map f
  | [] => rfl
  | x :: xs => by
    rw [List.filterMap_cons, List.filter_cons, fm_if b f xs]
    cases b x <;> rfl
theorem r11w {k : Int} {δ : DV.Env} (h : -4611686018427387904 ≤ k ∧ k < 4611686018427387904) : r11 (some ([.dat (.int k)], δ)) = some (rangeD 0 k.toNat, δ) := by
  show (if _ then _ else _) = _
  rw [if_pos (by rw [Bool.and_eq_true, decide_eq_true_eq, decide_eq_true_eq]; omega)]
theorem neS {a b : Str} : neG (.str a) (.str b) = some (.dat (.bl (!decide (a = b)))) := by
  show some (O.dat (.bl (!decide (V.str a = V.str b)))) = _
  simp
theorem eqS {a b : Str} : eqG (.str a) (.str b) = some (.dat (.bl (decide (a = b)))) := by
  show some (O.dat (.bl (decide (V.str a = V.str b)))) = _
  simp
theorem blsOf_map : ∀ bs : List Bool, blsOf (bs.map .bl) = some bs
  | [] => rfl
  | b :: bs => by rw [List.map_cons, blsOf, blsOf_map bs]; rfl
theorem all_bls (bs : List Bool) : allG [.lst (bs.map .bl)] = some (.dat (.bl (bs.all id))) := by
  unfold allG
  simp only [lstOf, Option.bind_some, blsOf_map]
theorem any_bls (bs : List Bool) : anyG [.lst (bs.map .bl)] = some (.dat (.bl (bs.any id))) := by
  unfold anyG
  simp only [lstOf, Option.bind_some, blsOf_map]
theorem addT {xs ys : List Int} (h : xs.length + ys.length ≤ 100000) : addG (.tup (xs.map .int)) (.tup (ys.map .int)) = some (.dat (.tup ((xs ++ ys).map .int))) := by
  rw [List.map_append]
  exact if_pos (szl (by rw [List.length_map, List.length_map]; exact h))
theorem addT1 {xs : List Int} {l : Int} (h : xs.length + 1 ≤ 100000) : addG (.tup (xs.map .int)) (.tup [.int l]) = some (.dat (.tup ((xs ++ [l]).map .int))) := addT (ys := [l]) h
end PL

namespace PL
open PySem PySem.Spec PyProof.Rows L2 DV

/-! ### chains, plainly -/
def Fall : List Int → Prop
  | [] => True
  | x :: r => (0 < x ∧ x ≤ 1000) ∧ (∀ y ∈ r, y < x) ∧ Fall r
theorem fall_mem : ∀ {ns : List Int}, Fall ns → ∀ x ∈ ns, 0 < x ∧ x ≤ 1000
  | y :: r, h, x, hx => by
    rcases List.mem_cons.mp hx with rfl | hx
    · exact h.1
    · exact fall_mem h.2.2 x hx
theorem fall_adj : ∀ {ns : List Int}, Fall ns → ∀ (k : Nat) (x y : Int), ns[k]? = some x → ns[k + 1]? = some y → y < x
  | z :: r, h, 0, x, y, h1, h2 => by
    simp at h1 h2
    subst h1
    exact h.2.1 y (List.mem_of_getElem? h2)
  | z :: r, h, k + 1, x, y, h1, h2 => fall_adj h.2.2 k x y (by simpa using h1) (by simpa using h2)
theorem fall_len {ns : List Int} (h : Fall ns) : ∀ {x : Int} {r : List Int}, ns = x :: r → (ns.length : Int) ≤ x := by
  induction ns with
  | nil => intro x r e; cases e
  | cons y ns ih =>
    intro x r e
    cases e
    cases hr : ns with
    | nil =>
      have := h.1.1
      simp; omega
    | cons z r2 =>
      have h1 := ih h.2.2 hr
      have h2 := h.2.1 z (by rw [hr]; exact List.mem_cons_self ..)
      rw [hr] at h1
      simp only [List.length_cons] at h1 ⊢
      omega
theorem fall_size {ns : List Int} (h : Fall ns) : ns.length ≤ 1000 := by
  cases e : ns with
  | nil => simp
  | cons x r =>
    have h1 := fall_len h e
    have h2 := (fall_mem h x (by rw [e]; exact List.mem_cons_self ..)).2
    rw [e] at h1
    omega
/-- falling, as a check -/
def fallB : List Int → Bool
  | [] => true
  | x :: r => decide (0 < x) && decide (x ≤ 1000) && r.all (fun y => decide (y < x)) && fallB r
theorem fall_of : ∀ {l : List Int}, fallB l = true → Fall l
  | [], _ => trivial
  | x :: r, h => by
    unfold fallB at h
    simp only [Bool.and_eq_true, decide_eq_true_eq, List.all_eq_true] at h
    exact ⟨⟨h.1.1.1, h.1.1.2⟩, fun y hy => h.1.2 y hy, fall_of h.2⟩
theorem fall_pw : ∀ {l : List Int}, l.Pairwise (fun a b => b < a) → (∀ x ∈ l, 0 < x ∧ x ≤ 1000) → Fall l
  | [], _, _ => trivial
  | x :: r, h, hm => by
    obtain ⟨h1, h2⟩ := List.pairwise_cons.mp h
    exact ⟨hm x (List.mem_cons_self ..), h1, fall_pw h2 fun y hy => hm y (List.mem_cons_of_mem _ hy)⟩
theorem fall_drop : ∀ {l : List Int} (n : Nat), Fall l → Fall (l.drop n)
  | l, 0, h => h
  | [], n + 1, h => trivial
  | x :: r, n + 1, h => fall_drop n h.2.2
/-- what is left of a place behind all cuts -/
def rest : List Int → Int → Int
  | [], x => x
  | c :: cs, x => rest cs (x % c)
/-- 0 or a boundary -/
def mk (cs : List Int) (x : Int) : Bool := decide (rest cs x = 0)
/-- into how many pieces a body is parted -/
def pcs : List Int → Int → Int
  | [], _ => 1
  | c :: cs, b => b / c * pcs cs c + (if b % c = 0 then 0 else pcs cs (b % c))
def cnts : List Int → List Int
  | [] => []
  | c :: cs => pcs cs c :: cnts cs
/-- the boundary with a number -/
def bnd : List Int → Int → Int
  | [], _ => 0
  | c :: cs, n => n / pcs cs c * c + (if n % pcs cs c = 0 then 0 else bnd cs (n % pcs cs c))
theorem cnts_len : ∀ cs, (cnts cs).length = cs.length
  | [] => rfl
  | c :: cs => by rw [cnts, List.length_cons, List.length_cons, cnts_len cs]
theorem dm (x c : Int) : x / c * c + x % c = x := by rw [Int.mul_comm]; exact Int.mul_ediv_add_emod x c
theorem rest_zero : ∀ cs, rest cs 0 = 0
  | [] => rfl
  | c :: cs => by rw [rest, Int.zero_emod]; exact rest_zero cs
theorem rest_le : ∀ {cs : List Int}, (∀ c ∈ cs, 0 < c) → ∀ {x : Int}, 0 ≤ x → 0 ≤ rest cs x ∧ rest cs x ≤ x
  | [], _, x, h => ⟨h, Int.le_refl _⟩
  | c :: cs, hc, x, h => by
    have c0 := hc c (List.mem_cons_self ..)
    have h0 := Int.emod_nonneg x (show c ≠ 0 by omega)
    have h1 : x % c ≤ x := by
      have := dm x c
      have := Int.mul_nonneg (Int.ediv_nonneg h (show 0 ≤ c by omega)) (show 0 ≤ c by omega)
      omega
    have := rest_le (fun y hy => hc y (List.mem_cons_of_mem _ hy)) h0
    exact ⟨this.1, Int.le_trans this.2 h1⟩
theorem pcs_pos : ∀ {cs : List Int}, (∀ c ∈ cs, 0 < c) → ∀ {b : Int}, 0 < b → 1 ≤ pcs cs b ∧ pcs cs b ≤ b
  | [], _, b, h => ⟨Int.le_refl _, h⟩
  | c :: cs, hc, b, h => by
    have c0 := hc c (List.mem_cons_self ..)
    have hcs : ∀ x ∈ cs, 0 < x := fun y hy => hc y (List.mem_cons_of_mem _ hy)
    have h0 := Int.emod_nonneg b (show c ≠ 0 by omega)
    have hq : 0 ≤ b / c := Int.ediv_nonneg (by omega) (by omega)
    have hd := dm b c
    obtain ⟨k1, k2⟩ := pcs_pos hcs c0
    have m1 : b / c * 1 ≤ b / c * pcs cs c := Int.mul_le_mul_of_nonneg_left k1 hq
    have m2 : b / c * pcs cs c ≤ b / c * c := Int.mul_le_mul_of_nonneg_left k2 hq
    rw [pcs]
    split
    · rename_i hz
      by_cases hq0 : b / c = 0
      · rw [hq0] at hd; omega
      · omega
    · rename_i hz
      obtain ⟨r1, r2⟩ := pcs_pos hcs (b := b % c) (by omega)
      omega
theorem Fall.pos {cs : List Int} (h : Fall cs) : ∀ c ∈ cs, 0 < c := fun c hc => (fall_mem h c hc).1
theorem pcs_nil_ne {cs : List Int} {b : Int} (h : 1 < pcs cs b) : cs ≠ [] := fun e => by rw [e, pcs] at h; omega
/-- numbers and boundaries -/
theorem galois : ∀ {cs : List Int}, Fall cs → cs ≠ [] → ∀ {n b : Int}, 1 ≤ n → 1 ≤ b → 0 < bnd cs n ∧ (bnd cs n < b ↔ n < pcs cs b)
  | c :: cs, h, _, n, b, hn, hb => by
    have c0 := h.1.1
    have hcs := h.2.2
    have hp := hcs.pos
    obtain ⟨k1, k2⟩ := pcs_pos hp c0
    have ih := fun (ne : cs ≠ []) {n b : Int} (hn : 1 ≤ n) (hb : 1 ≤ b) => galois hcs ne (n := n) (b := b) hn hb
    have ek : pcs cs c = pcs cs c := rfl
    generalize hk : pcs cs c = k at k1 k2 ek
    have n0 := Int.emod_nonneg n (show k ≠ 0 by omega)
    have n1 := Int.emod_lt_of_pos n (show 0 < k by omega)
    have nq : 0 ≤ n / k := Int.ediv_nonneg (by omega) (by omega)
    have nd := dm n k
    have b0 := Int.emod_nonneg b (show c ≠ 0 by omega)
    have b1 := Int.emod_lt_of_pos b c0
    have bq : 0 ≤ b / c := Int.ediv_nonneg (by omega) (by omega)
    have bd := dm b c
    rw [bnd, pcs, hk]
    generalize n / k = qn at *
    generalize n % k = rn at *
    generalize b / c = qb at *
    generalize b % c = rb at *
    -- the rest of n
    obtain ⟨en, e0, e1, ez, ehi⟩ : ∃ en, (if rn = 0 then 0 else bnd cs rn) = en ∧ (0 ≤ en ∧ en < c) ∧ (en = 0 ↔ rn = 0) ∧ (rn ≠ 0 → 1 ≤ rb → (en < rb ↔ rn < pcs cs rb)) := by
      by_cases hr : rn = 0
      · exact ⟨0, if_pos hr, ⟨Int.le_refl _, c0⟩, ⟨fun _ => hr, fun _ => rfl⟩, fun q => absurd hr q⟩
      · have ne : cs ≠ [] := pcs_nil_ne (b := c) (by rw [hk]; omega)
        have g := ih ne (n := rn) (b := c) (by omega) (by omega)
        refine ⟨bnd cs rn, if_neg hr, ⟨by omega, g.2.mpr (by rw [hk]; exact n1)⟩, ⟨fun q => by omega, fun q => absurd q hr⟩, fun _ hb => (ih ne (n := rn) (b := rb) (by omega) hb).2⟩
    -- the rest of b
    obtain ⟨pb, p0, p1, pz⟩ : ∃ pb, (if rb = 0 then 0 else pcs cs rb) = pb ∧ (0 ≤ pb ∧ pb ≤ k) ∧ (pb = 0 ↔ rb = 0) := by
      by_cases hr : rb = 0
      · exact ⟨0, if_pos hr, by omega, ⟨fun _ => hr, fun _ => rfl⟩⟩
      · obtain ⟨r1, r2⟩ := pcs_pos hp (b := rb) (by omega)
        refine ⟨pcs cs rb, if_neg hr, ⟨by omega, ?_⟩, ⟨fun q => by omega, fun q => absurd q hr⟩⟩
        by_cases ne : cs = []
        · rw [ne] at hk ⊢
          rw [← hk]; exact Int.le_refl _
        · by_cases hgt : pcs cs rb ≤ k
          · exact hgt
          · have g1 := (ih ne (n := k) (b := rb) (by omega) (by omega)).2.mpr (by omega)
            have g2 := (ih ne (n := k) (b := c) (by omega) (by omega)).2.mp (by omega)
            rw [hk] at g2; omega
    rw [e0, p0]
    have qpos : qn = 0 ∨ 1 ≤ qn := by omega
    constructor
    · rcases qpos with q | q
      · subst q
        have : rn ≠ 0 := by omega
        have : en ≠ 0 := fun q => this (ez.mp q)
        omega
      · have := Int.mul_le_mul_of_nonneg_right q (show 0 ≤ c by omega)
        omega
    · by_cases lt : qn < qb
      · have m1 := Int.mul_le_mul_of_nonneg_right (show qn + 1 ≤ qb by omega) (show 0 ≤ c by omega)
        have m2 := Int.mul_le_mul_of_nonneg_right (show qn + 1 ≤ qb by omega) (show 0 ≤ k by omega)
        rw [Int.add_mul, Int.one_mul] at m1 m2
        constructor <;> intro <;> omega
      · by_cases gt : qb < qn
        · have m1 := Int.mul_le_mul_of_nonneg_right (show qb + 1 ≤ qn by omega) (show 0 ≤ c by omega)
          have m2 := Int.mul_le_mul_of_nonneg_right (show qb + 1 ≤ qn by omega) (show 0 ≤ k by omega)
          rw [Int.add_mul, Int.one_mul] at m1 m2
          constructor <;> intro <;> omega
        · have eq : qn = qb := by omega
          subst eq
          by_cases hb0 : rb = 0
          · have := pz.mpr hb0
            constructor <;> intro <;> omega
          · have hpb : pb ≠ 0 := fun q => hb0 (pz.mp q)
            by_cases hr0 : rn = 0
            · have := ez.mpr hr0
              constructor <;> intro <;> omega
            · have g := ehi hr0 (by omega)
              rw [if_neg hb0] at p0
              rw [p0] at g
              constructor
              · intro hlt
                have := g.mp (by omega)
                omega
              · intro hlt
                have := g.mpr (by omega)
                omega
theorem bnd_mk : ∀ {cs : List Int}, Fall cs → cs ≠ [] → ∀ {n : Int}, 1 ≤ n → rest cs (bnd cs n) = 0 ∧ pcs cs (bnd cs n) = n
  | c :: cs, h, _, n, hn => by
    have c0 := h.1.1
    have hcs := h.2.2
    have hp := hcs.pos
    obtain ⟨k1, k2⟩ := pcs_pos hp c0
    rw [bnd, rest, pcs]
    have nd := dm n (pcs cs c)
    have n0 := Int.emod_nonneg n (show pcs cs c ≠ 0 by omega)
    have n1 := Int.emod_lt_of_pos n (show 0 < pcs cs c by omega)
    by_cases hr : n % pcs cs c = 0
    · rw [if_pos hr, Int.add_zero, Int.mul_emod_left, Int.mul_ediv_cancel _ (show c ≠ 0 by omega)]
      rw [if_pos rfl, rest_zero]
      exact ⟨rfl, by omega⟩
    · rw [if_neg hr]
      have ne : cs ≠ [] := pcs_nil_ne (b := c) (by omega)
      obtain ⟨g1, g2⟩ := galois hcs ne (n := n % pcs cs c) (b := c) (by omega) (by omega)
      have g3 := g2.mpr n1
      obtain ⟨i1, i2⟩ := bnd_mk hcs ne (n := n % pcs cs c) (by omega)
      have e1 : (n / pcs cs c * c + bnd cs (n % pcs cs c)) % c = bnd cs (n % pcs cs c) := by
        rw [Int.mul_add_emod_self_right]; exact Int.emod_eq_of_lt (by omega) g3
      have e2 : (n / pcs cs c * c + bnd cs (n % pcs cs c)) / c = n / pcs cs c := by
        rw [Int.add_comm, Int.add_mul_ediv_right _ _ (show c ≠ 0 by omega), Int.ediv_eq_zero_of_lt (by omega) g3, Int.zero_add]
      rw [e1, e2, if_neg (by omega)]
      exact ⟨i1, by rw [i2]; exact nd⟩
theorem bnd_next {cs : List Int} (h : Fall cs) (ne : cs ≠ []) {n : Int} (hn : 1 ≤ n) : pcs cs (bnd cs n + 1) = n + 1 := by
  obtain ⟨g1, g2⟩ := galois h ne (n := n) (b := bnd cs n + 1) hn (by have := (galois h ne (n := n) (b := 1) hn (by omega)).1; omega)
  have g3 := g2.mp (by omega)
  obtain ⟨g4, g5⟩ := galois h ne (n := n + 1) (b := bnd cs n + 1) (by omega) (by omega)
  by_cases lt : n + 1 < pcs cs (bnd cs n + 1)
  · have g6 := g5.mpr lt
    have p1 := (bnd_mk h ne hn).2
    have p2 := (bnd_mk h ne (n := n + 1) (by omega)).2
    by_cases e : bnd cs (n + 1) = bnd cs n
    · rw [e] at p2; omega
    · have := (galois h ne (n := n + 1) (b := bnd cs n) (by omega) (by omega)).2.mp (by omega)
      omega
  · omega
/-- the last cut -/
theorem bnd_one : ∀ {cs : List Int}, Fall cs → (ne : cs ≠ []) → bnd cs 1 = cs.getLast ne
  | [c], h, _ => by
    rw [bnd, pcs]; simp
  | c :: d :: cs, h, _ => by
    have ih := bnd_one h.2.2 (by simp : d :: cs ≠ [])
    have hlt : bnd (d :: cs) 1 < c := by
      rw [ih]; exact h.2.1 _ (List.getLast_mem _)
    have g := (galois h.2.2 (by simp : d :: cs ≠ []) (n := 1) (b := c) (by omega) (by have := h.1.1; omega)).2.mp hlt
    rw [bnd, Int.emod_eq_of_lt (by omega) g, Int.ediv_eq_zero_of_lt (by omega) g, if_neg (by decide), ih, List.getLast_cons (show d :: cs ≠ [] by simp)]
    omega
theorem last_le : ∀ {cs : List Int}, Fall cs → (ne : cs ≠ []) → ∀ x ∈ cs, cs.getLast ne ≤ x
  | [c], h, _, x, hx => by
    rw [List.mem_singleton] at hx; subst hx; simp
  | c :: d :: cs, h, _, x, hx => by
    rw [List.getLast_cons (show d :: cs ≠ [] by simp)]
    rcases List.mem_cons.mp hx with rfl | hx
    · exact Int.le_of_lt (h.2.1 _ (List.getLast_mem _))
    · exact last_le h.2.2 (by simp) x hx
/-! ### with the cut 1 each place is a boundary -/
theorem one_all : ∀ {cs : List Int}, Fall cs → 1 ∈ cs → (∀ b, 0 < b → pcs cs b = b) ∧ ∀ n, 0 ≤ n → bnd cs n = n
  | c :: cs, h, h1 => by
    have c0 := h.1.1
    have e : pcs cs c = c ∧ ((∀ b, 0 < b → b < c → pcs cs b = b) ∧ ∀ n, 0 < n → n < c → bnd cs n = n) := by
      rcases List.mem_cons.mp h1 with q | q
      · subst q
        have : cs = [] := by
          cases cs with
          | nil => rfl
          | cons y r =>
            have h2 := h.2.1 y (List.mem_cons_self ..)
            have h3 := h.2.2.1.1
            omega
        subst this
        exact ⟨rfl, fun b h1 h2 => by omega, fun n h1 h2 => by omega⟩
      · obtain ⟨i1, i2⟩ := one_all h.2.2 q
        exact ⟨i1 c c0, fun b hb _ => i1 b hb, fun n hn _ => i2 n (by omega)⟩
    obtain ⟨e1, e2, e3⟩ := e
    constructor
    · intro b hb
      have d := dm b c
      have b0 := Int.emod_nonneg b (show c ≠ 0 by omega)
      have b1 := Int.emod_lt_of_pos b c0
      rw [pcs, e1]
      split
      · omega
      · rw [e2 _ (by omega) b1]; exact d
    · intro n hn
      have d := dm n c
      have b0 := Int.emod_nonneg n (show c ≠ 0 by omega)
      have b1 := Int.emod_lt_of_pos n c0
      rw [bnd, e1]
      split
      · omega
      · rw [e3 _ (by omega) b1]; exact d
end PL

namespace PL
open PySem PySem.Spec PyProof.Rows L2 DV

/-! ### the plain law: periods and borders of beginnings -/
def P (bs : List Bool) (n p : Nat) : Bool := decide ((bs.drop p).take (n - p) = bs.take (n - p))
theorem P_iff {bs : List Bool} {n p : Nat} : P bs n p = true ↔ ∀ j < n - p, bs[p + j]? = bs[j]? := by
  unfold P
  rw [decide_eq_true_eq]
  constructor
  · intro h j hj
    have e := congrArg (fun l => l[j]?) h
    simp only [List.getElem?_take, hj, if_true, List.getElem?_drop] at e
    exact e
  · intro h
    apply List.ext_getElem?
    intro j
    rw [List.getElem?_take, List.getElem?_take, List.getElem?_drop]
    split
    · rename_i hj; exact h j hj
    · rfl
def lpf (q : Nat → Bool) : Nat → Nat → Option Nat
  | _, 0 => none
  | i, m + 1 => if q i = true then some i else lpf q (i + 1) m
theorem lpf_head (q : Nat → Bool) : ∀ m i, ((List.range' i m).filter q).head? = lpf q i m
  | 0, i => rfl
  | m + 1, i => by
    rw [List.range'_succ, List.filter_cons]
    unfold lpf
    split
    · rfl
    · exact lpf_head q m (i + 1)
theorem lpf_some {q : Nat → Bool} : ∀ {m i p : Nat}, lpf q i m = some p → i ≤ p ∧ p < i + m ∧ q p = true ∧ ∀ k, i ≤ k → k < p → q k = false
  | 0, i, p, h => by cases h
  | m + 1, i, p, h => by
    unfold lpf at h
    split at h
    · rename_i hq
      cases h
      exact ⟨Nat.le_refl _, by omega, hq, fun k h1 h2 => by omega⟩
    · rename_i hq
      obtain ⟨h1, h2, h3, h4⟩ := lpf_some h
      refine ⟨by omega, by omega, h3, fun k k1 k2 => ?_⟩
      by_cases e : k = i
      · subst e; exact Bool.eq_false_iff.mpr hq
      · exact h4 k (by omega) k2
theorem lpf_none {q : Nat → Bool} : ∀ {m i : Nat}, lpf q i m = none → ∀ k, i ≤ k → k < i + m → q k = false
  | 0, i, _, k, h1, h2 => by omega
  | m + 1, i, h, k, h1, h2 => by
    unfold lpf at h
    split at h
    · cases h
    · rename_i hq
      by_cases e : k = i
      · subst e; exact Bool.eq_false_iff.mpr hq
      · exact lpf_none h k (by omega) (by omega)
def lp (bs : List Bool) (n : Nat) : Option Nat := lpf (P bs n) 1 (n - 1)
def L (bs : List Bool) (n : Nat) : Nat := match lp bs n with
  | some p => n - p
  | none => 0
def B (bs : List Bool) (n k : Nat) : Prop := k < n ∧ ∀ j < k, bs[n - k + j]? = bs[j]?
theorem B_P {bs : List Bool} {n k : Nat} (h : k < n) : B bs n k ↔ P bs n (n - k) = true := by
  rw [P_iff]
  unfold B
  have e : n - (n - k) = k := by omega
  rw [e]
  exact ⟨fun h => h.2, fun g => ⟨h, g⟩⟩
theorem L_B {bs : List Bool} {n : Nat} (h : 0 < n) : B bs n (L bs n) := by
  unfold L
  cases e : lp bs n with
  | none => exact ⟨h, fun j hj => absurd hj (Nat.not_lt_zero _)⟩
  | some p =>
    obtain ⟨h1, h2, h3, _⟩ := lpf_some e
    show B bs n (n - p)
    rw [B_P (by omega)]
    have e2 : n - (n - p) = p := by omega
    rw [e2]; exact h3
theorem L_max {bs : List Bool} {n k : Nat} (h : B bs n k) : k ≤ L bs n := by
  have hk := h.1
  rw [B_P hk] at h
  unfold L
  by_cases k0 : k = 0
  · omega
  cases e : lp bs n with
  | none =>
    have := lpf_none e (n - k) (by omega) (by omega)
    rw [this] at h; cases h
  | some p =>
    obtain ⟨h1, h2, h3, h4⟩ := lpf_some e
    show k ≤ n - p
    by_cases q : n - k < p
    · have := h4 (n - k) (by omega) q
      rw [this] at h; cases h
    · omega
theorem L_lt {bs : List Bool} {n : Nat} (h : 0 < n) : L bs n < n := (L_B h).1
theorem B_nest {bs : List Bool} {n k m : Nat} (h : B bs n k) (hm : m < k) : B bs n m ↔ B bs k m := by
  obtain ⟨h1, h2⟩ := h
  constructor
  · rintro ⟨g1, g2⟩
    refine ⟨hm, fun j hj => ?_⟩
    rw [← g2 j hj, ← h2 (k - m + j) (by omega)]
    congr 1; omega
  · rintro ⟨g1, g2⟩
    refine ⟨by omega, fun j hj => ?_⟩
    rw [← g2 j hj, ← h2 (k - m + j) (by omega)]
    congr 1; omega
theorem B_succ {bs : List Bool} {n k : Nat} : B bs (n + 1) (k + 1) ↔ B bs n k ∧ bs[n]? = bs[k]? := by
  unfold B
  constructor
  · rintro ⟨h1, h2⟩
    refine ⟨⟨by omega, fun j hj => ?_⟩, ?_⟩
    · have := h2 j (by omega)
      rw [← this]; congr 1; omega
    · have := h2 k (by omega)
      rw [← this]; congr 1; omega
  · rintro ⟨⟨h1, h2⟩, h3⟩
    refine ⟨by omega, fun j hj => ?_⟩
    by_cases e : j = k
    · subst e; rw [← h3]; congr 1; omega
    · rw [← h2 j (by omega)]; congr 1; omega
/-- the candidate in the inner loop -/
def Cand (bs : List Bool) (n l : Nat) : Prop := B bs n l ∧ ∀ k, B bs n k → bs[n]? = bs[k]? → k ≤ l
theorem cand0 {bs : List Bool} {n : Nat} (h : 0 < n) : Cand bs n (L bs n) := ⟨L_B h, fun k hk _ => L_max hk⟩
theorem cand_step {bs : List Bool} {n l : Nat} (h : Cand bs n l) (h0 : 0 < l) (hne : bs[n]? ≠ bs[l]?) : Cand bs n (L bs l) := by
  obtain ⟨h1, h2⟩ := h
  refine ⟨(B_nest h1 (L_lt h0)).mpr (L_B h0), fun k hk he => ?_⟩
  have h3 := h2 k hk he
  have h4 : k ≠ l := fun e => hne (by rw [he, e])
  exact L_max ((B_nest h1 (by omega)).mp hk)
theorem cand_hit {bs : List Bool} {n l : Nat} (h : Cand bs n l) (he : bs[n]? = bs[l]?) : L bs (n + 1) = l + 1 := by
  obtain ⟨h1, h2⟩ := h
  have hB := B_succ.mpr ⟨h1, he⟩
  have g1 := L_max hB
  have g2 : B bs (n + 1) (L bs (n + 1)) := L_B (by omega)
  cases e : L bs (n + 1) with
  | zero => omega
  | succ k =>
    rw [e] at g2 g1
    have := B_succ.mp g2
    have := h2 k this.1 this.2
    omega
theorem cand_miss {bs : List Bool} {n : Nat} (h : Cand bs n 0) (he : bs[n]? ≠ bs[0]?) : L bs (n + 1) = 0 := by
  obtain ⟨h1, h2⟩ := h
  have g2 : B bs (n + 1) (L bs (n + 1)) := L_B (by omega)
  cases e : L bs (n + 1) with
  | zero => rfl
  | succ k =>
    rw [e] at g2
    have g := B_succ.mp g2
    have := h2 k g.1 g.2
    have k0 : k = 0 := by omega
    rw [k0] at g
    exact absurd g.2 he
theorem L_one (bs : List Bool) : L bs 1 = 0 := by
  have := L_lt (bs := bs) (n := 1) (by decide)
  omega
/-! ### down to the last period -/
def fin (bs : List Bool) : Nat → Nat → Nat
  | 0, n => n
  | f + 1, n => match lp bs n with
    | some p => fin bs f p
    | none => n
def mid (bs : List Bool) (n : Nat) : Bool := ((bs.drop 1).take (n - 1)).contains true
def nz (bs : List Bool) : Nat → Nat → Bool
  | 0, _ => false
  | f + 1, n => if mid bs n = true then (match lp bs n with
    | some p => nz bs f p
    | none => true) else false
theorem lp_lt {bs : List Bool} {n p : Nat} (h : lp bs n = some p) : 0 < p ∧ p < n := by
  obtain ⟨h1, h2, _, _⟩ := lpf_some h
  omega
theorem mid_mono {bs : List Bool} {n m : Nat} (h : m ≤ n) (hn : mid bs n = false) : mid bs m = false := by
  unfold mid at *
  cases e : ((bs.drop 1).take (m - 1)).contains true with
  | false => rfl
  | true =>
    have h1 : true ∈ (bs.drop 1).take (m - 1) := by simpa using e
    have h2 : true ∈ (bs.drop 1).take (n - 1) := by
      have e2 : (bs.drop 1).take (m - 1) = ((bs.drop 1).take (n - 1)).take (m - 1) := by rw [List.take_take, Nat.min_eq_left (by omega)]
      rw [e2] at h1
      exact List.mem_of_mem_take h1
    have : ((bs.drop 1).take (n - 1)).contains true = true := by simpa using h2
    rw [hn] at this; cases this
theorem fin_le (bs : List Bool) : ∀ f n, fin bs f n ≤ n
  | 0, n => Nat.le_refl _
  | f + 1, n => by
    unfold fin
    split
    · rename_i p e
      have := fin_le bs f p
      have := lp_lt e
      omega
    · exact Nat.le_refl _
theorem nz_fin (bs : List Bool) : ∀ f n, n ≤ f → nz bs f n = mid bs (fin bs f n)
  | 0, n, h => by
    have : n = 0 := by omega
    subst this
    show false = mid bs 0
    unfold mid
    simp
  | f + 1, n, h => by
    unfold nz
    cases hm : mid bs n with
    | false =>
      rw [if_neg (by decide)]
      exact (mid_mono (fin_le bs _ _) hm).symm
    | true =>
      rw [if_pos rfl]
      cases e : lp bs n with
      | none =>
        unfold fin
        rw [e]
        exact hm.symm
      | some p =>
        have := lp_lt e
        show nz bs f p = _
        rw [nz_fin bs f p (by omega)]
        have : fin bs (f + 1) n = fin bs f p := by
          show (match lp bs n with | some p => fin bs f p | none => n) = _
          rw [e]
        rw [this]
/-- what the law finds, what the program finds -/
def nl (bs : List Bool) : Nat → Nat → List Int
  | 0, _ => []
  | f + 1, n => if mid bs n = true then (match lp bs n with
    | some p => (p : Int) :: nl bs f p
    | none => []) else []
def pl (bs : List Bool) : Nat → Nat → List Int
  | 0, _ => []
  | f + 1, n => match lp bs n with
    | some p => (p : Int) :: pl bs f p
    | none => []
theorem lp_of_mid {bs : List Bool} {n : Nat} (h : mid bs n = false) (h0 : bs[0]? = some true) : lp bs n = none := by
  cases e : lp bs n with
  | none => rfl
  | some p =>
    obtain ⟨h1, h2, h3, _⟩ := lpf_some e
    have hp := P_iff.mp h3 0 (by omega)
    rw [Nat.add_zero, h0] at hp
    have hm : true ∈ (bs.drop 1).take (n - 1) := by
      rw [List.mem_iff_getElem?]
      refine ⟨p - 1, ?_⟩
      rw [List.getElem?_take, if_pos (by omega), List.getElem?_drop]
      have e2 : 1 + (p - 1) = p := by omega
      rw [e2]; exact hp
    have : mid bs n = true := by
      unfold mid
      simpa using hm
    rw [h] at this; cases this
theorem nl_pl {bs : List Bool} (h0 : bs[0]? = some true) : ∀ f n, nz bs f n = false → nl bs f n = pl bs f n
  | 0, n, _ => rfl
  | f + 1, n, h => by
    unfold nz at h
    unfold nl pl
    cases hm : mid bs n with
    | false => rw [if_neg (by decide), lp_of_mid hm h0]
    | true =>
      rw [hm, if_pos rfl] at h
      rw [if_pos rfl]
      cases e : lp bs n with
      | none => rfl
      | some p =>
        rw [e] at h
        show (p : Int) :: nl bs f p = (p : Int) :: pl bs f p
        rw [nl_pl h0 f p h]
theorem pl_last (bs : List Bool) : ∀ f n, (pl bs f n = [] ∧ fin bs f n = n) ∨ ∃ xs, pl bs f n = xs ++ [((fin bs f n : Nat) : Int)]
  | 0, n => .inl ⟨rfl, rfl⟩
  | f + 1, n => by
    have e1 : pl bs (f + 1) n = match lp bs n with | some p => (p : Int) :: pl bs f p | none => [] := rfl
    have e2 : fin bs (f + 1) n = match lp bs n with | some p => fin bs f p | none => n := rfl
    rw [e1, e2]
    cases e : lp bs n with
    | none => exact .inl ⟨rfl, rfl⟩
    | some p =>
      right
      show ∃ xs, (p : Int) :: pl bs f p = xs ++ [((fin bs f p : Nat) : Int)]
      rcases pl_last bs f p with ⟨h1, h2⟩ | ⟨xs, h⟩
      · exact ⟨[], by rw [h1, h2]; rfl⟩
      · exact ⟨(p : Int) :: xs, by rw [h]; rfl⟩
theorem pl_fall (bs : List Bool) : ∀ f n, (∀ p, lp bs n = some p → p ≤ 1000) → Fall (pl bs f n) ∧ ∀ y ∈ pl bs f n, y < (n : Int)
  | 0, n, _ => ⟨trivial, fun y hy => by cases hy⟩
  | f + 1, n, hn => by
    unfold pl
    cases e : lp bs n with
    | none => exact ⟨trivial, fun y hy => by cases hy⟩
    | some p =>
      have hp := lp_lt e
      have hq := hn p e
      obtain ⟨h1, h2⟩ := pl_fall bs f p (fun q hq => by have := lp_lt hq; omega)
      refine ⟨⟨by omega, h2, h1⟩, fun y hy => ?_⟩
      rcases List.mem_cons.mp hy with rfl | hy
      · omega
      · have := h2 y hy; omega
theorem pl_fuel (bs : List Bool) : ∀ f g n, n ≤ f → n ≤ g → pl bs f n = pl bs g n
  | 0, 0, n, _, _ => rfl
  | 0, g + 1, n, h, _ => by
    have : n = 0 := by omega
    subst this; rfl
  | f + 1, 0, n, _, h => by
    have : n = 0 := by omega
    subst this; rfl
  | f + 1, g + 1, n, h1, h2 => by
    unfold pl
    cases e : lp bs n with
    | none => rfl
    | some p =>
      have hp := lp_lt e
      show (p : Int) :: pl bs f p = (p : Int) :: pl bs g p
      rw [pl_fuel bs f g p (by omega) (by omega)]
end PL

namespace PL
open PySem PySem.Spec PyProof.Rows L2 DV

/-! ### normal chains, plainly: S x: x is 0 or a boundary -/
def per (S : Nat → Bool) (m p : Nat) : Prop := 1 ≤ p ∧ p < m ∧ ∀ x, x + p < m → S x = S (x + p)
def lst_ (S : Nat → Bool) (m : Nat) : List Bool := (List.range m).map S
theorem lst_len (S : Nat → Bool) (m : Nat) : (lst_ S m).length = m := by simp [lst_]
theorem lst_get {S : Nat → Bool} {m i : Nat} (h : i < m) : (lst_ S m)[i]? = some (S i) := by simp [lst_, h]
theorem P_per {S : Nat → Bool} {N n p : Nat} (hn : n ≤ N) (h1 : 1 ≤ p) (h2 : p < n) : P (lst_ S N) n p = true ↔ per S n p := by
  rw [P_iff]
  constructor
  · intro h
    refine ⟨h1, h2, fun x hx => ?_⟩
    have := h x (by omega)
    rw [lst_get (by omega), lst_get (by omega)] at this
    rw [Nat.add_comm x p]
    exact (Option.some.inj this).symm
  · rintro ⟨_, _, h⟩ j hj
    rw [lst_get (by omega), lst_get (by omega), h j (by omega), Nat.add_comm]
/-- the least period below m -/
theorem lp_iff {S : Nat → Bool} {N n p : Nat} (hn : n ≤ N) : lp (lst_ S N) n = some p ↔ per S n p ∧ ∀ q, per S n q → p ≤ q := by
  constructor
  · intro h
    have h0 := lp_lt h
    obtain ⟨h1, h2, h3, h4⟩ := lpf_some h
    refine ⟨(P_per hn h1 h0.2).mp h3, fun q hq => ?_⟩
    by_cases l : q < p
    · have := h4 q hq.1 l
      rw [(P_per hn hq.1 hq.2.1).mpr hq] at this; cases this
    · omega
  · rintro ⟨h1, h2⟩
    cases e : lp (lst_ S N) n with
    | none =>
      have := lpf_none e p h1.1 (by have := h1.2.1; omega)
      rw [(P_per hn h1.1 h1.2.1).mpr h1] at this; cases this
    | some q =>
      have h0 := lp_lt e
      obtain ⟨g1, g2, g3, g4⟩ := lpf_some e
      have hq := (P_per hn g1 h0.2).mp g3
      have l1 := h2 q hq
      by_cases l : p < q
      · have := g4 p h1.1 l
        rw [(P_per hn h1.1 h1.2.1).mpr h1] at this; cases this
      · congr 1; omega
theorem lp_none {S : Nat → Bool} {N n : Nat} (hn : n ≤ N) : lp (lst_ S N) n = none ↔ ∀ q, ¬ per S n q := by
  constructor
  · intro h q hq
    have := lpf_none h q hq.1 (by have := hq.2.1; omega)
    rw [(P_per hn hq.1 hq.2.1).mpr hq] at this; cases this
  · intro h
    cases e : lp (lst_ S N) n with
    | none => rfl
    | some p => exact absurd ((lp_iff hn).mp e).1 (h p)
/-- the cuts of the normal chain below m -/
def nrm (S : Nat → Bool) (m : Nat) : List Int := pl (lst_ S m) m m
theorem pl_nrm (S : Nat → Bool) : ∀ (f N n : Nat), n ≤ N → n ≤ f → pl (lst_ S N) f n = nrm S n := by
  have go : ∀ (f N M n : Nat), n ≤ N → n ≤ M → n ≤ f → pl (lst_ S N) f n = pl (lst_ S M) f n := by
    intro f
    induction f with
    | zero => intro N M n _ _ _; rfl
    | succ f ih =>
      intro N M n h1 h2 h3
      have e : lp (lst_ S N) n = lp (lst_ S M) n := by
        cases e : lp (lst_ S M) n with
        | none => exact (lp_none h1).mpr ((lp_none h2).mp e)
        | some p => exact (lp_iff h1).mpr ((lp_iff h2).mp e)
      unfold pl
      rw [e]
      cases q : lp (lst_ S M) n with
      | none => rfl
      | some p =>
        have := lp_lt q
        show (p : Int) :: _ = (p : Int) :: _
        rw [ih N M p (by omega) (by omega) (by omega)]
  intro f N n h1 h2
  rw [go f N n n h1 (Nat.le_refl _) h2]
  exact pl_fuel _ f n n h2 (Nat.le_refl _)
theorem nrm_none {S : Nat → Bool} {m : Nat} (h : ∀ q, ¬ per S m q) : nrm S m = [] := by
  unfold nrm
  cases m with
  | zero => rfl
  | succ m =>
    unfold pl
    rw [(lp_none (Nat.le_refl _)).mpr h]
theorem nrm_some {S : Nat → Bool} {m p : Nat} (h1 : per S m p) (h2 : ∀ q, per S m q → p ≤ q) : nrm S m = (p : Int) :: nrm S p := by
  have hp := h1.2.1
  have e := (lp_iff (S := S) (Nat.le_refl m)).mpr ⟨h1, h2⟩
  obtain ⟨k, rfl⟩ : ∃ k, m = k + 1 := ⟨m - 1, by omega⟩
  show pl (lst_ S (k + 1)) (k + 1) (k + 1) = _
  unfold pl
  rw [e]
  show (p : Int) :: pl (lst_ S (k + 1)) k p = _
  rw [pl_nrm S k (k + 1) p (by omega) (by omega)]
/-- there is a least period or none -/
theorem per_cases (S : Nat → Bool) (m : Nat) : (∀ q, ¬ per S m q) ∨ ∃ p, per S m p ∧ ∀ q, per S m q → p ≤ q := by
  cases e : lp (lst_ S m) m with
  | none => exact .inl ((lp_none (Nat.le_refl _)).mp e)
  | some p => exact .inr ⟨p, (lp_iff (Nat.le_refl _)).mp e⟩
theorem per_congr {S T : Nat → Bool} {m p : Nat} (h : ∀ x < m, S x = T x) (hp : per S m p) : per T m p :=
  ⟨hp.1, hp.2.1, fun x hx => by rw [← h x (by omega), ← h (x + p) hx]; exact hp.2.2 x hx⟩
theorem nrm_congr {S T : Nat → Bool} : ∀ {m : Nat}, (∀ x < m, S x = T x) → nrm S m = nrm T m := by
  intro m
  induction m using Nat.strongRecOn with
  | ind m ih =>
    intro h
    have h' : ∀ x < m, T x = S x := fun x hx => (h x hx).symm
    rcases per_cases S m with hn | ⟨p, h1, h2⟩
    · rw [nrm_none hn, nrm_none fun q hq => hn q (per_congr h' hq)]
    · have hp := h1.2.1
      rw [nrm_some h1 h2, nrm_some (per_congr h h1) fun q hq => h2 q (per_congr h' hq), ih p hp fun x hx => h x (by omega)]
/-! ### the marks of chains -/
def mkN (cs : List Int) (x : Nat) : Bool := mk cs (x : Int)
theorem mkN_zero (cs : List Int) : mkN cs 0 = true := by
  unfold mkN mk
  rw [Int.natCast_zero, rest_zero]; rfl
theorem mkN_nil {x : Nat} (h : 1 ≤ x) : mkN [] x = false := by
  unfold mkN mk rest
  exact decide_eq_false (by omega)
theorem mkN_cons {c : Int} {cs : List Int} (h : 0 < c) (x : Nat) : mkN (c :: cs) x = mkN cs (x % c.toNat) := by
  unfold mkN mk
  rw [rest]
  have e : (x : Int) % c = ((x % c.toNat : Nat) : Int) := by
    rw [Int.natCast_emod, Int.toNat_of_nonneg (by omega)]
  rw [e]
theorem mkN_per {c : Int} {cs : List Int} (h : 0 < c) (x : Nat) : mkN (c :: cs) (x + c.toNat) = mkN (c :: cs) x := by
  rw [mkN_cons h, mkN_cons h, Nat.add_mod_right]
/-- a mark, so a period, which is a cut -/
theorem mark_per : ∀ {cs : List Int}, Fall cs → ∀ {m x : Nat}, 1 ≤ x → x < m → mkN cs x = true → ∃ c ∈ cs, per (mkN cs) m c.toNat
  | [], _, m, x, h1, _, h3 => by rw [mkN_nil h1] at h3; cases h3
  | c :: cs, h, m, x, h1, h2, h3 => by
    have c0 := h.1.1
    by_cases hc : c.toNat < m
    · exact ⟨c, List.mem_cons_self .., by omega, hc, fun y _ => (mkN_per c0 y).symm⟩
    · have e : ∀ y < m, mkN (c :: cs) y = mkN cs y := fun y hy => by rw [mkN_cons c0, Nat.mod_eq_of_lt (by omega)]
      rw [e x h2] at h3
      obtain ⟨d, hd, hp⟩ := mark_per h.2.2 h1 h2 h3
      exact ⟨d, List.mem_cons_of_mem _ hd, per_congr (fun y hy => (e y hy).symm) hp⟩
theorem per_mark {cs : List Int} {m p : Nat} (h : per (mkN cs) m p) : mkN cs p = true := by
  have := h.2.2 0 (by have := h.2.1; omega)
  rw [mkN_zero, Nat.zero_add] at this
  exact this.symm
/-- the normal chain below m has the marks below m -/
theorem nrm_marks {cs : List Int} (h : Fall cs) : ∀ {m : Nat}, ∀ x < m, mkN (nrm (mkN cs) m) x = mkN cs x := by
  intro m
  induction m using Nat.strongRecOn with
  | ind m ih =>
    intro x hx
    rcases per_cases (mkN cs) m with hn | ⟨p, h1, h2⟩
    · rw [nrm_none hn]
      by_cases h0 : x = 0
      · subst h0; rw [mkN_zero, mkN_zero]
      · rw [mkN_nil (by omega)]
        cases e : mkN cs x with
        | false => rfl
        | true =>
          obtain ⟨c, _, hp⟩ := mark_per h (by omega) hx e
          exact absurd hp (hn _)
    · have hp := h1.2.1
      have p1 := h1.1
      rw [nrm_some h1 h2, mkN_cons (by omega), Int.toNat_natCast, ih p hp _ (Nat.mod_lt _ (by omega))]
      have go : ∀ k y, y < p → y + k * p < m → mkN cs y = mkN cs (y + k * p) := by
        intro k
        induction k with
        | zero => intro y _ _; rw [Nat.zero_mul, Nat.add_zero]
        | succ k ihk =>
          intro y hy hl
          rw [Nat.succ_mul] at hl ⊢
          rw [ihk y hy (by omega), ← Nat.add_assoc]
          exact h1.2.2 (y + k * p) (by omega)
      have := go (x / p) (x % p) (Nat.mod_lt _ (by omega)) (by rw [Nat.mul_comm, Nat.mod_add_div]; exact hx)
      rw [Nat.mul_comm, Nat.mod_add_div] at this
      exact this
theorem nrm_fall {S : Nat → Bool} {m : Nat} (h : ∀ p, per S m p → (∀ q, per S m q → p ≤ q) → p ≤ 1000) : Fall (nrm S m) ∧ ∀ y ∈ nrm S m, y < (m : Int) :=
  pl_fall _ m m fun p hp => by
    obtain ⟨h1, h2⟩ := (lp_iff (Nat.le_refl _)).mp hp
    exact h p h1 h2
/-- the first cut, 0 if there is none -/
def fst_ (cs : List Int) : Nat := (cs.headD 0).toNat
theorem fst_per {cs : List Int} (h : Fall cs) (x : Nat) : mkN cs (x + fst_ cs) = mkN cs x := by
  cases cs with
  | nil => rfl
  | cons c cs => exact mkN_per h.1.1 x
theorem fst_mul {cs : List Int} (h : Fall cs) (x : Nat) : ∀ k, mkN cs (x + k * fst_ cs) = mkN cs x
  | 0 => by rw [Nat.zero_mul, Nat.add_zero]
  | k + 1 => by rw [Nat.succ_mul, ← Nat.add_assoc, fst_per h, fst_mul h x k]
theorem fst_le {cs : List Int} (h : Fall cs) : fst_ cs ≤ 1000 := by
  cases cs with
  | nil => exact Nat.zero_le _
  | cons c cs => have := h.1.2; show c.toNat ≤ 1000; omega
theorem fst_pos {cs : List Int} (h : Fall cs) (ne : cs ≠ []) : 1 ≤ fst_ cs := by
  cases cs with
  | nil => exact absurd rfl ne
  | cons c cs => have := h.1.1; show 1 ≤ c.toNat; omega
/-- a period up to the first cut, of twice the first cut, is one everywhere -/
theorem per_all {cs : List Int} (h : Fall cs) {p : Nat} (hp : per (mkN cs) (2 * fst_ cs) p) (hl : p ≤ fst_ cs) (x : Nat) : mkN cs (x + p) = mkN cs x := by
  have f1 : 1 ≤ fst_ cs := by have := hp.1; omega
  have e := Nat.mod_add_div x (fst_ cs)
  have hm := Nat.mod_lt x f1
  rw [Nat.mul_comm] at e
  have e1 := fst_mul h (x % fst_ cs) (x / fst_ cs)
  have e2 := fst_mul h (x % fst_ cs + p) (x / fst_ cs)
  rw [e] at e1
  rw [show x % fst_ cs + p + x / fst_ cs * fst_ cs = x + p by omega] at e2
  rw [e1, e2]
  exact (hp.2.2 _ (by omega)).symm
theorem least_le {cs : List Int} (h : Fall cs) (ne : cs ≠ []) {M : Nat} (hM : 2 * fst_ cs ≤ M) : ∃ p, (per (mkN cs) M p ∧ ∀ q, per (mkN cs) M q → p ≤ q) ∧ p ≤ fst_ cs := by
  have f1 := fst_pos h ne
  have hc : per (mkN cs) M (fst_ cs) := ⟨f1, by omega, fun x _ => (fst_per h x).symm⟩
  rcases per_cases (mkN cs) M with hn | ⟨p, h1, h2⟩
  · exact absurd hc (hn _)
  · exact ⟨p, ⟨h1, h2⟩, h2 _ hc⟩
/-- beyond twice the first cut nothing changes -/
theorem nrm_far {cs : List Int} (h : Fall cs) {M : Nat} (hM : 2 * fst_ cs ≤ M) : nrm (mkN cs) M = nrm (mkN cs) (2 * fst_ cs) := by
  by_cases ne : cs = []
  · subst ne
    have no : ∀ m q, ¬ per (mkN []) m q := fun m q hq => by
      have := per_mark hq
      rw [mkN_nil hq.1] at this; cases this
    rw [nrm_none (no _), nrm_none (no _)]
  · obtain ⟨p, ⟨h1, h2⟩, h3⟩ := least_le h ne hM
    obtain ⟨q, ⟨g1, g2⟩, g3⟩ := least_le h ne (Nat.le_refl (2 * fst_ cs))
    have a := per_all h g1 g3
    have f1 := fst_pos h ne
    have hq : per (mkN cs) M q := ⟨g1.1, by omega, fun x _ => (a x).symm⟩
    have hp : per (mkN cs) (2 * fst_ cs) p := ⟨h1.1, by omega, fun x hx => h1.2.2 x (by omega)⟩
    have e : p = q := Nat.le_antisymm (h2 q hq) (g2 p hp)
    subst e
    rw [nrm_some h1 h2, nrm_some g1 g2]
theorem nrm_room {cs : List Int} (h : Fall cs) (l : Nat) : nrm (mkN cs) (min (2 * fst_ cs) l) = nrm (mkN cs) l := by
  by_cases hl : 2 * fst_ cs ≤ l
  · rw [Nat.min_eq_left hl, nrm_far h hl]
  · rw [Nat.min_eq_right (by omega)]
theorem nrm_all {cs : List Int} (h : Fall cs) (x : Nat) : mkN (nrm (mkN cs) (2 * fst_ cs)) x = mkN cs x := by
  rw [← nrm_far h (M := 2 * fst_ cs + x + 1) (by omega)]
  exact nrm_marks h x (by omega)
theorem nrm_small {cs : List Int} (h : Fall cs) (m : Nat) : Fall (nrm (mkN cs) m) := by
  refine (nrm_fall fun p h1 h2 => ?_).1
  obtain ⟨c, hc, hp⟩ := mark_per h h1.1 h1.2.1 (per_mark h1)
  have := h2 _ hp
  have := (fall_mem h c hc).2
  omega
/-- marks that agree below the sum of both first cuts agree everywhere -/
theorem agree {cs ds : List Int} (h : Fall cs) (g : Fall ds) (e : ∀ x < fst_ cs + fst_ ds + 1, mkN cs x = mkN ds x) : ∀ x, mkN cs x = mkN ds x := by
  intro x
  induction x using Nat.strongRecOn with
  | ind x ih =>
    by_cases hx : x < fst_ cs + fst_ ds + 1
    · exact e x hx
    · by_cases hc : fst_ cs = 0
      · have hcs : cs = [] := by
          by_cases ne : cs = []
          · exact ne
          · have := fst_pos h ne; omega
        by_cases hd : fst_ ds = 0
        · have hds : ds = [] := by
            by_cases ne : ds = []
            · exact ne
            · have := fst_pos g ne; omega
          rw [hcs, hds]
        · have e1 := e (fst_ ds) (by omega)
          have e2 := fst_per g 0
          rw [Nat.zero_add, mkN_zero] at e2
          rw [e2, hcs, mkN_nil (by omega)] at e1
          cases e1
      · by_cases hd : fst_ ds = 0
        · have hds : ds = [] := by
            by_cases ne : ds = []
            · exact ne
            · have := fst_pos g ne; omega
          have e1 := e (fst_ cs) (by omega)
          have e2 := fst_per h 0
          rw [Nat.zero_add, mkN_zero] at e2
          rw [e2, hds, mkN_nil (by omega)] at e1
          cases e1
        · have a1 := fst_per h (x - fst_ cs)
          have a2 := ih (x - fst_ cs) (by omega)
          have a3 := fst_per g (x - fst_ cs - fst_ ds)
          have a4 := ih (x - fst_ cs - fst_ ds) (by omega)
          have a5 := fst_per h (x - fst_ cs - fst_ ds)
          have a6 := ih (x - fst_ ds) (by omega)
          have a7 := fst_per g (x - fst_ ds)
          rw [show x - fst_ cs + fst_ cs = x by omega] at a1
          rw [show x - fst_ cs - fst_ ds + fst_ ds = x - fst_ cs by omega] at a3
          rw [show x - fst_ cs - fst_ ds + fst_ cs = x - fst_ ds by omega] at a5
          rw [show x - fst_ ds + fst_ ds = x by omega] at a7
          rw [a1, a2, a3, ← a4, ← a5, a6, a7]
/-- equal marks, equal normal chains -/
theorem nrm_eq_of {cs ds : List Int} (h : Fall cs) (g : Fall ds) (e : ∀ x, mkN cs x = mkN ds x) : nrm (mkN cs) (2 * fst_ cs) = nrm (mkN ds) (2 * fst_ ds) := by
  rw [← nrm_far h (M := 2 * fst_ cs + 2 * fst_ ds) (by omega), ← nrm_far g (M := 2 * fst_ cs + 2 * fst_ ds) (by omega)]
  exact nrm_congr fun x _ => e x
/-- no more cuts, each at most that in its place -/
theorem nrm_cuts : ∀ {m : Nat} {cs : List Int}, Fall cs → (nrm (mkN cs) m).length ≤ cs.length ∧ ∀ (i : Nat) (x y : Int), (nrm (mkN cs) m)[i]? = some x → cs[i]? = some y → x ≤ y := by
  intro m
  induction m using Nat.strongRecOn with
  | ind m ih =>
    intro cs
    induction cs with
    | nil =>
      intro _
      have no : ∀ q, ¬ per (mkN []) m q := fun q hq => by
        have := per_mark hq
        rw [mkN_nil hq.1] at this; cases this
      rw [nrm_none no]
      exact ⟨Nat.le_refl _, fun i x y h _ => by simp at h⟩
    | cons c cs ihc =>
      intro h
      have c0 := h.1.1
      by_cases hc : c.toNat < m
      · have hp : per (mkN (c :: cs)) m c.toNat := ⟨by omega, hc, fun y _ => (mkN_per c0 y).symm⟩
        rcases per_cases (mkN (c :: cs)) m with hn | ⟨p, h1, h2⟩
        · exact absurd hp (hn _)
        · have hle := h2 _ hp
          have e : nrm (mkN (c :: cs)) p = nrm (mkN cs) p := nrm_congr fun y hy => by rw [mkN_cons c0, Nat.mod_eq_of_lt (by omega)]
          obtain ⟨i1, i2⟩ := ih p h1.2.1 h.2.2
          rw [nrm_some h1 h2, e]
          refine ⟨by rw [List.length_cons, List.length_cons]; omega, fun i x y hx hy => ?_⟩
          cases i with
          | zero => simp at hx hy; omega
          | succ i => exact i2 i x y (by simpa using hx) (by simpa using hy)
      · have e : nrm (mkN (c :: cs)) m = nrm (mkN cs) m := nrm_congr fun y hy => by rw [mkN_cons c0, Nat.mod_eq_of_lt (by omega)]
        obtain ⟨i1, i2⟩ := ihc h.2.2
        rw [e]
        refine ⟨by rw [List.length_cons]; omega, fun i x y hx hy => ?_⟩
        have hi := (List.getElem?_eq_some_iff.mp hx).1
        have h3 : cs[i]? = some cs[i] := List.getElem?_eq_getElem (by omega)
        have h4 := i2 i x _ hx h3
        have h5 := fall_adj h i y cs[i] hy (by simpa using h3)
        omega
end PL

namespace PL
open PySem PySem.Spec PyProof.Rows L2 DV

theorem sort_lt (ns : List Int) : (sortSetI ns).Pairwise (· < ·) := by
  have h1 : (sortSetI ns).Pairwise (· ≤ ·) := srtI_srt _
  have h2 : (sortSetI ns).Nodup := (srtI_perm _).nodup_iff.mpr (dedI_nodup ns)
  have h3 : (sortSetI ns).Pairwise (fun a b => a ≤ b ∧ a ≠ b) := h1.and h2
  exact h3.imp fun {a b} h => by omega
theorem sort_len (ns : List Int) : (sortSetI ns).length ≤ ns.length := by
  unfold sortSetI
  rw [(srtI_perm _).length_eq]
  exact dedI_len ns
theorem mem_fallen {ns : List Int} {x : Int} : x ∈ (sortSetI ns).reverse ↔ x ∈ ns := by rw [List.mem_reverse, mem_sortSet]
theorem fall_sort (ns : List Int) (h : ∀ x ∈ ns, 0 < x ∧ x ≤ 1000) : Fall (sortSetI ns).reverse :=
  fall_pw (List.pairwise_reverse.mpr (sort_lt ns)) fun x hx => h x (mem_fallen.mp hx)
end PL

namespace PL
open PySem PySem.Spec PyProof.Rows L2 DV
/-- where the classes lie -/
structure CA where
  Chain : Addr
/-! _law_source: 0=script 1=start 2=mixed 3=cell 4=rest -/
def b1_law_source : MS := (asgS 2 (opE addG (opE modG (cbE intOfG (consA (opE powG (cbE intOfG (consA (opE addG (opE mulG (varE 2) (datC (.int 48611))) (cbE intOfG (consA (varE 3) nilA))) nilA)) (datC (.int 3))) nilA)) (datC (.int 2147483587))) (datC (.int 1))))
def m_law_source : MS := (seqS (asgS 2 (opE addG (datC (.int 97)) (varE 1)))
    (seqS (forS (seqI (solidE (varE 0))) (nameG 3) b1_law_source)
    (seqS (asgS 4 (datC (.int 0)))
    (seqS (ifS (andT (testE (opE ltG (varE 1) (cbE lenG (consA (varE 0) nilA)))) (testE (opE geG (opE ixG (varE 0) (varE 1)) (opE powG (datC (.int 10)) (datC (.int 18)))))) (asgS 4 (opE subG (opE ixG (varE 0) (varE 1)) (opE powG (datC (.int 10)) (datC (.int 18))))) nextS)
    (retS (lstE (consD (solidE (varE 4)) (consD (solidE (varE 2)) nilD))))))))
def f_law_source : FD := defF none 5 (m_law_source)
theorem en_law_source (a0 a1 : D) : f_law_source [a0, a1] = df1 none (m_law_source [.val a0, .val a1, .un, .un, .un]) := rfl

/-! _law_draw: 0=source 1=span 2=found -/

def m_law_draw : MS := (seqS (ifS (testE (opE geG (opE ixG (varE 0) (datC (.int 0))) (varE 1))) (seqS (asgS 2 (opE modG (cbE intOfG (consA (opE ixG (varE 0) (datC (.int 0))) nilA)) (varE 1)))
    (seqS (setL (solidE (opE divG (opE ixG (varE 0) (datC (.int 0))) (varE 1))) (varE 0) (datC (.int 0)))
    (retS (varE 2)))) nextS)
    (seqS (setL (solidE (opE modG (cbE intOfG (consA (opE addG (opE mulG (opE ixG (varE 0) (datC (.int 1))) (datC (.int 69621))) (datC (.int 7919))) nilA)) (datC (.int 2147483647)))) (varE 0) (datC (.int 1)))
    (retS (opE modG (cbE intOfG (consA (opE divG (opE modG (cbE intOfG (consA (opE powG (cbE intOfG (consA (opE ixG (varE 0) (datC (.int 1))) nilA)) (datC (.int 5))) nilA)) (datC (.int 1000000007))) (datC (.int 11))) nilA)) (varE 1)))))
def f_law_draw : FD := defF (some 0) 3 (m_law_draw)
theorem en_law_draw (a0 a1 : D) : f_law_draw [a0, a1] = df1 (some 0) (m_law_draw [.brw a0, .val a1, .un]) := rfl

/-! _law_pick: 0=source 1=items -/

def m_law_pick : MS := (retS (opE ixG (varE 1) (callE (callX (some 0) 2 f_law_draw) [] (consA (varE 0) (consA (datE (solidE (cbE lenG (consA (varE 1) nilA)))) nilA)))))
def f_law_pick : FD := defF (some 0) 2 (m_law_pick)
theorem en_law_pick (a0 a1 : D) : f_law_pick [a0, a1] = df1 (some 0) (m_law_pick [.brw a0, .val a1]) := rfl

/-! _law_cuts: 0=source 1=many 2=high 3=some 4=turn -/
def x1_law_cuts : MD := (solidE (opE addG (datC (.int 1)) (callE (callX (some 0) 2 f_law_draw) [] (consA (varE 0) (consA (varE 2) nilA)))))
def y2_law_cuts : MT := yesT
def m_law_cuts : MS := (seqS (asgS 3 (sortSetE (lcE (rng1 (consA (callE (callX (some 0) 2 f_law_draw) [] (consA (varE 0) (consA (datE (solidE (opE addG (varE 1) (datC (.int 1))))) nilA))) nilA)) (nameG 4) y2_law_cuts x1_law_cuts [4])))
    (retS (revE (varE 3))))
def f_law_cuts : FD := defF (some 0) 5 (m_law_cuts)
theorem en_law_cuts (a0 a1 a2 : D) : f_law_cuts [a0, a1, a2] = df1 (some 0) (m_law_cuts [.brw a0, .val a1, .val a2, .un, .un]) := rfl

/-! is_number: 0=value 1=least 2=greatest -/

def m_is_number : MS := (retS (andE (cbE isG (consA (varE 0) (consA (datC (.con (.ty "int"))) nilA))) (andE (notE (cbE isG (consA (varE 0) (consA (datC (.con (.ty "bool"))) nilA)))) (chainE leG leG (varE 1) (varE 0) (varE 2)))))
def f_is_number : FD := defF none 3 (m_is_number)
theorem en_is_number (a0 a1 a2 : D) : f_is_number [a0, a1, a2] = df1 none (m_is_number [.val a0, .val a1, .val a2]) := rfl

/-! is_falling: 0=value 1=place 2=cut -/
def x1_is_falling : MD := (solidE (callE (callX none 3 f_is_number) [] (consA (varE 2) (consA (datE (solidE (datC (.int 1)))) (consA (datC (.int 1000)) nilA)))))
def y2_is_falling : MT := yesT
def x3_is_falling : MD := (solidE (opE ltG (opE ixG (varE 0) (varE 1)) (opE ixG (varE 0) (opE subG (varE 1) (datC (.int 1))))))
def y4_is_falling : MT := yesT
def m_is_falling : MS := (seqS (ifS (notT (testE (cbE isTG (consA (varE 0) (consA (tupE (consD (solidE (datC (.con (.ty "list")))) (consD (solidE (datC (.con (.ty "tuple")))) nilD))) nilA))))) (retS (datC (.bl false))) nextS)
    (seqS (ifS (notT (testE (cbE allG (consA (lcE (seqI (solidE (varE 0))) (nameG 2) y2_is_falling x1_is_falling [2]) nilA)))) (retS (datC (.bl false))) nextS)
    (retS (cbE allG (consA (lcE (rng2 (consA (datC (.int 1)) (consA (cbE lenG (consA (varE 0) nilA)) nilA))) (nameG 1) y4_is_falling x3_is_falling [1]) nilA)))))
def f_is_falling : FD := defF none 3 (m_is_falling)
theorem en_is_falling (a0 : D) : f_is_falling [a0] = df1 none (m_is_falling [.val a0, .un, .un]) := rfl

/-! pieces_by: 0=cuts 1=counts 2=body 3=found 4=left 5=place 6=cut -/
def b1_pieces_by : MS := (seqS (asgS 3 (opE addG (varE 3) (opE mulG (opE divG (varE 4) (varE 6)) (opE ixG (varE 1) (varE 5)))))
    (seqS (asgS 4 (opE modG (varE 4) (varE 6)))
    (ifS (testE (opE eqG (varE 4) (datC (.int 0)))) (retS (varE 3)) nextS)))
def m_pieces_by : MS := (seqS (asgS 3 (datC (.int 0)))
    (seqS (asgS 4 (varE 2))
    (seqS (forS (enumU (consD (solidE (varE 0)) nilD)) (tupG 2 (consG (nameG 5) (consG (nameG 6) nilG))) b1_pieces_by)
    (retS (opE addG (varE 3) (datC (.int 1)))))))
def f_pieces_by : FD := defF none 7 (m_pieces_by)
theorem en_pieces_by (a0 a1 a2 : D) : f_pieces_by [a0, a1, a2] = df1 none (m_pieces_by [.val a0, .val a1, .val a2, .un, .un, .un, .un]) := rfl

/-! Chain.__init__: 0=self 1=cuts 2=counts 3=place -/
def b1_Chain_init (c : CA) : MS := (asgS 2 (opE addG (lstE (consD (solidE (callE (callX none 3 f_pieces_by) [] (consA (datE (solidE (slE (fldE c.Chain "cuts" (varE 0)) (intP (opE addG (varE 3) (datC (.int 1)))) nopP))) (consA (varE 2) (consA (datE (solidE (opE ixG (fldE c.Chain "cuts" (varE 0)) (varE 3)))) nilA))))) nilD)) (varE 2)))
def m_Chain_init (c : CA) : MS := (seqS (ifS (notT (testE (callE (callX none 1 f_is_falling) [] (consA (varE 1) nilA)))) neverS nextS)
    (seqS (fldS c.Chain "cuts" (solidE (cbE tupOfG (consA (varE 1) nilA))) (varE 0))
    (seqS (asgS 2 (lstE nilD))
    (seqS (forS (rng3 (consA (opE subG (cbE lenG (consA (fldE c.Chain "cuts" (varE 0)) nilA)) (datC (.int 1))) (consA (unE negG (datC (.int 1))) (consA (unE negG (datC (.int 1))) nilA)))) (nameG 3) (b1_Chain_init c))
    (fldS c.Chain "counts" (solidE (varE 2)) (varE 0))))))
def f_Chain_init (c : CA) : FD := defF (some 0) 4 (m_Chain_init c)
theorem en_Chain_init (c : CA) (a0 a1 : D) : f_Chain_init c [a0, a1] = df1 (some 0) (m_Chain_init c [.brw a0, .val a1, .un, .un]) := rfl

/-! Chain.__add__: 0=self 1=other 2=cut -/
def x1_Chain_add : MD := (solidE (varE 2))
def y2_Chain_add (c : CA) : MT := (orT (testE (opE eqG (fldE c.Chain "cuts" (varE 0)) (tupE nilD))) (testE (opE ltG (varE 2) (opE ixG (fldE c.Chain "cuts" (varE 0)) (unE negG (datC (.int 1)))))))
def m_Chain_add (c : CA) : MS := (retS (datE (solidE (makeE c.Chain 2 (f_Chain_init c) [] (consD (solidE (opE addG (fldE c.Chain "cuts" (varE 0)) (cbE tupOfG (consA (lcE (seqI (solidE (fldE c.Chain "cuts" (varE 1)))) (nameG 2) (y2_Chain_add c) x1_Chain_add [2]) nilA)))) nilD)))))
def f_Chain_add (c : CA) : FD := defF none 3 (m_Chain_add c)
theorem en_Chain_add (c : CA) (a0 a1 : D) : f_Chain_add c [a0, a1] = df1 none (m_Chain_add c [.val a0, .val a1, .un]) := rfl

/-! Chain.__eq__: 0=self 1=other -/

def m_Chain_eq (c : CA) : MS := (retS (andE (cbE (isOwnG c.Chain) (consA (varE 1) (consA (datC (.con (.ref c.Chain))) nilA))) (opE eqG (fldE c.Chain "cuts" (varE 0)) (fldE c.Chain "cuts" (varE 1)))))
def f_Chain_eq (c : CA) : FD := defF none 2 (m_Chain_eq c)
theorem en_Chain_eq (c : CA) (a0 a1 : D) : f_Chain_eq c [a0, a1] = df1 none (m_Chain_eq c [.val a0, .val a1]) := rfl

/-! Chain.pieces: 0=self 1=body -/

def m_Chain_pieces (c : CA) : MS := (retS (ifE (testE (opE eqG (varE 1) (datC (.int 0)))) (datC (.int 1)) (callE (callX none 3 f_pieces_by) [] (consA (datE (solidE (fldE c.Chain "cuts" (varE 0)))) (consA (datE (solidE (fldE c.Chain "counts" (varE 0)))) (consA (varE 1) nilA))))))
def f_Chain_pieces (c : CA) : FD := defF none 2 (m_Chain_pieces c)
theorem en_Chain_pieces (c : CA) (a0 a1 : D) : f_Chain_pieces c [a0, a1] = df1 none (m_Chain_pieces c [.val a0, .val a1]) := rfl

/-! Chain.__getitem__: 0=self 1=at 2=found 3=left 4=place 5=cut -/
def b1_Chain_getitem (c : CA) : MS := (seqS (asgS 2 (opE addG (varE 2) (opE mulG (opE divG (varE 3) (opE ixG (fldE c.Chain "counts" (varE 0)) (varE 4))) (varE 5))))
    (seqS (asgS 3 (opE modG (varE 3) (opE ixG (fldE c.Chain "counts" (varE 0)) (varE 4))))
    (ifS (testE (opE eqG (varE 3) (datC (.int 0)))) (retS (varE 2)) nextS)))
def m_Chain_getitem (c : CA) : MS := (seqS (ifS (orT (notT (testE (callE (callX none 3 f_is_number) [] (consA (varE 1) (consA (datE (solidE (datC (.int 1)))) (consA (varE 1) nilA)))))) (testE (opE eqG (fldE c.Chain "cuts" (varE 0)) (tupE nilD)))) neverS nextS)
    (seqS (asgS 2 (datC (.int 0)))
    (seqS (asgS 3 (varE 1))
    (seqS (forS (enumU (consD (solidE (fldE c.Chain "cuts" (varE 0))) nilD)) (tupG 2 (consG (nameG 4) (consG (nameG 5) nilG))) (b1_Chain_getitem c))
    (retS (varE 2))))))
def f_Chain_getitem (c : CA) : FD := defF none 6 (m_Chain_getitem c)
theorem en_Chain_getitem (c : CA) (a0 a1 : D) : f_Chain_getitem c [a0, a1] = df1 none (m_Chain_getitem c [.val a0, .val a1, .un, .un, .un, .un]) := rfl

/-! Chain.stretch: 0=self 1=body 2=number 3=begin -/

def m_Chain_stretch (c : CA) : MS := (seqS (ifS (notT (testE (callE (callX none 3 f_is_number) [] (consA (varE 2) (consA (datE (solidE (datC (.int 1)))) (consA (datE (solidE (methE c.Chain "pieces" (callX none 2 (f_Chain_pieces c)) [] (varE 0) (consA (varE 1) nilA)))) nilA)))))) neverS nextS)
    (seqS (asgS 3 (ifE (testE (opE gtG (varE 2) (datC (.int 1)))) (ixOwnE c.Chain (f_Chain_getitem c) (varE 0) (opE subG (varE 2) (datC (.int 1)))) (datC (.int 0))))
    (retS (ifE (testE (opE eqG (varE 2) (methE c.Chain "pieces" (callX none 2 (f_Chain_pieces c)) [] (varE 0) (consA (varE 1) nilA)))) (opE subG (varE 1) (varE 3)) (opE subG (ixOwnE c.Chain (f_Chain_getitem c) (varE 0) (varE 2)) (varE 3))))))
def f_Chain_stretch (c : CA) : FD := defF none 4 (m_Chain_stretch c)
theorem en_Chain_stretch (c : CA) (a0 a1 a2 : D) : f_Chain_stretch c [a0, a1, a2] = df1 none (m_Chain_stretch c [.val a0, .val a1, .val a2, .un]) := rfl

/-! Chain.parted: 0=self 1=body 2=number -/
def b1_Chain_parted (c : CA) : MGS := (seqGS (yieldS (solidE (methE c.Chain "stretch" (callX none 3 (f_Chain_stretch c)) [] (varE 0) (consA (varE 1) (consA (varE 2) nilA)))))
    nextGS)
def m_Chain_parted (c : CA) : MGS := (seqGS (gforS (rng2 (consA (datC (.int 1)) (consA (opE addG (methE c.Chain "pieces" (callX none 2 (f_Chain_pieces c)) [] (varE 0) (consA (varE 1) nilA)) (datC (.int 1))) nilA))) (nameG 2) (b1_Chain_parted c))
    nextGS)
def f_Chain_parted (c : CA) : GFD := gdefF 3 (m_Chain_parted c)
theorem en_Chain_parted (c : CA) (a0 a1 : D) : f_Chain_parted c [a0, a1] = gd1 (m_Chain_parted c [] [.val a0, .val a1, .un]) := rfl

/-! _law_cut_up: 0=stretch 1=cut 2=found -/
def c1_law_cut_up : MT := (testE (opE gtG (varE 0) (varE 1)))
def b2_law_cut_up : MS := (seqS (dropS (mutE isLst appG (varE 2) (consD (solidE (varE 1)) nilD)))
    (asgS 0 (opE subG (varE 0) (varE 1))))
def m_law_cut_up : MS := (seqS (asgS 2 (lstE nilD))
    (seqS (whileL c1_law_cut_up b2_law_cut_up 1000000)
    (retS (opE addG (varE 2) (lstE (consD (solidE (varE 0)) nilD))))))
def f_law_cut_up : FD := defF none 3 (m_law_cut_up)
theorem en_law_cut_up (a0 a1 : D) : f_law_cut_up [a0, a1] = df1 none (m_law_cut_up [.val a0, .val a1, .un]) := rfl

/-! _law_parted: 0=cuts 1=stretches 2=found 3=cut 4=parts 5=stretch -/
def b1_law_parted : MS := (asgS 4 (opE addG (varE 4) (callE (callX none 2 f_law_cut_up) [] (consA (varE 5) (consA (varE 3) nilA)))))
def b2_law_parted : MS := (seqS (asgS 4 (lstE nilD))
    (seqS (forS (seqI (solidE (varE 2))) (nameG 5) b1_law_parted)
    (asgS 2 (varE 4))))
def m_law_parted : MS := (seqS (asgS 2 (cbE lstOfG (consA (varE 1) nilA)))
    (seqS (forS (seqI (solidE (varE 0))) (nameG 3) b2_law_parted)
    (retS (varE 2))))
def f_law_parted : FD := defF none 6 (m_law_parted)
theorem en_law_parted (a0 a1 : D) : f_law_parted [a0, a1] = df1 none (m_law_parted [.val a0, .val a1, .un, .un, .un, .un]) := rfl

/-! law: 0=script 1=start 2=source 3=turn 4=high 5=lists 6=one 7=two 8=three 9=both 10=due 11=body 12=number 13=cuts 14=cut -/
def x1_law : MD := (solidE (callE (callX (some 0) 3 f_law_cuts) [] (consA (varE 2) (consA (datE (solidE (datC (.int 4)))) (consA (varE 4) nilA)))))
def y2_law : MT := yesT
def x3_law (c : CA) : MD := (solidE (datE (solidE (makeE c.Chain 2 (f_Chain_init c) [] (consD (solidE (varE 13)) nilD)))))
def y4_law : MT := yesT
def x5_law : MD := (solidE (varE 14))
def y6_law : MT := (orT (testE (opE eqG (opE ixG (varE 5) (datC (.int 0))) (lstE nilD))) (testE (opE ltG (varE 14) (opE ixG (opE ixG (varE 5) (datC (.int 0))) (unE negG (datC (.int 1)))))))
def b7_law (c : CA) : MS := (seqS (asgS 4 (callE (callX (some 0) 2 f_law_pick) [] (consA (varE 2) (consA (datE (solidE (lstE (consD (solidE (datC (.int 8))) (consD (solidE (datC (.int 20))) (consD (solidE (datC (.int 60))) nilD)))))) nilA))))
    (seqS (asgS 5 (lcE (rng1 (consA (datC (.int 3)) nilA)) (nameG 12) y2_law x1_law [12]))
    (seqS (letS (solidE (lcE (seqI (solidE (varE 5))) (nameG 13) y4_law (x3_law c) [13])) (unlG 3 (consG (nameG 6) (consG (nameG 7) (consG (nameG 8) nilG)))))
    (seqS (asgS 9 (addOwnE c.Chain (f_Chain_add c) (varE 6) (varE 7)))
    (seqS (asgS 10 (lcE (seqI (solidE (opE ixG (varE 5) (datC (.int 1))))) (nameG 14) y6_law x5_law [14]))
    (seqS (ifS (orT (testE (opE neG (fldE c.Chain "cuts" (varE 9)) (cbE tupOfG (consA (opE addG (opE ixG (varE 5) (datC (.int 0))) (varE 10)) nilA)))) (orT (testE (opE neG (fldE c.Chain "cuts" (varE 6)) (cbE tupOfG (consA (opE ixG (varE 5) (datC (.int 0))) nilA)))) (testE (opE neG (fldE c.Chain "cuts" (varE 7)) (cbE tupOfG (consA (opE ixG (varE 5) (datC (.int 1))) nilA)))))) (retS (datC (.bl false))) nextS)
    (seqS (ifS (orT (notT (testE (opE (eqOwnG c.Chain (f_Chain_eq c)) (addOwnE c.Chain (f_Chain_add c) (addOwnE c.Chain (f_Chain_add c) (varE 6) (varE 7)) (varE 8)) (addOwnE c.Chain (f_Chain_add c) (varE 6) (addOwnE c.Chain (f_Chain_add c) (varE 7) (varE 8)))))) (notT (testE (opE (eqOwnG c.Chain (f_Chain_eq c)) (addOwnE c.Chain (f_Chain_add c) (varE 6) (datE (solidE (makeE c.Chain 2 (f_Chain_init c) [] (consD (solidE (lstE nilD)) nilD))))) (varE 6))))) (retS (datC (.bl false))) nextS)
    (seqS (ifS (orT (notT (testE (opE (eqOwnG c.Chain (f_Chain_eq c)) (addOwnE c.Chain (f_Chain_add c) (varE 6) (varE 6)) (varE 6)))) (notT (testE (opE (eqOwnG c.Chain (f_Chain_eq c)) (addOwnE c.Chain (f_Chain_add c) (datE (solidE (makeE c.Chain 2 (f_Chain_init c) [] (consD (solidE (tupE nilD)) nilD)))) (varE 6)) (varE 6))))) (retS (datC (.bl false))) nextS)
    (seqS (asgS 11 (opE addG (datC (.int 1)) (callE (callX (some 0) 2 f_law_draw) [] (consA (varE 2) (consA (datE (solidE (datC (.int 70)))) nilA)))))
    (seqS (ifS (testE (opE neG (lgmE c.Chain "parted" 2 (f_Chain_parted c) (solidE (varE 9)) (consD (solidE (varE 11)) nilD)) (callE (callX none 2 f_law_parted) [] (consA (datE (solidE (opE ixG (varE 5) (datC (.int 1))))) (consA (datE (solidE (callE (callX none 2 f_law_parted) [] (consA (datE (solidE (opE ixG (varE 5) (datC (.int 0))))) (consA (datE (solidE (lstE (consD (solidE (varE 11)) nilD)))) nilA))))) nilA))))) (retS (datC (.bl false))) nextS)
    (ifS (orT (testE (opE neG (cbE sumG (consA (lgmE c.Chain "parted" 2 (f_Chain_parted c) (solidE (varE 9)) (consD (solidE (varE 11)) nilD)) nilA)) (varE 11))) (testE (opE ltG (methE c.Chain "pieces" (callX none 2 (f_Chain_pieces c)) [] (varE 9) (consA (varE 11) nilA)) (methE c.Chain "pieces" (callX none 2 (f_Chain_pieces c)) [] (varE 6) (consA (varE 11) nilA))))) (retS (datC (.bl false))) nextS)))))))))))
def b8_law (c : CA) : MS := (seqS (asgS 2 (callE (callX none 2 f_law_source) [] (consA (varE 0) (consA (varE 1) nilA))))
    (forS (rng1 (consA (datC (.int 8)) nilA)) (nameG 3) (b7_law c)))
def m_law (c : CA) : MS := (seqS (forS (rng1 (consA (cbE maxV (consA (datC (.int 1)) (consA (cbE minV (consA (datC (.int 4)) (consA (cbE lenG (consA (varE 0) nilA)) nilA))) nilA))) nilA)) (nameG 1) (b8_law c))
    (retS (datC (.bl true))))
def f_law (c : CA) : FD := defF none 15 (m_law c)
theorem en_law (c : CA) (a0 : D) : f_law c [a0] = df1 none (m_law c [.val a0, .un, .un, .un, .un, .un, .un, .un, .un, .un, .un, .un, .un, .un, .un]) := rfl
end PL

namespace PL
open PySem PySem.Spec PyProof.Rows L2 DV

theorem number_eq (i l g : Int) : f_is_number [.int i, .int l, .int g] = some (.dat (.bl (decide (l ≤ i ∧ i ≤ g))), .non) := by
  by_cases h0 : l ≤ i
  · by_cases h1 : i ≤ g
    · simp only [en_is_number, m_is_number, e_var, e_var1, e_var2, e_var3, e_dat, e_der1, e_der2, e_der3, e_sd1, e_sd2, e_sd3, e_op, e_op1, e_op2, e_op3, e_op4, e_un, e_un1, e_un2, e_sol, e_sol1, e_sol2, e_sol3, e_sol4, e_sol5, e_da, e_da1, e_na, e_ca, e_ca1, e_ca2, e_nd, e_cd, e_cd1, e_cd2, e_dn, e_dc, e_dc1, e_cb, e_cb1, e_cb2, e_ls, e_ls1, e_tp, e_tp1, e_np, e_ip, e_ip1, e_sl, e_sl1, e_sl2, e_sl3, e_rv, e_rv1, e_rv2, e_te, e_te1, e_at, e_at1, e_at2, e_ot, e_ot1, e_ot2, e_nt, e_nt1, e_ae, e_ae1, e_ae2, e_oe, e_oe1, e_oe2, e_ne, e_ne1, e_ie, e_ie1, e_ie2, e_ch, e_ch1, e_ch2, e_ch3, e_ch4, e_ch5, e_cl, e_cl1, e_cx, e_cx1, e_cx2, e_cx3, e_cx4, e_cx5, e_cz, e_cz1, e_cz2, e_cz3, e_cz4, e_ro1, e_ro2, e_pl1, e_pl2, e_pl3, e_pl4, e_ld0, e_ld1, e_ld2, e_ld3, e_ld4, e_ld5, e_pb0, e_pb1, e_pb2, e_pb3, e_sq, e_sq1, e_sq2, e_sq3, e_sq4, e_nx, e_rt, e_rt1, e_dp, e_dp1, e_is, e_is1, e_is2, e_as, e_as1, e_as2, e_as3, e_as4, e_st, e_st1, e_st2, e_st3, e_st4, e_st5, e_st6, e_up, e_up1, e_up2, e_pr, e_pr3, e_pr1, e_sa0, e_sa1, e_sa2, e_lt, e_lt1, e_ng, e_tg, e_gn, e_gc, e_gc1, e_fr, e_fr1, e_lp1, e_lp2, e_lp3, e_lp4, e_lp5, e_wh1, e_wh2, e_wh3, e_wh4, e_wh5, e_si, e_si1, e_si2, e_si3, e_r1, e_r11, e_r2, e_r21, e_en, e_en1, e_lc, e_lc1, e_lc2, e_lc3, e_lcn1, e_lcn2, e_lcn3, e_lcn4, e_ye, e_wi0, e_wi1, e_re0, e_re1, e_no0, e_no1, e_ow1, e_ow2, e_df1, e_df2, e_df3, e_rs1, e_rs2, e_rs3, e_rs4, e_rs5, e_ou, e_ou1, e_ou2, e_mu, e_mu1, e_mu6, e_mu2, e_mu3, e_mu4, e_mu5, g_addI, g_addL, g_sub, g_lt, g_le, g_gt, g_ge, g_mod, g_div, g_mulL, g_eqI, g_neI, g_eqB, g_neB, g_eqS, g_ixL, g_ixR, g_ixT, g_ix1, g_lenL, g_lenR, g_lenT, g_intI, g_intB, g_min2, g_max2, g_app, g_slL, g_slT, g_neg, g_atI0, g_atI1, g_atIl, g_ixN0, g_ixN1, g_powM3, g_powM5, g_mulR, List.getElem?_cons_zero, List.getElem?_cons_succ, List.getD_cons_zero, List.getD_cons_succ, List.set_cons_zero, List.set_cons_succ, Bool.and_true, Bool.true_and, Bool.and_false, Bool.false_and, decide_true, decide_false, Bool.not_true, Bool.not_false, List.length_cons, List.length_nil, Nat.reduceAdd, Nat.reduceMul, Nat.reduceSub, Nat.reduceLT, Nat.reduceLeDiff, Nat.reduceEqDiff, Int.reduceAdd, Int.reduceMul, Int.reduceSub, Int.reduceNeg, Int.reduceLT, Int.reduceLE, Int.reduceMod, Int.reduceDiv, Int.reducePow, Int.reduceToNat, Bool.false_eq_true, if_true, if_false, gt_iff_lt, ge_iff_le, g_eqIs, g_neIs, g_eqBs, g_neBs, g_eqI0, g_neI0, g_neT0, g_inB, g_inN, h_ss, h_ss1, h_ssG, h_min, h_tup, h_lst, h_flT, h_flL, h_flB, h_flb, h_fli, h_fln, h_flN, h_flS, h_mapi, h_mapb, h_mapI, h_mapB, h_revI, h_eu, h_eu1, h_eu2, h_r3, h_r31, h_fd, h_fd1, h_fd2, h_fd3, h_fs, h_fs1, h_fs2, h_fs3, h_mk, h_mk1, h_mk2, h_me, h_me1, h_me2, h_me3, h_io, h_eo, h_no, h_eo1, g_eqTs, h_apd0, h_apd1, h_apo0, h_apo1, h_cn, h_cn1, h_cn2, h_pk0, h_pk1, h_pk2, h_nw, h_nw1, e_tu, e_tu1, e_af1, e_af2, e_af3, e_af4, e_wl1, e_wl2, e_lct, e_lct1, e_lct2, e_lct3, e_lct4, e_ni, e_ni1, e_lg1, e_lg2, e_lg3, e_lg4, e_lg5, e_ixw, e_ixw1, e_ixw2, e_ixw3, e_aow, e_aow1, e_aow2, e_aow3, e_zu, e_zu1, e_zu2, e_mulT, e_mxI, e_mnI, e_mxL, e_mnL, e_mxT, e_mnT, e_lgm, e_lgm1, e_lgm2, e_lgm3, e_tupT, e_lstT, e_lgc, e_lgc2, e_gd1, e_gd2, e_gpl, e_gpl1, e_gnx, e_gsq, e_gsq1, e_gyd, e_gyd1, e_gfr, e_gfr1, e_glp1, e_glpN, ends_some, Int.sub_zero, Int.add_zero, Int.zero_add, and_self, and_true, true_and, and_false, false_and, ne_eq, not_false_eq_true, not_true_eq_false, Bool.or_true, Bool.true_or, Bool.or_false, Bool.false_or, Option.some.injEq, reduceCtorEq, iz_int, iz_bool, h0, h1, and_self]
    · simp only [en_is_number, m_is_number, e_var, e_var1, e_var2, e_var3, e_dat, e_der1, e_der2, e_der3, e_sd1, e_sd2, e_sd3, e_op, e_op1, e_op2, e_op3, e_op4, e_un, e_un1, e_un2, e_sol, e_sol1, e_sol2, e_sol3, e_sol4, e_sol5, e_da, e_da1, e_na, e_ca, e_ca1, e_ca2, e_nd, e_cd, e_cd1, e_cd2, e_dn, e_dc, e_dc1, e_cb, e_cb1, e_cb2, e_ls, e_ls1, e_tp, e_tp1, e_np, e_ip, e_ip1, e_sl, e_sl1, e_sl2, e_sl3, e_rv, e_rv1, e_rv2, e_te, e_te1, e_at, e_at1, e_at2, e_ot, e_ot1, e_ot2, e_nt, e_nt1, e_ae, e_ae1, e_ae2, e_oe, e_oe1, e_oe2, e_ne, e_ne1, e_ie, e_ie1, e_ie2, e_ch, e_ch1, e_ch2, e_ch3, e_ch4, e_ch5, e_cl, e_cl1, e_cx, e_cx1, e_cx2, e_cx3, e_cx4, e_cx5, e_cz, e_cz1, e_cz2, e_cz3, e_cz4, e_ro1, e_ro2, e_pl1, e_pl2, e_pl3, e_pl4, e_ld0, e_ld1, e_ld2, e_ld3, e_ld4, e_ld5, e_pb0, e_pb1, e_pb2, e_pb3, e_sq, e_sq1, e_sq2, e_sq3, e_sq4, e_nx, e_rt, e_rt1, e_dp, e_dp1, e_is, e_is1, e_is2, e_as, e_as1, e_as2, e_as3, e_as4, e_st, e_st1, e_st2, e_st3, e_st4, e_st5, e_st6, e_up, e_up1, e_up2, e_pr, e_pr3, e_pr1, e_sa0, e_sa1, e_sa2, e_lt, e_lt1, e_ng, e_tg, e_gn, e_gc, e_gc1, e_fr, e_fr1, e_lp1, e_lp2, e_lp3, e_lp4, e_lp5, e_wh1, e_wh2, e_wh3, e_wh4, e_wh5, e_si, e_si1, e_si2, e_si3, e_r1, e_r11, e_r2, e_r21, e_en, e_en1, e_lc, e_lc1, e_lc2, e_lc3, e_lcn1, e_lcn2, e_lcn3, e_lcn4, e_ye, e_wi0, e_wi1, e_re0, e_re1, e_no0, e_no1, e_ow1, e_ow2, e_df1, e_df2, e_df3, e_rs1, e_rs2, e_rs3, e_rs4, e_rs5, e_ou, e_ou1, e_ou2, e_mu, e_mu1, e_mu6, e_mu2, e_mu3, e_mu4, e_mu5, g_addI, g_addL, g_sub, g_lt, g_le, g_gt, g_ge, g_mod, g_div, g_mulL, g_eqI, g_neI, g_eqB, g_neB, g_eqS, g_ixL, g_ixR, g_ixT, g_ix1, g_lenL, g_lenR, g_lenT, g_intI, g_intB, g_min2, g_max2, g_app, g_slL, g_slT, g_neg, g_atI0, g_atI1, g_atIl, g_ixN0, g_ixN1, g_powM3, g_powM5, g_mulR, List.getElem?_cons_zero, List.getElem?_cons_succ, List.getD_cons_zero, List.getD_cons_succ, List.set_cons_zero, List.set_cons_succ, Bool.and_true, Bool.true_and, Bool.and_false, Bool.false_and, decide_true, decide_false, Bool.not_true, Bool.not_false, List.length_cons, List.length_nil, Nat.reduceAdd, Nat.reduceMul, Nat.reduceSub, Nat.reduceLT, Nat.reduceLeDiff, Nat.reduceEqDiff, Int.reduceAdd, Int.reduceMul, Int.reduceSub, Int.reduceNeg, Int.reduceLT, Int.reduceLE, Int.reduceMod, Int.reduceDiv, Int.reducePow, Int.reduceToNat, Bool.false_eq_true, if_true, if_false, gt_iff_lt, ge_iff_le, g_eqIs, g_neIs, g_eqBs, g_neBs, g_eqI0, g_neI0, g_neT0, g_inB, g_inN, h_ss, h_ss1, h_ssG, h_min, h_tup, h_lst, h_flT, h_flL, h_flB, h_flb, h_fli, h_fln, h_flN, h_flS, h_mapi, h_mapb, h_mapI, h_mapB, h_revI, h_eu, h_eu1, h_eu2, h_r3, h_r31, h_fd, h_fd1, h_fd2, h_fd3, h_fs, h_fs1, h_fs2, h_fs3, h_mk, h_mk1, h_mk2, h_me, h_me1, h_me2, h_me3, h_io, h_eo, h_no, h_eo1, g_eqTs, h_apd0, h_apd1, h_apo0, h_apo1, h_cn, h_cn1, h_cn2, h_pk0, h_pk1, h_pk2, h_nw, h_nw1, e_tu, e_tu1, e_af1, e_af2, e_af3, e_af4, e_wl1, e_wl2, e_lct, e_lct1, e_lct2, e_lct3, e_lct4, e_ni, e_ni1, e_lg1, e_lg2, e_lg3, e_lg4, e_lg5, e_ixw, e_ixw1, e_ixw2, e_ixw3, e_aow, e_aow1, e_aow2, e_aow3, e_zu, e_zu1, e_zu2, e_mulT, e_mxI, e_mnI, e_mxL, e_mnL, e_mxT, e_mnT, e_lgm, e_lgm1, e_lgm2, e_lgm3, e_tupT, e_lstT, e_lgc, e_lgc2, e_gd1, e_gd2, e_gpl, e_gpl1, e_gnx, e_gsq, e_gsq1, e_gyd, e_gyd1, e_gfr, e_gfr1, e_glp1, e_glpN, ends_some, Int.sub_zero, Int.add_zero, Int.zero_add, and_self, and_true, true_and, and_false, false_and, ne_eq, not_false_eq_true, not_true_eq_false, Bool.or_true, Bool.true_or, Bool.or_false, Bool.false_or, Option.some.injEq, reduceCtorEq, iz_int, iz_bool, h0, h1, and_false]
  · simp only [en_is_number, m_is_number, e_var, e_var1, e_var2, e_var3, e_dat, e_der1, e_der2, e_der3, e_sd1, e_sd2, e_sd3, e_op, e_op1, e_op2, e_op3, e_op4, e_un, e_un1, e_un2, e_sol, e_sol1, e_sol2, e_sol3, e_sol4, e_sol5, e_da, e_da1, e_na, e_ca, e_ca1, e_ca2, e_nd, e_cd, e_cd1, e_cd2, e_dn, e_dc, e_dc1, e_cb, e_cb1, e_cb2, e_ls, e_ls1, e_tp, e_tp1, e_np, e_ip, e_ip1, e_sl, e_sl1, e_sl2, e_sl3, e_rv, e_rv1, e_rv2, e_te, e_te1, e_at, e_at1, e_at2, e_ot, e_ot1, e_ot2, e_nt, e_nt1, e_ae, e_ae1, e_ae2, e_oe, e_oe1, e_oe2, e_ne, e_ne1, e_ie, e_ie1, e_ie2, e_ch, e_ch1, e_ch2, e_ch3, e_ch4, e_ch5, e_cl, e_cl1, e_cx, e_cx1, e_cx2, e_cx3, e_cx4, e_cx5, e_cz, e_cz1, e_cz2, e_cz3, e_cz4, e_ro1, e_ro2, e_pl1, e_pl2, e_pl3, e_pl4, e_ld0, e_ld1, e_ld2, e_ld3, e_ld4, e_ld5, e_pb0, e_pb1, e_pb2, e_pb3, e_sq, e_sq1, e_sq2, e_sq3, e_sq4, e_nx, e_rt, e_rt1, e_dp, e_dp1, e_is, e_is1, e_is2, e_as, e_as1, e_as2, e_as3, e_as4, e_st, e_st1, e_st2, e_st3, e_st4, e_st5, e_st6, e_up, e_up1, e_up2, e_pr, e_pr3, e_pr1, e_sa0, e_sa1, e_sa2, e_lt, e_lt1, e_ng, e_tg, e_gn, e_gc, e_gc1, e_fr, e_fr1, e_lp1, e_lp2, e_lp3, e_lp4, e_lp5, e_wh1, e_wh2, e_wh3, e_wh4, e_wh5, e_si, e_si1, e_si2, e_si3, e_r1, e_r11, e_r2, e_r21, e_en, e_en1, e_lc, e_lc1, e_lc2, e_lc3, e_lcn1, e_lcn2, e_lcn3, e_lcn4, e_ye, e_wi0, e_wi1, e_re0, e_re1, e_no0, e_no1, e_ow1, e_ow2, e_df1, e_df2, e_df3, e_rs1, e_rs2, e_rs3, e_rs4, e_rs5, e_ou, e_ou1, e_ou2, e_mu, e_mu1, e_mu6, e_mu2, e_mu3, e_mu4, e_mu5, g_addI, g_addL, g_sub, g_lt, g_le, g_gt, g_ge, g_mod, g_div, g_mulL, g_eqI, g_neI, g_eqB, g_neB, g_eqS, g_ixL, g_ixR, g_ixT, g_ix1, g_lenL, g_lenR, g_lenT, g_intI, g_intB, g_min2, g_max2, g_app, g_slL, g_slT, g_neg, g_atI0, g_atI1, g_atIl, g_ixN0, g_ixN1, g_powM3, g_powM5, g_mulR, List.getElem?_cons_zero, List.getElem?_cons_succ, List.getD_cons_zero, List.getD_cons_succ, List.set_cons_zero, List.set_cons_succ, Bool.and_true, Bool.true_and, Bool.and_false, Bool.false_and, decide_true, decide_false, Bool.not_true, Bool.not_false, List.length_cons, List.length_nil, Nat.reduceAdd, Nat.reduceMul, Nat.reduceSub, Nat.reduceLT, Nat.reduceLeDiff, Nat.reduceEqDiff, Int.reduceAdd, Int.reduceMul, Int.reduceSub, Int.reduceNeg, Int.reduceLT, Int.reduceLE, Int.reduceMod, Int.reduceDiv, Int.reducePow, Int.reduceToNat, Bool.false_eq_true, if_true, if_false, gt_iff_lt, ge_iff_le, g_eqIs, g_neIs, g_eqBs, g_neBs, g_eqI0, g_neI0, g_neT0, g_inB, g_inN, h_ss, h_ss1, h_ssG, h_min, h_tup, h_lst, h_flT, h_flL, h_flB, h_flb, h_fli, h_fln, h_flN, h_flS, h_mapi, h_mapb, h_mapI, h_mapB, h_revI, h_eu, h_eu1, h_eu2, h_r3, h_r31, h_fd, h_fd1, h_fd2, h_fd3, h_fs, h_fs1, h_fs2, h_fs3, h_mk, h_mk1, h_mk2, h_me, h_me1, h_me2, h_me3, h_io, h_eo, h_no, h_eo1, g_eqTs, h_apd0, h_apd1, h_apo0, h_apo1, h_cn, h_cn1, h_cn2, h_pk0, h_pk1, h_pk2, h_nw, h_nw1, e_tu, e_tu1, e_af1, e_af2, e_af3, e_af4, e_wl1, e_wl2, e_lct, e_lct1, e_lct2, e_lct3, e_lct4, e_ni, e_ni1, e_lg1, e_lg2, e_lg3, e_lg4, e_lg5, e_ixw, e_ixw1, e_ixw2, e_ixw3, e_aow, e_aow1, e_aow2, e_aow3, e_zu, e_zu1, e_zu2, e_mulT, e_mxI, e_mnI, e_mxL, e_mnL, e_mxT, e_mnT, e_lgm, e_lgm1, e_lgm2, e_lgm3, e_tupT, e_lstT, e_lgc, e_lgc2, e_gd1, e_gd2, e_gpl, e_gpl1, e_gnx, e_gsq, e_gsq1, e_gyd, e_gyd1, e_gfr, e_gfr1, e_glp1, e_glpN, ends_some, Int.sub_zero, Int.add_zero, Int.zero_add, and_self, and_true, true_and, and_false, false_and, ne_eq, not_false_eq_true, not_true_eq_false, Bool.or_true, Bool.true_or, Bool.or_false, Bool.false_or, Option.some.injEq, reduceCtorEq, iz_int, iz_bool, h0, false_and]
theorem falling_eq (d : D) (ns : List Int) (hd : IsSq d ns) (h : Fall ns) : f_is_falling [d] = some (.dat (.bl true), .non) := by
  have hl := fall_size h
  have hm := fall_mem h
  have hix : ∀ (k : Nat) (x : Int), ns[k]? = some x → ixG d (.int (k : Int)) = some (.dat (.int x)) := fun k x hk => by
    rcases hd with rfl | rfl
    · exact atL hk
    · exact atT hk
  have e1 := lc_map (g := nameG 2) (t := y2_is_falling) (e := x1_is_falling) (vs := [2]) D.int (fun _ => D.bl true) ns [.val d, .un, .un] (by omega) (fun x hx => by
    have := hm x hx
    simp only [x1_is_falling, y2_is_falling, e_var, e_var1, e_var2, e_var3, e_dat, e_der1, e_der2, e_der3, e_sd1, e_sd2, e_sd3, e_op, e_op1, e_op2, e_op3, e_op4, e_un, e_un1, e_un2, e_sol, e_sol1, e_sol2, e_sol3, e_sol4, e_sol5, e_da, e_da1, e_na, e_ca, e_ca1, e_ca2, e_nd, e_cd, e_cd1, e_cd2, e_dn, e_dc, e_dc1, e_cb, e_cb1, e_cb2, e_ls, e_ls1, e_tp, e_tp1, e_np, e_ip, e_ip1, e_sl, e_sl1, e_sl2, e_sl3, e_rv, e_rv1, e_rv2, e_te, e_te1, e_at, e_at1, e_at2, e_ot, e_ot1, e_ot2, e_nt, e_nt1, e_ae, e_ae1, e_ae2, e_oe, e_oe1, e_oe2, e_ne, e_ne1, e_ie, e_ie1, e_ie2, e_ch, e_ch1, e_ch2, e_ch3, e_ch4, e_ch5, e_cl, e_cl1, e_cx, e_cx1, e_cx2, e_cx3, e_cx4, e_cx5, e_cz, e_cz1, e_cz2, e_cz3, e_cz4, e_ro1, e_ro2, e_pl1, e_pl2, e_pl3, e_pl4, e_ld0, e_ld1, e_ld2, e_ld3, e_ld4, e_ld5, e_pb0, e_pb1, e_pb2, e_pb3, e_sq, e_sq1, e_sq2, e_sq3, e_sq4, e_nx, e_rt, e_rt1, e_dp, e_dp1, e_is, e_is1, e_is2, e_as, e_as1, e_as2, e_as3, e_as4, e_st, e_st1, e_st2, e_st3, e_st4, e_st5, e_st6, e_up, e_up1, e_up2, e_pr, e_pr3, e_pr1, e_sa0, e_sa1, e_sa2, e_lt, e_lt1, e_ng, e_tg, e_gn, e_gc, e_gc1, e_fr, e_fr1, e_lp1, e_lp2, e_lp3, e_lp4, e_lp5, e_wh1, e_wh2, e_wh3, e_wh4, e_wh5, e_si, e_si1, e_si2, e_si3, e_r1, e_r11, e_r2, e_r21, e_en, e_en1, e_lc, e_lc1, e_lc2, e_lc3, e_lcn1, e_lcn2, e_lcn3, e_lcn4, e_ye, e_wi0, e_wi1, e_re0, e_re1, e_no0, e_no1, e_ow1, e_ow2, e_df1, e_df2, e_df3, e_rs1, e_rs2, e_rs3, e_rs4, e_rs5, e_ou, e_ou1, e_ou2, e_mu, e_mu1, e_mu6, e_mu2, e_mu3, e_mu4, e_mu5, g_addI, g_addL, g_sub, g_lt, g_le, g_gt, g_ge, g_mod, g_div, g_mulL, g_eqI, g_neI, g_eqB, g_neB, g_eqS, g_ixL, g_ixR, g_ixT, g_ix1, g_lenL, g_lenR, g_lenT, g_intI, g_intB, g_min2, g_max2, g_app, g_slL, g_slT, g_neg, g_atI0, g_atI1, g_atIl, g_ixN0, g_ixN1, g_powM3, g_powM5, g_mulR, List.getElem?_cons_zero, List.getElem?_cons_succ, List.getD_cons_zero, List.getD_cons_succ, List.set_cons_zero, List.set_cons_succ, Bool.and_true, Bool.true_and, Bool.and_false, Bool.false_and, decide_true, decide_false, Bool.not_true, Bool.not_false, List.length_cons, List.length_nil, Nat.reduceAdd, Nat.reduceMul, Nat.reduceSub, Nat.reduceLT, Nat.reduceLeDiff, Nat.reduceEqDiff, Int.reduceAdd, Int.reduceMul, Int.reduceSub, Int.reduceNeg, Int.reduceLT, Int.reduceLE, Int.reduceMod, Int.reduceDiv, Int.reducePow, Int.reduceToNat, Bool.false_eq_true, if_true, if_false, gt_iff_lt, ge_iff_le, g_eqIs, g_neIs, g_eqBs, g_neBs, g_eqI0, g_neI0, g_neT0, g_inB, g_inN, h_ss, h_ss1, h_ssG, h_min, h_tup, h_lst, h_flT, h_flL, h_flB, h_flb, h_fli, h_fln, h_flN, h_flS, h_mapi, h_mapb, h_mapI, h_mapB, h_revI, h_eu, h_eu1, h_eu2, h_r3, h_r31, h_fd, h_fd1, h_fd2, h_fd3, h_fs, h_fs1, h_fs2, h_fs3, h_mk, h_mk1, h_mk2, h_me, h_me1, h_me2, h_me3, h_io, h_eo, h_no, h_eo1, g_eqTs, h_apd0, h_apd1, h_apo0, h_apo1, h_cn, h_cn1, h_cn2, h_pk0, h_pk1, h_pk2, h_nw, h_nw1, e_tu, e_tu1, e_af1, e_af2, e_af3, e_af4, e_wl1, e_wl2, e_lct, e_lct1, e_lct2, e_lct3, e_lct4, e_ni, e_ni1, e_lg1, e_lg2, e_lg3, e_lg4, e_lg5, e_ixw, e_ixw1, e_ixw2, e_ixw3, e_aow, e_aow1, e_aow2, e_aow3, e_zu, e_zu1, e_zu2, e_mulT, e_mxI, e_mnI, e_mxL, e_mnL, e_mxT, e_mnT, e_lgm, e_lgm1, e_lgm2, e_lgm3, e_tupT, e_lstT, e_lgc, e_lgc2, e_gd1, e_gd2, e_gpl, e_gpl1, e_gnx, e_gsq, e_gsq1, e_gyd, e_gyd1, e_gfr, e_gfr1, e_glp1, e_glpN, ends_some, Int.sub_zero, Int.add_zero, Int.zero_add, and_self, and_true, true_and, and_false, false_and, ne_eq, not_false_eq_true, not_true_eq_false, Bool.or_true, Bool.true_or, Bool.or_false, Bool.false_or, Option.some.injEq, reduceCtorEq, number_eq, show (1 : Int) ≤ x ∧ x ≤ 1000 by omega])
  have e3 := lc_map (g := nameG 1) (t := y4_is_falling) (e := x3_is_falling) (vs := [1]) (fun k : Nat => D.int (k : Int)) (fun _ => D.bl true) (List.range' 1 (ns.length - 1)) [.val d, .un, .un] (by rw [List.length_range']; omega) (fun x hx => by
    rw [List.mem_range'_1] at hx
    have h1 : ns[x]? = some ns[x] := List.getElem?_eq_getElem (by omega)
    have h2 : ns[x - 1]? = some ns[x - 1] := List.getElem?_eq_getElem (by omega)
    have ex : (x : Int) - 1 = ((x - 1 : Nat) : Int) := by omega
    have hlt := fall_adj h (x - 1) ns[x - 1] ns[x] h2 (by rw [show x - 1 + 1 = x by omega]; exact h1)
    have g1 := hix x _ h1
    have g2 := hix (x - 1) _ h2
    rw [← ex] at g2
    simp only [x3_is_falling, y4_is_falling, e_var, e_var1, e_var2, e_var3, e_dat, e_der1, e_der2, e_der3, e_sd1, e_sd2, e_sd3, e_op, e_op1, e_op2, e_op3, e_op4, e_un, e_un1, e_un2, e_sol, e_sol1, e_sol2, e_sol3, e_sol4, e_sol5, e_da, e_da1, e_na, e_ca, e_ca1, e_ca2, e_nd, e_cd, e_cd1, e_cd2, e_dn, e_dc, e_dc1, e_cb, e_cb1, e_cb2, e_ls, e_ls1, e_tp, e_tp1, e_np, e_ip, e_ip1, e_sl, e_sl1, e_sl2, e_sl3, e_rv, e_rv1, e_rv2, e_te, e_te1, e_at, e_at1, e_at2, e_ot, e_ot1, e_ot2, e_nt, e_nt1, e_ae, e_ae1, e_ae2, e_oe, e_oe1, e_oe2, e_ne, e_ne1, e_ie, e_ie1, e_ie2, e_ch, e_ch1, e_ch2, e_ch3, e_ch4, e_ch5, e_cl, e_cl1, e_cx, e_cx1, e_cx2, e_cx3, e_cx4, e_cx5, e_cz, e_cz1, e_cz2, e_cz3, e_cz4, e_ro1, e_ro2, e_pl1, e_pl2, e_pl3, e_pl4, e_ld0, e_ld1, e_ld2, e_ld3, e_ld4, e_ld5, e_pb0, e_pb1, e_pb2, e_pb3, e_sq, e_sq1, e_sq2, e_sq3, e_sq4, e_nx, e_rt, e_rt1, e_dp, e_dp1, e_is, e_is1, e_is2, e_as, e_as1, e_as2, e_as3, e_as4, e_st, e_st1, e_st2, e_st3, e_st4, e_st5, e_st6, e_up, e_up1, e_up2, e_pr, e_pr3, e_pr1, e_sa0, e_sa1, e_sa2, e_lt, e_lt1, e_ng, e_tg, e_gn, e_gc, e_gc1, e_fr, e_fr1, e_lp1, e_lp2, e_lp3, e_lp4, e_lp5, e_wh1, e_wh2, e_wh3, e_wh4, e_wh5, e_si, e_si1, e_si2, e_si3, e_r1, e_r11, e_r2, e_r21, e_en, e_en1, e_lc, e_lc1, e_lc2, e_lc3, e_lcn1, e_lcn2, e_lcn3, e_lcn4, e_ye, e_wi0, e_wi1, e_re0, e_re1, e_no0, e_no1, e_ow1, e_ow2, e_df1, e_df2, e_df3, e_rs1, e_rs2, e_rs3, e_rs4, e_rs5, e_ou, e_ou1, e_ou2, e_mu, e_mu1, e_mu6, e_mu2, e_mu3, e_mu4, e_mu5, g_addI, g_addL, g_sub, g_lt, g_le, g_gt, g_ge, g_mod, g_div, g_mulL, g_eqI, g_neI, g_eqB, g_neB, g_eqS, g_ixL, g_ixR, g_ixT, g_ix1, g_lenL, g_lenR, g_lenT, g_intI, g_intB, g_min2, g_max2, g_app, g_slL, g_slT, g_neg, g_atI0, g_atI1, g_atIl, g_ixN0, g_ixN1, g_powM3, g_powM5, g_mulR, List.getElem?_cons_zero, List.getElem?_cons_succ, List.getD_cons_zero, List.getD_cons_succ, List.set_cons_zero, List.set_cons_succ, Bool.and_true, Bool.true_and, Bool.and_false, Bool.false_and, decide_true, decide_false, Bool.not_true, Bool.not_false, List.length_cons, List.length_nil, Nat.reduceAdd, Nat.reduceMul, Nat.reduceSub, Nat.reduceLT, Nat.reduceLeDiff, Nat.reduceEqDiff, Int.reduceAdd, Int.reduceMul, Int.reduceSub, Int.reduceNeg, Int.reduceLT, Int.reduceLE, Int.reduceMod, Int.reduceDiv, Int.reducePow, Int.reduceToNat, Bool.false_eq_true, if_true, if_false, gt_iff_lt, ge_iff_le, g_eqIs, g_neIs, g_eqBs, g_neBs, g_eqI0, g_neI0, g_neT0, g_inB, g_inN, h_ss, h_ss1, h_ssG, h_min, h_tup, h_lst, h_flT, h_flL, h_flB, h_flb, h_fli, h_fln, h_flN, h_flS, h_mapi, h_mapb, h_mapI, h_mapB, h_revI, h_eu, h_eu1, h_eu2, h_r3, h_r31, h_fd, h_fd1, h_fd2, h_fd3, h_fs, h_fs1, h_fs2, h_fs3, h_mk, h_mk1, h_mk2, h_me, h_me1, h_me2, h_me3, h_io, h_eo, h_no, h_eo1, g_eqTs, h_apd0, h_apd1, h_apo0, h_apo1, h_cn, h_cn1, h_cn2, h_pk0, h_pk1, h_pk2, h_nw, h_nw1, e_tu, e_tu1, e_af1, e_af2, e_af3, e_af4, e_wl1, e_wl2, e_lct, e_lct1, e_lct2, e_lct3, e_lct4, e_ni, e_ni1, e_lg1, e_lg2, e_lg3, e_lg4, e_lg5, e_ixw, e_ixw1, e_ixw2, e_ixw3, e_aow, e_aow1, e_aow2, e_aow3, e_zu, e_zu1, e_zu2, e_mulT, e_mxI, e_mnI, e_mxL, e_mnL, e_mxT, e_mnT, e_lgm, e_lgm1, e_lgm2, e_lgm3, e_tupT, e_lstT, e_lgc, e_lgc2, e_gd1, e_gd2, e_gpl, e_gpl1, e_gnx, e_gsq, e_gsq1, e_gyd, e_gyd1, e_gfr, e_gfr1, e_glp1, e_glpN, ends_some, Int.sub_zero, Int.add_zero, Int.zero_add, and_self, and_true, true_and, and_false, false_and, ne_eq, not_false_eq_true, not_true_eq_false, Bool.or_true, Bool.true_or, Bool.or_false, Bool.false_or, Option.some.injEq, reduceCtorEq, g1, g2, hlt])
  have c4 : ∀ n : Nat, (List.replicate n true).all id = true := fun n => by simp
  have m1 : ∀ {α : Type} (l : List α), l.map (fun _ => D.bl true) = (List.replicate l.length true).map .bl := fun l => by rw [List.map_replicate, List.map_const']
  rw [m1] at e1 e3
  have e5 : rangeD 1 (ns.length - 1) = (List.range' 1 (ns.length - 1)).map fun (k : Nat) => D.int (k : Int) := rangeN 1 _
  have c1 : -100000 ≤ (((ns.map D.int).length : Nat) : Int) ∧ (((ns.map D.int).length : Nat) : Int) ≤ 100000 := by rw [List.length_map]; omega
  have c2 : ((((ns.map D.int).length : Nat) : Int) - 1).toNat = ns.length - 1 := by rw [List.length_map]; omega
  have c0 : (-100000 : Int) ≤ 1 ∧ (1 : Int) ≤ 100000 := by decide
  rcases hd with rfl | rfl
  · simp only [en_is_falling, m_is_falling, e_var, e_var1, e_var2, e_var3, e_dat, e_der1, e_der2, e_der3, e_sd1, e_sd2, e_sd3, e_op, e_op1, e_op2, e_op3, e_op4, e_un, e_un1, e_un2, e_sol, e_sol1, e_sol2, e_sol3, e_sol4, e_sol5, e_da, e_da1, e_na, e_ca, e_ca1, e_ca2, e_nd, e_cd, e_cd1, e_cd2, e_dn, e_dc, e_dc1, e_cb, e_cb1, e_cb2, e_ls, e_ls1, e_tp, e_tp1, e_np, e_ip, e_ip1, e_sl, e_sl1, e_sl2, e_sl3, e_rv, e_rv1, e_rv2, e_te, e_te1, e_at, e_at1, e_at2, e_ot, e_ot1, e_ot2, e_nt, e_nt1, e_ae, e_ae1, e_ae2, e_oe, e_oe1, e_oe2, e_ne, e_ne1, e_ie, e_ie1, e_ie2, e_ch, e_ch1, e_ch2, e_ch3, e_ch4, e_ch5, e_cl, e_cl1, e_cx, e_cx1, e_cx2, e_cx3, e_cx4, e_cx5, e_cz, e_cz1, e_cz2, e_cz3, e_cz4, e_ro1, e_ro2, e_pl1, e_pl2, e_pl3, e_pl4, e_ld0, e_ld1, e_ld2, e_ld3, e_ld4, e_ld5, e_pb0, e_pb1, e_pb2, e_pb3, e_sq, e_sq1, e_sq2, e_sq3, e_sq4, e_nx, e_rt, e_rt1, e_dp, e_dp1, e_is, e_is1, e_is2, e_as, e_as1, e_as2, e_as3, e_as4, e_st, e_st1, e_st2, e_st3, e_st4, e_st5, e_st6, e_up, e_up1, e_up2, e_pr, e_pr3, e_pr1, e_sa0, e_sa1, e_sa2, e_lt, e_lt1, e_ng, e_tg, e_gn, e_gc, e_gc1, e_fr, e_fr1, e_lp1, e_lp2, e_lp3, e_lp4, e_lp5, e_wh1, e_wh2, e_wh3, e_wh4, e_wh5, e_si, e_si1, e_si2, e_si3, e_r1, e_r11, e_r2, e_r21, e_en, e_en1, e_lc, e_lc1, e_lc2, e_lc3, e_lcn1, e_lcn2, e_lcn3, e_lcn4, e_ye, e_wi0, e_wi1, e_re0, e_re1, e_no0, e_no1, e_ow1, e_ow2, e_df1, e_df2, e_df3, e_rs1, e_rs2, e_rs3, e_rs4, e_rs5, e_ou, e_ou1, e_ou2, e_mu, e_mu1, e_mu6, e_mu2, e_mu3, e_mu4, e_mu5, g_addI, g_addL, g_sub, g_lt, g_le, g_gt, g_ge, g_mod, g_div, g_mulL, g_eqI, g_neI, g_eqB, g_neB, g_eqS, g_ixL, g_ixR, g_ixT, g_ix1, g_lenL, g_lenR, g_lenT, g_intI, g_intB, g_min2, g_max2, g_app, g_slL, g_slT, g_neg, g_atI0, g_atI1, g_atIl, g_ixN0, g_ixN1, g_powM3, g_powM5, g_mulR, List.getElem?_cons_zero, List.getElem?_cons_succ, List.getD_cons_zero, List.getD_cons_succ, List.set_cons_zero, List.set_cons_succ, Bool.and_true, Bool.true_and, Bool.and_false, Bool.false_and, decide_true, decide_false, Bool.not_true, Bool.not_false, List.length_cons, List.length_nil, Nat.reduceAdd, Nat.reduceMul, Nat.reduceSub, Nat.reduceLT, Nat.reduceLeDiff, Nat.reduceEqDiff, Int.reduceAdd, Int.reduceMul, Int.reduceSub, Int.reduceNeg, Int.reduceLT, Int.reduceLE, Int.reduceMod, Int.reduceDiv, Int.reducePow, Int.reduceToNat, Bool.false_eq_true, if_true, if_false, gt_iff_lt, ge_iff_le, g_eqIs, g_neIs, g_eqBs, g_neBs, g_eqI0, g_neI0, g_neT0, g_inB, g_inN, h_ss, h_ss1, h_ssG, h_min, h_tup, h_lst, h_flT, h_flL, h_flB, h_flb, h_fli, h_fln, h_flN, h_flS, h_mapi, h_mapb, h_mapI, h_mapB, h_revI, h_eu, h_eu1, h_eu2, h_r3, h_r31, h_fd, h_fd1, h_fd2, h_fd3, h_fs, h_fs1, h_fs2, h_fs3, h_mk, h_mk1, h_mk2, h_me, h_me1, h_me2, h_me3, h_io, h_eo, h_no, h_eo1, g_eqTs, h_apd0, h_apd1, h_apo0, h_apo1, h_cn, h_cn1, h_cn2, h_pk0, h_pk1, h_pk2, h_nw, h_nw1, e_tu, e_tu1, e_af1, e_af2, e_af3, e_af4, e_wl1, e_wl2, e_lct, e_lct1, e_lct2, e_lct3, e_lct4, e_ni, e_ni1, e_lg1, e_lg2, e_lg3, e_lg4, e_lg5, e_ixw, e_ixw1, e_ixw2, e_ixw3, e_aow, e_aow1, e_aow2, e_aow3, e_zu, e_zu1, e_zu2, e_mulT, e_mxI, e_mnI, e_mxL, e_mnL, e_mxT, e_mnT, e_lgm, e_lgm1, e_lgm2, e_lgm3, e_tupT, e_lstT, e_lgc, e_lgc2, e_gd1, e_gd2, e_gpl, e_gpl1, e_gnx, e_gsq, e_gsq1, e_gyd, e_gyd1, e_gfr, e_gfr1, e_glp1, e_glpN, ends_some, Int.sub_zero, Int.add_zero, Int.zero_add, and_self, and_true, true_and, and_false, false_and, ne_eq, not_false_eq_true, not_true_eq_false, Bool.or_true, Bool.true_or, Bool.or_false, Bool.false_or, Option.some.injEq, reduceCtorEq, is_tl, e1, all_bls, c4, c0, c1, c2, and_self, e5, e3]
  · simp only [en_is_falling, m_is_falling, e_var, e_var1, e_var2, e_var3, e_dat, e_der1, e_der2, e_der3, e_sd1, e_sd2, e_sd3, e_op, e_op1, e_op2, e_op3, e_op4, e_un, e_un1, e_un2, e_sol, e_sol1, e_sol2, e_sol3, e_sol4, e_sol5, e_da, e_da1, e_na, e_ca, e_ca1, e_ca2, e_nd, e_cd, e_cd1, e_cd2, e_dn, e_dc, e_dc1, e_cb, e_cb1, e_cb2, e_ls, e_ls1, e_tp, e_tp1, e_np, e_ip, e_ip1, e_sl, e_sl1, e_sl2, e_sl3, e_rv, e_rv1, e_rv2, e_te, e_te1, e_at, e_at1, e_at2, e_ot, e_ot1, e_ot2, e_nt, e_nt1, e_ae, e_ae1, e_ae2, e_oe, e_oe1, e_oe2, e_ne, e_ne1, e_ie, e_ie1, e_ie2, e_ch, e_ch1, e_ch2, e_ch3, e_ch4, e_ch5, e_cl, e_cl1, e_cx, e_cx1, e_cx2, e_cx3, e_cx4, e_cx5, e_cz, e_cz1, e_cz2, e_cz3, e_cz4, e_ro1, e_ro2, e_pl1, e_pl2, e_pl3, e_pl4, e_ld0, e_ld1, e_ld2, e_ld3, e_ld4, e_ld5, e_pb0, e_pb1, e_pb2, e_pb3, e_sq, e_sq1, e_sq2, e_sq3, e_sq4, e_nx, e_rt, e_rt1, e_dp, e_dp1, e_is, e_is1, e_is2, e_as, e_as1, e_as2, e_as3, e_as4, e_st, e_st1, e_st2, e_st3, e_st4, e_st5, e_st6, e_up, e_up1, e_up2, e_pr, e_pr3, e_pr1, e_sa0, e_sa1, e_sa2, e_lt, e_lt1, e_ng, e_tg, e_gn, e_gc, e_gc1, e_fr, e_fr1, e_lp1, e_lp2, e_lp3, e_lp4, e_lp5, e_wh1, e_wh2, e_wh3, e_wh4, e_wh5, e_si, e_si1, e_si2, e_si3, e_r1, e_r11, e_r2, e_r21, e_en, e_en1, e_lc, e_lc1, e_lc2, e_lc3, e_lcn1, e_lcn2, e_lcn3, e_lcn4, e_ye, e_wi0, e_wi1, e_re0, e_re1, e_no0, e_no1, e_ow1, e_ow2, e_df1, e_df2, e_df3, e_rs1, e_rs2, e_rs3, e_rs4, e_rs5, e_ou, e_ou1, e_ou2, e_mu, e_mu1, e_mu6, e_mu2, e_mu3, e_mu4, e_mu5, g_addI, g_addL, g_sub, g_lt, g_le, g_gt, g_ge, g_mod, g_div, g_mulL, g_eqI, g_neI, g_eqB, g_neB, g_eqS, g_ixL, g_ixR, g_ixT, g_ix1, g_lenL, g_lenR, g_lenT, g_intI, g_intB, g_min2, g_max2, g_app, g_slL, g_slT, g_neg, g_atI0, g_atI1, g_atIl, g_ixN0, g_ixN1, g_powM3, g_powM5, g_mulR, List.getElem?_cons_zero, List.getElem?_cons_succ, List.getD_cons_zero, List.getD_cons_succ, List.set_cons_zero, List.set_cons_succ, Bool.and_true, Bool.true_and, Bool.and_false, Bool.false_and, decide_true, decide_false, Bool.not_true, Bool.not_false, List.length_cons, List.length_nil, Nat.reduceAdd, Nat.reduceMul, Nat.reduceSub, Nat.reduceLT, Nat.reduceLeDiff, Nat.reduceEqDiff, Int.reduceAdd, Int.reduceMul, Int.reduceSub, Int.reduceNeg, Int.reduceLT, Int.reduceLE, Int.reduceMod, Int.reduceDiv, Int.reducePow, Int.reduceToNat, Bool.false_eq_true, if_true, if_false, gt_iff_lt, ge_iff_le, g_eqIs, g_neIs, g_eqBs, g_neBs, g_eqI0, g_neI0, g_neT0, g_inB, g_inN, h_ss, h_ss1, h_ssG, h_min, h_tup, h_lst, h_flT, h_flL, h_flB, h_flb, h_fli, h_fln, h_flN, h_flS, h_mapi, h_mapb, h_mapI, h_mapB, h_revI, h_eu, h_eu1, h_eu2, h_r3, h_r31, h_fd, h_fd1, h_fd2, h_fd3, h_fs, h_fs1, h_fs2, h_fs3, h_mk, h_mk1, h_mk2, h_me, h_me1, h_me2, h_me3, h_io, h_eo, h_no, h_eo1, g_eqTs, h_apd0, h_apd1, h_apo0, h_apo1, h_cn, h_cn1, h_cn2, h_pk0, h_pk1, h_pk2, h_nw, h_nw1, e_tu, e_tu1, e_af1, e_af2, e_af3, e_af4, e_wl1, e_wl2, e_lct, e_lct1, e_lct2, e_lct3, e_lct4, e_ni, e_ni1, e_lg1, e_lg2, e_lg3, e_lg4, e_lg5, e_ixw, e_ixw1, e_ixw2, e_ixw3, e_aow, e_aow1, e_aow2, e_aow3, e_zu, e_zu1, e_zu2, e_mulT, e_mxI, e_mnI, e_mxL, e_mnL, e_mxT, e_mnT, e_lgm, e_lgm1, e_lgm2, e_lgm3, e_tupT, e_lstT, e_lgc, e_lgc2, e_gd1, e_gd2, e_gpl, e_gpl1, e_gnx, e_gsq, e_gsq1, e_gyd, e_gyd1, e_gfr, e_gfr1, e_glp1, e_glpN, ends_some, Int.sub_zero, Int.add_zero, Int.zero_add, and_self, and_true, true_and, and_false, false_and, ne_eq, not_false_eq_true, not_true_eq_false, Bool.or_true, Bool.true_or, Bool.or_false, Bool.false_or, Option.some.injEq, reduceCtorEq, is_tt, e1, all_bls, c4, c0, c1, c2, and_self, e5, e3]
/-! ### pieces_by -/
theorem pieces_loop (v0 v2 : Sl) (K : List Int) : ∀ (cs : List Int), Fall cs → ∀ (i : Nat) (f l : Int) (v5 v6 : Sl), (∀ j < cs.length, K[i + j]? = (cnts cs)[j]?) → 0 < l →
    ∃ fl, loopL (tupG 2 (consG (nameG 5) (consG (nameG 6) nilG))) b1_pieces_by (enumD i (cs.map .int)) [v0, .val (.lst (K.map .int)), v2, .val (.int f), .val (.int l), v5, v6] = some fl ∧
      ((∃ δ, fl = .rt (.dat (.int (f + pcs cs l))) δ) ∨ ∃ f' l' w5 w6, fl = .nx [v0, .val (.lst (K.map .int)), v2, .val (.int f'), .val (.int l'), w5, w6] ∧ f' + 1 = f + pcs cs l)
  | [], _, i, f, l, v5, v6, _, _ => ⟨_, rfl, .inr ⟨f, l, v5, v6, rfl, rfl⟩⟩
  | c :: cs, h, i, f, l, v5, v6, hK, hl => by
    have c0 := h.1.1
    have c2 : c < 18446744073709551616 := by have := h.1.2; omega
    obtain ⟨k1, k2⟩ := pcs_pos h.2.2.pos c0
    have hk : K[i]? = some (pcs cs c) := by
      have := hK 0 (by simp)
      rw [cnts] at this
      simpa using this
    have m0 := Int.emod_nonneg l (show c ≠ 0 by omega)
    have hmul : mulG (.int (l / c)) (.int (pcs cs c)) = some (.dat (.int (l / c * pcs cs c))) := g_mulI (.inr (smallOf (by omega) (by have := h.1.2; omega)))
    rw [List.map_cons]
    show ∃ fl, loopL _ _ (.tup [.int (i : Int), .int c] :: enumD (i + 1) (cs.map .int)) _ = some fl ∧ _
    rw [e_lpc, pcs]
    by_cases hz : l % c = 0
    · refine ⟨.rt (.dat (.int (f + l / c * pcs cs c))) [v0, .val (.lst (K.map .int)), v2, .val (.int (f + l / c * pcs cs c)), .val (.int 0), .val (.int (i : Int)), .val (.int c)], ?_, .inl ⟨[v0, .val (.lst (K.map .int)), v2, .val (.int (f + l / c * pcs cs c)), .val (.int 0), .val (.int (i : Int)), .val (.int c)], ?_⟩⟩
      · simp only [b1_pieces_by, e_var, e_var1, e_var2, e_var3, e_dat, e_der1, e_der2, e_der3, e_sd1, e_sd2, e_sd3, e_op, e_op1, e_op2, e_op3, e_op4, e_un, e_un1, e_un2, e_sol, e_sol1, e_sol2, e_sol3, e_sol4, e_sol5, e_da, e_da1, e_na, e_ca, e_ca1, e_ca2, e_nd, e_cd, e_cd1, e_cd2, e_dn, e_dc, e_dc1, e_cb, e_cb1, e_cb2, e_ls, e_ls1, e_tp, e_tp1, e_np, e_ip, e_ip1, e_sl, e_sl1, e_sl2, e_sl3, e_rv, e_rv1, e_rv2, e_te, e_te1, e_at, e_at1, e_at2, e_ot, e_ot1, e_ot2, e_nt, e_nt1, e_ae, e_ae1, e_ae2, e_oe, e_oe1, e_oe2, e_ne, e_ne1, e_ie, e_ie1, e_ie2, e_ch, e_ch1, e_ch2, e_ch3, e_ch4, e_ch5, e_cl, e_cl1, e_cx, e_cx1, e_cx2, e_cx3, e_cx4, e_cx5, e_cz, e_cz1, e_cz2, e_cz3, e_cz4, e_ro1, e_ro2, e_pl1, e_pl2, e_pl3, e_pl4, e_ld0, e_ld1, e_ld2, e_ld3, e_ld4, e_ld5, e_pb0, e_pb1, e_pb2, e_pb3, e_sq, e_sq1, e_sq2, e_sq3, e_sq4, e_nx, e_rt, e_rt1, e_dp, e_dp1, e_is, e_is1, e_is2, e_as, e_as1, e_as2, e_as3, e_as4, e_st, e_st1, e_st2, e_st3, e_st4, e_st5, e_st6, e_up, e_up1, e_up2, e_pr, e_pr3, e_pr1, e_sa0, e_sa1, e_sa2, e_lt, e_lt1, e_ng, e_tg, e_gn, e_gc, e_gc1, e_fr, e_fr1, e_lp1, e_lp2, e_lp3, e_lp4, e_lp5, e_wh1, e_wh2, e_wh3, e_wh4, e_wh5, e_si, e_si1, e_si2, e_si3, e_r1, e_r11, e_r2, e_r21, e_en, e_en1, e_lc, e_lc1, e_lc2, e_lc3, e_lcn1, e_lcn2, e_lcn3, e_lcn4, e_ye, e_wi0, e_wi1, e_re0, e_re1, e_no0, e_no1, e_ow1, e_ow2, e_df1, e_df2, e_df3, e_rs1, e_rs2, e_rs3, e_rs4, e_rs5, e_ou, e_ou1, e_ou2, e_mu, e_mu1, e_mu6, e_mu2, e_mu3, e_mu4, e_mu5, g_addI, g_addL, g_sub, g_lt, g_le, g_gt, g_ge, g_mod, g_div, g_mulL, g_eqI, g_neI, g_eqB, g_neB, g_eqS, g_ixL, g_ixR, g_ixT, g_ix1, g_lenL, g_lenR, g_lenT, g_intI, g_intB, g_min2, g_max2, g_app, g_slL, g_slT, g_neg, g_atI0, g_atI1, g_atIl, g_ixN0, g_ixN1, g_powM3, g_powM5, g_mulR, List.getElem?_cons_zero, List.getElem?_cons_succ, List.getD_cons_zero, List.getD_cons_succ, List.set_cons_zero, List.set_cons_succ, Bool.and_true, Bool.true_and, Bool.and_false, Bool.false_and, decide_true, decide_false, Bool.not_true, Bool.not_false, List.length_cons, List.length_nil, Nat.reduceAdd, Nat.reduceMul, Nat.reduceSub, Nat.reduceLT, Nat.reduceLeDiff, Nat.reduceEqDiff, Int.reduceAdd, Int.reduceMul, Int.reduceSub, Int.reduceNeg, Int.reduceLT, Int.reduceLE, Int.reduceMod, Int.reduceDiv, Int.reducePow, Int.reduceToNat, Bool.false_eq_true, if_true, if_false, gt_iff_lt, ge_iff_le, g_eqIs, g_neIs, g_eqBs, g_neBs, g_eqI0, g_neI0, g_neT0, g_inB, g_inN, h_ss, h_ss1, h_ssG, h_min, h_tup, h_lst, h_flT, h_flL, h_flB, h_flb, h_fli, h_fln, h_flN, h_flS, h_mapi, h_mapb, h_mapI, h_mapB, h_revI, h_eu, h_eu1, h_eu2, h_r3, h_r31, h_fd, h_fd1, h_fd2, h_fd3, h_fs, h_fs1, h_fs2, h_fs3, h_mk, h_mk1, h_mk2, h_me, h_me1, h_me2, h_me3, h_io, h_eo, h_no, h_eo1, g_eqTs, h_apd0, h_apd1, h_apo0, h_apo1, h_cn, h_cn1, h_cn2, h_pk0, h_pk1, h_pk2, h_nw, h_nw1, e_tu, e_tu1, e_af1, e_af2, e_af3, e_af4, e_wl1, e_wl2, e_lct, e_lct1, e_lct2, e_lct3, e_lct4, e_ni, e_ni1, e_lg1, e_lg2, e_lg3, e_lg4, e_lg5, e_ixw, e_ixw1, e_ixw2, e_ixw3, e_aow, e_aow1, e_aow2, e_aow3, e_zu, e_zu1, e_zu2, e_mulT, e_mxI, e_mnI, e_mxL, e_mnL, e_mxT, e_mnT, e_lgm, e_lgm1, e_lgm2, e_lgm3, e_tupT, e_lstT, e_lgc, e_lgc2, e_gd1, e_gd2, e_gpl, e_gpl1, e_gnx, e_gsq, e_gsq1, e_gyd, e_gyd1, e_gfr, e_gfr1, e_glp1, e_glpN, ends_some, Int.sub_zero, Int.add_zero, Int.zero_add, and_self, and_true, true_and, and_false, false_and, ne_eq, not_false_eq_true, not_true_eq_false, Bool.or_true, Bool.true_or, Bool.or_false, Bool.false_or, Option.some.injEq, reduceCtorEq, c0, c2, atN hk, hmul, hz]
      · rw [if_pos hz, Int.add_zero]
    · obtain ⟨fl, e1, e2⟩ := pieces_loop v0 v2 K cs h.2.2 (i + 1) (f + l / c * pcs cs c) (l % c) (.val (.int (i : Int))) (.val (.int c)) (fun j hj => by
        have := hK (j + 1) (by rw [List.length_cons]; omega)
        rw [cnts, List.getElem?_cons_succ] at this
        rw [← this]; congr 1; omega) (by omega)
      refine ⟨fl, ?_, ?_⟩
      · rw [← e1]
        simp only [b1_pieces_by, e_var, e_var1, e_var2, e_var3, e_dat, e_der1, e_der2, e_der3, e_sd1, e_sd2, e_sd3, e_op, e_op1, e_op2, e_op3, e_op4, e_un, e_un1, e_un2, e_sol, e_sol1, e_sol2, e_sol3, e_sol4, e_sol5, e_da, e_da1, e_na, e_ca, e_ca1, e_ca2, e_nd, e_cd, e_cd1, e_cd2, e_dn, e_dc, e_dc1, e_cb, e_cb1, e_cb2, e_ls, e_ls1, e_tp, e_tp1, e_np, e_ip, e_ip1, e_sl, e_sl1, e_sl2, e_sl3, e_rv, e_rv1, e_rv2, e_te, e_te1, e_at, e_at1, e_at2, e_ot, e_ot1, e_ot2, e_nt, e_nt1, e_ae, e_ae1, e_ae2, e_oe, e_oe1, e_oe2, e_ne, e_ne1, e_ie, e_ie1, e_ie2, e_ch, e_ch1, e_ch2, e_ch3, e_ch4, e_ch5, e_cl, e_cl1, e_cx, e_cx1, e_cx2, e_cx3, e_cx4, e_cx5, e_cz, e_cz1, e_cz2, e_cz3, e_cz4, e_ro1, e_ro2, e_pl1, e_pl2, e_pl3, e_pl4, e_ld0, e_ld1, e_ld2, e_ld3, e_ld4, e_ld5, e_pb0, e_pb1, e_pb2, e_pb3, e_sq, e_sq1, e_sq2, e_sq3, e_sq4, e_nx, e_rt, e_rt1, e_dp, e_dp1, e_is, e_is1, e_is2, e_as, e_as1, e_as2, e_as3, e_as4, e_st, e_st1, e_st2, e_st3, e_st4, e_st5, e_st6, e_up, e_up1, e_up2, e_pr, e_pr3, e_pr1, e_sa0, e_sa1, e_sa2, e_lt, e_lt1, e_ng, e_tg, e_gn, e_gc, e_gc1, e_fr, e_fr1, e_lp1, e_lp2, e_lp3, e_lp4, e_lp5, e_wh1, e_wh2, e_wh3, e_wh4, e_wh5, e_si, e_si1, e_si2, e_si3, e_r1, e_r11, e_r2, e_r21, e_en, e_en1, e_lc, e_lc1, e_lc2, e_lc3, e_lcn1, e_lcn2, e_lcn3, e_lcn4, e_ye, e_wi0, e_wi1, e_re0, e_re1, e_no0, e_no1, e_ow1, e_ow2, e_df1, e_df2, e_df3, e_rs1, e_rs2, e_rs3, e_rs4, e_rs5, e_ou, e_ou1, e_ou2, e_mu, e_mu1, e_mu6, e_mu2, e_mu3, e_mu4, e_mu5, g_addI, g_addL, g_sub, g_lt, g_le, g_gt, g_ge, g_mod, g_div, g_mulL, g_eqI, g_neI, g_eqB, g_neB, g_eqS, g_ixL, g_ixR, g_ixT, g_ix1, g_lenL, g_lenR, g_lenT, g_intI, g_intB, g_min2, g_max2, g_app, g_slL, g_slT, g_neg, g_atI0, g_atI1, g_atIl, g_ixN0, g_ixN1, g_powM3, g_powM5, g_mulR, List.getElem?_cons_zero, List.getElem?_cons_succ, List.getD_cons_zero, List.getD_cons_succ, List.set_cons_zero, List.set_cons_succ, Bool.and_true, Bool.true_and, Bool.and_false, Bool.false_and, decide_true, decide_false, Bool.not_true, Bool.not_false, List.length_cons, List.length_nil, Nat.reduceAdd, Nat.reduceMul, Nat.reduceSub, Nat.reduceLT, Nat.reduceLeDiff, Nat.reduceEqDiff, Int.reduceAdd, Int.reduceMul, Int.reduceSub, Int.reduceNeg, Int.reduceLT, Int.reduceLE, Int.reduceMod, Int.reduceDiv, Int.reducePow, Int.reduceToNat, Bool.false_eq_true, if_true, if_false, gt_iff_lt, ge_iff_le, g_eqIs, g_neIs, g_eqBs, g_neBs, g_eqI0, g_neI0, g_neT0, g_inB, g_inN, h_ss, h_ss1, h_ssG, h_min, h_tup, h_lst, h_flT, h_flL, h_flB, h_flb, h_fli, h_fln, h_flN, h_flS, h_mapi, h_mapb, h_mapI, h_mapB, h_revI, h_eu, h_eu1, h_eu2, h_r3, h_r31, h_fd, h_fd1, h_fd2, h_fd3, h_fs, h_fs1, h_fs2, h_fs3, h_mk, h_mk1, h_mk2, h_me, h_me1, h_me2, h_me3, h_io, h_eo, h_no, h_eo1, g_eqTs, h_apd0, h_apd1, h_apo0, h_apo1, h_cn, h_cn1, h_cn2, h_pk0, h_pk1, h_pk2, h_nw, h_nw1, e_tu, e_tu1, e_af1, e_af2, e_af3, e_af4, e_wl1, e_wl2, e_lct, e_lct1, e_lct2, e_lct3, e_lct4, e_ni, e_ni1, e_lg1, e_lg2, e_lg3, e_lg4, e_lg5, e_ixw, e_ixw1, e_ixw2, e_ixw3, e_aow, e_aow1, e_aow2, e_aow3, e_zu, e_zu1, e_zu2, e_mulT, e_mxI, e_mnI, e_mxL, e_mnL, e_mxT, e_mnT, e_lgm, e_lgm1, e_lgm2, e_lgm3, e_tupT, e_lstT, e_lgc, e_lgc2, e_gd1, e_gd2, e_gpl, e_gpl1, e_gnx, e_gsq, e_gsq1, e_gyd, e_gyd1, e_gfr, e_gfr1, e_glp1, e_glpN, ends_some, Int.sub_zero, Int.add_zero, Int.zero_add, and_self, and_true, true_and, and_false, false_and, ne_eq, not_false_eq_true, not_true_eq_false, Bool.or_true, Bool.true_or, Bool.or_false, Bool.false_or, Option.some.injEq, reduceCtorEq, c0, c2, atN hk, hmul, hz]
      · rw [if_neg hz, ← Int.add_assoc]
        exact e2
theorem pieces_by_eq (cs : List Int) (h : Fall cs) (b : Int) (hb : 0 < b) : f_pieces_by [.tup (cs.map .int), .lst ((cnts cs).map .int), .int b] = some (.dat (.int (pcs cs b)), .non) := by
  obtain ⟨fl, e1, e2⟩ := pieces_loop (.val (.tup (cs.map .int))) (.val (.int b)) (cnts cs) cs h 0 0 b .un .un (fun j hj => by rw [Nat.zero_add]) hb
  rw [Int.zero_add] at e2
  rcases e2 with ⟨δ, rfl⟩ | ⟨f', l', w5, w6, rfl, e3⟩
  · simp only [en_pieces_by, m_pieces_by, e_var, e_var1, e_var2, e_var3, e_dat, e_der1, e_der2, e_der3, e_sd1, e_sd2, e_sd3, e_op, e_op1, e_op2, e_op3, e_op4, e_un, e_un1, e_un2, e_sol, e_sol1, e_sol2, e_sol3, e_sol4, e_sol5, e_da, e_da1, e_na, e_ca, e_ca1, e_ca2, e_nd, e_cd, e_cd1, e_cd2, e_dn, e_dc, e_dc1, e_cb, e_cb1, e_cb2, e_ls, e_ls1, e_tp, e_tp1, e_np, e_ip, e_ip1, e_sl, e_sl1, e_sl2, e_sl3, e_rv, e_rv1, e_rv2, e_te, e_te1, e_at, e_at1, e_at2, e_ot, e_ot1, e_ot2, e_nt, e_nt1, e_ae, e_ae1, e_ae2, e_oe, e_oe1, e_oe2, e_ne, e_ne1, e_ie, e_ie1, e_ie2, e_ch, e_ch1, e_ch2, e_ch3, e_ch4, e_ch5, e_cl, e_cl1, e_cx, e_cx1, e_cx2, e_cx3, e_cx4, e_cx5, e_cz, e_cz1, e_cz2, e_cz3, e_cz4, e_ro1, e_ro2, e_pl1, e_pl2, e_pl3, e_pl4, e_ld0, e_ld1, e_ld2, e_ld3, e_ld4, e_ld5, e_pb0, e_pb1, e_pb2, e_pb3, e_sq, e_sq1, e_sq2, e_sq3, e_sq4, e_nx, e_rt, e_rt1, e_dp, e_dp1, e_is, e_is1, e_is2, e_as, e_as1, e_as2, e_as3, e_as4, e_st, e_st1, e_st2, e_st3, e_st4, e_st5, e_st6, e_up, e_up1, e_up2, e_pr, e_pr3, e_pr1, e_sa0, e_sa1, e_sa2, e_lt, e_lt1, e_ng, e_tg, e_gn, e_gc, e_gc1, e_fr, e_fr1, e_lp1, e_lp2, e_lp3, e_lp4, e_lp5, e_wh1, e_wh2, e_wh3, e_wh4, e_wh5, e_si, e_si1, e_si2, e_si3, e_r1, e_r11, e_r2, e_r21, e_en, e_en1, e_lc, e_lc1, e_lc2, e_lc3, e_lcn1, e_lcn2, e_lcn3, e_lcn4, e_ye, e_wi0, e_wi1, e_re0, e_re1, e_no0, e_no1, e_ow1, e_ow2, e_df1, e_df2, e_df3, e_rs1, e_rs2, e_rs3, e_rs4, e_rs5, e_ou, e_ou1, e_ou2, e_mu, e_mu1, e_mu6, e_mu2, e_mu3, e_mu4, e_mu5, g_addI, g_addL, g_sub, g_lt, g_le, g_gt, g_ge, g_mod, g_div, g_mulL, g_eqI, g_neI, g_eqB, g_neB, g_eqS, g_ixL, g_ixR, g_ixT, g_ix1, g_lenL, g_lenR, g_lenT, g_intI, g_intB, g_min2, g_max2, g_app, g_slL, g_slT, g_neg, g_atI0, g_atI1, g_atIl, g_ixN0, g_ixN1, g_powM3, g_powM5, g_mulR, List.getElem?_cons_zero, List.getElem?_cons_succ, List.getD_cons_zero, List.getD_cons_succ, List.set_cons_zero, List.set_cons_succ, Bool.and_true, Bool.true_and, Bool.and_false, Bool.false_and, decide_true, decide_false, Bool.not_true, Bool.not_false, List.length_cons, List.length_nil, Nat.reduceAdd, Nat.reduceMul, Nat.reduceSub, Nat.reduceLT, Nat.reduceLeDiff, Nat.reduceEqDiff, Int.reduceAdd, Int.reduceMul, Int.reduceSub, Int.reduceNeg, Int.reduceLT, Int.reduceLE, Int.reduceMod, Int.reduceDiv, Int.reducePow, Int.reduceToNat, Bool.false_eq_true, if_true, if_false, gt_iff_lt, ge_iff_le, g_eqIs, g_neIs, g_eqBs, g_neBs, g_eqI0, g_neI0, g_neT0, g_inB, g_inN, h_ss, h_ss1, h_ssG, h_min, h_tup, h_lst, h_flT, h_flL, h_flB, h_flb, h_fli, h_fln, h_flN, h_flS, h_mapi, h_mapb, h_mapI, h_mapB, h_revI, h_eu, h_eu1, h_eu2, h_r3, h_r31, h_fd, h_fd1, h_fd2, h_fd3, h_fs, h_fs1, h_fs2, h_fs3, h_mk, h_mk1, h_mk2, h_me, h_me1, h_me2, h_me3, h_io, h_eo, h_no, h_eo1, g_eqTs, h_apd0, h_apd1, h_apo0, h_apo1, h_cn, h_cn1, h_cn2, h_pk0, h_pk1, h_pk2, h_nw, h_nw1, e_tu, e_tu1, e_af1, e_af2, e_af3, e_af4, e_wl1, e_wl2, e_lct, e_lct1, e_lct2, e_lct3, e_lct4, e_ni, e_ni1, e_lg1, e_lg2, e_lg3, e_lg4, e_lg5, e_ixw, e_ixw1, e_ixw2, e_ixw3, e_aow, e_aow1, e_aow2, e_aow3, e_zu, e_zu1, e_zu2, e_mulT, e_mxI, e_mnI, e_mxL, e_mnL, e_mxT, e_mnT, e_lgm, e_lgm1, e_lgm2, e_lgm3, e_tupT, e_lstT, e_lgc, e_lgc2, e_gd1, e_gd2, e_gpl, e_gpl1, e_gnx, e_gsq, e_gsq1, e_gyd, e_gyd1, e_gfr, e_gfr1, e_glp1, e_glpN, ends_some, Int.sub_zero, Int.add_zero, Int.zero_add, and_self, and_true, true_and, and_false, false_and, ne_eq, not_false_eq_true, not_true_eq_false, Bool.or_true, Bool.true_or, Bool.or_false, Bool.false_or, Option.some.injEq, reduceCtorEq, e1]
  · simp only [en_pieces_by, m_pieces_by, e_var, e_var1, e_var2, e_var3, e_dat, e_der1, e_der2, e_der3, e_sd1, e_sd2, e_sd3, e_op, e_op1, e_op2, e_op3, e_op4, e_un, e_un1, e_un2, e_sol, e_sol1, e_sol2, e_sol3, e_sol4, e_sol5, e_da, e_da1, e_na, e_ca, e_ca1, e_ca2, e_nd, e_cd, e_cd1, e_cd2, e_dn, e_dc, e_dc1, e_cb, e_cb1, e_cb2, e_ls, e_ls1, e_tp, e_tp1, e_np, e_ip, e_ip1, e_sl, e_sl1, e_sl2, e_sl3, e_rv, e_rv1, e_rv2, e_te, e_te1, e_at, e_at1, e_at2, e_ot, e_ot1, e_ot2, e_nt, e_nt1, e_ae, e_ae1, e_ae2, e_oe, e_oe1, e_oe2, e_ne, e_ne1, e_ie, e_ie1, e_ie2, e_ch, e_ch1, e_ch2, e_ch3, e_ch4, e_ch5, e_cl, e_cl1, e_cx, e_cx1, e_cx2, e_cx3, e_cx4, e_cx5, e_cz, e_cz1, e_cz2, e_cz3, e_cz4, e_ro1, e_ro2, e_pl1, e_pl2, e_pl3, e_pl4, e_ld0, e_ld1, e_ld2, e_ld3, e_ld4, e_ld5, e_pb0, e_pb1, e_pb2, e_pb3, e_sq, e_sq1, e_sq2, e_sq3, e_sq4, e_nx, e_rt, e_rt1, e_dp, e_dp1, e_is, e_is1, e_is2, e_as, e_as1, e_as2, e_as3, e_as4, e_st, e_st1, e_st2, e_st3, e_st4, e_st5, e_st6, e_up, e_up1, e_up2, e_pr, e_pr3, e_pr1, e_sa0, e_sa1, e_sa2, e_lt, e_lt1, e_ng, e_tg, e_gn, e_gc, e_gc1, e_fr, e_fr1, e_lp1, e_lp2, e_lp3, e_lp4, e_lp5, e_wh1, e_wh2, e_wh3, e_wh4, e_wh5, e_si, e_si1, e_si2, e_si3, e_r1, e_r11, e_r2, e_r21, e_en, e_en1, e_lc, e_lc1, e_lc2, e_lc3, e_lcn1, e_lcn2, e_lcn3, e_lcn4, e_ye, e_wi0, e_wi1, e_re0, e_re1, e_no0, e_no1, e_ow1, e_ow2, e_df1, e_df2, e_df3, e_rs1, e_rs2, e_rs3, e_rs4, e_rs5, e_ou, e_ou1, e_ou2, e_mu, e_mu1, e_mu6, e_mu2, e_mu3, e_mu4, e_mu5, g_addI, g_addL, g_sub, g_lt, g_le, g_gt, g_ge, g_mod, g_div, g_mulL, g_eqI, g_neI, g_eqB, g_neB, g_eqS, g_ixL, g_ixR, g_ixT, g_ix1, g_lenL, g_lenR, g_lenT, g_intI, g_intB, g_min2, g_max2, g_app, g_slL, g_slT, g_neg, g_atI0, g_atI1, g_atIl, g_ixN0, g_ixN1, g_powM3, g_powM5, g_mulR, List.getElem?_cons_zero, List.getElem?_cons_succ, List.getD_cons_zero, List.getD_cons_succ, List.set_cons_zero, List.set_cons_succ, Bool.and_true, Bool.true_and, Bool.and_false, Bool.false_and, decide_true, decide_false, Bool.not_true, Bool.not_false, List.length_cons, List.length_nil, Nat.reduceAdd, Nat.reduceMul, Nat.reduceSub, Nat.reduceLT, Nat.reduceLeDiff, Nat.reduceEqDiff, Int.reduceAdd, Int.reduceMul, Int.reduceSub, Int.reduceNeg, Int.reduceLT, Int.reduceLE, Int.reduceMod, Int.reduceDiv, Int.reducePow, Int.reduceToNat, Bool.false_eq_true, if_true, if_false, gt_iff_lt, ge_iff_le, g_eqIs, g_neIs, g_eqBs, g_neBs, g_eqI0, g_neI0, g_neT0, g_inB, g_inN, h_ss, h_ss1, h_ssG, h_min, h_tup, h_lst, h_flT, h_flL, h_flB, h_flb, h_fli, h_fln, h_flN, h_flS, h_mapi, h_mapb, h_mapI, h_mapB, h_revI, h_eu, h_eu1, h_eu2, h_r3, h_r31, h_fd, h_fd1, h_fd2, h_fd3, h_fs, h_fs1, h_fs2, h_fs3, h_mk, h_mk1, h_mk2, h_me, h_me1, h_me2, h_me3, h_io, h_eo, h_no, h_eo1, g_eqTs, h_apd0, h_apd1, h_apo0, h_apo1, h_cn, h_cn1, h_cn2, h_pk0, h_pk1, h_pk2, h_nw, h_nw1, e_tu, e_tu1, e_af1, e_af2, e_af3, e_af4, e_wl1, e_wl2, e_lct, e_lct1, e_lct2, e_lct3, e_lct4, e_ni, e_ni1, e_lg1, e_lg2, e_lg3, e_lg4, e_lg5, e_ixw, e_ixw1, e_ixw2, e_ixw3, e_aow, e_aow1, e_aow2, e_aow3, e_zu, e_zu1, e_zu2, e_mulT, e_mxI, e_mnI, e_mxL, e_mnL, e_mxT, e_mnT, e_lgm, e_lgm1, e_lgm2, e_lgm3, e_tupT, e_lstT, e_lgc, e_lgc2, e_gd1, e_gd2, e_gpl, e_gpl1, e_gnx, e_gsq, e_gsq1, e_gyd, e_gyd1, e_gfr, e_gfr1, e_glp1, e_glpN, ends_some, Int.sub_zero, Int.add_zero, Int.zero_add, and_self, and_true, true_and, and_false, false_and, ne_eq, not_false_eq_true, not_true_eq_false, Bool.or_true, Bool.true_or, Bool.or_false, Bool.false_or, Option.some.injEq, reduceCtorEq, e1, e3]
/-! ### Chain(..) -/
def chD (c : CA) (ns : List Int) : D := .ins c.Chain [Str.ofString "cuts", Str.ofString "counts"] [.tup (ns.map .int), .lst ((cnts ns).map .int)]
/-! rules that know chains -/
section
variable {c : CA} {ns ms : List Int} {δ : DV.Env} {F2 : FD} {o o1 : O} {d : D}
theorem ch_cuts : fd2 c.Chain (Str.ofString "cuts") δ (some (chD c ns)) = some (.dat (.tup (ns.map .int)), δ) := by
  unfold chD
  rw [h_fd2, lk2, h_fd3]
theorem ch_counts : fd2 c.Chain (Str.ofString "counts") δ (some (chD c ns)) = some (.dat (.lst ((cnts ns).map .int)), δ) := by
  unfold chD
  rw [h_fd2, lk3, h_fd3]
theorem ch_eq : eqOwnG c.Chain F2 (chD c ns) (chD c ms) = eo1 (F2 [chD c ns, chD c ms]) := h_eo
theorem ch_ne : neOwnG c.Chain F2 (chD c ns) (chD c ms) = no1 (F2 [chD c ns, chD c ms]) := h_nw
theorem ch_in : inOwnG c.Chain F2 d (chD c ns) = eo1 (F2 [chD c ns, d]) := h_no
theorem ch_ni : notInOwnG c.Chain F2 d (chD c ns) = no2 (F2 [chD c ns, d]) := e_ni
theorem ch_ix : ixw3 c.Chain F2 o1 o δ (some (chD c ns)) = callX none 2 F2 [o1, o] δ := e_ixw3
theorem ch_add : aow3 c.Chain F2 o1 o δ (some (chD c ns)) (some (chD c ms)) = callX none 2 F2 [o1, o] δ := e_aow3
theorem ch_is : isOwnG c.Chain [chD c ns, .con (.ref c.Chain)] = some (.dat (.bl true)) := h_io
theorem ch_ins {m : Str} (h : ([Str.ofString "cuts", Str.ofString "counts"] : List Str).contains m = false) : insB c.Chain m (chD c ns) = true := by
  show (decide (c.Chain = c.Chain) && !([Str.ofString "cuts", Str.ofString "counts"] : List Str).contains m) = true
  rw [decide_eq_true rfl, h]; rfl
theorem ch_m1 : insB c.Chain (Str.ofString "pieces") (chD c ns) = true := ch_ins (by decide +kernel)
theorem ch_m2 : insB c.Chain (Str.ofString "digits") (chD c ns) = true := ch_ins (by decide +kernel)
theorem ch_m3 : insB c.Chain (Str.ofString "stretch") (chD c ns) = true := ch_ins (by decide +kernel)
theorem ch_m4 : insB c.Chain (Str.ofString "parted") (chD c ns) = true := ch_ins (by decide +kernel)
end
theorem cnts_drop : ∀ (ns : List Int) (m : Nat), cnts (ns.drop m) = (cnts ns).drop m
  | ns, 0 => rfl
  | [], m + 1 => rfl
  | c :: ns, m + 1 => by rw [List.drop_succ_cons, cnts, List.drop_succ_cons]; exact cnts_drop ns m
theorem init_loop (c : CA) (v1 : Sl) (ns : List Int) (h : Fall ns) : ∀ (m : Nat) (v3 : Sl), m ≤ ns.length →
    ∃ w3, loopL (nameG 3) (b1_Chain_init c) (dl m) [.brw (.ins c.Chain [Str.ofString "cuts"] [.tup (ns.map .int)]), v1, .own (.lst ((cnts (ns.drop m)).map .int)), v3] = some (.nx [.brw (.ins c.Chain [Str.ofString "cuts"] [.tup (ns.map .int)]), v1, .own (.lst ((cnts ns).map .int)), w3])
  | 0, v3, _ => ⟨v3, rfl⟩
  | m + 1, v3, h1 => by
    have hl := fall_size h
    obtain ⟨b0, b1⟩ := fall_mem h ns[m] (List.getElem_mem _)
    have e := pieces_by_eq (ns.drop (m + 1)) (fall_drop (m + 1) h) ns[m] b0
    obtain ⟨w3, e2⟩ := init_loop c v1 ns h m (.val (.int (m : Int))) (by omega)
    refine ⟨w3, ?_⟩
    have cA : cutD (ns.map D.int) (some ((m : Int) + 1)) none = (ns.drop (m + 1)).map .int := cut_from D.int ns (m + 1) (by omega)
    have hg : L2.atI (ns.map D.int) (m : Int) = some (.int ns[m]) := atN (List.getElem?_eq_getElem (by omega))
    have c3 : 1 + ((cnts (ns.drop (m + 1))).map D.int).length ≤ 100000 := by rw [List.length_map, cnts_len, List.length_drop]; omega
    have e4 : pcs (ns.drop (m + 1)) ns[m] :: cnts (ns.drop (m + 1)) = cnts (ns.drop m) := by
      rw [List.drop_eq_getElem_cons (show m < ns.length by omega), cnts]
    show loopL _ _ (.int (m : Int) :: dl m) _ = _
    rw [e_lpc]
    simp only [b1_Chain_init, e_var, e_var1, e_var2, e_var3, e_dat, e_der1, e_der2, e_der3, e_sd1, e_sd2, e_sd3, e_op, e_op1, e_op2, e_op3, e_op4, e_un, e_un1, e_un2, e_sol, e_sol1, e_sol2, e_sol3, e_sol4, e_sol5, e_da, e_da1, e_na, e_ca, e_ca1, e_ca2, e_nd, e_cd, e_cd1, e_cd2, e_dn, e_dc, e_dc1, e_cb, e_cb1, e_cb2, e_ls, e_ls1, e_tp, e_tp1, e_np, e_ip, e_ip1, e_sl, e_sl1, e_sl2, e_sl3, e_rv, e_rv1, e_rv2, e_te, e_te1, e_at, e_at1, e_at2, e_ot, e_ot1, e_ot2, e_nt, e_nt1, e_ae, e_ae1, e_ae2, e_oe, e_oe1, e_oe2, e_ne, e_ne1, e_ie, e_ie1, e_ie2, e_ch, e_ch1, e_ch2, e_ch3, e_ch4, e_ch5, e_cl, e_cl1, e_cx, e_cx1, e_cx2, e_cx3, e_cx4, e_cx5, e_cz, e_cz1, e_cz2, e_cz3, e_cz4, e_ro1, e_ro2, e_pl1, e_pl2, e_pl3, e_pl4, e_ld0, e_ld1, e_ld2, e_ld3, e_ld4, e_ld5, e_pb0, e_pb1, e_pb2, e_pb3, e_sq, e_sq1, e_sq2, e_sq3, e_sq4, e_nx, e_rt, e_rt1, e_dp, e_dp1, e_is, e_is1, e_is2, e_as, e_as1, e_as2, e_as3, e_as4, e_st, e_st1, e_st2, e_st3, e_st4, e_st5, e_st6, e_up, e_up1, e_up2, e_pr, e_pr3, e_pr1, e_sa0, e_sa1, e_sa2, e_lt, e_lt1, e_ng, e_tg, e_gn, e_gc, e_gc1, e_fr, e_fr1, e_lp1, e_lp2, e_lp3, e_lp4, e_lp5, e_wh1, e_wh2, e_wh3, e_wh4, e_wh5, e_si, e_si1, e_si2, e_si3, e_r1, e_r11, e_r2, e_r21, e_en, e_en1, e_lc, e_lc1, e_lc2, e_lc3, e_lcn1, e_lcn2, e_lcn3, e_lcn4, e_ye, e_wi0, e_wi1, e_re0, e_re1, e_no0, e_no1, e_ow1, e_ow2, e_df1, e_df2, e_df3, e_rs1, e_rs2, e_rs3, e_rs4, e_rs5, e_ou, e_ou1, e_ou2, e_mu, e_mu1, e_mu6, e_mu2, e_mu3, e_mu4, e_mu5, g_addI, g_addL, g_sub, g_lt, g_le, g_gt, g_ge, g_mod, g_div, g_mulL, g_eqI, g_neI, g_eqB, g_neB, g_eqS, g_ixL, g_ixR, g_ixT, g_ix1, g_lenL, g_lenR, g_lenT, g_intI, g_intB, g_min2, g_max2, g_app, g_slL, g_slT, g_neg, g_atI0, g_atI1, g_atIl, g_ixN0, g_ixN1, g_powM3, g_powM5, g_mulR, List.getElem?_cons_zero, List.getElem?_cons_succ, List.getD_cons_zero, List.getD_cons_succ, List.set_cons_zero, List.set_cons_succ, Bool.and_true, Bool.true_and, Bool.and_false, Bool.false_and, decide_true, decide_false, Bool.not_true, Bool.not_false, List.length_cons, List.length_nil, Nat.reduceAdd, Nat.reduceMul, Nat.reduceSub, Nat.reduceLT, Nat.reduceLeDiff, Nat.reduceEqDiff, Int.reduceAdd, Int.reduceMul, Int.reduceSub, Int.reduceNeg, Int.reduceLT, Int.reduceLE, Int.reduceMod, Int.reduceDiv, Int.reducePow, Int.reduceToNat, Bool.false_eq_true, if_true, if_false, gt_iff_lt, ge_iff_le, g_eqIs, g_neIs, g_eqBs, g_neBs, g_eqI0, g_neI0, g_neT0, g_inB, g_inN, h_ss, h_ss1, h_ssG, h_min, h_tup, h_lst, h_flT, h_flL, h_flB, h_flb, h_fli, h_fln, h_flN, h_flS, h_mapi, h_mapb, h_mapI, h_mapB, h_revI, h_eu, h_eu1, h_eu2, h_r3, h_r31, h_fd, h_fd1, h_fd2, h_fd3, h_fs, h_fs1, h_fs2, h_fs3, h_mk, h_mk1, h_mk2, h_me, h_me1, h_me2, h_me3, h_io, h_eo, h_no, h_eo1, g_eqTs, h_apd0, h_apd1, h_apo0, h_apo1, h_cn, h_cn1, h_cn2, h_pk0, h_pk1, h_pk2, h_nw, h_nw1, e_tu, e_tu1, e_af1, e_af2, e_af3, e_af4, e_wl1, e_wl2, e_lct, e_lct1, e_lct2, e_lct3, e_lct4, e_ni, e_ni1, e_lg1, e_lg2, e_lg3, e_lg4, e_lg5, e_ixw, e_ixw1, e_ixw2, e_ixw3, e_aow, e_aow1, e_aow2, e_aow3, e_zu, e_zu1, e_zu2, e_mulT, e_mxI, e_mnI, e_mxL, e_mnL, e_mxT, e_mnT, e_lgm, e_lgm1, e_lgm2, e_lgm3, e_tupT, e_lstT, e_lgc, e_lgc2, e_gd1, e_gd2, e_gpl, e_gpl1, e_gnx, e_gsq, e_gsq1, e_gyd, e_gyd1, e_gfr, e_gfr1, e_glp1, e_glpN, ends_some, Int.sub_zero, Int.add_zero, Int.zero_add, and_self, and_true, true_and, and_false, false_and, ne_eq, not_false_eq_true, not_true_eq_false, Bool.or_true, Bool.true_or, Bool.or_false, Bool.false_or, Option.some.injEq, reduceCtorEq, lk1, cA, hg, e, c3, consI, e4, Nat.reduceLeDiff]
    rw [← e2]
    simp only [b1_Chain_init]
theorem init_eq (c : CA) (d : D) (ns : List Int) (hd : IsSq d ns) (h : Fall ns) : f_Chain_init c [.ins c.Chain [] [], d] = some (.dat .non, chD c ns) := by
  have hl := fall_size h
  have ef := falling_eq d ns hd h
  have et : tupOfG [d] = some (.dat (.tup (ns.map .int))) := by rcases hd with rfl | rfl <;> rfl
  obtain ⟨w3, e⟩ := init_loop c (.val d) ns h ns.length .un (Nat.le_refl _)
  rw [List.drop_length] at e
  simp only [cnts, List.map_nil] at e
  unfold chD
  have c1 : -100000 ≤ (((ns.map D.int).length : Nat) : Int) - 1 ∧ (((ns.map D.int).length : Nat) : Int) - 1 ≤ 100000 := by rw [List.length_map]; omega
  have c0 : (-100000 : Int) ≤ -1 ∧ (-1 : Int) ≤ 100000 := by decide
  have c2 : ((((ns.map D.int).length : Nat) : Int) - 1 - -1).toNat = ns.length := by rw [List.length_map]; omega
  have ed : downD ((((ns.map D.int).length : Nat) : Int) - 1) ns.length = dl ns.length := by rw [List.length_map]; exact down_dl _
  simp only [en_Chain_init, m_Chain_init, e_var, e_var1, e_var2, e_var3, e_dat, e_der1, e_der2, e_der3, e_sd1, e_sd2, e_sd3, e_op, e_op1, e_op2, e_op3, e_op4, e_un, e_un1, e_un2, e_sol, e_sol1, e_sol2, e_sol3, e_sol4, e_sol5, e_da, e_da1, e_na, e_ca, e_ca1, e_ca2, e_nd, e_cd, e_cd1, e_cd2, e_dn, e_dc, e_dc1, e_cb, e_cb1, e_cb2, e_ls, e_ls1, e_tp, e_tp1, e_np, e_ip, e_ip1, e_sl, e_sl1, e_sl2, e_sl3, e_rv, e_rv1, e_rv2, e_te, e_te1, e_at, e_at1, e_at2, e_ot, e_ot1, e_ot2, e_nt, e_nt1, e_ae, e_ae1, e_ae2, e_oe, e_oe1, e_oe2, e_ne, e_ne1, e_ie, e_ie1, e_ie2, e_ch, e_ch1, e_ch2, e_ch3, e_ch4, e_ch5, e_cl, e_cl1, e_cx, e_cx1, e_cx2, e_cx3, e_cx4, e_cx5, e_cz, e_cz1, e_cz2, e_cz3, e_cz4, e_ro1, e_ro2, e_pl1, e_pl2, e_pl3, e_pl4, e_ld0, e_ld1, e_ld2, e_ld3, e_ld4, e_ld5, e_pb0, e_pb1, e_pb2, e_pb3, e_sq, e_sq1, e_sq2, e_sq3, e_sq4, e_nx, e_rt, e_rt1, e_dp, e_dp1, e_is, e_is1, e_is2, e_as, e_as1, e_as2, e_as3, e_as4, e_st, e_st1, e_st2, e_st3, e_st4, e_st5, e_st6, e_up, e_up1, e_up2, e_pr, e_pr3, e_pr1, e_sa0, e_sa1, e_sa2, e_lt, e_lt1, e_ng, e_tg, e_gn, e_gc, e_gc1, e_fr, e_fr1, e_lp1, e_lp2, e_lp3, e_lp4, e_lp5, e_wh1, e_wh2, e_wh3, e_wh4, e_wh5, e_si, e_si1, e_si2, e_si3, e_r1, e_r11, e_r2, e_r21, e_en, e_en1, e_lc, e_lc1, e_lc2, e_lc3, e_lcn1, e_lcn2, e_lcn3, e_lcn4, e_ye, e_wi0, e_wi1, e_re0, e_re1, e_no0, e_no1, e_ow1, e_ow2, e_df1, e_df2, e_df3, e_rs1, e_rs2, e_rs3, e_rs4, e_rs5, e_ou, e_ou1, e_ou2, e_mu, e_mu1, e_mu6, e_mu2, e_mu3, e_mu4, e_mu5, g_addI, g_addL, g_sub, g_lt, g_le, g_gt, g_ge, g_mod, g_div, g_mulL, g_eqI, g_neI, g_eqB, g_neB, g_eqS, g_ixL, g_ixR, g_ixT, g_ix1, g_lenL, g_lenR, g_lenT, g_intI, g_intB, g_min2, g_max2, g_app, g_slL, g_slT, g_neg, g_atI0, g_atI1, g_atIl, g_ixN0, g_ixN1, g_powM3, g_powM5, g_mulR, List.getElem?_cons_zero, List.getElem?_cons_succ, List.getD_cons_zero, List.getD_cons_succ, List.set_cons_zero, List.set_cons_succ, Bool.and_true, Bool.true_and, Bool.and_false, Bool.false_and, decide_true, decide_false, Bool.not_true, Bool.not_false, List.length_cons, List.length_nil, Nat.reduceAdd, Nat.reduceMul, Nat.reduceSub, Nat.reduceLT, Nat.reduceLeDiff, Nat.reduceEqDiff, Int.reduceAdd, Int.reduceMul, Int.reduceSub, Int.reduceNeg, Int.reduceLT, Int.reduceLE, Int.reduceMod, Int.reduceDiv, Int.reducePow, Int.reduceToNat, Bool.false_eq_true, if_true, if_false, gt_iff_lt, ge_iff_le, g_eqIs, g_neIs, g_eqBs, g_neBs, g_eqI0, g_neI0, g_neT0, g_inB, g_inN, h_ss, h_ss1, h_ssG, h_min, h_tup, h_lst, h_flT, h_flL, h_flB, h_flb, h_fli, h_fln, h_flN, h_flS, h_mapi, h_mapb, h_mapI, h_mapB, h_revI, h_eu, h_eu1, h_eu2, h_r3, h_r31, h_fd, h_fd1, h_fd2, h_fd3, h_fs, h_fs1, h_fs2, h_fs3, h_mk, h_mk1, h_mk2, h_me, h_me1, h_me2, h_me3, h_io, h_eo, h_no, h_eo1, g_eqTs, h_apd0, h_apd1, h_apo0, h_apo1, h_cn, h_cn1, h_cn2, h_pk0, h_pk1, h_pk2, h_nw, h_nw1, e_tu, e_tu1, e_af1, e_af2, e_af3, e_af4, e_wl1, e_wl2, e_lct, e_lct1, e_lct2, e_lct3, e_lct4, e_ni, e_ni1, e_lg1, e_lg2, e_lg3, e_lg4, e_lg5, e_ixw, e_ixw1, e_ixw2, e_ixw3, e_aow, e_aow1, e_aow2, e_aow3, e_zu, e_zu1, e_zu2, e_mulT, e_mxI, e_mnI, e_mxL, e_mnL, e_mxT, e_mnT, e_lgm, e_lgm1, e_lgm2, e_lgm3, e_tupT, e_lstT, e_lgc, e_lgc2, e_gd1, e_gd2, e_gpl, e_gpl1, e_gnx, e_gsq, e_gsq1, e_gyd, e_gyd1, e_gfr, e_gfr1, e_glp1, e_glpN, ends_some, Int.sub_zero, Int.add_zero, Int.zero_add, and_self, and_true, true_and, and_false, false_and, ne_eq, not_false_eq_true, not_true_eq_false, Bool.or_true, Bool.true_or, Bool.or_false, Bool.false_or, Option.some.injEq, reduceCtorEq, ef, et, pk1, pk2, lk1, c1, c0, c2, and_self, ed, e, Nat.reduceLeDiff]
theorem init_eqL (c : CA) (ns : List Int) (h : Fall ns) : f_Chain_init c [.ins c.Chain [] [], .lst (ns.map .int)] = some (.dat .non, chD c ns) := init_eq c _ ns (.inl rfl) h
theorem init_eqT (c : CA) (ns : List Int) (h : Fall ns) : f_Chain_init c [.ins c.Chain [] [], .tup (ns.map .int)] = some (.dat .non, chD c ns) := init_eq c _ ns (.inr rfl) h
end PL

namespace PL
open PySem PySem.Spec PyProof.Rows L2 DV

/-! ### pieces, boundaries by number, stretches -/
def nPcs (ns : List Int) (b : Int) : Int := if b = 0 then 1 else pcs ns b
theorem pieces_eq (c : CA) (ns : List Int) (h : Fall ns) (b : Int) (hb : 0 ≤ b) : f_Chain_pieces c [chD c ns, .int b] = some (.dat (.int (nPcs ns b)), .non) := by
  unfold chD nPcs
  by_cases h0 : b = 0
  · simp only [en_Chain_pieces, m_Chain_pieces, e_var, e_var1, e_var2, e_var3, e_dat, e_der1, e_der2, e_der3, e_sd1, e_sd2, e_sd3, e_op, e_op1, e_op2, e_op3, e_op4, e_un, e_un1, e_un2, e_sol, e_sol1, e_sol2, e_sol3, e_sol4, e_sol5, e_da, e_da1, e_na, e_ca, e_ca1, e_ca2, e_nd, e_cd, e_cd1, e_cd2, e_dn, e_dc, e_dc1, e_cb, e_cb1, e_cb2, e_ls, e_ls1, e_tp, e_tp1, e_np, e_ip, e_ip1, e_sl, e_sl1, e_sl2, e_sl3, e_rv, e_rv1, e_rv2, e_te, e_te1, e_at, e_at1, e_at2, e_ot, e_ot1, e_ot2, e_nt, e_nt1, e_ae, e_ae1, e_ae2, e_oe, e_oe1, e_oe2, e_ne, e_ne1, e_ie, e_ie1, e_ie2, e_ch, e_ch1, e_ch2, e_ch3, e_ch4, e_ch5, e_cl, e_cl1, e_cx, e_cx1, e_cx2, e_cx3, e_cx4, e_cx5, e_cz, e_cz1, e_cz2, e_cz3, e_cz4, e_ro1, e_ro2, e_pl1, e_pl2, e_pl3, e_pl4, e_ld0, e_ld1, e_ld2, e_ld3, e_ld4, e_ld5, e_pb0, e_pb1, e_pb2, e_pb3, e_sq, e_sq1, e_sq2, e_sq3, e_sq4, e_nx, e_rt, e_rt1, e_dp, e_dp1, e_is, e_is1, e_is2, e_as, e_as1, e_as2, e_as3, e_as4, e_st, e_st1, e_st2, e_st3, e_st4, e_st5, e_st6, e_up, e_up1, e_up2, e_pr, e_pr3, e_pr1, e_sa0, e_sa1, e_sa2, e_lt, e_lt1, e_ng, e_tg, e_gn, e_gc, e_gc1, e_fr, e_fr1, e_lp1, e_lp2, e_lp3, e_lp4, e_lp5, e_wh1, e_wh2, e_wh3, e_wh4, e_wh5, e_si, e_si1, e_si2, e_si3, e_r1, e_r11, e_r2, e_r21, e_en, e_en1, e_lc, e_lc1, e_lc2, e_lc3, e_lcn1, e_lcn2, e_lcn3, e_lcn4, e_ye, e_wi0, e_wi1, e_re0, e_re1, e_no0, e_no1, e_ow1, e_ow2, e_df1, e_df2, e_df3, e_rs1, e_rs2, e_rs3, e_rs4, e_rs5, e_ou, e_ou1, e_ou2, e_mu, e_mu1, e_mu6, e_mu2, e_mu3, e_mu4, e_mu5, g_addI, g_addL, g_sub, g_lt, g_le, g_gt, g_ge, g_mod, g_div, g_mulL, g_eqI, g_neI, g_eqB, g_neB, g_eqS, g_ixL, g_ixR, g_ixT, g_ix1, g_lenL, g_lenR, g_lenT, g_intI, g_intB, g_min2, g_max2, g_app, g_slL, g_slT, g_neg, g_atI0, g_atI1, g_atIl, g_ixN0, g_ixN1, g_powM3, g_powM5, g_mulR, List.getElem?_cons_zero, List.getElem?_cons_succ, List.getD_cons_zero, List.getD_cons_succ, List.set_cons_zero, List.set_cons_succ, Bool.and_true, Bool.true_and, Bool.and_false, Bool.false_and, decide_true, decide_false, Bool.not_true, Bool.not_false, List.length_cons, List.length_nil, Nat.reduceAdd, Nat.reduceMul, Nat.reduceSub, Nat.reduceLT, Nat.reduceLeDiff, Nat.reduceEqDiff, Int.reduceAdd, Int.reduceMul, Int.reduceSub, Int.reduceNeg, Int.reduceLT, Int.reduceLE, Int.reduceMod, Int.reduceDiv, Int.reducePow, Int.reduceToNat, Bool.false_eq_true, if_true, if_false, gt_iff_lt, ge_iff_le, g_eqIs, g_neIs, g_eqBs, g_neBs, g_eqI0, g_neI0, g_neT0, g_inB, g_inN, h_ss, h_ss1, h_ssG, h_min, h_tup, h_lst, h_flT, h_flL, h_flB, h_flb, h_fli, h_fln, h_flN, h_flS, h_mapi, h_mapb, h_mapI, h_mapB, h_revI, h_eu, h_eu1, h_eu2, h_r3, h_r31, h_fd, h_fd1, h_fd2, h_fd3, h_fs, h_fs1, h_fs2, h_fs3, h_mk, h_mk1, h_mk2, h_me, h_me1, h_me2, h_me3, h_io, h_eo, h_no, h_eo1, g_eqTs, h_apd0, h_apd1, h_apo0, h_apo1, h_cn, h_cn1, h_cn2, h_pk0, h_pk1, h_pk2, h_nw, h_nw1, e_tu, e_tu1, e_af1, e_af2, e_af3, e_af4, e_wl1, e_wl2, e_lct, e_lct1, e_lct2, e_lct3, e_lct4, e_ni, e_ni1, e_lg1, e_lg2, e_lg3, e_lg4, e_lg5, e_ixw, e_ixw1, e_ixw2, e_ixw3, e_aow, e_aow1, e_aow2, e_aow3, e_zu, e_zu1, e_zu2, e_mulT, e_mxI, e_mnI, e_mxL, e_mnL, e_mxT, e_mnT, e_lgm, e_lgm1, e_lgm2, e_lgm3, e_tupT, e_lstT, e_lgc, e_lgc2, e_gd1, e_gd2, e_gpl, e_gpl1, e_gnx, e_gsq, e_gsq1, e_gyd, e_gyd1, e_gfr, e_gfr1, e_glp1, e_glpN, ends_some, Int.sub_zero, Int.add_zero, Int.zero_add, and_self, and_true, true_and, and_false, false_and, ne_eq, not_false_eq_true, not_true_eq_false, Bool.or_true, Bool.true_or, Bool.or_false, Bool.false_or, Option.some.injEq, reduceCtorEq, h0, if_true]
  · have e := pieces_by_eq ns h b (by omega)
    simp only [en_Chain_pieces, m_Chain_pieces, e_var, e_var1, e_var2, e_var3, e_dat, e_der1, e_der2, e_der3, e_sd1, e_sd2, e_sd3, e_op, e_op1, e_op2, e_op3, e_op4, e_un, e_un1, e_un2, e_sol, e_sol1, e_sol2, e_sol3, e_sol4, e_sol5, e_da, e_da1, e_na, e_ca, e_ca1, e_ca2, e_nd, e_cd, e_cd1, e_cd2, e_dn, e_dc, e_dc1, e_cb, e_cb1, e_cb2, e_ls, e_ls1, e_tp, e_tp1, e_np, e_ip, e_ip1, e_sl, e_sl1, e_sl2, e_sl3, e_rv, e_rv1, e_rv2, e_te, e_te1, e_at, e_at1, e_at2, e_ot, e_ot1, e_ot2, e_nt, e_nt1, e_ae, e_ae1, e_ae2, e_oe, e_oe1, e_oe2, e_ne, e_ne1, e_ie, e_ie1, e_ie2, e_ch, e_ch1, e_ch2, e_ch3, e_ch4, e_ch5, e_cl, e_cl1, e_cx, e_cx1, e_cx2, e_cx3, e_cx4, e_cx5, e_cz, e_cz1, e_cz2, e_cz3, e_cz4, e_ro1, e_ro2, e_pl1, e_pl2, e_pl3, e_pl4, e_ld0, e_ld1, e_ld2, e_ld3, e_ld4, e_ld5, e_pb0, e_pb1, e_pb2, e_pb3, e_sq, e_sq1, e_sq2, e_sq3, e_sq4, e_nx, e_rt, e_rt1, e_dp, e_dp1, e_is, e_is1, e_is2, e_as, e_as1, e_as2, e_as3, e_as4, e_st, e_st1, e_st2, e_st3, e_st4, e_st5, e_st6, e_up, e_up1, e_up2, e_pr, e_pr3, e_pr1, e_sa0, e_sa1, e_sa2, e_lt, e_lt1, e_ng, e_tg, e_gn, e_gc, e_gc1, e_fr, e_fr1, e_lp1, e_lp2, e_lp3, e_lp4, e_lp5, e_wh1, e_wh2, e_wh3, e_wh4, e_wh5, e_si, e_si1, e_si2, e_si3, e_r1, e_r11, e_r2, e_r21, e_en, e_en1, e_lc, e_lc1, e_lc2, e_lc3, e_lcn1, e_lcn2, e_lcn3, e_lcn4, e_ye, e_wi0, e_wi1, e_re0, e_re1, e_no0, e_no1, e_ow1, e_ow2, e_df1, e_df2, e_df3, e_rs1, e_rs2, e_rs3, e_rs4, e_rs5, e_ou, e_ou1, e_ou2, e_mu, e_mu1, e_mu6, e_mu2, e_mu3, e_mu4, e_mu5, g_addI, g_addL, g_sub, g_lt, g_le, g_gt, g_ge, g_mod, g_div, g_mulL, g_eqI, g_neI, g_eqB, g_neB, g_eqS, g_ixL, g_ixR, g_ixT, g_ix1, g_lenL, g_lenR, g_lenT, g_intI, g_intB, g_min2, g_max2, g_app, g_slL, g_slT, g_neg, g_atI0, g_atI1, g_atIl, g_ixN0, g_ixN1, g_powM3, g_powM5, g_mulR, List.getElem?_cons_zero, List.getElem?_cons_succ, List.getD_cons_zero, List.getD_cons_succ, List.set_cons_zero, List.set_cons_succ, Bool.and_true, Bool.true_and, Bool.and_false, Bool.false_and, decide_true, decide_false, Bool.not_true, Bool.not_false, List.length_cons, List.length_nil, Nat.reduceAdd, Nat.reduceMul, Nat.reduceSub, Nat.reduceLT, Nat.reduceLeDiff, Nat.reduceEqDiff, Int.reduceAdd, Int.reduceMul, Int.reduceSub, Int.reduceNeg, Int.reduceLT, Int.reduceLE, Int.reduceMod, Int.reduceDiv, Int.reducePow, Int.reduceToNat, Bool.false_eq_true, if_true, if_false, gt_iff_lt, ge_iff_le, g_eqIs, g_neIs, g_eqBs, g_neBs, g_eqI0, g_neI0, g_neT0, g_inB, g_inN, h_ss, h_ss1, h_ssG, h_min, h_tup, h_lst, h_flT, h_flL, h_flB, h_flb, h_fli, h_fln, h_flN, h_flS, h_mapi, h_mapb, h_mapI, h_mapB, h_revI, h_eu, h_eu1, h_eu2, h_r3, h_r31, h_fd, h_fd1, h_fd2, h_fd3, h_fs, h_fs1, h_fs2, h_fs3, h_mk, h_mk1, h_mk2, h_me, h_me1, h_me2, h_me3, h_io, h_eo, h_no, h_eo1, g_eqTs, h_apd0, h_apd1, h_apo0, h_apo1, h_cn, h_cn1, h_cn2, h_pk0, h_pk1, h_pk2, h_nw, h_nw1, e_tu, e_tu1, e_af1, e_af2, e_af3, e_af4, e_wl1, e_wl2, e_lct, e_lct1, e_lct2, e_lct3, e_lct4, e_ni, e_ni1, e_lg1, e_lg2, e_lg3, e_lg4, e_lg5, e_ixw, e_ixw1, e_ixw2, e_ixw3, e_aow, e_aow1, e_aow2, e_aow3, e_zu, e_zu1, e_zu2, e_mulT, e_mxI, e_mnI, e_mxL, e_mnL, e_mxT, e_mnT, e_lgm, e_lgm1, e_lgm2, e_lgm3, e_tupT, e_lstT, e_lgc, e_lgc2, e_gd1, e_gd2, e_gpl, e_gpl1, e_gnx, e_gsq, e_gsq1, e_gyd, e_gyd1, e_gfr, e_gfr1, e_glp1, e_glpN, ends_some, Int.sub_zero, Int.add_zero, Int.zero_add, and_self, and_true, true_and, and_false, false_and, ne_eq, not_false_eq_true, not_true_eq_false, Bool.or_true, Bool.true_or, Bool.or_false, Bool.false_or, Option.some.injEq, reduceCtorEq, h0, lk2, lk3, e, if_false]
theorem item_loop (c : CA) (v1 : Sl) (cs0 : List Int) (K : List Int) : ∀ (cs : List Int), Fall cs → ∀ (i : Nat) (f l : Int) (v4 v5 : Sl), (∀ j < cs.length, K[i + j]? = (cnts cs)[j]?) → 0 < l →
    ∃ fl, loopL (tupG 2 (consG (nameG 4) (consG (nameG 5) nilG))) (b1_Chain_getitem c) (enumD i (cs.map .int)) [.val (.ins c.Chain [Str.ofString "cuts", Str.ofString "counts"] [.tup (cs0.map .int), .lst (K.map .int)]), v1, .val (.int f), .val (.int l), v4, v5] = some fl ∧
      ((∃ δ, fl = .rt (.dat (.int (f + bnd cs l))) δ) ∨ ∃ l' w4 w5, fl = .nx [.val (.ins c.Chain [Str.ofString "cuts", Str.ofString "counts"] [.tup (cs0.map .int), .lst (K.map .int)]), v1, .val (.int (f + bnd cs l)), .val (.int l'), w4, w5])
  | [], _, i, f, l, v4, v5, _, _ => ⟨_, rfl, .inr ⟨l, v4, v5, by rw [bnd, Int.add_zero]⟩⟩
  | x :: cs, h, i, f, l, v4, v5, hK, hl => by
    have c0 := h.1.1
    obtain ⟨k1, k2⟩ := pcs_pos h.2.2.pos c0
    have hk : K[i]? = some (pcs cs x) := by
      have := hK 0 (by simp)
      rw [cnts] at this
      simpa using this
    generalize hkk : pcs cs x = k at k1 k2 hk
    have k3 : 0 < k := by omega
    have k4 : k < 18446744073709551616 := by have := h.1.2; omega
    have m0 := Int.emod_nonneg l (show k ≠ 0 by omega)
    have hmul : mulG (.int (l / k)) (.int x) = some (.dat (.int (l / k * x))) := g_mulI (.inr (smallOf (by omega) (by have := h.1.2; omega)))
    have ek := atN hk
    rw [List.map_cons]
    show ∃ fl, loopL _ _ (.tup [.int (i : Int), .int x] :: enumD (i + 1) (cs.map .int)) _ = some fl ∧ _
    rw [e_lpc, bnd, hkk]
    by_cases hz : l % k = 0
    · refine ⟨.rt (.dat (.int (f + l / k * x))) [.val (.ins c.Chain [Str.ofString "cuts", Str.ofString "counts"] [.tup (cs0.map .int), .lst (K.map .int)]), v1, .val (.int (f + l / k * x)), .val (.int 0), .val (.int (i : Int)), .val (.int x)], ?_, .inl ⟨[.val (.ins c.Chain [Str.ofString "cuts", Str.ofString "counts"] [.tup (cs0.map .int), .lst (K.map .int)]), v1, .val (.int (f + l / k * x)), .val (.int 0), .val (.int (i : Int)), .val (.int x)], ?_⟩⟩
      · simp only [b1_Chain_getitem, e_var, e_var1, e_var2, e_var3, e_dat, e_der1, e_der2, e_der3, e_sd1, e_sd2, e_sd3, e_op, e_op1, e_op2, e_op3, e_op4, e_un, e_un1, e_un2, e_sol, e_sol1, e_sol2, e_sol3, e_sol4, e_sol5, e_da, e_da1, e_na, e_ca, e_ca1, e_ca2, e_nd, e_cd, e_cd1, e_cd2, e_dn, e_dc, e_dc1, e_cb, e_cb1, e_cb2, e_ls, e_ls1, e_tp, e_tp1, e_np, e_ip, e_ip1, e_sl, e_sl1, e_sl2, e_sl3, e_rv, e_rv1, e_rv2, e_te, e_te1, e_at, e_at1, e_at2, e_ot, e_ot1, e_ot2, e_nt, e_nt1, e_ae, e_ae1, e_ae2, e_oe, e_oe1, e_oe2, e_ne, e_ne1, e_ie, e_ie1, e_ie2, e_ch, e_ch1, e_ch2, e_ch3, e_ch4, e_ch5, e_cl, e_cl1, e_cx, e_cx1, e_cx2, e_cx3, e_cx4, e_cx5, e_cz, e_cz1, e_cz2, e_cz3, e_cz4, e_ro1, e_ro2, e_pl1, e_pl2, e_pl3, e_pl4, e_ld0, e_ld1, e_ld2, e_ld3, e_ld4, e_ld5, e_pb0, e_pb1, e_pb2, e_pb3, e_sq, e_sq1, e_sq2, e_sq3, e_sq4, e_nx, e_rt, e_rt1, e_dp, e_dp1, e_is, e_is1, e_is2, e_as, e_as1, e_as2, e_as3, e_as4, e_st, e_st1, e_st2, e_st3, e_st4, e_st5, e_st6, e_up, e_up1, e_up2, e_pr, e_pr3, e_pr1, e_sa0, e_sa1, e_sa2, e_lt, e_lt1, e_ng, e_tg, e_gn, e_gc, e_gc1, e_fr, e_fr1, e_lp1, e_lp2, e_lp3, e_lp4, e_lp5, e_wh1, e_wh2, e_wh3, e_wh4, e_wh5, e_si, e_si1, e_si2, e_si3, e_r1, e_r11, e_r2, e_r21, e_en, e_en1, e_lc, e_lc1, e_lc2, e_lc3, e_lcn1, e_lcn2, e_lcn3, e_lcn4, e_ye, e_wi0, e_wi1, e_re0, e_re1, e_no0, e_no1, e_ow1, e_ow2, e_df1, e_df2, e_df3, e_rs1, e_rs2, e_rs3, e_rs4, e_rs5, e_ou, e_ou1, e_ou2, e_mu, e_mu1, e_mu6, e_mu2, e_mu3, e_mu4, e_mu5, g_addI, g_addL, g_sub, g_lt, g_le, g_gt, g_ge, g_mod, g_div, g_mulL, g_eqI, g_neI, g_eqB, g_neB, g_eqS, g_ixL, g_ixR, g_ixT, g_ix1, g_lenL, g_lenR, g_lenT, g_intI, g_intB, g_min2, g_max2, g_app, g_slL, g_slT, g_neg, g_atI0, g_atI1, g_atIl, g_ixN0, g_ixN1, g_powM3, g_powM5, g_mulR, List.getElem?_cons_zero, List.getElem?_cons_succ, List.getD_cons_zero, List.getD_cons_succ, List.set_cons_zero, List.set_cons_succ, Bool.and_true, Bool.true_and, Bool.and_false, Bool.false_and, decide_true, decide_false, Bool.not_true, Bool.not_false, List.length_cons, List.length_nil, Nat.reduceAdd, Nat.reduceMul, Nat.reduceSub, Nat.reduceLT, Nat.reduceLeDiff, Nat.reduceEqDiff, Int.reduceAdd, Int.reduceMul, Int.reduceSub, Int.reduceNeg, Int.reduceLT, Int.reduceLE, Int.reduceMod, Int.reduceDiv, Int.reducePow, Int.reduceToNat, Bool.false_eq_true, if_true, if_false, gt_iff_lt, ge_iff_le, g_eqIs, g_neIs, g_eqBs, g_neBs, g_eqI0, g_neI0, g_neT0, g_inB, g_inN, h_ss, h_ss1, h_ssG, h_min, h_tup, h_lst, h_flT, h_flL, h_flB, h_flb, h_fli, h_fln, h_flN, h_flS, h_mapi, h_mapb, h_mapI, h_mapB, h_revI, h_eu, h_eu1, h_eu2, h_r3, h_r31, h_fd, h_fd1, h_fd2, h_fd3, h_fs, h_fs1, h_fs2, h_fs3, h_mk, h_mk1, h_mk2, h_me, h_me1, h_me2, h_me3, h_io, h_eo, h_no, h_eo1, g_eqTs, h_apd0, h_apd1, h_apo0, h_apo1, h_cn, h_cn1, h_cn2, h_pk0, h_pk1, h_pk2, h_nw, h_nw1, e_tu, e_tu1, e_af1, e_af2, e_af3, e_af4, e_wl1, e_wl2, e_lct, e_lct1, e_lct2, e_lct3, e_lct4, e_ni, e_ni1, e_lg1, e_lg2, e_lg3, e_lg4, e_lg5, e_ixw, e_ixw1, e_ixw2, e_ixw3, e_aow, e_aow1, e_aow2, e_aow3, e_zu, e_zu1, e_zu2, e_mulT, e_mxI, e_mnI, e_mxL, e_mnL, e_mxT, e_mnT, e_lgm, e_lgm1, e_lgm2, e_lgm3, e_tupT, e_lstT, e_lgc, e_lgc2, e_gd1, e_gd2, e_gpl, e_gpl1, e_gnx, e_gsq, e_gsq1, e_gyd, e_gyd1, e_gfr, e_gfr1, e_glp1, e_glpN, ends_some, Int.sub_zero, Int.add_zero, Int.zero_add, and_self, and_true, true_and, and_false, false_and, ne_eq, not_false_eq_true, not_true_eq_false, Bool.or_true, Bool.true_or, Bool.or_false, Bool.false_or, Option.some.injEq, reduceCtorEq, lk3, k3, k4, ek, hmul, hz]
      · rw [if_pos hz, Int.add_zero]
    · obtain ⟨fl, e1, e2⟩ := item_loop c v1 cs0 K cs h.2.2 (i + 1) (f + l / k * x) (l % k) (.val (.int (i : Int))) (.val (.int x)) (fun j hj => by
        have := hK (j + 1) (by rw [List.length_cons]; omega)
        rw [cnts, List.getElem?_cons_succ] at this
        rw [← this]; congr 1; omega) (by omega)
      refine ⟨fl, ?_, ?_⟩
      · rw [← e1]
        simp only [b1_Chain_getitem, e_var, e_var1, e_var2, e_var3, e_dat, e_der1, e_der2, e_der3, e_sd1, e_sd2, e_sd3, e_op, e_op1, e_op2, e_op3, e_op4, e_un, e_un1, e_un2, e_sol, e_sol1, e_sol2, e_sol3, e_sol4, e_sol5, e_da, e_da1, e_na, e_ca, e_ca1, e_ca2, e_nd, e_cd, e_cd1, e_cd2, e_dn, e_dc, e_dc1, e_cb, e_cb1, e_cb2, e_ls, e_ls1, e_tp, e_tp1, e_np, e_ip, e_ip1, e_sl, e_sl1, e_sl2, e_sl3, e_rv, e_rv1, e_rv2, e_te, e_te1, e_at, e_at1, e_at2, e_ot, e_ot1, e_ot2, e_nt, e_nt1, e_ae, e_ae1, e_ae2, e_oe, e_oe1, e_oe2, e_ne, e_ne1, e_ie, e_ie1, e_ie2, e_ch, e_ch1, e_ch2, e_ch3, e_ch4, e_ch5, e_cl, e_cl1, e_cx, e_cx1, e_cx2, e_cx3, e_cx4, e_cx5, e_cz, e_cz1, e_cz2, e_cz3, e_cz4, e_ro1, e_ro2, e_pl1, e_pl2, e_pl3, e_pl4, e_ld0, e_ld1, e_ld2, e_ld3, e_ld4, e_ld5, e_pb0, e_pb1, e_pb2, e_pb3, e_sq, e_sq1, e_sq2, e_sq3, e_sq4, e_nx, e_rt, e_rt1, e_dp, e_dp1, e_is, e_is1, e_is2, e_as, e_as1, e_as2, e_as3, e_as4, e_st, e_st1, e_st2, e_st3, e_st4, e_st5, e_st6, e_up, e_up1, e_up2, e_pr, e_pr3, e_pr1, e_sa0, e_sa1, e_sa2, e_lt, e_lt1, e_ng, e_tg, e_gn, e_gc, e_gc1, e_fr, e_fr1, e_lp1, e_lp2, e_lp3, e_lp4, e_lp5, e_wh1, e_wh2, e_wh3, e_wh4, e_wh5, e_si, e_si1, e_si2, e_si3, e_r1, e_r11, e_r2, e_r21, e_en, e_en1, e_lc, e_lc1, e_lc2, e_lc3, e_lcn1, e_lcn2, e_lcn3, e_lcn4, e_ye, e_wi0, e_wi1, e_re0, e_re1, e_no0, e_no1, e_ow1, e_ow2, e_df1, e_df2, e_df3, e_rs1, e_rs2, e_rs3, e_rs4, e_rs5, e_ou, e_ou1, e_ou2, e_mu, e_mu1, e_mu6, e_mu2, e_mu3, e_mu4, e_mu5, g_addI, g_addL, g_sub, g_lt, g_le, g_gt, g_ge, g_mod, g_div, g_mulL, g_eqI, g_neI, g_eqB, g_neB, g_eqS, g_ixL, g_ixR, g_ixT, g_ix1, g_lenL, g_lenR, g_lenT, g_intI, g_intB, g_min2, g_max2, g_app, g_slL, g_slT, g_neg, g_atI0, g_atI1, g_atIl, g_ixN0, g_ixN1, g_powM3, g_powM5, g_mulR, List.getElem?_cons_zero, List.getElem?_cons_succ, List.getD_cons_zero, List.getD_cons_succ, List.set_cons_zero, List.set_cons_succ, Bool.and_true, Bool.true_and, Bool.and_false, Bool.false_and, decide_true, decide_false, Bool.not_true, Bool.not_false, List.length_cons, List.length_nil, Nat.reduceAdd, Nat.reduceMul, Nat.reduceSub, Nat.reduceLT, Nat.reduceLeDiff, Nat.reduceEqDiff, Int.reduceAdd, Int.reduceMul, Int.reduceSub, Int.reduceNeg, Int.reduceLT, Int.reduceLE, Int.reduceMod, Int.reduceDiv, Int.reducePow, Int.reduceToNat, Bool.false_eq_true, if_true, if_false, gt_iff_lt, ge_iff_le, g_eqIs, g_neIs, g_eqBs, g_neBs, g_eqI0, g_neI0, g_neT0, g_inB, g_inN, h_ss, h_ss1, h_ssG, h_min, h_tup, h_lst, h_flT, h_flL, h_flB, h_flb, h_fli, h_fln, h_flN, h_flS, h_mapi, h_mapb, h_mapI, h_mapB, h_revI, h_eu, h_eu1, h_eu2, h_r3, h_r31, h_fd, h_fd1, h_fd2, h_fd3, h_fs, h_fs1, h_fs2, h_fs3, h_mk, h_mk1, h_mk2, h_me, h_me1, h_me2, h_me3, h_io, h_eo, h_no, h_eo1, g_eqTs, h_apd0, h_apd1, h_apo0, h_apo1, h_cn, h_cn1, h_cn2, h_pk0, h_pk1, h_pk2, h_nw, h_nw1, e_tu, e_tu1, e_af1, e_af2, e_af3, e_af4, e_wl1, e_wl2, e_lct, e_lct1, e_lct2, e_lct3, e_lct4, e_ni, e_ni1, e_lg1, e_lg2, e_lg3, e_lg4, e_lg5, e_ixw, e_ixw1, e_ixw2, e_ixw3, e_aow, e_aow1, e_aow2, e_aow3, e_zu, e_zu1, e_zu2, e_mulT, e_mxI, e_mnI, e_mxL, e_mnL, e_mxT, e_mnT, e_lgm, e_lgm1, e_lgm2, e_lgm3, e_tupT, e_lstT, e_lgc, e_lgc2, e_gd1, e_gd2, e_gpl, e_gpl1, e_gnx, e_gsq, e_gsq1, e_gyd, e_gyd1, e_gfr, e_gfr1, e_glp1, e_glpN, ends_some, Int.sub_zero, Int.add_zero, Int.zero_add, and_self, and_true, true_and, and_false, false_and, ne_eq, not_false_eq_true, not_true_eq_false, Bool.or_true, Bool.true_or, Bool.or_false, Bool.false_or, Option.some.injEq, reduceCtorEq, lk3, k3, k4, ek, hmul, hz]
      · rw [if_neg hz, ← Int.add_assoc]
        exact e2
theorem number_from (x : Int) (h : 1 ≤ x) : f_is_number [.int x, .int 1, .int x] = some (.dat (.bl true), .non) := by
  rw [number_eq]; simp [h]
theorem item_eq (c : CA) (ns : List Int) (h : Fall ns) (ne : ns ≠ []) (n : Int) (hn : 1 ≤ n) : f_Chain_getitem c [chD c ns, .int n] = some (.dat (.int (bnd ns n)), .non) := by
  obtain ⟨fl, e1, e2⟩ := item_loop c (.val (.int n)) ns (cnts ns) ns h 0 0 n .un .un (fun j hj => by rw [Nat.zero_add]) (by omega)
  rw [Int.zero_add] at e2
  have en := number_from n hn
  unfold chD
  rcases e2 with ⟨δ, rfl⟩ | ⟨l', w4, w5, rfl⟩
  · simp only [en_Chain_getitem, m_Chain_getitem, e_var, e_var1, e_var2, e_var3, e_dat, e_der1, e_der2, e_der3, e_sd1, e_sd2, e_sd3, e_op, e_op1, e_op2, e_op3, e_op4, e_un, e_un1, e_un2, e_sol, e_sol1, e_sol2, e_sol3, e_sol4, e_sol5, e_da, e_da1, e_na, e_ca, e_ca1, e_ca2, e_nd, e_cd, e_cd1, e_cd2, e_dn, e_dc, e_dc1, e_cb, e_cb1, e_cb2, e_ls, e_ls1, e_tp, e_tp1, e_np, e_ip, e_ip1, e_sl, e_sl1, e_sl2, e_sl3, e_rv, e_rv1, e_rv2, e_te, e_te1, e_at, e_at1, e_at2, e_ot, e_ot1, e_ot2, e_nt, e_nt1, e_ae, e_ae1, e_ae2, e_oe, e_oe1, e_oe2, e_ne, e_ne1, e_ie, e_ie1, e_ie2, e_ch, e_ch1, e_ch2, e_ch3, e_ch4, e_ch5, e_cl, e_cl1, e_cx, e_cx1, e_cx2, e_cx3, e_cx4, e_cx5, e_cz, e_cz1, e_cz2, e_cz3, e_cz4, e_ro1, e_ro2, e_pl1, e_pl2, e_pl3, e_pl4, e_ld0, e_ld1, e_ld2, e_ld3, e_ld4, e_ld5, e_pb0, e_pb1, e_pb2, e_pb3, e_sq, e_sq1, e_sq2, e_sq3, e_sq4, e_nx, e_rt, e_rt1, e_dp, e_dp1, e_is, e_is1, e_is2, e_as, e_as1, e_as2, e_as3, e_as4, e_st, e_st1, e_st2, e_st3, e_st4, e_st5, e_st6, e_up, e_up1, e_up2, e_pr, e_pr3, e_pr1, e_sa0, e_sa1, e_sa2, e_lt, e_lt1, e_ng, e_tg, e_gn, e_gc, e_gc1, e_fr, e_fr1, e_lp1, e_lp2, e_lp3, e_lp4, e_lp5, e_wh1, e_wh2, e_wh3, e_wh4, e_wh5, e_si, e_si1, e_si2, e_si3, e_r1, e_r11, e_r2, e_r21, e_en, e_en1, e_lc, e_lc1, e_lc2, e_lc3, e_lcn1, e_lcn2, e_lcn3, e_lcn4, e_ye, e_wi0, e_wi1, e_re0, e_re1, e_no0, e_no1, e_ow1, e_ow2, e_df1, e_df2, e_df3, e_rs1, e_rs2, e_rs3, e_rs4, e_rs5, e_ou, e_ou1, e_ou2, e_mu, e_mu1, e_mu6, e_mu2, e_mu3, e_mu4, e_mu5, g_addI, g_addL, g_sub, g_lt, g_le, g_gt, g_ge, g_mod, g_div, g_mulL, g_eqI, g_neI, g_eqB, g_neB, g_eqS, g_ixL, g_ixR, g_ixT, g_ix1, g_lenL, g_lenR, g_lenT, g_intI, g_intB, g_min2, g_max2, g_app, g_slL, g_slT, g_neg, g_atI0, g_atI1, g_atIl, g_ixN0, g_ixN1, g_powM3, g_powM5, g_mulR, List.getElem?_cons_zero, List.getElem?_cons_succ, List.getD_cons_zero, List.getD_cons_succ, List.set_cons_zero, List.set_cons_succ, Bool.and_true, Bool.true_and, Bool.and_false, Bool.false_and, decide_true, decide_false, Bool.not_true, Bool.not_false, List.length_cons, List.length_nil, Nat.reduceAdd, Nat.reduceMul, Nat.reduceSub, Nat.reduceLT, Nat.reduceLeDiff, Nat.reduceEqDiff, Int.reduceAdd, Int.reduceMul, Int.reduceSub, Int.reduceNeg, Int.reduceLT, Int.reduceLE, Int.reduceMod, Int.reduceDiv, Int.reducePow, Int.reduceToNat, Bool.false_eq_true, if_true, if_false, gt_iff_lt, ge_iff_le, g_eqIs, g_neIs, g_eqBs, g_neBs, g_eqI0, g_neI0, g_neT0, g_inB, g_inN, h_ss, h_ss1, h_ssG, h_min, h_tup, h_lst, h_flT, h_flL, h_flB, h_flb, h_fli, h_fln, h_flN, h_flS, h_mapi, h_mapb, h_mapI, h_mapB, h_revI, h_eu, h_eu1, h_eu2, h_r3, h_r31, h_fd, h_fd1, h_fd2, h_fd3, h_fs, h_fs1, h_fs2, h_fs3, h_mk, h_mk1, h_mk2, h_me, h_me1, h_me2, h_me3, h_io, h_eo, h_no, h_eo1, g_eqTs, h_apd0, h_apd1, h_apo0, h_apo1, h_cn, h_cn1, h_cn2, h_pk0, h_pk1, h_pk2, h_nw, h_nw1, e_tu, e_tu1, e_af1, e_af2, e_af3, e_af4, e_wl1, e_wl2, e_lct, e_lct1, e_lct2, e_lct3, e_lct4, e_ni, e_ni1, e_lg1, e_lg2, e_lg3, e_lg4, e_lg5, e_ixw, e_ixw1, e_ixw2, e_ixw3, e_aow, e_aow1, e_aow2, e_aow3, e_zu, e_zu1, e_zu2, e_mulT, e_mxI, e_mnI, e_mxL, e_mnL, e_mxT, e_mnT, e_lgm, e_lgm1, e_lgm2, e_lgm3, e_tupT, e_lstT, e_lgc, e_lgc2, e_gd1, e_gd2, e_gpl, e_gpl1, e_gnx, e_gsq, e_gsq1, e_gyd, e_gyd1, e_gfr, e_gfr1, e_glp1, e_glpN, ends_some, Int.sub_zero, Int.add_zero, Int.zero_add, and_self, and_true, true_and, and_false, false_and, ne_eq, not_false_eq_true, not_true_eq_false, Bool.or_true, Bool.true_or, Bool.or_false, Bool.false_or, Option.some.injEq, reduceCtorEq, en, lk2, g_eqTs0, ne, e1, Nat.reduceLeDiff]
  · simp only [en_Chain_getitem, m_Chain_getitem, e_var, e_var1, e_var2, e_var3, e_dat, e_der1, e_der2, e_der3, e_sd1, e_sd2, e_sd3, e_op, e_op1, e_op2, e_op3, e_op4, e_un, e_un1, e_un2, e_sol, e_sol1, e_sol2, e_sol3, e_sol4, e_sol5, e_da, e_da1, e_na, e_ca, e_ca1, e_ca2, e_nd, e_cd, e_cd1, e_cd2, e_dn, e_dc, e_dc1, e_cb, e_cb1, e_cb2, e_ls, e_ls1, e_tp, e_tp1, e_np, e_ip, e_ip1, e_sl, e_sl1, e_sl2, e_sl3, e_rv, e_rv1, e_rv2, e_te, e_te1, e_at, e_at1, e_at2, e_ot, e_ot1, e_ot2, e_nt, e_nt1, e_ae, e_ae1, e_ae2, e_oe, e_oe1, e_oe2, e_ne, e_ne1, e_ie, e_ie1, e_ie2, e_ch, e_ch1, e_ch2, e_ch3, e_ch4, e_ch5, e_cl, e_cl1, e_cx, e_cx1, e_cx2, e_cx3, e_cx4, e_cx5, e_cz, e_cz1, e_cz2, e_cz3, e_cz4, e_ro1, e_ro2, e_pl1, e_pl2, e_pl3, e_pl4, e_ld0, e_ld1, e_ld2, e_ld3, e_ld4, e_ld5, e_pb0, e_pb1, e_pb2, e_pb3, e_sq, e_sq1, e_sq2, e_sq3, e_sq4, e_nx, e_rt, e_rt1, e_dp, e_dp1, e_is, e_is1, e_is2, e_as, e_as1, e_as2, e_as3, e_as4, e_st, e_st1, e_st2, e_st3, e_st4, e_st5, e_st6, e_up, e_up1, e_up2, e_pr, e_pr3, e_pr1, e_sa0, e_sa1, e_sa2, e_lt, e_lt1, e_ng, e_tg, e_gn, e_gc, e_gc1, e_fr, e_fr1, e_lp1, e_lp2, e_lp3, e_lp4, e_lp5, e_wh1, e_wh2, e_wh3, e_wh4, e_wh5, e_si, e_si1, e_si2, e_si3, e_r1, e_r11, e_r2, e_r21, e_en, e_en1, e_lc, e_lc1, e_lc2, e_lc3, e_lcn1, e_lcn2, e_lcn3, e_lcn4, e_ye, e_wi0, e_wi1, e_re0, e_re1, e_no0, e_no1, e_ow1, e_ow2, e_df1, e_df2, e_df3, e_rs1, e_rs2, e_rs3, e_rs4, e_rs5, e_ou, e_ou1, e_ou2, e_mu, e_mu1, e_mu6, e_mu2, e_mu3, e_mu4, e_mu5, g_addI, g_addL, g_sub, g_lt, g_le, g_gt, g_ge, g_mod, g_div, g_mulL, g_eqI, g_neI, g_eqB, g_neB, g_eqS, g_ixL, g_ixR, g_ixT, g_ix1, g_lenL, g_lenR, g_lenT, g_intI, g_intB, g_min2, g_max2, g_app, g_slL, g_slT, g_neg, g_atI0, g_atI1, g_atIl, g_ixN0, g_ixN1, g_powM3, g_powM5, g_mulR, List.getElem?_cons_zero, List.getElem?_cons_succ, List.getD_cons_zero, List.getD_cons_succ, List.set_cons_zero, List.set_cons_succ, Bool.and_true, Bool.true_and, Bool.and_false, Bool.false_and, decide_true, decide_false, Bool.not_true, Bool.not_false, List.length_cons, List.length_nil, Nat.reduceAdd, Nat.reduceMul, Nat.reduceSub, Nat.reduceLT, Nat.reduceLeDiff, Nat.reduceEqDiff, Int.reduceAdd, Int.reduceMul, Int.reduceSub, Int.reduceNeg, Int.reduceLT, Int.reduceLE, Int.reduceMod, Int.reduceDiv, Int.reducePow, Int.reduceToNat, Bool.false_eq_true, if_true, if_false, gt_iff_lt, ge_iff_le, g_eqIs, g_neIs, g_eqBs, g_neBs, g_eqI0, g_neI0, g_neT0, g_inB, g_inN, h_ss, h_ss1, h_ssG, h_min, h_tup, h_lst, h_flT, h_flL, h_flB, h_flb, h_fli, h_fln, h_flN, h_flS, h_mapi, h_mapb, h_mapI, h_mapB, h_revI, h_eu, h_eu1, h_eu2, h_r3, h_r31, h_fd, h_fd1, h_fd2, h_fd3, h_fs, h_fs1, h_fs2, h_fs3, h_mk, h_mk1, h_mk2, h_me, h_me1, h_me2, h_me3, h_io, h_eo, h_no, h_eo1, g_eqTs, h_apd0, h_apd1, h_apo0, h_apo1, h_cn, h_cn1, h_cn2, h_pk0, h_pk1, h_pk2, h_nw, h_nw1, e_tu, e_tu1, e_af1, e_af2, e_af3, e_af4, e_wl1, e_wl2, e_lct, e_lct1, e_lct2, e_lct3, e_lct4, e_ni, e_ni1, e_lg1, e_lg2, e_lg3, e_lg4, e_lg5, e_ixw, e_ixw1, e_ixw2, e_ixw3, e_aow, e_aow1, e_aow2, e_aow3, e_zu, e_zu1, e_zu2, e_mulT, e_mxI, e_mnI, e_mxL, e_mnL, e_mxT, e_mnT, e_lgm, e_lgm1, e_lgm2, e_lgm3, e_tupT, e_lstT, e_lgc, e_lgc2, e_gd1, e_gd2, e_gpl, e_gpl1, e_gnx, e_gsq, e_gsq1, e_gyd, e_gyd1, e_gfr, e_gfr1, e_glp1, e_glpN, ends_some, Int.sub_zero, Int.add_zero, Int.zero_add, and_self, and_true, true_and, and_false, false_and, ne_eq, not_false_eq_true, not_true_eq_false, Bool.or_true, Bool.true_or, Bool.or_false, Bool.false_or, Option.some.injEq, reduceCtorEq, en, lk2, g_eqTs0, ne, e1, Nat.reduceLeDiff]
/-- the stretch of a piece -/
def strch (ns : List Int) (b n : Int) : Int := (if n = nPcs ns b then b else bnd ns n) - (if 1 < n then bnd ns (n - 1) else 0)
theorem nPcs_one (b : Int) : nPcs [] b = 1 := by
  unfold nPcs pcs
  split <;> rfl
theorem nPcs_pos {ns : List Int} (h : Fall ns) {b : Int} (hb : 0 ≤ b) : 1 ≤ nPcs ns b := by
  unfold nPcs
  split
  · omega
  · exact (pcs_pos h.pos (by omega)).1
theorem stretch_eq (c : CA) (ns : List Int) (h : Fall ns) (b n : Int) (hb : 0 ≤ b) (h1 : 1 ≤ n) (h2 : n ≤ nPcs ns b) : f_Chain_stretch c [chD c ns, .int b, .int n] = some (.dat (.int (strch ns b n)), .non) := by
  have ep := pieces_eq c ns h b hb
  have en := number_eq n 1 (nPcs ns b)
  rw [decide_eq_true (show 1 ≤ n ∧ n ≤ nPcs ns b from ⟨h1, h2⟩)] at en
  have hi : insB c.Chain (Str.ofString "pieces") (chD c ns) = true := by
    show (decide (c.Chain = c.Chain) && !([Str.ofString "cuts", Str.ofString "counts"] : List Str).contains (Str.ofString "pieces")) = true
    rw [decide_eq_true rfl, show ([Str.ofString "cuts", Str.ofString "counts"] : List Str).contains (Str.ofString "pieces") = false by decide +kernel]
    rfl
  have i1 : ns ≠ [] → f_Chain_getitem c [chD c ns, .int n] = some (.dat (.int (bnd ns n)), .non) := fun ne => item_eq c ns h ne n h1
  have i2 : 1 < n → f_Chain_getitem c [chD c ns, .int (n - 1)] = some (.dat (.int (bnd ns (n - 1))), .non) := fun hn => item_eq c ns h (fun q => by rw [q, nPcs_one] at h2; omega) (n - 1) (by omega)
  have ne : n ≠ nPcs ns b → ns ≠ [] := fun q z => by rw [z, nPcs_one] at q h2; omega
  unfold strch
  unfold chD at ep i1 i2 hi ⊢
  by_cases hn : 1 < n
  · have i3 := i2 hn
    by_cases hq : n = nPcs ns b
    · rw [← hq] at ep en
      simp only [en_Chain_stretch, m_Chain_stretch, e_var, e_var1, e_var2, e_var3, e_dat, e_der1, e_der2, e_der3, e_sd1, e_sd2, e_sd3, e_op, e_op1, e_op2, e_op3, e_op4, e_un, e_un1, e_un2, e_sol, e_sol1, e_sol2, e_sol3, e_sol4, e_sol5, e_da, e_da1, e_na, e_ca, e_ca1, e_ca2, e_nd, e_cd, e_cd1, e_cd2, e_dn, e_dc, e_dc1, e_cb, e_cb1, e_cb2, e_ls, e_ls1, e_tp, e_tp1, e_np, e_ip, e_ip1, e_sl, e_sl1, e_sl2, e_sl3, e_rv, e_rv1, e_rv2, e_te, e_te1, e_at, e_at1, e_at2, e_ot, e_ot1, e_ot2, e_nt, e_nt1, e_ae, e_ae1, e_ae2, e_oe, e_oe1, e_oe2, e_ne, e_ne1, e_ie, e_ie1, e_ie2, e_ch, e_ch1, e_ch2, e_ch3, e_ch4, e_ch5, e_cl, e_cl1, e_cx, e_cx1, e_cx2, e_cx3, e_cx4, e_cx5, e_cz, e_cz1, e_cz2, e_cz3, e_cz4, e_ro1, e_ro2, e_pl1, e_pl2, e_pl3, e_pl4, e_ld0, e_ld1, e_ld2, e_ld3, e_ld4, e_ld5, e_pb0, e_pb1, e_pb2, e_pb3, e_sq, e_sq1, e_sq2, e_sq3, e_sq4, e_nx, e_rt, e_rt1, e_dp, e_dp1, e_is, e_is1, e_is2, e_as, e_as1, e_as2, e_as3, e_as4, e_st, e_st1, e_st2, e_st3, e_st4, e_st5, e_st6, e_up, e_up1, e_up2, e_pr, e_pr3, e_pr1, e_sa0, e_sa1, e_sa2, e_lt, e_lt1, e_ng, e_tg, e_gn, e_gc, e_gc1, e_fr, e_fr1, e_lp1, e_lp2, e_lp3, e_lp4, e_lp5, e_wh1, e_wh2, e_wh3, e_wh4, e_wh5, e_si, e_si1, e_si2, e_si3, e_r1, e_r11, e_r2, e_r21, e_en, e_en1, e_lc, e_lc1, e_lc2, e_lc3, e_lcn1, e_lcn2, e_lcn3, e_lcn4, e_ye, e_wi0, e_wi1, e_re0, e_re1, e_no0, e_no1, e_ow1, e_ow2, e_df1, e_df2, e_df3, e_rs1, e_rs2, e_rs3, e_rs4, e_rs5, e_ou, e_ou1, e_ou2, e_mu, e_mu1, e_mu6, e_mu2, e_mu3, e_mu4, e_mu5, g_addI, g_addL, g_sub, g_lt, g_le, g_gt, g_ge, g_mod, g_div, g_mulL, g_eqI, g_neI, g_eqB, g_neB, g_eqS, g_ixL, g_ixR, g_ixT, g_ix1, g_lenL, g_lenR, g_lenT, g_intI, g_intB, g_min2, g_max2, g_app, g_slL, g_slT, g_neg, g_atI0, g_atI1, g_atIl, g_ixN0, g_ixN1, g_powM3, g_powM5, g_mulR, List.getElem?_cons_zero, List.getElem?_cons_succ, List.getD_cons_zero, List.getD_cons_succ, List.set_cons_zero, List.set_cons_succ, Bool.and_true, Bool.true_and, Bool.and_false, Bool.false_and, decide_true, decide_false, Bool.not_true, Bool.not_false, List.length_cons, List.length_nil, Nat.reduceAdd, Nat.reduceMul, Nat.reduceSub, Nat.reduceLT, Nat.reduceLeDiff, Nat.reduceEqDiff, Int.reduceAdd, Int.reduceMul, Int.reduceSub, Int.reduceNeg, Int.reduceLT, Int.reduceLE, Int.reduceMod, Int.reduceDiv, Int.reducePow, Int.reduceToNat, Bool.false_eq_true, if_true, if_false, gt_iff_lt, ge_iff_le, g_eqIs, g_neIs, g_eqBs, g_neBs, g_eqI0, g_neI0, g_neT0, g_inB, g_inN, h_ss, h_ss1, h_ssG, h_min, h_tup, h_lst, h_flT, h_flL, h_flB, h_flb, h_fli, h_fln, h_flN, h_flS, h_mapi, h_mapb, h_mapI, h_mapB, h_revI, h_eu, h_eu1, h_eu2, h_r3, h_r31, h_fd, h_fd1, h_fd2, h_fd3, h_fs, h_fs1, h_fs2, h_fs3, h_mk, h_mk1, h_mk2, h_me, h_me1, h_me2, h_me3, h_io, h_eo, h_no, h_eo1, g_eqTs, h_apd0, h_apd1, h_apo0, h_apo1, h_cn, h_cn1, h_cn2, h_pk0, h_pk1, h_pk2, h_nw, h_nw1, e_tu, e_tu1, e_af1, e_af2, e_af3, e_af4, e_wl1, e_wl2, e_lct, e_lct1, e_lct2, e_lct3, e_lct4, e_ni, e_ni1, e_lg1, e_lg2, e_lg3, e_lg4, e_lg5, e_ixw, e_ixw1, e_ixw2, e_ixw3, e_aow, e_aow1, e_aow2, e_aow3, e_zu, e_zu1, e_zu2, e_mulT, e_mxI, e_mnI, e_mxL, e_mnL, e_mxT, e_mnT, e_lgm, e_lgm1, e_lgm2, e_lgm3, e_tupT, e_lstT, e_lgc, e_lgc2, e_gd1, e_gd2, e_gpl, e_gpl1, e_gnx, e_gsq, e_gsq1, e_gyd, e_gyd1, e_gfr, e_gfr1, e_glp1, e_glpN, ends_some, Int.sub_zero, Int.add_zero, Int.zero_add, and_self, and_true, true_and, and_false, false_and, ne_eq, not_false_eq_true, not_true_eq_false, Bool.or_true, Bool.true_or, Bool.or_false, Bool.false_or, Option.some.injEq, reduceCtorEq, hi, ep, en, hn, i3, ← hq, Nat.reduceLeDiff]
    · have i4 := i1 (ne hq)
      simp only [en_Chain_stretch, m_Chain_stretch, e_var, e_var1, e_var2, e_var3, e_dat, e_der1, e_der2, e_der3, e_sd1, e_sd2, e_sd3, e_op, e_op1, e_op2, e_op3, e_op4, e_un, e_un1, e_un2, e_sol, e_sol1, e_sol2, e_sol3, e_sol4, e_sol5, e_da, e_da1, e_na, e_ca, e_ca1, e_ca2, e_nd, e_cd, e_cd1, e_cd2, e_dn, e_dc, e_dc1, e_cb, e_cb1, e_cb2, e_ls, e_ls1, e_tp, e_tp1, e_np, e_ip, e_ip1, e_sl, e_sl1, e_sl2, e_sl3, e_rv, e_rv1, e_rv2, e_te, e_te1, e_at, e_at1, e_at2, e_ot, e_ot1, e_ot2, e_nt, e_nt1, e_ae, e_ae1, e_ae2, e_oe, e_oe1, e_oe2, e_ne, e_ne1, e_ie, e_ie1, e_ie2, e_ch, e_ch1, e_ch2, e_ch3, e_ch4, e_ch5, e_cl, e_cl1, e_cx, e_cx1, e_cx2, e_cx3, e_cx4, e_cx5, e_cz, e_cz1, e_cz2, e_cz3, e_cz4, e_ro1, e_ro2, e_pl1, e_pl2, e_pl3, e_pl4, e_ld0, e_ld1, e_ld2, e_ld3, e_ld4, e_ld5, e_pb0, e_pb1, e_pb2, e_pb3, e_sq, e_sq1, e_sq2, e_sq3, e_sq4, e_nx, e_rt, e_rt1, e_dp, e_dp1, e_is, e_is1, e_is2, e_as, e_as1, e_as2, e_as3, e_as4, e_st, e_st1, e_st2, e_st3, e_st4, e_st5, e_st6, e_up, e_up1, e_up2, e_pr, e_pr3, e_pr1, e_sa0, e_sa1, e_sa2, e_lt, e_lt1, e_ng, e_tg, e_gn, e_gc, e_gc1, e_fr, e_fr1, e_lp1, e_lp2, e_lp3, e_lp4, e_lp5, e_wh1, e_wh2, e_wh3, e_wh4, e_wh5, e_si, e_si1, e_si2, e_si3, e_r1, e_r11, e_r2, e_r21, e_en, e_en1, e_lc, e_lc1, e_lc2, e_lc3, e_lcn1, e_lcn2, e_lcn3, e_lcn4, e_ye, e_wi0, e_wi1, e_re0, e_re1, e_no0, e_no1, e_ow1, e_ow2, e_df1, e_df2, e_df3, e_rs1, e_rs2, e_rs3, e_rs4, e_rs5, e_ou, e_ou1, e_ou2, e_mu, e_mu1, e_mu6, e_mu2, e_mu3, e_mu4, e_mu5, g_addI, g_addL, g_sub, g_lt, g_le, g_gt, g_ge, g_mod, g_div, g_mulL, g_eqI, g_neI, g_eqB, g_neB, g_eqS, g_ixL, g_ixR, g_ixT, g_ix1, g_lenL, g_lenR, g_lenT, g_intI, g_intB, g_min2, g_max2, g_app, g_slL, g_slT, g_neg, g_atI0, g_atI1, g_atIl, g_ixN0, g_ixN1, g_powM3, g_powM5, g_mulR, List.getElem?_cons_zero, List.getElem?_cons_succ, List.getD_cons_zero, List.getD_cons_succ, List.set_cons_zero, List.set_cons_succ, Bool.and_true, Bool.true_and, Bool.and_false, Bool.false_and, decide_true, decide_false, Bool.not_true, Bool.not_false, List.length_cons, List.length_nil, Nat.reduceAdd, Nat.reduceMul, Nat.reduceSub, Nat.reduceLT, Nat.reduceLeDiff, Nat.reduceEqDiff, Int.reduceAdd, Int.reduceMul, Int.reduceSub, Int.reduceNeg, Int.reduceLT, Int.reduceLE, Int.reduceMod, Int.reduceDiv, Int.reducePow, Int.reduceToNat, Bool.false_eq_true, if_true, if_false, gt_iff_lt, ge_iff_le, g_eqIs, g_neIs, g_eqBs, g_neBs, g_eqI0, g_neI0, g_neT0, g_inB, g_inN, h_ss, h_ss1, h_ssG, h_min, h_tup, h_lst, h_flT, h_flL, h_flB, h_flb, h_fli, h_fln, h_flN, h_flS, h_mapi, h_mapb, h_mapI, h_mapB, h_revI, h_eu, h_eu1, h_eu2, h_r3, h_r31, h_fd, h_fd1, h_fd2, h_fd3, h_fs, h_fs1, h_fs2, h_fs3, h_mk, h_mk1, h_mk2, h_me, h_me1, h_me2, h_me3, h_io, h_eo, h_no, h_eo1, g_eqTs, h_apd0, h_apd1, h_apo0, h_apo1, h_cn, h_cn1, h_cn2, h_pk0, h_pk1, h_pk2, h_nw, h_nw1, e_tu, e_tu1, e_af1, e_af2, e_af3, e_af4, e_wl1, e_wl2, e_lct, e_lct1, e_lct2, e_lct3, e_lct4, e_ni, e_ni1, e_lg1, e_lg2, e_lg3, e_lg4, e_lg5, e_ixw, e_ixw1, e_ixw2, e_ixw3, e_aow, e_aow1, e_aow2, e_aow3, e_zu, e_zu1, e_zu2, e_mulT, e_mxI, e_mnI, e_mxL, e_mnL, e_mxT, e_mnT, e_lgm, e_lgm1, e_lgm2, e_lgm3, e_tupT, e_lstT, e_lgc, e_lgc2, e_gd1, e_gd2, e_gpl, e_gpl1, e_gnx, e_gsq, e_gsq1, e_gyd, e_gyd1, e_gfr, e_gfr1, e_glp1, e_glpN, ends_some, Int.sub_zero, Int.add_zero, Int.zero_add, and_self, and_true, true_and, and_false, false_and, ne_eq, not_false_eq_true, not_true_eq_false, Bool.or_true, Bool.true_or, Bool.or_false, Bool.false_or, Option.some.injEq, reduceCtorEq, hi, ep, en, hn, i3, i4, hq, Nat.reduceLeDiff]
  · by_cases hq : n = nPcs ns b
    · rw [← hq] at ep en
      simp only [en_Chain_stretch, m_Chain_stretch, e_var, e_var1, e_var2, e_var3, e_dat, e_der1, e_der2, e_der3, e_sd1, e_sd2, e_sd3, e_op, e_op1, e_op2, e_op3, e_op4, e_un, e_un1, e_un2, e_sol, e_sol1, e_sol2, e_sol3, e_sol4, e_sol5, e_da, e_da1, e_na, e_ca, e_ca1, e_ca2, e_nd, e_cd, e_cd1, e_cd2, e_dn, e_dc, e_dc1, e_cb, e_cb1, e_cb2, e_ls, e_ls1, e_tp, e_tp1, e_np, e_ip, e_ip1, e_sl, e_sl1, e_sl2, e_sl3, e_rv, e_rv1, e_rv2, e_te, e_te1, e_at, e_at1, e_at2, e_ot, e_ot1, e_ot2, e_nt, e_nt1, e_ae, e_ae1, e_ae2, e_oe, e_oe1, e_oe2, e_ne, e_ne1, e_ie, e_ie1, e_ie2, e_ch, e_ch1, e_ch2, e_ch3, e_ch4, e_ch5, e_cl, e_cl1, e_cx, e_cx1, e_cx2, e_cx3, e_cx4, e_cx5, e_cz, e_cz1, e_cz2, e_cz3, e_cz4, e_ro1, e_ro2, e_pl1, e_pl2, e_pl3, e_pl4, e_ld0, e_ld1, e_ld2, e_ld3, e_ld4, e_ld5, e_pb0, e_pb1, e_pb2, e_pb3, e_sq, e_sq1, e_sq2, e_sq3, e_sq4, e_nx, e_rt, e_rt1, e_dp, e_dp1, e_is, e_is1, e_is2, e_as, e_as1, e_as2, e_as3, e_as4, e_st, e_st1, e_st2, e_st3, e_st4, e_st5, e_st6, e_up, e_up1, e_up2, e_pr, e_pr3, e_pr1, e_sa0, e_sa1, e_sa2, e_lt, e_lt1, e_ng, e_tg, e_gn, e_gc, e_gc1, e_fr, e_fr1, e_lp1, e_lp2, e_lp3, e_lp4, e_lp5, e_wh1, e_wh2, e_wh3, e_wh4, e_wh5, e_si, e_si1, e_si2, e_si3, e_r1, e_r11, e_r2, e_r21, e_en, e_en1, e_lc, e_lc1, e_lc2, e_lc3, e_lcn1, e_lcn2, e_lcn3, e_lcn4, e_ye, e_wi0, e_wi1, e_re0, e_re1, e_no0, e_no1, e_ow1, e_ow2, e_df1, e_df2, e_df3, e_rs1, e_rs2, e_rs3, e_rs4, e_rs5, e_ou, e_ou1, e_ou2, e_mu, e_mu1, e_mu6, e_mu2, e_mu3, e_mu4, e_mu5, g_addI, g_addL, g_sub, g_lt, g_le, g_gt, g_ge, g_mod, g_div, g_mulL, g_eqI, g_neI, g_eqB, g_neB, g_eqS, g_ixL, g_ixR, g_ixT, g_ix1, g_lenL, g_lenR, g_lenT, g_intI, g_intB, g_min2, g_max2, g_app, g_slL, g_slT, g_neg, g_atI0, g_atI1, g_atIl, g_ixN0, g_ixN1, g_powM3, g_powM5, g_mulR, List.getElem?_cons_zero, List.getElem?_cons_succ, List.getD_cons_zero, List.getD_cons_succ, List.set_cons_zero, List.set_cons_succ, Bool.and_true, Bool.true_and, Bool.and_false, Bool.false_and, decide_true, decide_false, Bool.not_true, Bool.not_false, List.length_cons, List.length_nil, Nat.reduceAdd, Nat.reduceMul, Nat.reduceSub, Nat.reduceLT, Nat.reduceLeDiff, Nat.reduceEqDiff, Int.reduceAdd, Int.reduceMul, Int.reduceSub, Int.reduceNeg, Int.reduceLT, Int.reduceLE, Int.reduceMod, Int.reduceDiv, Int.reducePow, Int.reduceToNat, Bool.false_eq_true, if_true, if_false, gt_iff_lt, ge_iff_le, g_eqIs, g_neIs, g_eqBs, g_neBs, g_eqI0, g_neI0, g_neT0, g_inB, g_inN, h_ss, h_ss1, h_ssG, h_min, h_tup, h_lst, h_flT, h_flL, h_flB, h_flb, h_fli, h_fln, h_flN, h_flS, h_mapi, h_mapb, h_mapI, h_mapB, h_revI, h_eu, h_eu1, h_eu2, h_r3, h_r31, h_fd, h_fd1, h_fd2, h_fd3, h_fs, h_fs1, h_fs2, h_fs3, h_mk, h_mk1, h_mk2, h_me, h_me1, h_me2, h_me3, h_io, h_eo, h_no, h_eo1, g_eqTs, h_apd0, h_apd1, h_apo0, h_apo1, h_cn, h_cn1, h_cn2, h_pk0, h_pk1, h_pk2, h_nw, h_nw1, e_tu, e_tu1, e_af1, e_af2, e_af3, e_af4, e_wl1, e_wl2, e_lct, e_lct1, e_lct2, e_lct3, e_lct4, e_ni, e_ni1, e_lg1, e_lg2, e_lg3, e_lg4, e_lg5, e_ixw, e_ixw1, e_ixw2, e_ixw3, e_aow, e_aow1, e_aow2, e_aow3, e_zu, e_zu1, e_zu2, e_mulT, e_mxI, e_mnI, e_mxL, e_mnL, e_mxT, e_mnT, e_lgm, e_lgm1, e_lgm2, e_lgm3, e_tupT, e_lstT, e_lgc, e_lgc2, e_gd1, e_gd2, e_gpl, e_gpl1, e_gnx, e_gsq, e_gsq1, e_gyd, e_gyd1, e_gfr, e_gfr1, e_glp1, e_glpN, ends_some, Int.sub_zero, Int.add_zero, Int.zero_add, and_self, and_true, true_and, and_false, false_and, ne_eq, not_false_eq_true, not_true_eq_false, Bool.or_true, Bool.true_or, Bool.or_false, Bool.false_or, Option.some.injEq, reduceCtorEq, hi, ep, en, hn, ← hq, Nat.reduceLeDiff]
    · have i4 := i1 (ne hq)
      simp only [en_Chain_stretch, m_Chain_stretch, e_var, e_var1, e_var2, e_var3, e_dat, e_der1, e_der2, e_der3, e_sd1, e_sd2, e_sd3, e_op, e_op1, e_op2, e_op3, e_op4, e_un, e_un1, e_un2, e_sol, e_sol1, e_sol2, e_sol3, e_sol4, e_sol5, e_da, e_da1, e_na, e_ca, e_ca1, e_ca2, e_nd, e_cd, e_cd1, e_cd2, e_dn, e_dc, e_dc1, e_cb, e_cb1, e_cb2, e_ls, e_ls1, e_tp, e_tp1, e_np, e_ip, e_ip1, e_sl, e_sl1, e_sl2, e_sl3, e_rv, e_rv1, e_rv2, e_te, e_te1, e_at, e_at1, e_at2, e_ot, e_ot1, e_ot2, e_nt, e_nt1, e_ae, e_ae1, e_ae2, e_oe, e_oe1, e_oe2, e_ne, e_ne1, e_ie, e_ie1, e_ie2, e_ch, e_ch1, e_ch2, e_ch3, e_ch4, e_ch5, e_cl, e_cl1, e_cx, e_cx1, e_cx2, e_cx3, e_cx4, e_cx5, e_cz, e_cz1, e_cz2, e_cz3, e_cz4, e_ro1, e_ro2, e_pl1, e_pl2, e_pl3, e_pl4, e_ld0, e_ld1, e_ld2, e_ld3, e_ld4, e_ld5, e_pb0, e_pb1, e_pb2, e_pb3, e_sq, e_sq1, e_sq2, e_sq3, e_sq4, e_nx, e_rt, e_rt1, e_dp, e_dp1, e_is, e_is1, e_is2, e_as, e_as1, e_as2, e_as3, e_as4, e_st, e_st1, e_st2, e_st3, e_st4, e_st5, e_st6, e_up, e_up1, e_up2, e_pr, e_pr3, e_pr1, e_sa0, e_sa1, e_sa2, e_lt, e_lt1, e_ng, e_tg, e_gn, e_gc, e_gc1, e_fr, e_fr1, e_lp1, e_lp2, e_lp3, e_lp4, e_lp5, e_wh1, e_wh2, e_wh3, e_wh4, e_wh5, e_si, e_si1, e_si2, e_si3, e_r1, e_r11, e_r2, e_r21, e_en, e_en1, e_lc, e_lc1, e_lc2, e_lc3, e_lcn1, e_lcn2, e_lcn3, e_lcn4, e_ye, e_wi0, e_wi1, e_re0, e_re1, e_no0, e_no1, e_ow1, e_ow2, e_df1, e_df2, e_df3, e_rs1, e_rs2, e_rs3, e_rs4, e_rs5, e_ou, e_ou1, e_ou2, e_mu, e_mu1, e_mu6, e_mu2, e_mu3, e_mu4, e_mu5, g_addI, g_addL, g_sub, g_lt, g_le, g_gt, g_ge, g_mod, g_div, g_mulL, g_eqI, g_neI, g_eqB, g_neB, g_eqS, g_ixL, g_ixR, g_ixT, g_ix1, g_lenL, g_lenR, g_lenT, g_intI, g_intB, g_min2, g_max2, g_app, g_slL, g_slT, g_neg, g_atI0, g_atI1, g_atIl, g_ixN0, g_ixN1, g_powM3, g_powM5, g_mulR, List.getElem?_cons_zero, List.getElem?_cons_succ, List.getD_cons_zero, List.getD_cons_succ, List.set_cons_zero, List.set_cons_succ, Bool.and_true, Bool.true_and, Bool.and_false, Bool.false_and, decide_true, decide_false, Bool.not_true, Bool.not_false, List.length_cons, List.length_nil, Nat.reduceAdd, Nat.reduceMul, Nat.reduceSub, Nat.reduceLT, Nat.reduceLeDiff, Nat.reduceEqDiff, Int.reduceAdd, Int.reduceMul, Int.reduceSub, Int.reduceNeg, Int.reduceLT, Int.reduceLE, Int.reduceMod, Int.reduceDiv, Int.reducePow, Int.reduceToNat, Bool.false_eq_true, if_true, if_false, gt_iff_lt, ge_iff_le, g_eqIs, g_neIs, g_eqBs, g_neBs, g_eqI0, g_neI0, g_neT0, g_inB, g_inN, h_ss, h_ss1, h_ssG, h_min, h_tup, h_lst, h_flT, h_flL, h_flB, h_flb, h_fli, h_fln, h_flN, h_flS, h_mapi, h_mapb, h_mapI, h_mapB, h_revI, h_eu, h_eu1, h_eu2, h_r3, h_r31, h_fd, h_fd1, h_fd2, h_fd3, h_fs, h_fs1, h_fs2, h_fs3, h_mk, h_mk1, h_mk2, h_me, h_me1, h_me2, h_me3, h_io, h_eo, h_no, h_eo1, g_eqTs, h_apd0, h_apd1, h_apo0, h_apo1, h_cn, h_cn1, h_cn2, h_pk0, h_pk1, h_pk2, h_nw, h_nw1, e_tu, e_tu1, e_af1, e_af2, e_af3, e_af4, e_wl1, e_wl2, e_lct, e_lct1, e_lct2, e_lct3, e_lct4, e_ni, e_ni1, e_lg1, e_lg2, e_lg3, e_lg4, e_lg5, e_ixw, e_ixw1, e_ixw2, e_ixw3, e_aow, e_aow1, e_aow2, e_aow3, e_zu, e_zu1, e_zu2, e_mulT, e_mxI, e_mnI, e_mxL, e_mnL, e_mxT, e_mnT, e_lgm, e_lgm1, e_lgm2, e_lgm3, e_tupT, e_lstT, e_lgc, e_lgc2, e_gd1, e_gd2, e_gpl, e_gpl1, e_gnx, e_gsq, e_gsq1, e_gyd, e_gyd1, e_gfr, e_gfr1, e_glp1, e_glpN, ends_some, Int.sub_zero, Int.add_zero, Int.zero_add, and_self, and_true, true_and, and_false, false_and, ne_eq, not_false_eq_true, not_true_eq_false, Bool.or_true, Bool.true_or, Bool.or_false, Bool.false_or, Option.some.injEq, reduceCtorEq, hi, ep, en, hn, i4, hq, Nat.reduceLeDiff]
end PL

namespace PL
open PySem PySem.Spec PyProof.Rows L2 DV

/-! ### parted; chains that look like their cuts -/
def parts (ns : List Int) (b : Int) : List Int := (List.range' 1 (nPcs ns b).toNat).map fun k : Nat => strch ns b (k : Int)
theorem parted_loop (c : CA) (ns : List Int) (h : Fall ns) (b : Int) (hb : 0 ≤ b) : ∀ (ks : List Nat) (out : List Int) (v : Sl), (∀ k ∈ ks, 1 ≤ k ∧ (k : Int) ≤ nPcs ns b) → out.length + ks.length ≤ 90000 →
    ∃ w, gloopL (nameG 2) (b1_Chain_parted c) (ks.map fun k : Nat => D.int (k : Int)) (out.map .int) [.val (chD c ns), .val (.int b), v] = some (.nx [.val (chD c ns), .val (.int b), w], (out ++ ks.map fun k : Nat => strch ns b (k : Int)).map .int)
  | [], out, v, _, _ => ⟨v, by show some _ = some (_, (out ++ []).map _); rw [List.append_nil]⟩
  | k :: ks, out, v, hk, hl => by
    rw [List.length_cons] at hl
    obtain ⟨k1, k2⟩ := hk k (List.mem_cons_self ..)
    have e := stretch_eq c ns h b (k : Int) hb (by omega) k2
    obtain ⟨w, e2⟩ := parted_loop c ns h b hb ks (out ++ [strch ns b (k : Int)]) (.val (.int (k : Int))) (fun q hq => hk q (List.mem_cons_of_mem _ hq)) (by simp; omega)
    refine ⟨w, ?_⟩
    have hlen : (out.map D.int).length < 100000 := by rw [List.length_map]; omega
    rw [List.append_assoc, List.singleton_append] at e2
    rw [List.map_cons, List.map_cons, ← e2, e_glp]
    have eb : b1_Chain_parted c (out.map .int) [.val (chD c ns), .val (.int b), .val (.int (k : Int))] = some (.nx [.val (chD c ns), .val (.int b), .val (.int (k : Int))], (out ++ [strch ns b (k : Int)]).map .int) := by
      rw [List.map_append, List.map_cons, List.map_nil]
      generalize out.map D.int = z at hlen
      simp only [b1_Chain_parted, e_var, e_var1, e_var2, e_var3, e_dat, e_der1, e_der2, e_der3, e_sd1, e_sd2, e_sd3, e_op, e_op1, e_op2, e_op3, e_op4, e_un, e_un1, e_un2, e_sol, e_sol1, e_sol2, e_sol3, e_sol4, e_sol5, e_da, e_da1, e_na, e_ca, e_ca1, e_ca2, e_nd, e_cd, e_cd1, e_cd2, e_dn, e_dc, e_dc1, e_cb, e_cb1, e_cb2, e_ls, e_ls1, e_tp, e_tp1, e_np, e_ip, e_ip1, e_sl, e_sl1, e_sl2, e_sl3, e_rv, e_rv1, e_rv2, e_te, e_te1, e_at, e_at1, e_at2, e_ot, e_ot1, e_ot2, e_nt, e_nt1, e_ae, e_ae1, e_ae2, e_oe, e_oe1, e_oe2, e_ne, e_ne1, e_ie, e_ie1, e_ie2, e_ch, e_ch1, e_ch2, e_ch3, e_ch4, e_ch5, e_cl, e_cl1, e_cx, e_cx1, e_cx2, e_cx3, e_cx4, e_cx5, e_cz, e_cz1, e_cz2, e_cz3, e_cz4, e_ro1, e_ro2, e_pl1, e_pl2, e_pl3, e_pl4, e_ld0, e_ld1, e_ld2, e_ld3, e_ld4, e_ld5, e_pb0, e_pb1, e_pb2, e_pb3, e_sq, e_sq1, e_sq2, e_sq3, e_sq4, e_nx, e_rt, e_rt1, e_dp, e_dp1, e_is, e_is1, e_is2, e_as, e_as1, e_as2, e_as3, e_as4, e_st, e_st1, e_st2, e_st3, e_st4, e_st5, e_st6, e_up, e_up1, e_up2, e_pr, e_pr3, e_pr1, e_sa0, e_sa1, e_sa2, e_lt, e_lt1, e_ng, e_tg, e_gn, e_gc, e_gc1, e_fr, e_fr1, e_lp1, e_lp2, e_lp3, e_lp4, e_lp5, e_wh1, e_wh2, e_wh3, e_wh4, e_wh5, e_si, e_si1, e_si2, e_si3, e_r1, e_r11, e_r2, e_r21, e_en, e_en1, e_lc, e_lc1, e_lc2, e_lc3, e_lcn1, e_lcn2, e_lcn3, e_lcn4, e_ye, e_wi0, e_wi1, e_re0, e_re1, e_no0, e_no1, e_ow1, e_ow2, e_df1, e_df2, e_df3, e_rs1, e_rs2, e_rs3, e_rs4, e_rs5, e_ou, e_ou1, e_ou2, e_mu, e_mu1, e_mu6, e_mu2, e_mu3, e_mu4, e_mu5, g_addI, g_addL, g_sub, g_lt, g_le, g_gt, g_ge, g_mod, g_div, g_mulL, g_eqI, g_neI, g_eqB, g_neB, g_eqS, g_ixL, g_ixR, g_ixT, g_ix1, g_lenL, g_lenR, g_lenT, g_intI, g_intB, g_min2, g_max2, g_app, g_slL, g_slT, g_neg, g_atI0, g_atI1, g_atIl, g_ixN0, g_ixN1, g_powM3, g_powM5, g_mulR, List.getElem?_cons_zero, List.getElem?_cons_succ, List.getD_cons_zero, List.getD_cons_succ, List.set_cons_zero, List.set_cons_succ, Bool.and_true, Bool.true_and, Bool.and_false, Bool.false_and, decide_true, decide_false, Bool.not_true, Bool.not_false, List.length_cons, List.length_nil, Nat.reduceAdd, Nat.reduceMul, Nat.reduceSub, Nat.reduceLT, Nat.reduceLeDiff, Nat.reduceEqDiff, Int.reduceAdd, Int.reduceMul, Int.reduceSub, Int.reduceNeg, Int.reduceLT, Int.reduceLE, Int.reduceMod, Int.reduceDiv, Int.reducePow, Int.reduceToNat, Bool.false_eq_true, if_true, if_false, gt_iff_lt, ge_iff_le, g_eqIs, g_neIs, g_eqBs, g_neBs, g_eqI0, g_neI0, g_neT0, g_inB, g_inN, h_ss, h_ss1, h_ssG, h_min, h_tup, h_lst, h_flT, h_flL, h_flB, h_flb, h_fli, h_fln, h_flN, h_flS, h_mapi, h_mapb, h_mapI, h_mapB, h_revI, h_eu, h_eu1, h_eu2, h_r3, h_r31, h_fd, h_fd1, h_fd2, h_fd3, h_fs, h_fs1, h_fs2, h_fs3, h_mk, h_mk1, h_mk2, h_me, h_me1, h_me2, h_me3, h_io, h_eo, h_no, h_eo1, g_eqTs, h_apd0, h_apd1, h_apo0, h_apo1, h_cn, h_cn1, h_cn2, h_pk0, h_pk1, h_pk2, h_nw, h_nw1, e_tu, e_tu1, e_af1, e_af2, e_af3, e_af4, e_wl1, e_wl2, e_lct, e_lct1, e_lct2, e_lct3, e_lct4, e_ni, e_ni1, e_lg1, e_lg2, e_lg3, e_lg4, e_lg5, e_ixw, e_ixw1, e_ixw2, e_ixw3, e_aow, e_aow1, e_aow2, e_aow3, e_zu, e_zu1, e_zu2, e_mulT, e_mxI, e_mnI, e_mxL, e_mnL, e_mxT, e_mnT, e_lgm, e_lgm1, e_lgm2, e_lgm3, e_tupT, e_lstT, e_lgc, e_lgc2, e_gd1, e_gd2, e_gpl, e_gpl1, e_gnx, e_gsq, e_gsq1, e_gyd, e_gyd1, e_gfr, e_gfr1, e_glp1, e_glpN, ends_some, Int.sub_zero, Int.add_zero, Int.zero_add, and_self, and_true, true_and, and_false, false_and, ne_eq, not_false_eq_true, not_true_eq_false, Bool.or_true, Bool.true_or, Bool.or_false, Bool.false_or, Option.some.injEq, reduceCtorEq, ch_cuts, ch_counts, ch_eq, ch_ne, ch_in, ch_ni, ch_ix, ch_add, ch_is, ch_m1, ch_m2, ch_m3, ch_m4, e, hlen]
    rw [show (nameG 2 (.int (k : Int)) [.val (chD c ns), .val (.int b), v]) = some [.val (chD c ns), .val (.int b), .val (.int (k : Int))] from rfl, e_glp0, eb, e_glp1]
theorem nPcs_le {ns : List Int} (h : Fall ns) {b : Int} (hb : 0 ≤ b) : nPcs ns b ≤ b + 1 := by
  unfold nPcs
  split
  · omega
  · have := (pcs_pos h.pos (b := b) (by omega)).2; omega
theorem parted_eq (c : CA) (ns : List Int) (h : Fall ns) (b : Int) (hb : 0 ≤ b) (hp : nPcs ns b ≤ 80000) : f_Chain_parted c [chD c ns, .int b] = some ((parts ns b).map .int) := by
  have e := pieces_eq c ns h b hb
  have p1 := nPcs_pos h hb
  have hr : (nPcs ns b + 1 - 1).toNat = (nPcs ns b).toNat := by omega
  have z1 : -100000 ≤ nPcs ns b + 1 ∧ nPcs ns b + 1 ≤ 100000 := by omega
  have c0 : (-100000 : Int) ≤ 1 ∧ (1 : Int) ≤ 100000 := by decide
  obtain ⟨w, e2⟩ := parted_loop c ns h b hb (List.range' 1 (nPcs ns b).toNat) [] .un (fun k hk => by rw [List.mem_range'_1] at hk; omega) (by simp; omega)
  rw [← rangeN, List.map_nil, List.nil_append] at e2
  have e3 : rangeD 1 (nPcs ns b).toNat = rangeD ((1 : Nat) : Int) (nPcs ns b).toNat := rfl
  unfold parts
  simp only [en_Chain_parted, m_Chain_parted, e_var, e_var1, e_var2, e_var3, e_dat, e_der1, e_der2, e_der3, e_sd1, e_sd2, e_sd3, e_op, e_op1, e_op2, e_op3, e_op4, e_un, e_un1, e_un2, e_sol, e_sol1, e_sol2, e_sol3, e_sol4, e_sol5, e_da, e_da1, e_na, e_ca, e_ca1, e_ca2, e_nd, e_cd, e_cd1, e_cd2, e_dn, e_dc, e_dc1, e_cb, e_cb1, e_cb2, e_ls, e_ls1, e_tp, e_tp1, e_np, e_ip, e_ip1, e_sl, e_sl1, e_sl2, e_sl3, e_rv, e_rv1, e_rv2, e_te, e_te1, e_at, e_at1, e_at2, e_ot, e_ot1, e_ot2, e_nt, e_nt1, e_ae, e_ae1, e_ae2, e_oe, e_oe1, e_oe2, e_ne, e_ne1, e_ie, e_ie1, e_ie2, e_ch, e_ch1, e_ch2, e_ch3, e_ch4, e_ch5, e_cl, e_cl1, e_cx, e_cx1, e_cx2, e_cx3, e_cx4, e_cx5, e_cz, e_cz1, e_cz2, e_cz3, e_cz4, e_ro1, e_ro2, e_pl1, e_pl2, e_pl3, e_pl4, e_ld0, e_ld1, e_ld2, e_ld3, e_ld4, e_ld5, e_pb0, e_pb1, e_pb2, e_pb3, e_sq, e_sq1, e_sq2, e_sq3, e_sq4, e_nx, e_rt, e_rt1, e_dp, e_dp1, e_is, e_is1, e_is2, e_as, e_as1, e_as2, e_as3, e_as4, e_st, e_st1, e_st2, e_st3, e_st4, e_st5, e_st6, e_up, e_up1, e_up2, e_pr, e_pr3, e_pr1, e_sa0, e_sa1, e_sa2, e_lt, e_lt1, e_ng, e_tg, e_gn, e_gc, e_gc1, e_fr, e_fr1, e_lp1, e_lp2, e_lp3, e_lp4, e_lp5, e_wh1, e_wh2, e_wh3, e_wh4, e_wh5, e_si, e_si1, e_si2, e_si3, e_r1, e_r11, e_r2, e_r21, e_en, e_en1, e_lc, e_lc1, e_lc2, e_lc3, e_lcn1, e_lcn2, e_lcn3, e_lcn4, e_ye, e_wi0, e_wi1, e_re0, e_re1, e_no0, e_no1, e_ow1, e_ow2, e_df1, e_df2, e_df3, e_rs1, e_rs2, e_rs3, e_rs4, e_rs5, e_ou, e_ou1, e_ou2, e_mu, e_mu1, e_mu6, e_mu2, e_mu3, e_mu4, e_mu5, g_addI, g_addL, g_sub, g_lt, g_le, g_gt, g_ge, g_mod, g_div, g_mulL, g_eqI, g_neI, g_eqB, g_neB, g_eqS, g_ixL, g_ixR, g_ixT, g_ix1, g_lenL, g_lenR, g_lenT, g_intI, g_intB, g_min2, g_max2, g_app, g_slL, g_slT, g_neg, g_atI0, g_atI1, g_atIl, g_ixN0, g_ixN1, g_powM3, g_powM5, g_mulR, List.getElem?_cons_zero, List.getElem?_cons_succ, List.getD_cons_zero, List.getD_cons_succ, List.set_cons_zero, List.set_cons_succ, Bool.and_true, Bool.true_and, Bool.and_false, Bool.false_and, decide_true, decide_false, Bool.not_true, Bool.not_false, List.length_cons, List.length_nil, Nat.reduceAdd, Nat.reduceMul, Nat.reduceSub, Nat.reduceLT, Nat.reduceLeDiff, Nat.reduceEqDiff, Int.reduceAdd, Int.reduceMul, Int.reduceSub, Int.reduceNeg, Int.reduceLT, Int.reduceLE, Int.reduceMod, Int.reduceDiv, Int.reducePow, Int.reduceToNat, Bool.false_eq_true, if_true, if_false, gt_iff_lt, ge_iff_le, g_eqIs, g_neIs, g_eqBs, g_neBs, g_eqI0, g_neI0, g_neT0, g_inB, g_inN, h_ss, h_ss1, h_ssG, h_min, h_tup, h_lst, h_flT, h_flL, h_flB, h_flb, h_fli, h_fln, h_flN, h_flS, h_mapi, h_mapb, h_mapI, h_mapB, h_revI, h_eu, h_eu1, h_eu2, h_r3, h_r31, h_fd, h_fd1, h_fd2, h_fd3, h_fs, h_fs1, h_fs2, h_fs3, h_mk, h_mk1, h_mk2, h_me, h_me1, h_me2, h_me3, h_io, h_eo, h_no, h_eo1, g_eqTs, h_apd0, h_apd1, h_apo0, h_apo1, h_cn, h_cn1, h_cn2, h_pk0, h_pk1, h_pk2, h_nw, h_nw1, e_tu, e_tu1, e_af1, e_af2, e_af3, e_af4, e_wl1, e_wl2, e_lct, e_lct1, e_lct2, e_lct3, e_lct4, e_ni, e_ni1, e_lg1, e_lg2, e_lg3, e_lg4, e_lg5, e_ixw, e_ixw1, e_ixw2, e_ixw3, e_aow, e_aow1, e_aow2, e_aow3, e_zu, e_zu1, e_zu2, e_mulT, e_mxI, e_mnI, e_mxL, e_mnL, e_mxT, e_mnT, e_lgm, e_lgm1, e_lgm2, e_lgm3, e_tupT, e_lstT, e_lgc, e_lgc2, e_gd1, e_gd2, e_gpl, e_gpl1, e_gnx, e_gsq, e_gsq1, e_gyd, e_gyd1, e_gfr, e_gfr1, e_glp1, e_glpN, ends_some, Int.sub_zero, Int.add_zero, Int.zero_add, and_self, and_true, true_and, and_false, false_and, ne_eq, not_false_eq_true, not_true_eq_false, Bool.or_true, Bool.true_or, Bool.or_false, Bool.false_or, Option.some.injEq, reduceCtorEq, ch_cuts, ch_counts, ch_eq, ch_ne, ch_in, ch_ni, ch_ix, ch_add, ch_is, ch_m1, ch_m2, ch_m3, ch_m4, e, z1, c0, hr, e3, e2]
end PL

namespace PL
open PySem PySem.Spec PyProof.Rows L2 DV

theorem chain_eq (c : CA) (ns ms : List Int) : f_Chain_eq c [chD c ns, chD c ms] = some (.dat (.bl (decide (ns = ms))), .non) := by
  unfold chD
  simp only [en_Chain_eq, m_Chain_eq, e_var, e_var1, e_var2, e_var3, e_dat, e_der1, e_der2, e_der3, e_sd1, e_sd2, e_sd3, e_op, e_op1, e_op2, e_op3, e_op4, e_un, e_un1, e_un2, e_sol, e_sol1, e_sol2, e_sol3, e_sol4, e_sol5, e_da, e_da1, e_na, e_ca, e_ca1, e_ca2, e_nd, e_cd, e_cd1, e_cd2, e_dn, e_dc, e_dc1, e_cb, e_cb1, e_cb2, e_ls, e_ls1, e_tp, e_tp1, e_np, e_ip, e_ip1, e_sl, e_sl1, e_sl2, e_sl3, e_rv, e_rv1, e_rv2, e_te, e_te1, e_at, e_at1, e_at2, e_ot, e_ot1, e_ot2, e_nt, e_nt1, e_ae, e_ae1, e_ae2, e_oe, e_oe1, e_oe2, e_ne, e_ne1, e_ie, e_ie1, e_ie2, e_ch, e_ch1, e_ch2, e_ch3, e_ch4, e_ch5, e_cl, e_cl1, e_cx, e_cx1, e_cx2, e_cx3, e_cx4, e_cx5, e_cz, e_cz1, e_cz2, e_cz3, e_cz4, e_ro1, e_ro2, e_pl1, e_pl2, e_pl3, e_pl4, e_ld0, e_ld1, e_ld2, e_ld3, e_ld4, e_ld5, e_pb0, e_pb1, e_pb2, e_pb3, e_sq, e_sq1, e_sq2, e_sq3, e_sq4, e_nx, e_rt, e_rt1, e_dp, e_dp1, e_is, e_is1, e_is2, e_as, e_as1, e_as2, e_as3, e_as4, e_st, e_st1, e_st2, e_st3, e_st4, e_st5, e_st6, e_up, e_up1, e_up2, e_pr, e_pr3, e_pr1, e_sa0, e_sa1, e_sa2, e_lt, e_lt1, e_ng, e_tg, e_gn, e_gc, e_gc1, e_fr, e_fr1, e_lp1, e_lp2, e_lp3, e_lp4, e_lp5, e_wh1, e_wh2, e_wh3, e_wh4, e_wh5, e_si, e_si1, e_si2, e_si3, e_r1, e_r11, e_r2, e_r21, e_en, e_en1, e_lc, e_lc1, e_lc2, e_lc3, e_lcn1, e_lcn2, e_lcn3, e_lcn4, e_ye, e_wi0, e_wi1, e_re0, e_re1, e_no0, e_no1, e_ow1, e_ow2, e_df1, e_df2, e_df3, e_rs1, e_rs2, e_rs3, e_rs4, e_rs5, e_ou, e_ou1, e_ou2, e_mu, e_mu1, e_mu6, e_mu2, e_mu3, e_mu4, e_mu5, g_addI, g_addL, g_sub, g_lt, g_le, g_gt, g_ge, g_mod, g_div, g_mulL, g_eqI, g_neI, g_eqB, g_neB, g_eqS, g_ixL, g_ixR, g_ixT, g_ix1, g_lenL, g_lenR, g_lenT, g_intI, g_intB, g_min2, g_max2, g_app, g_slL, g_slT, g_neg, g_atI0, g_atI1, g_atIl, g_ixN0, g_ixN1, g_powM3, g_powM5, g_mulR, List.getElem?_cons_zero, List.getElem?_cons_succ, List.getD_cons_zero, List.getD_cons_succ, List.set_cons_zero, List.set_cons_succ, Bool.and_true, Bool.true_and, Bool.and_false, Bool.false_and, decide_true, decide_false, Bool.not_true, Bool.not_false, List.length_cons, List.length_nil, Nat.reduceAdd, Nat.reduceMul, Nat.reduceSub, Nat.reduceLT, Nat.reduceLeDiff, Nat.reduceEqDiff, Int.reduceAdd, Int.reduceMul, Int.reduceSub, Int.reduceNeg, Int.reduceLT, Int.reduceLE, Int.reduceMod, Int.reduceDiv, Int.reducePow, Int.reduceToNat, Bool.false_eq_true, if_true, if_false, gt_iff_lt, ge_iff_le, g_eqIs, g_neIs, g_eqBs, g_neBs, g_eqI0, g_neI0, g_neT0, g_inB, g_inN, h_ss, h_ss1, h_ssG, h_min, h_tup, h_lst, h_flT, h_flL, h_flB, h_flb, h_fli, h_fln, h_flN, h_flS, h_mapi, h_mapb, h_mapI, h_mapB, h_revI, h_eu, h_eu1, h_eu2, h_r3, h_r31, h_fd, h_fd1, h_fd2, h_fd3, h_fs, h_fs1, h_fs2, h_fs3, h_mk, h_mk1, h_mk2, h_me, h_me1, h_me2, h_me3, h_io, h_eo, h_no, h_eo1, g_eqTs, h_apd0, h_apd1, h_apo0, h_apo1, h_cn, h_cn1, h_cn2, h_pk0, h_pk1, h_pk2, h_nw, h_nw1, e_tu, e_tu1, e_af1, e_af2, e_af3, e_af4, e_wl1, e_wl2, e_lct, e_lct1, e_lct2, e_lct3, e_lct4, e_ni, e_ni1, e_lg1, e_lg2, e_lg3, e_lg4, e_lg5, e_ixw, e_ixw1, e_ixw2, e_ixw3, e_aow, e_aow1, e_aow2, e_aow3, e_zu, e_zu1, e_zu2, e_mulT, e_mxI, e_mnI, e_mxL, e_mnL, e_mxT, e_mnT, e_lgm, e_lgm1, e_lgm2, e_lgm3, e_tupT, e_lstT, e_lgc, e_lgc2, e_gd1, e_gd2, e_gpl, e_gpl1, e_gnx, e_gsq, e_gsq1, e_gyd, e_gyd1, e_gfr, e_gfr1, e_glp1, e_glpN, ends_some, Int.sub_zero, Int.add_zero, Int.zero_add, and_self, and_true, true_and, and_false, false_and, ne_eq, not_false_eq_true, not_true_eq_false, Bool.or_true, Bool.true_or, Bool.or_false, Bool.false_or, Option.some.injEq, reduceCtorEq, lk2]
end PL

namespace PL
open PySem PySem.Spec PyProof.Rows L2 DV

/-- the cuts of a sum -/
def addF (ns ms : List Int) : List Int := ns ++ ms.filter fun x => decide (ns = []) || decide (x < ns.getLastD 0)
theorem addF_fall {ns ms : List Int} (h : Fall ns) (g : Fall ms) : Fall (addF ns ms) := by
  have sub : ∀ (q : Int → Bool) (ms : List Int), Fall ms → Fall (ms.filter q) := by
    intro q ms
    induction ms with
    | nil => intro _; exact trivial
    | cons y r ih =>
      intro g
      rw [List.filter_cons]
      split
      · exact ⟨g.1, fun z hz => g.2.1 z (List.mem_filter.mp hz).1, ih g.2.2⟩
      · exact ih g.2.2
  unfold addF
  have hk := sub (fun x => decide (ns = []) || decide (x < ns.getLastD 0)) ms g
  have hall : ∀ y ∈ ms.filter (fun x => decide (ns = []) || decide (x < ns.getLastD 0)), ns ≠ [] → y < ns.getLastD 0 := fun y hy ne => by
    have := (List.mem_filter.mp hy).2
    simpa [ne] using this
  generalize ms.filter (fun x => decide (ns = []) || decide (x < ns.getLastD 0)) = ks at hk hall
  induction ns with
  | nil => exact hk
  | cons x r ih =>
    refine ⟨h.1, fun y hy => ?_, ?_⟩
    · rcases List.mem_append.mp hy with hy | hy
      · exact h.2.1 y hy
      · have h1 := hall y hy (by simp)
        by_cases hr : r = []
        · subst hr; simpa using h1
        · have e : (x :: r).getLastD 0 = r.getLast hr := by
            rw [List.getLastD_eq_getLast?, List.getLast?_eq_some_getLast (by simp), List.getLast_cons hr]; rfl
          have := h.2.1 _ (List.getLast_mem hr)
          omega
    · refine ih h.2.2 fun y hy hr => ?_
      have h1 := hall y hy (by simp)
      have e : (x :: r).getLastD 0 = r.getLastD 0 := by
        rw [List.getLastD_eq_getLast?, List.getLastD_eq_getLast?, List.getLast?_eq_some_getLast (by simp), List.getLast?_eq_some_getLast hr, List.getLast_cons hr]
      omega
theorem add_eq (c : CA) (ns ms : List Int) (h : Fall ns) (g : Fall ms) : f_Chain_add c [chD c ns, chD c ms] = some (.dat (chD c (addF ns ms)), .non) := by
  have l1 := fall_size h
  have l2 := fall_size g
  have ei := init_eqT c _ (addF_fall h g)
  have e1 : lcL (nameG 2) (y2_Chain_add c) x1_Chain_add [2] (ms.map .int) [] [.val (chD c ns), .val (chD c ms), .un] = some ((ms.filter fun x => decide (ns = []) || decide (x < ns.getLastD 0)).map .int, [.val (chD c ns), .val (chD c ms), .un]) := by
    rw [lc_pure D.int (fun x => if (decide (ns = []) || decide (x < ns.getLastD 0)) = true then some (.int x) else none) ms [] _ (by simp; omega) (fun x hx => ?_)]
    · rw [List.nil_append, fm_if]
    · unfold chD
      by_cases ne : ns = []
      · subst ne
        simp only [x1_Chain_add, y2_Chain_add, e_var, e_var1, e_var2, e_var3, e_dat, e_der1, e_der2, e_der3, e_sd1, e_sd2, e_sd3, e_op, e_op1, e_op2, e_op3, e_op4, e_un, e_un1, e_un2, e_sol, e_sol1, e_sol2, e_sol3, e_sol4, e_sol5, e_da, e_da1, e_na, e_ca, e_ca1, e_ca2, e_nd, e_cd, e_cd1, e_cd2, e_dn, e_dc, e_dc1, e_cb, e_cb1, e_cb2, e_ls, e_ls1, e_tp, e_tp1, e_np, e_ip, e_ip1, e_sl, e_sl1, e_sl2, e_sl3, e_rv, e_rv1, e_rv2, e_te, e_te1, e_at, e_at1, e_at2, e_ot, e_ot1, e_ot2, e_nt, e_nt1, e_ae, e_ae1, e_ae2, e_oe, e_oe1, e_oe2, e_ne, e_ne1, e_ie, e_ie1, e_ie2, e_ch, e_ch1, e_ch2, e_ch3, e_ch4, e_ch5, e_cl, e_cl1, e_cx, e_cx1, e_cx2, e_cx3, e_cx4, e_cx5, e_cz, e_cz1, e_cz2, e_cz3, e_cz4, e_ro1, e_ro2, e_pl1, e_pl2, e_pl3, e_pl4, e_ld0, e_ld1, e_ld2, e_ld3, e_ld4, e_ld5, e_pb0, e_pb1, e_pb2, e_pb3, e_sq, e_sq1, e_sq2, e_sq3, e_sq4, e_nx, e_rt, e_rt1, e_dp, e_dp1, e_is, e_is1, e_is2, e_as, e_as1, e_as2, e_as3, e_as4, e_st, e_st1, e_st2, e_st3, e_st4, e_st5, e_st6, e_up, e_up1, e_up2, e_pr, e_pr3, e_pr1, e_sa0, e_sa1, e_sa2, e_lt, e_lt1, e_ng, e_tg, e_gn, e_gc, e_gc1, e_fr, e_fr1, e_lp1, e_lp2, e_lp3, e_lp4, e_lp5, e_wh1, e_wh2, e_wh3, e_wh4, e_wh5, e_si, e_si1, e_si2, e_si3, e_r1, e_r11, e_r2, e_r21, e_en, e_en1, e_lc, e_lc1, e_lc2, e_lc3, e_lcn1, e_lcn2, e_lcn3, e_lcn4, e_ye, e_wi0, e_wi1, e_re0, e_re1, e_no0, e_no1, e_ow1, e_ow2, e_df1, e_df2, e_df3, e_rs1, e_rs2, e_rs3, e_rs4, e_rs5, e_ou, e_ou1, e_ou2, e_mu, e_mu1, e_mu6, e_mu2, e_mu3, e_mu4, e_mu5, g_addI, g_addL, g_sub, g_lt, g_le, g_gt, g_ge, g_mod, g_div, g_mulL, g_eqI, g_neI, g_eqB, g_neB, g_eqS, g_ixL, g_ixR, g_ixT, g_ix1, g_lenL, g_lenR, g_lenT, g_intI, g_intB, g_min2, g_max2, g_app, g_slL, g_slT, g_neg, g_atI0, g_atI1, g_atIl, g_ixN0, g_ixN1, g_powM3, g_powM5, g_mulR, List.getElem?_cons_zero, List.getElem?_cons_succ, List.getD_cons_zero, List.getD_cons_succ, List.set_cons_zero, List.set_cons_succ, Bool.and_true, Bool.true_and, Bool.and_false, Bool.false_and, decide_true, decide_false, Bool.not_true, Bool.not_false, List.length_cons, List.length_nil, Nat.reduceAdd, Nat.reduceMul, Nat.reduceSub, Nat.reduceLT, Nat.reduceLeDiff, Nat.reduceEqDiff, Int.reduceAdd, Int.reduceMul, Int.reduceSub, Int.reduceNeg, Int.reduceLT, Int.reduceLE, Int.reduceMod, Int.reduceDiv, Int.reducePow, Int.reduceToNat, Bool.false_eq_true, if_true, if_false, gt_iff_lt, ge_iff_le, g_eqIs, g_neIs, g_eqBs, g_neBs, g_eqI0, g_neI0, g_neT0, g_inB, g_inN, h_ss, h_ss1, h_ssG, h_min, h_tup, h_lst, h_flT, h_flL, h_flB, h_flb, h_fli, h_fln, h_flN, h_flS, h_mapi, h_mapb, h_mapI, h_mapB, h_revI, h_eu, h_eu1, h_eu2, h_r3, h_r31, h_fd, h_fd1, h_fd2, h_fd3, h_fs, h_fs1, h_fs2, h_fs3, h_mk, h_mk1, h_mk2, h_me, h_me1, h_me2, h_me3, h_io, h_eo, h_no, h_eo1, g_eqTs, h_apd0, h_apd1, h_apo0, h_apo1, h_cn, h_cn1, h_cn2, h_pk0, h_pk1, h_pk2, h_nw, h_nw1, e_tu, e_tu1, e_af1, e_af2, e_af3, e_af4, e_wl1, e_wl2, e_lct, e_lct1, e_lct2, e_lct3, e_lct4, e_ni, e_ni1, e_lg1, e_lg2, e_lg3, e_lg4, e_lg5, e_ixw, e_ixw1, e_ixw2, e_ixw3, e_aow, e_aow1, e_aow2, e_aow3, e_zu, e_zu1, e_zu2, e_mulT, e_mxI, e_mnI, e_mxL, e_mnL, e_mxT, e_mnT, e_lgm, e_lgm1, e_lgm2, e_lgm3, e_tupT, e_lstT, e_lgc, e_lgc2, e_gd1, e_gd2, e_gpl, e_gpl1, e_gnx, e_gsq, e_gsq1, e_gyd, e_gyd1, e_gfr, e_gfr1, e_glp1, e_glpN, ends_some, Int.sub_zero, Int.add_zero, Int.zero_add, and_self, and_true, true_and, and_false, false_and, ne_eq, not_false_eq_true, not_true_eq_false, Bool.or_true, Bool.true_or, Bool.or_false, Bool.false_or, Option.some.injEq, reduceCtorEq, lk2, List.map_nil, g_eqT00]
      · have hl : 0 < ns.length := List.length_pos_iff.mpr ne
        have hat : L2.atI (ns.map D.int) (-1) = some (.int (ns.getLastD 0)) := by
          rw [DV.atI_last (by rw [List.length_map]; exact hl), List.getLastD_eq_getLast?, List.getLast?_eq_getElem?, List.length_map, List.getElem?_map, List.getElem?_eq_getElem (show ns.length - 1 < ns.length by omega)]; rfl
        by_cases hx : x < ns.getLastD 0
        · simp only [x1_Chain_add, y2_Chain_add, e_var, e_var1, e_var2, e_var3, e_dat, e_der1, e_der2, e_der3, e_sd1, e_sd2, e_sd3, e_op, e_op1, e_op2, e_op3, e_op4, e_un, e_un1, e_un2, e_sol, e_sol1, e_sol2, e_sol3, e_sol4, e_sol5, e_da, e_da1, e_na, e_ca, e_ca1, e_ca2, e_nd, e_cd, e_cd1, e_cd2, e_dn, e_dc, e_dc1, e_cb, e_cb1, e_cb2, e_ls, e_ls1, e_tp, e_tp1, e_np, e_ip, e_ip1, e_sl, e_sl1, e_sl2, e_sl3, e_rv, e_rv1, e_rv2, e_te, e_te1, e_at, e_at1, e_at2, e_ot, e_ot1, e_ot2, e_nt, e_nt1, e_ae, e_ae1, e_ae2, e_oe, e_oe1, e_oe2, e_ne, e_ne1, e_ie, e_ie1, e_ie2, e_ch, e_ch1, e_ch2, e_ch3, e_ch4, e_ch5, e_cl, e_cl1, e_cx, e_cx1, e_cx2, e_cx3, e_cx4, e_cx5, e_cz, e_cz1, e_cz2, e_cz3, e_cz4, e_ro1, e_ro2, e_pl1, e_pl2, e_pl3, e_pl4, e_ld0, e_ld1, e_ld2, e_ld3, e_ld4, e_ld5, e_pb0, e_pb1, e_pb2, e_pb3, e_sq, e_sq1, e_sq2, e_sq3, e_sq4, e_nx, e_rt, e_rt1, e_dp, e_dp1, e_is, e_is1, e_is2, e_as, e_as1, e_as2, e_as3, e_as4, e_st, e_st1, e_st2, e_st3, e_st4, e_st5, e_st6, e_up, e_up1, e_up2, e_pr, e_pr3, e_pr1, e_sa0, e_sa1, e_sa2, e_lt, e_lt1, e_ng, e_tg, e_gn, e_gc, e_gc1, e_fr, e_fr1, e_lp1, e_lp2, e_lp3, e_lp4, e_lp5, e_wh1, e_wh2, e_wh3, e_wh4, e_wh5, e_si, e_si1, e_si2, e_si3, e_r1, e_r11, e_r2, e_r21, e_en, e_en1, e_lc, e_lc1, e_lc2, e_lc3, e_lcn1, e_lcn2, e_lcn3, e_lcn4, e_ye, e_wi0, e_wi1, e_re0, e_re1, e_no0, e_no1, e_ow1, e_ow2, e_df1, e_df2, e_df3, e_rs1, e_rs2, e_rs3, e_rs4, e_rs5, e_ou, e_ou1, e_ou2, e_mu, e_mu1, e_mu6, e_mu2, e_mu3, e_mu4, e_mu5, g_addI, g_addL, g_sub, g_lt, g_le, g_gt, g_ge, g_mod, g_div, g_mulL, g_eqI, g_neI, g_eqB, g_neB, g_eqS, g_ixL, g_ixR, g_ixT, g_ix1, g_lenL, g_lenR, g_lenT, g_intI, g_intB, g_min2, g_max2, g_app, g_slL, g_slT, g_neg, g_atI0, g_atI1, g_atIl, g_ixN0, g_ixN1, g_powM3, g_powM5, g_mulR, List.getElem?_cons_zero, List.getElem?_cons_succ, List.getD_cons_zero, List.getD_cons_succ, List.set_cons_zero, List.set_cons_succ, Bool.and_true, Bool.true_and, Bool.and_false, Bool.false_and, decide_true, decide_false, Bool.not_true, Bool.not_false, List.length_cons, List.length_nil, Nat.reduceAdd, Nat.reduceMul, Nat.reduceSub, Nat.reduceLT, Nat.reduceLeDiff, Nat.reduceEqDiff, Int.reduceAdd, Int.reduceMul, Int.reduceSub, Int.reduceNeg, Int.reduceLT, Int.reduceLE, Int.reduceMod, Int.reduceDiv, Int.reducePow, Int.reduceToNat, Bool.false_eq_true, if_true, if_false, gt_iff_lt, ge_iff_le, g_eqIs, g_neIs, g_eqBs, g_neBs, g_eqI0, g_neI0, g_neT0, g_inB, g_inN, h_ss, h_ss1, h_ssG, h_min, h_tup, h_lst, h_flT, h_flL, h_flB, h_flb, h_fli, h_fln, h_flN, h_flS, h_mapi, h_mapb, h_mapI, h_mapB, h_revI, h_eu, h_eu1, h_eu2, h_r3, h_r31, h_fd, h_fd1, h_fd2, h_fd3, h_fs, h_fs1, h_fs2, h_fs3, h_mk, h_mk1, h_mk2, h_me, h_me1, h_me2, h_me3, h_io, h_eo, h_no, h_eo1, g_eqTs, h_apd0, h_apd1, h_apo0, h_apo1, h_cn, h_cn1, h_cn2, h_pk0, h_pk1, h_pk2, h_nw, h_nw1, e_tu, e_tu1, e_af1, e_af2, e_af3, e_af4, e_wl1, e_wl2, e_lct, e_lct1, e_lct2, e_lct3, e_lct4, e_ni, e_ni1, e_lg1, e_lg2, e_lg3, e_lg4, e_lg5, e_ixw, e_ixw1, e_ixw2, e_ixw3, e_aow, e_aow1, e_aow2, e_aow3, e_zu, e_zu1, e_zu2, e_mulT, e_mxI, e_mnI, e_mxL, e_mnL, e_mxT, e_mnT, e_lgm, e_lgm1, e_lgm2, e_lgm3, e_tupT, e_lstT, e_lgc, e_lgc2, e_gd1, e_gd2, e_gpl, e_gpl1, e_gnx, e_gsq, e_gsq1, e_gyd, e_gyd1, e_gfr, e_gfr1, e_glp1, e_glpN, ends_some, Int.sub_zero, Int.add_zero, Int.zero_add, and_self, and_true, true_and, and_false, false_and, ne_eq, not_false_eq_true, not_true_eq_false, Bool.or_true, Bool.true_or, Bool.or_false, Bool.false_or, Option.some.injEq, reduceCtorEq, lk2, ne, hat, hx, g_eqTs0]
        · simp only [x1_Chain_add, y2_Chain_add, e_var, e_var1, e_var2, e_var3, e_dat, e_der1, e_der2, e_der3, e_sd1, e_sd2, e_sd3, e_op, e_op1, e_op2, e_op3, e_op4, e_un, e_un1, e_un2, e_sol, e_sol1, e_sol2, e_sol3, e_sol4, e_sol5, e_da, e_da1, e_na, e_ca, e_ca1, e_ca2, e_nd, e_cd, e_cd1, e_cd2, e_dn, e_dc, e_dc1, e_cb, e_cb1, e_cb2, e_ls, e_ls1, e_tp, e_tp1, e_np, e_ip, e_ip1, e_sl, e_sl1, e_sl2, e_sl3, e_rv, e_rv1, e_rv2, e_te, e_te1, e_at, e_at1, e_at2, e_ot, e_ot1, e_ot2, e_nt, e_nt1, e_ae, e_ae1, e_ae2, e_oe, e_oe1, e_oe2, e_ne, e_ne1, e_ie, e_ie1, e_ie2, e_ch, e_ch1, e_ch2, e_ch3, e_ch4, e_ch5, e_cl, e_cl1, e_cx, e_cx1, e_cx2, e_cx3, e_cx4, e_cx5, e_cz, e_cz1, e_cz2, e_cz3, e_cz4, e_ro1, e_ro2, e_pl1, e_pl2, e_pl3, e_pl4, e_ld0, e_ld1, e_ld2, e_ld3, e_ld4, e_ld5, e_pb0, e_pb1, e_pb2, e_pb3, e_sq, e_sq1, e_sq2, e_sq3, e_sq4, e_nx, e_rt, e_rt1, e_dp, e_dp1, e_is, e_is1, e_is2, e_as, e_as1, e_as2, e_as3, e_as4, e_st, e_st1, e_st2, e_st3, e_st4, e_st5, e_st6, e_up, e_up1, e_up2, e_pr, e_pr3, e_pr1, e_sa0, e_sa1, e_sa2, e_lt, e_lt1, e_ng, e_tg, e_gn, e_gc, e_gc1, e_fr, e_fr1, e_lp1, e_lp2, e_lp3, e_lp4, e_lp5, e_wh1, e_wh2, e_wh3, e_wh4, e_wh5, e_si, e_si1, e_si2, e_si3, e_r1, e_r11, e_r2, e_r21, e_en, e_en1, e_lc, e_lc1, e_lc2, e_lc3, e_lcn1, e_lcn2, e_lcn3, e_lcn4, e_ye, e_wi0, e_wi1, e_re0, e_re1, e_no0, e_no1, e_ow1, e_ow2, e_df1, e_df2, e_df3, e_rs1, e_rs2, e_rs3, e_rs4, e_rs5, e_ou, e_ou1, e_ou2, e_mu, e_mu1, e_mu6, e_mu2, e_mu3, e_mu4, e_mu5, g_addI, g_addL, g_sub, g_lt, g_le, g_gt, g_ge, g_mod, g_div, g_mulL, g_eqI, g_neI, g_eqB, g_neB, g_eqS, g_ixL, g_ixR, g_ixT, g_ix1, g_lenL, g_lenR, g_lenT, g_intI, g_intB, g_min2, g_max2, g_app, g_slL, g_slT, g_neg, g_atI0, g_atI1, g_atIl, g_ixN0, g_ixN1, g_powM3, g_powM5, g_mulR, List.getElem?_cons_zero, List.getElem?_cons_succ, List.getD_cons_zero, List.getD_cons_succ, List.set_cons_zero, List.set_cons_succ, Bool.and_true, Bool.true_and, Bool.and_false, Bool.false_and, decide_true, decide_false, Bool.not_true, Bool.not_false, List.length_cons, List.length_nil, Nat.reduceAdd, Nat.reduceMul, Nat.reduceSub, Nat.reduceLT, Nat.reduceLeDiff, Nat.reduceEqDiff, Int.reduceAdd, Int.reduceMul, Int.reduceSub, Int.reduceNeg, Int.reduceLT, Int.reduceLE, Int.reduceMod, Int.reduceDiv, Int.reducePow, Int.reduceToNat, Bool.false_eq_true, if_true, if_false, gt_iff_lt, ge_iff_le, g_eqIs, g_neIs, g_eqBs, g_neBs, g_eqI0, g_neI0, g_neT0, g_inB, g_inN, h_ss, h_ss1, h_ssG, h_min, h_tup, h_lst, h_flT, h_flL, h_flB, h_flb, h_fli, h_fln, h_flN, h_flS, h_mapi, h_mapb, h_mapI, h_mapB, h_revI, h_eu, h_eu1, h_eu2, h_r3, h_r31, h_fd, h_fd1, h_fd2, h_fd3, h_fs, h_fs1, h_fs2, h_fs3, h_mk, h_mk1, h_mk2, h_me, h_me1, h_me2, h_me3, h_io, h_eo, h_no, h_eo1, g_eqTs, h_apd0, h_apd1, h_apo0, h_apo1, h_cn, h_cn1, h_cn2, h_pk0, h_pk1, h_pk2, h_nw, h_nw1, e_tu, e_tu1, e_af1, e_af2, e_af3, e_af4, e_wl1, e_wl2, e_lct, e_lct1, e_lct2, e_lct3, e_lct4, e_ni, e_ni1, e_lg1, e_lg2, e_lg3, e_lg4, e_lg5, e_ixw, e_ixw1, e_ixw2, e_ixw3, e_aow, e_aow1, e_aow2, e_aow3, e_zu, e_zu1, e_zu2, e_mulT, e_mxI, e_mnI, e_mxL, e_mnL, e_mxT, e_mnT, e_lgm, e_lgm1, e_lgm2, e_lgm3, e_tupT, e_lstT, e_lgc, e_lgc2, e_gd1, e_gd2, e_gpl, e_gpl1, e_gnx, e_gsq, e_gsq1, e_gyd, e_gyd1, e_gfr, e_gfr1, e_glp1, e_glpN, ends_some, Int.sub_zero, Int.add_zero, Int.zero_add, and_self, and_true, true_and, and_false, false_and, ne_eq, not_false_eq_true, not_true_eq_false, Bool.or_true, Bool.true_or, Bool.or_false, Bool.false_or, Option.some.injEq, reduceCtorEq, lk2, ne, hat, hx, g_eqTs0]
  have hf := List.length_filter_le (fun x => decide (ns = []) || decide (x < ns.getLastD 0)) ms
  unfold addF at ei ⊢
  generalize ms.filter (fun x => decide (ns = []) || decide (x < ns.getLastD 0)) = ks at e1 ei hf ⊢
  have ea := addT (xs := ns) (ys := ks) (by omega)
  unfold chD at e1 ei ⊢
  simp only [en_Chain_add, m_Chain_add, e_var, e_var1, e_var2, e_var3, e_dat, e_der1, e_der2, e_der3, e_sd1, e_sd2, e_sd3, e_op, e_op1, e_op2, e_op3, e_op4, e_un, e_un1, e_un2, e_sol, e_sol1, e_sol2, e_sol3, e_sol4, e_sol5, e_da, e_da1, e_na, e_ca, e_ca1, e_ca2, e_nd, e_cd, e_cd1, e_cd2, e_dn, e_dc, e_dc1, e_cb, e_cb1, e_cb2, e_ls, e_ls1, e_tp, e_tp1, e_np, e_ip, e_ip1, e_sl, e_sl1, e_sl2, e_sl3, e_rv, e_rv1, e_rv2, e_te, e_te1, e_at, e_at1, e_at2, e_ot, e_ot1, e_ot2, e_nt, e_nt1, e_ae, e_ae1, e_ae2, e_oe, e_oe1, e_oe2, e_ne, e_ne1, e_ie, e_ie1, e_ie2, e_ch, e_ch1, e_ch2, e_ch3, e_ch4, e_ch5, e_cl, e_cl1, e_cx, e_cx1, e_cx2, e_cx3, e_cx4, e_cx5, e_cz, e_cz1, e_cz2, e_cz3, e_cz4, e_ro1, e_ro2, e_pl1, e_pl2, e_pl3, e_pl4, e_ld0, e_ld1, e_ld2, e_ld3, e_ld4, e_ld5, e_pb0, e_pb1, e_pb2, e_pb3, e_sq, e_sq1, e_sq2, e_sq3, e_sq4, e_nx, e_rt, e_rt1, e_dp, e_dp1, e_is, e_is1, e_is2, e_as, e_as1, e_as2, e_as3, e_as4, e_st, e_st1, e_st2, e_st3, e_st4, e_st5, e_st6, e_up, e_up1, e_up2, e_pr, e_pr3, e_pr1, e_sa0, e_sa1, e_sa2, e_lt, e_lt1, e_ng, e_tg, e_gn, e_gc, e_gc1, e_fr, e_fr1, e_lp1, e_lp2, e_lp3, e_lp4, e_lp5, e_wh1, e_wh2, e_wh3, e_wh4, e_wh5, e_si, e_si1, e_si2, e_si3, e_r1, e_r11, e_r2, e_r21, e_en, e_en1, e_lc, e_lc1, e_lc2, e_lc3, e_lcn1, e_lcn2, e_lcn3, e_lcn4, e_ye, e_wi0, e_wi1, e_re0, e_re1, e_no0, e_no1, e_ow1, e_ow2, e_df1, e_df2, e_df3, e_rs1, e_rs2, e_rs3, e_rs4, e_rs5, e_ou, e_ou1, e_ou2, e_mu, e_mu1, e_mu6, e_mu2, e_mu3, e_mu4, e_mu5, g_addI, g_addL, g_sub, g_lt, g_le, g_gt, g_ge, g_mod, g_div, g_mulL, g_eqI, g_neI, g_eqB, g_neB, g_eqS, g_ixL, g_ixR, g_ixT, g_ix1, g_lenL, g_lenR, g_lenT, g_intI, g_intB, g_min2, g_max2, g_app, g_slL, g_slT, g_neg, g_atI0, g_atI1, g_atIl, g_ixN0, g_ixN1, g_powM3, g_powM5, g_mulR, List.getElem?_cons_zero, List.getElem?_cons_succ, List.getD_cons_zero, List.getD_cons_succ, List.set_cons_zero, List.set_cons_succ, Bool.and_true, Bool.true_and, Bool.and_false, Bool.false_and, decide_true, decide_false, Bool.not_true, Bool.not_false, List.length_cons, List.length_nil, Nat.reduceAdd, Nat.reduceMul, Nat.reduceSub, Nat.reduceLT, Nat.reduceLeDiff, Nat.reduceEqDiff, Int.reduceAdd, Int.reduceMul, Int.reduceSub, Int.reduceNeg, Int.reduceLT, Int.reduceLE, Int.reduceMod, Int.reduceDiv, Int.reducePow, Int.reduceToNat, Bool.false_eq_true, if_true, if_false, gt_iff_lt, ge_iff_le, g_eqIs, g_neIs, g_eqBs, g_neBs, g_eqI0, g_neI0, g_neT0, g_inB, g_inN, h_ss, h_ss1, h_ssG, h_min, h_tup, h_lst, h_flT, h_flL, h_flB, h_flb, h_fli, h_fln, h_flN, h_flS, h_mapi, h_mapb, h_mapI, h_mapB, h_revI, h_eu, h_eu1, h_eu2, h_r3, h_r31, h_fd, h_fd1, h_fd2, h_fd3, h_fs, h_fs1, h_fs2, h_fs3, h_mk, h_mk1, h_mk2, h_me, h_me1, h_me2, h_me3, h_io, h_eo, h_no, h_eo1, g_eqTs, h_apd0, h_apd1, h_apo0, h_apo1, h_cn, h_cn1, h_cn2, h_pk0, h_pk1, h_pk2, h_nw, h_nw1, e_tu, e_tu1, e_af1, e_af2, e_af3, e_af4, e_wl1, e_wl2, e_lct, e_lct1, e_lct2, e_lct3, e_lct4, e_ni, e_ni1, e_lg1, e_lg2, e_lg3, e_lg4, e_lg5, e_ixw, e_ixw1, e_ixw2, e_ixw3, e_aow, e_aow1, e_aow2, e_aow3, e_zu, e_zu1, e_zu2, e_mulT, e_mxI, e_mnI, e_mxL, e_mnL, e_mxT, e_mnT, e_lgm, e_lgm1, e_lgm2, e_lgm3, e_tupT, e_lstT, e_lgc, e_lgc2, e_gd1, e_gd2, e_gpl, e_gpl1, e_gnx, e_gsq, e_gsq1, e_gyd, e_gyd1, e_gfr, e_gfr1, e_glp1, e_glpN, ends_some, Int.sub_zero, Int.add_zero, Int.zero_add, and_self, and_true, true_and, and_false, false_and, ne_eq, not_false_eq_true, not_true_eq_false, Bool.or_true, Bool.true_or, Bool.or_false, Bool.false_or, Option.some.injEq, reduceCtorEq, lk2, e1, ea, ei]
end PL

namespace PL
open PySem PySem.Spec PyProof.Rows L2 DV

/-! ### the stretches of a chain, by cutting up -/
def cu (c s : Int) : List Int := if 0 < c ∧ c < s then c :: cu c (s - c) else [s]
termination_by s.toNat
theorem cu_lt {c s : Int} (h0 : 0 < c) (h : c < s) : cu c s = c :: cu c (s - c) := by rw [cu, if_pos ⟨h0, h⟩]
theorem cu_ge {c s : Int} (h : ¬ c < s) : cu c s = [s] := by rw [cu, if_neg (fun z => h z.2)]
theorem cu_mem {c : Int} (h0 : 0 < c) : ∀ (n : Nat) (s : Int), s.toNat ≤ n → 0 < s → ∀ t ∈ cu c s, 0 < t ∧ t ≤ c ∧ t ≤ s
  | n, s, hn, hs, t, ht => by
    by_cases h : c < s
    · rw [cu_lt h0 h] at ht
      rcases List.mem_cons.mp ht with e | e
      · omega
      · cases n with
        | zero => omega
        | succ n =>
          have := cu_mem h0 n (s - c) (by omega) (by omega) t e
          omega
    · rw [cu_ge h, List.mem_singleton] at ht
      omega
def PL : List Int → Int → List Int
  | [], s => [s]
  | c :: cs, s => (cu c s).flatMap (PL cs)
theorem PL_lt {c : Int} {cs : List Int} {s : Int} (h0 : 0 < c) (h : c < s) : PL (c :: cs) s = PL cs c ++ PL (c :: cs) (s - c) := by
  rw [PL, PL, cu_lt h0 h, List.flatMap_cons]
theorem PL_ge {c : Int} {cs : List Int} {s : Int} (h : ¬ c < s) : PL (c :: cs) s = PL cs s := by
  rw [PL, cu_ge h, List.flatMap_cons, List.flatMap_nil, List.append_nil]
theorem PL_app : ∀ (cs es : List Int) (s : Int), PL (cs ++ es) s = (PL cs s).flatMap (PL es)
  | [], es, s => by rw [List.nil_append, PL, List.flatMap_cons, List.flatMap_nil, List.append_nil]
  | c :: cs, es, s => by
    have ih := PL_app cs es
    rw [List.cons_append, PL, PL, List.flatMap_assoc]
    congr 1
    funext t
    exact ih t
theorem PL_mem : ∀ {cs : List Int}, Fall cs → ∀ {s : Int}, 0 < s → ∀ t ∈ PL cs s, 0 < t ∧ t ≤ s ∧ ∀ c ∈ cs, t ≤ c
  | [], _, s, hs, t, ht => by rw [PL, List.mem_singleton] at ht; exact ⟨by omega, by omega, fun c hc => by cases hc⟩
  | c :: cs, h, s, hs, t, ht => by
    rw [PL, List.mem_flatMap] at ht
    obtain ⟨u, hu, ht⟩ := ht
    obtain ⟨u0, u1, u2⟩ := cu_mem h.1.1 s.toNat s (Nat.le_refl _) hs u hu
    obtain ⟨t0, t1, t2⟩ := PL_mem h.2.2 u0 t ht
    refine ⟨t0, by omega, fun d hd => ?_⟩
    rcases List.mem_cons.mp hd with e | e
    · omega
    · exact t2 d e
theorem PL_ne : ∀ (cs : List Int) (s : Int), PL cs s ≠ []
  | [], s => by rw [PL]; simp
  | c :: cs, s => by
    rw [PL]
    rw [cu]
    split
    · rw [List.flatMap_cons]
      exact fun z => PL_ne cs c (List.append_eq_nil_iff.mp z).1
    · rw [List.flatMap_cons]
      exact fun z => PL_ne cs s (List.append_eq_nil_iff.mp z).1
/-- cuts that are not less than a stretch do nothing to it -/
theorem PL_less {l : Int} : ∀ {ds : List Int}, Fall ds → ∀ {s : Int}, 0 < s → s ≤ l → PL (ds.filter fun x => decide (x < l)) s = PL ds s
  | [], _, s, _, _ => rfl
  | c :: ds, h, s, hs, hl => by
    rw [List.filter_cons]
    by_cases hc : c < l
    · rw [if_pos (decide_eq_true hc), PL, PL]
      have : ∀ u ∈ cu c s, PL (ds.filter fun x => decide (x < l)) u = PL ds u := fun u hu => by
        obtain ⟨u0, u1, u2⟩ := cu_mem h.1.1 s.toNat s (Nat.le_refl _) hs u hu
        exact PL_less h.2.2 u0 (by omega)
      rw [List.flatMap_def, List.flatMap_def, List.map_congr_left this]
    · rw [if_neg (by simpa using hc), PL_ge (show ¬ c < s by omega)]
      exact PL_less h.2.2 hs hl
theorem PL_sum {cs ds : List Int} (h : Fall cs) (g : Fall ds) {s : Int} (hs : 0 < s) : PL (addF cs ds) s = (PL cs s).flatMap (PL ds) := by
  unfold addF
  rw [PL_app]
  have : ∀ t ∈ PL cs s, PL (ds.filter fun x => decide (cs = []) || decide (x < cs.getLastD 0)) t = PL ds t := fun t ht => by
    obtain ⟨t0, t1, t2⟩ := PL_mem h hs t ht
    by_cases hc : cs = []
    · have e : ds.filter (fun x => decide (cs = []) || decide (x < cs.getLastD 0)) = ds := by
        rw [List.filter_eq_self]
        exact fun a _ => by rw [decide_eq_true hc]; rfl
      rw [e]
    · have e : (fun x : Int => decide (cs = []) || decide (x < cs.getLastD 0)) = fun x => decide (x < cs.getLastD 0) := by
        funext x
        rw [decide_eq_false hc, Bool.false_or]
      rw [e]
      refine PL_less g t0 (t2 _ ?_)
      rw [List.getLastD_eq_getLast?, List.getLast?_eq_some_getLast hc]
      exact List.getLast_mem hc
  rw [List.flatMap_def, List.flatMap_def, List.map_congr_left this]
def LP : List Int → List Int → List Int
  | [], L => L
  | c :: cs, L => LP cs (L.flatMap (cu c))
theorem LP_eq : ∀ (cs L : List Int), LP cs L = L.flatMap (PL cs)
  | [], L => by
    rw [LP]
    induction L with
    | nil => rfl
    | cons x L ih => rw [List.flatMap_cons, ← ih]; rfl
  | c :: cs, L => by
    rw [LP, LP_eq cs, List.flatMap_assoc]
    rfl
theorem cu_sum {c : Int} (h0 : 0 < c) : ∀ (n : Nat) (s : Int), s.toNat ≤ n → 0 < s → (cu c s).sum = s
  | n, s, hn, hs => by
    by_cases h : c < s
    · rw [cu_lt h0 h, List.sum_cons]
      cases n with
      | zero => omega
      | succ n => rw [cu_sum h0 n (s - c) (by omega) (by omega)]; omega
    · rw [cu_ge h]; simp
theorem PL_total : ∀ {cs : List Int}, Fall cs → ∀ {s : Int}, 0 < s → (PL cs s).sum = s
  | [], _, s, _ => by rw [PL]; simp
  | c :: cs, h, s, hs => by
    have key : ∀ L : List Int, (∀ t ∈ L, 0 < t) → (L.flatMap (PL cs)).sum = L.sum := by
      intro L hL
      induction L with
      | nil => rfl
      | cons x L ih =>
        rw [List.flatMap_cons, List.sum_append, ih (fun t ht => hL t (List.mem_cons_of_mem _ ht)), PL_total h.2.2 (hL x (List.mem_cons_self ..)), List.sum_cons]
    rw [PL, key _ (fun t ht => (cu_mem h.1.1 s.toNat s (Nat.le_refl _) hs t ht).1), cu_sum h.1.1 s.toNat s (Nat.le_refl _) hs]
theorem flat_len (L : List Int) (f : Int → List Int) (hf : ∀ t, f t ≠ []) : L.length ≤ (L.flatMap f).length := by
  induction L with
  | nil => exact Nat.zero_le _
  | cons x L ih =>
    rw [List.flatMap_cons, List.length_append, List.length_cons]
    have := List.length_pos_iff.mpr (hf x)
    omega
end PL

namespace PL
open PySem PySem.Spec PyProof.Rows L2 DV

/-! ### the stretches that a chain yields are those by cutting up -/
theorem pcs_low {c : Int} {cs : List Int} (h : Fall (c :: cs)) {b : Int} (hb : 0 < b) (hc : b ≤ c) : pcs (c :: cs) b = pcs cs b := by
  have c0 := h.1.1
  rw [pcs]
  by_cases e : b = c
  · subst e
    rw [Int.ediv_self (by omega), Int.emod_self]; simp
  · rw [Int.ediv_eq_zero_of_lt (by omega) (by omega), Int.emod_eq_of_lt (by omega) (by omega), if_neg (by omega)]; omega
theorem pcs_high {c : Int} {cs : List Int} (h : Fall (c :: cs)) {b : Int} (hc : c < b) : pcs (c :: cs) b = pcs cs c + pcs (c :: cs) (b - c) := by
  have c0 := h.1.1
  rw [pcs, pcs]
  have e1 : b / c = (b - c) / c + 1 := by
    have : b = b - c + 1 * c := by omega
    rw [this, Int.add_mul_ediv_right _ _ (by omega)]
    congr 2; omega
  have e2 : b % c = (b - c) % c := by rw [Int.sub_emod_right]
  rw [e1, e2, Int.add_mul]
  omega
theorem bnd_low {c : Int} {cs : List Int} {n : Int} (h1 : 1 ≤ n) (h2 : n < pcs cs c) : bnd (c :: cs) n = bnd cs n := by
  rw [bnd, Int.ediv_eq_zero_of_lt (by omega) h2, Int.emod_eq_of_lt (by omega) h2, if_neg (by omega)]; omega
theorem bnd_step {c : Int} {cs : List Int} (hk : 1 ≤ pcs cs c) (n : Int) : bnd (c :: cs) (pcs cs c + n) = c + bnd (c :: cs) n := by
  rw [bnd, bnd]
  have e1 : (pcs cs c + n) / pcs cs c = n / pcs cs c + 1 := by
    have := Int.add_mul_ediv_right n 1 (show pcs cs c ≠ 0 by omega)
    rw [← this]; congr 1; omega
  have e2 : (pcs cs c + n) % pcs cs c = n % pcs cs c := by rw [Int.add_emod_left]
  rw [e1, e2, Int.add_mul]
  omega
theorem bnd_zero {c : Int} {cs : List Int} : bnd (c :: cs) 0 = 0 := by rw [bnd]; simp
theorem bnd_full {c : Int} {cs : List Int} (hk : 1 ≤ pcs cs c) : bnd (c :: cs) (pcs cs c) = c := by
  have := bnd_step (c := c) (cs := cs) hk 0
  rw [Int.add_zero, bnd_zero] at this
  omega
theorem nPcs_of {ns : List Int} {b : Int} (hb : 0 < b) : nPcs ns b = pcs ns b := by unfold nPcs; rw [if_neg (by omega)]
theorem pcs_le {cs : List Int} (h : Fall cs) {b c : Int} (hb : 0 < b) (hc : b ≤ c) : pcs cs b ≤ pcs cs c := by
  by_cases ne : cs = []
  · subst ne; rw [pcs, pcs]; omega
  · have p1 := (pcs_pos h.pos (b := b) hb).1
    by_cases h1 : pcs cs b = 1
    · have := (pcs_pos h.pos (b := c) (by omega)).1; omega
    · have g1 := (galois h ne (n := pcs cs b - 1) (b := b) (by omega) (by omega)).2.mpr (by omega)
      have g2 := (galois h ne (n := pcs cs b - 1) (b := c) (by omega) (by omega)).2.mp (by omega)
      omega
theorem parts_low {c : Int} {cs : List Int} (h : Fall (c :: cs)) {b : Int} (hb : 0 < b) (hc : b ≤ c) : parts (c :: cs) b = parts cs b := by
  unfold parts
  have e := pcs_low h hb hc
  have m := pcs_le h.2.2 hb hc
  rw [nPcs_of hb, nPcs_of hb, e]
  refine List.map_congr_left fun k hk => ?_
  rw [List.mem_range'_1] at hk
  have p1 := (pcs_pos h.2.2.pos (b := b) hb).1
  unfold strch
  rw [nPcs_of hb, nPcs_of hb, e]
  have e1 : (if (k : Int) = pcs cs b then b else bnd (c :: cs) (k : Int)) = (if (k : Int) = pcs cs b then b else bnd cs (k : Int)) := by
    split
    · rfl
    · exact bnd_low (by omega) (by omega)
  have e2 : (if 1 < (k : Int) then bnd (c :: cs) ((k : Int) - 1) else 0) = (if 1 < (k : Int) then bnd cs ((k : Int) - 1) else 0) := by
    split
    · exact bnd_low (by omega) (by omega)
    · rfl
  rw [e1, e2]
theorem parts_high {c : Int} {cs : List Int} (h : Fall (c :: cs)) {b : Int} (hc : c < b) : parts (c :: cs) b = parts cs c ++ parts (c :: cs) (b - c) := by
  have c0 := h.1.1
  have e := pcs_high h hc
  have k1 := (pcs_pos h.2.2.pos (b := c) c0).1
  have m1 := (pcs_pos h.pos (b := b - c) (by omega)).1
  unfold parts
  rw [nPcs_of (show 0 < b by omega), nPcs_of c0, nPcs_of (show 0 < b - c by omega), e]
  have et : (pcs cs c + pcs (c :: cs) (b - c)).toNat = (pcs cs c).toNat + (pcs (c :: cs) (b - c)).toNat := by omega
  rw [et, ← List.range'_append_1, List.map_append]
  congr 1
  · refine List.map_congr_left fun k hk => ?_
    rw [List.mem_range'_1] at hk
    unfold strch
    rw [nPcs_of (show 0 < b by omega), nPcs_of c0, e, if_neg (by omega)]
    have e2 : (if 1 < (k : Int) then bnd (c :: cs) ((k : Int) - 1) else 0) = (if 1 < (k : Int) then bnd cs ((k : Int) - 1) else 0) := by
      split
      · exact bnd_low (by omega) (by omega)
      · rfl
    rw [e2]
    by_cases hk2 : (k : Int) = pcs cs c
    · rw [if_pos hk2, hk2, bnd_full k1]
    · rw [if_neg hk2, bnd_low (by omega) (by omega)]
  · have er : List.range' (1 + (pcs cs c).toNat) (pcs (c :: cs) (b - c)).toNat = (List.range' 1 (pcs (c :: cs) (b - c)).toNat).map fun j => (pcs cs c).toNat + j := by
      rw [List.map_add_range']; congr 1; omega
    rw [er, List.map_map]
    refine List.map_congr_left fun j hj => ?_
    rw [List.mem_range'_1] at hj
    show strch (c :: cs) b (((pcs cs c).toNat + j : Nat) : Int) = _
    have ek : (((pcs cs c).toNat + j : Nat) : Int) = pcs cs c + (j : Int) := by omega
    rw [ek]
    unfold strch
    rw [nPcs_of (show 0 < b by omega), nPcs_of (show 0 < b - c by omega), e, bnd_step k1]
    rw [if_pos (show 1 < pcs cs c + (j : Int) by omega)]
    have e3 : bnd (c :: cs) (pcs cs c + (j : Int) - 1) = c + (if 1 < (j : Int) then bnd (c :: cs) ((j : Int) - 1) else 0) := by
      rw [show pcs cs c + (j : Int) - 1 = pcs cs c + ((j : Int) - 1) by omega, bnd_step k1]
      split
      · rfl
      · rw [show (j : Int) - 1 = 0 by omega, bnd_zero]
    rw [e3]
    by_cases hl : (j : Int) = pcs (c :: cs) (b - c)
    · rw [if_pos (by omega), if_pos hl]; omega
    · rw [if_neg (by omega), if_neg hl]; omega
theorem parts_PL : ∀ {cs : List Int}, Fall cs → ∀ (n : Nat) {b : Int}, b.toNat ≤ n → 0 < b → parts cs b = PL cs b
  | [], _, n, b, _, hb => by
    unfold parts
    rw [nPcs_of hb, pcs, PL]
    show [strch [] b 1] = _
    unfold strch
    rw [nPcs_of hb, pcs]
    simp
  | c :: cs, h, n, b, hn, hb => by
    by_cases hc : c < b
    · cases n with
      | zero => omega
      | succ n =>
        have c0 := h.1.1
        rw [parts_high h hc, PL_lt c0 hc, parts_PL h.2.2 c.toNat (Nat.le_refl _) c0, parts_PL h n (by omega) (by omega)]
    · rw [parts_low h hb (by omega), PL_ge hc, parts_PL h.2.2 n hn hb]
/-! ### sums of chains -/
theorem addF_mem {a b : List Int} (h : Fall a) {x : Int} : x ∈ addF a b ↔ x ∈ a ∨ (x ∈ b ∧ ∀ y ∈ a, x < y) := by
  unfold addF
  rw [List.mem_append, List.mem_filter]
  have key : (decide (a = []) || decide (x < a.getLastD 0)) = true ↔ ∀ y ∈ a, x < y := by
    by_cases ha : a = []
    · subst ha; simp
    · rw [decide_eq_false ha, Bool.false_or, decide_eq_true_eq, List.getLastD_eq_getLast?, List.getLast?_eq_some_getLast ha]
      show x < a.getLast ha ↔ _
      constructor
      · intro hx y hy
        have hl : ∀ {l : List Int}, Fall l → ∀ (ne : l ≠ []), ∀ y ∈ l, l.getLast ne ≤ y := by
          intro l
          induction l with
          | nil => intro _ ne; exact absurd rfl ne
          | cons z l ih =>
            intro hf ne y hy
            by_cases hl : l = []
            · subst hl; simp at hy ⊢; omega
            · rw [List.getLast_cons hl]
              rcases List.mem_cons.mp hy with e | e
              · have := hf.2.1 _ (List.getLast_mem hl); omega
              · exact ih hf.2.2 hl y e
        have := hl h ha y hy
        omega
      · exact fun hx => hx _ (List.getLast_mem ha)
  rw [key]
theorem fall_ext : ∀ {a b : List Int}, Fall a → Fall b → (∀ x, x ∈ a ↔ x ∈ b) → a = b
  | [], [], _, _, _ => rfl
  | [], y :: b, _, _, e => by have := (e y).mpr (List.mem_cons_self ..); cases this
  | x :: a, [], _, _, e => by have := (e x).mp (List.mem_cons_self ..); cases this
  | x :: a, y :: b, h, g, e => by
    have e1 : x = y := by
      rcases List.mem_cons.mp ((e x).mp (List.mem_cons_self ..)) with q | q
      · exact q
      · rcases List.mem_cons.mp ((e y).mpr (List.mem_cons_self ..)) with r | r
        · exact r.symm
        · have := g.2.1 x q; have := h.2.1 y r; omega
    subst e1
    have e2 : a = b := fall_ext h.2.2 g.2.2 fun z => by
      constructor
      · intro hz
        rcases List.mem_cons.mp ((e z).mp (List.mem_cons_of_mem _ hz)) with q | q
        · have := h.2.1 z hz; omega
        · exact q
      · intro hz
        rcases List.mem_cons.mp ((e z).mpr (List.mem_cons_of_mem _ hz)) with q | q
        · have := g.2.1 z hz; omega
        · exact q
    rw [e2]
theorem addF_assoc {a b d : List Int} (h : Fall a) (g : Fall b) (k : Fall d) : addF (addF a b) d = addF a (addF b d) := by
  refine fall_ext (addF_fall (addF_fall h g) k) (addF_fall h (addF_fall g k)) fun x => ?_
  rw [addF_mem (addF_fall h g), addF_mem h, addF_mem h, addF_mem g]
  constructor
  · rintro ((h1 | ⟨h1, h2⟩) | ⟨h1, h2⟩)
    · exact .inl h1
    · exact .inr ⟨.inl h1, h2⟩
    · refine .inr ⟨.inr ⟨h1, fun y hy => ?_⟩, fun y hy => h2 y ((addF_mem h).mpr (.inl hy))⟩
      by_cases hq : ∀ z ∈ a, y < z
      · exact h2 y ((addF_mem h).mpr (.inr ⟨hy, hq⟩))
      · have : ∃ z, z ∈ a ∧ z ≤ y := by
          by_cases hw : ∃ z, z ∈ a ∧ z ≤ y
          · exact hw
          · exact absurd (fun z hz => Int.lt_of_not_ge fun hle => hw ⟨z, hz, hle⟩) hq
        obtain ⟨z, hz, hle⟩ := this
        have := h2 z ((addF_mem h).mpr (.inl hz))
        omega
  · rintro (h1 | ⟨h1 | ⟨h1, h2⟩, h3⟩)
    · exact .inl (.inl h1)
    · exact .inl (.inr ⟨h1, h3⟩)
    · refine .inr ⟨h1, fun y hy => ?_⟩
      rcases (addF_mem h).mp hy with q | ⟨q, _⟩
      · exact h3 y q
      · exact h2 y q
theorem addF_nil (a : List Int) : addF a [] = a := by unfold addF; simp
theorem nil_addF (a : List Int) : addF [] a = a := by unfold addF; simp
theorem addF_self {a : List Int} (h : Fall a) : addF a a = a := fall_ext (addF_fall h h) h fun x => by
  rw [addF_mem h]
  exact ⟨fun z => z.elim id fun q => q.1, .inl⟩
theorem parts_len {cs : List Int} (h : Fall cs) {b : Int} (hb : 0 < b) : ((PL cs b).length : Int) = nPcs cs b := by
  rw [← parts_PL h b.toNat (Nat.le_refl _) hb]
  unfold parts
  rw [List.length_map, List.length_range']
  have := nPcs_pos h (b := b) (by omega)
  omega
theorem nPcs_sum {a b : List Int} (h : Fall a) (g : Fall b) {s : Int} (hs : 0 < s) : nPcs a s ≤ nPcs (addF a b) s := by
  rw [← parts_len h hs, ← parts_len (addF_fall h g) hs, PL_sum h g hs]
  have := flat_len (PL a s) (PL b) (PL_ne b)
  omega
end PL

namespace PL
open PySem PySem.Spec PyProof.Rows L2 DV

/-! ### the source of draws -/
abbrev Strm := Int × Int
def SD (s : Strm) : D := .lst [.int s.1, .int s.2]
def drv (s : Strm) (n : Int) : Int := if n ≤ s.1 then s.1 % n else ((s.2 * 69621 + 7919) % 2147483647) ^ 5 % 1000000007 / 11 % n
def drs (s : Strm) (n : Int) : Strm := if n ≤ s.1 then (s.1 / n, s.2) else (s.1, (s.2 * 69621 + 7919) % 2147483647)
theorem drv_ok {s : Strm} {n : Int} (h : 0 < n) : 0 ≤ drv s n ∧ drv s n < n := by
  unfold drv
  split
  · exact ⟨Int.emod_nonneg _ (by omega), Int.emod_lt_of_pos _ h⟩
  · exact ⟨Int.emod_nonneg _ (by omega), Int.emod_lt_of_pos _ h⟩
theorem draw_eq (s : Strm) (n : Int) (h0 : 0 < n) (h1 : n < 18446744073709551616) : f_law_draw [SD s, .int n] = some (.dat (.int (drv s n)), SD (drs s n)) := by
  obtain ⟨a, b⟩ := s
  unfold SD drv drs
  by_cases h : n ≤ a
  · simp only [en_law_draw, m_law_draw, e_var, e_var1, e_var2, e_var3, e_dat, e_der1, e_der2, e_der3, e_sd1, e_sd2, e_sd3, e_op, e_op1, e_op2, e_op3, e_op4, e_un, e_un1, e_un2, e_sol, e_sol1, e_sol2, e_sol3, e_sol4, e_sol5, e_da, e_da1, e_na, e_ca, e_ca1, e_ca2, e_nd, e_cd, e_cd1, e_cd2, e_dn, e_dc, e_dc1, e_cb, e_cb1, e_cb2, e_ls, e_ls1, e_tp, e_tp1, e_np, e_ip, e_ip1, e_sl, e_sl1, e_sl2, e_sl3, e_rv, e_rv1, e_rv2, e_te, e_te1, e_at, e_at1, e_at2, e_ot, e_ot1, e_ot2, e_nt, e_nt1, e_ae, e_ae1, e_ae2, e_oe, e_oe1, e_oe2, e_ne, e_ne1, e_ie, e_ie1, e_ie2, e_ch, e_ch1, e_ch2, e_ch3, e_ch4, e_ch5, e_cl, e_cl1, e_cx, e_cx1, e_cx2, e_cx3, e_cx4, e_cx5, e_cz, e_cz1, e_cz2, e_cz3, e_cz4, e_ro1, e_ro2, e_pl1, e_pl2, e_pl3, e_pl4, e_ld0, e_ld1, e_ld2, e_ld3, e_ld4, e_ld5, e_pb0, e_pb1, e_pb2, e_pb3, e_sq, e_sq1, e_sq2, e_sq3, e_sq4, e_nx, e_rt, e_rt1, e_dp, e_dp1, e_is, e_is1, e_is2, e_as, e_as1, e_as2, e_as3, e_as4, e_st, e_st1, e_st2, e_st3, e_st4, e_st5, e_st6, e_up, e_up1, e_up2, e_pr, e_pr3, e_pr1, e_sa0, e_sa1, e_sa2, e_lt, e_lt1, e_ng, e_tg, e_gn, e_gc, e_gc1, e_fr, e_fr1, e_lp1, e_lp2, e_lp3, e_lp4, e_lp5, e_wh1, e_wh2, e_wh3, e_wh4, e_wh5, e_si, e_si1, e_si2, e_si3, e_r1, e_r11, e_r2, e_r21, e_en, e_en1, e_lc, e_lc1, e_lc2, e_lc3, e_lcn1, e_lcn2, e_lcn3, e_lcn4, e_ye, e_wi0, e_wi1, e_re0, e_re1, e_no0, e_no1, e_ow1, e_ow2, e_df1, e_df2, e_df3, e_rs1, e_rs2, e_rs3, e_rs4, e_rs5, e_ou, e_ou1, e_ou2, e_mu, e_mu1, e_mu6, e_mu2, e_mu3, e_mu4, e_mu5, g_addI, g_addL, g_sub, g_lt, g_le, g_gt, g_ge, g_mod, g_div, g_mulL, g_eqI, g_neI, g_eqB, g_neB, g_eqS, g_ixL, g_ixR, g_ixT, g_ix1, g_lenL, g_lenR, g_lenT, g_intI, g_intB, g_min2, g_max2, g_app, g_slL, g_slT, g_neg, g_atI0, g_atI1, g_atIl, g_ixN0, g_ixN1, g_powM3, g_powM5, g_mulR, List.getElem?_cons_zero, List.getElem?_cons_succ, List.getD_cons_zero, List.getD_cons_succ, List.set_cons_zero, List.set_cons_succ, Bool.and_true, Bool.true_and, Bool.and_false, Bool.false_and, decide_true, decide_false, Bool.not_true, Bool.not_false, List.length_cons, List.length_nil, Nat.reduceAdd, Nat.reduceMul, Nat.reduceSub, Nat.reduceLT, Nat.reduceLeDiff, Nat.reduceEqDiff, Int.reduceAdd, Int.reduceMul, Int.reduceSub, Int.reduceNeg, Int.reduceLT, Int.reduceLE, Int.reduceMod, Int.reduceDiv, Int.reducePow, Int.reduceToNat, Bool.false_eq_true, if_true, if_false, gt_iff_lt, ge_iff_le, g_eqIs, g_neIs, g_eqBs, g_neBs, g_eqI0, g_neI0, g_neT0, g_inB, g_inN, h_ss, h_ss1, h_ssG, h_min, h_tup, h_lst, h_flT, h_flL, h_flB, h_flb, h_fli, h_fln, h_flN, h_flS, h_mapi, h_mapb, h_mapI, h_mapB, h_revI, h_eu, h_eu1, h_eu2, h_r3, h_r31, h_fd, h_fd1, h_fd2, h_fd3, h_fs, h_fs1, h_fs2, h_fs3, h_mk, h_mk1, h_mk2, h_me, h_me1, h_me2, h_me3, h_io, h_eo, h_no, h_eo1, g_eqTs, h_apd0, h_apd1, h_apo0, h_apo1, h_cn, h_cn1, h_cn2, h_pk0, h_pk1, h_pk2, h_nw, h_nw1, e_tu, e_tu1, e_af1, e_af2, e_af3, e_af4, e_wl1, e_wl2, e_lct, e_lct1, e_lct2, e_lct3, e_lct4, e_ni, e_ni1, e_lg1, e_lg2, e_lg3, e_lg4, e_lg5, e_ixw, e_ixw1, e_ixw2, e_ixw3, e_aow, e_aow1, e_aow2, e_aow3, e_zu, e_zu1, e_zu2, e_mulT, e_mxI, e_mnI, e_mxL, e_mnL, e_mxT, e_mnT, e_lgm, e_lgm1, e_lgm2, e_lgm3, e_tupT, e_lstT, e_lgc, e_lgc2, e_gd1, e_gd2, e_gpl, e_gpl1, e_gnx, e_gsq, e_gsq1, e_gyd, e_gyd1, e_gfr, e_gfr1, e_glp1, e_glpN, ends_some, Int.sub_zero, Int.add_zero, Int.zero_add, and_self, and_true, true_and, and_false, false_and, ne_eq, not_false_eq_true, not_true_eq_false, Bool.or_true, Bool.true_or, Bool.or_false, Bool.false_or, Option.some.injEq, reduceCtorEq, h, h0, h1]
    done
  · simp only [en_law_draw, m_law_draw, e_var, e_var1, e_var2, e_var3, e_dat, e_der1, e_der2, e_der3, e_sd1, e_sd2, e_sd3, e_op, e_op1, e_op2, e_op3, e_op4, e_un, e_un1, e_un2, e_sol, e_sol1, e_sol2, e_sol3, e_sol4, e_sol5, e_da, e_da1, e_na, e_ca, e_ca1, e_ca2, e_nd, e_cd, e_cd1, e_cd2, e_dn, e_dc, e_dc1, e_cb, e_cb1, e_cb2, e_ls, e_ls1, e_tp, e_tp1, e_np, e_ip, e_ip1, e_sl, e_sl1, e_sl2, e_sl3, e_rv, e_rv1, e_rv2, e_te, e_te1, e_at, e_at1, e_at2, e_ot, e_ot1, e_ot2, e_nt, e_nt1, e_ae, e_ae1, e_ae2, e_oe, e_oe1, e_oe2, e_ne, e_ne1, e_ie, e_ie1, e_ie2, e_ch, e_ch1, e_ch2, e_ch3, e_ch4, e_ch5, e_cl, e_cl1, e_cx, e_cx1, e_cx2, e_cx3, e_cx4, e_cx5, e_cz, e_cz1, e_cz2, e_cz3, e_cz4, e_ro1, e_ro2, e_pl1, e_pl2, e_pl3, e_pl4, e_ld0, e_ld1, e_ld2, e_ld3, e_ld4, e_ld5, e_pb0, e_pb1, e_pb2, e_pb3, e_sq, e_sq1, e_sq2, e_sq3, e_sq4, e_nx, e_rt, e_rt1, e_dp, e_dp1, e_is, e_is1, e_is2, e_as, e_as1, e_as2, e_as3, e_as4, e_st, e_st1, e_st2, e_st3, e_st4, e_st5, e_st6, e_up, e_up1, e_up2, e_pr, e_pr3, e_pr1, e_sa0, e_sa1, e_sa2, e_lt, e_lt1, e_ng, e_tg, e_gn, e_gc, e_gc1, e_fr, e_fr1, e_lp1, e_lp2, e_lp3, e_lp4, e_lp5, e_wh1, e_wh2, e_wh3, e_wh4, e_wh5, e_si, e_si1, e_si2, e_si3, e_r1, e_r11, e_r2, e_r21, e_en, e_en1, e_lc, e_lc1, e_lc2, e_lc3, e_lcn1, e_lcn2, e_lcn3, e_lcn4, e_ye, e_wi0, e_wi1, e_re0, e_re1, e_no0, e_no1, e_ow1, e_ow2, e_df1, e_df2, e_df3, e_rs1, e_rs2, e_rs3, e_rs4, e_rs5, e_ou, e_ou1, e_ou2, e_mu, e_mu1, e_mu6, e_mu2, e_mu3, e_mu4, e_mu5, g_addI, g_addL, g_sub, g_lt, g_le, g_gt, g_ge, g_mod, g_div, g_mulL, g_eqI, g_neI, g_eqB, g_neB, g_eqS, g_ixL, g_ixR, g_ixT, g_ix1, g_lenL, g_lenR, g_lenT, g_intI, g_intB, g_min2, g_max2, g_app, g_slL, g_slT, g_neg, g_atI0, g_atI1, g_atIl, g_ixN0, g_ixN1, g_powM3, g_powM5, g_mulR, List.getElem?_cons_zero, List.getElem?_cons_succ, List.getD_cons_zero, List.getD_cons_succ, List.set_cons_zero, List.set_cons_succ, Bool.and_true, Bool.true_and, Bool.and_false, Bool.false_and, decide_true, decide_false, Bool.not_true, Bool.not_false, List.length_cons, List.length_nil, Nat.reduceAdd, Nat.reduceMul, Nat.reduceSub, Nat.reduceLT, Nat.reduceLeDiff, Nat.reduceEqDiff, Int.reduceAdd, Int.reduceMul, Int.reduceSub, Int.reduceNeg, Int.reduceLT, Int.reduceLE, Int.reduceMod, Int.reduceDiv, Int.reducePow, Int.reduceToNat, Bool.false_eq_true, if_true, if_false, gt_iff_lt, ge_iff_le, g_eqIs, g_neIs, g_eqBs, g_neBs, g_eqI0, g_neI0, g_neT0, g_inB, g_inN, h_ss, h_ss1, h_ssG, h_min, h_tup, h_lst, h_flT, h_flL, h_flB, h_flb, h_fli, h_fln, h_flN, h_flS, h_mapi, h_mapb, h_mapI, h_mapB, h_revI, h_eu, h_eu1, h_eu2, h_r3, h_r31, h_fd, h_fd1, h_fd2, h_fd3, h_fs, h_fs1, h_fs2, h_fs3, h_mk, h_mk1, h_mk2, h_me, h_me1, h_me2, h_me3, h_io, h_eo, h_no, h_eo1, g_eqTs, h_apd0, h_apd1, h_apo0, h_apo1, h_cn, h_cn1, h_cn2, h_pk0, h_pk1, h_pk2, h_nw, h_nw1, e_tu, e_tu1, e_af1, e_af2, e_af3, e_af4, e_wl1, e_wl2, e_lct, e_lct1, e_lct2, e_lct3, e_lct4, e_ni, e_ni1, e_lg1, e_lg2, e_lg3, e_lg4, e_lg5, e_ixw, e_ixw1, e_ixw2, e_ixw3, e_aow, e_aow1, e_aow2, e_aow3, e_zu, e_zu1, e_zu2, e_mulT, e_mxI, e_mnI, e_mxL, e_mnL, e_mxT, e_mnT, e_lgm, e_lgm1, e_lgm2, e_lgm3, e_tupT, e_lstT, e_lgc, e_lgc2, e_gd1, e_gd2, e_gpl, e_gpl1, e_gnx, e_gsq, e_gsq1, e_gyd, e_gyd1, e_gfr, e_gfr1, e_glp1, e_glpN, ends_some, Int.sub_zero, Int.add_zero, Int.zero_add, and_self, and_true, true_and, and_false, false_and, ne_eq, not_false_eq_true, not_true_eq_false, Bool.or_true, Bool.true_or, Bool.or_false, Bool.false_or, Option.some.injEq, reduceCtorEq, h, h0, h1, show smallI 69621 = true from rfl, g_mulR]
    done
theorem flat_SD (s : Strm) : flatT (SD s) = true := rfl
theorem pow1018 : powG (.int 10) (.int 18) = some (.dat (.int 1000000000000000000)) := g_pow (b := 4) (by decide) (by decide +kernel) (by decide)
theorem pow_cell {s c : Int} (h0 : 0 ≤ s) (h1 : s < 4294967296) (hc : Builtin.Int.intBits c ≤ 1048576) : powG (.int (s * 48611 + c)) (.int 3) = some (.dat (.int ((s * 48611 + c) ^ 3))) := by
  have e1 : Builtin.Int.intBits (s * 48611) ≤ 64 := bits_le (by omega) (by omega)
  exact g_pow (b := 1048577) (by decide) (Nat.le_trans (PySem.intBits_add_le e1 hc) (by decide)) (by decide)
theorem stream_loop (v0 v1 v4 : Sl) : ∀ (ns : List Int) (s : Int) (v3 : Sl), 0 ≤ s → s < 4294967296 → (∀ z ∈ ns, Builtin.Int.intBits z ≤ 1048576) → ∃ s' v3', loopL (nameG 3) b1_law_source (ns.map .int) [v0, v1, .val (.int s), v3, v4] = some (.nx [v0, v1, .val (.int s'), v3', v4])
  | [], s, v3, _, _, _ => ⟨s, v3, rfl⟩
  | c :: ns, s, v3, h0, h1, hb => by
    have hp := pow_cell h0 h1 (hb c (List.mem_cons_self ..))
    have h2 : 0 ≤ (s * 48611 + c) ^ 3 % 2147483587 := Int.emod_nonneg _ (by decide)
    have h3 : (s * 48611 + c) ^ 3 % 2147483587 < 2147483587 := Int.emod_lt_of_pos _ (by decide)
    obtain ⟨s', v3', e⟩ := stream_loop v0 v1 v4 ns ((s * 48611 + c) ^ 3 % 2147483587 + 1) (.val (.int c)) (by omega) (by omega) (fun z hz => hb z (List.mem_cons_of_mem _ hz))
    refine ⟨s', v3', ?_⟩
    rw [← e]
    simp only [List.map_cons, e_lpc, b1_law_source, e_var, e_var1, e_var2, e_var3, e_dat, e_der1, e_der2, e_der3, e_sd1, e_sd2, e_sd3, e_op, e_op1, e_op2, e_op3, e_op4, e_un, e_un1, e_un2, e_sol, e_sol1, e_sol2, e_sol3, e_sol4, e_sol5, e_da, e_da1, e_na, e_ca, e_ca1, e_ca2, e_nd, e_cd, e_cd1, e_cd2, e_dn, e_dc, e_dc1, e_cb, e_cb1, e_cb2, e_ls, e_ls1, e_tp, e_tp1, e_np, e_ip, e_ip1, e_sl, e_sl1, e_sl2, e_sl3, e_rv, e_rv1, e_rv2, e_te, e_te1, e_at, e_at1, e_at2, e_ot, e_ot1, e_ot2, e_nt, e_nt1, e_ae, e_ae1, e_ae2, e_oe, e_oe1, e_oe2, e_ne, e_ne1, e_ie, e_ie1, e_ie2, e_ch, e_ch1, e_ch2, e_ch3, e_ch4, e_ch5, e_cl, e_cl1, e_cx, e_cx1, e_cx2, e_cx3, e_cx4, e_cx5, e_cz, e_cz1, e_cz2, e_cz3, e_cz4, e_ro1, e_ro2, e_pl1, e_pl2, e_pl3, e_pl4, e_ld0, e_ld1, e_ld2, e_ld3, e_ld4, e_ld5, e_pb0, e_pb1, e_pb2, e_pb3, e_sq, e_sq1, e_sq2, e_sq3, e_sq4, e_nx, e_rt, e_rt1, e_dp, e_dp1, e_is, e_is1, e_is2, e_as, e_as1, e_as2, e_as3, e_as4, e_st, e_st1, e_st2, e_st3, e_st4, e_st5, e_st6, e_up, e_up1, e_up2, e_pr, e_pr3, e_pr1, e_sa0, e_sa1, e_sa2, e_lt, e_lt1, e_ng, e_tg, e_gn, e_gc, e_gc1, e_fr, e_fr1, e_lp1, e_lp2, e_lp3, e_lp4, e_lp5, e_wh1, e_wh2, e_wh3, e_wh4, e_wh5, e_si, e_si1, e_si2, e_si3, e_r1, e_r11, e_r2, e_r21, e_en, e_en1, e_lc, e_lc1, e_lc2, e_lc3, e_lcn1, e_lcn2, e_lcn3, e_lcn4, e_ye, e_wi0, e_wi1, e_re0, e_re1, e_no0, e_no1, e_ow1, e_ow2, e_df1, e_df2, e_df3, e_rs1, e_rs2, e_rs3, e_rs4, e_rs5, e_ou, e_ou1, e_ou2, e_mu, e_mu1, e_mu6, e_mu2, e_mu3, e_mu4, e_mu5, g_addI, g_addL, g_sub, g_lt, g_le, g_gt, g_ge, g_mod, g_div, g_mulL, g_eqI, g_neI, g_eqB, g_neB, g_eqS, g_ixL, g_ixR, g_ixT, g_ix1, g_lenL, g_lenR, g_lenT, g_intI, g_intB, g_min2, g_max2, g_app, g_slL, g_slT, g_neg, g_atI0, g_atI1, g_atIl, g_ixN0, g_ixN1, g_powM3, g_powM5, g_mulR, List.getElem?_cons_zero, List.getElem?_cons_succ, List.getD_cons_zero, List.getD_cons_succ, List.set_cons_zero, List.set_cons_succ, Bool.and_true, Bool.true_and, Bool.and_false, Bool.false_and, decide_true, decide_false, Bool.not_true, Bool.not_false, List.length_cons, List.length_nil, Nat.reduceAdd, Nat.reduceMul, Nat.reduceSub, Nat.reduceLT, Nat.reduceLeDiff, Nat.reduceEqDiff, Int.reduceAdd, Int.reduceMul, Int.reduceSub, Int.reduceNeg, Int.reduceLT, Int.reduceLE, Int.reduceMod, Int.reduceDiv, Int.reducePow, Int.reduceToNat, Bool.false_eq_true, if_true, if_false, gt_iff_lt, ge_iff_le, g_eqIs, g_neIs, g_eqBs, g_neBs, g_eqI0, g_neI0, g_neT0, g_inB, g_inN, h_ss, h_ss1, h_ssG, h_min, h_tup, h_lst, h_flT, h_flL, h_flB, h_flb, h_fli, h_fln, h_flN, h_flS, h_mapi, h_mapb, h_mapI, h_mapB, h_revI, h_eu, h_eu1, h_eu2, h_r3, h_r31, h_fd, h_fd1, h_fd2, h_fd3, h_fs, h_fs1, h_fs2, h_fs3, h_mk, h_mk1, h_mk2, h_me, h_me1, h_me2, h_me3, h_io, h_eo, h_no, h_eo1, g_eqTs, h_apd0, h_apd1, h_apo0, h_apo1, h_cn, h_cn1, h_cn2, h_pk0, h_pk1, h_pk2, h_nw, h_nw1, e_tu, e_tu1, e_af1, e_af2, e_af3, e_af4, e_wl1, e_wl2, e_lct, e_lct1, e_lct2, e_lct3, e_lct4, e_ni, e_ni1, e_lg1, e_lg2, e_lg3, e_lg4, e_lg5, e_ixw, e_ixw1, e_ixw2, e_ixw3, e_aow, e_aow1, e_aow2, e_aow3, e_zu, e_zu1, e_zu2, e_mulT, e_mxI, e_mnI, e_mxL, e_mnL, e_mxT, e_mnT, e_lgm, e_lgm1, e_lgm2, e_lgm3, e_tupT, e_lstT, e_lgc, e_lgc2, e_gd1, e_gd2, e_gpl, e_gpl1, e_gnx, e_gsq, e_gsq1, e_gyd, e_gyd1, e_gfr, e_gfr1, e_glp1, e_glpN, ends_some, Int.sub_zero, Int.add_zero, Int.zero_add, and_self, and_true, true_and, and_false, false_and, ne_eq, not_false_eq_true, not_true_eq_false, Bool.or_true, Bool.true_or, Bool.or_false, Bool.false_or, Option.some.injEq, reduceCtorEq, hp, show smallI 48611 = true from rfl]
theorem stream_eq (ns : List Int) (i : Nat) (hl : ns.length ≤ 63) (hi : i ≤ 63) (hb : ∀ z ∈ ns, Builtin.Int.intBits z ≤ 1048576) : ∃ s : Strm, f_law_source [.ro (ns.map .int), .int i] = some (.fre (SD s), .non) := by
  obtain ⟨s', v3', e⟩ := stream_loop (.val (.ro (ns.map .int))) (.val (.int i)) .un ns (97 + i) .un (by omega) (by omega) hb
  by_cases h1 : i < ns.length
  · have hx : L2.atI (ns.map D.int) (i : Int) = some (.int ns[i]) := by
      rw [atI_pos (by omega) (by rw [List.length_map]; omega)]
      simp [h1]
    have h1' : (i : Int) < (ns.map D.int).length := by rw [List.length_map]; omega
    by_cases h2 : 1000000000000000000 ≤ ns[i]
    · refine ⟨(ns[i] - 1000000000000000000, s'), ?_⟩
      simp only [SD, en_law_source, m_law_source, e_var, e_var1, e_var2, e_var3, e_dat, e_der1, e_der2, e_der3, e_sd1, e_sd2, e_sd3, e_op, e_op1, e_op2, e_op3, e_op4, e_un, e_un1, e_un2, e_sol, e_sol1, e_sol2, e_sol3, e_sol4, e_sol5, e_da, e_da1, e_na, e_ca, e_ca1, e_ca2, e_nd, e_cd, e_cd1, e_cd2, e_dn, e_dc, e_dc1, e_cb, e_cb1, e_cb2, e_ls, e_ls1, e_tp, e_tp1, e_np, e_ip, e_ip1, e_sl, e_sl1, e_sl2, e_sl3, e_rv, e_rv1, e_rv2, e_te, e_te1, e_at, e_at1, e_at2, e_ot, e_ot1, e_ot2, e_nt, e_nt1, e_ae, e_ae1, e_ae2, e_oe, e_oe1, e_oe2, e_ne, e_ne1, e_ie, e_ie1, e_ie2, e_ch, e_ch1, e_ch2, e_ch3, e_ch4, e_ch5, e_cl, e_cl1, e_cx, e_cx1, e_cx2, e_cx3, e_cx4, e_cx5, e_cz, e_cz1, e_cz2, e_cz3, e_cz4, e_ro1, e_ro2, e_pl1, e_pl2, e_pl3, e_pl4, e_ld0, e_ld1, e_ld2, e_ld3, e_ld4, e_ld5, e_pb0, e_pb1, e_pb2, e_pb3, e_sq, e_sq1, e_sq2, e_sq3, e_sq4, e_nx, e_rt, e_rt1, e_dp, e_dp1, e_is, e_is1, e_is2, e_as, e_as1, e_as2, e_as3, e_as4, e_st, e_st1, e_st2, e_st3, e_st4, e_st5, e_st6, e_up, e_up1, e_up2, e_pr, e_pr3, e_pr1, e_sa0, e_sa1, e_sa2, e_lt, e_lt1, e_ng, e_tg, e_gn, e_gc, e_gc1, e_fr, e_fr1, e_lp1, e_lp2, e_lp3, e_lp4, e_lp5, e_wh1, e_wh2, e_wh3, e_wh4, e_wh5, e_si, e_si1, e_si2, e_si3, e_r1, e_r11, e_r2, e_r21, e_en, e_en1, e_lc, e_lc1, e_lc2, e_lc3, e_lcn1, e_lcn2, e_lcn3, e_lcn4, e_ye, e_wi0, e_wi1, e_re0, e_re1, e_no0, e_no1, e_ow1, e_ow2, e_df1, e_df2, e_df3, e_rs1, e_rs2, e_rs3, e_rs4, e_rs5, e_ou, e_ou1, e_ou2, e_mu, e_mu1, e_mu6, e_mu2, e_mu3, e_mu4, e_mu5, g_addI, g_addL, g_sub, g_lt, g_le, g_gt, g_ge, g_mod, g_div, g_mulL, g_eqI, g_neI, g_eqB, g_neB, g_eqS, g_ixL, g_ixR, g_ixT, g_ix1, g_lenL, g_lenR, g_lenT, g_intI, g_intB, g_min2, g_max2, g_app, g_slL, g_slT, g_neg, g_atI0, g_atI1, g_atIl, g_ixN0, g_ixN1, g_powM3, g_powM5, g_mulR, List.getElem?_cons_zero, List.getElem?_cons_succ, List.getD_cons_zero, List.getD_cons_succ, List.set_cons_zero, List.set_cons_succ, Bool.and_true, Bool.true_and, Bool.and_false, Bool.false_and, decide_true, decide_false, Bool.not_true, Bool.not_false, List.length_cons, List.length_nil, Nat.reduceAdd, Nat.reduceMul, Nat.reduceSub, Nat.reduceLT, Nat.reduceLeDiff, Nat.reduceEqDiff, Int.reduceAdd, Int.reduceMul, Int.reduceSub, Int.reduceNeg, Int.reduceLT, Int.reduceLE, Int.reduceMod, Int.reduceDiv, Int.reducePow, Int.reduceToNat, Bool.false_eq_true, if_true, if_false, gt_iff_lt, ge_iff_le, g_eqIs, g_neIs, g_eqBs, g_neBs, g_eqI0, g_neI0, g_neT0, g_inB, g_inN, h_ss, h_ss1, h_ssG, h_min, h_tup, h_lst, h_flT, h_flL, h_flB, h_flb, h_fli, h_fln, h_flN, h_flS, h_mapi, h_mapb, h_mapI, h_mapB, h_revI, h_eu, h_eu1, h_eu2, h_r3, h_r31, h_fd, h_fd1, h_fd2, h_fd3, h_fs, h_fs1, h_fs2, h_fs3, h_mk, h_mk1, h_mk2, h_me, h_me1, h_me2, h_me3, h_io, h_eo, h_no, h_eo1, g_eqTs, h_apd0, h_apd1, h_apo0, h_apo1, h_cn, h_cn1, h_cn2, h_pk0, h_pk1, h_pk2, h_nw, h_nw1, e_tu, e_tu1, e_af1, e_af2, e_af3, e_af4, e_wl1, e_wl2, e_lct, e_lct1, e_lct2, e_lct3, e_lct4, e_ni, e_ni1, e_lg1, e_lg2, e_lg3, e_lg4, e_lg5, e_ixw, e_ixw1, e_ixw2, e_ixw3, e_aow, e_aow1, e_aow2, e_aow3, e_zu, e_zu1, e_zu2, e_mulT, e_mxI, e_mnI, e_mxL, e_mnL, e_mxT, e_mnT, e_lgm, e_lgm1, e_lgm2, e_lgm3, e_tupT, e_lstT, e_lgc, e_lgc2, e_gd1, e_gd2, e_gpl, e_gpl1, e_gnx, e_gsq, e_gsq1, e_gyd, e_gyd1, e_gfr, e_gfr1, e_glp1, e_glpN, ends_some, Int.sub_zero, Int.add_zero, Int.zero_add, and_self, and_true, true_and, and_false, false_and, ne_eq, not_false_eq_true, not_true_eq_false, Bool.or_true, Bool.true_or, Bool.or_false, Bool.false_or, Option.some.injEq, reduceCtorEq, e, h1', hx, h2, pow1018, Nat.reduceLeDiff]
    · refine ⟨(0, s'), ?_⟩
      simp only [SD, en_law_source, m_law_source, e_var, e_var1, e_var2, e_var3, e_dat, e_der1, e_der2, e_der3, e_sd1, e_sd2, e_sd3, e_op, e_op1, e_op2, e_op3, e_op4, e_un, e_un1, e_un2, e_sol, e_sol1, e_sol2, e_sol3, e_sol4, e_sol5, e_da, e_da1, e_na, e_ca, e_ca1, e_ca2, e_nd, e_cd, e_cd1, e_cd2, e_dn, e_dc, e_dc1, e_cb, e_cb1, e_cb2, e_ls, e_ls1, e_tp, e_tp1, e_np, e_ip, e_ip1, e_sl, e_sl1, e_sl2, e_sl3, e_rv, e_rv1, e_rv2, e_te, e_te1, e_at, e_at1, e_at2, e_ot, e_ot1, e_ot2, e_nt, e_nt1, e_ae, e_ae1, e_ae2, e_oe, e_oe1, e_oe2, e_ne, e_ne1, e_ie, e_ie1, e_ie2, e_ch, e_ch1, e_ch2, e_ch3, e_ch4, e_ch5, e_cl, e_cl1, e_cx, e_cx1, e_cx2, e_cx3, e_cx4, e_cx5, e_cz, e_cz1, e_cz2, e_cz3, e_cz4, e_ro1, e_ro2, e_pl1, e_pl2, e_pl3, e_pl4, e_ld0, e_ld1, e_ld2, e_ld3, e_ld4, e_ld5, e_pb0, e_pb1, e_pb2, e_pb3, e_sq, e_sq1, e_sq2, e_sq3, e_sq4, e_nx, e_rt, e_rt1, e_dp, e_dp1, e_is, e_is1, e_is2, e_as, e_as1, e_as2, e_as3, e_as4, e_st, e_st1, e_st2, e_st3, e_st4, e_st5, e_st6, e_up, e_up1, e_up2, e_pr, e_pr3, e_pr1, e_sa0, e_sa1, e_sa2, e_lt, e_lt1, e_ng, e_tg, e_gn, e_gc, e_gc1, e_fr, e_fr1, e_lp1, e_lp2, e_lp3, e_lp4, e_lp5, e_wh1, e_wh2, e_wh3, e_wh4, e_wh5, e_si, e_si1, e_si2, e_si3, e_r1, e_r11, e_r2, e_r21, e_en, e_en1, e_lc, e_lc1, e_lc2, e_lc3, e_lcn1, e_lcn2, e_lcn3, e_lcn4, e_ye, e_wi0, e_wi1, e_re0, e_re1, e_no0, e_no1, e_ow1, e_ow2, e_df1, e_df2, e_df3, e_rs1, e_rs2, e_rs3, e_rs4, e_rs5, e_ou, e_ou1, e_ou2, e_mu, e_mu1, e_mu6, e_mu2, e_mu3, e_mu4, e_mu5, g_addI, g_addL, g_sub, g_lt, g_le, g_gt, g_ge, g_mod, g_div, g_mulL, g_eqI, g_neI, g_eqB, g_neB, g_eqS, g_ixL, g_ixR, g_ixT, g_ix1, g_lenL, g_lenR, g_lenT, g_intI, g_intB, g_min2, g_max2, g_app, g_slL, g_slT, g_neg, g_atI0, g_atI1, g_atIl, g_ixN0, g_ixN1, g_powM3, g_powM5, g_mulR, List.getElem?_cons_zero, List.getElem?_cons_succ, List.getD_cons_zero, List.getD_cons_succ, List.set_cons_zero, List.set_cons_succ, Bool.and_true, Bool.true_and, Bool.and_false, Bool.false_and, decide_true, decide_false, Bool.not_true, Bool.not_false, List.length_cons, List.length_nil, Nat.reduceAdd, Nat.reduceMul, Nat.reduceSub, Nat.reduceLT, Nat.reduceLeDiff, Nat.reduceEqDiff, Int.reduceAdd, Int.reduceMul, Int.reduceSub, Int.reduceNeg, Int.reduceLT, Int.reduceLE, Int.reduceMod, Int.reduceDiv, Int.reducePow, Int.reduceToNat, Bool.false_eq_true, if_true, if_false, gt_iff_lt, ge_iff_le, g_eqIs, g_neIs, g_eqBs, g_neBs, g_eqI0, g_neI0, g_neT0, g_inB, g_inN, h_ss, h_ss1, h_ssG, h_min, h_tup, h_lst, h_flT, h_flL, h_flB, h_flb, h_fli, h_fln, h_flN, h_flS, h_mapi, h_mapb, h_mapI, h_mapB, h_revI, h_eu, h_eu1, h_eu2, h_r3, h_r31, h_fd, h_fd1, h_fd2, h_fd3, h_fs, h_fs1, h_fs2, h_fs3, h_mk, h_mk1, h_mk2, h_me, h_me1, h_me2, h_me3, h_io, h_eo, h_no, h_eo1, g_eqTs, h_apd0, h_apd1, h_apo0, h_apo1, h_cn, h_cn1, h_cn2, h_pk0, h_pk1, h_pk2, h_nw, h_nw1, e_tu, e_tu1, e_af1, e_af2, e_af3, e_af4, e_wl1, e_wl2, e_lct, e_lct1, e_lct2, e_lct3, e_lct4, e_ni, e_ni1, e_lg1, e_lg2, e_lg3, e_lg4, e_lg5, e_ixw, e_ixw1, e_ixw2, e_ixw3, e_aow, e_aow1, e_aow2, e_aow3, e_zu, e_zu1, e_zu2, e_mulT, e_mxI, e_mnI, e_mxL, e_mnL, e_mxT, e_mnT, e_lgm, e_lgm1, e_lgm2, e_lgm3, e_tupT, e_lstT, e_lgc, e_lgc2, e_gd1, e_gd2, e_gpl, e_gpl1, e_gnx, e_gsq, e_gsq1, e_gyd, e_gyd1, e_gfr, e_gfr1, e_glp1, e_glpN, ends_some, Int.sub_zero, Int.add_zero, Int.zero_add, and_self, and_true, true_and, and_false, false_and, ne_eq, not_false_eq_true, not_true_eq_false, Bool.or_true, Bool.true_or, Bool.or_false, Bool.false_or, Option.some.injEq, reduceCtorEq, e, h1', hx, h2, pow1018, Nat.reduceLeDiff]
  · have h1' : ¬ (i : Int) < (ns.map D.int).length := by rw [List.length_map]; omega
    refine ⟨(0, s'), ?_⟩
    simp only [SD, en_law_source, m_law_source, e_var, e_var1, e_var2, e_var3, e_dat, e_der1, e_der2, e_der3, e_sd1, e_sd2, e_sd3, e_op, e_op1, e_op2, e_op3, e_op4, e_un, e_un1, e_un2, e_sol, e_sol1, e_sol2, e_sol3, e_sol4, e_sol5, e_da, e_da1, e_na, e_ca, e_ca1, e_ca2, e_nd, e_cd, e_cd1, e_cd2, e_dn, e_dc, e_dc1, e_cb, e_cb1, e_cb2, e_ls, e_ls1, e_tp, e_tp1, e_np, e_ip, e_ip1, e_sl, e_sl1, e_sl2, e_sl3, e_rv, e_rv1, e_rv2, e_te, e_te1, e_at, e_at1, e_at2, e_ot, e_ot1, e_ot2, e_nt, e_nt1, e_ae, e_ae1, e_ae2, e_oe, e_oe1, e_oe2, e_ne, e_ne1, e_ie, e_ie1, e_ie2, e_ch, e_ch1, e_ch2, e_ch3, e_ch4, e_ch5, e_cl, e_cl1, e_cx, e_cx1, e_cx2, e_cx3, e_cx4, e_cx5, e_cz, e_cz1, e_cz2, e_cz3, e_cz4, e_ro1, e_ro2, e_pl1, e_pl2, e_pl3, e_pl4, e_ld0, e_ld1, e_ld2, e_ld3, e_ld4, e_ld5, e_pb0, e_pb1, e_pb2, e_pb3, e_sq, e_sq1, e_sq2, e_sq3, e_sq4, e_nx, e_rt, e_rt1, e_dp, e_dp1, e_is, e_is1, e_is2, e_as, e_as1, e_as2, e_as3, e_as4, e_st, e_st1, e_st2, e_st3, e_st4, e_st5, e_st6, e_up, e_up1, e_up2, e_pr, e_pr3, e_pr1, e_sa0, e_sa1, e_sa2, e_lt, e_lt1, e_ng, e_tg, e_gn, e_gc, e_gc1, e_fr, e_fr1, e_lp1, e_lp2, e_lp3, e_lp4, e_lp5, e_wh1, e_wh2, e_wh3, e_wh4, e_wh5, e_si, e_si1, e_si2, e_si3, e_r1, e_r11, e_r2, e_r21, e_en, e_en1, e_lc, e_lc1, e_lc2, e_lc3, e_lcn1, e_lcn2, e_lcn3, e_lcn4, e_ye, e_wi0, e_wi1, e_re0, e_re1, e_no0, e_no1, e_ow1, e_ow2, e_df1, e_df2, e_df3, e_rs1, e_rs2, e_rs3, e_rs4, e_rs5, e_ou, e_ou1, e_ou2, e_mu, e_mu1, e_mu6, e_mu2, e_mu3, e_mu4, e_mu5, g_addI, g_addL, g_sub, g_lt, g_le, g_gt, g_ge, g_mod, g_div, g_mulL, g_eqI, g_neI, g_eqB, g_neB, g_eqS, g_ixL, g_ixR, g_ixT, g_ix1, g_lenL, g_lenR, g_lenT, g_intI, g_intB, g_min2, g_max2, g_app, g_slL, g_slT, g_neg, g_atI0, g_atI1, g_atIl, g_ixN0, g_ixN1, g_powM3, g_powM5, g_mulR, List.getElem?_cons_zero, List.getElem?_cons_succ, List.getD_cons_zero, List.getD_cons_succ, List.set_cons_zero, List.set_cons_succ, Bool.and_true, Bool.true_and, Bool.and_false, Bool.false_and, decide_true, decide_false, Bool.not_true, Bool.not_false, List.length_cons, List.length_nil, Nat.reduceAdd, Nat.reduceMul, Nat.reduceSub, Nat.reduceLT, Nat.reduceLeDiff, Nat.reduceEqDiff, Int.reduceAdd, Int.reduceMul, Int.reduceSub, Int.reduceNeg, Int.reduceLT, Int.reduceLE, Int.reduceMod, Int.reduceDiv, Int.reducePow, Int.reduceToNat, Bool.false_eq_true, if_true, if_false, gt_iff_lt, ge_iff_le, g_eqIs, g_neIs, g_eqBs, g_neBs, g_eqI0, g_neI0, g_neT0, g_inB, g_inN, h_ss, h_ss1, h_ssG, h_min, h_tup, h_lst, h_flT, h_flL, h_flB, h_flb, h_fli, h_fln, h_flN, h_flS, h_mapi, h_mapb, h_mapI, h_mapB, h_revI, h_eu, h_eu1, h_eu2, h_r3, h_r31, h_fd, h_fd1, h_fd2, h_fd3, h_fs, h_fs1, h_fs2, h_fs3, h_mk, h_mk1, h_mk2, h_me, h_me1, h_me2, h_me3, h_io, h_eo, h_no, h_eo1, g_eqTs, h_apd0, h_apd1, h_apo0, h_apo1, h_cn, h_cn1, h_cn2, h_pk0, h_pk1, h_pk2, h_nw, h_nw1, e_tu, e_tu1, e_af1, e_af2, e_af3, e_af4, e_wl1, e_wl2, e_lct, e_lct1, e_lct2, e_lct3, e_lct4, e_ni, e_ni1, e_lg1, e_lg2, e_lg3, e_lg4, e_lg5, e_ixw, e_ixw1, e_ixw2, e_ixw3, e_aow, e_aow1, e_aow2, e_aow3, e_zu, e_zu1, e_zu2, e_mulT, e_mxI, e_mnI, e_mxL, e_mnL, e_mxT, e_mnT, e_lgm, e_lgm1, e_lgm2, e_lgm3, e_tupT, e_lstT, e_lgc, e_lgc2, e_gd1, e_gd2, e_gpl, e_gpl1, e_gnx, e_gsq, e_gsq1, e_gyd, e_gyd1, e_gfr, e_gfr1, e_glp1, e_glpN, ends_some, Int.sub_zero, Int.add_zero, Int.zero_add, and_self, and_true, true_and, and_false, false_and, ne_eq, not_false_eq_true, not_true_eq_false, Bool.or_true, Bool.true_or, Bool.or_false, Bool.false_or, Option.some.injEq, reduceCtorEq, e, h1', Nat.reduceLeDiff]
/-! a choice -/
def chv {α : Type} (s : Strm) (xs : List α) (d : α) : α := xs.getD (drv s (xs.length : Int)).toNat d
def chs {α : Type} (s : Strm) (xs : List α) : Strm := drs s (xs.length : Int)
theorem chv_mem {α : Type} {s : Strm} {xs : List α} {d : α} (h : xs ≠ []) : chv s xs d ∈ xs := by
  have hl : 0 < xs.length := List.length_pos_iff.mpr h
  have := drv_ok (s := s) (n := (xs.length : Int)) (by omega)
  unfold chv
  rw [List.getD_eq_getElem?_getD, List.getElem?_eq_getElem (by omega)]
  exact List.getElem_mem _
theorem choose_at {α : Type} (s : Strm) (enc : α → D) (xs : List α) (d : α) (h : xs ≠ []) : L2.atI (xs.map enc) (drv s (xs.length : Int)) = some (enc (chv s xs d)) := by
  have hl : 0 < xs.length := List.length_pos_iff.mpr h
  have := drv_ok (s := s) (n := (xs.length : Int)) (by omega)
  rw [atI_pos this.1 (by rw [List.length_map]; omega), List.getElem?_map, List.getElem?_eq_getElem (by omega)]
  unfold chv
  rw [List.getD_eq_getElem?_getD, List.getElem?_eq_getElem (by omega)]
  rfl
theorem choose_eq {α : Type} (s : Strm) (enc : α → D) (xs : List α) (d : α) (h : xs ≠ []) (h2 : xs.length ≤ 100000) : f_law_pick [SD s, .lst (xs.map enc)] = some (.dat (enc (chv s xs d)), SD (chs s xs)) := by
  have hl : 0 < xs.length := List.length_pos_iff.mpr h
  have ea := choose_at s enc xs d h
  have ed := draw_eq s (xs.length : Int) (by omega) (by omega)
  unfold chs
  simp only [en_law_pick, m_law_pick, e_var, e_var1, e_var2, e_var3, e_dat, e_der1, e_der2, e_der3, e_sd1, e_sd2, e_sd3, e_op, e_op1, e_op2, e_op3, e_op4, e_un, e_un1, e_un2, e_sol, e_sol1, e_sol2, e_sol3, e_sol4, e_sol5, e_da, e_da1, e_na, e_ca, e_ca1, e_ca2, e_nd, e_cd, e_cd1, e_cd2, e_dn, e_dc, e_dc1, e_cb, e_cb1, e_cb2, e_ls, e_ls1, e_tp, e_tp1, e_np, e_ip, e_ip1, e_sl, e_sl1, e_sl2, e_sl3, e_rv, e_rv1, e_rv2, e_te, e_te1, e_at, e_at1, e_at2, e_ot, e_ot1, e_ot2, e_nt, e_nt1, e_ae, e_ae1, e_ae2, e_oe, e_oe1, e_oe2, e_ne, e_ne1, e_ie, e_ie1, e_ie2, e_ch, e_ch1, e_ch2, e_ch3, e_ch4, e_ch5, e_cl, e_cl1, e_cx, e_cx1, e_cx2, e_cx3, e_cx4, e_cx5, e_cz, e_cz1, e_cz2, e_cz3, e_cz4, e_ro1, e_ro2, e_pl1, e_pl2, e_pl3, e_pl4, e_ld0, e_ld1, e_ld2, e_ld3, e_ld4, e_ld5, e_pb0, e_pb1, e_pb2, e_pb3, e_sq, e_sq1, e_sq2, e_sq3, e_sq4, e_nx, e_rt, e_rt1, e_dp, e_dp1, e_is, e_is1, e_is2, e_as, e_as1, e_as2, e_as3, e_as4, e_st, e_st1, e_st2, e_st3, e_st4, e_st5, e_st6, e_up, e_up1, e_up2, e_pr, e_pr3, e_pr1, e_sa0, e_sa1, e_sa2, e_lt, e_lt1, e_ng, e_tg, e_gn, e_gc, e_gc1, e_fr, e_fr1, e_lp1, e_lp2, e_lp3, e_lp4, e_lp5, e_wh1, e_wh2, e_wh3, e_wh4, e_wh5, e_si, e_si1, e_si2, e_si3, e_r1, e_r11, e_r2, e_r21, e_en, e_en1, e_lc, e_lc1, e_lc2, e_lc3, e_lcn1, e_lcn2, e_lcn3, e_lcn4, e_ye, e_wi0, e_wi1, e_re0, e_re1, e_no0, e_no1, e_ow1, e_ow2, e_df1, e_df2, e_df3, e_rs1, e_rs2, e_rs3, e_rs4, e_rs5, e_ou, e_ou1, e_ou2, e_mu, e_mu1, e_mu6, e_mu2, e_mu3, e_mu4, e_mu5, g_addI, g_addL, g_sub, g_lt, g_le, g_gt, g_ge, g_mod, g_div, g_mulL, g_eqI, g_neI, g_eqB, g_neB, g_eqS, g_ixL, g_ixR, g_ixT, g_ix1, g_lenL, g_lenR, g_lenT, g_intI, g_intB, g_min2, g_max2, g_app, g_slL, g_slT, g_neg, g_atI0, g_atI1, g_atIl, g_ixN0, g_ixN1, g_powM3, g_powM5, g_mulR, List.getElem?_cons_zero, List.getElem?_cons_succ, List.getD_cons_zero, List.getD_cons_succ, List.set_cons_zero, List.set_cons_succ, Bool.and_true, Bool.true_and, Bool.and_false, Bool.false_and, decide_true, decide_false, Bool.not_true, Bool.not_false, List.length_cons, List.length_nil, Nat.reduceAdd, Nat.reduceMul, Nat.reduceSub, Nat.reduceLT, Nat.reduceLeDiff, Nat.reduceEqDiff, Int.reduceAdd, Int.reduceMul, Int.reduceSub, Int.reduceNeg, Int.reduceLT, Int.reduceLE, Int.reduceMod, Int.reduceDiv, Int.reducePow, Int.reduceToNat, Bool.false_eq_true, if_true, if_false, gt_iff_lt, ge_iff_le, g_eqIs, g_neIs, g_eqBs, g_neBs, g_eqI0, g_neI0, g_neT0, g_inB, g_inN, h_ss, h_ss1, h_ssG, h_min, h_tup, h_lst, h_flT, h_flL, h_flB, h_flb, h_fli, h_fln, h_flN, h_flS, h_mapi, h_mapb, h_mapI, h_mapB, h_revI, h_eu, h_eu1, h_eu2, h_r3, h_r31, h_fd, h_fd1, h_fd2, h_fd3, h_fs, h_fs1, h_fs2, h_fs3, h_mk, h_mk1, h_mk2, h_me, h_me1, h_me2, h_me3, h_io, h_eo, h_no, h_eo1, g_eqTs, h_apd0, h_apd1, h_apo0, h_apo1, h_cn, h_cn1, h_cn2, h_pk0, h_pk1, h_pk2, h_nw, h_nw1, e_tu, e_tu1, e_af1, e_af2, e_af3, e_af4, e_wl1, e_wl2, e_lct, e_lct1, e_lct2, e_lct3, e_lct4, e_ni, e_ni1, e_lg1, e_lg2, e_lg3, e_lg4, e_lg5, e_ixw, e_ixw1, e_ixw2, e_ixw3, e_aow, e_aow1, e_aow2, e_aow3, e_zu, e_zu1, e_zu2, e_mulT, e_mxI, e_mnI, e_mxL, e_mnL, e_mxT, e_mnT, e_lgm, e_lgm1, e_lgm2, e_lgm3, e_tupT, e_lstT, e_lgc, e_lgc2, e_gd1, e_gd2, e_gpl, e_gpl1, e_gnx, e_gsq, e_gsq1, e_gyd, e_gyd1, e_gfr, e_gfr1, e_glp1, e_glpN, ends_some, Int.sub_zero, Int.add_zero, Int.zero_add, and_self, and_true, true_and, and_false, false_and, ne_eq, not_false_eq_true, not_true_eq_false, Bool.or_true, Bool.true_or, Bool.or_false, Bool.false_or, Option.some.injEq, reduceCtorEq, List.length_map, ed, ea]
theorem choose_eqT {α : Type} (s : Strm) (enc : α → D) (xs : List α) (d : α) (h : xs ≠ []) (h2 : xs.length ≤ 100000) : f_law_pick [SD s, .tup (xs.map enc)] = some (.dat (enc (chv s xs d)), SD (chs s xs)) := by
  have hl : 0 < xs.length := List.length_pos_iff.mpr h
  have ea := choose_at s enc xs d h
  have ed := draw_eq s (xs.length : Int) (by omega) (by omega)
  unfold chs
  simp only [en_law_pick, m_law_pick, e_var, e_var1, e_var2, e_var3, e_dat, e_der1, e_der2, e_der3, e_sd1, e_sd2, e_sd3, e_op, e_op1, e_op2, e_op3, e_op4, e_un, e_un1, e_un2, e_sol, e_sol1, e_sol2, e_sol3, e_sol4, e_sol5, e_da, e_da1, e_na, e_ca, e_ca1, e_ca2, e_nd, e_cd, e_cd1, e_cd2, e_dn, e_dc, e_dc1, e_cb, e_cb1, e_cb2, e_ls, e_ls1, e_tp, e_tp1, e_np, e_ip, e_ip1, e_sl, e_sl1, e_sl2, e_sl3, e_rv, e_rv1, e_rv2, e_te, e_te1, e_at, e_at1, e_at2, e_ot, e_ot1, e_ot2, e_nt, e_nt1, e_ae, e_ae1, e_ae2, e_oe, e_oe1, e_oe2, e_ne, e_ne1, e_ie, e_ie1, e_ie2, e_ch, e_ch1, e_ch2, e_ch3, e_ch4, e_ch5, e_cl, e_cl1, e_cx, e_cx1, e_cx2, e_cx3, e_cx4, e_cx5, e_cz, e_cz1, e_cz2, e_cz3, e_cz4, e_ro1, e_ro2, e_pl1, e_pl2, e_pl3, e_pl4, e_ld0, e_ld1, e_ld2, e_ld3, e_ld4, e_ld5, e_pb0, e_pb1, e_pb2, e_pb3, e_sq, e_sq1, e_sq2, e_sq3, e_sq4, e_nx, e_rt, e_rt1, e_dp, e_dp1, e_is, e_is1, e_is2, e_as, e_as1, e_as2, e_as3, e_as4, e_st, e_st1, e_st2, e_st3, e_st4, e_st5, e_st6, e_up, e_up1, e_up2, e_pr, e_pr3, e_pr1, e_sa0, e_sa1, e_sa2, e_lt, e_lt1, e_ng, e_tg, e_gn, e_gc, e_gc1, e_fr, e_fr1, e_lp1, e_lp2, e_lp3, e_lp4, e_lp5, e_wh1, e_wh2, e_wh3, e_wh4, e_wh5, e_si, e_si1, e_si2, e_si3, e_r1, e_r11, e_r2, e_r21, e_en, e_en1, e_lc, e_lc1, e_lc2, e_lc3, e_lcn1, e_lcn2, e_lcn3, e_lcn4, e_ye, e_wi0, e_wi1, e_re0, e_re1, e_no0, e_no1, e_ow1, e_ow2, e_df1, e_df2, e_df3, e_rs1, e_rs2, e_rs3, e_rs4, e_rs5, e_ou, e_ou1, e_ou2, e_mu, e_mu1, e_mu6, e_mu2, e_mu3, e_mu4, e_mu5, g_addI, g_addL, g_sub, g_lt, g_le, g_gt, g_ge, g_mod, g_div, g_mulL, g_eqI, g_neI, g_eqB, g_neB, g_eqS, g_ixL, g_ixR, g_ixT, g_ix1, g_lenL, g_lenR, g_lenT, g_intI, g_intB, g_min2, g_max2, g_app, g_slL, g_slT, g_neg, g_atI0, g_atI1, g_atIl, g_ixN0, g_ixN1, g_powM3, g_powM5, g_mulR, List.getElem?_cons_zero, List.getElem?_cons_succ, List.getD_cons_zero, List.getD_cons_succ, List.set_cons_zero, List.set_cons_succ, Bool.and_true, Bool.true_and, Bool.and_false, Bool.false_and, decide_true, decide_false, Bool.not_true, Bool.not_false, List.length_cons, List.length_nil, Nat.reduceAdd, Nat.reduceMul, Nat.reduceSub, Nat.reduceLT, Nat.reduceLeDiff, Nat.reduceEqDiff, Int.reduceAdd, Int.reduceMul, Int.reduceSub, Int.reduceNeg, Int.reduceLT, Int.reduceLE, Int.reduceMod, Int.reduceDiv, Int.reducePow, Int.reduceToNat, Bool.false_eq_true, if_true, if_false, gt_iff_lt, ge_iff_le, g_eqIs, g_neIs, g_eqBs, g_neBs, g_eqI0, g_neI0, g_neT0, g_inB, g_inN, h_ss, h_ss1, h_ssG, h_min, h_tup, h_lst, h_flT, h_flL, h_flB, h_flb, h_fli, h_fln, h_flN, h_flS, h_mapi, h_mapb, h_mapI, h_mapB, h_revI, h_eu, h_eu1, h_eu2, h_r3, h_r31, h_fd, h_fd1, h_fd2, h_fd3, h_fs, h_fs1, h_fs2, h_fs3, h_mk, h_mk1, h_mk2, h_me, h_me1, h_me2, h_me3, h_io, h_eo, h_no, h_eo1, g_eqTs, h_apd0, h_apd1, h_apo0, h_apo1, h_cn, h_cn1, h_cn2, h_pk0, h_pk1, h_pk2, h_nw, h_nw1, e_tu, e_tu1, e_af1, e_af2, e_af3, e_af4, e_wl1, e_wl2, e_lct, e_lct1, e_lct2, e_lct3, e_lct4, e_ni, e_ni1, e_lg1, e_lg2, e_lg3, e_lg4, e_lg5, e_ixw, e_ixw1, e_ixw2, e_ixw3, e_aow, e_aow1, e_aow2, e_aow3, e_zu, e_zu1, e_zu2, e_mulT, e_mxI, e_mnI, e_mxL, e_mnL, e_mxT, e_mnT, e_lgm, e_lgm1, e_lgm2, e_lgm3, e_tupT, e_lstT, e_lgc, e_lgc2, e_gd1, e_gd2, e_gpl, e_gpl1, e_gnx, e_gsq, e_gsq1, e_gyd, e_gyd1, e_gfr, e_gfr1, e_glp1, e_glpN, ends_some, Int.sub_zero, Int.add_zero, Int.zero_add, and_self, and_true, true_and, and_false, false_and, ne_eq, not_false_eq_true, not_true_eq_false, Bool.or_true, Bool.true_or, Bool.or_false, Bool.false_or, Option.some.injEq, reduceCtorEq, List.length_map, ed, ea]
end PL

namespace PL
open PySem PySem.Spec PyProof.Rows L2 DV

/-! k07: cutting up -/
theorem cut_loop (c : Int) (h0 : 0 < c) (hc : c ≤ 1000) : ∀ (g : Nat) (s : Int) (acc : List Int), 0 < s → s.toNat < g → acc.length + s.toNat ≤ 90000 → ∃ (s' : Int) (acc' : List Int), acc' ++ [s'] = acc ++ cu c s ∧ acc'.length ≤ acc.length + s.toNat ∧
    whileL c1_law_cut_up b2_law_cut_up g [.val (.int s), .val (.int c), .own (.lst (acc.map .int))] = some (.nx [.val (.int s'), .val (.int c), .own (.lst (acc'.map .int))])
  | 0, s, acc, _, hg, _ => by omega
  | g + 1, s, acc, hs, hg, hl => by
    by_cases h : c < s
    · have hlen : (acc.map D.int).length < 100000 := by rw [List.length_map]; omega
      obtain ⟨s', acc', e1, e2, e3⟩ := cut_loop c h0 hc g (s - c) (acc ++ [c]) (by omega) (by omega) (by simp; omega)
      refine ⟨s', acc', by rw [e1, cu_lt h0 h]; simp, by simp at e2; omega, ?_⟩
      rw [e_wh]
      have ec : c1_law_cut_up [.val (.int s), .val (.int c), .own (.lst (acc.map .int))] = some (true, [.val (.int s), .val (.int c), .own (.lst (acc.map .int))]) := by
        simp only [c1_law_cut_up, e_var, e_var1, e_var2, e_var3, e_dat, e_der1, e_der2, e_der3, e_sd1, e_sd2, e_sd3, e_op, e_op1, e_op2, e_op3, e_op4, e_un, e_un1, e_un2, e_sol, e_sol1, e_sol2, e_sol3, e_sol4, e_sol5, e_da, e_da1, e_na, e_ca, e_ca1, e_ca2, e_nd, e_cd, e_cd1, e_cd2, e_dn, e_dc, e_dc1, e_cb, e_cb1, e_cb2, e_ls, e_ls1, e_tp, e_tp1, e_np, e_ip, e_ip1, e_sl, e_sl1, e_sl2, e_sl3, e_rv, e_rv1, e_rv2, e_te, e_te1, e_at, e_at1, e_at2, e_ot, e_ot1, e_ot2, e_nt, e_nt1, e_ae, e_ae1, e_ae2, e_oe, e_oe1, e_oe2, e_ne, e_ne1, e_ie, e_ie1, e_ie2, e_ch, e_ch1, e_ch2, e_ch3, e_ch4, e_ch5, e_cl, e_cl1, e_cx, e_cx1, e_cx2, e_cx3, e_cx4, e_cx5, e_cz, e_cz1, e_cz2, e_cz3, e_cz4, e_ro1, e_ro2, e_pl1, e_pl2, e_pl3, e_pl4, e_ld0, e_ld1, e_ld2, e_ld3, e_ld4, e_ld5, e_pb0, e_pb1, e_pb2, e_pb3, e_sq, e_sq1, e_sq2, e_sq3, e_sq4, e_nx, e_rt, e_rt1, e_dp, e_dp1, e_is, e_is1, e_is2, e_as, e_as1, e_as2, e_as3, e_as4, e_st, e_st1, e_st2, e_st3, e_st4, e_st5, e_st6, e_up, e_up1, e_up2, e_pr, e_pr3, e_pr1, e_sa0, e_sa1, e_sa2, e_lt, e_lt1, e_ng, e_tg, e_gn, e_gc, e_gc1, e_fr, e_fr1, e_lp1, e_lp2, e_lp3, e_lp4, e_lp5, e_wh1, e_wh2, e_wh3, e_wh4, e_wh5, e_si, e_si1, e_si2, e_si3, e_r1, e_r11, e_r2, e_r21, e_en, e_en1, e_lc, e_lc1, e_lc2, e_lc3, e_lcn1, e_lcn2, e_lcn3, e_lcn4, e_ye, e_wi0, e_wi1, e_re0, e_re1, e_no0, e_no1, e_ow1, e_ow2, e_df1, e_df2, e_df3, e_rs1, e_rs2, e_rs3, e_rs4, e_rs5, e_ou, e_ou1, e_ou2, e_mu, e_mu1, e_mu6, e_mu2, e_mu3, e_mu4, e_mu5, g_addI, g_addL, g_sub, g_lt, g_le, g_gt, g_ge, g_mod, g_div, g_mulL, g_eqI, g_neI, g_eqB, g_neB, g_eqS, g_ixL, g_ixR, g_ixT, g_ix1, g_lenL, g_lenR, g_lenT, g_intI, g_intB, g_min2, g_max2, g_app, g_slL, g_slT, g_neg, g_atI0, g_atI1, g_atIl, g_ixN0, g_ixN1, g_powM3, g_powM5, g_mulR, List.getElem?_cons_zero, List.getElem?_cons_succ, List.getD_cons_zero, List.getD_cons_succ, List.set_cons_zero, List.set_cons_succ, Bool.and_true, Bool.true_and, Bool.and_false, Bool.false_and, decide_true, decide_false, Bool.not_true, Bool.not_false, List.length_cons, List.length_nil, Nat.reduceAdd, Nat.reduceMul, Nat.reduceSub, Nat.reduceLT, Nat.reduceLeDiff, Nat.reduceEqDiff, Int.reduceAdd, Int.reduceMul, Int.reduceSub, Int.reduceNeg, Int.reduceLT, Int.reduceLE, Int.reduceMod, Int.reduceDiv, Int.reducePow, Int.reduceToNat, Bool.false_eq_true, if_true, if_false, gt_iff_lt, ge_iff_le, g_eqIs, g_neIs, g_eqBs, g_neBs, g_eqI0, g_neI0, g_neT0, g_inB, g_inN, h_ss, h_ss1, h_ssG, h_min, h_tup, h_lst, h_flT, h_flL, h_flB, h_flb, h_fli, h_fln, h_flN, h_flS, h_mapi, h_mapb, h_mapI, h_mapB, h_revI, h_eu, h_eu1, h_eu2, h_r3, h_r31, h_fd, h_fd1, h_fd2, h_fd3, h_fs, h_fs1, h_fs2, h_fs3, h_mk, h_mk1, h_mk2, h_me, h_me1, h_me2, h_me3, h_io, h_eo, h_no, h_eo1, g_eqTs, h_apd0, h_apd1, h_apo0, h_apo1, h_cn, h_cn1, h_cn2, h_pk0, h_pk1, h_pk2, h_nw, h_nw1, e_tu, e_tu1, e_af1, e_af2, e_af3, e_af4, e_wl1, e_wl2, e_lct, e_lct1, e_lct2, e_lct3, e_lct4, e_ni, e_ni1, e_lg1, e_lg2, e_lg3, e_lg4, e_lg5, e_ixw, e_ixw1, e_ixw2, e_ixw3, e_aow, e_aow1, e_aow2, e_aow3, e_zu, e_zu1, e_zu2, e_mulT, e_mxI, e_mnI, e_mxL, e_mnL, e_mxT, e_mnT, e_lgm, e_lgm1, e_lgm2, e_lgm3, e_tupT, e_lstT, e_lgc, e_lgc2, e_gd1, e_gd2, e_gpl, e_gpl1, e_gnx, e_gsq, e_gsq1, e_gyd, e_gyd1, e_gfr, e_gfr1, e_glp1, e_glpN, ends_some, Int.sub_zero, Int.add_zero, Int.zero_add, and_self, and_true, true_and, and_false, false_and, ne_eq, not_false_eq_true, not_true_eq_false, Bool.or_true, Bool.true_or, Bool.or_false, Bool.false_or, Option.some.injEq, reduceCtorEq, h]
      have eb : b2_law_cut_up [.val (.int s), .val (.int c), .own (.lst (acc.map .int))] = some (.nx [.val (.int (s - c)), .val (.int c), .own (.lst ((acc ++ [c]).map .int))]) := by
        rw [List.map_append, List.map_cons, List.map_nil]
        generalize acc.map D.int = z at hlen
        simp only [b2_law_cut_up, e_var, e_var1, e_var2, e_var3, e_dat, e_der1, e_der2, e_der3, e_sd1, e_sd2, e_sd3, e_op, e_op1, e_op2, e_op3, e_op4, e_un, e_un1, e_un2, e_sol, e_sol1, e_sol2, e_sol3, e_sol4, e_sol5, e_da, e_da1, e_na, e_ca, e_ca1, e_ca2, e_nd, e_cd, e_cd1, e_cd2, e_dn, e_dc, e_dc1, e_cb, e_cb1, e_cb2, e_ls, e_ls1, e_tp, e_tp1, e_np, e_ip, e_ip1, e_sl, e_sl1, e_sl2, e_sl3, e_rv, e_rv1, e_rv2, e_te, e_te1, e_at, e_at1, e_at2, e_ot, e_ot1, e_ot2, e_nt, e_nt1, e_ae, e_ae1, e_ae2, e_oe, e_oe1, e_oe2, e_ne, e_ne1, e_ie, e_ie1, e_ie2, e_ch, e_ch1, e_ch2, e_ch3, e_ch4, e_ch5, e_cl, e_cl1, e_cx, e_cx1, e_cx2, e_cx3, e_cx4, e_cx5, e_cz, e_cz1, e_cz2, e_cz3, e_cz4, e_ro1, e_ro2, e_pl1, e_pl2, e_pl3, e_pl4, e_ld0, e_ld1, e_ld2, e_ld3, e_ld4, e_ld5, e_pb0, e_pb1, e_pb2, e_pb3, e_sq, e_sq1, e_sq2, e_sq3, e_sq4, e_nx, e_rt, e_rt1, e_dp, e_dp1, e_is, e_is1, e_is2, e_as, e_as1, e_as2, e_as3, e_as4, e_st, e_st1, e_st2, e_st3, e_st4, e_st5, e_st6, e_up, e_up1, e_up2, e_pr, e_pr3, e_pr1, e_sa0, e_sa1, e_sa2, e_lt, e_lt1, e_ng, e_tg, e_gn, e_gc, e_gc1, e_fr, e_fr1, e_lp1, e_lp2, e_lp3, e_lp4, e_lp5, e_wh1, e_wh2, e_wh3, e_wh4, e_wh5, e_si, e_si1, e_si2, e_si3, e_r1, e_r11, e_r2, e_r21, e_en, e_en1, e_lc, e_lc1, e_lc2, e_lc3, e_lcn1, e_lcn2, e_lcn3, e_lcn4, e_ye, e_wi0, e_wi1, e_re0, e_re1, e_no0, e_no1, e_ow1, e_ow2, e_df1, e_df2, e_df3, e_rs1, e_rs2, e_rs3, e_rs4, e_rs5, e_ou, e_ou1, e_ou2, e_mu, e_mu1, e_mu6, e_mu2, e_mu3, e_mu4, e_mu5, g_addI, g_addL, g_sub, g_lt, g_le, g_gt, g_ge, g_mod, g_div, g_mulL, g_eqI, g_neI, g_eqB, g_neB, g_eqS, g_ixL, g_ixR, g_ixT, g_ix1, g_lenL, g_lenR, g_lenT, g_intI, g_intB, g_min2, g_max2, g_app, g_slL, g_slT, g_neg, g_atI0, g_atI1, g_atIl, g_ixN0, g_ixN1, g_powM3, g_powM5, g_mulR, List.getElem?_cons_zero, List.getElem?_cons_succ, List.getD_cons_zero, List.getD_cons_succ, List.set_cons_zero, List.set_cons_succ, Bool.and_true, Bool.true_and, Bool.and_false, Bool.false_and, decide_true, decide_false, Bool.not_true, Bool.not_false, List.length_cons, List.length_nil, Nat.reduceAdd, Nat.reduceMul, Nat.reduceSub, Nat.reduceLT, Nat.reduceLeDiff, Nat.reduceEqDiff, Int.reduceAdd, Int.reduceMul, Int.reduceSub, Int.reduceNeg, Int.reduceLT, Int.reduceLE, Int.reduceMod, Int.reduceDiv, Int.reducePow, Int.reduceToNat, Bool.false_eq_true, if_true, if_false, gt_iff_lt, ge_iff_le, g_eqIs, g_neIs, g_eqBs, g_neBs, g_eqI0, g_neI0, g_neT0, g_inB, g_inN, h_ss, h_ss1, h_ssG, h_min, h_tup, h_lst, h_flT, h_flL, h_flB, h_flb, h_fli, h_fln, h_flN, h_flS, h_mapi, h_mapb, h_mapI, h_mapB, h_revI, h_eu, h_eu1, h_eu2, h_r3, h_r31, h_fd, h_fd1, h_fd2, h_fd3, h_fs, h_fs1, h_fs2, h_fs3, h_mk, h_mk1, h_mk2, h_me, h_me1, h_me2, h_me3, h_io, h_eo, h_no, h_eo1, g_eqTs, h_apd0, h_apd1, h_apo0, h_apo1, h_cn, h_cn1, h_cn2, h_pk0, h_pk1, h_pk2, h_nw, h_nw1, e_tu, e_tu1, e_af1, e_af2, e_af3, e_af4, e_wl1, e_wl2, e_lct, e_lct1, e_lct2, e_lct3, e_lct4, e_ni, e_ni1, e_lg1, e_lg2, e_lg3, e_lg4, e_lg5, e_ixw, e_ixw1, e_ixw2, e_ixw3, e_aow, e_aow1, e_aow2, e_aow3, e_zu, e_zu1, e_zu2, e_mulT, e_mxI, e_mnI, e_mxL, e_mnL, e_mxT, e_mnT, e_lgm, e_lgm1, e_lgm2, e_lgm3, e_tupT, e_lstT, e_lgc, e_lgc2, e_gd1, e_gd2, e_gpl, e_gpl1, e_gnx, e_gsq, e_gsq1, e_gyd, e_gyd1, e_gfr, e_gfr1, e_glp1, e_glpN, ends_some, Int.sub_zero, Int.add_zero, Int.zero_add, and_self, and_true, true_and, and_false, false_and, ne_eq, not_false_eq_true, not_true_eq_false, Bool.or_true, Bool.true_or, Bool.or_false, Bool.false_or, Option.some.injEq, reduceCtorEq, hlen]
      rw [ec, e_wh1, eb, e_wh3, e3]
    · refine ⟨s, acc, by rw [cu_ge h], by omega, ?_⟩
      have ec : c1_law_cut_up [.val (.int s), .val (.int c), .own (.lst (acc.map .int))] = some (false, [.val (.int s), .val (.int c), .own (.lst (acc.map .int))]) := by
        simp only [c1_law_cut_up, e_var, e_var1, e_var2, e_var3, e_dat, e_der1, e_der2, e_der3, e_sd1, e_sd2, e_sd3, e_op, e_op1, e_op2, e_op3, e_op4, e_un, e_un1, e_un2, e_sol, e_sol1, e_sol2, e_sol3, e_sol4, e_sol5, e_da, e_da1, e_na, e_ca, e_ca1, e_ca2, e_nd, e_cd, e_cd1, e_cd2, e_dn, e_dc, e_dc1, e_cb, e_cb1, e_cb2, e_ls, e_ls1, e_tp, e_tp1, e_np, e_ip, e_ip1, e_sl, e_sl1, e_sl2, e_sl3, e_rv, e_rv1, e_rv2, e_te, e_te1, e_at, e_at1, e_at2, e_ot, e_ot1, e_ot2, e_nt, e_nt1, e_ae, e_ae1, e_ae2, e_oe, e_oe1, e_oe2, e_ne, e_ne1, e_ie, e_ie1, e_ie2, e_ch, e_ch1, e_ch2, e_ch3, e_ch4, e_ch5, e_cl, e_cl1, e_cx, e_cx1, e_cx2, e_cx3, e_cx4, e_cx5, e_cz, e_cz1, e_cz2, e_cz3, e_cz4, e_ro1, e_ro2, e_pl1, e_pl2, e_pl3, e_pl4, e_ld0, e_ld1, e_ld2, e_ld3, e_ld4, e_ld5, e_pb0, e_pb1, e_pb2, e_pb3, e_sq, e_sq1, e_sq2, e_sq3, e_sq4, e_nx, e_rt, e_rt1, e_dp, e_dp1, e_is, e_is1, e_is2, e_as, e_as1, e_as2, e_as3, e_as4, e_st, e_st1, e_st2, e_st3, e_st4, e_st5, e_st6, e_up, e_up1, e_up2, e_pr, e_pr3, e_pr1, e_sa0, e_sa1, e_sa2, e_lt, e_lt1, e_ng, e_tg, e_gn, e_gc, e_gc1, e_fr, e_fr1, e_lp1, e_lp2, e_lp3, e_lp4, e_lp5, e_wh1, e_wh2, e_wh3, e_wh4, e_wh5, e_si, e_si1, e_si2, e_si3, e_r1, e_r11, e_r2, e_r21, e_en, e_en1, e_lc, e_lc1, e_lc2, e_lc3, e_lcn1, e_lcn2, e_lcn3, e_lcn4, e_ye, e_wi0, e_wi1, e_re0, e_re1, e_no0, e_no1, e_ow1, e_ow2, e_df1, e_df2, e_df3, e_rs1, e_rs2, e_rs3, e_rs4, e_rs5, e_ou, e_ou1, e_ou2, e_mu, e_mu1, e_mu6, e_mu2, e_mu3, e_mu4, e_mu5, g_addI, g_addL, g_sub, g_lt, g_le, g_gt, g_ge, g_mod, g_div, g_mulL, g_eqI, g_neI, g_eqB, g_neB, g_eqS, g_ixL, g_ixR, g_ixT, g_ix1, g_lenL, g_lenR, g_lenT, g_intI, g_intB, g_min2, g_max2, g_app, g_slL, g_slT, g_neg, g_atI0, g_atI1, g_atIl, g_ixN0, g_ixN1, g_powM3, g_powM5, g_mulR, List.getElem?_cons_zero, List.getElem?_cons_succ, List.getD_cons_zero, List.getD_cons_succ, List.set_cons_zero, List.set_cons_succ, Bool.and_true, Bool.true_and, Bool.and_false, Bool.false_and, decide_true, decide_false, Bool.not_true, Bool.not_false, List.length_cons, List.length_nil, Nat.reduceAdd, Nat.reduceMul, Nat.reduceSub, Nat.reduceLT, Nat.reduceLeDiff, Nat.reduceEqDiff, Int.reduceAdd, Int.reduceMul, Int.reduceSub, Int.reduceNeg, Int.reduceLT, Int.reduceLE, Int.reduceMod, Int.reduceDiv, Int.reducePow, Int.reduceToNat, Bool.false_eq_true, if_true, if_false, gt_iff_lt, ge_iff_le, g_eqIs, g_neIs, g_eqBs, g_neBs, g_eqI0, g_neI0, g_neT0, g_inB, g_inN, h_ss, h_ss1, h_ssG, h_min, h_tup, h_lst, h_flT, h_flL, h_flB, h_flb, h_fli, h_fln, h_flN, h_flS, h_mapi, h_mapb, h_mapI, h_mapB, h_revI, h_eu, h_eu1, h_eu2, h_r3, h_r31, h_fd, h_fd1, h_fd2, h_fd3, h_fs, h_fs1, h_fs2, h_fs3, h_mk, h_mk1, h_mk2, h_me, h_me1, h_me2, h_me3, h_io, h_eo, h_no, h_eo1, g_eqTs, h_apd0, h_apd1, h_apo0, h_apo1, h_cn, h_cn1, h_cn2, h_pk0, h_pk1, h_pk2, h_nw, h_nw1, e_tu, e_tu1, e_af1, e_af2, e_af3, e_af4, e_wl1, e_wl2, e_lct, e_lct1, e_lct2, e_lct3, e_lct4, e_ni, e_ni1, e_lg1, e_lg2, e_lg3, e_lg4, e_lg5, e_ixw, e_ixw1, e_ixw2, e_ixw3, e_aow, e_aow1, e_aow2, e_aow3, e_zu, e_zu1, e_zu2, e_mulT, e_mxI, e_mnI, e_mxL, e_mnL, e_mxT, e_mnT, e_lgm, e_lgm1, e_lgm2, e_lgm3, e_tupT, e_lstT, e_lgc, e_lgc2, e_gd1, e_gd2, e_gpl, e_gpl1, e_gnx, e_gsq, e_gsq1, e_gyd, e_gyd1, e_gfr, e_gfr1, e_glp1, e_glpN, ends_some, Int.sub_zero, Int.add_zero, Int.zero_add, and_self, and_true, true_and, and_false, false_and, ne_eq, not_false_eq_true, not_true_eq_false, Bool.or_true, Bool.true_or, Bool.or_false, Bool.false_or, Option.some.injEq, reduceCtorEq, h]
      rw [e_wh, ec, e_wh2]
theorem cut_up_eq (s c : Int) (h0 : 0 < c) (hc : c ≤ 1000) (hs : 0 < s) (hl : s ≤ 80000) : f_law_cut_up [.int s, .int c] = some (.fre (.lst ((cu c s).map .int)), .non) := by
  obtain ⟨s', acc', e1, e2, e3⟩ := cut_loop c h0 hc 1000000 s [] hs (by omega) (by simp; omega)
  rw [List.nil_append] at e1
  rw [List.map_nil] at e3
  have hl2 : (acc'.map D.int).length + 1 ≤ 100000 := by rw [List.length_map]; simp at e2; omega
  rw [← e1, List.map_append, List.map_cons, List.map_nil]
  generalize acc'.map D.int = z at e3 hl2
  simp only [en_law_cut_up, m_law_cut_up, e_var, e_var1, e_var2, e_var3, e_dat, e_der1, e_der2, e_der3, e_sd1, e_sd2, e_sd3, e_op, e_op1, e_op2, e_op3, e_op4, e_un, e_un1, e_un2, e_sol, e_sol1, e_sol2, e_sol3, e_sol4, e_sol5, e_da, e_da1, e_na, e_ca, e_ca1, e_ca2, e_nd, e_cd, e_cd1, e_cd2, e_dn, e_dc, e_dc1, e_cb, e_cb1, e_cb2, e_ls, e_ls1, e_tp, e_tp1, e_np, e_ip, e_ip1, e_sl, e_sl1, e_sl2, e_sl3, e_rv, e_rv1, e_rv2, e_te, e_te1, e_at, e_at1, e_at2, e_ot, e_ot1, e_ot2, e_nt, e_nt1, e_ae, e_ae1, e_ae2, e_oe, e_oe1, e_oe2, e_ne, e_ne1, e_ie, e_ie1, e_ie2, e_ch, e_ch1, e_ch2, e_ch3, e_ch4, e_ch5, e_cl, e_cl1, e_cx, e_cx1, e_cx2, e_cx3, e_cx4, e_cx5, e_cz, e_cz1, e_cz2, e_cz3, e_cz4, e_ro1, e_ro2, e_pl1, e_pl2, e_pl3, e_pl4, e_ld0, e_ld1, e_ld2, e_ld3, e_ld4, e_ld5, e_pb0, e_pb1, e_pb2, e_pb3, e_sq, e_sq1, e_sq2, e_sq3, e_sq4, e_nx, e_rt, e_rt1, e_dp, e_dp1, e_is, e_is1, e_is2, e_as, e_as1, e_as2, e_as3, e_as4, e_st, e_st1, e_st2, e_st3, e_st4, e_st5, e_st6, e_up, e_up1, e_up2, e_pr, e_pr3, e_pr1, e_sa0, e_sa1, e_sa2, e_lt, e_lt1, e_ng, e_tg, e_gn, e_gc, e_gc1, e_fr, e_fr1, e_lp1, e_lp2, e_lp3, e_lp4, e_lp5, e_wh1, e_wh2, e_wh3, e_wh4, e_wh5, e_si, e_si1, e_si2, e_si3, e_r1, e_r11, e_r2, e_r21, e_en, e_en1, e_lc, e_lc1, e_lc2, e_lc3, e_lcn1, e_lcn2, e_lcn3, e_lcn4, e_ye, e_wi0, e_wi1, e_re0, e_re1, e_no0, e_no1, e_ow1, e_ow2, e_df1, e_df2, e_df3, e_rs1, e_rs2, e_rs3, e_rs4, e_rs5, e_ou, e_ou1, e_ou2, e_mu, e_mu1, e_mu6, e_mu2, e_mu3, e_mu4, e_mu5, g_addI, g_addL, g_sub, g_lt, g_le, g_gt, g_ge, g_mod, g_div, g_mulL, g_eqI, g_neI, g_eqB, g_neB, g_eqS, g_ixL, g_ixR, g_ixT, g_ix1, g_lenL, g_lenR, g_lenT, g_intI, g_intB, g_min2, g_max2, g_app, g_slL, g_slT, g_neg, g_atI0, g_atI1, g_atIl, g_ixN0, g_ixN1, g_powM3, g_powM5, g_mulR, List.getElem?_cons_zero, List.getElem?_cons_succ, List.getD_cons_zero, List.getD_cons_succ, List.set_cons_zero, List.set_cons_succ, Bool.and_true, Bool.true_and, Bool.and_false, Bool.false_and, decide_true, decide_false, Bool.not_true, Bool.not_false, List.length_cons, List.length_nil, Nat.reduceAdd, Nat.reduceMul, Nat.reduceSub, Nat.reduceLT, Nat.reduceLeDiff, Nat.reduceEqDiff, Int.reduceAdd, Int.reduceMul, Int.reduceSub, Int.reduceNeg, Int.reduceLT, Int.reduceLE, Int.reduceMod, Int.reduceDiv, Int.reducePow, Int.reduceToNat, Bool.false_eq_true, if_true, if_false, gt_iff_lt, ge_iff_le, g_eqIs, g_neIs, g_eqBs, g_neBs, g_eqI0, g_neI0, g_neT0, g_inB, g_inN, h_ss, h_ss1, h_ssG, h_min, h_tup, h_lst, h_flT, h_flL, h_flB, h_flb, h_fli, h_fln, h_flN, h_flS, h_mapi, h_mapb, h_mapI, h_mapB, h_revI, h_eu, h_eu1, h_eu2, h_r3, h_r31, h_fd, h_fd1, h_fd2, h_fd3, h_fs, h_fs1, h_fs2, h_fs3, h_mk, h_mk1, h_mk2, h_me, h_me1, h_me2, h_me3, h_io, h_eo, h_no, h_eo1, g_eqTs, h_apd0, h_apd1, h_apo0, h_apo1, h_cn, h_cn1, h_cn2, h_pk0, h_pk1, h_pk2, h_nw, h_nw1, e_tu, e_tu1, e_af1, e_af2, e_af3, e_af4, e_wl1, e_wl2, e_lct, e_lct1, e_lct2, e_lct3, e_lct4, e_ni, e_ni1, e_lg1, e_lg2, e_lg3, e_lg4, e_lg5, e_ixw, e_ixw1, e_ixw2, e_ixw3, e_aow, e_aow1, e_aow2, e_aow3, e_zu, e_zu1, e_zu2, e_mulT, e_mxI, e_mnI, e_mxL, e_mnL, e_mxT, e_mnT, e_lgm, e_lgm1, e_lgm2, e_lgm3, e_tupT, e_lstT, e_lgc, e_lgc2, e_gd1, e_gd2, e_gpl, e_gpl1, e_gnx, e_gsq, e_gsq1, e_gyd, e_gyd1, e_gfr, e_gfr1, e_glp1, e_glpN, ends_some, Int.sub_zero, Int.add_zero, Int.zero_add, and_self, and_true, true_and, and_false, false_and, ne_eq, not_false_eq_true, not_true_eq_false, Bool.or_true, Bool.true_or, Bool.or_false, Bool.false_or, Option.some.injEq, reduceCtorEq, e3, hl2]
theorem len_sum : ∀ {L : List Int}, (∀ t ∈ L, 0 < t) → (L.length : Int) ≤ L.sum
  | [], _ => by simp
  | x :: L, h => by
    have := len_sum (fun t ht => h t (List.mem_cons_of_mem _ ht) : ∀ t ∈ L, 0 < t)
    have := h x (List.mem_cons_self ..)
    rw [List.length_cons, List.sum_cons]
    omega
theorem piece_loop (c : Int) (h0 : 0 < c) (hc : c ≤ 1000) (v0 v1 v2 : Sl) : ∀ (L acc : List Int) (v5 : Sl), (∀ t ∈ L, 0 < t) → (acc.length : Int) + L.sum ≤ 80000 → ∃ w5,
    loopL (nameG 5) b1_law_parted (L.map .int) [v0, v1, v2, .val (.int c), .own (.lst (acc.map .int)), v5] = some (.nx [v0, v1, v2, .val (.int c), .own (.lst ((acc ++ L.flatMap (cu c)).map .int)), w5])
  | [], acc, v5, _, _ => ⟨v5, by rw [List.flatMap_nil, List.append_nil]; rfl⟩
  | x :: L, acc, v5, h, hl => by
    have x0 := h x (List.mem_cons_self ..)
    have hL : ∀ t ∈ L, 0 < t := fun t ht => h t (List.mem_cons_of_mem _ ht)
    rw [List.sum_cons] at hl
    have s0 := len_sum hL
    have e1 := cut_up_eq x c h0 hc x0 (by omega)
    have hx : ((cu c x).length : Int) ≤ x := by
      have := len_sum (fun t ht => (cu_mem h0 x.toNat x (Nat.le_refl _) x0 t ht).1)
      rw [cu_sum h0 x.toNat x (Nat.le_refl _) x0] at this
      exact this
    obtain ⟨w5, e⟩ := piece_loop c h0 hc v0 v1 v2 L (acc ++ cu c x) (.val (.int x)) hL (by rw [List.length_append]; omega)
    refine ⟨w5, ?_⟩
    rw [List.append_assoc] at e
    rw [List.flatMap_cons, List.map_cons, e_lpc, ← e, List.map_append]
    have ha : (acc.map D.int).length + ((cu c x).map D.int).length ≤ 100000 := by rw [List.length_map, List.length_map]; omega
    generalize (cu c x).map D.int = q at e1 ha
    generalize acc.map D.int = z at ha
    simp only [b1_law_parted, e_var, e_var1, e_var2, e_var3, e_dat, e_der1, e_der2, e_der3, e_sd1, e_sd2, e_sd3, e_op, e_op1, e_op2, e_op3, e_op4, e_un, e_un1, e_un2, e_sol, e_sol1, e_sol2, e_sol3, e_sol4, e_sol5, e_da, e_da1, e_na, e_ca, e_ca1, e_ca2, e_nd, e_cd, e_cd1, e_cd2, e_dn, e_dc, e_dc1, e_cb, e_cb1, e_cb2, e_ls, e_ls1, e_tp, e_tp1, e_np, e_ip, e_ip1, e_sl, e_sl1, e_sl2, e_sl3, e_rv, e_rv1, e_rv2, e_te, e_te1, e_at, e_at1, e_at2, e_ot, e_ot1, e_ot2, e_nt, e_nt1, e_ae, e_ae1, e_ae2, e_oe, e_oe1, e_oe2, e_ne, e_ne1, e_ie, e_ie1, e_ie2, e_ch, e_ch1, e_ch2, e_ch3, e_ch4, e_ch5, e_cl, e_cl1, e_cx, e_cx1, e_cx2, e_cx3, e_cx4, e_cx5, e_cz, e_cz1, e_cz2, e_cz3, e_cz4, e_ro1, e_ro2, e_pl1, e_pl2, e_pl3, e_pl4, e_ld0, e_ld1, e_ld2, e_ld3, e_ld4, e_ld5, e_pb0, e_pb1, e_pb2, e_pb3, e_sq, e_sq1, e_sq2, e_sq3, e_sq4, e_nx, e_rt, e_rt1, e_dp, e_dp1, e_is, e_is1, e_is2, e_as, e_as1, e_as2, e_as3, e_as4, e_st, e_st1, e_st2, e_st3, e_st4, e_st5, e_st6, e_up, e_up1, e_up2, e_pr, e_pr3, e_pr1, e_sa0, e_sa1, e_sa2, e_lt, e_lt1, e_ng, e_tg, e_gn, e_gc, e_gc1, e_fr, e_fr1, e_lp1, e_lp2, e_lp3, e_lp4, e_lp5, e_wh1, e_wh2, e_wh3, e_wh4, e_wh5, e_si, e_si1, e_si2, e_si3, e_r1, e_r11, e_r2, e_r21, e_en, e_en1, e_lc, e_lc1, e_lc2, e_lc3, e_lcn1, e_lcn2, e_lcn3, e_lcn4, e_ye, e_wi0, e_wi1, e_re0, e_re1, e_no0, e_no1, e_ow1, e_ow2, e_df1, e_df2, e_df3, e_rs1, e_rs2, e_rs3, e_rs4, e_rs5, e_ou, e_ou1, e_ou2, e_mu, e_mu1, e_mu6, e_mu2, e_mu3, e_mu4, e_mu5, g_addI, g_addL, g_sub, g_lt, g_le, g_gt, g_ge, g_mod, g_div, g_mulL, g_eqI, g_neI, g_eqB, g_neB, g_eqS, g_ixL, g_ixR, g_ixT, g_ix1, g_lenL, g_lenR, g_lenT, g_intI, g_intB, g_min2, g_max2, g_app, g_slL, g_slT, g_neg, g_atI0, g_atI1, g_atIl, g_ixN0, g_ixN1, g_powM3, g_powM5, g_mulR, List.getElem?_cons_zero, List.getElem?_cons_succ, List.getD_cons_zero, List.getD_cons_succ, List.set_cons_zero, List.set_cons_succ, Bool.and_true, Bool.true_and, Bool.and_false, Bool.false_and, decide_true, decide_false, Bool.not_true, Bool.not_false, List.length_cons, List.length_nil, Nat.reduceAdd, Nat.reduceMul, Nat.reduceSub, Nat.reduceLT, Nat.reduceLeDiff, Nat.reduceEqDiff, Int.reduceAdd, Int.reduceMul, Int.reduceSub, Int.reduceNeg, Int.reduceLT, Int.reduceLE, Int.reduceMod, Int.reduceDiv, Int.reducePow, Int.reduceToNat, Bool.false_eq_true, if_true, if_false, gt_iff_lt, ge_iff_le, g_eqIs, g_neIs, g_eqBs, g_neBs, g_eqI0, g_neI0, g_neT0, g_inB, g_inN, h_ss, h_ss1, h_ssG, h_min, h_tup, h_lst, h_flT, h_flL, h_flB, h_flb, h_fli, h_fln, h_flN, h_flS, h_mapi, h_mapb, h_mapI, h_mapB, h_revI, h_eu, h_eu1, h_eu2, h_r3, h_r31, h_fd, h_fd1, h_fd2, h_fd3, h_fs, h_fs1, h_fs2, h_fs3, h_mk, h_mk1, h_mk2, h_me, h_me1, h_me2, h_me3, h_io, h_eo, h_no, h_eo1, g_eqTs, h_apd0, h_apd1, h_apo0, h_apo1, h_cn, h_cn1, h_cn2, h_pk0, h_pk1, h_pk2, h_nw, h_nw1, e_tu, e_tu1, e_af1, e_af2, e_af3, e_af4, e_wl1, e_wl2, e_lct, e_lct1, e_lct2, e_lct3, e_lct4, e_ni, e_ni1, e_lg1, e_lg2, e_lg3, e_lg4, e_lg5, e_ixw, e_ixw1, e_ixw2, e_ixw3, e_aow, e_aow1, e_aow2, e_aow3, e_zu, e_zu1, e_zu2, e_mulT, e_mxI, e_mnI, e_mxL, e_mnL, e_mxT, e_mnT, e_lgm, e_lgm1, e_lgm2, e_lgm3, e_tupT, e_lstT, e_lgc, e_lgc2, e_gd1, e_gd2, e_gpl, e_gpl1, e_gnx, e_gsq, e_gsq1, e_gyd, e_gyd1, e_gfr, e_gfr1, e_glp1, e_glpN, ends_some, Int.sub_zero, Int.add_zero, Int.zero_add, and_self, and_true, true_and, and_false, false_and, ne_eq, not_false_eq_true, not_true_eq_false, Bool.or_true, Bool.true_or, Bool.or_false, Bool.false_or, Option.some.injEq, reduceCtorEq, e1, ha]
theorem cuts_loop (v0 v1 : Sl) : ∀ (cs : List Int), Fall cs → ∀ (L : List Int) (v2 v3 v4 v5 : Sl), (v2 = .val (.lst (L.map .int)) ∨ v2 = .own (.lst (L.map .int))) → (∀ t ∈ L, 0 < t) → L.sum ≤ 70000 → ∃ w2 w3 w4 w5,
    loopL (nameG 3) b2_law_parted (cs.map .int) [v0, v1, v2, v3, v4, v5] = some (.nx [v0, v1, w2, w3, w4, w5]) ∧ (w2 = .val (.lst ((LP cs L).map .int)) ∨ w2 = .own (.lst ((LP cs L).map .int)))
  | [], _, L, v2, v3, v4, v5, hv, _, _ => ⟨v2, v3, v4, v5, rfl, hv⟩
  | c :: cs, h, L, v2, v3, v4, v5, hv, hL, hs => by
    have c0 := h.1
    have hL2 : ∀ t ∈ L.flatMap (cu c), 0 < t := fun t ht => by
      obtain ⟨u, hu, ht⟩ := List.mem_flatMap.mp ht
      exact (cu_mem c0.1 u.toNat u (Nat.le_refl _) (hL u hu) t ht).1
    have hs2 : (L.flatMap (cu c)).sum = L.sum := by
      clear hs hL2 hv
      induction L with
      | nil => rfl
      | cons x L ih =>
        rw [List.flatMap_cons, List.sum_append, ih (fun t ht => hL t (List.mem_cons_of_mem _ ht)), cu_sum c0.1 x.toNat x (Nat.le_refl _) (hL x (List.mem_cons_self ..)), List.sum_cons]
    obtain ⟨u5, e1⟩ := piece_loop c c0.1 c0.2 v0 v1 (.val (.lst (L.map .int))) L [] v5 hL (by simp; omega)
    rw [List.nil_append, List.map_nil] at e1
    rw [LP, List.map_cons, e_lpc]
    rcases hv with rfl | rfl
    · obtain ⟨w2, w3, w4, w5, e, hw⟩ := cuts_loop v0 v1 cs h.2.2 (L.flatMap (cu c)) (.val (.lst ((L.flatMap (cu c)).map .int))) (.val (.int c)) (.val (.lst ((L.flatMap (cu c)).map .int))) u5 (.inl rfl) hL2 (by omega)
      refine ⟨w2, w3, w4, w5, ?_, hw⟩
      rw [← e]
      simp only [b2_law_parted, e_var, e_var1, e_var2, e_var3, e_dat, e_der1, e_der2, e_der3, e_sd1, e_sd2, e_sd3, e_op, e_op1, e_op2, e_op3, e_op4, e_un, e_un1, e_un2, e_sol, e_sol1, e_sol2, e_sol3, e_sol4, e_sol5, e_da, e_da1, e_na, e_ca, e_ca1, e_ca2, e_nd, e_cd, e_cd1, e_cd2, e_dn, e_dc, e_dc1, e_cb, e_cb1, e_cb2, e_ls, e_ls1, e_tp, e_tp1, e_np, e_ip, e_ip1, e_sl, e_sl1, e_sl2, e_sl3, e_rv, e_rv1, e_rv2, e_te, e_te1, e_at, e_at1, e_at2, e_ot, e_ot1, e_ot2, e_nt, e_nt1, e_ae, e_ae1, e_ae2, e_oe, e_oe1, e_oe2, e_ne, e_ne1, e_ie, e_ie1, e_ie2, e_ch, e_ch1, e_ch2, e_ch3, e_ch4, e_ch5, e_cl, e_cl1, e_cx, e_cx1, e_cx2, e_cx3, e_cx4, e_cx5, e_cz, e_cz1, e_cz2, e_cz3, e_cz4, e_ro1, e_ro2, e_pl1, e_pl2, e_pl3, e_pl4, e_ld0, e_ld1, e_ld2, e_ld3, e_ld4, e_ld5, e_pb0, e_pb1, e_pb2, e_pb3, e_sq, e_sq1, e_sq2, e_sq3, e_sq4, e_nx, e_rt, e_rt1, e_dp, e_dp1, e_is, e_is1, e_is2, e_as, e_as1, e_as2, e_as3, e_as4, e_st, e_st1, e_st2, e_st3, e_st4, e_st5, e_st6, e_up, e_up1, e_up2, e_pr, e_pr3, e_pr1, e_sa0, e_sa1, e_sa2, e_lt, e_lt1, e_ng, e_tg, e_gn, e_gc, e_gc1, e_fr, e_fr1, e_lp1, e_lp2, e_lp3, e_lp4, e_lp5, e_wh1, e_wh2, e_wh3, e_wh4, e_wh5, e_si, e_si1, e_si2, e_si3, e_r1, e_r11, e_r2, e_r21, e_en, e_en1, e_lc, e_lc1, e_lc2, e_lc3, e_lcn1, e_lcn2, e_lcn3, e_lcn4, e_ye, e_wi0, e_wi1, e_re0, e_re1, e_no0, e_no1, e_ow1, e_ow2, e_df1, e_df2, e_df3, e_rs1, e_rs2, e_rs3, e_rs4, e_rs5, e_ou, e_ou1, e_ou2, e_mu, e_mu1, e_mu6, e_mu2, e_mu3, e_mu4, e_mu5, g_addI, g_addL, g_sub, g_lt, g_le, g_gt, g_ge, g_mod, g_div, g_mulL, g_eqI, g_neI, g_eqB, g_neB, g_eqS, g_ixL, g_ixR, g_ixT, g_ix1, g_lenL, g_lenR, g_lenT, g_intI, g_intB, g_min2, g_max2, g_app, g_slL, g_slT, g_neg, g_atI0, g_atI1, g_atIl, g_ixN0, g_ixN1, g_powM3, g_powM5, g_mulR, List.getElem?_cons_zero, List.getElem?_cons_succ, List.getD_cons_zero, List.getD_cons_succ, List.set_cons_zero, List.set_cons_succ, Bool.and_true, Bool.true_and, Bool.and_false, Bool.false_and, decide_true, decide_false, Bool.not_true, Bool.not_false, List.length_cons, List.length_nil, Nat.reduceAdd, Nat.reduceMul, Nat.reduceSub, Nat.reduceLT, Nat.reduceLeDiff, Nat.reduceEqDiff, Int.reduceAdd, Int.reduceMul, Int.reduceSub, Int.reduceNeg, Int.reduceLT, Int.reduceLE, Int.reduceMod, Int.reduceDiv, Int.reducePow, Int.reduceToNat, Bool.false_eq_true, if_true, if_false, gt_iff_lt, ge_iff_le, g_eqIs, g_neIs, g_eqBs, g_neBs, g_eqI0, g_neI0, g_neT0, g_inB, g_inN, h_ss, h_ss1, h_ssG, h_min, h_tup, h_lst, h_flT, h_flL, h_flB, h_flb, h_fli, h_fln, h_flN, h_flS, h_mapi, h_mapb, h_mapI, h_mapB, h_revI, h_eu, h_eu1, h_eu2, h_r3, h_r31, h_fd, h_fd1, h_fd2, h_fd3, h_fs, h_fs1, h_fs2, h_fs3, h_mk, h_mk1, h_mk2, h_me, h_me1, h_me2, h_me3, h_io, h_eo, h_no, h_eo1, g_eqTs, h_apd0, h_apd1, h_apo0, h_apo1, h_cn, h_cn1, h_cn2, h_pk0, h_pk1, h_pk2, h_nw, h_nw1, e_tu, e_tu1, e_af1, e_af2, e_af3, e_af4, e_wl1, e_wl2, e_lct, e_lct1, e_lct2, e_lct3, e_lct4, e_ni, e_ni1, e_lg1, e_lg2, e_lg3, e_lg4, e_lg5, e_ixw, e_ixw1, e_ixw2, e_ixw3, e_aow, e_aow1, e_aow2, e_aow3, e_zu, e_zu1, e_zu2, e_mulT, e_mxI, e_mnI, e_mxL, e_mnL, e_mxT, e_mnT, e_lgm, e_lgm1, e_lgm2, e_lgm3, e_tupT, e_lstT, e_lgc, e_lgc2, e_gd1, e_gd2, e_gpl, e_gpl1, e_gnx, e_gsq, e_gsq1, e_gyd, e_gyd1, e_gfr, e_gfr1, e_glp1, e_glpN, ends_some, Int.sub_zero, Int.add_zero, Int.zero_add, and_self, and_true, true_and, and_false, false_and, ne_eq, not_false_eq_true, not_true_eq_false, Bool.or_true, Bool.true_or, Bool.or_false, Bool.false_or, Option.some.injEq, reduceCtorEq, e1]
    · obtain ⟨w2, w3, w4, w5, e, hw⟩ := cuts_loop v0 v1 cs h.2.2 (L.flatMap (cu c)) (.val (.lst ((L.flatMap (cu c)).map .int))) (.val (.int c)) (.val (.lst ((L.flatMap (cu c)).map .int))) u5 (.inl rfl) hL2 (by omega)
      refine ⟨w2, w3, w4, w5, ?_, hw⟩
      rw [← e]
      simp only [b2_law_parted, e_var, e_var1, e_var2, e_var3, e_dat, e_der1, e_der2, e_der3, e_sd1, e_sd2, e_sd3, e_op, e_op1, e_op2, e_op3, e_op4, e_un, e_un1, e_un2, e_sol, e_sol1, e_sol2, e_sol3, e_sol4, e_sol5, e_da, e_da1, e_na, e_ca, e_ca1, e_ca2, e_nd, e_cd, e_cd1, e_cd2, e_dn, e_dc, e_dc1, e_cb, e_cb1, e_cb2, e_ls, e_ls1, e_tp, e_tp1, e_np, e_ip, e_ip1, e_sl, e_sl1, e_sl2, e_sl3, e_rv, e_rv1, e_rv2, e_te, e_te1, e_at, e_at1, e_at2, e_ot, e_ot1, e_ot2, e_nt, e_nt1, e_ae, e_ae1, e_ae2, e_oe, e_oe1, e_oe2, e_ne, e_ne1, e_ie, e_ie1, e_ie2, e_ch, e_ch1, e_ch2, e_ch3, e_ch4, e_ch5, e_cl, e_cl1, e_cx, e_cx1, e_cx2, e_cx3, e_cx4, e_cx5, e_cz, e_cz1, e_cz2, e_cz3, e_cz4, e_ro1, e_ro2, e_pl1, e_pl2, e_pl3, e_pl4, e_ld0, e_ld1, e_ld2, e_ld3, e_ld4, e_ld5, e_pb0, e_pb1, e_pb2, e_pb3, e_sq, e_sq1, e_sq2, e_sq3, e_sq4, e_nx, e_rt, e_rt1, e_dp, e_dp1, e_is, e_is1, e_is2, e_as, e_as1, e_as2, e_as3, e_as4, e_st, e_st1, e_st2, e_st3, e_st4, e_st5, e_st6, e_up, e_up1, e_up2, e_pr, e_pr3, e_pr1, e_sa0, e_sa1, e_sa2, e_lt, e_lt1, e_ng, e_tg, e_gn, e_gc, e_gc1, e_fr, e_fr1, e_lp1, e_lp2, e_lp3, e_lp4, e_lp5, e_wh1, e_wh2, e_wh3, e_wh4, e_wh5, e_si, e_si1, e_si2, e_si3, e_r1, e_r11, e_r2, e_r21, e_en, e_en1, e_lc, e_lc1, e_lc2, e_lc3, e_lcn1, e_lcn2, e_lcn3, e_lcn4, e_ye, e_wi0, e_wi1, e_re0, e_re1, e_no0, e_no1, e_ow1, e_ow2, e_df1, e_df2, e_df3, e_rs1, e_rs2, e_rs3, e_rs4, e_rs5, e_ou, e_ou1, e_ou2, e_mu, e_mu1, e_mu6, e_mu2, e_mu3, e_mu4, e_mu5, g_addI, g_addL, g_sub, g_lt, g_le, g_gt, g_ge, g_mod, g_div, g_mulL, g_eqI, g_neI, g_eqB, g_neB, g_eqS, g_ixL, g_ixR, g_ixT, g_ix1, g_lenL, g_lenR, g_lenT, g_intI, g_intB, g_min2, g_max2, g_app, g_slL, g_slT, g_neg, g_atI0, g_atI1, g_atIl, g_ixN0, g_ixN1, g_powM3, g_powM5, g_mulR, List.getElem?_cons_zero, List.getElem?_cons_succ, List.getD_cons_zero, List.getD_cons_succ, List.set_cons_zero, List.set_cons_succ, Bool.and_true, Bool.true_and, Bool.and_false, Bool.false_and, decide_true, decide_false, Bool.not_true, Bool.not_false, List.length_cons, List.length_nil, Nat.reduceAdd, Nat.reduceMul, Nat.reduceSub, Nat.reduceLT, Nat.reduceLeDiff, Nat.reduceEqDiff, Int.reduceAdd, Int.reduceMul, Int.reduceSub, Int.reduceNeg, Int.reduceLT, Int.reduceLE, Int.reduceMod, Int.reduceDiv, Int.reducePow, Int.reduceToNat, Bool.false_eq_true, if_true, if_false, gt_iff_lt, ge_iff_le, g_eqIs, g_neIs, g_eqBs, g_neBs, g_eqI0, g_neI0, g_neT0, g_inB, g_inN, h_ss, h_ss1, h_ssG, h_min, h_tup, h_lst, h_flT, h_flL, h_flB, h_flb, h_fli, h_fln, h_flN, h_flS, h_mapi, h_mapb, h_mapI, h_mapB, h_revI, h_eu, h_eu1, h_eu2, h_r3, h_r31, h_fd, h_fd1, h_fd2, h_fd3, h_fs, h_fs1, h_fs2, h_fs3, h_mk, h_mk1, h_mk2, h_me, h_me1, h_me2, h_me3, h_io, h_eo, h_no, h_eo1, g_eqTs, h_apd0, h_apd1, h_apo0, h_apo1, h_cn, h_cn1, h_cn2, h_pk0, h_pk1, h_pk2, h_nw, h_nw1, e_tu, e_tu1, e_af1, e_af2, e_af3, e_af4, e_wl1, e_wl2, e_lct, e_lct1, e_lct2, e_lct3, e_lct4, e_ni, e_ni1, e_lg1, e_lg2, e_lg3, e_lg4, e_lg5, e_ixw, e_ixw1, e_ixw2, e_ixw3, e_aow, e_aow1, e_aow2, e_aow3, e_zu, e_zu1, e_zu2, e_mulT, e_mxI, e_mnI, e_mxL, e_mnL, e_mxT, e_mnT, e_lgm, e_lgm1, e_lgm2, e_lgm3, e_tupT, e_lstT, e_lgc, e_lgc2, e_gd1, e_gd2, e_gpl, e_gpl1, e_gnx, e_gsq, e_gsq1, e_gyd, e_gyd1, e_gfr, e_gfr1, e_glp1, e_glpN, ends_some, Int.sub_zero, Int.add_zero, Int.zero_add, and_self, and_true, true_and, and_false, false_and, ne_eq, not_false_eq_true, not_true_eq_false, Bool.or_true, Bool.true_or, Bool.or_false, Bool.false_or, Option.some.injEq, reduceCtorEq, e1]
end PL

namespace PL
open PySem PySem.Spec PyProof.Rows L2 DV

theorem lparted_eq (cs L : List Int) (h : Fall cs) (hL : ∀ t ∈ L, 0 < t) (hs : L.sum ≤ 70000) : ∃ o, f_law_parted [.lst (cs.map .int), .lst (L.map .int)] = some (o, .non) ∧ (o = .dat (.lst ((L.flatMap (PL cs)).map .int)) ∨ o = .fre (.lst ((L.flatMap (PL cs)).map .int))) := by
  obtain ⟨w2, w3, w4, w5, e, hw⟩ := cuts_loop (.val (.lst (cs.map .int))) (.val (.lst (L.map .int))) cs h L (.own (.lst (L.map .int))) .un .un .un (.inr rfl) hL hs
  rw [LP_eq] at hw
  have hl : (L.map D.int).length ≤ 100000 := by have := len_sum hL; rw [List.length_map]; omega
  generalize L.map D.int = z at e hl ⊢
  rcases hw with rfl | rfl
  · refine ⟨_, ?_, .inl rfl⟩
    simp only [en_law_parted, m_law_parted, e_var, e_var1, e_var2, e_var3, e_dat, e_der1, e_der2, e_der3, e_sd1, e_sd2, e_sd3, e_op, e_op1, e_op2, e_op3, e_op4, e_un, e_un1, e_un2, e_sol, e_sol1, e_sol2, e_sol3, e_sol4, e_sol5, e_da, e_da1, e_na, e_ca, e_ca1, e_ca2, e_nd, e_cd, e_cd1, e_cd2, e_dn, e_dc, e_dc1, e_cb, e_cb1, e_cb2, e_ls, e_ls1, e_tp, e_tp1, e_np, e_ip, e_ip1, e_sl, e_sl1, e_sl2, e_sl3, e_rv, e_rv1, e_rv2, e_te, e_te1, e_at, e_at1, e_at2, e_ot, e_ot1, e_ot2, e_nt, e_nt1, e_ae, e_ae1, e_ae2, e_oe, e_oe1, e_oe2, e_ne, e_ne1, e_ie, e_ie1, e_ie2, e_ch, e_ch1, e_ch2, e_ch3, e_ch4, e_ch5, e_cl, e_cl1, e_cx, e_cx1, e_cx2, e_cx3, e_cx4, e_cx5, e_cz, e_cz1, e_cz2, e_cz3, e_cz4, e_ro1, e_ro2, e_pl1, e_pl2, e_pl3, e_pl4, e_ld0, e_ld1, e_ld2, e_ld3, e_ld4, e_ld5, e_pb0, e_pb1, e_pb2, e_pb3, e_sq, e_sq1, e_sq2, e_sq3, e_sq4, e_nx, e_rt, e_rt1, e_dp, e_dp1, e_is, e_is1, e_is2, e_as, e_as1, e_as2, e_as3, e_as4, e_st, e_st1, e_st2, e_st3, e_st4, e_st5, e_st6, e_up, e_up1, e_up2, e_pr, e_pr3, e_pr1, e_sa0, e_sa1, e_sa2, e_lt, e_lt1, e_ng, e_tg, e_gn, e_gc, e_gc1, e_fr, e_fr1, e_lp1, e_lp2, e_lp3, e_lp4, e_lp5, e_wh1, e_wh2, e_wh3, e_wh4, e_wh5, e_si, e_si1, e_si2, e_si3, e_r1, e_r11, e_r2, e_r21, e_en, e_en1, e_lc, e_lc1, e_lc2, e_lc3, e_lcn1, e_lcn2, e_lcn3, e_lcn4, e_ye, e_wi0, e_wi1, e_re0, e_re1, e_no0, e_no1, e_ow1, e_ow2, e_df1, e_df2, e_df3, e_rs1, e_rs2, e_rs3, e_rs4, e_rs5, e_ou, e_ou1, e_ou2, e_mu, e_mu1, e_mu6, e_mu2, e_mu3, e_mu4, e_mu5, g_addI, g_addL, g_sub, g_lt, g_le, g_gt, g_ge, g_mod, g_div, g_mulL, g_eqI, g_neI, g_eqB, g_neB, g_eqS, g_ixL, g_ixR, g_ixT, g_ix1, g_lenL, g_lenR, g_lenT, g_intI, g_intB, g_min2, g_max2, g_app, g_slL, g_slT, g_neg, g_atI0, g_atI1, g_atIl, g_ixN0, g_ixN1, g_powM3, g_powM5, g_mulR, List.getElem?_cons_zero, List.getElem?_cons_succ, List.getD_cons_zero, List.getD_cons_succ, List.set_cons_zero, List.set_cons_succ, Bool.and_true, Bool.true_and, Bool.and_false, Bool.false_and, decide_true, decide_false, Bool.not_true, Bool.not_false, List.length_cons, List.length_nil, Nat.reduceAdd, Nat.reduceMul, Nat.reduceSub, Nat.reduceLT, Nat.reduceLeDiff, Nat.reduceEqDiff, Int.reduceAdd, Int.reduceMul, Int.reduceSub, Int.reduceNeg, Int.reduceLT, Int.reduceLE, Int.reduceMod, Int.reduceDiv, Int.reducePow, Int.reduceToNat, Bool.false_eq_true, if_true, if_false, gt_iff_lt, ge_iff_le, g_eqIs, g_neIs, g_eqBs, g_neBs, g_eqI0, g_neI0, g_neT0, g_inB, g_inN, h_ss, h_ss1, h_ssG, h_min, h_tup, h_lst, h_flT, h_flL, h_flB, h_flb, h_fli, h_fln, h_flN, h_flS, h_mapi, h_mapb, h_mapI, h_mapB, h_revI, h_eu, h_eu1, h_eu2, h_r3, h_r31, h_fd, h_fd1, h_fd2, h_fd3, h_fs, h_fs1, h_fs2, h_fs3, h_mk, h_mk1, h_mk2, h_me, h_me1, h_me2, h_me3, h_io, h_eo, h_no, h_eo1, g_eqTs, h_apd0, h_apd1, h_apo0, h_apo1, h_cn, h_cn1, h_cn2, h_pk0, h_pk1, h_pk2, h_nw, h_nw1, e_tu, e_tu1, e_af1, e_af2, e_af3, e_af4, e_wl1, e_wl2, e_lct, e_lct1, e_lct2, e_lct3, e_lct4, e_ni, e_ni1, e_lg1, e_lg2, e_lg3, e_lg4, e_lg5, e_ixw, e_ixw1, e_ixw2, e_ixw3, e_aow, e_aow1, e_aow2, e_aow3, e_zu, e_zu1, e_zu2, e_mulT, e_mxI, e_mnI, e_mxL, e_mnL, e_mxT, e_mnT, e_lgm, e_lgm1, e_lgm2, e_lgm3, e_tupT, e_lstT, e_lgc, e_lgc2, e_gd1, e_gd2, e_gpl, e_gpl1, e_gnx, e_gsq, e_gsq1, e_gyd, e_gyd1, e_gfr, e_gfr1, e_glp1, e_glpN, ends_some, Int.sub_zero, Int.add_zero, Int.zero_add, and_self, and_true, true_and, and_false, false_and, ne_eq, not_false_eq_true, not_true_eq_false, Bool.or_true, Bool.true_or, Bool.or_false, Bool.false_or, Option.some.injEq, reduceCtorEq, e, hl, h_lst]
  · refine ⟨_, ?_, .inr rfl⟩
    simp only [en_law_parted, m_law_parted, e_var, e_var1, e_var2, e_var3, e_dat, e_der1, e_der2, e_der3, e_sd1, e_sd2, e_sd3, e_op, e_op1, e_op2, e_op3, e_op4, e_un, e_un1, e_un2, e_sol, e_sol1, e_sol2, e_sol3, e_sol4, e_sol5, e_da, e_da1, e_na, e_ca, e_ca1, e_ca2, e_nd, e_cd, e_cd1, e_cd2, e_dn, e_dc, e_dc1, e_cb, e_cb1, e_cb2, e_ls, e_ls1, e_tp, e_tp1, e_np, e_ip, e_ip1, e_sl, e_sl1, e_sl2, e_sl3, e_rv, e_rv1, e_rv2, e_te, e_te1, e_at, e_at1, e_at2, e_ot, e_ot1, e_ot2, e_nt, e_nt1, e_ae, e_ae1, e_ae2, e_oe, e_oe1, e_oe2, e_ne, e_ne1, e_ie, e_ie1, e_ie2, e_ch, e_ch1, e_ch2, e_ch3, e_ch4, e_ch5, e_cl, e_cl1, e_cx, e_cx1, e_cx2, e_cx3, e_cx4, e_cx5, e_cz, e_cz1, e_cz2, e_cz3, e_cz4, e_ro1, e_ro2, e_pl1, e_pl2, e_pl3, e_pl4, e_ld0, e_ld1, e_ld2, e_ld3, e_ld4, e_ld5, e_pb0, e_pb1, e_pb2, e_pb3, e_sq, e_sq1, e_sq2, e_sq3, e_sq4, e_nx, e_rt, e_rt1, e_dp, e_dp1, e_is, e_is1, e_is2, e_as, e_as1, e_as2, e_as3, e_as4, e_st, e_st1, e_st2, e_st3, e_st4, e_st5, e_st6, e_up, e_up1, e_up2, e_pr, e_pr3, e_pr1, e_sa0, e_sa1, e_sa2, e_lt, e_lt1, e_ng, e_tg, e_gn, e_gc, e_gc1, e_fr, e_fr1, e_lp1, e_lp2, e_lp3, e_lp4, e_lp5, e_wh1, e_wh2, e_wh3, e_wh4, e_wh5, e_si, e_si1, e_si2, e_si3, e_r1, e_r11, e_r2, e_r21, e_en, e_en1, e_lc, e_lc1, e_lc2, e_lc3, e_lcn1, e_lcn2, e_lcn3, e_lcn4, e_ye, e_wi0, e_wi1, e_re0, e_re1, e_no0, e_no1, e_ow1, e_ow2, e_df1, e_df2, e_df3, e_rs1, e_rs2, e_rs3, e_rs4, e_rs5, e_ou, e_ou1, e_ou2, e_mu, e_mu1, e_mu6, e_mu2, e_mu3, e_mu4, e_mu5, g_addI, g_addL, g_sub, g_lt, g_le, g_gt, g_ge, g_mod, g_div, g_mulL, g_eqI, g_neI, g_eqB, g_neB, g_eqS, g_ixL, g_ixR, g_ixT, g_ix1, g_lenL, g_lenR, g_lenT, g_intI, g_intB, g_min2, g_max2, g_app, g_slL, g_slT, g_neg, g_atI0, g_atI1, g_atIl, g_ixN0, g_ixN1, g_powM3, g_powM5, g_mulR, List.getElem?_cons_zero, List.getElem?_cons_succ, List.getD_cons_zero, List.getD_cons_succ, List.set_cons_zero, List.set_cons_succ, Bool.and_true, Bool.true_and, Bool.and_false, Bool.false_and, decide_true, decide_false, Bool.not_true, Bool.not_false, List.length_cons, List.length_nil, Nat.reduceAdd, Nat.reduceMul, Nat.reduceSub, Nat.reduceLT, Nat.reduceLeDiff, Nat.reduceEqDiff, Int.reduceAdd, Int.reduceMul, Int.reduceSub, Int.reduceNeg, Int.reduceLT, Int.reduceLE, Int.reduceMod, Int.reduceDiv, Int.reducePow, Int.reduceToNat, Bool.false_eq_true, if_true, if_false, gt_iff_lt, ge_iff_le, g_eqIs, g_neIs, g_eqBs, g_neBs, g_eqI0, g_neI0, g_neT0, g_inB, g_inN, h_ss, h_ss1, h_ssG, h_min, h_tup, h_lst, h_flT, h_flL, h_flB, h_flb, h_fli, h_fln, h_flN, h_flS, h_mapi, h_mapb, h_mapI, h_mapB, h_revI, h_eu, h_eu1, h_eu2, h_r3, h_r31, h_fd, h_fd1, h_fd2, h_fd3, h_fs, h_fs1, h_fs2, h_fs3, h_mk, h_mk1, h_mk2, h_me, h_me1, h_me2, h_me3, h_io, h_eo, h_no, h_eo1, g_eqTs, h_apd0, h_apd1, h_apo0, h_apo1, h_cn, h_cn1, h_cn2, h_pk0, h_pk1, h_pk2, h_nw, h_nw1, e_tu, e_tu1, e_af1, e_af2, e_af3, e_af4, e_wl1, e_wl2, e_lct, e_lct1, e_lct2, e_lct3, e_lct4, e_ni, e_ni1, e_lg1, e_lg2, e_lg3, e_lg4, e_lg5, e_ixw, e_ixw1, e_ixw2, e_ixw3, e_aow, e_aow1, e_aow2, e_aow3, e_zu, e_zu1, e_zu2, e_mulT, e_mxI, e_mnI, e_mxL, e_mnL, e_mxT, e_mnT, e_lgm, e_lgm1, e_lgm2, e_lgm3, e_tupT, e_lstT, e_lgc, e_lgc2, e_gd1, e_gd2, e_gpl, e_gpl1, e_gnx, e_gsq, e_gsq1, e_gyd, e_gyd1, e_gfr, e_gfr1, e_glp1, e_glpN, ends_some, Int.sub_zero, Int.add_zero, Int.zero_add, and_self, and_true, true_and, and_false, false_and, ne_eq, not_false_eq_true, not_true_eq_false, Bool.or_true, Bool.true_or, Bool.or_false, Bool.false_or, Option.some.injEq, reduceCtorEq, e, hl, h_lst]
/-! drawn cuts -/
theorem cuts_lc (high : Int) (h0 : 1 ≤ high) (h1 : high ≤ 60) (v1 v3 : Sl) (s : Strm) (m : Nat) (hm : m ≤ 1000) : ∃ (out : List Int) (s' : Strm), out.length = m ∧ (∀ c ∈ out, 0 < c ∧ c ≤ 60) ∧
    lcL (nameG 4) y2_law_cuts x1_law_cuts [4] (rangeD 0 m) [] [.brw (SD s), v1, .val (.int high), v3, .un] = some (out.map .int, [.brw (SD s'), v1, .val (.int high), v3, .un]) := by
  obtain ⟨⟨acc, δ⟩, e1, out, s', a1, a2, a3, a4⟩ := lc_inv_range (g := nameG 4) (t := y2_law_cuts) (e := x1_law_cuts) (vs := [4]) 0 m
    (fun i acc δ => ∃ (out : List Int) (s' : Strm), out.length = i ∧ (∀ c ∈ out, 0 < c ∧ c ≤ 60) ∧ acc = out.map .int ∧ δ = [.brw (SD s'), v1, .val (.int high), v3, .un])
    (fun p => ∃ (out : List Int) (s' : Strm), out.length = m ∧ (∀ c ∈ out, 0 < c ∧ c ≤ 60) ∧ p.1 = out.map .int ∧ p.2 = [.brw (SD s'), v1, .val (.int high), v3, .un])
    [.brw (SD s), v1, .val (.int high), v3, .un] ⟨[], _, rfl, by simp, rfl, rfl⟩ (by omega)
    (fun i acc δ hi ⟨out, s', a1, a2, a3, a4⟩ => by
      subst a3; subst a4
      have e := draw_eq s' high (by omega) (by omega)
      have hv := drv_ok (s := s') (n := high) (by omega)
      simp only [x1_law_cuts, y2_law_cuts, e_var, e_var1, e_var2, e_var3, e_dat, e_der1, e_der2, e_der3, e_sd1, e_sd2, e_sd3, e_op, e_op1, e_op2, e_op3, e_op4, e_un, e_un1, e_un2, e_sol, e_sol1, e_sol2, e_sol3, e_sol4, e_sol5, e_da, e_da1, e_na, e_ca, e_ca1, e_ca2, e_nd, e_cd, e_cd1, e_cd2, e_dn, e_dc, e_dc1, e_cb, e_cb1, e_cb2, e_ls, e_ls1, e_tp, e_tp1, e_np, e_ip, e_ip1, e_sl, e_sl1, e_sl2, e_sl3, e_rv, e_rv1, e_rv2, e_te, e_te1, e_at, e_at1, e_at2, e_ot, e_ot1, e_ot2, e_nt, e_nt1, e_ae, e_ae1, e_ae2, e_oe, e_oe1, e_oe2, e_ne, e_ne1, e_ie, e_ie1, e_ie2, e_ch, e_ch1, e_ch2, e_ch3, e_ch4, e_ch5, e_cl, e_cl1, e_cx, e_cx1, e_cx2, e_cx3, e_cx4, e_cx5, e_cz, e_cz1, e_cz2, e_cz3, e_cz4, e_ro1, e_ro2, e_pl1, e_pl2, e_pl3, e_pl4, e_ld0, e_ld1, e_ld2, e_ld3, e_ld4, e_ld5, e_pb0, e_pb1, e_pb2, e_pb3, e_sq, e_sq1, e_sq2, e_sq3, e_sq4, e_nx, e_rt, e_rt1, e_dp, e_dp1, e_is, e_is1, e_is2, e_as, e_as1, e_as2, e_as3, e_as4, e_st, e_st1, e_st2, e_st3, e_st4, e_st5, e_st6, e_up, e_up1, e_up2, e_pr, e_pr3, e_pr1, e_sa0, e_sa1, e_sa2, e_lt, e_lt1, e_ng, e_tg, e_gn, e_gc, e_gc1, e_fr, e_fr1, e_lp1, e_lp2, e_lp3, e_lp4, e_lp5, e_wh1, e_wh2, e_wh3, e_wh4, e_wh5, e_si, e_si1, e_si2, e_si3, e_r1, e_r11, e_r2, e_r21, e_en, e_en1, e_lc, e_lc1, e_lc2, e_lc3, e_lcn1, e_lcn2, e_lcn3, e_lcn4, e_ye, e_wi0, e_wi1, e_re0, e_re1, e_no0, e_no1, e_ow1, e_ow2, e_df1, e_df2, e_df3, e_rs1, e_rs2, e_rs3, e_rs4, e_rs5, e_ou, e_ou1, e_ou2, e_mu, e_mu1, e_mu6, e_mu2, e_mu3, e_mu4, e_mu5, g_addI, g_addL, g_sub, g_lt, g_le, g_gt, g_ge, g_mod, g_div, g_mulL, g_eqI, g_neI, g_eqB, g_neB, g_eqS, g_ixL, g_ixR, g_ixT, g_ix1, g_lenL, g_lenR, g_lenT, g_intI, g_intB, g_min2, g_max2, g_app, g_slL, g_slT, g_neg, g_atI0, g_atI1, g_atIl, g_ixN0, g_ixN1, g_powM3, g_powM5, g_mulR, List.getElem?_cons_zero, List.getElem?_cons_succ, List.getD_cons_zero, List.getD_cons_succ, List.set_cons_zero, List.set_cons_succ, Bool.and_true, Bool.true_and, Bool.and_false, Bool.false_and, decide_true, decide_false, Bool.not_true, Bool.not_false, List.length_cons, List.length_nil, Nat.reduceAdd, Nat.reduceMul, Nat.reduceSub, Nat.reduceLT, Nat.reduceLeDiff, Nat.reduceEqDiff, Int.reduceAdd, Int.reduceMul, Int.reduceSub, Int.reduceNeg, Int.reduceLT, Int.reduceLE, Int.reduceMod, Int.reduceDiv, Int.reducePow, Int.reduceToNat, Bool.false_eq_true, if_true, if_false, gt_iff_lt, ge_iff_le, g_eqIs, g_neIs, g_eqBs, g_neBs, g_eqI0, g_neI0, g_neT0, g_inB, g_inN, h_ss, h_ss1, h_ssG, h_min, h_tup, h_lst, h_flT, h_flL, h_flB, h_flb, h_fli, h_fln, h_flN, h_flS, h_mapi, h_mapb, h_mapI, h_mapB, h_revI, h_eu, h_eu1, h_eu2, h_r3, h_r31, h_fd, h_fd1, h_fd2, h_fd3, h_fs, h_fs1, h_fs2, h_fs3, h_mk, h_mk1, h_mk2, h_me, h_me1, h_me2, h_me3, h_io, h_eo, h_no, h_eo1, g_eqTs, h_apd0, h_apd1, h_apo0, h_apo1, h_cn, h_cn1, h_cn2, h_pk0, h_pk1, h_pk2, h_nw, h_nw1, e_tu, e_tu1, e_af1, e_af2, e_af3, e_af4, e_wl1, e_wl2, e_lct, e_lct1, e_lct2, e_lct3, e_lct4, e_ni, e_ni1, e_lg1, e_lg2, e_lg3, e_lg4, e_lg5, e_ixw, e_ixw1, e_ixw2, e_ixw3, e_aow, e_aow1, e_aow2, e_aow3, e_zu, e_zu1, e_zu2, e_mulT, e_mxI, e_mnI, e_mxL, e_mnL, e_mxT, e_mnT, e_lgm, e_lgm1, e_lgm2, e_lgm3, e_tupT, e_lstT, e_lgc, e_lgc2, e_gd1, e_gd2, e_gpl, e_gpl1, e_gnx, e_gsq, e_gsq1, e_gyd, e_gyd1, e_gfr, e_gfr1, e_glp1, e_glpN, ends_some, Int.sub_zero, Int.add_zero, Int.zero_add, and_self, and_true, true_and, and_false, false_and, ne_eq, not_false_eq_true, not_true_eq_false, Bool.or_true, Bool.true_or, Bool.or_false, Bool.false_or, Option.some.injEq, reduceCtorEq, e]
      refine ⟨out ++ [1 + drv s' high], drs s' high, by simp [a1], fun c hc => ?_, by simp, rfl⟩
      rcases List.mem_append.mp hc with hc | hc
      · exact a2 c hc
      · rw [List.mem_singleton] at hc; omega)
    (fun acc δ h => h)
  dsimp only at a3 a4
  subst a3; subst a4
  exact ⟨out, s', a1, a2, e1⟩
def Ok60 (cs : List Int) : Prop := Fall cs ∧ ∀ c ∈ cs, c ≤ 60
theorem cuts_eq (s : Strm) (high : Int) (h0 : 1 ≤ high) (h1 : high ≤ 60) : ∃ (cs : List Int) (s' : Strm), Ok60 cs ∧ f_law_cuts [SD s, .int 4, .int high] = some (.fre (.lst (cs.map .int)), SD s') := by
  have e1 := draw_eq s 5 (by decide) (by decide)
  have d1 := drv_ok (s := s) (n := 5) (by decide)
  generalize drv s 5 = k at e1 d1
  generalize drs s 5 = s1 at e1
  obtain ⟨out, s2, o1, o2, e2⟩ := cuts_lc high h0 h1 (.val (.int 4)) .un s1 k.toNat (by omega)
  have z1 : -100000 ≤ k ∧ k ≤ 100000 := by omega
  have hol : out.length < 64 := by omega
  refine ⟨(sortSetI out).reverse, s2, ⟨fall_sort out (fun x hx => by have := o2 x hx; omega), fun c hc => (o2 c (mem_fallen.mp hc)).2⟩, ?_⟩
  simp only [en_law_cuts, m_law_cuts, e_var, e_var1, e_var2, e_var3, e_dat, e_der1, e_der2, e_der3, e_sd1, e_sd2, e_sd3, e_op, e_op1, e_op2, e_op3, e_op4, e_un, e_un1, e_un2, e_sol, e_sol1, e_sol2, e_sol3, e_sol4, e_sol5, e_da, e_da1, e_na, e_ca, e_ca1, e_ca2, e_nd, e_cd, e_cd1, e_cd2, e_dn, e_dc, e_dc1, e_cb, e_cb1, e_cb2, e_ls, e_ls1, e_tp, e_tp1, e_np, e_ip, e_ip1, e_sl, e_sl1, e_sl2, e_sl3, e_rv, e_rv1, e_rv2, e_te, e_te1, e_at, e_at1, e_at2, e_ot, e_ot1, e_ot2, e_nt, e_nt1, e_ae, e_ae1, e_ae2, e_oe, e_oe1, e_oe2, e_ne, e_ne1, e_ie, e_ie1, e_ie2, e_ch, e_ch1, e_ch2, e_ch3, e_ch4, e_ch5, e_cl, e_cl1, e_cx, e_cx1, e_cx2, e_cx3, e_cx4, e_cx5, e_cz, e_cz1, e_cz2, e_cz3, e_cz4, e_ro1, e_ro2, e_pl1, e_pl2, e_pl3, e_pl4, e_ld0, e_ld1, e_ld2, e_ld3, e_ld4, e_ld5, e_pb0, e_pb1, e_pb2, e_pb3, e_sq, e_sq1, e_sq2, e_sq3, e_sq4, e_nx, e_rt, e_rt1, e_dp, e_dp1, e_is, e_is1, e_is2, e_as, e_as1, e_as2, e_as3, e_as4, e_st, e_st1, e_st2, e_st3, e_st4, e_st5, e_st6, e_up, e_up1, e_up2, e_pr, e_pr3, e_pr1, e_sa0, e_sa1, e_sa2, e_lt, e_lt1, e_ng, e_tg, e_gn, e_gc, e_gc1, e_fr, e_fr1, e_lp1, e_lp2, e_lp3, e_lp4, e_lp5, e_wh1, e_wh2, e_wh3, e_wh4, e_wh5, e_si, e_si1, e_si2, e_si3, e_r1, e_r11, e_r2, e_r21, e_en, e_en1, e_lc, e_lc1, e_lc2, e_lc3, e_lcn1, e_lcn2, e_lcn3, e_lcn4, e_ye, e_wi0, e_wi1, e_re0, e_re1, e_no0, e_no1, e_ow1, e_ow2, e_df1, e_df2, e_df3, e_rs1, e_rs2, e_rs3, e_rs4, e_rs5, e_ou, e_ou1, e_ou2, e_mu, e_mu1, e_mu6, e_mu2, e_mu3, e_mu4, e_mu5, g_addI, g_addL, g_sub, g_lt, g_le, g_gt, g_ge, g_mod, g_div, g_mulL, g_eqI, g_neI, g_eqB, g_neB, g_eqS, g_ixL, g_ixR, g_ixT, g_ix1, g_lenL, g_lenR, g_lenT, g_intI, g_intB, g_min2, g_max2, g_app, g_slL, g_slT, g_neg, g_atI0, g_atI1, g_atIl, g_ixN0, g_ixN1, g_powM3, g_powM5, g_mulR, List.getElem?_cons_zero, List.getElem?_cons_succ, List.getD_cons_zero, List.getD_cons_succ, List.set_cons_zero, List.set_cons_succ, Bool.and_true, Bool.true_and, Bool.and_false, Bool.false_and, decide_true, decide_false, Bool.not_true, Bool.not_false, List.length_cons, List.length_nil, Nat.reduceAdd, Nat.reduceMul, Nat.reduceSub, Nat.reduceLT, Nat.reduceLeDiff, Nat.reduceEqDiff, Int.reduceAdd, Int.reduceMul, Int.reduceSub, Int.reduceNeg, Int.reduceLT, Int.reduceLE, Int.reduceMod, Int.reduceDiv, Int.reducePow, Int.reduceToNat, Bool.false_eq_true, if_true, if_false, gt_iff_lt, ge_iff_le, g_eqIs, g_neIs, g_eqBs, g_neBs, g_eqI0, g_neI0, g_neT0, g_inB, g_inN, h_ss, h_ss1, h_ssG, h_min, h_tup, h_lst, h_flT, h_flL, h_flB, h_flb, h_fli, h_fln, h_flN, h_flS, h_mapi, h_mapb, h_mapI, h_mapB, h_revI, h_eu, h_eu1, h_eu2, h_r3, h_r31, h_fd, h_fd1, h_fd2, h_fd3, h_fs, h_fs1, h_fs2, h_fs3, h_mk, h_mk1, h_mk2, h_me, h_me1, h_me2, h_me3, h_io, h_eo, h_no, h_eo1, g_eqTs, h_apd0, h_apd1, h_apo0, h_apo1, h_cn, h_cn1, h_cn2, h_pk0, h_pk1, h_pk2, h_nw, h_nw1, e_tu, e_tu1, e_af1, e_af2, e_af3, e_af4, e_wl1, e_wl2, e_lct, e_lct1, e_lct2, e_lct3, e_lct4, e_ni, e_ni1, e_lg1, e_lg2, e_lg3, e_lg4, e_lg5, e_ixw, e_ixw1, e_ixw2, e_ixw3, e_aow, e_aow1, e_aow2, e_aow3, e_zu, e_zu1, e_zu2, e_mulT, e_mxI, e_mnI, e_mxL, e_mnL, e_mxT, e_mnT, e_lgm, e_lgm1, e_lgm2, e_lgm3, e_tupT, e_lstT, e_lgc, e_lgc2, e_gd1, e_gd2, e_gpl, e_gpl1, e_gnx, e_gsq, e_gsq1, e_gyd, e_gyd1, e_gfr, e_gfr1, e_glp1, e_glpN, ends_some, Int.sub_zero, Int.add_zero, Int.zero_add, and_self, and_true, true_and, and_false, false_and, ne_eq, not_false_eq_true, not_true_eq_false, Bool.or_true, Bool.true_or, Bool.or_false, Bool.false_or, Option.some.injEq, reduceCtorEq, e1, z1, e2, List.length_map, hol, h_ssG, ← List.map_reverse]
/-- three lists of cuts -/
theorem lists_lc (high : Int) (h0 : 1 ≤ high) (h1 : high ≤ 60) (v0 v1 v3 v5 v6 v7 v8 v9 v10 v11 v13 v14 : Sl) (s : Strm) : ∃ (a b d : List Int) (s' : Strm), Ok60 a ∧ Ok60 b ∧ Ok60 d ∧
    lcL (nameG 12) y2_law x1_law [12] (rangeD 0 3) [] [v0, v1, .own (SD s), v3, .val (.int high), v5, v6, v7, v8, v9, v10, v11, .un, v13, v14] = some ([.lst (a.map .int), .lst (b.map .int), .lst (d.map .int)], [v0, v1, .own (SD s'), v3, .val (.int high), v5, v6, v7, v8, v9, v10, v11, .un, v13, v14]) := by
  obtain ⟨⟨acc, δ⟩, e1, out, s', a1, a2, a3, a4⟩ := lc_inv_range (g := nameG 12) (t := y2_law) (e := x1_law) (vs := [12]) 0 3
    (fun i acc δ => ∃ (out : List (List Int)) (s' : Strm), out.length = i ∧ (∀ c ∈ out, Ok60 c) ∧ acc = out.map (fun c => .lst (c.map .int)) ∧ δ = [v0, v1, .own (SD s'), v3, .val (.int high), v5, v6, v7, v8, v9, v10, v11, .un, v13, v14])
    (fun p => ∃ (out : List (List Int)) (s' : Strm), out.length = 3 ∧ (∀ c ∈ out, Ok60 c) ∧ p.1 = out.map (fun c => .lst (c.map .int)) ∧ p.2 = [v0, v1, .own (SD s'), v3, .val (.int high), v5, v6, v7, v8, v9, v10, v11, .un, v13, v14])
    [v0, v1, .own (SD s), v3, .val (.int high), v5, v6, v7, v8, v9, v10, v11, .un, v13, v14] ⟨[], _, rfl, by simp, rfl, rfl⟩ (by omega)
    (fun i acc δ hi ⟨out, s', a1, a2, a3, a4⟩ => by
      subst a3; subst a4
      obtain ⟨cs, s2, hc, e⟩ := cuts_eq s' high h0 h1
      simp only [x1_law, y2_law, e_var, e_var1, e_var2, e_var3, e_dat, e_der1, e_der2, e_der3, e_sd1, e_sd2, e_sd3, e_op, e_op1, e_op2, e_op3, e_op4, e_un, e_un1, e_un2, e_sol, e_sol1, e_sol2, e_sol3, e_sol4, e_sol5, e_da, e_da1, e_na, e_ca, e_ca1, e_ca2, e_nd, e_cd, e_cd1, e_cd2, e_dn, e_dc, e_dc1, e_cb, e_cb1, e_cb2, e_ls, e_ls1, e_tp, e_tp1, e_np, e_ip, e_ip1, e_sl, e_sl1, e_sl2, e_sl3, e_rv, e_rv1, e_rv2, e_te, e_te1, e_at, e_at1, e_at2, e_ot, e_ot1, e_ot2, e_nt, e_nt1, e_ae, e_ae1, e_ae2, e_oe, e_oe1, e_oe2, e_ne, e_ne1, e_ie, e_ie1, e_ie2, e_ch, e_ch1, e_ch2, e_ch3, e_ch4, e_ch5, e_cl, e_cl1, e_cx, e_cx1, e_cx2, e_cx3, e_cx4, e_cx5, e_cz, e_cz1, e_cz2, e_cz3, e_cz4, e_ro1, e_ro2, e_pl1, e_pl2, e_pl3, e_pl4, e_ld0, e_ld1, e_ld2, e_ld3, e_ld4, e_ld5, e_pb0, e_pb1, e_pb2, e_pb3, e_sq, e_sq1, e_sq2, e_sq3, e_sq4, e_nx, e_rt, e_rt1, e_dp, e_dp1, e_is, e_is1, e_is2, e_as, e_as1, e_as2, e_as3, e_as4, e_st, e_st1, e_st2, e_st3, e_st4, e_st5, e_st6, e_up, e_up1, e_up2, e_pr, e_pr3, e_pr1, e_sa0, e_sa1, e_sa2, e_lt, e_lt1, e_ng, e_tg, e_gn, e_gc, e_gc1, e_fr, e_fr1, e_lp1, e_lp2, e_lp3, e_lp4, e_lp5, e_wh1, e_wh2, e_wh3, e_wh4, e_wh5, e_si, e_si1, e_si2, e_si3, e_r1, e_r11, e_r2, e_r21, e_en, e_en1, e_lc, e_lc1, e_lc2, e_lc3, e_lcn1, e_lcn2, e_lcn3, e_lcn4, e_ye, e_wi0, e_wi1, e_re0, e_re1, e_no0, e_no1, e_ow1, e_ow2, e_df1, e_df2, e_df3, e_rs1, e_rs2, e_rs3, e_rs4, e_rs5, e_ou, e_ou1, e_ou2, e_mu, e_mu1, e_mu6, e_mu2, e_mu3, e_mu4, e_mu5, g_addI, g_addL, g_sub, g_lt, g_le, g_gt, g_ge, g_mod, g_div, g_mulL, g_eqI, g_neI, g_eqB, g_neB, g_eqS, g_ixL, g_ixR, g_ixT, g_ix1, g_lenL, g_lenR, g_lenT, g_intI, g_intB, g_min2, g_max2, g_app, g_slL, g_slT, g_neg, g_atI0, g_atI1, g_atIl, g_ixN0, g_ixN1, g_powM3, g_powM5, g_mulR, List.getElem?_cons_zero, List.getElem?_cons_succ, List.getD_cons_zero, List.getD_cons_succ, List.set_cons_zero, List.set_cons_succ, Bool.and_true, Bool.true_and, Bool.and_false, Bool.false_and, decide_true, decide_false, Bool.not_true, Bool.not_false, List.length_cons, List.length_nil, Nat.reduceAdd, Nat.reduceMul, Nat.reduceSub, Nat.reduceLT, Nat.reduceLeDiff, Nat.reduceEqDiff, Int.reduceAdd, Int.reduceMul, Int.reduceSub, Int.reduceNeg, Int.reduceLT, Int.reduceLE, Int.reduceMod, Int.reduceDiv, Int.reducePow, Int.reduceToNat, Bool.false_eq_true, if_true, if_false, gt_iff_lt, ge_iff_le, g_eqIs, g_neIs, g_eqBs, g_neBs, g_eqI0, g_neI0, g_neT0, g_inB, g_inN, h_ss, h_ss1, h_ssG, h_min, h_tup, h_lst, h_flT, h_flL, h_flB, h_flb, h_fli, h_fln, h_flN, h_flS, h_mapi, h_mapb, h_mapI, h_mapB, h_revI, h_eu, h_eu1, h_eu2, h_r3, h_r31, h_fd, h_fd1, h_fd2, h_fd3, h_fs, h_fs1, h_fs2, h_fs3, h_mk, h_mk1, h_mk2, h_me, h_me1, h_me2, h_me3, h_io, h_eo, h_no, h_eo1, g_eqTs, h_apd0, h_apd1, h_apo0, h_apo1, h_cn, h_cn1, h_cn2, h_pk0, h_pk1, h_pk2, h_nw, h_nw1, e_tu, e_tu1, e_af1, e_af2, e_af3, e_af4, e_wl1, e_wl2, e_lct, e_lct1, e_lct2, e_lct3, e_lct4, e_ni, e_ni1, e_lg1, e_lg2, e_lg3, e_lg4, e_lg5, e_ixw, e_ixw1, e_ixw2, e_ixw3, e_aow, e_aow1, e_aow2, e_aow3, e_zu, e_zu1, e_zu2, e_mulT, e_mxI, e_mnI, e_mxL, e_mnL, e_mxT, e_mnT, e_lgm, e_lgm1, e_lgm2, e_lgm3, e_tupT, e_lstT, e_lgc, e_lgc2, e_gd1, e_gd2, e_gpl, e_gpl1, e_gnx, e_gsq, e_gsq1, e_gyd, e_gyd1, e_gfr, e_gfr1, e_glp1, e_glpN, ends_some, Int.sub_zero, Int.add_zero, Int.zero_add, and_self, and_true, true_and, and_false, false_and, ne_eq, not_false_eq_true, not_true_eq_false, Bool.or_true, Bool.true_or, Bool.or_false, Bool.false_or, Option.some.injEq, reduceCtorEq, e]
      refine ⟨out ++ [cs], s2, by simp [a1], fun c hc' => ?_, by simp, rfl⟩
      rcases List.mem_append.mp hc' with q | q
      · exact a2 c q
      · rw [List.mem_singleton] at q; rw [q]; exact hc)
    (fun acc δ h => h)
  dsimp only at a3 a4
  subst a3; subst a4
  match out, a1, a2, e1 with
  | [a, b, d], _, a2, e1 => exact ⟨a, b, d, s', a2 a (by simp), a2 b (by simp), a2 d (by simp), e1⟩
theorem chains_lc (c : CA) (v0 v1 v2 v3 v4 v5 v6 v7 v8 v9 v10 v11 v12 v14 : Sl) (a b d : List Int) (ha : Fall a) (hb : Fall b) (hd : Fall d) : lcL (nameG 13) y4_law (x3_law c) [13] [.lst (a.map .int), .lst (b.map .int), .lst (d.map .int)] [] [v0, v1, v2, v3, v4, v5, v6, v7, v8, v9, v10, v11, v12, .un, v14]
    = some ([chD c a, chD c b, chD c d], [v0, v1, v2, v3, v4, v5, v6, v7, v8, v9, v10, v11, v12, .un, v14]) := by
  have hf : ∀ cs ∈ [a, b, d], Fall cs := by
    intro cs hc
    simp only [List.mem_cons, List.not_mem_nil, or_false] at hc
    rcases hc with rfl | rfl | rfl <;> assumption
  have e := lc_map (g := nameG 13) (t := y4_law) (e := x3_law c) (vs := [13]) (fun cs : List Int => D.lst (cs.map .int)) (fun cs => chD c cs) [a, b, d] [v0, v1, v2, v3, v4, v5, v6, v7, v8, v9, v10, v11, v12, .un, v14] (by simp) (fun cs hc => by
    have i1 := init_eqL c cs (hf cs hc)
    simp only [x3_law, y4_law, e_var, e_var1, e_var2, e_var3, e_dat, e_der1, e_der2, e_der3, e_sd1, e_sd2, e_sd3, e_op, e_op1, e_op2, e_op3, e_op4, e_un, e_un1, e_un2, e_sol, e_sol1, e_sol2, e_sol3, e_sol4, e_sol5, e_da, e_da1, e_na, e_ca, e_ca1, e_ca2, e_nd, e_cd, e_cd1, e_cd2, e_dn, e_dc, e_dc1, e_cb, e_cb1, e_cb2, e_ls, e_ls1, e_tp, e_tp1, e_np, e_ip, e_ip1, e_sl, e_sl1, e_sl2, e_sl3, e_rv, e_rv1, e_rv2, e_te, e_te1, e_at, e_at1, e_at2, e_ot, e_ot1, e_ot2, e_nt, e_nt1, e_ae, e_ae1, e_ae2, e_oe, e_oe1, e_oe2, e_ne, e_ne1, e_ie, e_ie1, e_ie2, e_ch, e_ch1, e_ch2, e_ch3, e_ch4, e_ch5, e_cl, e_cl1, e_cx, e_cx1, e_cx2, e_cx3, e_cx4, e_cx5, e_cz, e_cz1, e_cz2, e_cz3, e_cz4, e_ro1, e_ro2, e_pl1, e_pl2, e_pl3, e_pl4, e_ld0, e_ld1, e_ld2, e_ld3, e_ld4, e_ld5, e_pb0, e_pb1, e_pb2, e_pb3, e_sq, e_sq1, e_sq2, e_sq3, e_sq4, e_nx, e_rt, e_rt1, e_dp, e_dp1, e_is, e_is1, e_is2, e_as, e_as1, e_as2, e_as3, e_as4, e_st, e_st1, e_st2, e_st3, e_st4, e_st5, e_st6, e_up, e_up1, e_up2, e_pr, e_pr3, e_pr1, e_sa0, e_sa1, e_sa2, e_lt, e_lt1, e_ng, e_tg, e_gn, e_gc, e_gc1, e_fr, e_fr1, e_lp1, e_lp2, e_lp3, e_lp4, e_lp5, e_wh1, e_wh2, e_wh3, e_wh4, e_wh5, e_si, e_si1, e_si2, e_si3, e_r1, e_r11, e_r2, e_r21, e_en, e_en1, e_lc, e_lc1, e_lc2, e_lc3, e_lcn1, e_lcn2, e_lcn3, e_lcn4, e_ye, e_wi0, e_wi1, e_re0, e_re1, e_no0, e_no1, e_ow1, e_ow2, e_df1, e_df2, e_df3, e_rs1, e_rs2, e_rs3, e_rs4, e_rs5, e_ou, e_ou1, e_ou2, e_mu, e_mu1, e_mu6, e_mu2, e_mu3, e_mu4, e_mu5, g_addI, g_addL, g_sub, g_lt, g_le, g_gt, g_ge, g_mod, g_div, g_mulL, g_eqI, g_neI, g_eqB, g_neB, g_eqS, g_ixL, g_ixR, g_ixT, g_ix1, g_lenL, g_lenR, g_lenT, g_intI, g_intB, g_min2, g_max2, g_app, g_slL, g_slT, g_neg, g_atI0, g_atI1, g_atIl, g_ixN0, g_ixN1, g_powM3, g_powM5, g_mulR, List.getElem?_cons_zero, List.getElem?_cons_succ, List.getD_cons_zero, List.getD_cons_succ, List.set_cons_zero, List.set_cons_succ, Bool.and_true, Bool.true_and, Bool.and_false, Bool.false_and, decide_true, decide_false, Bool.not_true, Bool.not_false, List.length_cons, List.length_nil, Nat.reduceAdd, Nat.reduceMul, Nat.reduceSub, Nat.reduceLT, Nat.reduceLeDiff, Nat.reduceEqDiff, Int.reduceAdd, Int.reduceMul, Int.reduceSub, Int.reduceNeg, Int.reduceLT, Int.reduceLE, Int.reduceMod, Int.reduceDiv, Int.reducePow, Int.reduceToNat, Bool.false_eq_true, if_true, if_false, gt_iff_lt, ge_iff_le, g_eqIs, g_neIs, g_eqBs, g_neBs, g_eqI0, g_neI0, g_neT0, g_inB, g_inN, h_ss, h_ss1, h_ssG, h_min, h_tup, h_lst, h_flT, h_flL, h_flB, h_flb, h_fli, h_fln, h_flN, h_flS, h_mapi, h_mapb, h_mapI, h_mapB, h_revI, h_eu, h_eu1, h_eu2, h_r3, h_r31, h_fd, h_fd1, h_fd2, h_fd3, h_fs, h_fs1, h_fs2, h_fs3, h_mk, h_mk1, h_mk2, h_me, h_me1, h_me2, h_me3, h_io, h_eo, h_no, h_eo1, g_eqTs, h_apd0, h_apd1, h_apo0, h_apo1, h_cn, h_cn1, h_cn2, h_pk0, h_pk1, h_pk2, h_nw, h_nw1, e_tu, e_tu1, e_af1, e_af2, e_af3, e_af4, e_wl1, e_wl2, e_lct, e_lct1, e_lct2, e_lct3, e_lct4, e_ni, e_ni1, e_lg1, e_lg2, e_lg3, e_lg4, e_lg5, e_ixw, e_ixw1, e_ixw2, e_ixw3, e_aow, e_aow1, e_aow2, e_aow3, e_zu, e_zu1, e_zu2, e_mulT, e_mxI, e_mnI, e_mxL, e_mnL, e_mxT, e_mnT, e_lgm, e_lgm1, e_lgm2, e_lgm3, e_tupT, e_lstT, e_lgc, e_lgc2, e_gd1, e_gd2, e_gpl, e_gpl1, e_gnx, e_gsq, e_gsq1, e_gyd, e_gyd1, e_gfr, e_gfr1, e_glp1, e_glpN, ends_some, Int.sub_zero, Int.add_zero, Int.zero_add, and_self, and_true, true_and, and_false, false_and, ne_eq, not_false_eq_true, not_true_eq_false, Bool.or_true, Bool.true_or, Bool.or_false, Bool.false_or, Option.some.injEq, reduceCtorEq, i1])
  exact e
theorem due_lc (v0 v1 v2 v3 v4 v6 v7 v8 v9 v10 v11 v12 v13 : Sl) (a b d : List Int) (hb : b.length ≤ 1000) : lcL (nameG 14) y6_law x5_law [14] (b.map .int) [] [v0, v1, v2, v3, v4, .val (.lst [.lst (a.map .int), .lst (b.map .int), .lst (d.map .int)]), v6, v7, v8, v9, v10, v11, v12, v13, .un]
    = some ((b.filter fun x => decide (a = []) || decide (x < a.getLastD 0)).map .int, [v0, v1, v2, v3, v4, .val (.lst [.lst (a.map .int), .lst (b.map .int), .lst (d.map .int)]), v6, v7, v8, v9, v10, v11, v12, v13, .un]) := by
  rw [lc_pure D.int (fun x => if (decide (a = []) || decide (x < a.getLastD 0)) = true then some (.int x) else none) b [] _ (by simp; omega) (fun x hx => ?_)]
  · rw [List.nil_append, fm_if]
  · have nz := g_eqI0 a
    have hat0 : L2.atI [D.lst (a.map .int), .lst (b.map .int), .lst (d.map .int)] 0 = some (.lst (a.map .int)) := rfl
    by_cases ne : a = []
    · rw [decide_eq_true ne] at nz
      simp only [x5_law, y6_law, e_var, e_var1, e_var2, e_var3, e_dat, e_der1, e_der2, e_der3, e_sd1, e_sd2, e_sd3, e_op, e_op1, e_op2, e_op3, e_op4, e_un, e_un1, e_un2, e_sol, e_sol1, e_sol2, e_sol3, e_sol4, e_sol5, e_da, e_da1, e_na, e_ca, e_ca1, e_ca2, e_nd, e_cd, e_cd1, e_cd2, e_dn, e_dc, e_dc1, e_cb, e_cb1, e_cb2, e_ls, e_ls1, e_tp, e_tp1, e_np, e_ip, e_ip1, e_sl, e_sl1, e_sl2, e_sl3, e_rv, e_rv1, e_rv2, e_te, e_te1, e_at, e_at1, e_at2, e_ot, e_ot1, e_ot2, e_nt, e_nt1, e_ae, e_ae1, e_ae2, e_oe, e_oe1, e_oe2, e_ne, e_ne1, e_ie, e_ie1, e_ie2, e_ch, e_ch1, e_ch2, e_ch3, e_ch4, e_ch5, e_cl, e_cl1, e_cx, e_cx1, e_cx2, e_cx3, e_cx4, e_cx5, e_cz, e_cz1, e_cz2, e_cz3, e_cz4, e_ro1, e_ro2, e_pl1, e_pl2, e_pl3, e_pl4, e_ld0, e_ld1, e_ld2, e_ld3, e_ld4, e_ld5, e_pb0, e_pb1, e_pb2, e_pb3, e_sq, e_sq1, e_sq2, e_sq3, e_sq4, e_nx, e_rt, e_rt1, e_dp, e_dp1, e_is, e_is1, e_is2, e_as, e_as1, e_as2, e_as3, e_as4, e_st, e_st1, e_st2, e_st3, e_st4, e_st5, e_st6, e_up, e_up1, e_up2, e_pr, e_pr3, e_pr1, e_sa0, e_sa1, e_sa2, e_lt, e_lt1, e_ng, e_tg, e_gn, e_gc, e_gc1, e_fr, e_fr1, e_lp1, e_lp2, e_lp3, e_lp4, e_lp5, e_wh1, e_wh2, e_wh3, e_wh4, e_wh5, e_si, e_si1, e_si2, e_si3, e_r1, e_r11, e_r2, e_r21, e_en, e_en1, e_lc, e_lc1, e_lc2, e_lc3, e_lcn1, e_lcn2, e_lcn3, e_lcn4, e_ye, e_wi0, e_wi1, e_re0, e_re1, e_no0, e_no1, e_ow1, e_ow2, e_df1, e_df2, e_df3, e_rs1, e_rs2, e_rs3, e_rs4, e_rs5, e_ou, e_ou1, e_ou2, e_mu, e_mu1, e_mu6, e_mu2, e_mu3, e_mu4, e_mu5, g_addI, g_addL, g_sub, g_lt, g_le, g_gt, g_ge, g_mod, g_div, g_mulL, g_eqI, g_neI, g_eqB, g_neB, g_eqS, g_ixL, g_ixR, g_ixT, g_ix1, g_lenL, g_lenR, g_lenT, g_intI, g_intB, g_min2, g_max2, g_app, g_slL, g_slT, g_neg, g_atI0, g_atI1, g_atIl, g_ixN0, g_ixN1, g_powM3, g_powM5, g_mulR, List.getElem?_cons_zero, List.getElem?_cons_succ, List.getD_cons_zero, List.getD_cons_succ, List.set_cons_zero, List.set_cons_succ, Bool.and_true, Bool.true_and, Bool.and_false, Bool.false_and, decide_true, decide_false, Bool.not_true, Bool.not_false, List.length_cons, List.length_nil, Nat.reduceAdd, Nat.reduceMul, Nat.reduceSub, Nat.reduceLT, Nat.reduceLeDiff, Nat.reduceEqDiff, Int.reduceAdd, Int.reduceMul, Int.reduceSub, Int.reduceNeg, Int.reduceLT, Int.reduceLE, Int.reduceMod, Int.reduceDiv, Int.reducePow, Int.reduceToNat, Bool.false_eq_true, if_true, if_false, gt_iff_lt, ge_iff_le, g_eqIs, g_neIs, g_eqBs, g_neBs, g_eqI0, g_neI0, g_neT0, g_inB, g_inN, h_ss, h_ss1, h_ssG, h_min, h_tup, h_lst, h_flT, h_flL, h_flB, h_flb, h_fli, h_fln, h_flN, h_flS, h_mapi, h_mapb, h_mapI, h_mapB, h_revI, h_eu, h_eu1, h_eu2, h_r3, h_r31, h_fd, h_fd1, h_fd2, h_fd3, h_fs, h_fs1, h_fs2, h_fs3, h_mk, h_mk1, h_mk2, h_me, h_me1, h_me2, h_me3, h_io, h_eo, h_no, h_eo1, g_eqTs, h_apd0, h_apd1, h_apo0, h_apo1, h_cn, h_cn1, h_cn2, h_pk0, h_pk1, h_pk2, h_nw, h_nw1, e_tu, e_tu1, e_af1, e_af2, e_af3, e_af4, e_wl1, e_wl2, e_lct, e_lct1, e_lct2, e_lct3, e_lct4, e_ni, e_ni1, e_lg1, e_lg2, e_lg3, e_lg4, e_lg5, e_ixw, e_ixw1, e_ixw2, e_ixw3, e_aow, e_aow1, e_aow2, e_aow3, e_zu, e_zu1, e_zu2, e_mulT, e_mxI, e_mnI, e_mxL, e_mnL, e_mxT, e_mnT, e_lgm, e_lgm1, e_lgm2, e_lgm3, e_tupT, e_lstT, e_lgc, e_lgc2, e_gd1, e_gd2, e_gpl, e_gpl1, e_gnx, e_gsq, e_gsq1, e_gyd, e_gyd1, e_gfr, e_gfr1, e_glp1, e_glpN, ends_some, Int.sub_zero, Int.add_zero, Int.zero_add, and_self, and_true, true_and, and_false, false_and, ne_eq, not_false_eq_true, not_true_eq_false, Bool.or_true, Bool.true_or, Bool.or_false, Bool.false_or, Option.some.injEq, reduceCtorEq, hat0, nz, ne]
    · have hl : 0 < a.length := List.length_pos_iff.mpr ne
      rw [decide_eq_false ne] at nz
      have hat : L2.atI (a.map D.int) (-1) = some (.int (a.getLastD 0)) := by
        rw [DV.atI_last (by rw [List.length_map]; exact hl), List.getLastD_eq_getLast?, List.getLast?_eq_getElem?, List.length_map, List.getElem?_map, List.getElem?_eq_getElem (show a.length - 1 < a.length by omega)]; rfl
      by_cases hx : x < a.getLastD 0
      · simp only [x5_law, y6_law, e_var, e_var1, e_var2, e_var3, e_dat, e_der1, e_der2, e_der3, e_sd1, e_sd2, e_sd3, e_op, e_op1, e_op2, e_op3, e_op4, e_un, e_un1, e_un2, e_sol, e_sol1, e_sol2, e_sol3, e_sol4, e_sol5, e_da, e_da1, e_na, e_ca, e_ca1, e_ca2, e_nd, e_cd, e_cd1, e_cd2, e_dn, e_dc, e_dc1, e_cb, e_cb1, e_cb2, e_ls, e_ls1, e_tp, e_tp1, e_np, e_ip, e_ip1, e_sl, e_sl1, e_sl2, e_sl3, e_rv, e_rv1, e_rv2, e_te, e_te1, e_at, e_at1, e_at2, e_ot, e_ot1, e_ot2, e_nt, e_nt1, e_ae, e_ae1, e_ae2, e_oe, e_oe1, e_oe2, e_ne, e_ne1, e_ie, e_ie1, e_ie2, e_ch, e_ch1, e_ch2, e_ch3, e_ch4, e_ch5, e_cl, e_cl1, e_cx, e_cx1, e_cx2, e_cx3, e_cx4, e_cx5, e_cz, e_cz1, e_cz2, e_cz3, e_cz4, e_ro1, e_ro2, e_pl1, e_pl2, e_pl3, e_pl4, e_ld0, e_ld1, e_ld2, e_ld3, e_ld4, e_ld5, e_pb0, e_pb1, e_pb2, e_pb3, e_sq, e_sq1, e_sq2, e_sq3, e_sq4, e_nx, e_rt, e_rt1, e_dp, e_dp1, e_is, e_is1, e_is2, e_as, e_as1, e_as2, e_as3, e_as4, e_st, e_st1, e_st2, e_st3, e_st4, e_st5, e_st6, e_up, e_up1, e_up2, e_pr, e_pr3, e_pr1, e_sa0, e_sa1, e_sa2, e_lt, e_lt1, e_ng, e_tg, e_gn, e_gc, e_gc1, e_fr, e_fr1, e_lp1, e_lp2, e_lp3, e_lp4, e_lp5, e_wh1, e_wh2, e_wh3, e_wh4, e_wh5, e_si, e_si1, e_si2, e_si3, e_r1, e_r11, e_r2, e_r21, e_en, e_en1, e_lc, e_lc1, e_lc2, e_lc3, e_lcn1, e_lcn2, e_lcn3, e_lcn4, e_ye, e_wi0, e_wi1, e_re0, e_re1, e_no0, e_no1, e_ow1, e_ow2, e_df1, e_df2, e_df3, e_rs1, e_rs2, e_rs3, e_rs4, e_rs5, e_ou, e_ou1, e_ou2, e_mu, e_mu1, e_mu6, e_mu2, e_mu3, e_mu4, e_mu5, g_addI, g_addL, g_sub, g_lt, g_le, g_gt, g_ge, g_mod, g_div, g_mulL, g_eqI, g_neI, g_eqB, g_neB, g_eqS, g_ixL, g_ixR, g_ixT, g_ix1, g_lenL, g_lenR, g_lenT, g_intI, g_intB, g_min2, g_max2, g_app, g_slL, g_slT, g_neg, g_atI0, g_atI1, g_atIl, g_ixN0, g_ixN1, g_powM3, g_powM5, g_mulR, List.getElem?_cons_zero, List.getElem?_cons_succ, List.getD_cons_zero, List.getD_cons_succ, List.set_cons_zero, List.set_cons_succ, Bool.and_true, Bool.true_and, Bool.and_false, Bool.false_and, decide_true, decide_false, Bool.not_true, Bool.not_false, List.length_cons, List.length_nil, Nat.reduceAdd, Nat.reduceMul, Nat.reduceSub, Nat.reduceLT, Nat.reduceLeDiff, Nat.reduceEqDiff, Int.reduceAdd, Int.reduceMul, Int.reduceSub, Int.reduceNeg, Int.reduceLT, Int.reduceLE, Int.reduceMod, Int.reduceDiv, Int.reducePow, Int.reduceToNat, Bool.false_eq_true, if_true, if_false, gt_iff_lt, ge_iff_le, g_eqIs, g_neIs, g_eqBs, g_neBs, g_eqI0, g_neI0, g_neT0, g_inB, g_inN, h_ss, h_ss1, h_ssG, h_min, h_tup, h_lst, h_flT, h_flL, h_flB, h_flb, h_fli, h_fln, h_flN, h_flS, h_mapi, h_mapb, h_mapI, h_mapB, h_revI, h_eu, h_eu1, h_eu2, h_r3, h_r31, h_fd, h_fd1, h_fd2, h_fd3, h_fs, h_fs1, h_fs2, h_fs3, h_mk, h_mk1, h_mk2, h_me, h_me1, h_me2, h_me3, h_io, h_eo, h_no, h_eo1, g_eqTs, h_apd0, h_apd1, h_apo0, h_apo1, h_cn, h_cn1, h_cn2, h_pk0, h_pk1, h_pk2, h_nw, h_nw1, e_tu, e_tu1, e_af1, e_af2, e_af3, e_af4, e_wl1, e_wl2, e_lct, e_lct1, e_lct2, e_lct3, e_lct4, e_ni, e_ni1, e_lg1, e_lg2, e_lg3, e_lg4, e_lg5, e_ixw, e_ixw1, e_ixw2, e_ixw3, e_aow, e_aow1, e_aow2, e_aow3, e_zu, e_zu1, e_zu2, e_mulT, e_mxI, e_mnI, e_mxL, e_mnL, e_mxT, e_mnT, e_lgm, e_lgm1, e_lgm2, e_lgm3, e_tupT, e_lstT, e_lgc, e_lgc2, e_gd1, e_gd2, e_gpl, e_gpl1, e_gnx, e_gsq, e_gsq1, e_gyd, e_gyd1, e_gfr, e_gfr1, e_glp1, e_glpN, ends_some, Int.sub_zero, Int.add_zero, Int.zero_add, and_self, and_true, true_and, and_false, false_and, ne_eq, not_false_eq_true, not_true_eq_false, Bool.or_true, Bool.true_or, Bool.or_false, Bool.false_or, Option.some.injEq, reduceCtorEq, hat0, nz, ne, hat, hx]
      · simp only [x5_law, y6_law, e_var, e_var1, e_var2, e_var3, e_dat, e_der1, e_der2, e_der3, e_sd1, e_sd2, e_sd3, e_op, e_op1, e_op2, e_op3, e_op4, e_un, e_un1, e_un2, e_sol, e_sol1, e_sol2, e_sol3, e_sol4, e_sol5, e_da, e_da1, e_na, e_ca, e_ca1, e_ca2, e_nd, e_cd, e_cd1, e_cd2, e_dn, e_dc, e_dc1, e_cb, e_cb1, e_cb2, e_ls, e_ls1, e_tp, e_tp1, e_np, e_ip, e_ip1, e_sl, e_sl1, e_sl2, e_sl3, e_rv, e_rv1, e_rv2, e_te, e_te1, e_at, e_at1, e_at2, e_ot, e_ot1, e_ot2, e_nt, e_nt1, e_ae, e_ae1, e_ae2, e_oe, e_oe1, e_oe2, e_ne, e_ne1, e_ie, e_ie1, e_ie2, e_ch, e_ch1, e_ch2, e_ch3, e_ch4, e_ch5, e_cl, e_cl1, e_cx, e_cx1, e_cx2, e_cx3, e_cx4, e_cx5, e_cz, e_cz1, e_cz2, e_cz3, e_cz4, e_ro1, e_ro2, e_pl1, e_pl2, e_pl3, e_pl4, e_ld0, e_ld1, e_ld2, e_ld3, e_ld4, e_ld5, e_pb0, e_pb1, e_pb2, e_pb3, e_sq, e_sq1, e_sq2, e_sq3, e_sq4, e_nx, e_rt, e_rt1, e_dp, e_dp1, e_is, e_is1, e_is2, e_as, e_as1, e_as2, e_as3, e_as4, e_st, e_st1, e_st2, e_st3, e_st4, e_st5, e_st6, e_up, e_up1, e_up2, e_pr, e_pr3, e_pr1, e_sa0, e_sa1, e_sa2, e_lt, e_lt1, e_ng, e_tg, e_gn, e_gc, e_gc1, e_fr, e_fr1, e_lp1, e_lp2, e_lp3, e_lp4, e_lp5, e_wh1, e_wh2, e_wh3, e_wh4, e_wh5, e_si, e_si1, e_si2, e_si3, e_r1, e_r11, e_r2, e_r21, e_en, e_en1, e_lc, e_lc1, e_lc2, e_lc3, e_lcn1, e_lcn2, e_lcn3, e_lcn4, e_ye, e_wi0, e_wi1, e_re0, e_re1, e_no0, e_no1, e_ow1, e_ow2, e_df1, e_df2, e_df3, e_rs1, e_rs2, e_rs3, e_rs4, e_rs5, e_ou, e_ou1, e_ou2, e_mu, e_mu1, e_mu6, e_mu2, e_mu3, e_mu4, e_mu5, g_addI, g_addL, g_sub, g_lt, g_le, g_gt, g_ge, g_mod, g_div, g_mulL, g_eqI, g_neI, g_eqB, g_neB, g_eqS, g_ixL, g_ixR, g_ixT, g_ix1, g_lenL, g_lenR, g_lenT, g_intI, g_intB, g_min2, g_max2, g_app, g_slL, g_slT, g_neg, g_atI0, g_atI1, g_atIl, g_ixN0, g_ixN1, g_powM3, g_powM5, g_mulR, List.getElem?_cons_zero, List.getElem?_cons_succ, List.getD_cons_zero, List.getD_cons_succ, List.set_cons_zero, List.set_cons_succ, Bool.and_true, Bool.true_and, Bool.and_false, Bool.false_and, decide_true, decide_false, Bool.not_true, Bool.not_false, List.length_cons, List.length_nil, Nat.reduceAdd, Nat.reduceMul, Nat.reduceSub, Nat.reduceLT, Nat.reduceLeDiff, Nat.reduceEqDiff, Int.reduceAdd, Int.reduceMul, Int.reduceSub, Int.reduceNeg, Int.reduceLT, Int.reduceLE, Int.reduceMod, Int.reduceDiv, Int.reducePow, Int.reduceToNat, Bool.false_eq_true, if_true, if_false, gt_iff_lt, ge_iff_le, g_eqIs, g_neIs, g_eqBs, g_neBs, g_eqI0, g_neI0, g_neT0, g_inB, g_inN, h_ss, h_ss1, h_ssG, h_min, h_tup, h_lst, h_flT, h_flL, h_flB, h_flb, h_fli, h_fln, h_flN, h_flS, h_mapi, h_mapb, h_mapI, h_mapB, h_revI, h_eu, h_eu1, h_eu2, h_r3, h_r31, h_fd, h_fd1, h_fd2, h_fd3, h_fs, h_fs1, h_fs2, h_fs3, h_mk, h_mk1, h_mk2, h_me, h_me1, h_me2, h_me3, h_io, h_eo, h_no, h_eo1, g_eqTs, h_apd0, h_apd1, h_apo0, h_apo1, h_cn, h_cn1, h_cn2, h_pk0, h_pk1, h_pk2, h_nw, h_nw1, e_tu, e_tu1, e_af1, e_af2, e_af3, e_af4, e_wl1, e_wl2, e_lct, e_lct1, e_lct2, e_lct3, e_lct4, e_ni, e_ni1, e_lg1, e_lg2, e_lg3, e_lg4, e_lg5, e_ixw, e_ixw1, e_ixw2, e_ixw3, e_aow, e_aow1, e_aow2, e_aow3, e_zu, e_zu1, e_zu2, e_mulT, e_mxI, e_mnI, e_mxL, e_mnL, e_mxT, e_mnT, e_lgm, e_lgm1, e_lgm2, e_lgm3, e_tupT, e_lstT, e_lgc, e_lgc2, e_gd1, e_gd2, e_gpl, e_gpl1, e_gnx, e_gsq, e_gsq1, e_gyd, e_gyd1, e_gfr, e_gfr1, e_glp1, e_glpN, ends_some, Int.sub_zero, Int.add_zero, Int.zero_add, and_self, and_true, true_and, and_false, false_and, ne_eq, not_false_eq_true, not_true_eq_false, Bool.or_true, Bool.true_or, Bool.or_false, Bool.false_or, Option.some.injEq, reduceCtorEq, hat0, nz, ne, hat, hx]
theorem turn_eq (c : CA) (v0 v1 v3 v4 v5 v6 v7 v8 v9 v10 v11 : Sl) (s : Strm) : Ends (b7_law c [v0, v1, .own (SD s), v3, v4, v5, v6, v7, v8, v9, v10, v11, .un, .un, .un])
    fun fl => ∃ (s' : Strm) (w4 w5 w6 w7 w8 w9 w10 w11 : Sl), fl = .nx [v0, v1, .own (SD s'), v3, w4, w5, w6, w7, w8, w9, w10, w11, .un, .un, .un] := by
  have ek := choose_eq s D.int [8, 20, 60] 8 (by simp) (by simp)
  have hm := chv_mem (s := s) (d := (8 : Int)) (show [8, 20, (60 : Int)] ≠ [] by simp)
  generalize chv s [8, 20, (60 : Int)] 8 = high at ek hm
  generalize chs s [8, 20, (60 : Int)] = s1 at ek
  simp only [List.map_cons, List.map_nil] at ek
  have hh : 1 ≤ high ∧ high ≤ 60 := by
    simp only [List.mem_cons, List.not_mem_nil, or_false] at hm
    omega
  obtain ⟨a, b, d, s2, ha, hb, hd, el⟩ := lists_lc high hh.1 hh.2 v0 v1 v3 v5 v6 v7 v8 v9 v10 v11 .un .un s1
  have ec := chains_lc c v0 v1 (.own (SD s2)) v3 (.val (.int high)) (.val (.lst [.lst (a.map .int), .lst (b.map .int), .lst (d.map .int)])) v6 v7 v8 v9 v10 v11 .un .un a b d ha.1 hb.1 hd.1
  have la := fall_size ha.1
  have lb := fall_size hb.1
  have a1 := add_eq c a b ha.1 hb.1
  have hab := addF_fall ha.1 hb.1
  have a2 := add_eq c (addF a b) d hab hd.1
  have a3 := add_eq c b d hb.1 hd.1
  have a4 := add_eq c a (addF b d) ha.1 (addF_fall hb.1 hd.1)
  rw [← addF_assoc ha.1 hb.1 hd.1] at a4
  have a5 := add_eq c a [] ha.1 trivial
  rw [addF_nil] at a5
  have a6 := add_eq c [] a trivial ha.1
  rw [nil_addF] at a6
  have a7 := add_eq c a a ha.1 ha.1
  rw [addF_self ha.1] at a7
  have i0 := init_eqL c [] trivial
  have i1 := init_eqT c [] trivial
  rw [List.map_nil] at i0 i1
  have q1 := chain_eq c (addF (addF a b) d) (addF (addF a b) d)
  rw [decide_eq_true rfl] at q1
  have q2 := chain_eq c a a
  rw [decide_eq_true rfl] at q2
  have du := due_lc v0 v1 (.own (SD s2)) v3 (.val (.int high)) (.val (chD c a)) (.val (chD c b)) (.val (chD c d)) (.val (chD c (addF a b))) v10 v11 .un .un a b d (by omega)
  have eb := draw_eq s2 70 (by decide) (by decide)
  have db := drv_ok (s := s2) (n := 70) (by decide)
  generalize drv s2 70 = k at eb db
  generalize drs s2 70 = s3 at eb
  have hB : 0 < 1 + k ∧ 1 + k ≤ 70 := by omega
  obtain ⟨B, hBk⟩ : ∃ B, 1 + k = B := ⟨_, rfl⟩
  rw [hBk] at hB
  have ad : addG (.lst (a.map .int)) (.lst ((b.filter fun x => decide (a = []) || decide (x < a.getLastD 0)).map .int)) = some (.fre (.lst ((addF a b).map .int))) := by
    rw [g_addL (by have := List.length_filter_le (fun x => decide (a = []) || decide (x < a.getLastD 0)) b; rw [List.length_map, List.length_map]; omega), ← List.map_append]
    rfl
  generalize b.filter (fun x => decide (a = []) || decide (x < a.getLastD 0)) = F at du ad
  have n1 := g_neTs (addF a b) (addF a b)
  have n2 := g_neTs a a
  have n3 := g_neTs b b
  rw [decide_eq_true rfl, Bool.not_true] at n1 n2 n3
  have hat0 : L2.atI [D.lst (a.map .int), .lst (b.map .int), .lst (d.map .int)] 0 = some (.lst (a.map .int)) := rfl
  have hat1 : L2.atI [D.lst (a.map .int), .lst (b.map .int), .lst (d.map .int)] 1 = some (.lst (b.map .int)) := rfl
  have hLa : ∀ t ∈ PL a B, 0 < t := fun t ht => (PL_mem ha.1 hB.1 t ht).1
  obtain ⟨o1, p1, ho1⟩ := lparted_eq a [B] ha.1 (by simp; omega) (by simp; omega)
  rw [List.flatMap_cons, List.flatMap_nil, List.append_nil] at ho1
  simp only [List.map_cons, List.map_nil] at p1
  obtain ⟨o2, p2, ho2⟩ := lparted_eq b (PL a B) hb.1 hLa (by rw [PL_total ha.1 hB.1]; omega)
  rw [← PL_sum ha.1 hb.1 hB.1, ← parts_PL hab B.toNat (Nat.le_refl _) hB.1] at ho2
  have hsum : (parts (addF a b) B).sum = B := by rw [parts_PL hab B.toNat (Nat.le_refl _) hB.1, PL_total hab hB.1]
  have pp := parted_eq c (addF a b) hab B (by omega) (by have := nPcs_le hab (b := B) (by omega); omega)
  have n4 := g_neIs (parts (addF a b) B) (parts (addF a b) B)
  rw [decide_eq_true rfl, Bool.not_true] at n4
  have sm : sumG [.lst ((parts (addF a b) B).map .int)] = some (.dat (.int B)) := by simp only [sumG, lstOf, Option.bind_some, intsOf_map, hsum]
  have np := nPcs_sum ha.1 hb.1 hB.1
  have np' : ¬ nPcs (addF a b) B < nPcs a B := by omega
  have e1 := pieces_eq c (addF a b) hab B (by omega)
  have e2 := pieces_eq c a ha.1 B (by omega)
  generalize parts (addF a b) B = PP at ho2 pp n4 sm
  generalize PL a B = QQ at ho1 p2
  have tg : ∀ (x y z : D) (u0 u1 u2 u3 u4 u5 u6 u7 u8 u9 u10 u11 u12 u13 u14 : Sl), unlG 3 (consG (nameG 6) (consG (nameG 7) (consG (nameG 8) nilG))) (.lst [x, y, z]) [u0, u1, u2, u3, u4, u5, u6, u7, u8, u9, u10, u11, u12, u13, u14] = some [u0, u1, u2, u3, u4, u5, .val x, .val y, .val z, u9, u10, u11, u12, u13, u14] := fun x y z u0 u1 u2 u3 u4 u5 u6 u7 u8 u9 u10 u11 u12 u13 u14 => rfl
  rcases ho1 with rfl | rfl <;> rcases ho2 with rfl | rfl
  · simp only [b7_law, e_var, e_var1, e_var2, e_var3, e_dat, e_der1, e_der2, e_der3, e_sd1, e_sd2, e_sd3, e_op, e_op1, e_op2, e_op3, e_op4, e_un, e_un1, e_un2, e_sol, e_sol1, e_sol2, e_sol3, e_sol4, e_sol5, e_da, e_da1, e_na, e_ca, e_ca1, e_ca2, e_nd, e_cd, e_cd1, e_cd2, e_dn, e_dc, e_dc1, e_cb, e_cb1, e_cb2, e_ls, e_ls1, e_tp, e_tp1, e_np, e_ip, e_ip1, e_sl, e_sl1, e_sl2, e_sl3, e_rv, e_rv1, e_rv2, e_te, e_te1, e_at, e_at1, e_at2, e_ot, e_ot1, e_ot2, e_nt, e_nt1, e_ae, e_ae1, e_ae2, e_oe, e_oe1, e_oe2, e_ne, e_ne1, e_ie, e_ie1, e_ie2, e_ch, e_ch1, e_ch2, e_ch3, e_ch4, e_ch5, e_cl, e_cl1, e_cx, e_cx1, e_cx2, e_cx3, e_cx4, e_cx5, e_cz, e_cz1, e_cz2, e_cz3, e_cz4, e_ro1, e_ro2, e_pl1, e_pl2, e_pl3, e_pl4, e_ld0, e_ld1, e_ld2, e_ld3, e_ld4, e_ld5, e_pb0, e_pb1, e_pb2, e_pb3, e_sq, e_sq1, e_sq2, e_sq3, e_sq4, e_nx, e_rt, e_rt1, e_dp, e_dp1, e_is, e_is1, e_is2, e_as, e_as1, e_as2, e_as3, e_as4, e_st, e_st1, e_st2, e_st3, e_st4, e_st5, e_st6, e_up, e_up1, e_up2, e_pr, e_pr3, e_pr1, e_sa0, e_sa1, e_sa2, e_lt, e_lt1, e_ng, e_tg, e_gn, e_gc, e_gc1, e_fr, e_fr1, e_lp1, e_lp2, e_lp3, e_lp4, e_lp5, e_wh1, e_wh2, e_wh3, e_wh4, e_wh5, e_si, e_si1, e_si2, e_si3, e_r1, e_r11, e_r2, e_r21, e_en, e_en1, e_lc, e_lc1, e_lc2, e_lc3, e_lcn1, e_lcn2, e_lcn3, e_lcn4, e_ye, e_wi0, e_wi1, e_re0, e_re1, e_no0, e_no1, e_ow1, e_ow2, e_df1, e_df2, e_df3, e_rs1, e_rs2, e_rs3, e_rs4, e_rs5, e_ou, e_ou1, e_ou2, e_mu, e_mu1, e_mu6, e_mu2, e_mu3, e_mu4, e_mu5, g_addI, g_addL, g_sub, g_lt, g_le, g_gt, g_ge, g_mod, g_div, g_mulL, g_eqI, g_neI, g_eqB, g_neB, g_eqS, g_ixL, g_ixR, g_ixT, g_ix1, g_lenL, g_lenR, g_lenT, g_intI, g_intB, g_min2, g_max2, g_app, g_slL, g_slT, g_neg, g_atI0, g_atI1, g_atIl, g_ixN0, g_ixN1, g_powM3, g_powM5, g_mulR, List.getElem?_cons_zero, List.getElem?_cons_succ, List.getD_cons_zero, List.getD_cons_succ, List.set_cons_zero, List.set_cons_succ, Bool.and_true, Bool.true_and, Bool.and_false, Bool.false_and, decide_true, decide_false, Bool.not_true, Bool.not_false, List.length_cons, List.length_nil, Nat.reduceAdd, Nat.reduceMul, Nat.reduceSub, Nat.reduceLT, Nat.reduceLeDiff, Nat.reduceEqDiff, Int.reduceAdd, Int.reduceMul, Int.reduceSub, Int.reduceNeg, Int.reduceLT, Int.reduceLE, Int.reduceMod, Int.reduceDiv, Int.reducePow, Int.reduceToNat, Bool.false_eq_true, if_true, if_false, gt_iff_lt, ge_iff_le, g_eqIs, g_neIs, g_eqBs, g_neBs, g_eqI0, g_neI0, g_neT0, g_inB, g_inN, h_ss, h_ss1, h_ssG, h_min, h_tup, h_lst, h_flT, h_flL, h_flB, h_flb, h_fli, h_fln, h_flN, h_flS, h_mapi, h_mapb, h_mapI, h_mapB, h_revI, h_eu, h_eu1, h_eu2, h_r3, h_r31, h_fd, h_fd1, h_fd2, h_fd3, h_fs, h_fs1, h_fs2, h_fs3, h_mk, h_mk1, h_mk2, h_me, h_me1, h_me2, h_me3, h_io, h_eo, h_no, h_eo1, g_eqTs, h_apd0, h_apd1, h_apo0, h_apo1, h_cn, h_cn1, h_cn2, h_pk0, h_pk1, h_pk2, h_nw, h_nw1, e_tu, e_tu1, e_af1, e_af2, e_af3, e_af4, e_wl1, e_wl2, e_lct, e_lct1, e_lct2, e_lct3, e_lct4, e_ni, e_ni1, e_lg1, e_lg2, e_lg3, e_lg4, e_lg5, e_ixw, e_ixw1, e_ixw2, e_ixw3, e_aow, e_aow1, e_aow2, e_aow3, e_zu, e_zu1, e_zu2, e_mulT, e_mxI, e_mnI, e_mxL, e_mnL, e_mxT, e_mnT, e_lgm, e_lgm1, e_lgm2, e_lgm3, e_tupT, e_lstT, e_lgc, e_lgc2, e_gd1, e_gd2, e_gpl, e_gpl1, e_gnx, e_gsq, e_gsq1, e_gyd, e_gyd1, e_gfr, e_gfr1, e_glp1, e_glpN, ends_some, Int.sub_zero, Int.add_zero, Int.zero_add, and_self, and_true, true_and, and_false, false_and, ne_eq, not_false_eq_true, not_true_eq_false, Bool.or_true, Bool.true_or, Bool.or_false, Bool.false_or, Option.some.injEq, reduceCtorEq, ch_cuts, ch_counts, ch_eq, ch_ne, ch_in, ch_ni, ch_ix, ch_add, ch_is, ch_m1, ch_m2, ch_m3, ch_m4, ek, el, ec, tg, a1, du, hat0, hat1, ad, h_tup, n1, n2, n3, a2, a3, a4, a5, a6, a7, i0, i1, q1, q2, eb, hBk, pp, p1, p2, n4, sm, e1, e2, np']
    exact ⟨_, _, _, _, _, _, _, _, _, rfl⟩
  · simp only [b7_law, e_var, e_var1, e_var2, e_var3, e_dat, e_der1, e_der2, e_der3, e_sd1, e_sd2, e_sd3, e_op, e_op1, e_op2, e_op3, e_op4, e_un, e_un1, e_un2, e_sol, e_sol1, e_sol2, e_sol3, e_sol4, e_sol5, e_da, e_da1, e_na, e_ca, e_ca1, e_ca2, e_nd, e_cd, e_cd1, e_cd2, e_dn, e_dc, e_dc1, e_cb, e_cb1, e_cb2, e_ls, e_ls1, e_tp, e_tp1, e_np, e_ip, e_ip1, e_sl, e_sl1, e_sl2, e_sl3, e_rv, e_rv1, e_rv2, e_te, e_te1, e_at, e_at1, e_at2, e_ot, e_ot1, e_ot2, e_nt, e_nt1, e_ae, e_ae1, e_ae2, e_oe, e_oe1, e_oe2, e_ne, e_ne1, e_ie, e_ie1, e_ie2, e_ch, e_ch1, e_ch2, e_ch3, e_ch4, e_ch5, e_cl, e_cl1, e_cx, e_cx1, e_cx2, e_cx3, e_cx4, e_cx5, e_cz, e_cz1, e_cz2, e_cz3, e_cz4, e_ro1, e_ro2, e_pl1, e_pl2, e_pl3, e_pl4, e_ld0, e_ld1, e_ld2, e_ld3, e_ld4, e_ld5, e_pb0, e_pb1, e_pb2, e_pb3, e_sq, e_sq1, e_sq2, e_sq3, e_sq4, e_nx, e_rt, e_rt1, e_dp, e_dp1, e_is, e_is1, e_is2, e_as, e_as1, e_as2, e_as3, e_as4, e_st, e_st1, e_st2, e_st3, e_st4, e_st5, e_st6, e_up, e_up1, e_up2, e_pr, e_pr3, e_pr1, e_sa0, e_sa1, e_sa2, e_lt, e_lt1, e_ng, e_tg, e_gn, e_gc, e_gc1, e_fr, e_fr1, e_lp1, e_lp2, e_lp3, e_lp4, e_lp5, e_wh1, e_wh2, e_wh3, e_wh4, e_wh5, e_si, e_si1, e_si2, e_si3, e_r1, e_r11, e_r2, e_r21, e_en, e_en1, e_lc, e_lc1, e_lc2, e_lc3, e_lcn1, e_lcn2, e_lcn3, e_lcn4, e_ye, e_wi0, e_wi1, e_re0, e_re1, e_no0, e_no1, e_ow1, e_ow2, e_df1, e_df2, e_df3, e_rs1, e_rs2, e_rs3, e_rs4, e_rs5, e_ou, e_ou1, e_ou2, e_mu, e_mu1, e_mu6, e_mu2, e_mu3, e_mu4, e_mu5, g_addI, g_addL, g_sub, g_lt, g_le, g_gt, g_ge, g_mod, g_div, g_mulL, g_eqI, g_neI, g_eqB, g_neB, g_eqS, g_ixL, g_ixR, g_ixT, g_ix1, g_lenL, g_lenR, g_lenT, g_intI, g_intB, g_min2, g_max2, g_app, g_slL, g_slT, g_neg, g_atI0, g_atI1, g_atIl, g_ixN0, g_ixN1, g_powM3, g_powM5, g_mulR, List.getElem?_cons_zero, List.getElem?_cons_succ, List.getD_cons_zero, List.getD_cons_succ, List.set_cons_zero, List.set_cons_succ, Bool.and_true, Bool.true_and, Bool.and_false, Bool.false_and, decide_true, decide_false, Bool.not_true, Bool.not_false, List.length_cons, List.length_nil, Nat.reduceAdd, Nat.reduceMul, Nat.reduceSub, Nat.reduceLT, Nat.reduceLeDiff, Nat.reduceEqDiff, Int.reduceAdd, Int.reduceMul, Int.reduceSub, Int.reduceNeg, Int.reduceLT, Int.reduceLE, Int.reduceMod, Int.reduceDiv, Int.reducePow, Int.reduceToNat, Bool.false_eq_true, if_true, if_false, gt_iff_lt, ge_iff_le, g_eqIs, g_neIs, g_eqBs, g_neBs, g_eqI0, g_neI0, g_neT0, g_inB, g_inN, h_ss, h_ss1, h_ssG, h_min, h_tup, h_lst, h_flT, h_flL, h_flB, h_flb, h_fli, h_fln, h_flN, h_flS, h_mapi, h_mapb, h_mapI, h_mapB, h_revI, h_eu, h_eu1, h_eu2, h_r3, h_r31, h_fd, h_fd1, h_fd2, h_fd3, h_fs, h_fs1, h_fs2, h_fs3, h_mk, h_mk1, h_mk2, h_me, h_me1, h_me2, h_me3, h_io, h_eo, h_no, h_eo1, g_eqTs, h_apd0, h_apd1, h_apo0, h_apo1, h_cn, h_cn1, h_cn2, h_pk0, h_pk1, h_pk2, h_nw, h_nw1, e_tu, e_tu1, e_af1, e_af2, e_af3, e_af4, e_wl1, e_wl2, e_lct, e_lct1, e_lct2, e_lct3, e_lct4, e_ni, e_ni1, e_lg1, e_lg2, e_lg3, e_lg4, e_lg5, e_ixw, e_ixw1, e_ixw2, e_ixw3, e_aow, e_aow1, e_aow2, e_aow3, e_zu, e_zu1, e_zu2, e_mulT, e_mxI, e_mnI, e_mxL, e_mnL, e_mxT, e_mnT, e_lgm, e_lgm1, e_lgm2, e_lgm3, e_tupT, e_lstT, e_lgc, e_lgc2, e_gd1, e_gd2, e_gpl, e_gpl1, e_gnx, e_gsq, e_gsq1, e_gyd, e_gyd1, e_gfr, e_gfr1, e_glp1, e_glpN, ends_some, Int.sub_zero, Int.add_zero, Int.zero_add, and_self, and_true, true_and, and_false, false_and, ne_eq, not_false_eq_true, not_true_eq_false, Bool.or_true, Bool.true_or, Bool.or_false, Bool.false_or, Option.some.injEq, reduceCtorEq, ch_cuts, ch_counts, ch_eq, ch_ne, ch_in, ch_ni, ch_ix, ch_add, ch_is, ch_m1, ch_m2, ch_m3, ch_m4, ek, el, ec, tg, a1, du, hat0, hat1, ad, h_tup, n1, n2, n3, a2, a3, a4, a5, a6, a7, i0, i1, q1, q2, eb, hBk, pp, p1, p2, n4, sm, e1, e2, np']
    exact ⟨_, _, _, _, _, _, _, _, _, rfl⟩
  · simp only [b7_law, e_var, e_var1, e_var2, e_var3, e_dat, e_der1, e_der2, e_der3, e_sd1, e_sd2, e_sd3, e_op, e_op1, e_op2, e_op3, e_op4, e_un, e_un1, e_un2, e_sol, e_sol1, e_sol2, e_sol3, e_sol4, e_sol5, e_da, e_da1, e_na, e_ca, e_ca1, e_ca2, e_nd, e_cd, e_cd1, e_cd2, e_dn, e_dc, e_dc1, e_cb, e_cb1, e_cb2, e_ls, e_ls1, e_tp, e_tp1, e_np, e_ip, e_ip1, e_sl, e_sl1, e_sl2, e_sl3, e_rv, e_rv1, e_rv2, e_te, e_te1, e_at, e_at1, e_at2, e_ot, e_ot1, e_ot2, e_nt, e_nt1, e_ae, e_ae1, e_ae2, e_oe, e_oe1, e_oe2, e_ne, e_ne1, e_ie, e_ie1, e_ie2, e_ch, e_ch1, e_ch2, e_ch3, e_ch4, e_ch5, e_cl, e_cl1, e_cx, e_cx1, e_cx2, e_cx3, e_cx4, e_cx5, e_cz, e_cz1, e_cz2, e_cz3, e_cz4, e_ro1, e_ro2, e_pl1, e_pl2, e_pl3, e_pl4, e_ld0, e_ld1, e_ld2, e_ld3, e_ld4, e_ld5, e_pb0, e_pb1, e_pb2, e_pb3, e_sq, e_sq1, e_sq2, e_sq3, e_sq4, e_nx, e_rt, e_rt1, e_dp, e_dp1, e_is, e_is1, e_is2, e_as, e_as1, e_as2, e_as3, e_as4, e_st, e_st1, e_st2, e_st3, e_st4, e_st5, e_st6, e_up, e_up1, e_up2, e_pr, e_pr3, e_pr1, e_sa0, e_sa1, e_sa2, e_lt, e_lt1, e_ng, e_tg, e_gn, e_gc, e_gc1, e_fr, e_fr1, e_lp1, e_lp2, e_lp3, e_lp4, e_lp5, e_wh1, e_wh2, e_wh3, e_wh4, e_wh5, e_si, e_si1, e_si2, e_si3, e_r1, e_r11, e_r2, e_r21, e_en, e_en1, e_lc, e_lc1, e_lc2, e_lc3, e_lcn1, e_lcn2, e_lcn3, e_lcn4, e_ye, e_wi0, e_wi1, e_re0, e_re1, e_no0, e_no1, e_ow1, e_ow2, e_df1, e_df2, e_df3, e_rs1, e_rs2, e_rs3, e_rs4, e_rs5, e_ou, e_ou1, e_ou2, e_mu, e_mu1, e_mu6, e_mu2, e_mu3, e_mu4, e_mu5, g_addI, g_addL, g_sub, g_lt, g_le, g_gt, g_ge, g_mod, g_div, g_mulL, g_eqI, g_neI, g_eqB, g_neB, g_eqS, g_ixL, g_ixR, g_ixT, g_ix1, g_lenL, g_lenR, g_lenT, g_intI, g_intB, g_min2, g_max2, g_app, g_slL, g_slT, g_neg, g_atI0, g_atI1, g_atIl, g_ixN0, g_ixN1, g_powM3, g_powM5, g_mulR, List.getElem?_cons_zero, List.getElem?_cons_succ, List.getD_cons_zero, List.getD_cons_succ, List.set_cons_zero, List.set_cons_succ, Bool.and_true, Bool.true_and, Bool.and_false, Bool.false_and, decide_true, decide_false, Bool.not_true, Bool.not_false, List.length_cons, List.length_nil, Nat.reduceAdd, Nat.reduceMul, Nat.reduceSub, Nat.reduceLT, Nat.reduceLeDiff, Nat.reduceEqDiff, Int.reduceAdd, Int.reduceMul, Int.reduceSub, Int.reduceNeg, Int.reduceLT, Int.reduceLE, Int.reduceMod, Int.reduceDiv, Int.reducePow, Int.reduceToNat, Bool.false_eq_true, if_true, if_false, gt_iff_lt, ge_iff_le, g_eqIs, g_neIs, g_eqBs, g_neBs, g_eqI0, g_neI0, g_neT0, g_inB, g_inN, h_ss, h_ss1, h_ssG, h_min, h_tup, h_lst, h_flT, h_flL, h_flB, h_flb, h_fli, h_fln, h_flN, h_flS, h_mapi, h_mapb, h_mapI, h_mapB, h_revI, h_eu, h_eu1, h_eu2, h_r3, h_r31, h_fd, h_fd1, h_fd2, h_fd3, h_fs, h_fs1, h_fs2, h_fs3, h_mk, h_mk1, h_mk2, h_me, h_me1, h_me2, h_me3, h_io, h_eo, h_no, h_eo1, g_eqTs, h_apd0, h_apd1, h_apo0, h_apo1, h_cn, h_cn1, h_cn2, h_pk0, h_pk1, h_pk2, h_nw, h_nw1, e_tu, e_tu1, e_af1, e_af2, e_af3, e_af4, e_wl1, e_wl2, e_lct, e_lct1, e_lct2, e_lct3, e_lct4, e_ni, e_ni1, e_lg1, e_lg2, e_lg3, e_lg4, e_lg5, e_ixw, e_ixw1, e_ixw2, e_ixw3, e_aow, e_aow1, e_aow2, e_aow3, e_zu, e_zu1, e_zu2, e_mulT, e_mxI, e_mnI, e_mxL, e_mnL, e_mxT, e_mnT, e_lgm, e_lgm1, e_lgm2, e_lgm3, e_tupT, e_lstT, e_lgc, e_lgc2, e_gd1, e_gd2, e_gpl, e_gpl1, e_gnx, e_gsq, e_gsq1, e_gyd, e_gyd1, e_gfr, e_gfr1, e_glp1, e_glpN, ends_some, Int.sub_zero, Int.add_zero, Int.zero_add, and_self, and_true, true_and, and_false, false_and, ne_eq, not_false_eq_true, not_true_eq_false, Bool.or_true, Bool.true_or, Bool.or_false, Bool.false_or, Option.some.injEq, reduceCtorEq, ch_cuts, ch_counts, ch_eq, ch_ne, ch_in, ch_ni, ch_ix, ch_add, ch_is, ch_m1, ch_m2, ch_m3, ch_m4, ek, el, ec, tg, a1, du, hat0, hat1, ad, h_tup, n1, n2, n3, a2, a3, a4, a5, a6, a7, i0, i1, q1, q2, eb, hBk, pp, p1, p2, n4, sm, e1, e2, np']
    exact ⟨_, _, _, _, _, _, _, _, _, rfl⟩
  · simp only [b7_law, e_var, e_var1, e_var2, e_var3, e_dat, e_der1, e_der2, e_der3, e_sd1, e_sd2, e_sd3, e_op, e_op1, e_op2, e_op3, e_op4, e_un, e_un1, e_un2, e_sol, e_sol1, e_sol2, e_sol3, e_sol4, e_sol5, e_da, e_da1, e_na, e_ca, e_ca1, e_ca2, e_nd, e_cd, e_cd1, e_cd2, e_dn, e_dc, e_dc1, e_cb, e_cb1, e_cb2, e_ls, e_ls1, e_tp, e_tp1, e_np, e_ip, e_ip1, e_sl, e_sl1, e_sl2, e_sl3, e_rv, e_rv1, e_rv2, e_te, e_te1, e_at, e_at1, e_at2, e_ot, e_ot1, e_ot2, e_nt, e_nt1, e_ae, e_ae1, e_ae2, e_oe, e_oe1, e_oe2, e_ne, e_ne1, e_ie, e_ie1, e_ie2, e_ch, e_ch1, e_ch2, e_ch3, e_ch4, e_ch5, e_cl, e_cl1, e_cx, e_cx1, e_cx2, e_cx3, e_cx4, e_cx5, e_cz, e_cz1, e_cz2, e_cz3, e_cz4, e_ro1, e_ro2, e_pl1, e_pl2, e_pl3, e_pl4, e_ld0, e_ld1, e_ld2, e_ld3, e_ld4, e_ld5, e_pb0, e_pb1, e_pb2, e_pb3, e_sq, e_sq1, e_sq2, e_sq3, e_sq4, e_nx, e_rt, e_rt1, e_dp, e_dp1, e_is, e_is1, e_is2, e_as, e_as1, e_as2, e_as3, e_as4, e_st, e_st1, e_st2, e_st3, e_st4, e_st5, e_st6, e_up, e_up1, e_up2, e_pr, e_pr3, e_pr1, e_sa0, e_sa1, e_sa2, e_lt, e_lt1, e_ng, e_tg, e_gn, e_gc, e_gc1, e_fr, e_fr1, e_lp1, e_lp2, e_lp3, e_lp4, e_lp5, e_wh1, e_wh2, e_wh3, e_wh4, e_wh5, e_si, e_si1, e_si2, e_si3, e_r1, e_r11, e_r2, e_r21, e_en, e_en1, e_lc, e_lc1, e_lc2, e_lc3, e_lcn1, e_lcn2, e_lcn3, e_lcn4, e_ye, e_wi0, e_wi1, e_re0, e_re1, e_no0, e_no1, e_ow1, e_ow2, e_df1, e_df2, e_df3, e_rs1, e_rs2, e_rs3, e_rs4, e_rs5, e_ou, e_ou1, e_ou2, e_mu, e_mu1, e_mu6, e_mu2, e_mu3, e_mu4, e_mu5, g_addI, g_addL, g_sub, g_lt, g_le, g_gt, g_ge, g_mod, g_div, g_mulL, g_eqI, g_neI, g_eqB, g_neB, g_eqS, g_ixL, g_ixR, g_ixT, g_ix1, g_lenL, g_lenR, g_lenT, g_intI, g_intB, g_min2, g_max2, g_app, g_slL, g_slT, g_neg, g_atI0, g_atI1, g_atIl, g_ixN0, g_ixN1, g_powM3, g_powM5, g_mulR, List.getElem?_cons_zero, List.getElem?_cons_succ, List.getD_cons_zero, List.getD_cons_succ, List.set_cons_zero, List.set_cons_succ, Bool.and_true, Bool.true_and, Bool.and_false, Bool.false_and, decide_true, decide_false, Bool.not_true, Bool.not_false, List.length_cons, List.length_nil, Nat.reduceAdd, Nat.reduceMul, Nat.reduceSub, Nat.reduceLT, Nat.reduceLeDiff, Nat.reduceEqDiff, Int.reduceAdd, Int.reduceMul, Int.reduceSub, Int.reduceNeg, Int.reduceLT, Int.reduceLE, Int.reduceMod, Int.reduceDiv, Int.reducePow, Int.reduceToNat, Bool.false_eq_true, if_true, if_false, gt_iff_lt, ge_iff_le, g_eqIs, g_neIs, g_eqBs, g_neBs, g_eqI0, g_neI0, g_neT0, g_inB, g_inN, h_ss, h_ss1, h_ssG, h_min, h_tup, h_lst, h_flT, h_flL, h_flB, h_flb, h_fli, h_fln, h_flN, h_flS, h_mapi, h_mapb, h_mapI, h_mapB, h_revI, h_eu, h_eu1, h_eu2, h_r3, h_r31, h_fd, h_fd1, h_fd2, h_fd3, h_fs, h_fs1, h_fs2, h_fs3, h_mk, h_mk1, h_mk2, h_me, h_me1, h_me2, h_me3, h_io, h_eo, h_no, h_eo1, g_eqTs, h_apd0, h_apd1, h_apo0, h_apo1, h_cn, h_cn1, h_cn2, h_pk0, h_pk1, h_pk2, h_nw, h_nw1, e_tu, e_tu1, e_af1, e_af2, e_af3, e_af4, e_wl1, e_wl2, e_lct, e_lct1, e_lct2, e_lct3, e_lct4, e_ni, e_ni1, e_lg1, e_lg2, e_lg3, e_lg4, e_lg5, e_ixw, e_ixw1, e_ixw2, e_ixw3, e_aow, e_aow1, e_aow2, e_aow3, e_zu, e_zu1, e_zu2, e_mulT, e_mxI, e_mnI, e_mxL, e_mnL, e_mxT, e_mnT, e_lgm, e_lgm1, e_lgm2, e_lgm3, e_tupT, e_lstT, e_lgc, e_lgc2, e_gd1, e_gd2, e_gpl, e_gpl1, e_gnx, e_gsq, e_gsq1, e_gyd, e_gyd1, e_gfr, e_gfr1, e_glp1, e_glpN, ends_some, Int.sub_zero, Int.add_zero, Int.zero_add, and_self, and_true, true_and, and_false, false_and, ne_eq, not_false_eq_true, not_true_eq_false, Bool.or_true, Bool.true_or, Bool.or_false, Bool.false_or, Option.some.injEq, reduceCtorEq, ch_cuts, ch_counts, ch_eq, ch_ne, ch_in, ch_ni, ch_ix, ch_add, ch_is, ch_m1, ch_m2, ch_m3, ch_m4, ek, el, ec, tg, a1, du, hat0, hat1, ad, h_tup, n1, n2, n3, a2, a3, a4, a5, a6, a7, i0, i1, q1, q2, eb, hBk, pp, p1, p2, n4, sm, e1, e2, np']
    exact ⟨_, _, _, _, _, _, _, _, _, rfl⟩
end PL

namespace PL
open PySem PySem.Spec PyProof.Rows L2 DV

theorem start_eq (c : CA) (ns : List Int) (i : Nat) (hl : ns.length ≤ 63) (hi : i ≤ 63) (hb : ∀ z ∈ ns, Builtin.Int.intBits z ≤ 1048576) (v2 v3 v4 v5 v6 v7 v8 v9 v10 v11 : Sl) : Ends
    (b8_law c [.val (.ro (ns.map .int)), .val (.int (i : Int)), v2, v3, v4, v5, v6, v7, v8, v9, v10, v11, .un, .un, .un]) fun fl => ∃ (w2 w3 w4 w5 w6 w7 w8 w9 w10 w11 : Sl), fl = .nx [.val (.ro (ns.map .int)), .val (.int (i : Int)), w2, w3, w4, w5, w6, w7, w8, w9, w10, w11, .un, .un, .un] := by
  obtain ⟨s, e1⟩ := stream_eq ns i hl hi hb
  obtain ⟨fl, e, s', w3, w4, w5, w6, w7, w8, w9, w10, w11, rfl⟩ := loop_range (g := nameG 3) (b := b7_law c) 0 8
    (fun _ δ => ∃ (s' : Strm) (w3 w4 w5 w6 w7 w8 w9 w10 w11 : Sl), δ = [.val (.ro (ns.map .int)), .val (.int (i : Int)), .own (SD s'), w3, w4, w5, w6, w7, w8, w9, w10, w11, .un, .un, .un])
    (fun fl => ∃ (s' : Strm) (w3 w4 w5 w6 w7 w8 w9 w10 w11 : Sl), fl = .nx [.val (.ro (ns.map .int)), .val (.int (i : Int)), .own (SD s'), w3, w4, w5, w6, w7, w8, w9, w10, w11, .un, .un, .un])
    [.val (.ro (ns.map .int)), .val (.int (i : Int)), .own (SD s), v3, v4, v5, v6, v7, v8, v9, v10, v11, .un, .un, .un] ⟨_, _, _, _, _, _, _, _, _, _, rfl⟩
    (fun j δ hj ⟨s', w3, w4, w5, w6, w7, w8, w9, w10, w11, hδ⟩ => by
      subst hδ
      obtain ⟨_, e, s2, u4, u5, u6, u7, u8, u9, u10, u11, rfl⟩ := turn_eq c (.val (.ro (ns.map .int))) (.val (.int (i : Int))) (.val (.int (0 + (j : Int)))) w4 w5 w6 w7 w8 w9 w10 w11 s'
      rw [e_tu, e_ng, e_tu1]
      simp only [List.set_cons_zero, List.set_cons_succ]
      rw [e, ends_some, e_af1]
      exact ⟨_, _, _, _, _, _, _, _, _, _, rfl⟩)
    (fun δ ⟨s', w3, w4, w5, w6, w7, w8, w9, w10, w11, hδ⟩ => ⟨s', w3, w4, w5, w6, w7, w8, w9, w10, w11, by rw [hδ]⟩)
  simp only [b8_law, e_var, e_var1, e_var2, e_var3, e_dat, e_der1, e_der2, e_der3, e_sd1, e_sd2, e_sd3, e_op, e_op1, e_op2, e_op3, e_op4, e_un, e_un1, e_un2, e_sol, e_sol1, e_sol2, e_sol3, e_sol4, e_sol5, e_da, e_da1, e_na, e_ca, e_ca1, e_ca2, e_nd, e_cd, e_cd1, e_cd2, e_dn, e_dc, e_dc1, e_cb, e_cb1, e_cb2, e_ls, e_ls1, e_tp, e_tp1, e_np, e_ip, e_ip1, e_sl, e_sl1, e_sl2, e_sl3, e_rv, e_rv1, e_rv2, e_te, e_te1, e_at, e_at1, e_at2, e_ot, e_ot1, e_ot2, e_nt, e_nt1, e_ae, e_ae1, e_ae2, e_oe, e_oe1, e_oe2, e_ne, e_ne1, e_ie, e_ie1, e_ie2, e_ch, e_ch1, e_ch2, e_ch3, e_ch4, e_ch5, e_cl, e_cl1, e_cx, e_cx1, e_cx2, e_cx3, e_cx4, e_cx5, e_cz, e_cz1, e_cz2, e_cz3, e_cz4, e_ro1, e_ro2, e_pl1, e_pl2, e_pl3, e_pl4, e_ld0, e_ld1, e_ld2, e_ld3, e_ld4, e_ld5, e_pb0, e_pb1, e_pb2, e_pb3, e_sq, e_sq1, e_sq2, e_sq3, e_sq4, e_nx, e_rt, e_rt1, e_dp, e_dp1, e_is, e_is1, e_is2, e_as, e_as1, e_as2, e_as3, e_as4, e_st, e_st1, e_st2, e_st3, e_st4, e_st5, e_st6, e_up, e_up1, e_up2, e_pr, e_pr3, e_pr1, e_sa0, e_sa1, e_sa2, e_lt, e_lt1, e_ng, e_tg, e_gn, e_gc, e_gc1, e_fr, e_fr1, e_lp1, e_lp2, e_lp3, e_lp4, e_lp5, e_wh1, e_wh2, e_wh3, e_wh4, e_wh5, e_si, e_si1, e_si2, e_si3, e_r1, e_r11, e_r2, e_r21, e_en, e_en1, e_lc, e_lc1, e_lc2, e_lc3, e_lcn1, e_lcn2, e_lcn3, e_lcn4, e_ye, e_wi0, e_wi1, e_re0, e_re1, e_no0, e_no1, e_ow1, e_ow2, e_df1, e_df2, e_df3, e_rs1, e_rs2, e_rs3, e_rs4, e_rs5, e_ou, e_ou1, e_ou2, e_mu, e_mu1, e_mu6, e_mu2, e_mu3, e_mu4, e_mu5, g_addI, g_addL, g_sub, g_lt, g_le, g_gt, g_ge, g_mod, g_div, g_mulL, g_eqI, g_neI, g_eqB, g_neB, g_eqS, g_ixL, g_ixR, g_ixT, g_ix1, g_lenL, g_lenR, g_lenT, g_intI, g_intB, g_min2, g_max2, g_app, g_slL, g_slT, g_neg, g_atI0, g_atI1, g_atIl, g_ixN0, g_ixN1, g_powM3, g_powM5, g_mulR, List.getElem?_cons_zero, List.getElem?_cons_succ, List.getD_cons_zero, List.getD_cons_succ, List.set_cons_zero, List.set_cons_succ, Bool.and_true, Bool.true_and, Bool.and_false, Bool.false_and, decide_true, decide_false, Bool.not_true, Bool.not_false, List.length_cons, List.length_nil, Nat.reduceAdd, Nat.reduceMul, Nat.reduceSub, Nat.reduceLT, Nat.reduceLeDiff, Nat.reduceEqDiff, Int.reduceAdd, Int.reduceMul, Int.reduceSub, Int.reduceNeg, Int.reduceLT, Int.reduceLE, Int.reduceMod, Int.reduceDiv, Int.reducePow, Int.reduceToNat, Bool.false_eq_true, if_true, if_false, gt_iff_lt, ge_iff_le, g_eqIs, g_neIs, g_eqBs, g_neBs, g_eqI0, g_neI0, g_neT0, g_inB, g_inN, h_ss, h_ss1, h_ssG, h_min, h_tup, h_lst, h_flT, h_flL, h_flB, h_flb, h_fli, h_fln, h_flN, h_flS, h_mapi, h_mapb, h_mapI, h_mapB, h_revI, h_eu, h_eu1, h_eu2, h_r3, h_r31, h_fd, h_fd1, h_fd2, h_fd3, h_fs, h_fs1, h_fs2, h_fs3, h_mk, h_mk1, h_mk2, h_me, h_me1, h_me2, h_me3, h_io, h_eo, h_no, h_eo1, g_eqTs, h_apd0, h_apd1, h_apo0, h_apo1, h_cn, h_cn1, h_cn2, h_pk0, h_pk1, h_pk2, h_nw, h_nw1, e_tu, e_tu1, e_af1, e_af2, e_af3, e_af4, e_wl1, e_wl2, e_lct, e_lct1, e_lct2, e_lct3, e_lct4, e_ni, e_ni1, e_lg1, e_lg2, e_lg3, e_lg4, e_lg5, e_ixw, e_ixw1, e_ixw2, e_ixw3, e_aow, e_aow1, e_aow2, e_aow3, e_zu, e_zu1, e_zu2, e_mulT, e_mxI, e_mnI, e_mxL, e_mnL, e_mxT, e_mnT, e_lgm, e_lgm1, e_lgm2, e_lgm3, e_tupT, e_lstT, e_lgc, e_lgc2, e_gd1, e_gd2, e_gpl, e_gpl1, e_gnx, e_gsq, e_gsq1, e_gyd, e_gyd1, e_gfr, e_gfr1, e_glp1, e_glpN, ends_some, Int.sub_zero, Int.add_zero, Int.zero_add, and_self, and_true, true_and, and_false, false_and, ne_eq, not_false_eq_true, not_true_eq_false, Bool.or_true, Bool.true_or, Bool.or_false, Bool.false_or, Option.some.injEq, reduceCtorEq, ch_cuts, ch_counts, ch_eq, ch_ne, ch_in, ch_ni, ch_ix, ch_add, ch_is, ch_m1, ch_m2, ch_m3, ch_m4, e1, e]
  exact ⟨_, _, _, _, _, _, _, _, _, _, rfl⟩
theorem law_true (c : CA) (ns : List Int) (hl : ns.length ≤ 63) (hb : ∀ z ∈ ns, Builtin.Int.intBits z ≤ 1048576) : f_law c [.ro (ns.map D.int)] = some (.dat (.bl true), .non) := by
  let z : Int := if (1 : Int) < (if ((ns.map D.int).length : Int) < 4 then ((ns.map D.int).length : Int) else 4) then (if ((ns.map D.int).length : Int) < 4 then ((ns.map D.int).length : Int) else 4) else 1
  have hz : z = if (1 : Int) < (if ((ns.map D.int).length : Int) < 4 then ((ns.map D.int).length : Int) else 4) then (if ((ns.map D.int).length : Int) < 4 then ((ns.map D.int).length : Int) else 4) else 1 := rfl
  have z0 : 1 ≤ z ∧ z ≤ 4 := by
    rw [hz]
    split <;> split <;> omega
  have z1 : -100000 ≤ z ∧ z ≤ 100000 := by omega
  obtain ⟨fl, e, w1, w2, w3, w4, w5, w6, w7, w8, w9, w10, w11, rfl⟩ := loop_range (g := nameG 1) (b := b8_law c) 0 z.toNat
    (fun k δ => ∃ (w1 w2 w3 w4 w5 w6 w7 w8 w9 w10 w11 : Sl), δ = [.val (.ro (ns.map .int)), w1, w2, w3, w4, w5, w6, w7, w8, w9, w10, w11, .un, .un, .un])
    (fun fl => ∃ (w1 w2 w3 w4 w5 w6 w7 w8 w9 w10 w11 : Sl), fl = .nx [.val (.ro (ns.map .int)), w1, w2, w3, w4, w5, w6, w7, w8, w9, w10, w11, .un, .un, .un])
    [.val (.ro (ns.map .int)), .un, .un, .un, .un, .un, .un, .un, .un, .un, .un, .un, .un, .un, .un] ⟨_, _, _, _, _, _, _, _, _, _, _, rfl⟩
    (fun j δ hj ⟨w1, w2, w3, w4, w5, w6, w7, w8, w9, w10, w11, hδ⟩ => by
      subst hδ
      rw [Int.zero_add]
      obtain ⟨_, e, u2, u3, u4, u5, u6, u7, u8, u9, u10, u11, rfl⟩ := start_eq c ns j hl (by omega) hb w2 w3 w4 w5 w6 w7 w8 w9 w10 w11
      rw [e_tu, e_ng, e_tu1]
      simp only [List.set_cons_zero, List.set_cons_succ]
      rw [e, ends_some, e_af1]
      exact ⟨_, u2, u3, u4, u5, u6, u7, u8, u9, u10, u11, rfl⟩)
    (fun δ ⟨w1, w2, w3, w4, w5, w6, w7, w8, w9, w10, w11, hδ⟩ => ⟨w1, w2, w3, w4, w5, w6, w7, w8, w9, w10, w11, by rw [hδ]⟩)
  generalize z = y at hz z1 e
  simp only [en_law, m_law, e_var, e_var1, e_var2, e_var3, e_dat, e_der1, e_der2, e_der3, e_sd1, e_sd2, e_sd3, e_op, e_op1, e_op2, e_op3, e_op4, e_un, e_un1, e_un2, e_sol, e_sol1, e_sol2, e_sol3, e_sol4, e_sol5, e_da, e_da1, e_na, e_ca, e_ca1, e_ca2, e_nd, e_cd, e_cd1, e_cd2, e_dn, e_dc, e_dc1, e_cb, e_cb1, e_cb2, e_ls, e_ls1, e_tp, e_tp1, e_np, e_ip, e_ip1, e_sl, e_sl1, e_sl2, e_sl3, e_rv, e_rv1, e_rv2, e_te, e_te1, e_at, e_at1, e_at2, e_ot, e_ot1, e_ot2, e_nt, e_nt1, e_ae, e_ae1, e_ae2, e_oe, e_oe1, e_oe2, e_ne, e_ne1, e_ie, e_ie1, e_ie2, e_ch, e_ch1, e_ch2, e_ch3, e_ch4, e_ch5, e_cl, e_cl1, e_cx, e_cx1, e_cx2, e_cx3, e_cx4, e_cx5, e_cz, e_cz1, e_cz2, e_cz3, e_cz4, e_ro1, e_ro2, e_pl1, e_pl2, e_pl3, e_pl4, e_ld0, e_ld1, e_ld2, e_ld3, e_ld4, e_ld5, e_pb0, e_pb1, e_pb2, e_pb3, e_sq, e_sq1, e_sq2, e_sq3, e_sq4, e_nx, e_rt, e_rt1, e_dp, e_dp1, e_is, e_is1, e_is2, e_as, e_as1, e_as2, e_as3, e_as4, e_st, e_st1, e_st2, e_st3, e_st4, e_st5, e_st6, e_up, e_up1, e_up2, e_pr, e_pr3, e_pr1, e_sa0, e_sa1, e_sa2, e_lt, e_lt1, e_ng, e_tg, e_gn, e_gc, e_gc1, e_fr, e_fr1, e_lp1, e_lp2, e_lp3, e_lp4, e_lp5, e_wh1, e_wh2, e_wh3, e_wh4, e_wh5, e_si, e_si1, e_si2, e_si3, e_r1, e_r11, e_r2, e_r21, e_en, e_en1, e_lc, e_lc1, e_lc2, e_lc3, e_lcn1, e_lcn2, e_lcn3, e_lcn4, e_ye, e_wi0, e_wi1, e_re0, e_re1, e_no0, e_no1, e_ow1, e_ow2, e_df1, e_df2, e_df3, e_rs1, e_rs2, e_rs3, e_rs4, e_rs5, e_ou, e_ou1, e_ou2, e_mu, e_mu1, e_mu6, e_mu2, e_mu3, e_mu4, e_mu5, g_addI, g_addL, g_sub, g_lt, g_le, g_gt, g_ge, g_mod, g_div, g_mulL, g_eqI, g_neI, g_eqB, g_neB, g_eqS, g_ixL, g_ixR, g_ixT, g_ix1, g_lenL, g_lenR, g_lenT, g_intI, g_intB, g_min2, g_max2, g_app, g_slL, g_slT, g_neg, g_atI0, g_atI1, g_atIl, g_ixN0, g_ixN1, g_powM3, g_powM5, g_mulR, List.getElem?_cons_zero, List.getElem?_cons_succ, List.getD_cons_zero, List.getD_cons_succ, List.set_cons_zero, List.set_cons_succ, Bool.and_true, Bool.true_and, Bool.and_false, Bool.false_and, decide_true, decide_false, Bool.not_true, Bool.not_false, List.length_cons, List.length_nil, Nat.reduceAdd, Nat.reduceMul, Nat.reduceSub, Nat.reduceLT, Nat.reduceLeDiff, Nat.reduceEqDiff, Int.reduceAdd, Int.reduceMul, Int.reduceSub, Int.reduceNeg, Int.reduceLT, Int.reduceLE, Int.reduceMod, Int.reduceDiv, Int.reducePow, Int.reduceToNat, Bool.false_eq_true, if_true, if_false, gt_iff_lt, ge_iff_le, g_eqIs, g_neIs, g_eqBs, g_neBs, g_eqI0, g_neI0, g_neT0, g_inB, g_inN, h_ss, h_ss1, h_ssG, h_min, h_tup, h_lst, h_flT, h_flL, h_flB, h_flb, h_fli, h_fln, h_flN, h_flS, h_mapi, h_mapb, h_mapI, h_mapB, h_revI, h_eu, h_eu1, h_eu2, h_r3, h_r31, h_fd, h_fd1, h_fd2, h_fd3, h_fs, h_fs1, h_fs2, h_fs3, h_mk, h_mk1, h_mk2, h_me, h_me1, h_me2, h_me3, h_io, h_eo, h_no, h_eo1, g_eqTs, h_apd0, h_apd1, h_apo0, h_apo1, h_cn, h_cn1, h_cn2, h_pk0, h_pk1, h_pk2, h_nw, h_nw1, e_tu, e_tu1, e_af1, e_af2, e_af3, e_af4, e_wl1, e_wl2, e_lct, e_lct1, e_lct2, e_lct3, e_lct4, e_ni, e_ni1, e_lg1, e_lg2, e_lg3, e_lg4, e_lg5, e_ixw, e_ixw1, e_ixw2, e_ixw3, e_aow, e_aow1, e_aow2, e_aow3, e_zu, e_zu1, e_zu2, e_mulT, e_mxI, e_mnI, e_mxL, e_mnL, e_mxT, e_mnT, e_lgm, e_lgm1, e_lgm2, e_lgm3, e_tupT, e_lstT, e_lgc, e_lgc2, e_gd1, e_gd2, e_gpl, e_gpl1, e_gnx, e_gsq, e_gsq1, e_gyd, e_gyd1, e_gfr, e_gfr1, e_glp1, e_glpN, ends_some, Int.sub_zero, Int.add_zero, Int.zero_add, and_self, and_true, true_and, and_false, false_and, ne_eq, not_false_eq_true, not_true_eq_false, Bool.or_true, Bool.true_or, Bool.or_false, Bool.false_or, Option.some.injEq, reduceCtorEq, ← hz, z1, e]
end PL

namespace PL
open PySem PySem.Spec PyProof.Rows L2 DV
/-! ### the text by places -/
def top (i : Nat) : Stmt := PySem.Challenge.pw_roadsizes_k07_sums_of_chains.main.body.getD i (.Pass ⟨0, 0, 0, 0⟩)
abbrev s_law_source : Stmt := top 13
abbrev s_law_draw : Stmt := top 14
abbrev s_law_pick : Stmt := top 15
abbrev s_law_cuts : Stmt := top 17
abbrev s_is_number : Stmt := top 7
abbrev s_is_falling : Stmt := top 9
abbrev s_pieces_by : Stmt := top 10
abbrev s_Chain_init : Stmt := inClass (top 11) 0
abbrev s_Chain_add : Stmt := inClass (top 11) 5
abbrev s_Chain_eq : Stmt := inClass (top 11) 4
abbrev s_Chain_pieces : Stmt := inClass (top 11) 6
abbrev s_Chain_getitem : Stmt := inClass (top 11) 2
abbrev s_Chain_stretch : Stmt := inClass (top 11) 8
abbrev s_Chain_parted : Stmt := inClass (top 11) 9
abbrev s_law_cut_up : Stmt := top 16
abbrev s_law_parted : Stmt := top 18
abbrev s_law : Stmt := top 19
structure Ad where
  a_law_source : Addr
  d_law_source : FuncData
  a_law_draw : Addr
  d_law_draw : FuncData
  a_law_pick : Addr
  d_law_pick : FuncData
  a_law_cuts : Addr
  d_law_cuts : FuncData
  a_is_number : Addr
  d_is_number : FuncData
  a_is_falling : Addr
  d_is_falling : FuncData
  a_pieces_by : Addr
  d_pieces_by : FuncData
  a_Chain_init : Addr
  d_Chain_init : FuncData
  a_Chain_add : Addr
  d_Chain_add : FuncData
  a_Chain_eq : Addr
  d_Chain_eq : FuncData
  a_Chain_pieces : Addr
  d_Chain_pieces : FuncData
  a_Chain_getitem : Addr
  d_Chain_getitem : FuncData
  a_Chain_stretch : Addr
  d_Chain_stretch : FuncData
  a_Chain_parted : Addr
  d_Chain_parted : FuncData
  a_law_cut_up : Addr
  d_law_cut_up : FuncData
  a_law_parted : Addr
  d_law_parted : FuncData
  a_law : Addr
  d_law : FuncData
  v_GREATEST_ROAD : Value
  c : CA
structure Txt (K : PySem.W.Frag) (mg : Str → Option Value) (Z : Ad) : Prop where
  f_law_source : L2.Fun K "_law_source" "_law_source" s_law_source Z.a_law_source Z.d_law_source
  n_law_source : Binds K Z.d_law_source ["script", "start"] []
  g_law_source : mg "_law_source" = some (.ref Z.a_law_source)
  f_law_draw : L2.Fun K "_law_draw" "_law_draw" s_law_draw Z.a_law_draw Z.d_law_draw
  n_law_draw : Binds K Z.d_law_draw ["source", "span"] []
  g_law_draw : mg "_law_draw" = some (.ref Z.a_law_draw)
  f_law_pick : L2.Fun K "_law_pick" "_law_pick" s_law_pick Z.a_law_pick Z.d_law_pick
  n_law_pick : Binds K Z.d_law_pick ["source", "items"] []
  g_law_pick : mg "_law_pick" = some (.ref Z.a_law_pick)
  f_law_cuts : L2.Fun K "_law_cuts" "_law_cuts" s_law_cuts Z.a_law_cuts Z.d_law_cuts
  n_law_cuts : Binds K Z.d_law_cuts ["source", "many", "high"] []
  g_law_cuts : mg "_law_cuts" = some (.ref Z.a_law_cuts)
  f_is_number : L2.Fun K "is_number" "is_number" s_is_number Z.a_is_number Z.d_is_number
  n_is_number : Binds K Z.d_is_number ["value", "least", "greatest"] []
  g_is_number : mg "is_number" = some (.ref Z.a_is_number)
  f_is_falling : L2.Fun K "is_falling" "is_falling" s_is_falling Z.a_is_falling Z.d_is_falling
  n_is_falling : Binds K Z.d_is_falling ["value"] []
  g_is_falling : mg "is_falling" = some (.ref Z.a_is_falling)
  f_pieces_by : L2.Fun K "pieces_by" "pieces_by" s_pieces_by Z.a_pieces_by Z.d_pieces_by
  n_pieces_by : Binds K Z.d_pieces_by ["cuts", "counts", "body"] []
  g_pieces_by : mg "pieces_by" = some (.ref Z.a_pieces_by)
  f_Chain_init : L2.Fun K "__init__" "Chain.__init__" s_Chain_init Z.a_Chain_init Z.d_Chain_init
  n_Chain_init : Binds K Z.d_Chain_init ["self", "cuts"] []
  f_Chain_add : L2.Fun K "__add__" "Chain.__add__" s_Chain_add Z.a_Chain_add Z.d_Chain_add
  n_Chain_add : Binds K Z.d_Chain_add ["self", "other"] []
  s_Chain_add : PySem.W.findIn K (.ref Z.c.Chain) "__add__" = some (some (.ref Z.a_Chain_add))
  i_Chain_add : PySem.W.isFn K (.ref Z.a_Chain_add) = true
  f_Chain_eq : L2.Fun K "__eq__" "Chain.__eq__" s_Chain_eq Z.a_Chain_eq Z.d_Chain_eq
  n_Chain_eq : Binds K Z.d_Chain_eq ["self", "other"] []
  s_Chain_eq : PySem.W.findIn K (.ref Z.c.Chain) "__eq__" = some (some (.ref Z.a_Chain_eq))
  i_Chain_eq : PySem.W.isFn K (.ref Z.a_Chain_eq) = true
  f_Chain_pieces : L2.Fun K "pieces" "Chain.pieces" s_Chain_pieces Z.a_Chain_pieces Z.d_Chain_pieces
  n_Chain_pieces : Binds K Z.d_Chain_pieces ["self", "body"] []
  m_Chain_pieces : Meth K Z.c.Chain "pieces" Z.a_Chain_pieces
  f_Chain_getitem : L2.Fun K "__getitem__" "Chain.__getitem__" s_Chain_getitem Z.a_Chain_getitem Z.d_Chain_getitem
  n_Chain_getitem : Binds K Z.d_Chain_getitem ["self", "at"] []
  s_Chain_getitem : PySem.W.findIn K (.ref Z.c.Chain) "__getitem__" = some (some (.ref Z.a_Chain_getitem))
  i_Chain_getitem : PySem.W.isFn K (.ref Z.a_Chain_getitem) = true
  j_Chain_getitem : PySem.W.fnIn K Z.a_Chain_getitem = true
  f_Chain_stretch : L2.Fun K "stretch" "Chain.stretch" s_Chain_stretch Z.a_Chain_stretch Z.d_Chain_stretch
  n_Chain_stretch : Binds K Z.d_Chain_stretch ["self", "body", "number"] []
  m_Chain_stretch : Meth K Z.c.Chain "stretch" Z.a_Chain_stretch
  f_Chain_parted : L2.Fun K "parted" "Chain.parted" s_Chain_parted Z.a_Chain_parted Z.d_Chain_parted
  n_Chain_parted : Binds K Z.d_Chain_parted ["self", "body"] []
  m_Chain_parted : Meth K Z.c.Chain "parted" Z.a_Chain_parted
  f_law_cut_up : L2.Fun K "_law_cut_up" "_law_cut_up" s_law_cut_up Z.a_law_cut_up Z.d_law_cut_up
  n_law_cut_up : Binds K Z.d_law_cut_up ["stretch", "cut"] []
  g_law_cut_up : mg "_law_cut_up" = some (.ref Z.a_law_cut_up)
  f_law_parted : L2.Fun K "_law_parted" "_law_parted" s_law_parted Z.a_law_parted Z.d_law_parted
  n_law_parted : Binds K Z.d_law_parted ["cuts", "stretches"] []
  g_law_parted : mg "_law_parted" = some (.ref Z.a_law_parted)
  f_law : L2.Fun K "law" "law" s_law Z.a_law Z.d_law
  n_law : Binds K Z.d_law ["script"] []
  g_law : mg "law" = some (.ref Z.a_law)
  o_Chain : DVG.Own K Z.c.Chain
  g_Chain : mg "Chain" = some (.ref Z.c.Chain)
  k_Chain : Mk K Z.c.Chain Z.a_Chain_init
  sf_Chain : PySem.W.selfFirst K Z.c.Chain = true
  na_Chain_cuts : NoAttr K Z.c.Chain "cuts"
  na_Chain_counts : NoAttr K Z.c.Chain "counts"
  c_GREATEST_ROAD : mg "GREATEST_ROAD" = some Z.v_GREATEST_ROAD
  r_GREATEST_ROAD : RelV (.int 1000) Z.v_GREATEST_ROAD
  b_all : mg "all" = none
  b_bool : mg "bool" = none
  b_enumerate : mg "enumerate" = none
  b_int : mg "int" = none
  b_isinstance : mg "isinstance" = none
  b_len : mg "len" = none
  b_list : mg "list" = none
  b_max : mg "max" = none
  b_min : mg "min" = none
  b_range : mg "range" = none
  b_set : mg "set" = none
  b_sorted : mg "sorted" = none
  b_sum : mg "sum" = none
  b_tuple : mg "tuple" = none
theorem sc_law_source : FnScope ["script", "start", "mixed", "cell", "rest"] ["script", "start"] (defScope s_law_source) := ⟨rfl, rfl, rfl, by decide +kernel, rfl, by decide +kernel, by decide +kernel⟩
theorem ok_law_source {P : Program} {w : World} {K : PySem.W.Frag} {mg : Str → Option Value} {base : Heap} {Z : Ad} (T : Txt K mg Z) : DVG.FnG false P w K mg base CX0 (1) Z.a_law_source Z.d_law_source ["script", "start"] (spD K none 2 (f_law_source)) :=
  fn_d T.f_law_source sc_law_source (fun cdv A outer s H E hr =>
      (pss_cons (ps_set (i := 2) sc_law_source.nd rfl (by first | exact Or.inl rfl | exact Or.inr rfl) (pe_op op_addU pe_int (pv 1)))
      (pss_cons (ps_for PassesOwn.never rfl (pi_seq (pv 0)) (pg_name (i := 3) sc_law_source.nd rfl (by first | exact Or.inl rfl | exact Or.inr rfl)) (pss_one (ps_set (i := 2) sc_law_source.nd rfl (by first | exact Or.inl rfl | exact Or.inr rfl) (pe_op op_addU (pe_op op_mod (pe_callTy call_int' (by rfl) T.b_int bt_int (pa_cons (pe_op op_powB (pe_callTy call_int' (by rfl) T.b_int bt_int (pa_cons (pe_op op_addU (pe_op op_mulU (pv 2) pe_int) (pe_callTy call_int' (by rfl) T.b_int bt_int (pa_cons (pv 3) pa_nil))) pa_nil)) pe_int) pa_nil)) pe_int) pe_int))))
      (pss_cons (ps_set (i := 4) sc_law_source.nd rfl (by first | exact Or.inl rfl | exact Or.inr rfl) pe_int)
      (pss_cons (ps_if (PW.pt (pw_and (pt_cmpR op_lt (pv 1) (pe_callB call_len' (by rfl) T.b_len bt_len (pa_cons (pv 0) pa_nil)) (nomark _)) (pw_and1 (pt_cmpR op_ge (pe_ix ix_seq (pv 0) (pv 1) (fun _ _ => rfl)) (pe_op op_powB pe_int pe_int) (nomark _))))) (pss_one (ps_set (i := 4) sc_law_source.nd rfl (by first | exact Or.inl rfl | exact Or.inr rfl) (pe_op op_sub (pe_ix ix_seq (pv 0) (pv 1) (fun _ _ => rfl)) (pe_op op_powB pe_int pe_int)))) pss_nil)
      (pss_one (ps_ret (pe_lst (pa_cons (pv 4) (pa_cons (pv 2) pa_nil))))))))))
    ((s_seq (s_asg (ev_op k_add ev_int ev_var))
      (s_seq (s_for (i_seq (evd ev_var)) g_name (show EvS _ _ b1_law_source from (s_asg (ev_op k_add (ev_op k_mod (ev_cb c_int (ea_cons (ev_op k_pow (ev_cb c_int (ea_cons (ev_op k_add (ev_op k_mul ev_var ev_int) (ev_cb c_int (ea_cons ev_var ea_nil))) ea_nil)) ev_int) ea_nil)) ev_int) ev_int))))
      (s_seq (s_asg ev_int)
      (s_seq (s_if (t_and (t_test (ev_op k_lt ev_var (ev_cb c_len (ea_cons ev_var ea_nil)))) (t_test (ev_op k_ge (ev_op k_ix ev_var ev_var) (ev_op k_pow ev_int ev_int)))) (s_asg (ev_op k_sub (ev_op k_ix ev_var ev_var) (ev_op k_pow ev_int ev_int))) s_next)
      (s_ret (ev_lst (ed_cons (evd ev_var) (ed_cons (evd ev_var) ed_nil)))))))))

theorem sc_law_draw : FnScope ["source", "span", "found"] ["source", "span"] (defScope s_law_draw) := ⟨rfl, rfl, rfl, by decide +kernel, rfl, by decide +kernel, by decide +kernel⟩
theorem ok_law_draw {P : Program} {w : World} {K : PySem.W.Frag} {mg : Str → Option Value} {base : Heap} {Z : Ad} (T : Txt K mg Z) : DVG.FnG false P w K mg base CX0 (1) Z.a_law_draw Z.d_law_draw ["source", "span"] (spD K (some 0) 2 (f_law_draw)) :=
  fn_d T.f_law_draw sc_law_draw (fun cdv A outer s H E hr =>
      (pss_cons (ps_if (pt_cmpR op_ge (pe_ix ix_seq (pv 0) pe_int (fun _ _ => rfl)) (pv 1) (nomark _)) (pss_cons (ps_set (i := 2) sc_law_draw.nd rfl (by first | exact Or.inl rfl | exact Or.inr rfl) (pe_op op_mod (pe_callTy call_int' (by rfl) T.b_int bt_int (pa_cons (pe_ix ix_seq (pv 0) pe_int (fun _ _ => rfl)) pa_nil)) (pv 1)))
      (pss_cons (ps_asg (pe_op op_fdivW (pe_ix ix_seq (pv 0) pe_int (fun _ _ => rfl)) (pv 1)) (pg_sub (pv 0) pe_int set_list))
      (pss_one (ps_ret (pv 2))))) pss_nil)
      (pss_cons (ps_asg (pe_op op_mod (pe_callTy call_int' (by rfl) T.b_int bt_int (pa_cons (pe_op op_addU (pe_op op_mulU (pe_ix ix_seq (pv 0) pe_int (fun _ _ => rfl)) pe_int) pe_int) pa_nil)) pe_int) (pg_sub (pv 0) pe_int set_list))
      (pss_one (ps_ret (pe_op op_mod (pe_callTy call_int' (by rfl) T.b_int bt_int (pa_cons (pe_op op_fdivW (pe_op op_mod (pe_callTy call_int' (by rfl) T.b_int bt_int (pa_cons (pe_op op_powB (pe_callTy call_int' (by rfl) T.b_int bt_int (pa_cons (pe_ix ix_seq (pv 0) pe_int (fun _ _ => rfl)) pa_nil)) pe_int) pa_nil)) pe_int) pe_int) pa_nil)) (pv 1)))))))
    ((s_seq (s_if (t_test (ev_op k_ge (ev_op k_ix ev_var ev_int) ev_var)) (s_seq (s_asg (ev_op k_mod (ev_cb c_int (ea_cons (ev_op k_ix ev_var ev_int) ea_nil)) ev_var))
      (s_seq (s_setL (evd (ev_op k_div (ev_op k_ix ev_var ev_int) ev_var)) ev_var ev_int)
      (s_ret ev_var))) s_next)
      (s_seq (s_setL (evd (ev_op k_mod (ev_cb c_int (ea_cons (ev_op k_add (ev_op k_mul (ev_op k_ix ev_var ev_int) ev_int) ev_int) ea_nil)) ev_int)) ev_var ev_int)
      (s_ret (ev_op k_mod (ev_cb c_int (ea_cons (ev_op k_div (ev_op k_mod (ev_cb c_int (ea_cons (ev_op k_pow (ev_cb c_int (ea_cons (ev_op k_ix ev_var ev_int) ea_nil)) ev_int) ea_nil)) ev_int) ev_int) ea_nil)) ev_var)))))

theorem sc_law_pick : FnScope ["source", "items"] ["source", "items"] (defScope s_law_pick) := ⟨rfl, rfl, rfl, by decide +kernel, rfl, by decide +kernel, by decide +kernel⟩
theorem ok_law_pick {P : Program} {w : World} {K : PySem.W.Frag} {mg : Str → Option Value} {base : Heap} {Z : Ad} (T : Txt K mg Z) : DVG.FnG false P w K mg base CX0 (2) Z.a_law_pick Z.d_law_pick ["source", "items"] (spD K (some 0) 2 (f_law_pick)) :=
  fn_d T.f_law_pick sc_law_pick (fun cdv A outer s H E hr =>
      (pss_one (ps_ret (pe_ix ix_seq (pv 1) (DVG.pe_callG (ok_law_draw T) ((hr.mono (by first | decide | omega : 1 ≤ 1))) (by rfl) T.g_law_draw T.f_law_draw.kp T.n_law_draw .nil pass0 (pa_cons (pv 0) (pa_cons (pe_callB call_len' (by rfl) T.b_len bt_len (pa_cons (pv 1) pa_nil)) pa_nil))) (fun _ _ => rfl)))))
    ((s_ret (ev_op k_ix ev_var (ev_call (dds := []) (call_ok (bo := (some 0)) (n := 2)) (fun _ _ => rfl) (ea_cons ev_var (ea_cons (ev_of (evd (ev_cb c_len (ea_cons ev_var ea_nil)))) ea_nil))))))

theorem sc_law_cuts : FnScope ["source", "many", "high", "some", "turn"] ["source", "many", "high"] (defScope s_law_cuts) := ⟨rfl, rfl, rfl, by decide +kernel, rfl, by decide +kernel, by decide +kernel⟩
theorem ok_law_cuts {P : Program} {w : World} {K : PySem.W.Frag} {mg : Str → Option Value} {base : Heap} {Z : Ad} (T : Txt K mg Z) : DVG.FnG false P w K mg base CX0 (2) Z.a_law_cuts Z.d_law_cuts ["source", "many", "high"] (spD K (some 0) 3 (f_law_cuts)) :=
  fn_d T.f_law_cuts sc_law_cuts (fun cdv A outer s H E hr =>
      (pss_cons (ps_set (i := 3) sc_law_cuts.nd rfl (by first | exact Or.inl rfl | exact Or.inr rfl) (pe_callB (cr_sortedSet rfl) (by rfl) T.b_sorted bt_sorted (pa_cons (pe_callTy (DVS.cr_setL rfl) (by rfl) T.b_set bt_set (pa_cons (pe_lc rfl sc_law_cuts.nd (pi_range1 (by rfl) T.b_range (pa_cons (DVG.pe_callG (ok_law_draw T) ((hr.mono (by first | decide | omega : 1 ≤ 1))) (by rfl) T.g_law_draw T.f_law_draw.kp T.n_law_draw .nil pass0 (pa_cons (pv 0) (pa_cons (pe_op op_addU (pv 1) pe_int) pa_nil))) pa_nil)) (blkOk_by (own := [("turn", 4)]) (by show blkC ["source", "many", "high", "some", "turn"] (defScope s_law_cuts) _ _ = true; decide +kernel)) (fun _ _ _ _ _ => (pg_name (i := 4) sc_law_cuts.nd rfl (by first | exact Or.inl rfl | exact Or.inr rfl))) (fun _ _ _ _ _ => pts_nil) (fun _ _ _ _ _ => (pe_op op_addU pe_int (DVG.pe_callG (ok_law_draw T) ((hr.mono (by first | decide | omega : 1 ≤ 1))) (by rfl) T.g_law_draw T.f_law_draw.kp T.n_law_draw .nil pass0 (pa_cons (pv 0) (pa_cons (pv 2) pa_nil)))))) pa_nil)) pa_nil)))
      (pss_one (ps_ret (pe_revL (pv 3))))))
    ((s_seq (s_asg (ev_sortSet (ev_lc (vs := [4]) (i_range1 (ea_cons (ev_call (dds := []) (call_ok (bo := (some 0)) (n := 2)) (fun _ _ => rfl) (ea_cons ev_var (ea_cons (ev_of (evd (ev_op k_add ev_var ev_int))) ea_nil))) ea_nil)) g_name (gw_name (by decide)) (show EvT _ _ y2_law_cuts from t_yes) (show EvD _ _ x1_law_cuts from evd (ev_op k_add ev_int (ev_call (dds := []) (call_ok (bo := (some 0)) (n := 2)) (fun _ _ => rfl) (ea_cons ev_var (ea_cons ev_var ea_nil))))))))
      (s_ret (ev_rev ev_var))))

theorem sc_is_number : FnScope ["value", "least", "greatest"] ["value", "least", "greatest"] (defScope s_is_number) := ⟨rfl, rfl, rfl, by decide +kernel, rfl, by decide +kernel, by decide +kernel⟩
theorem ok_is_number {P : Program} {w : World} {K : PySem.W.Frag} {mg : Str → Option Value} {base : Heap} {Z : Ad} (T : Txt K mg Z) : DVG.FnG false P w K mg base CX0 (1) Z.a_is_number Z.d_is_number ["value", "least", "greatest"] (spD K none 3 (f_is_number)) :=
  fn_d T.f_is_number sc_is_number (fun cdv A outer s H E hr =>
      (pss_one (ps_ret (pe_and (pe_callB call_isi (by rfl) T.b_isinstance bt_isinstance (pa_cons (pv 0) (pa_cons (pe_bltn (v := .ty "int") (by rfl) T.b_int bt_int rfl) pa_nil))) (pe_and (pe_not (pe_callB call_isi (by rfl) T.b_isinstance bt_isinstance (pa_cons (pv 0) (pa_cons (pe_bltn (v := .ty "bool") (by rfl) T.b_bool bt_bool rfl) pa_nil)))) (pe_one (pe_chain op_le op_le (pv 1) (pv 0) (pv 2))))))))
    ((s_ret (ev_and (ev_cb c_is (ea_cons ev_var (ea_cons ev_con ea_nil))) (ev_and (ev_not (ev_cb c_is (ea_cons ev_var (ea_cons ev_con ea_nil)))) (ev_chain k_le k_le ev_var ev_var ev_var)))))

theorem sc_is_falling : FnScope ["value", "place", "cut"] ["value"] (defScope s_is_falling) := ⟨rfl, rfl, rfl, by decide +kernel, rfl, by decide +kernel, by decide +kernel⟩
theorem ok_is_falling {P : Program} {w : World} {K : PySem.W.Frag} {mg : Str → Option Value} {base : Heap} {Z : Ad} (T : Txt K mg Z) : DVG.FnG false P w K mg base CX0 (2) Z.a_is_falling Z.d_is_falling ["value"] (spD K none 1 (f_is_falling)) :=
  fn_d T.f_is_falling sc_is_falling (fun cdv A outer s H E hr =>
      (pss_cons (ps_if (pt_not (pt_val (pe_callB call_isiU (by rfl) T.b_isinstance bt_isinstance (pa_cons (pv 0) (pa_cons (pe_tup (pa_cons (pe_bltn (v := .ty "list") (by rfl) T.b_list bt_list rfl) (pa_cons (pe_bltn (v := .ty "tuple") (by rfl) T.b_tuple bt_tuple rfl) pa_nil))) pa_nil))))) (pss_one (ps_ret pe_bl)) pss_nil)
      (pss_cons (ps_if (pt_not (pt_val (pe_callB (cr_all rfl) (by rfl) T.b_all bt_all (pa_cons (pe_lc rfl sc_is_falling.nd (pi_seq (pv 0)) (blkOk_by (own := [("cut", 2)]) (by show blkC ["value", "place", "cut"] (defScope s_is_falling) _ _ = true; decide +kernel)) (fun _ _ _ _ _ => (pg_name (i := 2) sc_is_falling.nd rfl (by first | exact Or.inl rfl | exact Or.inr rfl))) (fun _ _ _ _ _ => pts_nil) (fun _ _ _ _ _ => (DVG.pe_callG (ok_is_number T) ((hr.mono (by first | decide | omega : 1 ≤ 1))) (by rfl) T.g_is_number T.f_is_number.kp T.n_is_number .nil pass0 (pa_cons (pv 2) (pa_cons pe_int (pa_cons (pe_glob (v := .int 1000) (by rfl) T.c_GREATEST_ROAD T.r_GREATEST_ROAD) pa_nil)))))) pa_nil)))) (pss_one (ps_ret pe_bl)) pss_nil)
      (pss_one (ps_ret (pe_callB (cr_all rfl) (by rfl) T.b_all bt_all (pa_cons (pe_lc rfl sc_is_falling.nd (pi_range2 (by rfl) T.b_range (pa_cons pe_int (pa_cons (pe_callB call_len' (by rfl) T.b_len bt_len (pa_cons (pv 0) pa_nil)) pa_nil))) (blkOk_by (own := [("place", 1)]) (by show blkC ["value", "place", "cut"] (defScope s_is_falling) _ _ = true; decide +kernel)) (fun _ _ _ _ _ => (pg_name (i := 1) sc_is_falling.nd rfl (by first | exact Or.inl rfl | exact Or.inr rfl))) (fun _ _ _ _ _ => pts_nil) (fun _ _ _ _ _ => (pe_cmpR op_lt (pe_ix ix_seq (pv 0) (pv 1) (fun _ _ => rfl)) (pe_ix ix_seq (pv 0) (pe_op op_sub (pv 1) pe_int) (fun _ _ => rfl)) (nomark _)))) pa_nil)))))))
    ((s_seq (s_if (t_not (t_b (ev_cb c_isT (ea_cons ev_var (ea_cons (ev_tup (ed_cons (evd ev_con) (ed_cons (evd ev_con) ed_nil))) ea_nil))))) (s_ret ev_bl) s_next)
      (s_seq (s_if (t_not (t_b (ev_cb c_all (ea_cons (ev_lc (vs := [2]) (i_seq (evd ev_var)) g_name (gw_name (by decide)) (show EvT _ _ y2_is_falling from t_yes) (show EvD _ _ x1_is_falling from evd (ev_call (dds := []) (call_ok (bo := none) (n := 3)) (fun _ _ => rfl) (ea_cons ev_var (ea_cons (ev_of (evd ev_int)) (ea_cons ev_int ea_nil)))))) ea_nil)))) (s_ret ev_bl) s_next)
      (s_ret (ev_cb c_all (ea_cons (ev_lc (vs := [1]) (i_range2 (ea_cons ev_int (ea_cons (ev_cb c_len (ea_cons ev_var ea_nil)) ea_nil))) g_name (gw_name (by decide)) (show EvT _ _ y4_is_falling from t_yes) (show EvD _ _ x3_is_falling from evd (ev_op k_lt (ev_op k_ix ev_var ev_var) (ev_op k_ix ev_var (ev_op k_sub ev_var ev_int))))) ea_nil))))))

theorem sc_pieces_by : FnScope ["cuts", "counts", "body", "found", "left", "place", "cut"] ["cuts", "counts", "body"] (defScope s_pieces_by) := ⟨rfl, rfl, rfl, by decide +kernel, rfl, by decide +kernel, by decide +kernel⟩
theorem ok_pieces_by {P : Program} {w : World} {K : PySem.W.Frag} {mg : Str → Option Value} {base : Heap} {Z : Ad} (T : Txt K mg Z) : DVG.FnG false P w K mg base CX0 (1) Z.a_pieces_by Z.d_pieces_by ["cuts", "counts", "body"] (spD K none 3 (f_pieces_by)) :=
  fn_d T.f_pieces_by sc_pieces_by (fun cdv A outer s H E hr =>
      (pss_cons (ps_set (i := 3) sc_pieces_by.nd rfl (by first | exact Or.inl rfl | exact Or.inr rfl) pe_int)
      (pss_cons (ps_set (i := 4) sc_pieces_by.nd rfl (by first | exact Or.inl rfl | exact Or.inr rfl) (pv 2))
      (pss_cons (ps_for PassesOwn.never rfl (pi_enumU (by rfl) T.b_enumerate (pa_cons (pv 0) pa_nil)) (pg_tup rfl (pgs_cons (pg_name (i := 5) sc_pieces_by.nd rfl (by first | exact Or.inl rfl | exact Or.inr rfl)) (pgs_cons (pg_name (i := 6) sc_pieces_by.nd rfl (by first | exact Or.inl rfl | exact Or.inr rfl)) pgs_nil))) (pss_cons (ps_set (i := 3) sc_pieces_by.nd rfl (by first | exact Or.inl rfl | exact Or.inr rfl) (pe_op op_addU (pv 3) (pe_op op_mulU (pe_op op_fdivW (pv 4) (pv 6)) (pe_ix ix_seq (pv 1) (pv 5) (fun _ _ => rfl)))))
      (pss_cons (ps_set (i := 4) sc_pieces_by.nd rfl (by first | exact Or.inl rfl | exact Or.inr rfl) (pe_op op_mod (pv 4) (pv 6)))
      (pss_one (ps_if (pt_cmpR (op_eqU (hU hr)) (pv 4) pe_int (nomark _)) (pss_one (ps_ret (pv 3))) pss_nil)))))
      (pss_one (ps_ret (pe_op op_addU (pv 3) pe_int)))))))
    ((s_seq (s_asg ev_int)
      (s_seq (s_asg ev_var)
      (s_seq (s_for (i_enumU (ed_cons (evd ev_var) ed_nil)) (g_tup (gs_cons g_name (gs_cons g_name gs_nil))) (show EvS _ _ b1_pieces_by from (s_seq (s_asg (ev_op k_add ev_var (ev_op k_mul (ev_op k_div ev_var ev_var) (ev_op k_ix ev_var ev_var))))
      (s_seq (s_asg (ev_op k_mod ev_var ev_var))
      (s_if (t_test (ev_op k_eq ev_var ev_int)) (s_ret ev_var) s_next)))))
      (s_ret (ev_op k_add ev_var ev_int))))))

theorem sc_Chain_init : FnScope ["self", "cuts", "counts", "place"] ["self", "cuts"] (defScope s_Chain_init) := ⟨rfl, rfl, rfl, by decide +kernel, rfl, by decide +kernel, by decide +kernel⟩
theorem ok_Chain_init {P : Program} {w : World} {K : PySem.W.Frag} {mg : Str → Option Value} {base : Heap} {Z : Ad} (T : Txt K mg Z) : DVG.FnG false P w K mg base CX0 (3) Z.a_Chain_init Z.d_Chain_init ["self", "cuts"] (spD K (some 0) 2 (f_Chain_init Z.c)) :=
  fn_d T.f_Chain_init sc_Chain_init (fun cdv A outer s H E hr =>
      (pss_cons (ps_if (pt_not (pt_val (DVG.pe_callG (ok_is_falling T) ((hr.mono (by first | decide | omega : 2 ≤ 2))) (by rfl) T.g_is_falling T.f_is_falling.kp T.n_is_falling .nil pass0 (pa_cons (pv 1) pa_nil)))) (pss_one ps_never) pss_nil)
      (pss_cons (ps_fld (pv 0) (pe_callTy call_tup' (by rfl) T.b_tuple bt_tuple (pa_cons (pv 1) pa_nil)) rfl)
      (pss_cons (ps_set (i := 2) sc_Chain_init.nd rfl (by first | exact Or.inl rfl | exact Or.inr rfl) (pe_lst pa_nil))
      (pss_cons (ps_for PassesOwn.never rfl (pi_range3 (by rfl) T.b_range (pa_cons (pe_op op_sub (pe_callB call_len' (by rfl) T.b_len bt_len (pa_cons (pe_fld (pv 0) (by rfl)) pa_nil)) pe_int) (pa_cons (pe_un un_neg pe_int) (pa_cons (pe_un un_neg pe_int) pa_nil)))) (pg_name (i := 3) sc_Chain_init.nd rfl (by first | exact Or.inl rfl | exact Or.inr rfl)) (pss_one (ps_set (i := 2) sc_Chain_init.nd rfl (by first | exact Or.inl rfl | exact Or.inr rfl) (pe_op op_addU (pe_lst (pa_cons (DVG.pe_callG (ok_pieces_by T) ((hr.mono (by first | decide | omega : 1 ≤ 2))) (by rfl) T.g_pieces_by T.f_pieces_by.kp T.n_pieces_by .nil pass0 (pa_cons (pe_slice sl_U (pe_fld (pv 0) (by rfl)) (po_some (pe_op op_addU (pv 3) pe_int)) po_none) (pa_cons (pv 2) (pa_cons (pe_ix ix_seq (pe_fld (pv 0) (by rfl)) (pv 3) (fun _ _ => rfl)) pa_nil)))) pa_nil)) (pv 2)))))
      (pss_one (ps_fld (pv 0) (pv 2) rfl)))))))
    ((s_seq (s_if (t_not (t_b (ev_call (dds := []) (call_ok (bo := none) (n := 1)) (fun _ _ => rfl) (ea_cons ev_var ea_nil)))) s_never s_next)
      (s_seq (s_fld T.o_Chain.cls T.na_Chain_cuts (evd (ev_cb c_tup (ea_cons ev_var ea_nil))) ev_var)
      (s_seq (s_asg (ev_lst ed_nil))
      (s_seq (s_for (i_range3 (ea_cons (ev_op k_sub (ev_cb c_len (ea_cons (ev_fld T.o_Chain.cls T.na_Chain_cuts ev_var) ea_nil)) ev_int) (ea_cons (ev_un k_neg ev_int) (ea_cons (ev_un k_neg ev_int) ea_nil)))) g_name (show EvS _ _ (b1_Chain_init Z.c) from (s_asg (ev_op k_add (ev_lst (ed_cons (evd (ev_call (dds := []) (call_ok (bo := none) (n := 3)) (fun _ _ => rfl) (ea_cons (ev_of (evd (ev_sl (ev_fld T.o_Chain.cls T.na_Chain_cuts ev_var) (p_some (ev_op k_add ev_var ev_int)) p_none))) (ea_cons ev_var (ea_cons (ev_of (evd (ev_op k_ix (ev_fld T.o_Chain.cls T.na_Chain_cuts ev_var) ev_var))) ea_nil))))) ed_nil)) ev_var))))
      (s_fld T.o_Chain.cls T.na_Chain_counts (evd ev_var) ev_var))))))

theorem sc_Chain_add : FnScope ["self", "other", "cut"] ["self", "other"] (defScope s_Chain_add) := ⟨rfl, rfl, rfl, by decide +kernel, rfl, by decide +kernel, by decide +kernel⟩
theorem ok_Chain_add {P : Program} {w : World} {K : PySem.W.Frag} {mg : Str → Option Value} {base : Heap} {Z : Ad} (T : Txt K mg Z) : DVG.FnG false P w K mg base CX0 (5) Z.a_Chain_add Z.d_Chain_add ["self", "other"] (spD K none 2 (f_Chain_add Z.c)) :=
  fn_d T.f_Chain_add sc_Chain_add (fun cdv A outer s H E hr =>
      (pss_one (ps_ret (DVG.pe_makeG T.k_Chain (ok_Chain_init T) ((hr.mono (by first | decide | omega : 4 ≤ 4))) (by rfl) T.g_Chain T.n_Chain_init .nil pass0 (pa_cons (pe_op op_addU (pe_fld (pv 0) (by rfl)) (pe_callTy call_tup' (by rfl) T.b_tuple bt_tuple (pa_cons (pe_lc rfl sc_Chain_add.nd (pi_seq (pe_fld (pv 1) (by rfl))) (blkOk_by (own := [("cut", 2)]) (by show blkC ["self", "other", "cut"] (defScope s_Chain_add) _ _ = true; decide +kernel)) (fun _ _ _ _ _ => (pg_name (i := 2) sc_Chain_add.nd rfl (by first | exact Or.inl rfl | exact Or.inr rfl))) (fun _ _ _ _ _ => (pts_one (PW.pt (pw_or (pt_cmpR (op_eqU (hU hr)) (pe_fld (pv 0) (by rfl)) (pe_tup pa_nil) (nomark _)) (pw_or1 (pt_cmpR op_lt (pv 2) (pe_ix ix_seq (pe_fld (pv 0) (by rfl)) (pe_un un_neg pe_int) (fun _ _ => rfl)) (nomark _))))))) (fun _ _ _ _ _ => (pv 2))) pa_nil))) pa_nil)))))
    ((s_ret (ev_of (evd (ev_make (dds := []) (n := 2) (fun _ _ => rfl) (ed_cons (evd (ev_op k_add (ev_fld T.o_Chain.cls T.na_Chain_cuts ev_var) (ev_cb c_tup (ea_cons (ev_lc (vs := [2]) (i_seq (evd (ev_fld T.o_Chain.cls T.na_Chain_cuts ev_var))) g_name (gw_name (by decide)) (show EvT _ _ (y2_Chain_add Z.c) from (t_or (t_test (ev_op k_eq (ev_fld T.o_Chain.cls T.na_Chain_cuts ev_var) (ev_tup ed_nil))) (t_test (ev_op k_lt ev_var (ev_op k_ix (ev_fld T.o_Chain.cls T.na_Chain_cuts ev_var) (ev_un k_neg ev_int)))))) (show EvD _ _ x1_Chain_add from evd ev_var)) ea_nil)))) ed_nil))))))

theorem sc_Chain_eq : FnScope ["self", "other"] ["self", "other"] (defScope s_Chain_eq) := ⟨rfl, rfl, rfl, by decide +kernel, rfl, by decide +kernel, by decide +kernel⟩
theorem ok_Chain_eq {P : Program} {w : World} {K : PySem.W.Frag} {mg : Str → Option Value} {base : Heap} {Z : Ad} (T : Txt K mg Z) : DVG.FnG false P w K mg base CX0 (1) Z.a_Chain_eq Z.d_Chain_eq ["self", "other"] (spD K none 2 (f_Chain_eq Z.c)) :=
  fn_d T.f_Chain_eq sc_Chain_eq (fun cdv A outer s H E hr =>
      (pss_one (ps_ret (pe_and (pe_callB call_isi (by rfl) T.b_isinstance bt_isinstance (pa_cons (pv 1) (pa_cons (pe_glob (v := .ref Z.c.Chain) (by rfl) T.g_Chain rfl) pa_nil))) (pe_one (pe_cmpR (op_eqU (hU hr)) (pe_fld (pv 0) (by rfl)) (pe_fld (pv 1) (by rfl)) (nomark _)))))))
    ((s_ret (ev_and (ev_cb (c_isOwn T.o_Chain) (ea_cons ev_var (ea_cons ev_con ea_nil))) (ev_op k_eq (ev_fld T.o_Chain.cls T.na_Chain_cuts ev_var) (ev_fld T.o_Chain.cls T.na_Chain_cuts ev_var)))))

theorem sc_Chain_pieces : FnScope ["self", "body"] ["self", "body"] (defScope s_Chain_pieces) := ⟨rfl, rfl, rfl, by decide +kernel, rfl, by decide +kernel, by decide +kernel⟩
theorem ok_Chain_pieces {P : Program} {w : World} {K : PySem.W.Frag} {mg : Str → Option Value} {base : Heap} {Z : Ad} (T : Txt K mg Z) : DVG.FnG false P w K mg base CX0 (2) Z.a_Chain_pieces Z.d_Chain_pieces ["self", "body"] (spD K none 2 (f_Chain_pieces Z.c)) :=
  fn_d T.f_Chain_pieces sc_Chain_pieces (fun cdv A outer s H E hr =>
      (pss_one (ps_ret (pe_ifExp (pt_cmpR (op_eqU (hU hr)) (pv 1) pe_int (nomark _)) pe_int (DVG.pe_callG (ok_pieces_by T) ((hr.mono (by first | decide | omega : 1 ≤ 1))) (by rfl) T.g_pieces_by T.f_pieces_by.kp T.n_pieces_by .nil pass0 (pa_cons (pe_fld (pv 0) (by rfl)) (pa_cons (pe_fld (pv 0) (by rfl)) (pa_cons (pv 1) pa_nil))))))))
    ((s_ret (ev_if (t_test (ev_op k_eq ev_var ev_int)) ev_int (ev_call (dds := []) (call_ok (bo := none) (n := 3)) (fun _ _ => rfl) (ea_cons (ev_of (evd (ev_fld T.o_Chain.cls T.na_Chain_cuts ev_var))) (ea_cons (ev_of (evd (ev_fld T.o_Chain.cls T.na_Chain_counts ev_var))) (ea_cons ev_var ea_nil)))))))

theorem sc_Chain_getitem : FnScope ["self", "at", "found", "left", "place", "cut"] ["self", "at"] (defScope s_Chain_getitem) := ⟨rfl, rfl, rfl, by decide +kernel, rfl, by decide +kernel, by decide +kernel⟩
theorem ok_Chain_getitem {P : Program} {w : World} {K : PySem.W.Frag} {mg : Str → Option Value} {base : Heap} {Z : Ad} (T : Txt K mg Z) : DVG.FnG false P w K mg base CX0 (2) Z.a_Chain_getitem Z.d_Chain_getitem ["self", "at"] (spD K none 2 (f_Chain_getitem Z.c)) :=
  fn_d T.f_Chain_getitem sc_Chain_getitem (fun cdv A outer s H E hr =>
      (pss_cons (ps_if (PW.pt (pw_or (pt_not (pt_val (DVG.pe_callG (ok_is_number T) ((hr.mono (by first | decide | omega : 1 ≤ 1))) (by rfl) T.g_is_number T.f_is_number.kp T.n_is_number .nil pass0 (pa_cons (pv 1) (pa_cons pe_int (pa_cons (pv 1) pa_nil)))))) (pw_or1 (pt_cmpR (op_eqU (hU hr)) (pe_fld (pv 0) (by rfl)) (pe_tup pa_nil) (nomark _))))) (pss_one ps_never) pss_nil)
      (pss_cons (ps_set (i := 2) sc_Chain_getitem.nd rfl (by first | exact Or.inl rfl | exact Or.inr rfl) pe_int)
      (pss_cons (ps_set (i := 3) sc_Chain_getitem.nd rfl (by first | exact Or.inl rfl | exact Or.inr rfl) (pv 1))
      (pss_cons (ps_for PassesOwn.never rfl (pi_enumU (by rfl) T.b_enumerate (pa_cons (pe_fld (pv 0) (by rfl)) pa_nil)) (pg_tup rfl (pgs_cons (pg_name (i := 4) sc_Chain_getitem.nd rfl (by first | exact Or.inl rfl | exact Or.inr rfl)) (pgs_cons (pg_name (i := 5) sc_Chain_getitem.nd rfl (by first | exact Or.inl rfl | exact Or.inr rfl)) pgs_nil))) (pss_cons (ps_set (i := 2) sc_Chain_getitem.nd rfl (by first | exact Or.inl rfl | exact Or.inr rfl) (pe_op op_addU (pv 2) (pe_op op_mulU (pe_op op_fdivW (pv 3) (pe_ix ix_seq (pe_fld (pv 0) (by rfl)) (pv 4) (fun _ _ => rfl))) (pv 5))))
      (pss_cons (ps_set (i := 3) sc_Chain_getitem.nd rfl (by first | exact Or.inl rfl | exact Or.inr rfl) (pe_op op_mod (pv 3) (pe_ix ix_seq (pe_fld (pv 0) (by rfl)) (pv 4) (fun _ _ => rfl))))
      (pss_one (ps_if (pt_cmpR (op_eqU (hU hr)) (pv 3) pe_int (nomark _)) (pss_one (ps_ret (pv 2))) pss_nil)))))
      (pss_one (ps_ret (pv 2))))))))
    ((s_seq (s_if (t_or (t_not (t_b (ev_call (dds := []) (call_ok (bo := none) (n := 3)) (fun _ _ => rfl) (ea_cons ev_var (ea_cons (ev_of (evd ev_int)) (ea_cons ev_var ea_nil)))))) (t_test (ev_op k_eq (ev_fld T.o_Chain.cls T.na_Chain_cuts ev_var) (ev_tup ed_nil)))) s_never s_next)
      (s_seq (s_asg ev_int)
      (s_seq (s_asg ev_var)
      (s_seq (s_for (i_enumU (ed_cons (evd (ev_fld T.o_Chain.cls T.na_Chain_cuts ev_var)) ed_nil)) (g_tup (gs_cons g_name (gs_cons g_name gs_nil))) (show EvS _ _ (b1_Chain_getitem Z.c) from (s_seq (s_asg (ev_op k_add ev_var (ev_op k_mul (ev_op k_div ev_var (ev_op k_ix (ev_fld T.o_Chain.cls T.na_Chain_counts ev_var) ev_var)) ev_var)))
      (s_seq (s_asg (ev_op k_mod ev_var (ev_op k_ix (ev_fld T.o_Chain.cls T.na_Chain_counts ev_var) ev_var)))
      (s_if (t_test (ev_op k_eq ev_var ev_int)) (s_ret ev_var) s_next)))))
      (s_ret ev_var))))))

theorem sc_Chain_stretch : FnScope ["self", "body", "number", "begin"] ["self", "body", "number"] (defScope s_Chain_stretch) := ⟨rfl, rfl, rfl, by decide +kernel, rfl, by decide +kernel, by decide +kernel⟩
theorem ok_Chain_stretch {P : Program} {w : World} {K : PySem.W.Frag} {mg : Str → Option Value} {base : Heap} {Z : Ad} (T : Txt K mg Z) : DVG.FnG false P w K mg base CX0 (4) Z.a_Chain_stretch Z.d_Chain_stretch ["self", "body", "number"] (spD K none 3 (f_Chain_stretch Z.c)) :=
  fn_d T.f_Chain_stretch sc_Chain_stretch (fun cdv A outer s H E hr =>
      (pss_cons (ps_if (pt_not (pt_val (DVG.pe_callG (ok_is_number T) ((hr.mono (by first | decide | omega : 1 ≤ 3))) (by rfl) T.g_is_number T.f_is_number.kp T.n_is_number .nil pass0 (pa_cons (pv 2) (pa_cons pe_int (pa_cons (DVG.pe_methG (pv 0) T.o_Chain.cls T.m_Chain_pieces (ok_Chain_pieces T) ((hr.mono (by first | decide | omega : 2 ≤ 3))) T.n_Chain_pieces .nil pass0 (pa_cons (pv 1) pa_nil)) pa_nil)))))) (pss_one ps_never) pss_nil)
      (pss_cons (ps_set (i := 3) sc_Chain_stretch.nd rfl (by first | exact Or.inl rfl | exact Or.inr rfl) (pe_ifExp (pt_cmpR op_gt (pv 2) pe_int (nomark _)) (DVG.pe_ixOwn (ok_Chain_getitem T) ((hr.mono (by first | decide | omega : 3 ≤ 3))) T.s_Chain_getitem T.j_Chain_getitem T.i_Chain_getitem T.n_Chain_getitem pass0 (pv 0) (pe_op op_sub (pv 2) pe_int) (fun _ _ => rfl)) pe_int))
      (pss_one (ps_ret (pe_ifExp (pt_cmpR (op_eqU (hU hr)) (pv 2) (DVG.pe_methG (pv 0) T.o_Chain.cls T.m_Chain_pieces (ok_Chain_pieces T) ((hr.mono (by first | decide | omega : 2 ≤ 3))) T.n_Chain_pieces .nil pass0 (pa_cons (pv 1) pa_nil)) (nomark _)) (pe_op op_sub (pv 1) (pv 3)) (pe_op op_sub (DVG.pe_ixOwn (ok_Chain_getitem T) ((hr.mono (by first | decide | omega : 3 ≤ 3))) T.s_Chain_getitem T.j_Chain_getitem T.i_Chain_getitem T.n_Chain_getitem pass0 (pv 0) (pv 2) (fun _ _ => rfl)) (pv 3))))))))
    ((s_seq (s_if (t_not (t_b (ev_call (dds := []) (call_ok (bo := none) (n := 3)) (fun _ _ => rfl) (ea_cons ev_var (ea_cons (ev_of (evd ev_int)) (ea_cons (ev_of (evd (ev_meth (dds := []) (call_ok (bo := none) (n := 2)) (fun _ _ => rfl) ev_var (ea_cons ev_var ea_nil)))) ea_nil)))))) s_never s_next)
      (s_seq (s_asg (ev_if (t_test (ev_op k_gt ev_var ev_int)) (ev_ixOwn ev_var (ev_op k_sub ev_var ev_int)) ev_int))
      (s_ret (ev_if (t_test (ev_op k_eq ev_var (ev_meth (dds := []) (call_ok (bo := none) (n := 2)) (fun _ _ => rfl) ev_var (ea_cons ev_var ea_nil)))) (ev_op k_sub ev_var ev_var) (ev_op k_sub (ev_ixOwn ev_var ev_var) ev_var))))))

theorem sc_Chain_parted : GScope ["self", "body", "number"] ["self", "body"] (defScope s_Chain_parted) := ⟨rfl, rfl, rfl, by decide +kernel, rfl, by decide +kernel, by decide +kernel⟩
theorem ok_Chain_parted {P : Program} {w : World} {K : PySem.W.Frag} {mg : Str → Option Value} {base : Heap} {Z : Ad} (T : Txt K mg Z) : GFn P w K mg base (5) Z.a_Chain_parted Z.d_Chain_parted ["self", "body"] (spGD K 2 (f_Chain_parted Z.c)) :=
  fn_gd T.f_Chain_parted sc_Chain_parted (fun cdv A outer s H E pn hr =>
      (gss_cons (DVG.gs_for owns_gcx rfl (pi_range2 (by rfl) T.b_range (pa_cons pe_int (pa_cons (pe_op op_addU (DVG.pe_methG (pv 0) T.o_Chain.cls T.m_Chain_pieces (ok_Chain_pieces T) ((hr.mono (by first | decide | omega : 2 ≤ 4))) T.n_Chain_pieces .nil pass0 (pa_cons (pv 1) pa_nil)) pe_int) pa_nil))) (pg_name (i := 2) sc_Chain_parted.nd rfl (by first | exact Or.inl rfl | exact Or.inr rfl)) (gss_cons (gs_yield (DVG.pe_methG (pv 0) T.o_Chain.cls T.m_Chain_stretch (ok_Chain_stretch T) ((hr.mono (by first | decide | omega : 4 ≤ 4))) T.n_Chain_stretch .nil pass0 (pa_cons (pv 1) (pa_cons (pv 2) pa_nil))))
      gss_nil))
      gss_nil))
    ((gv_cons (gv_for (i_range2 (ea_cons ev_int (ea_cons (ev_op k_add (ev_meth (dds := []) (call_ok (bo := none) (n := 2)) (fun _ _ => rfl) ev_var (ea_cons ev_var ea_nil)) ev_int) ea_nil))) g_name (show EvGS _ _ (b1_Chain_parted Z.c) from (gv_cons (gv_yield (evd (ev_meth (dds := []) (call_ok (bo := none) (n := 3)) (fun _ _ => rfl) ev_var (ea_cons ev_var (ea_cons ev_var ea_nil)))))
      gv_nil)))
      gv_nil))

theorem sc_law_cut_up : FnScope ["stretch", "cut", "found"] ["stretch", "cut"] (defScope s_law_cut_up) := ⟨rfl, rfl, rfl, by decide +kernel, rfl, by decide +kernel, by decide +kernel⟩
theorem ok_law_cut_up {P : Program} {w : World} {K : PySem.W.Frag} {mg : Str → Option Value} {base : Heap} {Z : Ad} (T : Txt K mg Z) : DVG.FnG false P w K mg base CX0 (1) Z.a_law_cut_up Z.d_law_cut_up ["stretch", "cut"] (spD K none 2 (f_law_cut_up)) :=
  fn_d T.f_law_cut_up sc_law_cut_up (fun cdv A outer s H E hr =>
      (pss_cons (ps_set (i := 2) sc_law_cut_up.nd rfl (by first | exact Or.inl rfl | exact Or.inr rfl) (pe_lst pa_nil))
      (pss_cons (ps_while PassesOwn.never (pt_cmpR op_gt (pv 0) (pv 1) (nomark _)) (pss_cons (ps_expr (pe_bm PySem.F.plainAttrs_list PySem.F.slot_list_append PySem.F.type_list_append mt_append (pv 2) (pa_cons (pv 1) pa_nil)))
      (pss_one (ps_set (i := 0) sc_law_cut_up.nd rfl (by first | exact Or.inl rfl | exact Or.inr rfl) (pe_op op_sub (pv 0) (pv 1))))))
      (pss_one (ps_ret (pe_op op_addU (pv 2) (pe_lst (pa_cons (pv 0) pa_nil))))))))
    ((s_seq (s_asg (ev_lst ed_nil))
      (s_seq (s_while 1000000 (show EvT _ _ c1_law_cut_up from (t_test (ev_op k_gt ev_var ev_var))) (show EvS _ _ b2_law_cut_up from (s_seq (s_drop (ev_mut ty_lst m_append ev_var (ed_cons (evd ev_var) ed_nil)))
      (s_asg (ev_op k_sub ev_var ev_var)))))
      (s_ret (ev_op k_add ev_var (ev_lst (ed_cons (evd ev_var) ed_nil)))))))

theorem sc_law_parted : FnScope ["cuts", "stretches", "found", "cut", "parts", "stretch"] ["cuts", "stretches"] (defScope s_law_parted) := ⟨rfl, rfl, rfl, by decide +kernel, rfl, by decide +kernel, by decide +kernel⟩
theorem ok_law_parted {P : Program} {w : World} {K : PySem.W.Frag} {mg : Str → Option Value} {base : Heap} {Z : Ad} (T : Txt K mg Z) : DVG.FnG false P w K mg base CX0 (2) Z.a_law_parted Z.d_law_parted ["cuts", "stretches"] (spD K none 2 (f_law_parted)) :=
  fn_d T.f_law_parted sc_law_parted (fun cdv A outer s H E hr =>
      (pss_cons (ps_set (i := 2) sc_law_parted.nd rfl (by first | exact Or.inl rfl | exact Or.inr rfl) (pe_callTy call_lst' (by rfl) T.b_list bt_list (pa_cons (pv 1) pa_nil)))
      (pss_cons (ps_for PassesOwn.never rfl (pi_seq (pv 0)) (pg_name (i := 3) sc_law_parted.nd rfl (by first | exact Or.inl rfl | exact Or.inr rfl)) (pss_cons (ps_set (i := 4) sc_law_parted.nd rfl (by first | exact Or.inl rfl | exact Or.inr rfl) (pe_lst pa_nil))
      (pss_cons (ps_for PassesOwn.never rfl (pi_seq (pv 2)) (pg_name (i := 5) sc_law_parted.nd rfl (by first | exact Or.inl rfl | exact Or.inr rfl)) (pss_one (ps_set (i := 4) sc_law_parted.nd rfl (by first | exact Or.inl rfl | exact Or.inr rfl) (pe_op op_addU (pv 4) (DVG.pe_callG (ok_law_cut_up T) ((hr.mono (by first | decide | omega : 1 ≤ 1))) (by rfl) T.g_law_cut_up T.f_law_cut_up.kp T.n_law_cut_up .nil pass0 (pa_cons (pv 5) (pa_cons (pv 3) pa_nil)))))))
      (pss_one (ps_set (i := 2) sc_law_parted.nd rfl (by first | exact Or.inl rfl | exact Or.inr rfl) (pv 4))))))
      (pss_one (ps_ret (pv 2))))))
    ((s_seq (s_asg (ev_cb c_lst (ea_cons ev_var ea_nil)))
      (s_seq (s_for (i_seq (evd ev_var)) g_name (show EvS _ _ b2_law_parted from (s_seq (s_asg (ev_lst ed_nil))
      (s_seq (s_for (i_seq (evd ev_var)) g_name (show EvS _ _ b1_law_parted from (s_asg (ev_op k_add ev_var (ev_call (dds := []) (call_ok (bo := none) (n := 2)) (fun _ _ => rfl) (ea_cons ev_var (ea_cons ev_var ea_nil)))))))
      (s_asg ev_var)))))
      (s_ret ev_var))))

theorem sc_law : FnScope ["script", "start", "source", "turn", "high", "lists", "one", "two", "three", "both", "due", "body", "number", "cuts", "cut"] ["script"] (defScope s_law) := ⟨rfl, rfl, rfl, by decide +kernel, rfl, by decide +kernel, by decide +kernel⟩
theorem ok_law {P : Program} {w : World} {K : PySem.W.Frag} {mg : Str → Option Value} {base : Heap} {Z : Ad} (T : Txt K mg Z) : DVG.FnG false P w K mg base CX0 (9) Z.a_law Z.d_law ["script"] (spD K none 1 (f_law Z.c)) :=
  fn_d T.f_law sc_law (fun cdv A outer s H E hr =>
      (pss_cons (ps_for PassesOwn.never rfl (pi_range1 (by rfl) T.b_range (pa_cons (pe_callB (call_maxV rfl (hU hr)) (by rfl) T.b_max bt_max (pa_cons pe_int (pa_cons (pe_callB (call_minV rfl (hU hr)) (by rfl) T.b_min bt_min (pa_cons pe_int (pa_cons (pe_callB call_len' (by rfl) T.b_len bt_len (pa_cons (pv 0) pa_nil)) pa_nil))) pa_nil))) pa_nil)) (pg_name (i := 1) sc_law.nd rfl (by first | exact Or.inl rfl | exact Or.inr rfl)) (pss_cons (ps_set (i := 2) sc_law.nd rfl (by first | exact Or.inl rfl | exact Or.inr rfl) (DVG.pe_callG (ok_law_source T) ((hr.mono (by first | decide | omega : 1 ≤ 8))) (by rfl) T.g_law_source T.f_law_source.kp T.n_law_source .nil pass0 (pa_cons (pv 0) (pa_cons (pv 1) pa_nil))))
      (pss_one (ps_for PassesOwn.never rfl (pi_range1 (by rfl) T.b_range (pa_cons pe_int pa_nil)) (pg_name (i := 3) sc_law.nd rfl (by first | exact Or.inl rfl | exact Or.inr rfl)) (pss_cons (ps_set (i := 4) sc_law.nd rfl (by first | exact Or.inl rfl | exact Or.inr rfl) (DVG.pe_callG (ok_law_pick T) ((hr.mono (by first | decide | omega : 2 ≤ 8))) (by rfl) T.g_law_pick T.f_law_pick.kp T.n_law_pick .nil pass0 (pa_cons (pv 2) (pa_cons (pe_lst (pa_cons pe_int (pa_cons pe_int (pa_cons pe_int pa_nil)))) pa_nil))))
      (pss_cons (ps_set (i := 5) sc_law.nd rfl (by first | exact Or.inl rfl | exact Or.inr rfl) (pe_lc rfl sc_law.nd (pi_range1 (by rfl) T.b_range (pa_cons pe_int pa_nil)) (blkOk_by (own := [("number", 12)]) (by show blkC ["script", "start", "source", "turn", "high", "lists", "one", "two", "three", "both", "due", "body", "number", "cuts", "cut"] (defScope s_law) _ _ = true; decide +kernel)) (fun _ _ _ _ _ => (pg_name (i := 12) sc_law.nd rfl (by first | exact Or.inl rfl | exact Or.inr rfl))) (fun _ _ _ _ _ => pts_nil) (fun _ _ _ _ _ => (DVG.pe_callG (ok_law_cuts T) ((hr.mono (by first | decide | omega : 2 ≤ 8))) (by rfl) T.g_law_cuts T.f_law_cuts.kp T.n_law_cuts .nil pass0 (pa_cons (pv 2) (pa_cons pe_int (pa_cons (pv 4) pa_nil)))))))
      (pss_cons (ps_asg (pe_lc rfl sc_law.nd (pi_seq (pv 5)) (blkOk_by (own := [("cuts", 13)]) (by show blkC ["script", "start", "source", "turn", "high", "lists", "one", "two", "three", "both", "due", "body", "number", "cuts", "cut"] (defScope s_law) _ _ = true; decide +kernel)) (fun _ _ _ _ _ => (pg_name (i := 13) sc_law.nd rfl (by first | exact Or.inl rfl | exact Or.inr rfl))) (fun _ _ _ _ _ => pts_nil) (fun _ _ _ _ _ => (DVG.pe_makeG T.k_Chain (ok_Chain_init T) ((hr.mono (by first | decide | omega : 4 ≤ 8))) (by rfl) T.g_Chain T.n_Chain_init .nil pass0 (pa_cons (pv 13) pa_nil)))) (pg_unl rfl (pgs_cons (pg_name (i := 6) sc_law.nd rfl (by first | exact Or.inl rfl | exact Or.inr rfl)) (pgs_cons (pg_name (i := 7) sc_law.nd rfl (by first | exact Or.inl rfl | exact Or.inr rfl)) (pgs_cons (pg_name (i := 8) sc_law.nd rfl (by first | exact Or.inl rfl | exact Or.inr rfl)) pgs_nil)))))
      (pss_cons (ps_set (i := 9) sc_law.nd rfl (by first | exact Or.inl rfl | exact Or.inr rfl) (pe_op (DVG.op_addOwn (ok_Chain_add T) ((hr.mono (by first | decide | omega : 5 ≤ 8))) T.sf_Chain T.s_Chain_add T.i_Chain_add T.n_Chain_add pass0) (pv 6) (pv 7)))
      (pss_cons (ps_setLc (i := 10) rfl sc_law.nd rfl rfl (by rfl) (pi_seq (pe_ix ix_seq (pv 5) pe_int (fun _ _ => rfl))) (blkOk_by (own := [("cut", 14)]) (by show blkC ["script", "start", "source", "turn", "high", "lists", "one", "two", "three", "both", "due", "body", "number", "cuts", "cut"] (defScope s_law) _ _ = true; decide +kernel)) (fun _ _ _ _ _ => (pg_name (i := 14) sc_law.nd rfl (by first | exact Or.inl rfl | exact Or.inr rfl))) (fun _ _ _ _ _ => (pts_one (PW.pt (pw_or (pt_cmpR (op_eqU (hU hr)) (pe_ix ix_seq (pv 5) pe_int (fun _ _ => rfl)) (pe_lst pa_nil) (nomark _)) (pw_or1 (pt_cmpR op_lt (pv 14) (pe_ix ix_seq (pe_ix ix_seq (pv 5) pe_int (fun _ _ => rfl)) (pe_un un_neg pe_int) (fun _ _ => rfl)) (nomark _))))))) (fun _ _ _ _ _ => (pv 14)))
      (pss_cons (ps_if (PW.pt (pw_or (pt_cmpR (op_neU (hU hr)) (pe_fld (pv 9) (by rfl)) (pe_callTy call_tup' (by rfl) T.b_tuple bt_tuple (pa_cons (pe_op op_addU (pe_ix ix_seq (pv 5) pe_int (fun _ _ => rfl)) (pv 10)) pa_nil)) (nomark _)) (pw_or (pt_cmpR (op_neU (hU hr)) (pe_fld (pv 6) (by rfl)) (pe_callTy call_tup' (by rfl) T.b_tuple bt_tuple (pa_cons (pe_ix ix_seq (pv 5) pe_int (fun _ _ => rfl)) pa_nil)) (nomark _)) (pw_or1 (pt_cmpR (op_neU (hU hr)) (pe_fld (pv 7) (by rfl)) (pe_callTy call_tup' (by rfl) T.b_tuple bt_tuple (pa_cons (pe_ix ix_seq (pv 5) pe_int (fun _ _ => rfl)) pa_nil)) (nomark _)))))) (pss_one (ps_ret pe_bl)) pss_nil)
      (pss_cons (ps_if (PW.pt (pw_or (pt_not (pt_cmpR (DVG.op_eqOwn (ok_Chain_eq T) ((hr.mono (by first | decide | omega : 1 ≤ 8))) T.s_Chain_eq T.i_Chain_eq T.n_Chain_eq pass0) (pe_op (DVG.op_addOwn (ok_Chain_add T) ((hr.mono (by first | decide | omega : 5 ≤ 8))) T.sf_Chain T.s_Chain_add T.i_Chain_add T.n_Chain_add pass0) (pe_op (DVG.op_addOwn (ok_Chain_add T) ((hr.mono (by first | decide | omega : 5 ≤ 8))) T.sf_Chain T.s_Chain_add T.i_Chain_add T.n_Chain_add pass0) (pv 6) (pv 7)) (pv 8)) (pe_op (DVG.op_addOwn (ok_Chain_add T) ((hr.mono (by first | decide | omega : 5 ≤ 8))) T.sf_Chain T.s_Chain_add T.i_Chain_add T.n_Chain_add pass0) (pv 6) (pe_op (DVG.op_addOwn (ok_Chain_add T) ((hr.mono (by first | decide | omega : 5 ≤ 8))) T.sf_Chain T.s_Chain_add T.i_Chain_add T.n_Chain_add pass0) (pv 7) (pv 8))) (nomark _))) (pw_or1 (pt_not (pt_cmpR (DVG.op_eqOwn (ok_Chain_eq T) ((hr.mono (by first | decide | omega : 1 ≤ 8))) T.s_Chain_eq T.i_Chain_eq T.n_Chain_eq pass0) (pe_op (DVG.op_addOwn (ok_Chain_add T) ((hr.mono (by first | decide | omega : 5 ≤ 8))) T.sf_Chain T.s_Chain_add T.i_Chain_add T.n_Chain_add pass0) (pv 6) (DVG.pe_makeG T.k_Chain (ok_Chain_init T) ((hr.mono (by first | decide | omega : 4 ≤ 8))) (by rfl) T.g_Chain T.n_Chain_init .nil pass0 (pa_cons (pe_lst pa_nil) pa_nil))) (pv 6) (nomark _)))))) (pss_one (ps_ret pe_bl)) pss_nil)
      (pss_cons (ps_if (PW.pt (pw_or (pt_not (pt_cmpR (DVG.op_eqOwn (ok_Chain_eq T) ((hr.mono (by first | decide | omega : 1 ≤ 8))) T.s_Chain_eq T.i_Chain_eq T.n_Chain_eq pass0) (pe_op (DVG.op_addOwn (ok_Chain_add T) ((hr.mono (by first | decide | omega : 5 ≤ 8))) T.sf_Chain T.s_Chain_add T.i_Chain_add T.n_Chain_add pass0) (pv 6) (pv 6)) (pv 6) (nomark _))) (pw_or1 (pt_not (pt_cmpR (DVG.op_eqOwn (ok_Chain_eq T) ((hr.mono (by first | decide | omega : 1 ≤ 8))) T.s_Chain_eq T.i_Chain_eq T.n_Chain_eq pass0) (pe_op (DVG.op_addOwn (ok_Chain_add T) ((hr.mono (by first | decide | omega : 5 ≤ 8))) T.sf_Chain T.s_Chain_add T.i_Chain_add T.n_Chain_add pass0) (DVG.pe_makeG T.k_Chain (ok_Chain_init T) ((hr.mono (by first | decide | omega : 4 ≤ 8))) (by rfl) T.g_Chain T.n_Chain_init .nil pass0 (pa_cons (pe_tup pa_nil) pa_nil)) (pv 6)) (pv 6) (nomark _)))))) (pss_one (ps_ret pe_bl)) pss_nil)
      (pss_cons (ps_set (i := 11) sc_law.nd rfl (by first | exact Or.inl rfl | exact Or.inr rfl) (pe_op op_addU pe_int (DVG.pe_callG (ok_law_draw T) ((hr.mono (by first | decide | omega : 1 ≤ 8))) (by rfl) T.g_law_draw T.f_law_draw.kp T.n_law_draw .nil pass0 (pa_cons (pv 2) (pa_cons pe_int pa_nil)))))
      (pss_cons (ps_if (pt_cmpR (op_neU (hU hr)) (pe_listG (pgen_meth (pv 9) T.o_Chain.cls T.m_Chain_parted (ok_Chain_parted T) ((hr.mono (by first | decide | omega : 5 ≤ 8))).r T.n_Chain_parted .nil (pa_cons (pv 11) pa_nil)) passGen noStopGen ((hr.mono (by first | decide | omega : 8 ≤ 8))).r (by rfl) T.b_list bt_list) (DVG.pe_callG (ok_law_parted T) ((hr.mono (by first | decide | omega : 2 ≤ 8))) (by rfl) T.g_law_parted T.f_law_parted.kp T.n_law_parted .nil pass0 (pa_cons (pe_ix ix_seq (pv 5) pe_int (fun _ _ => rfl)) (pa_cons (DVG.pe_callG (ok_law_parted T) ((hr.mono (by first | decide | omega : 2 ≤ 8))) (by rfl) T.g_law_parted T.f_law_parted.kp T.n_law_parted .nil pass0 (pa_cons (pe_ix ix_seq (pv 5) pe_int (fun _ _ => rfl)) (pa_cons (pe_lst (pa_cons (pv 11) pa_nil)) pa_nil))) pa_nil))) (nomark _)) (pss_one (ps_ret pe_bl)) pss_nil)
      (pss_one (ps_if (PW.pt (pw_or (pt_cmpR (op_neU (hU hr)) (pe_callB (cr_sum rfl) (by rfl) T.b_sum bt_sum (pa_cons (pe_listG (pgen_meth (pv 9) T.o_Chain.cls T.m_Chain_parted (ok_Chain_parted T) ((hr.mono (by first | decide | omega : 5 ≤ 8))).r T.n_Chain_parted .nil (pa_cons (pv 11) pa_nil)) passGen noStopGen ((hr.mono (by first | decide | omega : 8 ≤ 8))).r (by rfl) T.b_list bt_list) pa_nil)) (pv 11) (nomark _)) (pw_or1 (pt_cmpR op_lt (DVG.pe_methG (pv 9) T.o_Chain.cls T.m_Chain_pieces (ok_Chain_pieces T) ((hr.mono (by first | decide | omega : 2 ≤ 8))) T.n_Chain_pieces .nil pass0 (pa_cons (pv 11) pa_nil)) (DVG.pe_methG (pv 6) T.o_Chain.cls T.m_Chain_pieces (ok_Chain_pieces T) ((hr.mono (by first | decide | omega : 2 ≤ 8))) T.n_Chain_pieces .nil pass0 (pa_cons (pv 11) pa_nil)) (nomark _))))) (pss_one (ps_ret pe_bl)) pss_nil))))))))))))))))
      (pss_one (ps_ret pe_bl))))
    ((s_seq (s_for (i_range1 (ea_cons (ev_cb c_maxV (ea_cons ev_int (ea_cons (ev_cb c_minV (ea_cons ev_int (ea_cons (ev_cb c_len (ea_cons ev_var ea_nil)) ea_nil))) ea_nil))) ea_nil)) g_name (show EvS _ _ (b8_law Z.c) from (s_seq (s_asg (ev_call (dds := []) (call_ok (bo := none) (n := 2)) (fun _ _ => rfl) (ea_cons ev_var (ea_cons ev_var ea_nil))))
      (s_for (i_range1 (ea_cons ev_int ea_nil)) g_name (show EvS _ _ (b7_law Z.c) from (s_seq (s_asg (ev_call (dds := []) (call_ok (bo := (some 0)) (n := 2)) (fun _ _ => rfl) (ea_cons ev_var (ea_cons (ev_of (evd (ev_lst (ed_cons (evd ev_int) (ed_cons (evd ev_int) (ed_cons (evd ev_int) ed_nil)))))) ea_nil))))
      (s_seq (s_asg (ev_lc (vs := [12]) (i_range1 (ea_cons ev_int ea_nil)) g_name (gw_name (by decide)) (show EvT _ _ y2_law from t_yes) (show EvD _ _ x1_law from evd (ev_call (dds := []) (call_ok (bo := (some 0)) (n := 3)) (fun _ _ => rfl) (ea_cons ev_var (ea_cons (ev_of (evd ev_int)) (ea_cons ev_var ea_nil)))))))
      (s_seq (s_let (evd (ev_lc (vs := [13]) (i_seq (evd ev_var)) g_name (gw_name (by decide)) (show EvT _ _ y4_law from t_yes) (show EvD _ _ (x3_law Z.c) from evd (ev_of (evd (ev_make (dds := []) (n := 2) (fun _ _ => rfl) (ed_cons (evd ev_var) ed_nil))))))) (g_unl (gs_cons g_name (gs_cons g_name (gs_cons g_name gs_nil)))))
      (s_seq (s_asg (ev_addOwn ev_var ev_var))
      (s_seq (s_asg (ev_lc (vs := [14]) (i_seq (evd (ev_op k_ix ev_var ev_int))) g_name (gw_name (by decide)) (show EvT _ _ y6_law from (t_or (t_test (ev_op k_eq (ev_op k_ix ev_var ev_int) (ev_lst ed_nil))) (t_test (ev_op k_lt ev_var (ev_op k_ix (ev_op k_ix ev_var ev_int) (ev_un k_neg ev_int)))))) (show EvD _ _ x5_law from evd ev_var)))
      (s_seq (s_if (t_or (t_test (ev_op k_ne (ev_fld T.o_Chain.cls T.na_Chain_cuts ev_var) (ev_cb c_tup (ea_cons (ev_op k_add (ev_op k_ix ev_var ev_int) ev_var) ea_nil)))) (t_or (t_test (ev_op k_ne (ev_fld T.o_Chain.cls T.na_Chain_cuts ev_var) (ev_cb c_tup (ea_cons (ev_op k_ix ev_var ev_int) ea_nil)))) (t_test (ev_op k_ne (ev_fld T.o_Chain.cls T.na_Chain_cuts ev_var) (ev_cb c_tup (ea_cons (ev_op k_ix ev_var ev_int) ea_nil)))))) (s_ret ev_bl) s_next)
      (s_seq (s_if (t_or (t_not (t_test (ev_op k_eqOwn (ev_addOwn (ev_addOwn ev_var ev_var) ev_var) (ev_addOwn ev_var (ev_addOwn ev_var ev_var))))) (t_not (t_test (ev_op k_eqOwn (ev_addOwn ev_var (ev_of (evd (ev_make (dds := []) (n := 2) (fun _ _ => rfl) (ed_cons (evd (ev_lst ed_nil)) ed_nil))))) ev_var)))) (s_ret ev_bl) s_next)
      (s_seq (s_if (t_or (t_not (t_test (ev_op k_eqOwn (ev_addOwn ev_var ev_var) ev_var))) (t_not (t_test (ev_op k_eqOwn (ev_addOwn (ev_of (evd (ev_make (dds := []) (n := 2) (fun _ _ => rfl) (ed_cons (evd (ev_tup ed_nil)) ed_nil)))) ev_var) ev_var)))) (s_ret ev_bl) s_next)
      (s_seq (s_asg (ev_op k_add ev_int (ev_call (dds := []) (call_ok (bo := (some 0)) (n := 2)) (fun _ _ => rfl) (ea_cons ev_var (ea_cons (ev_of (evd ev_int)) ea_nil)))))
      (s_seq (s_if (t_test (ev_op k_ne (ev_lgm (evd ev_var) (ed_cons (evd ev_var) ed_nil)) (ev_call (dds := []) (call_ok (bo := none) (n := 2)) (fun _ _ => rfl) (ea_cons (ev_of (evd (ev_op k_ix ev_var ev_int))) (ea_cons (ev_of (evd (ev_call (dds := []) (call_ok (bo := none) (n := 2)) (fun _ _ => rfl) (ea_cons (ev_of (evd (ev_op k_ix ev_var ev_int))) (ea_cons (ev_of (evd (ev_lst (ed_cons (evd ev_var) ed_nil)))) ea_nil))))) ea_nil))))) (s_ret ev_bl) s_next)
      (s_if (t_or (t_test (ev_op k_ne (ev_cb c_sum (ea_cons (ev_lgm (evd ev_var) (ed_cons (evd ev_var) ed_nil)) ea_nil)) ev_var)) (t_test (ev_op k_lt (ev_meth (dds := []) (call_ok (bo := none) (n := 2)) (fun _ _ => rfl) ev_var (ea_cons ev_var ea_nil)) (ev_meth (dds := []) (call_ok (bo := none) (n := 2)) (fun _ _ => rfl) ev_var (ea_cons ev_var ea_nil))))) (s_ret ev_bl) s_next))))))))))))))))
      (s_ret ev_bl)))

/-! ### the head -/
theorem all_mk {l : PySem.W.OpenLaw} {w : World} {K : PySem.W.Frag} {h : Heap} {mg : Str → Option Value} {fa : Addr} (ht : ∀ (c : CA) (ns : List Int), ns.length ≤ 63 → (∀ z ∈ ns, Builtin.Int.intBits z ≤ 1048576) → f_law c [.ro (ns.map D.int)] = some (.dat (.bl true), .non)) (X : K.In h) (G : h.Ns mainGlobals mg) (hfa : mg "law" = some (.ref fa))
    {C0 : Addr} (q0 : PySem.W.nsIn K mainGlobals "Chain" = some (some (.ref C0))) (q0a : PySem.W.plainGet K C0 Str.empty = true) (q0b : PySem.W.hasDictIn K C0 = true) (q0c : PySem.W.plainOver K C0 = true)
    (q0d : PySem.W.findIn K (.ref C0) "__setattr__" = some (some (.builtin "object.__setattr__"))) (q0e : PySem.W.makesIn K C0 = true) (q0f : PySem.W.keepIn K (.ref C0) = true)
    (q0g : PySem.W.findIn K (.ref C0) "__class__" = some (some (.builtin "object.__class__"))) (q0h : PySem.W.specialIn K (.builtin "object.__class__") "__get__" = some (some (.builtin "getset_descriptor.__get__")))
    (q0i : PySem.W.takesIn K (.builtin "object.__class__") = some true) (q0j : PySem.W.mroIn K C0 (.type "object") = some true)
    {f0 : Addr} {od0 an0 : Option Addr} {sl0 : Array (Option Value)} {oc0 kV0 dc0 pm0 cd0 ct0 : Value}
    (a0 : PySem.W.nsIn K mainGlobals "_law_source" = some (some (.ref f0))) (l0 : K.lookup f0 = some ⟨oc0, od0, .func (PySem.W.fnOf "_law_source" "_law_source" (defArgs s_law_source) (defBody s_law_source) (defScope s_law_source) .none kV0 dc0 pm0 an0 cd0 ct0), sl0⟩) (c0 : PySem.W.codeIn K cd0 "_law_source" = true) (k0 : PySem.W.keepIn K (.ref f0) = true)
    {f1 : Addr} {od1 an1 : Option Addr} {sl1 : Array (Option Value)} {oc1 kV1 dc1 pm1 cd1 ct1 : Value}
    (a1 : PySem.W.nsIn K mainGlobals "_law_draw" = some (some (.ref f1))) (l1 : K.lookup f1 = some ⟨oc1, od1, .func (PySem.W.fnOf "_law_draw" "_law_draw" (defArgs s_law_draw) (defBody s_law_draw) (defScope s_law_draw) .none kV1 dc1 pm1 an1 cd1 ct1), sl1⟩) (c1 : PySem.W.codeIn K cd1 "_law_draw" = true) (k1 : PySem.W.keepIn K (.ref f1) = true)
    {f2 : Addr} {od2 an2 : Option Addr} {sl2 : Array (Option Value)} {oc2 kV2 dc2 pm2 cd2 ct2 : Value}
    (a2 : PySem.W.nsIn K mainGlobals "_law_pick" = some (some (.ref f2))) (l2 : K.lookup f2 = some ⟨oc2, od2, .func (PySem.W.fnOf "_law_pick" "_law_pick" (defArgs s_law_pick) (defBody s_law_pick) (defScope s_law_pick) .none kV2 dc2 pm2 an2 cd2 ct2), sl2⟩) (c2 : PySem.W.codeIn K cd2 "_law_pick" = true) (k2 : PySem.W.keepIn K (.ref f2) = true)
    {f3 : Addr} {od3 an3 : Option Addr} {sl3 : Array (Option Value)} {oc3 kV3 dc3 pm3 cd3 ct3 : Value}
    (a3 : PySem.W.nsIn K mainGlobals "_law_cuts" = some (some (.ref f3))) (l3 : K.lookup f3 = some ⟨oc3, od3, .func (PySem.W.fnOf "_law_cuts" "_law_cuts" (defArgs s_law_cuts) (defBody s_law_cuts) (defScope s_law_cuts) .none kV3 dc3 pm3 an3 cd3 ct3), sl3⟩) (c3 : PySem.W.codeIn K cd3 "_law_cuts" = true) (k3 : PySem.W.keepIn K (.ref f3) = true)
    {f4 : Addr} {od4 an4 : Option Addr} {sl4 : Array (Option Value)} {oc4 kV4 dc4 pm4 cd4 ct4 : Value}
    (a4 : PySem.W.nsIn K mainGlobals "is_number" = some (some (.ref f4))) (l4 : K.lookup f4 = some ⟨oc4, od4, .func (PySem.W.fnOf "is_number" "is_number" (defArgs s_is_number) (defBody s_is_number) (defScope s_is_number) .none kV4 dc4 pm4 an4 cd4 ct4), sl4⟩) (c4 : PySem.W.codeIn K cd4 "is_number" = true) (k4 : PySem.W.keepIn K (.ref f4) = true)
    {f5 : Addr} {od5 an5 : Option Addr} {sl5 : Array (Option Value)} {oc5 kV5 dc5 pm5 cd5 ct5 : Value}
    (a5 : PySem.W.nsIn K mainGlobals "is_falling" = some (some (.ref f5))) (l5 : K.lookup f5 = some ⟨oc5, od5, .func (PySem.W.fnOf "is_falling" "is_falling" (defArgs s_is_falling) (defBody s_is_falling) (defScope s_is_falling) .none kV5 dc5 pm5 an5 cd5 ct5), sl5⟩) (c5 : PySem.W.codeIn K cd5 "is_falling" = true) (k5 : PySem.W.keepIn K (.ref f5) = true)
    {f6 : Addr} {od6 an6 : Option Addr} {sl6 : Array (Option Value)} {oc6 kV6 dc6 pm6 cd6 ct6 : Value}
    (a6 : PySem.W.nsIn K mainGlobals "pieces_by" = some (some (.ref f6))) (l6 : K.lookup f6 = some ⟨oc6, od6, .func (PySem.W.fnOf "pieces_by" "pieces_by" (defArgs s_pieces_by) (defBody s_pieces_by) (defScope s_pieces_by) .none kV6 dc6 pm6 an6 cd6 ct6), sl6⟩) (c6 : PySem.W.codeIn K cd6 "pieces_by" = true) (k6 : PySem.W.keepIn K (.ref f6) = true)
    {f7 : Addr} {od7 an7 : Option Addr} {sl7 : Array (Option Value)} {oc7 kV7 dc7 pm7 cd7 ct7 : Value}
    (a7 : PySem.W.findIn K (.ref C0) "__init__" = some (some (.ref f7))) (i7 : PySem.W.isFn K (.ref f7) = true) (l7 : K.lookup f7 = some ⟨oc7, od7, .func (PySem.W.fnOf "__init__" "Chain.__init__" (defArgs s_Chain_init) (defBody s_Chain_init) (defScope s_Chain_init) .none kV7 dc7 pm7 an7 cd7 ct7), sl7⟩) (c7 : PySem.W.codeIn K cd7 "Chain.__init__" = true) (k7 : PySem.W.keepIn K (.ref f7) = true)
    {f8 : Addr} {od8 an8 : Option Addr} {sl8 : Array (Option Value)} {oc8 kV8 dc8 pm8 cd8 ct8 : Value}
    (a8 : PySem.W.findIn K (.ref C0) "__add__" = some (some (.ref f8))) (i8 : PySem.W.isFn K (.ref f8) = true) (l8 : K.lookup f8 = some ⟨oc8, od8, .func (PySem.W.fnOf "__add__" "Chain.__add__" (defArgs s_Chain_add) (defBody s_Chain_add) (defScope s_Chain_add) .none kV8 dc8 pm8 an8 cd8 ct8), sl8⟩) (c8 : PySem.W.codeIn K cd8 "Chain.__add__" = true) (k8 : PySem.W.keepIn K (.ref f8) = true)
    {f9 : Addr} {od9 an9 : Option Addr} {sl9 : Array (Option Value)} {oc9 kV9 dc9 pm9 cd9 ct9 : Value}
    (a9 : PySem.W.findIn K (.ref C0) "__eq__" = some (some (.ref f9))) (i9 : PySem.W.isFn K (.ref f9) = true) (l9 : K.lookup f9 = some ⟨oc9, od9, .func (PySem.W.fnOf "__eq__" "Chain.__eq__" (defArgs s_Chain_eq) (defBody s_Chain_eq) (defScope s_Chain_eq) .none kV9 dc9 pm9 an9 cd9 ct9), sl9⟩) (c9 : PySem.W.codeIn K cd9 "Chain.__eq__" = true) (k9 : PySem.W.keepIn K (.ref f9) = true)
    {f10 : Addr} {od10 an10 : Option Addr} {sl10 : Array (Option Value)} {oc10 kV10 dc10 pm10 cd10 ct10 : Value}
    (a10 : PySem.W.findIn K (.ref C0) "pieces" = some (some (.ref f10))) (i10 : PySem.W.isFn K (.ref f10) = true) (l10 : K.lookup f10 = some ⟨oc10, od10, .func (PySem.W.fnOf "pieces" "Chain.pieces" (defArgs s_Chain_pieces) (defBody s_Chain_pieces) (defScope s_Chain_pieces) .none kV10 dc10 pm10 an10 cd10 ct10), sl10⟩) (c10 : PySem.W.codeIn K cd10 "Chain.pieces" = true) (k10 : PySem.W.keepIn K (.ref f10) = true)
    {f11 : Addr} {od11 an11 : Option Addr} {sl11 : Array (Option Value)} {oc11 kV11 dc11 pm11 cd11 ct11 : Value}
    (a11 : PySem.W.findIn K (.ref C0) "__getitem__" = some (some (.ref f11))) (i11 : PySem.W.isFn K (.ref f11) = true) (j11 : PySem.W.fnIn K f11 = true) (l11 : K.lookup f11 = some ⟨oc11, od11, .func (PySem.W.fnOf "__getitem__" "Chain.__getitem__" (defArgs s_Chain_getitem) (defBody s_Chain_getitem) (defScope s_Chain_getitem) .none kV11 dc11 pm11 an11 cd11 ct11), sl11⟩) (c11 : PySem.W.codeIn K cd11 "Chain.__getitem__" = true) (k11 : PySem.W.keepIn K (.ref f11) = true)
    {f12 : Addr} {od12 an12 : Option Addr} {sl12 : Array (Option Value)} {oc12 kV12 dc12 pm12 cd12 ct12 : Value}
    (a12 : PySem.W.findIn K (.ref C0) "stretch" = some (some (.ref f12))) (i12 : PySem.W.isFn K (.ref f12) = true) (l12 : K.lookup f12 = some ⟨oc12, od12, .func (PySem.W.fnOf "stretch" "Chain.stretch" (defArgs s_Chain_stretch) (defBody s_Chain_stretch) (defScope s_Chain_stretch) .none kV12 dc12 pm12 an12 cd12 ct12), sl12⟩) (c12 : PySem.W.codeIn K cd12 "Chain.stretch" = true) (k12 : PySem.W.keepIn K (.ref f12) = true)
    {f13 : Addr} {od13 an13 : Option Addr} {sl13 : Array (Option Value)} {oc13 kV13 dc13 pm13 cd13 ct13 : Value}
    (a13 : PySem.W.findIn K (.ref C0) "parted" = some (some (.ref f13))) (i13 : PySem.W.isFn K (.ref f13) = true) (l13 : K.lookup f13 = some ⟨oc13, od13, .func (PySem.W.fnOf "parted" "Chain.parted" (defArgs s_Chain_parted) (defBody s_Chain_parted) (defScope s_Chain_parted) .none kV13 dc13 pm13 an13 cd13 ct13), sl13⟩) (c13 : PySem.W.codeIn K cd13 "Chain.parted" = true) (k13 : PySem.W.keepIn K (.ref f13) = true)
    {f14 : Addr} {od14 an14 : Option Addr} {sl14 : Array (Option Value)} {oc14 kV14 dc14 pm14 cd14 ct14 : Value}
    (a14 : PySem.W.nsIn K mainGlobals "_law_cut_up" = some (some (.ref f14))) (l14 : K.lookup f14 = some ⟨oc14, od14, .func (PySem.W.fnOf "_law_cut_up" "_law_cut_up" (defArgs s_law_cut_up) (defBody s_law_cut_up) (defScope s_law_cut_up) .none kV14 dc14 pm14 an14 cd14 ct14), sl14⟩) (c14 : PySem.W.codeIn K cd14 "_law_cut_up" = true) (k14 : PySem.W.keepIn K (.ref f14) = true)
    {f15 : Addr} {od15 an15 : Option Addr} {sl15 : Array (Option Value)} {oc15 kV15 dc15 pm15 cd15 ct15 : Value}
    (a15 : PySem.W.nsIn K mainGlobals "_law_parted" = some (some (.ref f15))) (l15 : K.lookup f15 = some ⟨oc15, od15, .func (PySem.W.fnOf "_law_parted" "_law_parted" (defArgs s_law_parted) (defBody s_law_parted) (defScope s_law_parted) .none kV15 dc15 pm15 an15 cd15 ct15), sl15⟩) (c15 : PySem.W.codeIn K cd15 "_law_parted" = true) (k15 : PySem.W.keepIn K (.ref f15) = true)
    {f16 : Addr} {od16 an16 : Option Addr} {sl16 : Array (Option Value)} {oc16 kV16 dc16 pm16 cd16 ct16 : Value}
    (a16 : PySem.W.nsIn K mainGlobals "law" = some (some (.ref f16))) (l16 : K.lookup f16 = some ⟨oc16, od16, .func (PySem.W.fnOf "law" "law" (defArgs s_law) (defBody s_law) (defScope s_law) .none kV16 dc16 pm16 an16 cd16 ct16), sl16⟩) (c16 : PySem.W.codeIn K cd16 "law" = true) (k16 : PySem.W.keepIn K (.ref f16) = true)
    (u0 : PySem.W.selfFirst K C0 = true)
    (y0 : PySem.W.findIn K (.ref C0) "cuts" = some none)
    (y1 : PySem.W.findIn K (.ref C0) "counts" = some none)
    {t0 : Nat} (x0 : PySem.W.nsIn K mainGlobals "GREATEST_ROAD" = some (some (.int 1000 t0)))
    (z0 : PySem.W.nsIn K mainGlobals "all" = some none)
    (z1 : PySem.W.nsIn K mainGlobals "bool" = some none)
    (z2 : PySem.W.nsIn K mainGlobals "enumerate" = some none)
    (z3 : PySem.W.nsIn K mainGlobals "int" = some none)
    (z4 : PySem.W.nsIn K mainGlobals "isinstance" = some none)
    (z5 : PySem.W.nsIn K mainGlobals "len" = some none)
    (z6 : PySem.W.nsIn K mainGlobals "list" = some none)
    (z7 : PySem.W.nsIn K mainGlobals "max" = some none)
    (z8 : PySem.W.nsIn K mainGlobals "min" = some none)
    (z9 : PySem.W.nsIn K mainGlobals "range" = some none)
    (z10 : PySem.W.nsIn K mainGlobals "set" = some none)
    (z11 : PySem.W.nsIn K mainGlobals "sorted" = some none)
    (z12 : PySem.W.nsIn K mainGlobals "sum" = some none)
    (z13 : PySem.W.nsIn K mainGlobals "tuple" = some none) :
    ∃ fd : FuncData, (∀ (s : Shared) (v : Value), BindsTo s fd ⟨[v], []⟩ [("script", v)]) ∧ ∀ base : Heap, K.In base → base.Ns mainGlobals mg → DVG.FnG false l.prog w K mg base CX0 9 fa fd ["script"] (spT K 63) := by
  have e := hfa.symm.trans (PySem.W.mg_of X G a16)
  cases e
  have F0 := fun_mk (st := s_law_source) l0 c0 k0
  have F1 := fun_mk (st := s_law_draw) l1 c1 k1
  have F2 := fun_mk (st := s_law_pick) l2 c2 k2
  have F3 := fun_mk (st := s_law_cuts) l3 c3 k3
  have F4 := fun_mk (st := s_is_number) l4 c4 k4
  have F5 := fun_mk (st := s_is_falling) l5 c5 k5
  have F6 := fun_mk (st := s_pieces_by) l6 c6 k6
  have F7 := fun_mk (st := s_Chain_init) l7 c7 k7
  have F8 := fun_mk (st := s_Chain_add) l8 c8 k8
  have F9 := fun_mk (st := s_Chain_eq) l9 c9 k9
  have F10 := fun_mk (st := s_Chain_pieces) l10 c10 k10
  have F11 := fun_mk (st := s_Chain_getitem) l11 c11 k11
  have F12 := fun_mk (st := s_Chain_stretch) l12 c12 k12
  have F13 := fun_mk (st := s_Chain_parted) l13 c13 k13
  have F14 := fun_mk (st := s_law_cut_up) l14 c14 k14
  have F15 := fun_mk (st := s_law_parted) l15 c15 k15
  have F16 := fun_mk (st := s_law) l16 c16 k16
  have T : Txt K mg ⟨f0, _, f1, _, f2, _, f3, _, f4, _, f5, _, f6, _, f7, _, f8, _, f9, _, f10, _, f11, _, f12, _, f13, _, f14, _, f15, _, fa, _, .int 1000 t0, ⟨C0⟩⟩ := {
    f_law_source := F0,
    n_law_source := F0.binds (fun _ _ _ _ _ _ us hl => match us, hl with | [_, _], _ => rfl),
    g_law_source := PySem.W.mg_of X G a0,
    f_law_draw := F1,
    n_law_draw := F1.binds (fun _ _ _ _ _ _ us hl => match us, hl with | [_, _], _ => rfl),
    g_law_draw := PySem.W.mg_of X G a1,
    f_law_pick := F2,
    n_law_pick := F2.binds (fun _ _ _ _ _ _ us hl => match us, hl with | [_, _], _ => rfl),
    g_law_pick := PySem.W.mg_of X G a2,
    f_law_cuts := F3,
    n_law_cuts := F3.binds (fun _ _ _ _ _ _ us hl => match us, hl with | [_, _, _], _ => rfl),
    g_law_cuts := PySem.W.mg_of X G a3,
    f_is_number := F4,
    n_is_number := F4.binds (fun _ _ _ _ _ _ us hl => match us, hl with | [_, _, _], _ => rfl),
    g_is_number := PySem.W.mg_of X G a4,
    f_is_falling := F5,
    n_is_falling := F5.binds (fun _ _ _ _ _ _ us hl => match us, hl with | [_], _ => rfl),
    g_is_falling := PySem.W.mg_of X G a5,
    f_pieces_by := F6,
    n_pieces_by := F6.binds (fun _ _ _ _ _ _ us hl => match us, hl with | [_, _, _], _ => rfl),
    g_pieces_by := PySem.W.mg_of X G a6,
    f_Chain_init := F7,
    n_Chain_init := F7.binds (fun _ _ _ _ _ _ us hl => match us, hl with | [_, _], _ => rfl),
    f_Chain_add := F8,
    n_Chain_add := F8.binds (fun _ _ _ _ _ _ us hl => match us, hl with | [_, _], _ => rfl),
    s_Chain_add := a8,
    i_Chain_add := i8,
    f_Chain_eq := F9,
    n_Chain_eq := F9.binds (fun _ _ _ _ _ _ us hl => match us, hl with | [_, _], _ => rfl),
    s_Chain_eq := a9,
    i_Chain_eq := i9,
    f_Chain_pieces := F10,
    n_Chain_pieces := F10.binds (fun _ _ _ _ _ _ us hl => match us, hl with | [_, _], _ => rfl),
    m_Chain_pieces := ⟨a10, i10, k10⟩,
    f_Chain_getitem := F11,
    n_Chain_getitem := F11.binds (fun _ _ _ _ _ _ us hl => match us, hl with | [_, _], _ => rfl),
    s_Chain_getitem := a11,
    i_Chain_getitem := i11,
    j_Chain_getitem := j11,
    f_Chain_stretch := F12,
    n_Chain_stretch := F12.binds (fun _ _ _ _ _ _ us hl => match us, hl with | [_, _, _], _ => rfl),
    m_Chain_stretch := ⟨a12, i12, k12⟩,
    f_Chain_parted := F13,
    n_Chain_parted := F13.binds (fun _ _ _ _ _ _ us hl => match us, hl with | [_, _], _ => rfl),
    m_Chain_parted := ⟨a13, i13, k13⟩,
    f_law_cut_up := F14,
    n_law_cut_up := F14.binds (fun _ _ _ _ _ _ us hl => match us, hl with | [_, _], _ => rfl),
    g_law_cut_up := PySem.W.mg_of X G a14,
    f_law_parted := F15,
    n_law_parted := F15.binds (fun _ _ _ _ _ _ us hl => match us, hl with | [_, _], _ => rfl),
    g_law_parted := PySem.W.mg_of X G a15,
    f_law := F16,
    n_law := F16.binds (fun _ _ _ _ _ _ us hl => match us, hl with | [_], _ => rfl),
    g_law := PySem.W.mg_of X G a16,
    o_Chain := ⟨⟨q0a, q0b, q0c, q0d⟩, q0g, q0h, q0i, q0j, DVG.kit_self⟩,
    g_Chain := PySem.W.mg_of X G q0,
    k_Chain := ⟨q0e, a7, i7, q0f⟩,
    sf_Chain := u0,
    na_Chain_cuts := y0,
    na_Chain_counts := y1,
    c_GREATEST_ROAD := PySem.W.mg_of X G x0,
    r_GREATEST_ROAD := ⟨t0, rfl⟩,
    b_all := PySem.W.mg_none_of X G z0,
    b_bool := PySem.W.mg_none_of X G z1,
    b_enumerate := PySem.W.mg_none_of X G z2,
    b_int := PySem.W.mg_none_of X G z3,
    b_isinstance := PySem.W.mg_none_of X G z4,
    b_len := PySem.W.mg_none_of X G z5,
    b_list := PySem.W.mg_none_of X G z6,
    b_max := PySem.W.mg_none_of X G z7,
    b_min := PySem.W.mg_none_of X G z8,
    b_range := PySem.W.mg_none_of X G z9,
    b_set := PySem.W.mg_none_of X G z10,
    b_sorted := PySem.W.mg_none_of X G z11,
    b_sum := PySem.W.mg_none_of X G z12,
    b_tuple := PySem.W.mg_none_of X G z13 }
  exact ⟨_, fun s v => .of_eq rfl, fun base _ _ => toTrue (ht ⟨C0⟩) (ok_law T)⟩
end PL

open PySem PySem.W PyProof.Rows in
set_option maxRecDepth 100000 in
set_option maxHeartbeats 0 in
theorem PySem.Challenge.cw_roadsizes_k07_sums_of_chains_holds : PySem.Challenge.rw_roadsizes_k07_sums_of_chains.Holds := by
  w_on; o_law; k_head; (case hw => w_witness2)
  k_fill
  refine DV.walkT (l := PySem.Challenge.rw_roadsizes_k07_sums_of_chains) (n := 63) (k := 9) (x := "script") rfl (by decide) rfl (DVG.rm_caller (bb := false) ⟨rfl, by decide, by decide⟩) (fun w h Y => PySem.W.kIn_of Y) ?F
  case F =>
    intro w mg fa h KX G hmg
    refine' PL.all_mk PL.law_true KX G hmg ?q0 ?q0a ?q0b ?q0c ?q0d ?q0e ?q0f ?q0g ?q0h ?q0i ?q0j ?a0 ?l0 ?c0 ?k0 ?a1 ?l1 ?c1 ?k1 ?a2 ?l2 ?c2 ?k2 ?a3 ?l3 ?c3 ?k3 ?a4 ?l4 ?c4 ?k4 ?a5 ?l5 ?c5 ?k5 ?a6 ?l6 ?c6 ?k6 ?a7 ?i7 ?l7 ?c7 ?k7 ?a8 ?i8 ?l8 ?c8 ?k8 ?a9 ?i9 ?l9 ?c9 ?k9 ?a10 ?i10 ?l10 ?c10 ?k10 ?a11 ?i11 ?j11 ?l11 ?c11 ?k11 ?a12 ?i12 ?l12 ?c12 ?k12 ?a13 ?i13 ?l13 ?c13 ?k13 ?a14 ?l14 ?c14 ?k14 ?a15 ?l15 ?c15 ?k15 ?a16 ?l16 ?c16 ?k16 ?u0 ?y0 ?y1 ?x0 ?z0 ?z1 ?z2 ?z3 ?z4 ?z5 ?z6 ?z7 ?z8 ?z9 ?z10 ?z11 ?z12 ?z13
    (case q0 => k_is)
    (case q0a => k_is)
    (case q0b => k_is)
    (case q0c => k_is)
    (case q0d => k_is)
    (case q0e => k_is)
    (case q0f => k_is)
    (case q0g => k_is)
    (case q0h => k_is)
    (case q0i => k_is)
    (case q0j => k_is)
    (case a0 => k_is)
    (case l0 => k_is)
    (case c0 => k_is)
    (case k0 => k_is)
    (case a1 => k_is)
    (case l1 => k_is)
    (case c1 => k_is)
    (case k1 => k_is)
    (case a2 => k_is)
    (case l2 => k_is)
    (case c2 => k_is)
    (case k2 => k_is)
    (case a3 => k_is)
    (case l3 => k_is)
    (case c3 => k_is)
    (case k3 => k_is)
    (case a4 => k_is)
    (case l4 => k_is)
    (case c4 => k_is)
    (case k4 => k_is)
    (case a5 => k_is)
    (case l5 => k_is)
    (case c5 => k_is)
    (case k5 => k_is)
    (case a6 => k_is)
    (case l6 => k_is)
    (case c6 => k_is)
    (case k6 => k_is)
    (case a7 => k_is)
    (case i7 => k_is)
    (case l7 => k_is)
    (case c7 => k_is)
    (case k7 => k_is)
    (case a8 => k_is)
    (case i8 => k_is)
    (case l8 => k_is)
    (case c8 => k_is)
    (case k8 => k_is)
    (case a9 => k_is)
    (case i9 => k_is)
    (case l9 => k_is)
    (case c9 => k_is)
    (case k9 => k_is)
    (case a10 => k_is)
    (case i10 => k_is)
    (case l10 => k_is)
    (case c10 => k_is)
    (case k10 => k_is)
    (case a11 => k_is)
    (case i11 => k_is)
    (case j11 => k_is)
    (case l11 => k_is)
    (case c11 => k_is)
    (case k11 => k_is)
    (case a12 => k_is)
    (case i12 => k_is)
    (case l12 => k_is)
    (case c12 => k_is)
    (case k12 => k_is)
    (case a13 => k_is)
    (case i13 => k_is)
    (case l13 => k_is)
    (case c13 => k_is)
    (case k13 => k_is)
    (case a14 => k_is)
    (case l14 => k_is)
    (case c14 => k_is)
    (case k14 => k_is)
    (case a15 => k_is)
    (case l15 => k_is)
    (case c15 => k_is)
    (case k15 => k_is)
    (case a16 => k_is)
    (case l16 => k_is)
    (case c16 => k_is)
    (case k16 => k_is)
    (case u0 => k_is)
    (case y0 => k_is)
    (case y1 => k_is)
    (case x0 => k_is)
    (case z0 => k_is)
    (case z1 => k_is)
    (case z2 => k_is)
    (case z3 => k_is)
    (case z4 => k_is)
    (case z5 => k_is)
    (case z6 => k_is)
    (case z7 => k_is)
    (case z8 => k_is)
    (case z9 => k_is)
    (case z10 => k_is)
    (case z11 => k_is)
    (case z12 => k_is)
    (case z13 => k_is)
