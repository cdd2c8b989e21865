import PyProof.Rows.All
import Wide.All
import OpenK.AllK
import Wide.FinOn
import HandS.ForMost
import HandS.ExcInit
import HandS.EndBits
import HandS.Defaults
import PyProof.ReprReads
import HandS.TupAny
import HandS.TupMul
import HandS.Wide
import HandS.SortInts
import HandS.IsInst
import HandS.Style
import HandS.SetFor
import HandS.Strs
import KE.GoesEnum
import HandS.MakeKwOnly
import HandS.More
import HandS.Zip
import HandS.Conv
import KE.DataMinMax
import HandS.GenList
import PyProof.GenComp
import HandS.NoneIn
import HandS.Deep
import HandS.OwnEq
import HandS.DictEq
import HandS.ExcIs
import HandS.MakeKw
import HandS.ExcField
import KE.KExcIs
import HandS.Exc
import HandS.ExcOwn
import HandS.WordsExc
import HandS.Dict
import HandS.Iter
import PyProof.NeKinds
import HandS.FStr
import HandS.RaiseMore
import PyProof.ReprRoads
import PyProof.EqKinds
import KE.KDictDisplayH
import PySem.Challenge.RW_roadsizes_k91_errors_by_hand
set_option Elab.async false
set_option linter.all false
set_option maxRecDepth 100000
set_option maxHeartbeats 2000000
/-! DV1: data (D) for values of the layer; a region R of lists and instances that stand still; slots that own a list; what a reading gives as a function on data. -/
namespace DV
open PySem L2

/-- data -/
inductive D where
  | non | bl (b : Bool) | int (i : Int) | str (x : Str) | con (v : V)
  | lst (xs : List D) | ro (xs : List D) | tup (xs : List D)
  | ins (C : Addr) (ks : List Str) (ds : List D)
  | dic (ks : List Key) (ds : List D)
  | dit (ks : List (List Key)) (ds : List D)
  | cel (k : Nat)
  | exc (C : Addr) (f : Str) (d : D)

/-- what stands still, and where the cells lie -/
structure Reg where
  P : Addr → Prop
  g : List Addr
instance : CoeFun Reg (fun _ => Addr → Prop) := ⟨Reg.P⟩
structure SubR (R R' : Reg) : Prop where
  r : ∀ a, R a → R' a
  g : ∀ (k : Nat) (a : Addr), R.g[k]? = some a → R'.g[k]? = some a
instance {R R' : Reg} : CoeFun (SubR R R') (fun _ => ∀ a, R a → R' a) := ⟨SubR.r⟩
theorem SubR.refl {R : Reg} : SubR R R := ⟨fun _ h => h, fun _ _ h => h⟩
theorem SubR.trans {R R1 R' : Reg} (a : SubR R R1) (b : SubR R1 R') : SubR R R' := ⟨fun x h => b.r x (a.r x h), fun k x h => b.g k x (a.g k x h)⟩
/-- a list that nobody may change -/
def SqR (K : PySem.W.Frag) (H : Hp) (a : Addr) (xs : List V) : Prop := (∃ o, H a = some (.frz o (.lst xs))) ∨ SqL K (fun _ => none) a xs
theorem SqR.l {K : PySem.W.Frag} {H : Hp} {a : Addr} {xs : List V} (h : SqR K H a xs) : SqL K H a xs := by
  rcases h with ⟨o, h⟩ | (h | ⟨o, h⟩) | h
  · exact .inl (.inr ⟨o, h⟩)
  · cases h
  · cases h
  · exact .inr h
theorem SqR.of {K : PySem.W.Frag} {H : Hp} {a : Addr} {xs : List V} (ho : Only H) (h : SqL K H a xs) : SqR K H a xs := by
  rcases h with (h | ⟨o, h⟩) | h
  · rcases ho a with z | ⟨o, xs', z⟩
    · rw [h] at z; cases z
    · rw [h] at z; cases z
  · exact .inl ⟨o, h⟩
  · exact .inr (.inr h)

def strV : List V → Bool
  | .str _ :: _ => true
  | _ => false
/-- a tuple made by the run; one of the module's only if it begins with a text -/
def TupR (K : PySem.W.Frag) (H : Hp) (a : Addr) (vs : List V) : Prop := H a = some (.tup vs) ∨ (strV vs = true ∧ SqT K H a vs)
theorem TupR.t {K : PySem.W.Frag} {H : Hp} {a : Addr} {vs : List V} (h : TupR K H a vs) : SqT K H a vs := h.elim .of (·.2)
mutual
def RepV (K : PySem.W.Frag) (R : Reg) (H : Hp) : D → V → Prop
  | .non, v => v = .non
  | .bl b, v => v = .bl b
  | .int i, v => v = .int i
  | .str x, v => v = .str x
  | .con u, v => v = u
  | .lst ds, v => ∃ a vs, v = .ref a ∧ R a ∧ H a = some (.lst vs) ∧ RepVs K R H ds vs
  | .ro ds, v => ∃ a vs, v = .ref a ∧ SqR K H a vs ∧ RepVs K R H ds vs
  | .tup ds, v => ∃ a vs, v = .ref a ∧ TupR K H a vs ∧ RepVs K R H ds vs
  | .ins C ks ds, v => ∃ a dx vs, v = .ref a ∧ R a ∧ H a = some (.ins C dx (ks.zip vs)) ∧ ks.length = ds.length ∧ RepVs K R H ds vs
  | .dic ks ds, v => ∃ a vs, v = .ref a ∧ R a ∧ Rd H a (.dK (ks.zip vs)) ∧ ks.length = ds.length ∧ RepVs K R H ds vs
  | .dit ks ds, v => ∃ a vs, v = .ref a ∧ R a ∧ Rd H a (.dT (ks.zip vs)) ∧ ks.length = ds.length ∧ RepVs K R H ds vs
  | .cel k, v => ∃ a, v = .ref a ∧ R.g[k]? = some a
  | .exc C f d, v => ∃ a dx u, v = .ref a ∧ R a ∧ R dx ∧ H a = some (exo a C (some dx)) ∧ H dx = some (exd dx [(f, u)]) ∧ RepV K R H d u
def RepVs (K : PySem.W.Frag) (R : Reg) (H : Hp) : List D → List V → Prop
  | [], vs => vs = []
  | d :: ds, vs => ∃ v r, vs = v :: r ∧ RepV K R H d v ∧ RepVs K R H ds r
end

/-- a mutable object's contents at an address -/
def RepTop (K : PySem.W.Frag) (R : Reg) (H : Hp) : D → Addr → Prop
  | .lst ds, a => ∃ vs, H a = some (.lst vs) ∧ RepVs K R H ds vs
  | .ins C ks ds, a => ∃ dx vs, H a = some (.ins C dx (ks.zip vs)) ∧ ks.length = ds.length ∧ RepVs K R H ds vs
  | .dic ks ds, a => ∃ vs, H a = some (.dK (ks.zip vs)) ∧ ks.length = ds.length ∧ RepVs K R H ds vs
  | .dit ks ds, a => ∃ vs, H a = some (.dT (ks.zip vs)) ∧ ks.length = ds.length ∧ RepVs K R H ds vs
  | _, _ => False

section
variable {K : PySem.W.Frag} {R R' : Reg} {H H' : Hp}
theorem RepVs.length : ∀ {ds : List D} {vs : List V}, RepVs K R H ds vs → ds.length = vs.length
  | [], vs, h => by rw [show vs = [] from h]; rfl
  | d :: ds, vs, h => by
    obtain ⟨v, r, rfl, _, h⟩ := h
    rw [List.length_cons, List.length_cons, RepVs.length h]
theorem RepVs.get : ∀ {ds : List D} {vs : List V} {i : Nat} {d : D}, RepVs K R H ds vs → ds[i]? = some d → ∃ v, vs[i]? = some v ∧ RepV K R H d v
  | [], _, i, d, _, e => by simp at e
  | d :: ds, vs, 0, d', h, e => by
    obtain ⟨v, r, rfl, h1, h2⟩ := h
    simp at e; subst e
    exact ⟨v, rfl, h1⟩
  | d :: ds, vs, i + 1, d', h, e => by
    obtain ⟨v, r, rfl, h1, h2⟩ := h
    obtain ⟨v', e', h'⟩ := RepVs.get (i := i) h2 (by simpa using e)
    exact ⟨v', by simpa using e', h'⟩
theorem RepVs.append : ∀ {ds es : List D} {vs us : List V}, RepVs K R H ds vs → RepVs K R H es us → RepVs K R H (ds ++ es) (vs ++ us)
  | [], _, vs, _, h, g => by rw [show vs = [] from h]; exact g
  | d :: ds, es, vs, us, h, g => by
    obtain ⟨v, r, rfl, h1, h2⟩ := h
    exact ⟨v, r ++ us, rfl, h1, h2.append g⟩
theorem RepVs.take : ∀ {ds : List D} {vs : List V} (n : Nat), RepVs K R H ds vs → RepVs K R H (ds.take n) (vs.take n)
  | [], vs, n, h => by rw [show vs = [] from h]; simp [RepVs]
  | d :: ds, vs, 0, h => by simp [RepVs]
  | d :: ds, vs, n + 1, h => by
    obtain ⟨v, r, rfl, h1, h2⟩ := h
    exact ⟨v, r.take n, rfl, h1, h2.take n⟩
theorem RepVs.drop : ∀ {ds : List D} {vs : List V} (n : Nat), RepVs K R H ds vs → RepVs K R H (ds.drop n) (vs.drop n)
  | [], vs, n, h => by rw [show vs = [] from h]; simp [RepVs]
  | d :: ds, vs, 0, h => h
  | d :: ds, vs, n + 1, h => by
    obtain ⟨v, r, rfl, h1, h2⟩ := h
    exact h2.drop n
theorem RepVs.set : ∀ {ds : List D} {vs : List V} {d : D} {v : V} (n : Nat), RepVs K R H ds vs → RepV K R H d v → RepVs K R H (ds.set n d) (vs.set n v)
  | [], vs, _, _, n, h, _ => by rw [show vs = [] from h]; simp [RepVs]
  | d :: ds, vs, _, _, 0, h, g => by
    obtain ⟨v, r, rfl, h1, h2⟩ := h
    exact ⟨_, r, rfl, g, h2⟩
  | d :: ds, vs, _, _, n + 1, h, g => by
    obtain ⟨v, r, rfl, h1, h2⟩ := h
    exact ⟨v, _, rfl, h1, h2.set n g⟩
theorem RepVs.one {d : D} {v : V} (h : RepV K R H d v) : RepVs K R H [d] [v] := ⟨v, [], rfl, h, rfl⟩
theorem RepVs.rep {d : D} {v : V} (h : RepV K R H d v) : ∀ n, RepVs K R H (List.replicate n d) (List.replicate n v)
  | 0 => rfl
  | n + 1 => ⟨v, _, rfl, h, RepVs.rep h n⟩
theorem RepVs.ints : ∀ ns : List Int, RepVs K R H (ns.map D.int) (ns.map V.int)
  | [] => rfl
  | n :: r => ⟨_, _, rfl, rfl, RepVs.ints r⟩

/-- what is known of the region stays -/
structure Keep (R : Reg) (H : Hp) (R' : Reg) (H' : Hp) : Prop where
  sub : SubR R R'
  old : ∀ a o, R a → H a = some o → H' a = some o
  tups : ∀ a xs, H a = some (.tup xs) → H' a = some (.tup xs)
  frzs : ∀ a o u, H a = some (.frz o u) → H' a = some (.frz o u)
theorem Keep.refl : Keep R H R H := ⟨SubR.refl, fun _ _ _ h => h, fun _ _ h => h, fun _ _ _ h => h⟩
theorem Keep.trans {R1 : Reg} {H1 : Hp} (a : Keep R H R1 H1) (b : Keep R1 H1 R' H') : Keep R H R' H' :=
  ⟨a.sub.trans b.sub, fun x o r h => b.old x o (a.sub x r) (a.old x o r h), fun x xs h => b.tups x xs (a.tups x xs h), fun x o u h => b.frzs x o u (a.frzs x o u h)⟩
theorem Keep.seqR (k : Keep R H R' H') {a : Addr} {vs : List V} (h : SqR K H a vs) : SqR K H' a vs := h.imp (fun ⟨o, h⟩ => ⟨o, k.frzs _ _ _ h⟩) id
theorem Keep.seqL (k : Keep R H R' H') {a : Addr} {vs : List V} (r : R a) (h : SqL K H a vs) : SqL K H' a vs := by
  rcases h with (h | ⟨o, h⟩) | h
  · exact .inl (.inl (k.old _ _ r h))
  · exact .inl (.inr ⟨o, k.old _ _ r h⟩)
  · exact .inr h
theorem Keep.rd (k : Keep R H R' H') {a : Addr} {u : HO} (r : R a) (h : Rd H a u) : Rd H' a u := h.imp (k.old _ _ r) fun ⟨o, h⟩ => ⟨o, k.frzs _ _ _ h⟩
theorem Keep.seqT (k : Keep R H R' H') {a : Addr} {vs : List V} (h : SqT K H a vs) : SqT K H' a vs := by
  rcases h with (h | ⟨o, h⟩) | h
  · exact .inl (.inl (k.tups _ _ h))
  · exact .inl (.inr ⟨o, k.frzs _ _ _ h⟩)
  · exact .inr h
mutual
theorem RepV.keep (k : Keep R H R' H') : ∀ {d : D} {v : V}, RepV K R H d v → RepV K R' H' d v
  | .non, _, h => h
  | .bl _, _, h => h
  | .int _, _, h => h
  | .str _, _, h => h
  | .con _, _, h => h
  | .lst ds, _, ⟨a, vs, e, r, h, g⟩ => ⟨a, vs, e, k.sub _ r, k.old _ _ r h, RepVs.keep k g⟩
  | .ro ds, _, ⟨a, vs, e, h, g⟩ => ⟨a, vs, e, k.seqR h, RepVs.keep k g⟩
  | .tup ds, _, ⟨a, vs, e, h, g⟩ => ⟨a, vs, e, h.imp (k.tups _ _) (fun z => ⟨z.1, k.seqT z.2⟩), RepVs.keep k g⟩
  | .ins C ks ds, _, ⟨a, dx, vs, e, r, h, l, g⟩ => ⟨a, dx, vs, e, k.sub _ r, k.old _ _ r h, l, RepVs.keep k g⟩
  | .dic ks ds, _, ⟨a, vs, e, r, h, l, g⟩ => ⟨a, vs, e, k.sub _ r, k.rd r h, l, RepVs.keep k g⟩
  | .dit ks ds, _, ⟨a, vs, e, r, h, l, g⟩ => ⟨a, vs, e, k.sub _ r, k.rd r h, l, RepVs.keep k g⟩
  | .cel _, _, ⟨a, e, h⟩ => ⟨a, e, k.sub.g _ _ h⟩
  | .exc C f d, _, ⟨a, dx, u, e, r, r2, h, h2, g⟩ => ⟨a, dx, u, e, k.sub _ r, k.sub _ r2, k.old _ _ r h, k.old _ _ r2 h2, RepV.keep k g⟩
theorem RepVs.keep (k : Keep R H R' H') : ∀ {ds : List D} {vs : List V}, RepVs K R H ds vs → RepVs K R' H' ds vs
  | [], _, h => h
  | d :: ds, _, ⟨v, r, e, h, g⟩ => ⟨v, r, e, RepV.keep k h, RepVs.keep k g⟩
end
theorem RepTop.keep (k : Keep R H R' H') {d : D} {a : Addr} (h : RepTop K R H d a) (e : H' a = H a) : RepTop K R' H' d a := by
  cases d with
  | lst ds => obtain ⟨vs, h1, h2⟩ := h; exact ⟨vs, e.trans h1, h2.keep k⟩
  | ins C ks ds => obtain ⟨dx, vs, h1, l, h2⟩ := h; exact ⟨dx, vs, e.trans h1, l, h2.keep k⟩
  | dic ks ds => obtain ⟨vs, h1, l, h2⟩ := h; exact ⟨vs, e.trans h1, l, h2.keep k⟩
  | dit ks ds => obtain ⟨vs, h1, l, h2⟩ := h; exact ⟨vs, e.trans h1, l, h2.keep k⟩
  | _ => exact h.elim
/-- what stands there is neither a tuple nor frozen -/
theorem RepTop.at {d : D} {a : Addr} (h : RepTop K R H d a) : ∃ o, H a = some o ∧ (∀ xs, o ≠ .tup xs) ∧ ∀ ob u, o ≠ .frz ob u := by
  cases d with
  | lst ds => obtain ⟨vs, h1, h2⟩ := h; exact ⟨_, h1, (fun _ q => by cases q), (fun _ _ q => by cases q)⟩
  | ins C ks ds => obtain ⟨dx, vs, h1, l, h2⟩ := h; exact ⟨_, h1, (fun _ q => by cases q), (fun _ _ q => by cases q)⟩
  | dic ks ds => obtain ⟨vs, h1, l, h2⟩ := h; exact ⟨_, h1, (fun _ q => by cases q), (fun _ _ q => by cases q)⟩
  | dit ks ds => obtain ⟨vs, h1, l, h2⟩ := h; exact ⟨_, h1, (fun _ q => by cases q), (fun _ _ q => by cases q)⟩
  | _ => exact h.elim
theorem RepTop.val {d : D} {a : Addr} (h : RepTop K R H d a) (r : R a) : RepV K R H d (.ref a) := by
  cases d with
  | lst ds => obtain ⟨vs, h1, h2⟩ := h; exact ⟨a, vs, rfl, r, h1, h2⟩
  | ins C ks ds => obtain ⟨dx, vs, h1, l, h2⟩ := h; exact ⟨a, dx, vs, rfl, r, h1, l, h2⟩
  | dic ks ds => obtain ⟨vs, h1, l, h2⟩ := h; exact ⟨a, vs, rfl, r, .inl h1, l, h2⟩
  | dit ks ds => obtain ⟨vs, h1, l, h2⟩ := h; exact ⟨a, vs, rfl, r, .inl h1, l, h2⟩
  | _ => exact h.elim
end

/-! ### slots -/
inductive Sl where
  | un | val (d : D) | own (d : D) | brw (d : D) | sto (ds : List D)
def Sl.own? : Sl → Bool
  | .own _ => true
  | .brw _ => true
  | .sto _ => true
  | _ => false
def Sl.gh : Sl → Bool
  | .sto _ => true
  | _ => false
abbrev Env := List Sl
/-- the cells and what they hold -/
structure StoOk (K : PySem.W.Frag) (R : Reg) (H : Hp) (ds : List D) : Prop where
  len : ds.length = R.g.length
  nd : R.g.Nodup
  nr : ∀ a ∈ R.g, ¬ R a
  top : ∀ (k : Nat) (d : D) (a : Addr), ds[k]? = some d → R.g[k]? = some a → RepTop K R H d a
def SlRep (K : PySem.W.Frag) (R : Reg) (H : Hp) : Sl → Option V → Prop
  | .un, _ => True
  | .sto ds, ov => ov = none ∧ StoOk K R H ds
  | .val d, some v => RepV K R H d v
  | .own d, some v => ∃ a, v = .ref a ∧ ¬ R a ∧ RepTop K R H d a
  | .brw d, some v => ∃ a, v = .ref a ∧ ¬ R a ∧ RepTop K R H d a
  | _, none => False
def SlotA (δ : Env) (σ : L2.St) (a : Addr) : Prop := ∃ (i : Nat) (s : Sl), δ[i]? = some s ∧ s.own? = true ∧ σ[i]? = some (some (V.ref a))
def CelA (R : Reg) (δ : Env) (a : Addr) : Prop := a ∈ R.g ∧ ∃ (i : Nat) (ds : List D), δ[i]? = some (.sto ds)
def OwnA (R : Reg) (δ : Env) (σ : L2.St) (a : Addr) : Prop := SlotA δ σ a ∨ CelA R δ a
/-- the entry of a def: its heap, the addresses that it may change, the region, the slots, whether it has the cells -/
structure Fx where
  H0 : Hp
  A0 : Addr → Prop
  R0 : Reg
  s0 : L2.St
  tr : Bool
structure Wd (K : PySem.W.Frag) (F : Fx) (R : Reg) (H : Hp) (δ : Env) (σ : L2.St) : Prop where
  rep : ∀ (i : Nat) (s : Sl), δ[i]? = some s → ∃ ov, σ[i]? = some ov ∧ SlRep K R H s ov
  len : δ.length = σ.length
  dis : ∀ (i j : Nat) (s t : Sl) (a : Addr), δ[i]? = some s → δ[j]? = some t → s.own? = true → t.own? = true → σ[i]? = some (some (.ref a)) → σ[j]? = some (some (.ref a)) → i = j
  disC : ∀ a, CelA R δ a → ¬ SlotA δ σ a
  loc : ∀ (i : Nat) (d : D) (a : Addr), δ[i]? = some (.own d) → σ[i]? = some (some (V.ref a)) → F.H0 a = none
  locB : ∀ (i : Nat) (d : D) (a : Addr), δ[i]? = some (.brw d) → σ[i]? = some (some (V.ref a)) → F.A0 a
  locC : ∀ a, CelA R δ a → F.A0 a ∨ F.H0 a = none
  one : ∀ (i j : Nat) (ds es : List D), δ[i]? = some (.sto ds) → δ[j]? = some (.sto es) → i = j ∧ F.tr = true
  gun : F.tr = false → R.g = F.R0.g
  fr : ∀ a o, F.H0 a = some o → ¬ F.A0 a → H a = some o
  sub : SubR F.R0 R
  new : ∀ a, R a → (F.R0 a ∨ F.H0 a = none) ∧ H a ≠ none
  muts : ∀ (i : Nat) d, δ[i]? = some (.brw d) → σ[i]? = F.s0[i]?
  alv : ∀ a, F.H0 a ≠ none → H a ≠ none
  kp : Keep F.R0 F.H0 R H

structure ExtS (S S' : Addr → Prop) (R : Reg) (H : Hp) (R' : Reg) (H' : Hp) : Prop where
  sub : SubR R R'
  fresh : ∀ a, R' a → R a ∨ H a = none ∨ S a
  frame : ∀ a o, H a = some o → ¬ S a → H' a = some o
  own : ∀ a, S' a → S a ∨ H a = none
  alv : ∀ a, H a ≠ none → H' a ≠ none
abbrev Ext (δ δ' : Env) (σ : L2.St) (R : Reg) (H : Hp) (R' : Reg) (H' : Hp) : Prop := ExtS (OwnA R δ σ) (OwnA R' δ' σ) R H R' H'
section
variable {K : PySem.W.Frag} {F : Fx} {R R1 R' : Reg} {H H1 H' : Hp} {δ δ1 δ' : Env} {σ : L2.St} {S S1 S' : Addr → Prop}
theorem Ext.refl : ExtS S S R H R H := ⟨SubR.refl, fun _ h => .inl h, fun _ _ h _ => h, fun _ h => .inl h, fun _ h => h⟩
theorem ExtS.trans (a : ExtS S S1 R H R1 H1) (b : ExtS S1 S' R1 H1 R' H') : ExtS S S' R H R' H' := by
  have ow : ∀ x o, H x = some o → S1 x → S x := fun x o h q => (a.own x q).resolve_right fun z => by rw [h] at z; cases z
  have bk : ∀ x, H1 x = none → H x = none := fun x h => by
    cases e : H x with
    | none => rfl
    | some o => exact absurd h (a.alv x (by rw [e]; exact fun q => by cases q))
  refine ⟨a.sub.trans b.sub, fun x h => ?_, fun x o h n => b.frame x o (a.frame x o h n) fun q => n (ow x o h q), fun x h => ?_, fun x h => b.alv x (a.alv x h)⟩
  · rcases b.fresh x h with h | h | h
    · exact a.fresh x h
    · exact .inr (.inl (bk x h))
    · rcases a.own x h with h | h
      · exact .inr (.inr h)
      · exact .inr (.inl h)
  · rcases b.own x h with h | h
    · exact a.own x h
    · exact .inr (bk x h)
theorem Wd.slotAt (w : Wd K F R H δ σ) {a : Addr} (h : SlotA δ σ a) : ¬ R a ∧ ∃ o, H a = some o ∧ (∀ xs, o ≠ .tup xs) ∧ ∀ ob u, o ≠ .frz ob u := by
  obtain ⟨i, s, e, ho, hs⟩ := h
  obtain ⟨ov, e2, r⟩ := w.rep i s e
  rw [hs] at e2; cases e2
  cases s with
  | un => cases ho
  | sto d => cases r.1
  | val d => cases ho
  | own d => obtain ⟨b, q, n, t⟩ := r; cases q; exact ⟨n, t.at⟩
  | brw d => obtain ⟨b, q, n, t⟩ := r; cases q; exact ⟨n, t.at⟩
theorem Wd.stoOk (w : Wd K F R H δ σ) {i : Nat} {ds : List D} (h : δ[i]? = some (.sto ds)) : StoOk K R H ds := by
  obtain ⟨ov, _, r⟩ := w.rep i _ h
  exact r.2
theorem StoOk.get {ds : List D} (s : StoOk K R H ds) {a : Addr} (h : a ∈ R.g) : ∃ (k : Nat) (d : D), ds[k]? = some d ∧ R.g[k]? = some a ∧ ¬ R a ∧ RepTop K R H d a := by
  obtain ⟨k, e⟩ := List.getElem?_of_mem h
  have hl : k < ds.length := by rw [s.len]; exact (List.getElem?_eq_some_iff.mp e).1
  exact ⟨k, ds[k], by simp [hl], e, s.nr a h, s.top k _ a (by simp [hl]) e⟩
theorem Wd.ownAt (w : Wd K F R H δ σ) {a : Addr} (h : OwnA R δ σ a) : ¬ R a ∧ ∃ o, H a = some o ∧ (∀ xs, o ≠ .tup xs) ∧ ∀ ob u, o ≠ .frz ob u := by
  rcases h with h | ⟨h, i, ds, e⟩
  · exact w.slotAt h
  · obtain ⟨k, d, _, _, n, t⟩ := (w.stoOk e).get h
    exact ⟨n, t.at⟩
theorem Wd.loc' (w : Wd K F R H δ σ) {a : Addr} (h : OwnA R δ σ a) : F.A0 a ∨ F.H0 a = none := by
  rcases h with ⟨i, s, e, ho, hs⟩ | h
  · cases s with
    | un => cases ho
    | sto d =>
      obtain ⟨ov, h1, r⟩ := w.rep i _ e
      rw [hs] at h1; cases h1; cases r.1
    | val d => cases ho
    | own d => exact .inr (w.loc i d a e hs)
    | brw d => exact .inl (w.locB i d a e hs)
  · exact w.locC a h
theorem ExtS.keep (e : ExtS (OwnA R δ σ) S' R H R' H') (w : Wd K F R H δ σ) : Keep R H R' H' := by
  refine ⟨e.sub, fun a o r h => e.frame a o h fun q => (w.ownAt q).1 r, fun a xs h => e.frame a _ h fun q => ?_, fun a ob u h => e.frame a _ h fun q => ?_⟩
  · obtain ⟨_, o, h1, h2, _⟩ := w.ownAt q
    rw [h] at h1; cases h1; exact h2 _ rfl
  · obtain ⟨_, o, h1, _, h2⟩ := w.ownAt q
    rw [h] at h1; cases h1; exact h2 _ _ rfl
end

/-! ### what an expression gives -/
inductive O where
  | dat (d : D) | own (i : Nat) | fre (d : D) | cel (k : Nat)
def RepO (K : PySem.W.Frag) (F : Fx) (R : Reg) (H : Hp) (δ : Env) (σ : L2.St) : O → V → Prop
  | .dat d, v => RepV K R H d v
  | .own i, v => σ[i]? = some (some v)
  | .cel k, v => ∃ a, v = .ref a ∧ R.g[k]? = some a
  | .fre d, v => ∃ a, v = .ref a ∧ ¬ R a ∧ ¬ OwnA R δ σ a ∧ F.H0 a = none ∧ RepTop K R H d a
def Sl.d? : Sl → Option D
  | .val d => some d
  | .own d => some d
  | .brw d => some d
  | .un => none
  | .sto _ => none
/-- the store of an environment is its last slot -/
def stoOf (δ : Env) : Option (List D) := match δ.getLast? with
  | some (.sto cs) => some cs
  | _ => none
theorem stoOf_last {δ : Env} {cs : List D} (h : stoOf δ = some cs) : δ[δ.length - 1]? = some (.sto cs) := by
  unfold stoOf at h
  split at h
  · rename_i es e
    cases h
    rw [List.getLast?_eq_getElem?] at e
    exact e
  · cases h
def deref (δ : Env) : O → Option D
  | .dat d => some d
  | .fre d => some d
  | .own i => (δ[i]?).bind Sl.d?
  | .cel k => (stoOf δ).bind fun cs => cs[k]?
/-- v shows d, be it owned or not -/
def RepL (K : PySem.W.Frag) (R : Reg) (H : Hp) (d : D) (v : V) : Prop := RepV K R H d v ∨ ∃ a, v = .ref a ∧ RepTop K R H d a
section
variable {K : PySem.W.Frag} {F : Fx} {R R1 R' : Reg} {H H1 H' : Hp} {δ δ1 δ' : Env} {σ : L2.St}
theorem RepO.ext {o : O} {v : V} (r : RepO K F R H δ σ o v) (w : Wd K F R H δ σ) (e : Ext δ δ' σ R H R' H') : RepO K F R' H' δ' σ o v := by
  cases o with
  | dat d => exact RepV.keep (e.keep w) r
  | own i => exact r
  | cel k => exact r.imp fun a h => ⟨h.1, e.sub.g _ _ h.2⟩
  | fre d =>
    obtain ⟨a, q, n, no, h0, t⟩ := r
    obtain ⟨o, ho, _, _⟩ := t.at
    have e' := e.frame a o ho no
    refine ⟨a, q, fun z => ?_, fun z => (e.own a z).elim no (fun z => by rw [z] at ho; cases ho), h0, t.keep (e.keep w) (e'.trans ho.symm)⟩
    rcases e.fresh a z with z | z | z
    · exact n z
    · rw [z] at ho; cases ho
    · exact no z
theorem deref_ok {o : O} {v : V} {d : D} (w : Wd K F R H δ σ) (r : RepO K F R H δ σ o v) (h : deref δ o = some d) : RepL K R H d v := by
  cases o with
  | cel k =>
    obtain ⟨cs, e, h⟩ := Option.bind_eq_some_iff.mp h
    obtain ⟨a, q, g⟩ := r
    exact .inr ⟨a, q, (w.stoOk (stoOf_last e)).top k d a h g⟩
  | dat d' => cases h; exact .inl r
  | fre d' =>
    cases h
    obtain ⟨a, q, _, _, _, t⟩ := r
    exact .inr ⟨a, q, t⟩
  | own i =>
    obtain ⟨s, e, h⟩ := Option.bind_eq_some_iff.mp h
    obtain ⟨ov, e2, r2⟩ := w.rep i s e
    have r' : σ[i]? = some (some v) := r
    rw [r'] at e2; cases e2
    cases s with
    | un => cases h
    | sto d' => cases h
    | val d' => cases h; exact .inl r2
    | own d' => cases h; obtain ⟨a, q, _, t⟩ := r2; exact .inr ⟨a, q, t⟩
    | brw d' => cases h; obtain ⟨a, q, _, t⟩ := r2; exact .inr ⟨a, q, t⟩
theorem RepL.lst {ds : List D} {v : V} (h : RepL K R H (.lst ds) v) : ∃ a vs, v = .ref a ∧ H a = some (.lst vs) ∧ RepVs K R H ds vs := by
  rcases h with ⟨a, vs, e, _, h1, h2⟩ | ⟨a, e, vs, h1, h2⟩
  · exact ⟨a, vs, e, h1, h2⟩
  · exact ⟨a, vs, e, h1, h2⟩
theorem RepL.ro {ds : List D} {v : V} (h : RepL K R H (.ro ds) v) : ∃ a vs, v = .ref a ∧ SqL K H a vs ∧ RepVs K R H ds vs := by
  rcases h with ⟨a, vs, e, h1, h2⟩ | ⟨a, e, h⟩
  · exact ⟨a, vs, e, h1.l, h2⟩
  · exact h.elim
theorem RepL.tupX {ds : List D} {v : V} (h : RepL K R H (.tup ds) v) : ∃ a vs, v = .ref a ∧ TupR K H a vs ∧ RepVs K R H ds vs := by
  rcases h with ⟨a, vs, e, h1, h2⟩ | ⟨a, e, h⟩
  · exact ⟨a, vs, e, h1, h2⟩
  · exact h.elim
theorem RepL.dic {ks : List Key} {ds : List D} {v : V} (h : RepL K R H (.dic ks ds) v) : ∃ a vs, v = .ref a ∧ Rd H a (.dK (ks.zip vs)) ∧ ks.length = ds.length ∧ RepVs K R H ds vs := by
  rcases h with ⟨a, vs, e, _, h1, h2⟩ | ⟨a, e, vs, h1, h2⟩
  · exact ⟨a, vs, e, h1, h2⟩
  · exact ⟨a, vs, e, .inl h1, h2⟩
theorem RepL.dit {ks : List (List Key)} {ds : List D} {v : V} (h : RepL K R H (.dit ks ds) v) : ∃ a vs, v = .ref a ∧ Rd H a (.dT (ks.zip vs)) ∧ ks.length = ds.length ∧ RepVs K R H ds vs := by
  rcases h with ⟨a, vs, e, _, h1, h2⟩ | ⟨a, e, vs, h1, h2⟩
  · exact ⟨a, vs, e, h1, h2⟩
  · exact ⟨a, vs, e, .inl h1, h2⟩
theorem RepL.tup {ds : List D} {v : V} (h : RepL K R H (.tup ds) v) : ∃ a vs, v = .ref a ∧ SqT K H a vs ∧ RepVs K R H ds vs := by
  obtain ⟨a, vs, e, h1, h2⟩ := h.tupX
  exact ⟨a, vs, e, h1.t, h2⟩
theorem RepL.ins {C : Addr} {ks : List Str} {ds : List D} {v : V} (h : RepL K R H (.ins C ks ds) v) : ∃ a dx vs, v = .ref a ∧ H a = some (.ins C dx (ks.zip vs)) ∧ ks.length = ds.length ∧ RepVs K R H ds vs := by
  rcases h with ⟨a, dx, vs, e, _, h1, h2⟩ | ⟨a, e, dx, vs, h1, h2⟩
  · exact ⟨a, dx, vs, e, h1, h2⟩
  · exact ⟨a, dx, vs, e, h1, h2⟩
theorem RepL.int {i : Int} {v : V} (h : RepL K R H (.int i) v) : v = .int i := h.elim id fun ⟨_, _, h⟩ => h.elim
theorem RepL.bl {i : Bool} {v : V} (h : RepL K R H (.bl i) v) : v = .bl i := h.elim id fun ⟨_, _, h⟩ => h.elim
theorem RepL.str {i : Str} {v : V} (h : RepL K R H (.str i) v) : v = .str i := h.elim id fun ⟨_, _, h⟩ => h.elim
theorem RepL.non {v : V} (h : RepL K R H .non v) : v = .non := h.elim id fun ⟨_, _, h⟩ => h.elim
theorem RepL.con {u v : V} (h : RepL K R H (.con u) v) : v = u := h.elim id fun ⟨_, _, h⟩ => h.elim
end
end DV

/-! DV2: worlds turned; what readings of expressions give. -/
namespace DV
open PySem L2
section
variable {K : PySem.W.Frag} {F : Fx} {R R1 R' : Reg} {H H1 H' : Hp} {δ δ1 δ' : Env} {σ : L2.St}

theorem StoOk.keep {ds : List D} (k : Keep R H R' H') (gq : R'.g = R.g) (h : StoOk K R H ds) (own : ∀ a ∈ R.g, ¬ R' a ∧ H' a = H a) : StoOk K R' H' ds := by
  refine ⟨by rw [gq]; exact h.len, by rw [gq]; exact h.nd, by rw [gq]; exact fun a ha => (own a ha).1, fun n d a h1 h2 => ?_⟩
  rw [gq] at h2
  exact (h.top _ _ _ h1 h2).keep k (own a (List.mem_of_getElem? h2)).2
theorem SlRep.keep {s : Sl} {ov : Option V} (k : Keep R H R' H') (h : SlRep K R H s ov) (gq : s.gh = true → R'.g = R.g) (cel : s.gh = true → ∀ a ∈ R.g, ¬ R' a ∧ H' a = H a) (own : ∀ a, s.own? = true → ov = some (.ref a) → ¬ R' a ∧ H' a = H a) : SlRep K R' H' s ov := by
  cases s with
  | un => trivial
  | sto ds => exact ⟨h.1, StoOk.keep k (gq rfl) h.2 (cel rfl)⟩
  | val d =>
    cases ov with
    | none => exact h
    | some v => exact RepV.keep k h
  | own d =>
    cases ov with
    | none => exact h
    | some v =>
      obtain ⟨a, rfl, n, t⟩ := h
      obtain ⟨h1, h2⟩ := own a rfl rfl
      exact ⟨a, rfl, h1, t.keep k h2⟩
  | brw d =>
    cases ov with
    | none => exact h
    | some v =>
      obtain ⟨a, rfl, n, t⟩ := h
      obtain ⟨h1, h2⟩ := own a rfl rfl
      exact ⟨a, rfl, h1, t.keep k h2⟩
theorem Wd.frE (w : Wd K F R H δ σ) (e : Ext δ δ' σ R H R' H') : ∀ a o, F.H0 a = some o → ¬ F.A0 a → H' a = some o := fun a o h n => by
  refine e.frame a o (w.fr a o h n) fun q => ?_
  rcases w.loc' q with z | z
  · exact n z
  · rw [h] at z; cases z
theorem Wd.next (w : Wd K F R H δ σ) (e : Ext δ δ' σ R H R' H') (len : δ'.length = δ.length) (rep : ∀ (i : Nat) (s : Sl), δ'[i]? = some s → ∃ ov, σ[i]? = some ov ∧ SlRep K R' H' s ov)
    (ow : ∀ (i : Nat) d, δ'[i]? = some (.own d) → ∃ d', δ[i]? = some (.own d')) (mu : ∀ (i : Nat) d, δ'[i]? = some (.brw d) → ∃ d', δ[i]? = some (.brw d'))
    (st : ∀ (i : Nat) ds, δ'[i]? = some (.sto ds) → ∃ ds', δ[i]? = some (.sto ds')) (gq : R'.g = R.g) (new : ∀ a, R' a → (F.R0 a ∨ F.H0 a = none) ∧ H' a ≠ none) : Wd K F R' H' δ' σ := by
  have ow' : ∀ (i : Nat) (s : Sl), δ'[i]? = some s → s.own? = true → ∃ t, δ[i]? = some t ∧ t.own? = true := fun i s h ho => by
    cases s with
    | un => cases ho
    | sto d => obtain ⟨d', q⟩ := st i d h; exact ⟨_, q, rfl⟩
    | val d => cases ho
    | own d => obtain ⟨d', q⟩ := ow i d h; exact ⟨_, q, rfl⟩
    | brw d => obtain ⟨d', q⟩ := mu i d h; exact ⟨_, q, rfl⟩
  have cl : ∀ a, CelA R' δ' a → CelA R δ a := fun a ⟨h, i, ds, g⟩ => by
    obtain ⟨ds', q⟩ := st i ds g
    rw [gq] at h
    exact ⟨h, i, ds', q⟩
  refine ⟨rep, len.trans w.len, fun i j s t a h1 h2 h3 h4 h5 h6 => ?_, fun a h ⟨i, s, h1, h2, h3⟩ => ?_, fun i d a h g => ?_, fun i d a h g => ?_, fun a h => w.locC a (cl a h), fun i j ds es h1 h2 => ?_, fun h => gq.trans (w.gun h), w.frE e, w.sub.trans e.sub, new, fun i d h => ?_, fun a h => e.alv a (w.alv a h), w.kp.trans (e.keep w)⟩
  · obtain ⟨s', e1, e2⟩ := ow' i s h1 h3
    obtain ⟨t', e3, e4⟩ := ow' j t h2 h4
    exact w.dis i j s' t' a e1 e3 e2 e4 h5 h6
  · obtain ⟨s', e1, e2⟩ := ow' i s h1 h2
    exact w.disC a (cl a h) ⟨i, s', e1, e2, h3⟩
  · obtain ⟨d', h'⟩ := ow i d h
    exact w.loc i d' a h' g
  · obtain ⟨d', h'⟩ := mu i d h
    exact w.locB i d' a h' g
  · obtain ⟨ds', q⟩ := st i ds h1
    obtain ⟨es', q'⟩ := st j es h2
    exact w.one i j ds' es' q q'
  · obtain ⟨d', h'⟩ := mu i d h
    exact w.muts i d' h'
theorem Wd.step (w : Wd K F R H δ σ) (e : Ext δ δ σ R H R' H') (gq : R'.g = R.g) (own : ∀ a, OwnA R δ σ a → ¬ R' a ∧ H' a = H a) (new : ∀ a, R' a → (F.R0 a ∨ F.H0 a = none) ∧ H' a ≠ none) : Wd K F R' H' δ σ := by
  refine w.next e rfl (fun i s h => ?_) (fun i d h => ⟨d, h⟩) (fun i d h => ⟨d, h⟩) (fun i d h => ⟨d, h⟩) gq new
  obtain ⟨ov, h1, h2⟩ := w.rep i s h
  refine ⟨ov, h1, h2.keep (e.keep w) (fun _ => gq) (fun hg a ha => own a (.inr ⟨ha, ?_⟩)) fun a ho hv => own a (.inl ⟨i, s, h, ho, ?_⟩)⟩
  · cases s with
    | sto ds => exact ⟨i, ds, h⟩
    | _ => cases hg
  · rw [h1, hv]
/-- a new object -/
theorem Ext.alloc {p : Addr} {o : HO} (hp : H p = none) : Ext δ δ σ R H R (upd H p o) :=
  ⟨SubR.refl, fun _ h => .inl h, fun a u h _ => by rw [upd_ne (ne_of_none h hp)]; exact h, fun _ h => .inl h, fun a h => by
    cases e : H a with
    | none => exact absurd e h
    | some u => rw [upd_ne (ne_of_none e hp), e]; exact fun q => by cases q⟩
theorem Wd.alloc (w : Wd K F R H δ σ) {p : Addr} {o : HO} (hp : H p = none) : Wd K F R (upd H p o) δ σ := by
  refine w.step (Ext.alloc hp) rfl (fun a h => ?_) fun a h => ⟨(w.new a h).1, (Ext.alloc (δ := δ) (σ := σ) (R := R) (o := o) hp).alv a (w.new a h).2⟩
  obtain ⟨n, u, hu, _⟩ := w.ownAt h
  exact ⟨n, by rw [upd_ne (ne_of_none hu hp)]⟩
theorem Wd.ownNe (w : Wd K F R H δ σ) {p : Addr} (hp : H p = none) : ¬ OwnA R δ σ p := fun h => by
  obtain ⟨_, u, hu, _⟩ := w.ownAt h
  rw [hp] at hu; cases hu
theorem Wd.H0none (w : Wd K F R H δ σ) {p : Addr} (hp : H p = none) : F.H0 p = none := by
  cases e : F.H0 p with
  | none => rfl
  | some o => exact absurd hp (w.alv p (by rw [e]; exact fun q => by cases q))
/-- the region grows by what is new or no longer owned -/
theorem Wd.addR (w : Wd K F R H δ σ) (sub : SubR R R') (gq : R'.g = R.g) (own : ∀ a, OwnA R δ σ a → ¬ R' a) (new : ∀ a, R' a → (F.R0 a ∨ F.H0 a = none) ∧ H a ≠ none) : Wd K F R' H δ σ := by
  have k : Keep R H R' H := ⟨sub, fun _ _ _ h => h, fun _ _ h => h, fun _ _ _ h => h⟩
  have cl : ∀ a, CelA R' δ a → CelA R δ a := fun a ⟨h, g⟩ => ⟨by rw [gq] at h; exact h, g⟩
  refine ⟨fun i s h => ?_, w.len, w.dis, fun a h => w.disC a (cl a h), w.loc, w.locB, fun a h => w.locC a (cl a h), w.one, fun h => gq.trans (w.gun h), w.fr, w.sub.trans sub, new, w.muts, w.alv, w.kp.trans k⟩
  obtain ⟨ov, h1, h2⟩ := w.rep i s h
  refine ⟨ov, h1, h2.keep k (fun _ => gq) (fun hg a ha => ⟨own a (.inr ⟨ha, ?_⟩), rfl⟩) fun a ho hv => ⟨own a (.inl ⟨i, s, h, ho, by rw [h1, hv]⟩), rfl⟩⟩
  cases s with
  | sto ds => exact ⟨i, ds, h⟩
  | _ => cases hg
theorem ExtS.addR (e : Ext δ δ' σ R H R1 H1) (sub : SubR R1 R') (gq : R'.g = R1.g) (fr : ∀ a, R' a → R1 a ∨ H a = none ∨ OwnA R δ σ a) : Ext δ δ' σ R H R' H1 :=
  ⟨e.sub.trans sub, fun a h => (fr a h).elim (e.fresh a) .inr, e.frame, fun a h => e.own a (h.imp id fun ⟨h, g⟩ => ⟨by rw [gq] at h; exact h, g⟩), e.alv⟩
def RegAdd (R : Reg) (p : Addr) : Reg := ⟨fun a => R a ∨ a = p, R.g⟩
theorem SubR.add {p : Addr} : SubR R (RegAdd R p) := ⟨fun _ h => .inl h, fun _ _ h => h⟩
theorem set_get {α : Type} {l : List α} {i j : Nat} {x y : α} (h : (l.set i x)[j]? = some y) : (i = j ∧ y = x) ∨ (i ≠ j ∧ l[j]? = some y) := by
  by_cases e : i = j
  · subst e
    by_cases q : i < l.length
    · rw [List.getElem?_set_self q] at h; cases h; exact .inl ⟨rfl, rfl⟩
    · rw [List.getElem?_eq_none (by rw [List.length_set]; omega)] at h; cases h
  · rw [List.getElem?_set_ne e] at h; exact .inr ⟨e, h⟩
/-- an owned slot is let go: it is a value from now on -/
theorem Wd.freeze (w : Wd K F R H δ σ) {i : Nat} {d : D} (h : δ[i]? = some (.own d)) :
    ∃ a, σ[i]? = some (some (.ref a)) ∧ Wd K F (RegAdd R a) H (δ.set i (.val d)) σ ∧ Ext δ (δ.set i (.val d)) σ R H (RegAdd R a) H ∧ RepV K (RegAdd R a) H d (.ref a) := by
  obtain ⟨ov, h1, h2⟩ := w.rep i _ h
  cases ov with
  | none => exact h2.elim
  | some v =>
    obtain ⟨a, rfl, n, t⟩ := h2
    have oa : OwnA R δ σ a := .inl ⟨i, _, h, rfl, h1⟩
    have ex : Ext δ (δ.set i (.val d)) σ R H (RegAdd R a) H := by
      refine ⟨SubR.add, fun b h => ?_, fun _ _ h _ => h, fun b hb => .inl ?_, fun _ h => h⟩
      · rcases h with h | h
        · exact .inl h
        · rw [h]; exact .inr (.inr oa)
      · rcases hb with ⟨j, s, e1, e2, e3⟩ | ⟨hb, j, ds, e1⟩
        · rcases set_get e1 with ⟨_, q⟩ | ⟨_, q⟩
          · rw [q] at e2; cases e2
          · exact .inl ⟨j, s, q, e2, e3⟩
        · rcases set_get e1 with ⟨_, q⟩ | ⟨_, q⟩
          · cases q
          · exact .inr ⟨hb, j, ds, q⟩
    have kp := ex.keep w
    have tv : RepV K (RegAdd R a) H d (.ref a) := (t.keep kp rfl).val (.inr rfl)
    refine ⟨a, h1, w.next ex (by simp) (fun j s hj => ?_) (fun j d' hj => ?_) (fun j d' hj => ?_) (fun j ds hj => ?_) rfl fun b hb => ?_, ex, tv⟩
    · rcases set_get hj with ⟨q1, q2⟩ | ⟨q1, q2⟩
      · subst q1; subst q2
        exact ⟨_, h1, tv⟩
      · obtain ⟨ov', e1, e2⟩ := w.rep j s q2
        refine ⟨ov', e1, e2.keep kp (fun _ => rfl) (fun hg b hb => ⟨?_, rfl⟩) fun b ho hv => ⟨?_, rfl⟩⟩
        · have cb : CelA R δ b := by
            cases s with
            | sto ds => exact ⟨hb, j, ds, q2⟩
            | _ => cases hg
          rintro (z | z)
          · exact (w.ownAt (.inr cb)).1 z
          · subst z
            exact w.disC b cb ⟨i, _, h, rfl, h1⟩
        · rw [hv] at e1
          rintro (z | z)
          · exact (w.ownAt (.inl ⟨j, s, q2, ho, e1⟩)).1 z
          · subst z
            exact q1 (w.dis i j _ s b h q2 rfl ho h1 e1)
    · rcases set_get hj with ⟨_, q⟩ | ⟨_, q⟩
      · cases q
      · exact ⟨d', q⟩
    · rcases set_get hj with ⟨_, q⟩ | ⟨_, q⟩
      · cases q
      · exact ⟨d', q⟩
    · rcases set_get hj with ⟨_, q⟩ | ⟨_, q⟩
      · cases q
      · exact ⟨ds, q⟩
    · rcases hb with hb | hb
      · exact w.new b hb
      · rw [hb]
        refine ⟨.inr (w.loc i d a h h1), ?_⟩
        obtain ⟨o, ho, _⟩ := t.at
        rw [ho]; exact fun q => by cases q
end
end DV

/-! DV3: what readings of expressions give: the judgements and their rules. -/
namespace DV
open PySem L2

abbrev ME := Env → Option (O × Env)
abbrev MD := Env → Option (D × Env)
abbrev MT := Env → Option (Bool × Env)
abbrev MA := Env → Option (List O × Env)
abbrev MAD := Env → Option (List D × Env)
abbrev MP := Env → Option (Option Int × Env)
def FreO (H : Hp) : O → V → Prop
  | .fre _, v => ∀ a, v = .ref a → H a = none
  | _, _ => True
def Ev (K : PySem.W.Frag) (te : TE) (f : ME) : Prop := ∀ F R H δ σ o δ', Wd K F R H δ σ → f δ = some (o, δ') → ∀ Q : VK,
  (∀ v R' H', Wd K F R' H' δ' σ → Ext δ δ' σ R H R' H' → RepO K F R' H' δ' σ o v → FreO H o v → Q v H') → te σ H Q
def EvD (K : PySem.W.Frag) (te : TE) (f : MD) : Prop := ∀ F R H δ σ d δ', Wd K F R H δ σ → f δ = some (d, δ') → ∀ Q : VK,
  (∀ v R' H', Wd K F R' H' δ' σ → Ext δ δ' σ R H R' H' → RepV K R' H' d v → Q v H') → te σ H Q
def EvT (K : PySem.W.Frag) (t : TT) (f : MT) : Prop := ∀ F R H δ σ b δ', Wd K F R H δ σ → f δ = some (b, δ') → ∀ Q : Bool → Hp → Prop,
  (∀ R' H', Wd K F R' H' δ' σ → Ext δ δ' σ R H R' H' → Q b H') → t σ H Q
def RepOs (K : PySem.W.Frag) (F : Fx) (R : Reg) (H : Hp) (δ : Env) (σ : L2.St) : List O → List V → Prop
  | [], vs => vs = []
  | o :: os, vs => ∃ v r, vs = v :: r ∧ RepO K F R H δ σ o v ∧ RepOs K F R H δ σ os r
def FreOs (H : Hp) : List O → List V → Prop
  | [], _ => True
  | o :: os, vs => ∃ v r, vs = v :: r ∧ FreO H o v ∧ (∀ d, o = .fre d → ∀ (j : Nat) d', os[j]? = some (.fre d') → r[j]? ≠ some v) ∧ FreOs H os r
def EvA (K : PySem.W.Frag) (t : TA) (f : MA) : Prop := ∀ F R H δ σ os δ', Wd K F R H δ σ → f δ = some (os, δ') → ∀ Q : List V → Hp → Prop,
  (∀ vs R' H', Wd K F R' H' δ' σ → Ext δ δ' σ R H R' H' → RepOs K F R' H' δ' σ os vs → FreOs H os vs → Q vs H') → t σ H Q
def EvAD (K : PySem.W.Frag) (t : TA) (f : MAD) : Prop := ∀ F R H δ σ ds δ', Wd K F R H δ σ → f δ = some (ds, δ') → ∀ Q : List V → Hp → Prop,
  (∀ vs R' H', Wd K F R' H' δ' σ → Ext δ δ' σ R H R' H' → RepVs K R' H' ds vs → Q vs H') → t σ H Q
def EvP (K : PySem.W.Frag) (t : TO) (f : MP) : Prop := ∀ F R H δ σ o δ', Wd K F R H δ σ → f δ = some (o, δ') → ∀ Q : Option Int → Hp → Prop,
  (∀ R' H', Wd K F R' H' δ' σ → Ext δ δ' σ R H R' H' → Q o H') → t σ H Q

section
variable {K : PySem.W.Frag} {F : Fx} {R R1 R' : Reg} {H H1 H' : Hp} {δ δ1 δ' : Env} {σ : L2.St}
theorem ExtS.back (e : Ext δ δ' σ R H R' H') {a : Addr} (h : H' a = none) : H a = none := by
  cases q : H a with
  | none => rfl
  | some o => exact absurd h (e.alv a (by rw [q]; exact fun z => by cases z))
theorem FreO.ext {o : O} {v : V} (e : Ext δ δ' σ R H R' H') (h : FreO H' o v) : FreO H o v := by
  cases o with
  | fre d => exact fun a q => e.back (h a q)
  | _ => trivial
theorem FreOs.ext (e : Ext δ δ' σ R H R' H') : ∀ {os : List O} {vs : List V}, FreOs H' os vs → FreOs H os vs
  | [], _, _ => trivial
  | o :: os, vs, ⟨v, r, q, h, n, g⟩ => ⟨v, r, q, h.ext e, n, g.ext e⟩
theorem FreOs.get : ∀ {os : List O} {vs : List V} {i : Nat} {o : O} {v : V}, FreOs H os vs → os[i]? = some o → vs[i]? = some v → FreO H o v
  | [], _, i, _, _, _, e, _ => by simp at e
  | o :: os, vs, 0, o', v', ⟨v, r, e, h, _, _⟩, e1, e2 => by subst e; simp at e1 e2; subst e1; subst e2; exact h
  | o :: os, vs, i + 1, o', v', ⟨v, r, e, _, _, h⟩, e1, e2 => by subst e; exact FreOs.get (i := i) h (by simpa using e1) (by simpa using e2)
theorem RepOs.ext (w : Wd K F R H δ σ) (e : Ext δ δ' σ R H R' H') : ∀ {os : List O} {vs : List V}, RepOs K F R H δ σ os vs → RepOs K F R' H' δ' σ os vs
  | [], _, h => h
  | o :: os, vs, ⟨v, r, q, h, g⟩ => ⟨v, r, q, h.ext w e, g.ext w e⟩
/-- an owned or fresh thing becomes a value -/
def solid : O → Env → Option (D × Env)
  | .dat d, δ => some (d, δ)
  | .fre d, δ => some (d, δ)
  | .cel k, δ => some (.cel k, δ)
  | .own i, δ => match δ[i]? with
    | some (.own d) => some (d, δ.set i (.val d))
    | some (.val d) => some (d, δ)
    | _ => none
theorem solid_ok {o : O} {v : V} {d : D} (w : Wd K F R1 H1 δ1 σ) (e : Ext δ δ1 σ R H R1 H1) (r : RepO K F R1 H1 δ1 σ o v) (fr : FreO H o v) (h : solid o δ1 = some (d, δ')) :
    ∃ R', Wd K F R' H1 δ' σ ∧ Ext δ δ' σ R H R' H1 ∧ RepV K R' H1 d v ∧ Keep R1 H1 R' H1 := by
  cases o with
  | dat d' => cases h; exact ⟨R1, w, e, r, Keep.refl⟩
  | cel k => cases h; exact ⟨R1, w, e, r, Keep.refl⟩
  | own i =>
    simp only [solid] at h
    cases q : δ1[i]? with
    | none => rw [q] at h; cases h
    | some s =>
      rw [q] at h
      cases s with
      | un => cases h
      | sto d' => cases h
      | brw d' => cases h
      | val d' =>
        cases h
        obtain ⟨ov, h1, h2⟩ := w.rep i _ q
        have r' : σ[i]? = some (some v) := r
        rw [r'] at h1; cases h1
        exact ⟨R1, w, e, h2, Keep.refl⟩
      | own d' =>
        cases h
        obtain ⟨a, h1, w2, e2, r2⟩ := w.freeze q
        have r' : σ[i]? = some (some v) := r
        rw [r'] at h1; cases h1
        exact ⟨_, w2, e.trans e2, r2, e2.keep w⟩
  | fre d' =>
    cases h
    obtain ⟨a, rfl, n, no, h0, t⟩ := r
    have k : Keep R1 H1 (RegAdd R1 a) H1 := ⟨SubR.add, fun _ _ _ h => h, fun _ _ h => h, fun _ _ _ h => h⟩
    refine ⟨RegAdd R1 a, w.addR SubR.add rfl (fun b hb => ?_) (fun b hb => ?_), e.addR SubR.add rfl fun b hb => ?_, (t.keep k rfl).val (.inr rfl), k⟩
    · rintro (z | z)
      · exact (w.ownAt hb).1 z
      · subst z; exact no hb
    · rcases hb with z | z
      · exact w.new b z
      · obtain ⟨o, ho, _⟩ := t.at
        rw [z]; exact ⟨.inr h0, by rw [ho]; exact fun q => by cases q⟩
    · rcases hb with z | z
      · exact .inl z
      · rw [z]; exact .inr (.inl (fr a rfl))
def solidE (f : ME) : MD := fun δ => (f δ).bind fun p => solid p.1 p.2
theorem evd {te : TE} {f : ME} (h : Ev K te f) : EvD K te (solidE f) := fun F R H δ σ d δ' w hf Q q => by
  obtain ⟨⟨o, δ1⟩, h1, h2⟩ := Option.bind_eq_some_iff.mp hf
  refine h F R H δ σ o δ1 w h1 Q fun v R1 H1 w1 e1 r1 f1 => ?_
  obtain ⟨R', w2, e2, r2, _⟩ := solid_ok w1 e1 r1 f1 h2
  exact q v R' H1 w2 e2 r2
def datE (f : MD) : ME := fun δ => (f δ).bind fun p => some (.dat p.1, p.2)
theorem ev_of {te : TE} {f : MD} (h : EvD K te f) : Ev K te (datE f) := fun F R H δ σ d δ' w hf Q q => by
  obtain ⟨⟨o, δ1⟩, h1, h2⟩ := Option.bind_eq_some_iff.mp hf
  cases h2
  exact h F R H δ σ o δ1 w h1 Q fun v R1 H1 w1 e1 r1 => q v R1 H1 w1 e1 r1 trivial

/-! ### names, constants -/
def varE (i : Nat) : ME := fun δ => match δ[i]? with
  | some (.val d) => some (.dat d, δ)
  | some (.own _) => some (.own i, δ)
  | some (.brw _) => some (.own i, δ)
  | _ => none
theorem ev_var {i : Nat} : Ev K (tVar i) (varE i) := fun F R H δ σ o δ' w hf Q q => by
  unfold varE at hf
  cases e : δ[i]? with
  | none => rw [e] at hf; cases hf
  | some s =>
    rw [e] at hf
    obtain ⟨ov, h1, h2⟩ := w.rep i s e
    cases s with
    | un => cases hf
    | sto d => cases hf
    | val d =>
      cases hf
      cases ov with
      | none => exact h2.elim
      | some v => exact ⟨v, h1, q v R H w Ext.refl h2 trivial⟩
    | own d =>
      cases hf
      cases ov with
      | none => exact h2.elim
      | some v => exact ⟨v, h1, q v R H w Ext.refl h1 trivial⟩
    | brw d =>
      cases hf
      cases ov with
      | none => exact h2.elim
      | some v => exact ⟨v, h1, q v R H w Ext.refl h1 trivial⟩
def datC (d : D) : ME := fun δ => some (.dat d, δ)
theorem ev_c {v : V} {d : D} (h : ∀ R H, RepV K R H d v) : Ev K (tC v) (datC d) := fun F R H δ σ o δ' w hf Q q => by
  cases hf
  exact q v R H w Ext.refl (h R H) trivial
theorem ev_int {i : Int} : Ev K (tC (.int i)) (datC (.int i)) := ev_c fun _ _ => rfl
theorem ev_bl {i : Bool} : Ev K (tC (.bl i)) (datC (.bl i)) := ev_c fun _ _ => rfl
theorem ev_str {i : Str} : Ev K (tC (.str i)) (datC (.str i)) := ev_c fun _ _ => rfl
theorem ev_non : Ev K (tC .non) (datC .non) := ev_c fun _ _ => rfl
theorem ev_con {v : V} : Ev K (tC v) (datC (.con v)) := ev_c fun _ _ => rfl

def OpOk (K : PySem.W.Frag) (r : R2) (g : D → D → Option O) : Prop := ∀ F R H δ σ d1 d2 v1 v2 res, Wd K F R H δ σ → RepL K R H d1 v1 → RepL K R H d2 v2 → g d1 d2 = some res → ∀ Q : VK,
  (∀ v R' H', Wd K F R' H' δ σ → Ext δ δ σ R H R' H' → RepO K F R' H' δ σ res v → FreO H res v → Q v H') → r v1 v2 H Q
def opE (g : D → D → Option O) (fa fb : ME) : ME := fun δ => (fa δ).bind fun p => (fb p.2).bind fun q => (deref q.2 p.1).bind fun d1 => (deref q.2 q.1).bind fun d2 => (g d1 d2).bind fun o => some (o, q.2)
theorem ev_op {r : R2} {ta tb : TE} {fa fb : ME} {g : D → D → Option O} (ho : OpOk K r g) (ha : Ev K ta fa) (hb : Ev K tb fb) : Ev K (tOp r ta tb) (opE g fa fb) := fun F R H δ σ o δ' w hf Q q => by
  obtain ⟨⟨o1, δ1⟩, h1, hf⟩ := Option.bind_eq_some_iff.mp hf
  obtain ⟨⟨o2, δ2⟩, h2, hf⟩ := Option.bind_eq_some_iff.mp hf
  obtain ⟨d1, h3, hf⟩ := Option.bind_eq_some_iff.mp hf
  obtain ⟨d2, h4, hf⟩ := Option.bind_eq_some_iff.mp hf
  obtain ⟨res, h5, hf⟩ := Option.bind_eq_some_iff.mp hf
  cases hf
  refine ha F R H δ σ o1 δ1 w h1 _ fun v1 R1 H1 w1 e1 r1 _ => ?_
  refine hb F R1 H1 δ1 σ o2 δ2 w1 h2 _ fun v2 R2 H2 w2 e2 r2 _ => ?_
  refine ho F R2 H2 δ2 σ d1 d2 v1 v2 _ w2 (deref_ok w2 (r1.ext w1 e2) h3) (deref_ok w2 r2 h4) h5 Q fun v R3 H3 w3 e3 r3 f3 => ?_
  exact q v R3 H3 w3 ((e1.trans e2).trans e3) r3 (f3.ext (e1.trans e2))
def unE (g : D → Option O) (fa : ME) : ME := fun δ => (fa δ).bind fun p => (deref p.2 p.1).bind fun d1 => (g d1).bind fun o => some (o, p.2)
/-! ### arguments -/
def nilA : MA := fun δ => some ([], δ)
def consA (f : ME) (g : MA) : MA := fun δ => (f δ).bind fun p => (g p.2).bind fun q => some (p.1 :: q.1, q.2)
theorem ea_nil : EvA K tNil nilA := fun F R H δ σ os δ' w hf Q q => by cases hf; exact q [] R H w Ext.refl rfl trivial
theorem ea_cons {te : TE} {ta : TA} {f : ME} {g : MA} (h : Ev K te f) (hr : EvA K ta g) : EvA K (tCons te ta) (consA f g) := fun F R H δ σ os δ' w hf Q q => by
  obtain ⟨⟨o1, δ1⟩, h1, hf⟩ := Option.bind_eq_some_iff.mp hf
  obtain ⟨⟨o2, δ2⟩, h2, hf⟩ := Option.bind_eq_some_iff.mp hf
  cases hf
  refine h F R H δ σ o1 δ1 w h1 _ fun v1 R1 H1 w1 e1 r1 f1 => ?_
  refine hr F R1 H1 δ1 σ o2 δ2 w1 h2 _ fun v2 R2 H2 w2 e2 r2 f2 => ?_
  have dis : ∀ d, o1 = .fre d → ∀ (j : Nat) d', o2[j]? = some (.fre d') → v2[j]? ≠ some v1 := fun d e j d' h3 h4 => by
    subst e
    obtain ⟨a, e3, _, _, _, t⟩ := r1
    obtain ⟨o, ho, _⟩ := t.at
    have := f2.get h3 h4 a e3
    rw [this] at ho; cases ho
  exact q _ R2 H2 w2 (e1.trans e2) ⟨v1, v2, rfl, r1.ext w1 e2, r2⟩ ⟨v1, v2, rfl, f1, dis, f2.ext e1⟩
def nilD : MAD := fun δ => some ([], δ)
def consD (f : MD) (g : MAD) : MAD := fun δ => (f δ).bind fun p => (g p.2).bind fun q => some (p.1 :: q.1, q.2)
theorem ed_nil : EvAD K tNil nilD := fun F R H δ σ os δ' w hf Q q => by cases hf; exact q [] R H w Ext.refl rfl
theorem ed_cons {te : TE} {ta : TA} {f : MD} {g : MAD} (h : EvD K te f) (hr : EvAD K ta g) : EvAD K (tCons te ta) (consD f g) := fun F R H δ σ os δ' w hf Q q => by
  obtain ⟨⟨o1, δ1⟩, h1, hf⟩ := Option.bind_eq_some_iff.mp hf
  obtain ⟨⟨o2, δ2⟩, h2, hf⟩ := Option.bind_eq_some_iff.mp hf
  cases hf
  refine h F R H δ σ o1 δ1 w h1 _ fun v1 R1 H1 w1 e1 r1 => ?_
  refine hr F R1 H1 δ1 σ o2 δ2 w1 h2 _ fun v2 R2 H2 w2 e2 r2 => ?_
  exact q _ R2 H2 w2 (e1.trans e2) ⟨v1, v2, rfl, r1.keep (e2.keep w1), r2⟩

/-! ### displays -/
theorem RepVs.alloc {p : Addr} {o : HO} (hp : H p = none) {ds : List D} {vs : List V} (h : RepVs K R H ds vs) : RepVs K R (upd H p o) ds vs :=
  h.keep ⟨SubR.refl, fun a u _ h => by rw [upd_ne (ne_of_none h hp)]; exact h, fun a u h => by rw [upd_ne (ne_of_none h hp)]; exact h, fun a u z h => by rw [upd_ne (ne_of_none h hp)]; exact h⟩
theorem fre_lst (w : Wd K F R H δ σ) {p : Addr} (hp : H p = none) {ds : List D} {vs : List V} (h : RepVs K R H ds vs) : RepO K F R (upd H p (.lst vs)) δ σ (.fre (.lst ds)) (.ref p) := by
  exact ⟨p, rfl, fun z => (w.new p z).2 hp, w.ownNe hp, w.H0none hp, vs, upd_same, h.alloc hp⟩
theorem dat_tup (w : Wd K F R H δ σ) {p : Addr} (hp : H p = none) {ds : List D} {vs : List V} (h : RepVs K R H ds vs) : RepO K F R (upd H p (.tup vs)) δ σ (.dat (.tup ds)) (.ref p) :=
  ⟨p, vs, rfl, .inl upd_same, h.alloc hp⟩
end
end DV

/-! DV4: statements, loops. -/
namespace DV
open PySem L2

inductive Fl where
  | nx (δ : Env) | rt (o : O) (δ : Env) | bk (δ : Env) | ct (δ : Env)
abbrev MS := Env → Option Fl
def FlOk (K : PySem.W.Frag) (F : Fx) (R : Reg) (H : Hp) : Fl → Ends → Prop
  | .nx δ, E => ∀ σ' R' H', Wd K F R' H' δ σ' → Keep R H R' H' → E.nx σ' H'
  | .rt o δ, E => ∀ v σ' R' H', Wd K F R' H' δ σ' → Keep R H R' H' → RepO K F R' H' δ σ' o v → E.rt v H'
  | .bk δ, E => ∀ σ' R' H', Wd K F R' H' δ σ' → Keep R H R' H' → E.bk σ' H'
  | .ct δ, E => ∀ σ' R' H', Wd K F R' H' δ σ' → Keep R H R' H' → E.ct σ' H'
def EvS (K : PySem.W.Frag) (t : TS) (f : MS) : Prop := ∀ F R H δ σ fl, Wd K F R H δ σ → f δ = some fl → ∀ E : Ends, FlOk K F R H fl E → t E σ H
section
variable {K : PySem.W.Frag} {F : Fx} {R R1 R' : Reg} {H H1 H' : Hp} {δ δ1 δ' : Env} {σ σ' : L2.St}
theorem FlOk.keep {fl : Fl} {E : Ends} (k : Keep R H R1 H1) (h : FlOk K F R H fl E) : FlOk K F R1 H1 fl E := by
  cases fl with
  | nx δ => exact fun σ' R' H' w k' => h σ' R' H' w (k.trans k')
  | rt o δ => exact fun v σ' R' H' w k' r => h v σ' R' H' w (k.trans k') r
  | bk δ => exact fun σ' R' H' w k' => h σ' R' H' w (k.trans k')
  | ct δ => exact fun σ' R' H' w k' => h σ' R' H' w (k.trans k')
def nextS : MS := fun δ => some (.nx δ)
theorem s_next : EvS K tNext nextS := fun F R H δ σ fl w hf E q => by cases hf; exact q σ R H w Keep.refl
def seqS (f g : MS) : MS := fun δ => (f δ).bind fun fl => match fl with
  | .nx δ' => g δ'
  | fl => some fl
theorem s_seq {t u : TS} {f g : MS} (h1 : EvS K t f) (h2 : EvS K u g) : EvS K (tSeq t u) (seqS f g) := fun F R H δ σ fl w hf E q => by
  obtain ⟨f1, e1, hf⟩ := Option.bind_eq_some_iff.mp hf
  refine h1 F R H δ σ f1 w e1 _ ?_
  cases f1 with
  | nx δ1 => exact fun σ1 R1 H1 w1 k1 => h2 F R1 H1 δ1 σ1 fl w1 hf E (q.keep k1)
  | rt o δ1 => cases hf; exact q
  | bk δ1 => cases hf; exact q
  | ct δ1 => cases hf; exact q
def retS (f : ME) : MS := fun δ => (f δ).bind fun p => some (.rt p.1 p.2)
theorem s_ret {te : TE} {f : ME} (h : Ev K te f) : EvS K (tRet te) (retS f) := fun F R H δ σ fl w hf E q => by
  obtain ⟨⟨o, δ1⟩, e1, hf⟩ := Option.bind_eq_some_iff.mp hf
  cases hf
  exact h F R H δ σ o δ1 w e1 _ fun v R' H' w' e r _ => q v σ R' H' w' (e.keep w) r
def dropS (f : ME) : MS := fun δ => (f δ).bind fun p => some (.nx p.2)
theorem s_drop {te : TE} {f : ME} (h : Ev K te f) : EvS K (tDrop te) (dropS f) := fun F R H δ σ fl w hf E q => by
  obtain ⟨⟨o, δ1⟩, e1, hf⟩ := Option.bind_eq_some_iff.mp hf
  cases hf
  exact h F R H δ σ o δ1 w e1 _ fun v R' H' w' e r _ => q σ R' H' w' (e.keep w)
def ifS (c : MT) (f g : MS) : MS := fun δ => (c δ).bind fun p => if p.1 = true then f p.2 else g p.2
theorem s_if {c : TT} {t u : TS} {fc : MT} {f g : MS} (hc : EvT K c fc) (h1 : EvS K t f) (h2 : EvS K u g) : EvS K (tIfS c t u) (ifS fc f g) := fun F R H δ σ fl w hf E q => by
  obtain ⟨⟨b, δ1⟩, e1, hf⟩ := Option.bind_eq_some_iff.mp hf
  refine hc F R H δ σ b δ1 w e1 _ fun R1 H1 w1 x1 => ?_
  cases b with
  | true => exact h1 F R1 H1 δ1 σ fl w1 hf E (q.keep (x1.keep w))
  | false => exact h2 F R1 H1 δ1 σ fl w1 hf E (q.keep (x1.keep w))
/-! ### stores into slots -/
theorem celA_set {i : Nat} {s : Sl} {a : Addr} (hs : s.gh = false) (h : CelA R (δ.set i s) a) : CelA R δ a := by
  obtain ⟨h1, j, ds, h2⟩ := h
  rcases set_get h2 with ⟨q1, q2⟩ | ⟨q1, q2⟩
  · subst q2; cases hs
  · exact ⟨h1, j, ds, q2⟩
theorem slotA_set {i : Nat} {s : Sl} {v : V} {a : Addr} (h : SlotA (δ.set i s) (σ.set i (some v)) a) : (s.own? = true ∧ v = .ref a) ∨ SlotA δ σ a := by
  obtain ⟨j, t, h1, h2, h3⟩ := h
  rcases set_get h1 with ⟨q1, q2⟩ | ⟨q1, q2⟩
  · subst q1; subst q2
    rcases set_get h3 with ⟨_, q⟩ | ⟨q, _⟩
    · exact .inl ⟨h2, (Option.some.inj q).symm⟩
    · exact absurd rfl q
  · rw [List.getElem?_set_ne q1] at h3
    exact .inr ⟨j, t, q2, h2, h3⟩
theorem ownA_set {i : Nat} {s : Sl} {v : V} {a : Addr} (hs : s.gh = false) (h : OwnA R (δ.set i s) (σ.set i (some v)) a) : (s.own? = true ∧ v = .ref a) ∨ OwnA R δ σ a := by
  rcases h with h | h
  · exact (slotA_set h).imp id .inl
  · exact .inr (.inr (celA_set hs h))
theorem Wd.oneSet (w : Wd K F R H δ σ) {x : Nat} {s : Sl} (hs : s.gh = false) : ∀ (i j : Nat) (ds es : List D), (δ.set x s)[i]? = some (.sto ds) → (δ.set x s)[j]? = some (.sto es) → i = j ∧ F.tr = true := fun i j ds es h1 h2 => by
  rcases set_get h1 with ⟨q1, q2⟩ | ⟨q1, q2⟩
  · subst q2; cases hs
  · rcases set_get h2 with ⟨q3, q4⟩ | ⟨q3, q4⟩
    · subst q4; cases hs
    · exact w.one i j ds es q2 q4
theorem Wd.setVal (w : Wd K F R H δ σ) {d : D} {v : V} (r : RepV K R H d v) (i : Nat) : Wd K F R H (δ.set i (.val d)) (σ.set i (some v)) := by
  refine ⟨fun j s h => ?_, by rw [List.length_set, List.length_set]; exact w.len, fun j k s t a h1 h2 h3 h4 h5 h6 => ?_, fun a h q => w.disC a (celA_set rfl h) ((slotA_set q).resolve_left (fun z => by cases z.1)), fun j d' a h g => ?_, fun j d' a h g => ?_, fun a h => w.locC a (celA_set rfl h), w.oneSet rfl, w.gun, w.fr, w.sub, w.new, fun j d' h => ?_, w.alv, w.kp⟩
  · rcases set_get h with ⟨q1, q2⟩ | ⟨q1, q2⟩
    · subst q1; subst q2
      have hl : i < σ.length := by
        have := (List.getElem?_eq_some_iff.mp h).1
        rw [List.length_set, w.len] at this; exact this
      exact ⟨some v, List.getElem?_set_self hl, r⟩
    · rw [List.getElem?_set_ne q1]; exact w.rep j s q2
  · rcases set_get h1 with ⟨q1, q2⟩ | ⟨q1, q2⟩
    · subst q2; cases h3
    · rcases set_get h2 with ⟨q3, q4⟩ | ⟨q3, q4⟩
      · subst q4; cases h4
      · rw [List.getElem?_set_ne q1] at h5
        rw [List.getElem?_set_ne q3] at h6
        exact w.dis j k s t a q2 q4 h3 h4 h5 h6
  · rcases set_get h with ⟨q1, q2⟩ | ⟨q1, q2⟩
    · cases q2
    · rw [List.getElem?_set_ne q1] at g; exact w.loc j d' a q2 g
  · rcases set_get h with ⟨q1, q2⟩ | ⟨q1, q2⟩
    · cases q2
    · rw [List.getElem?_set_ne q1] at g; exact w.locB j d' a q2 g
  · rcases set_get h with ⟨q1, q2⟩ | ⟨q1, q2⟩
    · cases q2
    · rw [List.getElem?_set_ne q1]; exact w.muts j d' q2
theorem Wd.setOwn (w : Wd K F R H δ σ) {d : D} {v : V} (r : RepO K F R H δ σ (.fre d) v) (i : Nat) : Wd K F R H (δ.set i (.own d)) (σ.set i (some v)) := by
  obtain ⟨p, rfl, n, no, h0, t⟩ := r
  refine ⟨fun j s h => ?_, by rw [List.length_set, List.length_set]; exact w.len, fun j k s t' a h1 h2 h3 h4 h5 h6 => ?_, fun a h q => ?_, fun j d' a h g => ?_, fun j d' a h g => ?_, fun a h => w.locC a (celA_set rfl h), w.oneSet rfl, w.gun, w.fr, w.sub, w.new, fun j d' h => ?_, w.alv, w.kp⟩
  · rcases set_get h with ⟨q1, q2⟩ | ⟨q1, q2⟩
    · subst q1; subst q2
      have hl : i < σ.length := by
        have := (List.getElem?_eq_some_iff.mp h).1
        rw [List.length_set, w.len] at this; exact this
      exact ⟨_, List.getElem?_set_self hl, p, rfl, n, t⟩
    · rw [List.getElem?_set_ne q1]; exact w.rep j s q2
  · rcases set_get h1 with ⟨q1, q2⟩ | ⟨q1, q2⟩
    · rcases set_get h2 with ⟨q3, q4⟩ | ⟨q3, q4⟩
      · exact q1.symm.trans q3
      · rw [List.getElem?_set_ne q3] at h6
        rcases set_get h5 with ⟨_, q⟩ | ⟨q, _⟩
        · have e : p = a := by cases q; rfl
          subst e
          exact absurd (.inl ⟨k, t', q4, h4, h6⟩) no
        · exact absurd q1 q
    · rw [List.getElem?_set_ne q1] at h5
      rcases set_get h2 with ⟨q3, q4⟩ | ⟨q3, q4⟩
      · rcases set_get h6 with ⟨_, q⟩ | ⟨q, _⟩
        · have e : p = a := by cases q; rfl
          subst e
          exact absurd (.inl ⟨j, s, q2, h3, h5⟩) no
        · exact absurd q3 q
      · rw [List.getElem?_set_ne q3] at h6
        exact w.dis j k s t' a q2 q4 h3 h4 h5 h6
  · rcases slotA_set q with ⟨_, z⟩ | z
    · cases z
      exact no (.inr (celA_set rfl h))
    · exact w.disC a (celA_set rfl h) z
  · rcases set_get h with ⟨q1, q2⟩ | ⟨q1, q2⟩
    · rcases set_get g with ⟨_, q⟩ | ⟨q, _⟩
      · cases q; exact h0
      · exact absurd q1 q
    · rw [List.getElem?_set_ne q1] at g; exact w.loc j d' a q2 g
  · rcases set_get h with ⟨q1, q2⟩ | ⟨q1, q2⟩
    · cases q2
    · rw [List.getElem?_set_ne q1] at g; exact w.locB j d' a q2 g
  · rcases set_get h with ⟨q1, q2⟩ | ⟨q1, q2⟩
    · cases q2
    · rw [List.getElem?_set_ne q1]; exact w.muts j d' q2
/-- x = e -/
def asgS (i : Nat) (f : ME) : MS := fun δ => (f δ).bind fun p => match p.1 with
  | .dat d => some (.nx (p.2.set i (.val d)))
  | .fre d => some (.nx (p.2.set i (.own d)))
  | .own j => (solid (.own j) p.2).bind fun q => some (.nx (q.2.set i (.val q.1)))
  | .cel k => some (.nx (p.2.set i (.val (.cel k))))
theorem s_asg {te : TE} {f : ME} {i : Nat} (h : Ev K te f) : EvS K (tAsg te (gName i)) (asgS i f) := fun F R H δ σ fl w hf E q => by
  obtain ⟨⟨o, δ1⟩, e1, hf⟩ := Option.bind_eq_some_iff.mp hf
  refine h F R H δ σ o δ1 w e1 _ fun v R1 H1 w1 x1 r1 f1 => ?_
  show E.nx (σ.set i (some v)) H1
  cases o with
  | dat d => cases hf; exact q _ R1 H1 (w1.setVal r1 i) (x1.keep w)
  | cel k => cases hf; exact q _ R1 H1 (w1.setVal (d := .cel k) r1 i) (x1.keep w)
  | fre d => cases hf; exact q _ R1 H1 (w1.setOwn r1 i) (x1.keep w)
  | own j =>
    obtain ⟨⟨d, δ2⟩, e2, hf⟩ := Option.bind_eq_some_iff.mp hf
    obtain ⟨R2, w2, x2, r2, k2⟩ := solid_ok w1 x1 r1 f1 e2
    cases hf
    exact q _ R2 H1 (w2.setVal r2 i) (x2.keep w)

/-! ### targets -/
def Grow (H H' : Hp) : Prop := ∀ a o, H a = some o → H' a = some o
theorem Grow.refl : Grow H H := fun _ _ h => h
theorem Grow.trans (a : Grow H H1) (b : Grow H1 H') : Grow H H' := fun x o h => b x o (a x o h)
theorem Grow.new {p : Addr} {o : HO} (hp : H p = none) : Grow H (upd H p o) := fun a u h => by rw [upd_ne (ne_of_none h hp)]; exact h
theorem Grow.keep (g : Grow H H') : Keep R H R H' := ⟨SubR.refl, fun a o _ h => g a o h, fun a xs h => g a _ h, fun a o u h => g a _ h⟩
theorem Grow.ext (g : Grow H H') {S : Addr → Prop} : ExtS S S R H R H' := ⟨SubR.refl, fun _ h => .inl h, fun a o h _ => g a o h, fun _ h => .inl h, fun a h => by
  cases e : H a with
  | none => exact absurd e h
  | some o => rw [g a o e]; exact fun q => by cases q⟩
abbrev MG := D → Env → Option Env
def EvG (K : PySem.W.Frag) (g : TG) (f : MG) : Prop := ∀ F R H δ σ d v δ', Wd K F R H δ σ → RepV K R H d v → f d δ = some δ' → ∀ Q : L2.St → Hp → Prop,
  (∀ σ' H', Wd K F R H' δ' σ' → Grow H H' → (∀ a, OwnA R δ' σ' a → OwnA R δ σ a) → Q σ' H') → g v σ H Q
def EvGs (K : PySem.W.Frag) (g : TGs) (f : List D → Env → Option Env) : Prop := ∀ F R H δ σ ds vs δ', Wd K F R H δ σ → RepVs K R H ds vs → f ds δ = some δ' → ∀ Q : L2.St → Hp → Prop,
  (∀ σ' H', Wd K F R H' δ' σ' → Grow H H' → (∀ a, OwnA R δ' σ' a → OwnA R δ σ a) → Q σ' H') → g vs σ H Q
def nameG (i : Nat) : MG := fun d δ => some (δ.set i (.val d))
theorem g_name {i : Nat} : EvG K (gName i) (nameG i) := fun F R H δ σ d v δ' w r hf Q q => by
  cases hf
  exact q _ H (w.setVal r i) Grow.refl fun a h => (ownA_set rfl h).elim (fun z => by cases z.1) id
def nilG : List D → Env → Option Env := fun ds δ => match ds with
  | [] => some δ
  | _ => none
def consG (f : MG) (g : List D → Env → Option Env) : List D → Env → Option Env := fun ds δ => match ds with
  | d :: r => (f d δ).bind fun δ1 => g r δ1
  | [] => none
theorem gs_nil : EvGs K gNil nilG := fun F R H δ σ ds vs δ' w r hf Q q => by
  cases ds with
  | nil => cases hf; exact ⟨r, q σ H w Grow.refl fun _ h => h⟩
  | cons _ _ => cases hf
theorem RepVs.grow {ds : List D} {vs : List V} (g : Grow H H') (h : RepVs K R H ds vs) : RepVs K R H' ds vs := h.keep g.keep
theorem gs_cons {g : TG} {gs : TGs} {f : MG} {fs : List D → Env → Option Env} (h1 : EvG K g f) (h2 : EvGs K gs fs) : EvGs K (gCons g gs) (consG f fs) := fun F R H δ σ ds vs δ' w r hf Q q => by
  cases ds with
  | nil => cases hf
  | cons d ds =>
    obtain ⟨v, vr, e, r1, r2⟩ := r
    obtain ⟨δ1, e1, hf⟩ := Option.bind_eq_some_iff.mp hf
    refine ⟨v, vr, e, h1 F R H δ σ d v δ1 w r1 e1 _ fun σ1 H1 w1 g1 o1 => ?_⟩
    exact h2 F R H1 δ1 σ1 ds vr δ' w1 (r2.grow g1) hf Q fun σ2 H2 w2 g2 o2 => q σ2 H2 w2 (g1.trans g2) fun a h => o1 a (o2 a h)
def tupG (n : Nat) (fs : List D → Env → Option Env) : MG := fun d δ => match d with
  | .tup ds => if ds.length = n then fs ds δ else none
  | _ => none
theorem g_tup {gs : TGs} {fs : List D → Env → Option Env} {n : Nat} (h : EvGs K gs fs) : EvG K (gTup K n gs) (tupG n fs) := fun F R H δ σ d v δ' w r hf Q q => by
  cases d with
  | tup ds =>
    obtain ⟨a, vs, e, hs, rs⟩ := r
    simp only [tupG] at hf
    by_cases c : ds.length = n
    · rw [if_pos c] at hf
      exact ⟨a, vs, e, hs.t, by rw [← rs.length]; exact c, h F R H δ σ ds vs δ' w rs hf Q q⟩
    · rw [if_neg c] at hf; cases hf
  | _ => cases hf
/-- target = e -/
def letS (f : MD) (g : MG) : MS := fun δ => (f δ).bind fun p => (g p.1 p.2).bind fun δ' => some (.nx δ')
/-! ### for, while -/
def ItOk (K : PySem.W.Frag) (J : It) (R : Reg) (H : Hp) (ds : List D) : Prop := ∀ R' H', Keep R H R' H' → ∀ F δ σ, Wd K F R' H' δ σ → ∀ i : Nat,
  (∀ d, ds[i]? = some d → J.go i H' ∧ ∀ x H'', J.yld i H' x H'' → Wd K F R' H'' δ σ ∧ Grow H' H'' ∧ RepV K R' H'' d x) ∧ (ds.length ≤ i → J.stop i H')
abbrev MI := Env → Option (List D × Env)
def EvI (K : PySem.W.Frag) (wi : TI) (f : MI) : Prop := ∀ F R H δ σ ds δ', Wd K F R H δ σ → f δ = some (ds, δ') → ∀ Q : It → Hp → Prop,
  (∀ J R' H', Wd K F R' H' δ' σ → Ext δ δ' σ R H R' H' → ItOk K J R' H' ds → Q J H') → wi σ H Q
def loopL (g : MG) (b : MS) : List D → MS
  | [], δ => some (.nx δ)
  | d :: r, δ => (g d δ).bind fun δ1 => (b δ1).bind fun fl => match fl with
    | .nx δ2 => loopL g b r δ2
    | .ct δ2 => loopL g b r δ2
    | .bk δ2 => some (.nx δ2)
    | .rt o δ2 => some (.rt o δ2)
def forS (fi : MI) (g : MG) (b : MS) : MS := fun δ => (fi δ).bind fun p => loopL g b p.1 p.2
theorem s_for {wi : TI} {fi : MI} {g : TG} {fg : MG} {tb : TS} {fb : MS} (hi : EvI K wi fi) (hg : EvG K g fg) (hb : EvS K tb fb) : EvS K (tFor wi g tb) (forS fi fg fb) := fun F R H δ σ fl w hf E q => by
  obtain ⟨⟨ds, δ1⟩, e1, hf⟩ := Option.bind_eq_some_iff.mp hf
  refine hi F R H δ σ ds δ1 w e1 _ fun J R1 H1 w1 x1 hJ => ?_
  have q1 := q.keep (x1.keep w)
  refine ⟨fun i m σ H => m = ds.length - i ∧ i ≤ ds.length ∧ ∃ R δ, Wd K F R H δ σ ∧ Keep R1 H1 R H ∧ loopL fg fb (ds.drop i) δ = some fl, ⟨ds.length, by simp, Nat.zero_le _, R1, δ1, w1, Keep.refl, by simpa using hf⟩, ?_⟩
  rintro i m σ2 H2 ⟨rfl, hi, R2, δ2, w2, k2, hl⟩
  have it := hJ R2 H2 k2 F δ2 σ2 w2 i
  by_cases hlt : i < ds.length
  · have hd : ds[i]? = some ds[i] := by simp [hlt]
    rw [List.drop_eq_getElem_cons hlt] at hl
    obtain ⟨δ3, e3, hl⟩ := Option.bind_eq_some_iff.mp hl
    obtain ⟨f4, e4, hl⟩ := Option.bind_eq_some_iff.mp hl
    obtain ⟨go, yl⟩ := it.1 _ hd
    refine .inr ⟨go, fun σ' H' => i + 1 ≤ ds.length ∧ ∃ R δ, Wd K F R H' δ σ' ∧ Keep R1 H1 R H' ∧ loopL fg fb (ds.drop (i + 1)) δ = some fl, fun σ' H' h => ⟨_, ?_, rfl, h⟩, fun x H3 y => ?_⟩
    · omega
    obtain ⟨w3, g3, r3⟩ := yl x H3 y
    refine hg F R2 H3 δ2 σ2 _ x δ3 w3 r3 e3 _ fun σ4 H4 w4 g4 _ => ?_
    have k4 : Keep R1 H1 R2 H4 := k2.trans ((g3.trans g4).keep)
    refine hb F R2 H4 δ3 σ4 f4 w4 e4 _ ?_
    cases f4 with
    | nx δ5 => exact fun σ5 R5 H5 w5 k5 => ⟨hlt, R5, δ5, w5, k4.trans k5, hl⟩
    | ct δ5 => exact fun σ5 R5 H5 w5 k5 => ⟨hlt, R5, δ5, w5, k4.trans k5, hl⟩
    | bk δ5 => cases hl; exact q1.keep k4
    | rt o δ5 => cases hl; exact q1.keep k4
  · rw [List.drop_eq_nil_of_le (by omega)] at hl
    cases hl
    exact .inl ⟨it.2 (by omega), q1 σ2 R2 H2 w2 k2⟩
def whileL (c : MT) (b : MS) : Nat → MS
  | 0, _ => none
  | n + 1, δ => (c δ).bind fun p => if p.1 = true then (b p.2).bind fun fl => match fl with
    | .nx δ2 => whileL c b n δ2
    | .ct δ2 => whileL c b n δ2
    | .bk δ2 => some (.nx δ2)
    | .rt o δ2 => some (.rt o δ2)
    else some (.nx p.2)
end
end DV

/-! DVG: promises of defs that are called where no repr runs around (guards = []); so repr(x) can be told. -/
namespace DVG
open PySem PySem.Spec PyProof.Rows L2
/-- room for k calls, and no repr around -/
structure Rm (bb : Bool) (k : Nat) (A : Around) : Prop where
  r : Room k A
  g : bb = true → A.guards = some []
theorem Rm.mono {j k : Nat} {A : Around} (h : Rm bb k A) (l : j ≤ k) : Rm bb j A := ⟨h.r.mono l, h.g⟩
theorem Rm.deeper {k : Nat} {A : Around} (h : Rm bb (k + 1) A) (env : Env) : Rm bb k (A.deeper env) := ⟨h.r.deeper env, h.g⟩
theorem Rm.make {k : Nat} {A : Around} (h : Rm bb (k + 1) A) (C : Addr) (us : List Value) (kw : List (Str × Value)) : Rm bb k (A.under (.builtin "type.__call__" ⟨.ref C :: us, kw⟩)) :=
  ⟨h.r.make C us kw, by
    have e : (Code.builtin "type.__call__" ⟨.ref C :: us, kw⟩).isGuard = false := by show guardIds.contains "type.__call__" = false; decide +kernel
    exact fun hb => by simp [Around.under, Code.guards, e, pushGuards, h.g hb]⟩
theorem Rm.low {bb : Bool} {k : Nat} {A : Around} (h : Rm bb k A) : Rm false k A := ⟨h.r, fun q => by cases q⟩
structure FnG (bb : Bool) (P : Program) (w : World) (K : PySem.W.Frag) (mg : Str → Option Value) (base : Heap) (CX : CXT) (k : Nat) (f : Addr) (fd : FuncData) (ps : List Str) (sp : Sp) : Prop where
  len : ∀ vs H Q E, sp vs H Q E → vs.length = ps.length
  run : ∀ (A : Around) (outer : List Env) (s : Shared) (H : Hp) (args : Args) (us : List Value) (vs : List V) (Q : VK) (E : XK), Rm bb k A → Env0 P w K mg base A outer s H → BindsTo s fd args (ps.zip us) → Vals vs us → sp vs H Q E →
    codeAny (model P w) A (.call (.ref f) args) (CR CX outer P w H s Q E) s
theorem FnG.mono {P : Program} {w : World} {K : PySem.W.Frag} {mg : Str → Option Value} {base : Heap} {CX : CXT} {j k : Nat} {f : Addr} {fd : FuncData} {ps : List Str} {sp : Sp} (F : FnG bb P w K mg base CX j f fd ps sp) (h : j ≤ k) : FnG bb P w K mg base CX k f fd ps sp :=
  ⟨F.len, fun A o s H a us vs Q E hr => F.run A o s H a us vs Q E (hr.mono h)⟩
section
variable {P : Program} {w : World} {K : PySem.W.Frag} {mg : Str → Option Value} {base : Heap}
/-- a def by its body -/
theorem fnG {CX : CXT} {x qual : Str} {st : Stmt} {f : Addr} {fd : FuncData} {N ps : List Str} {k : Nat} {sp : Sp} (F : L2.Fun K x qual st f fd) (S : FnScope N ps (defScope st)) (len : ∀ vs H Q E, sp vs H Q E → vs.length = ps.length)
    (body : ∀ (cdv : Value) (A : Around) (outer : List Env) (s : Shared) (H : Hp) (vs : List V) (Q : VK) (E : XK), Rm bb k (A.deeper (envOfC qual (defScope st) s.heap.objs.size f cdv)) → sp vs H Q E →
      ∃ t, PSs (cxOf CX P w K mg base N qual (defScope st) f cdv A outer s H E) (defBody st) t ∧ t { nx := fun _ H' => Q .non H', rt := Q } (L2.start N vs) H) : FnG bb P w K mg base CX (k + 1) f fd ps sp := by
  obtain ⟨oc, od, kV, doc, pm, an, cdv, ct, osl, rfl, lk, hc⟩ := F.ex
  constructor
  · exact len
  intro A outer s H args us vs Q E rm e0 bd rv hsp
  have KX : K.In s.heap := e0.mod.kin.keeps fun b o e => (e0.bs b o e).1
  have nl : s.heap.NoLimit := e0.mod.nolimit.keeps fun b o e => (e0.bs b o e).1
  refine codeAny_call_function rm.r.depth (KX _ _ lk) rfl S.co S.gen rfl (PySem.W.codeRec_of KX hc) (bd _ _ _ _ ?_)
  refine wpAny_newFunctionEnv_cells S.kind (fun y hy => ?_) fun env he s1 ic => ?_
  · obtain ⟨n, v⟩ := y
    exact (S.par n (List.of_mem_zip hy).1).imp id fun q => ⟨q, PySem.W.cellsFrom_some _ _ _ (.inl q)⟩
  subst he
  refine ⟨nl.keeps ic.toInCall.keep, codeAny_func ?_⟩
  obtain ⟨t, d, q⟩ := body cdv A outer s H vs Q E (rm.deeper _) hsp
  refine wpAny_mono (d.run [] s1 _ H _ (inv_start S rm.r.hd e0 (len _ _ _ _ hsp) rv ic) q) (fun fl s' z => ?_) fun _ _ z => z
  match fl, z with
  | .ret u, ⟨v, _, H', J, r, q⟩ => exact ⟨v, H', J.os, J.bare, J.base, J.hok, r, q⟩
  | .next, ⟨_, H', J, q⟩ => exact ⟨V.non, H', J.os, J.bare, J.base, J.hok, rfl, q⟩
  | .brk, ⟨_, _, _, q⟩ => exact q.elim
  | .cont, ⟨_, _, _, q⟩ => exact q.elim
end
section
variable {X : Cx} {CX : CXT} {k : Nat} {f C : Addr} {fd : FuncData} {ps ks : List Str} {sp : Sp} {dvs : List V} {ds : List Value} {E : XK} {x m : Str} {p pos apos : Pos} {e o : Expr} {es : List Expr} {kws : List Keyword} {ta : TE} {t tk : TA} {g : List Value → List Value → List Value} {gV : List V → List V → List V}
theorem back {pins : List (Addr × Obj)} {σ : L2.St} {H : Hp} {s s' : Shared} {Q : VK} {r : Result} (hx : Passes CX X E) (I : Inv X pins σ H s) (h : CR CX X.stack X.prog X.w H s Q E r s') :
    (match r with | .ok (.ret u) => EP X pins σ Q u s' | .error e => X.xe e s' | _ => False) := by
  match r, h with
  | .error e, h => exact hx pins σ H s e s' I h
  | .ok (.ret u), h => exact I.after h
  | .ok .next, h => exact h
  | .ok .brk, h => exact h
  | .ok .cont, h => exact h
theorem callG {pins : List (Addr × Obj)} {σ : L2.St} {H : Hp} {s : Shared} {Q : VK} {us : List Value} {vs : List V} (F : FnG bb X.prog X.w X.K X.mg X.base CX k f fd ps sp) (hr : Rm bb k X.A) (hb : Binds X.K fd ps ds) (hd : Vals dvs ds) (hx : Passes CX X E)
    (I : Inv X pins σ H s) (r : Vals vs us) (h : sp (vs ++ dvs) H Q E) : wpAny (model X.prog X.w) X.A (call (.ref f) us) (EP X pins σ Q) X.xe s := by
  have rr := r.append hd
  refine wpAny_call (codeAny_mono (F.run X.A X.stack s H ⟨us, []⟩ (us ++ ds) (vs ++ dvs) Q E hr I.env0 (hb s us I.kIn (by rw [← rr.length]; exact F.len _ _ _ _ h)) rr h) fun r s' z => ?_)
  revert z
  match r with
  | .error _ => exact fun z => back hx I z
  | .ok (.ret _) => exact fun z => back hx I z
  | .ok .next => exact fun z => (back hx I z).elim
  | .ok .brk => exact fun z => (back hx I z).elim
  | .ok .cont => exact fun z => (back hx I z).elim
/-- f(e, ..) -/
theorem pe_callG (F : FnG bb X.prog X.w X.K X.mg X.base CX k f fd ps sp) (hr : Rm bb k X.A) (hg : Gl X x) (hm : X.mg x = some (.ref f)) (hk : PySem.W.keepIn X.K (.ref f) = true) (hb : Binds X.K fd ps ds) (hd : Vals dvs ds) (hx : Passes CX X E)
    (ha : PA X (e :: es) t) (hdb : (x == ("__debug__" : Str)) = false := by decide) (he : starEach (e :: es) X.env = (false, eval e X.env) :: starEach es X.env := by rfl) (hpl : (backTo pos (starEach es X.env)).any (·.1) = false := by rfl) :
    PE X (.Call (.Name x p) (e :: es) [] pos) (tCall sp dvs E t) :=
  ⟨fun pins s σ H Q I h => wpAny_Call_Name_kw (ld_glob I hg hm (PySem.W.callWith_K (h₀ := X.base) I.ok.mod.kin hk (thn (ha.run pos pins s σ H _ I h) fun us s1 ⟨vs, H1, I1, r, q⟩ => ⟨I1.kIn, callG F hr hb hd hx I1 r q⟩) he hpl) hdb)⟩
end
end DVG

/-! DVH: repr of data; the end of a law by a promise of FnG. -/
namespace DVG
open PySem PySem.Spec PyProof.Rows L2
section
variable {X : Cx}
end
/-! ### the end -/
section
variable {P : Program} {w : World} {K : PySem.W.Frag} {mg mb : Str → Option Value} {CX : CXT} {k : Nat} {fa a : Addr} {fd : FuncData} {x : Str} {sp : Sp} {s : Shared} {vs : List Value} {ns : List Int}
/-- how the script lies: tracked (locked), or an object of the module -/
theorem script_heap (KX : K.In s.heap) (ha : s.heap.get? a = some { cls := .type "list", data := .seq vs.toArray }) (hi : IntsAre vs ns) (hl : ns.length ≤ sizeLine) :
    ∃ H : Hp, Only H ∧ SqL K H a (ns.map V.int) ∧ HOk P w H s.heap ∧ (∀ b, H b ≠ none → b = a ∧ K.lookup a = none) := by
  have rv := vals_ints hi
  cases hk : K.lookup a with
  | some o =>
    have e := KX a o hk
    rw [ha] at e; cases e
    exact ⟨fun _ => none, fun _ => .inl rfl, .inr ⟨_, vs.toArray, _, hk, rfl, rfl, rfl, by rw [List.size_toArray, hi.length]; exact hl, by simpa using rv⟩, (fun b u z => by cases z), fun b z => absurd rfl z⟩
  | none =>
    let o : Obj := { cls := .type "list", data := .seq vs.toArray }
    refine ⟨fun b => if b = a then some (.frz o (.lst (ns.map V.int))) else none, fun b => ?_, .inl (.inr ⟨o, if_pos rfl⟩), fun b u z => ?_, fun b z => ?_⟩
    · by_cases hb : b = a
      · exact .inr ⟨_, _, if_pos hb⟩
      · exact .inl (if_neg hb)
    · dsimp only at z
      split at z
      · rename_i hb
        cases z
        subst hb
        exact ⟨ha, by rw [List.length_map]; exact hl, vs, _, rv, ha⟩
      · cases z
    · by_cases hb : b = a
      · exact ⟨hb, rfl⟩
      · exact absurd (if_neg hb) z
theorem lawG (KX : K.In s.heap) (hns : s.heap.Ns mainGlobals mg) (hb : s.heap.Ns builtinsNs mb) (hbb : ∀ x : Str, x ≠ "__name__" → mb x = bootBuiltins x) (hlim : s.heap.NoLimit) (hg : s.gens = #[])
    (ha : s.heap.get? a = some { cls := .type "list", data := .seq vs.toArray }) (hi : IntsAre vs ns) (hl : ns.length ≤ sizeLine) (hr : Rm bb k callerA)
    (F : ∀ base : Heap, K.In base → base.Ns mainGlobals mg → FnG bb P w K mg base CX k fa fd [x] sp) (hbind : ∀ (s : Shared) (u : Value), BindsTo s fd ⟨[u], []⟩ [(x, u)])
    (hsp : ∀ H : Hp, Only H → SqL K H a (ns.map V.int) → sp [.ref a] H (fun v _ => v = .bl true) fun _ _ _ => False) (hCX : ∀ H e s', CX [] H s (fun _ _ _ => False) e s' → False) :
    codeAny (model P w) callerA (.call (.ref fa) ⟨[.ref a], []⟩) (fun r s' => r = .ok (.ret (.bool true)) ∧ OldK s.heap s'.heap ∧ s'.os = s.os ∧ AllBare s'.gens) s := by
  obtain ⟨H, hO, hS, hok, hA⟩ := script_heap (P := P) (w := w) KX ha hi hl
  have free : ∀ {b : Addr} {o : Obj}, s.heap.get? b = some o → (b = a → K.lookup a = none → False) → H b = none := fun {b o} e n => by
    cases q : H b with
    | none => rfl
    | some u => exact (n (hA b (by rw [q]; exact fun z => by cases z)).1 (hA b (by rw [q]; exact fun z => by cases z)).2).elim
  have ns' : ∀ {b : Addr} {m : Str → Option Value}, s.heap.Ns b m → (hidT s.heap H).Ns b m := fun {b m} ⟨o, es, ep, e, d, r⟩ => ⟨o, es, ep, hidT_get e (free e fun z _ => by
    subst z
    rw [ha] at e; cases e
    cases d), d, r⟩
  have hK : K.In (hidT s.heap H) := fun b o e => hidT_get (KX b o e) (free (KX b o e) fun z n => by subst z; rw [n] at e; cases e)
  have e0 : Env0 P w K mg (hidT s.heap H) callerA [] s H := ⟨rfl, ⟨hK, ns' hns, ⟨mb, ns' hb, hbb⟩, let ⟨mc, h1, h2⟩ := hlim; ⟨mc, ns' h1, h2⟩⟩, fun b o e => of_hidT e, Nat.le_of_eq (hidT_size _ _), trivial, fun b z => absurd (show b ∈ ([] : List Addr) from z) (by simp), hok, .of_eq hg⟩
  refine codeAny_mono ((F _ hK (ns' hns)).run callerA [] s H ⟨[.ref a], []⟩ [.ref a] [.ref a] _ _ hr e0 (hbind s (.ref a)) (.cons rfl .nil) (hsp H hO hS)) fun r s' h => ?_
  match r, h with
  | .error e, h => exact (hCX H e s' h).elim
  | .ok .next, h => exact False.elim h
  | .ok .brk, h => exact False.elim h
  | .ok .cont, h => exact False.elim h
  | .ok (.ret u), ⟨v, H', os, bare, un, hok', rv, q⟩ =>
    have q' : v = .bl true := q
    subst q'
    cases (show u = Value.bool true from rv)
    refine ⟨rfl, OldK.of_keep fun b o e => ?_, os, bare⟩
    rcases hO b with z | ⟨ob, xs, z⟩
    · exact un.keep b o e z (fun y => absurd (show b ∈ ([] : List Addr) from y) (by simp)) (by simp)
    · obtain ⟨e1, _⟩ := hok b _ z
      obtain ⟨e2, _⟩ := hok' b _ (un.frzs b ob _ z)
      rw [e] at e1; cases e1
      exact e2
end
theorem walkG {l : PySem.W.OpenLaw} {n k : Nat} {q : Program} {loose : List Str} {XP : (Str → Option Value) → Heap → Prop} {YP : World → Heap → Prop} {d : DefRec} {K : Params → PySem.W.Frag} {CX : World → CXT} {sp : World → Sp} {x : Str}
    (hn : l.most = some n) (hn2 : n ≤ sizeLine) (hdf : d.params.defaults = []) (hr : Rm bb k callerA) (hY : ∀ (w : World) (h : Heap), YP w h → (K w.params).In h)
    (F : ∀ (w : World) (mg : Str → Option Value) (fa : Addr) (h : Heap), (K w.params).In h → h.Ns mainGlobals mg → mg d.name = some (.ref fa) →
      ∃ fd : FuncData, (∀ (s : Shared) (u : Value), BindsTo s fd ⟨[u], []⟩ [(x, u)]) ∧ ∀ base : Heap, (K w.params).In base → base.Ns mainGlobals mg → FnG bb l.prog w (K w.params) mg base (CX w) k fa fd [x] (sp w))
    (hsp : ∀ (w : World) (H : Hp) (a : Addr) (ns : List Int), ns.length ≤ n → (∀ z ∈ ns, Builtin.Int.intBits z ≤ 1048576) → Only H → SqL (K w.params) H a (ns.map V.int) → sp w [.ref a] H (fun v _ => v = .bl true) fun _ _ _ => False)
    (hCX : ∀ (w : World) (H : Hp) (s : Shared) (e : Value) (s' : Shared), CX w [] H s (fun _ _ _ => False) e s' → False) :
    PySem.W.WalkO q loose XP YP l.row.toRowW d [] (fun f vs => PySem.call f vs) := by
  refine Att.attach_callB hn hdf fun w s₀ s mg mb fa o pm cd doc a vs ns G Y ho hd hcd hmg hobj hints hlen hbits hg => ?_
  obtain ⟨fd, hb, hF⟩ := F w mg fa _ (hY w _ Y) G.T.g hmg
  exact lawG (hY w _ Y) G.T.g G.T.b G.T.builtins G.T.nolimit hg hobj hints (Nat.le_trans hlen hn2) hr hF hb (fun H hO hS => hsp w H a ns hlen hbits hO hS) fun H e s' => hCX w H s e s'
theorem rm_caller {k : Nat} (h : Room k callerA) : Rm bb k callerA := ⟨h, fun _ => rfl⟩
end DVG

/-! DV5: defs and their calls. -/
namespace DV
open PySem PySem.Spec PyProof.Rows L2

inductive Ret where
  | dat (d : D) | fre (d : D)
def Ret.o : Ret → O
  | .dat d => .dat d
  | .fre d => .fre d
abbrev FD := List D → Option (Ret × D)
def ArgRep (K : PySem.W.Frag) (R : Reg) (H : Hp) (bo : Option Nat) (ds : List D) (vs : List V) : Prop :=
  ds.length = vs.length ∧ ∀ (i : Nat) (d : D) (v : V), ds[i]? = some d → vs[i]? = some v → (bo = some i → ∃ a, v = .ref a ∧ ¬ R a ∧ RepTop K R H d a) ∧ (bo ≠ some i → RepV K R H d v)
def BoA (bo : Option Nat) (vs : List V) : Addr → Prop := fun a => ∃ i, bo = some i ∧ vs[i]? = some (V.ref a)
def entry (bo : Option Nat) (ds : List D) (n : Nat) : Env := match bo with
  | none => ds.map Sl.val ++ List.replicate (n - ds.length) Sl.un
  | some i => (ds.map Sl.val ++ List.replicate (n - ds.length) Sl.un).set i (.brw (ds.getD i .non))
def resOf : O → Env → Option Ret
  | .dat d, _ => some (.dat d)
  | .fre d, _ => some (.fre d)
  | .cel k, _ => some (.dat (.cel k))
  | .own i, δ => match δ[i]? with
    | some (.own d) => some (.fre d)
    | some (.val d) => some (.dat d)
    | _ => none
def outOf (bo : Option Nat) (δ : Env) : Option D := match bo with
  | none => some .non
  | some i => match δ[i]? with
    | some (.brw d) => some d
    | _ => none
def defF (bo : Option Nat) (n : Nat) (body : MS) : FD := fun ds => if (bo.all fun i => decide (i < ds.length)) = true then (body (entry bo ds n)).bind fun fl => match fl with
  | .nx δ => (outOf bo δ).bind fun m => some (.dat .non, m)
  | .rt o δ => (resOf o δ).bind fun r => (outOf bo δ).bind fun m => some (r, m)
  | _ => none
  else none
structure DefEnd (K : PySem.W.Frag) (bo : Option Nat) (R : Reg) (H : Hp) (vs : List V) (r : Ret) (m : D) (v : V) (R' : Reg) (H' : Hp) : Prop where
  sub : SubR R R'
  gq : R'.g = R.g
  fresh : ∀ a, R' a → R a ∨ H a = none
  frame : ∀ a o, H a = some o → ¬ BoA bo vs a → H' a = some o
  alv : ∀ a, H a ≠ none → H' a ≠ none
  tr : ∀ a, R' a → H' a ≠ none
  out : ∀ a, BoA bo vs a → ¬ R' a ∧ RepTop K R' H' m a
  res : match r with
    | .dat d => RepV K R' H' d v
    | .fre d => ∃ a, v = .ref a ∧ ¬ R' a ∧ H a = none ∧ RepTop K R' H' d a
def spD (K : PySem.W.Frag) (bo : Option Nat) (n : Nat) (F : FD) : Sp := fun vs H Q _ => vs.length = n ∧ ∃ R ds r m, ArgRep K R H bo ds vs ∧ (∀ a, R a → H a ≠ none) ∧ F ds = some (r, m) ∧ ∀ v R' H', DefEnd K bo R H vs r m v R' H' → Q v H'
section
variable {K : PySem.W.Frag} {F : Fx} {R R1 R' : Reg} {H H1 H' : Hp} {δ δ1 δ' : Env} {σ σ' : L2.St}
def fx (bo : Option Nat) (R : Reg) (H : Hp) (vs : List V) (N : List Str) : Fx := ⟨H, BoA bo vs, R, L2.start N vs, false⟩
theorem start_get {N : List Str} {vs : List V} {i : Nat} {v : V} (h : vs[i]? = some v) : (L2.start N vs)[i]? = some (some v) := by
  have hl := (List.getElem?_eq_some_iff.mp h).1
  unfold L2.start
  rw [List.getElem?_append_left (by rw [List.length_map]; exact hl), List.getElem?_map, h]; rfl
theorem base_get {ds : List D} {n i : Nat} {s : Sl} (h : (ds.map Sl.val ++ List.replicate n Sl.un)[i]? = some s) : (∃ d, ds[i]? = some d ∧ s = .val d) ∨ s = .un := by
  by_cases hl : i < ds.length
  · rw [List.getElem?_append_left (by rw [List.length_map]; exact hl), List.getElem?_map] at h
    cases e : ds[i]? with
    | none => rw [e] at h; cases h
    | some d => rw [e] at h; cases h; exact .inl ⟨d, rfl, rfl⟩
  · rw [List.getElem?_append_right (by rw [List.length_map]; omega)] at h
    have := List.mem_of_getElem? h
    exact .inr (List.eq_of_mem_replicate this)
theorem entry_get {bo : Option Nat} {ds : List D} {n i : Nat} {s : Sl} (h : (entry bo ds n)[i]? = some s) :
    (bo = some i ∧ s = .brw (ds.getD i .non)) ∨ (bo ≠ some i ∧ ∃ d, ds[i]? = some d ∧ s = .val d) ∨ s = .un := by
  cases bo with
  | none =>
    rcases base_get (n := n - ds.length) h with z | z
    · exact .inr (.inl ⟨(fun q => by cases q), z⟩)
    · exact .inr (.inr z)
  | some j =>
    rcases set_get h with ⟨q1, q2⟩ | ⟨q1, q2⟩
    · subst q1; exact .inl ⟨rfl, q2⟩
    · rcases base_get q2 with z | z
      · exact .inr (.inl ⟨fun q => q1 (Option.some.inj q), z⟩)
      · exact .inr (.inr z)
theorem entry_sto {bo : Option Nat} {ds : List D} {n i : Nat} {es : List D} (h : (entry bo ds n)[i]? = some (.sto es)) : False := by
  rcases entry_get h with ⟨_, q⟩ | ⟨_, _, _, q⟩ | q
  · cases q
  · cases q
  · cases q
theorem entry_len {bo : Option Nat} {ds : List D} {n : Nat} : (entry bo ds n).length = ds.length + (n - ds.length) := by
  cases bo with
  | none => simp [entry]
  | some j => simp [entry]
theorem wd_entry {bo : Option Nat} {ds : List D} {vs : List V} {N : List Str} (ha : ArgRep K R H bo ds vs) (ht : ∀ a, R a → H a ≠ none) (hb : (bo.all fun i => decide (i < ds.length)) = true) :
    Wd K (fx bo R H vs N) R H (entry bo ds N.length) (L2.start N vs) := by
  obtain ⟨hl, hv⟩ := ha
  have hlen : (entry bo ds N.length).length = (L2.start N vs).length := by
    rw [entry_len]; unfold L2.start; simp [hl]
  have brw : ∀ i d, (entry bo ds N.length)[i]? = some (.brw d) → bo = some i ∧ ∃ a, vs[i]? = some (V.ref a) ∧ ¬ R a ∧ RepTop K R H d a := fun i d h => by
    rcases entry_get h with ⟨q1, q2⟩ | ⟨_, _, _, q⟩ | q
    · cases q2
      subst q1
      have hi : i < ds.length := by simpa using hb
      have hi2 : i < vs.length := by rw [← hl]; exact hi
      obtain ⟨a, e, n, t⟩ := (hv i ds[i] vs[i] (by simp [hi]) (by simp [hi2])).1 rfl
      refine ⟨rfl, a, by rw [← e]; simp [hi2], n, ?_⟩
      have : ds.getD i .non = ds[i] := by simp [hi]
      rw [this]; exact t
    · cases q
    · cases q
  refine ⟨fun i s h => ?_, hlen, fun i j s t a h1 h2 h3 h4 h5 h6 => ?_, fun a ⟨_, i, ds', z⟩ => (entry_sto z).elim, fun i d a h g => ?_, fun i d a h g => ?_, fun a ⟨_, i, ds', z⟩ => (entry_sto z).elim, fun i j _ _ z => (entry_sto z).elim, fun _ => rfl, fun a o h _ => h, SubR.refl, fun a h => ⟨.inl h, ht a h⟩, fun _ _ _ => rfl, fun a h => h, Keep.refl⟩
  · have hi : i < (L2.start N vs).length := by rw [← hlen]; exact (List.getElem?_eq_some_iff.mp h).1
    rcases entry_get h with ⟨q1, q2⟩ | ⟨q1, d, q2, q3⟩ | q
    · subst q2
      obtain ⟨_, a, e, n, t⟩ := brw i _ h
      exact ⟨some (.ref a), start_get e, a, rfl, n, t⟩
    · subst q3
      have hd := (List.getElem?_eq_some_iff.mp q2).1
      have hi2 : i < vs.length := by rw [← hl]; exact hd
      exact ⟨some vs[i], start_get (by simp [hi2]), (hv i d vs[i] q2 (by simp [hi2])).2 q1⟩
    · subst q
      exact ⟨(L2.start N vs)[i], by simp [hi], trivial⟩
  · have hh : ∀ k u, (entry bo ds N.length)[k]? = some u → u.own? = true → bo = some k := fun k u h ho => by
      rcases entry_get h with ⟨q1, q2⟩ | ⟨_, _, _, q⟩ | q
      · exact q1
      · subst q; cases ho
      · subst q; cases ho
    have e1 := hh i s h1 h3
    have e2 := hh j t h2 h4
    rw [e1] at e2; exact Option.some.inj e2
  · rcases entry_get h with ⟨q1, q2⟩ | ⟨_, _, _, q⟩ | q
    · cases q2
    · cases q
    · cases q
  · obtain ⟨e, b, hb, _⟩ := brw i d h
    rw [start_get hb] at g
    cases g
    exact ⟨i, e, hb⟩
theorem def_end {bo : Option Nat} {vs : List V} {N : List Str} {o : O} {v : V} {r : Ret} {m : D} (w : Wd K (fx bo R H vs N) R' H' δ σ) (ro : RepO K (fx bo R H vs N) R' H' δ σ o v) (hr : resOf o δ = some r) (hm : outOf bo δ = some m) :
    DefEnd K bo R H vs r m v R' H' := by
  refine ⟨w.sub, w.gun rfl, fun a h => (w.new a h).1, w.fr, w.alv, fun a h => (w.new a h).2, fun a h => ?_, ?_⟩
  · obtain ⟨i, rfl, e⟩ := h
    unfold outOf at hm
    simp only at hm
    cases q : δ[i]? with
    | none => rw [q] at hm; cases hm
    | some s =>
      rw [q] at hm
      cases s with
      | brw d =>
        cases hm
        obtain ⟨ov, h1, h2⟩ := w.rep i _ q
        have h3 := w.muts i _ q
        have h4 : (fx (some i) R H vs N).s0[i]? = some (some (.ref a)) := start_get e
        rw [h1, h4] at h3
        cases h3
        obtain ⟨b, e2, n, t⟩ := h2
        cases e2
        exact ⟨n, t⟩
      | _ => cases hm
  · cases o with
    | dat d => cases hr; exact ro
    | cel k => cases hr; exact ro
    | fre d =>
      cases hr
      obtain ⟨a, e, n, _, h0, t⟩ := ro
      exact ⟨a, e, n, h0, t⟩
    | own i =>
      simp only [resOf] at hr
      have ro' : σ[i]? = some (some v) := ro
      cases q : δ[i]? with
      | none => rw [q] at hr; cases hr
      | some s =>
        rw [q] at hr
        obtain ⟨ov, h1, h2⟩ := w.rep i _ q
        rw [ro'] at h1; cases h1
        cases s with
        | un => cases hr
        | sto d => cases hr
        | brw d => cases hr
        | val d => cases hr; exact h2
        | own d =>
          cases hr
          obtain ⟨a, e, n, t⟩ := h2
          subst e
          exact ⟨a, rfl, n, w.loc i d a q ro', t⟩
end
section
variable {P : Program} {w : World} {K : PySem.W.Frag} {mg : Str → Option Value} {base : Heap}
/-- a def keeps the promise of its function on data -/
theorem fn_d {x qual : Str} {st : Stmt} {f : Addr} {fd : FuncData} {N ps : List Str} {k : Nat} {bo : Option Nat} {t : TS} {body : MS} (F : L2.Fun K x qual st f fd) (S : FnScope N ps (defScope st))
    (hb : ∀ (cdv : Value) (A : Around) (outer : List PySem.Env) (s : Shared) (H : Hp) (E : XK), DVG.Rm bb k (A.deeper (envOfC qual (defScope st) s.heap.objs.size f cdv)) → PSs (cxOf CX0 P w K mg base N qual (defScope st) f cdv A outer s H E).nox (defBody st) t)
    (he : EvS K t body) : DVG.FnG bb P w K mg base CX0 (k + 1) f fd ps (spD K bo ps.length (defF bo N.length body)) := by
  refine DVG.fnG F S (fun vs H Q E h => h.1) fun cdv A outer s H vs Q E hr h => ⟨t, (hb cdv A outer s H E hr).nox, ?_⟩
  obtain ⟨hl, R, ds, r, m, ha, ht, hF, q⟩ := h
  unfold defF at hF
  split at hF
  · rename_i hbo
    obtain ⟨fl, e1, hF⟩ := Option.bind_eq_some_iff.mp hF
    refine he (fx bo R H vs N) R H _ _ fl (wd_entry ha ht hbo) e1 _ ?_
    cases fl with
    | nx δ =>
      obtain ⟨m', e2, hF⟩ := Option.bind_eq_some_iff.mp hF
      cases hF
      exact fun σ' R' H' w' _ => q _ R' H' (def_end (o := .dat .non) w' rfl rfl e2)
    | rt o δ =>
      obtain ⟨r', e2, hF⟩ := Option.bind_eq_some_iff.mp hF
      obtain ⟨m', e3, hF⟩ := Option.bind_eq_some_iff.mp hF
      cases hF
      exact fun v σ' R' H' w' _ ro => q v R' H' (def_end w' ro e2 e3)
    | bk δ => cases hF
    | ct δ => cases hF
  · cases hF
end
end DV

/-! DV6: calls. -/
namespace DV
open PySem PySem.Spec PyProof.Rows L2

def derefs (δ : Env) : List O → Option (List D)
  | [] => some []
  | o :: os => (deref δ o).bind fun d => (derefs δ os).bind fun ds => some (d :: ds)
def putBack (bo : Option Nat) (os : List O) (δ : Env) (m : D) : Option Env := match bo with
  | none => some δ
  | some i => match os[i]? with
    | some (.own j) => match δ[j]? with
      | some (.own _) => some (δ.set j (.own m))
      | some (.brw _) => some (δ.set j (.brw m))
      | _ => none
    | _ => none
/-- all but the borrowed one are values -/
def plainB (bo : Option Nat) : Nat → List O → Bool
  | _, [] => true
  | i, o :: os => (match o with | .dat _ => true | _ => decide (bo = some i)) && plainB bo (i + 1) os
mutual
def flatD : D → Bool
  | .non => true | .bl _ => true | .int _ => true | .str _ => true | .con _ => true
  | .tup ds => flatDs ds
  | _ => false
def flatDs : List D → Bool
  | [] => true
  | d :: ds => flatD d && flatDs ds
end
def flatT : D → Bool
  | .non => true
  | .lst ds => flatDs ds
  | .ins _ _ ds => flatDs ds
  | .dic _ ds => flatDs ds
  | .dit _ ds => flatDs ds
  | _ => false
def flatR : Ret → Bool
  | .dat d => flatD d
  | .fre d => flatT d
section
variable {K : PySem.W.Frag} {F : Fx} {R R1 R2 R' : Reg} {H H1 H' : Hp} {δ δ1 δ' : Env} {σ σ' : L2.St}
mutual
theorem flat_rep : ∀ {d : D} {v : V}, flatD d = true → RepV K R H d v → RepV K R2 H d v
  | .non, _, _, h => h
  | .bl _, _, _, h => h
  | .int _, _, _, h => h
  | .str _, _, _, h => h
  | .con _, _, _, h => h
  | .tup ds, _, f, ⟨a, vs, e, h, g⟩ => ⟨a, vs, e, h, flat_reps (by simpa [flatD] using f) g⟩
  | .lst _, _, f, _ => by simp [flatD] at f
  | .ro _, _, f, _ => by simp [flatD] at f
  | .ins _ _ _, _, f, _ => by simp [flatD] at f
  | .dic _ _, _, f, _ => by simp [flatD] at f
  | .dit _ _, _, f, _ => by simp [flatD] at f
theorem flat_reps : ∀ {ds : List D} {vs : List V}, flatDs ds = true → RepVs K R H ds vs → RepVs K R2 H ds vs
  | [], _, _, h => h
  | d :: ds, _, f, ⟨v, r, e, h, g⟩ => by
    have f' : flatD d = true ∧ flatDs ds = true := by simpa [flatDs] using f
    exact ⟨v, r, e, flat_rep f'.1 h, flat_reps f'.2 g⟩
end
theorem flat_top {d : D} {a : Addr} (f : flatT d = true) (h : RepTop K R H d a) : RepTop K R2 H d a := by
  cases d with
  | lst ds => obtain ⟨vs, h1, h2⟩ := h; exact ⟨vs, h1, flat_reps f h2⟩
  | ins C ks ds => obtain ⟨dx, vs, h1, l, h2⟩ := h; exact ⟨dx, vs, h1, l, flat_reps f h2⟩
  | dic ks ds => obtain ⟨vs, h1, l, h2⟩ := h; exact ⟨vs, h1, l, flat_reps f h2⟩
  | dit ks ds => obtain ⟨vs, h1, l, h2⟩ := h; exact ⟨vs, h1, l, flat_reps f h2⟩
  | _ => exact h.elim
theorem RepOs.length : ∀ {os : List O} {vs : List V}, RepOs K F R H δ σ os vs → os.length = vs.length
  | [], vs, h => by rw [show vs = [] from h]; rfl
  | o :: os, vs, ⟨v, r, e, _, h⟩ => by rw [e, List.length_cons, List.length_cons, h.length]
theorem RepOs.get : ∀ {os : List O} {vs : List V} {i : Nat} {o : O} {v : V}, RepOs K F R H δ σ os vs → os[i]? = some o → vs[i]? = some v → RepO K F R H δ σ o v
  | [], _, i, _, _, _, e, _ => by simp at e
  | o :: os, vs, 0, o', v', ⟨v, r, e, h, _⟩, e1, e2 => by subst e; simp at e1 e2; subst e1; subst e2; exact h
  | o :: os, vs, i + 1, o', v', ⟨v, r, e, _, h⟩, e1, e2 => by subst e; exact RepOs.get (i := i) h (by simpa using e1) (by simpa using e2)
theorem derefs_get : ∀ {os : List O} {ds : List D} {i : Nat} {d : D}, derefs δ os = some ds → ds[i]? = some d → ∃ o, os[i]? = some o ∧ deref δ o = some d
  | [], ds, i, d, h, e => by cases h; simp at e
  | o :: os, ds, i, d, h, e => by
    obtain ⟨d1, h1, h⟩ := Option.bind_eq_some_iff.mp h
    obtain ⟨ds1, h2, h⟩ := Option.bind_eq_some_iff.mp h
    cases h
    cases i with
    | zero => simp at e; subst e; exact ⟨o, rfl, h1⟩
    | succ i => obtain ⟨o', q1, q2⟩ := derefs_get (i := i) h2 (by simpa using e); exact ⟨o', by simpa using q1, q2⟩
theorem derefs_len : ∀ {os : List O} {ds : List D}, derefs δ os = some ds → ds.length = os.length
  | [], ds, h => by cases h; rfl
  | o :: os, ds, h => by
    obtain ⟨d1, h1, h⟩ := Option.bind_eq_some_iff.mp h
    obtain ⟨ds1, h2, h⟩ := Option.bind_eq_some_iff.mp h
    cases h
    rw [List.length_cons, List.length_cons, derefs_len h2]
theorem plainB_get : ∀ {os : List O} {bo : Option Nat} {j i : Nat} {o : O}, plainB bo j os = true → os[i]? = some o → bo ≠ some (j + i) → ∃ d, o = .dat d
  | [], _, _, i, _, _, e, _ => by simp at e
  | o :: os, bo, j, 0, o', h, e, n => by
    simp at e; subst e
    unfold plainB at h
    rw [Bool.and_eq_true] at h
    cases o with
    | dat d => exact ⟨d, rfl⟩
    | own _ => exact absurd (of_decide_eq_true h.1) n
    | fre _ => exact absurd (of_decide_eq_true h.1) n
    | cel _ => exact absurd (of_decide_eq_true h.1) n
  | o :: os, bo, j, i + 1, o', h, e, n => by
    unfold plainB at h
    rw [Bool.and_eq_true] at h
    exact plainB_get (j := j + 1) (i := i) h.2 (by simpa using e) (by rw [show j + 1 + i = j + (i + 1) by omega]; exact n)
/-- what putBack tells of the borrowed argument -/
theorem put_some {i : Nat} {os : List O} {m : D} (h : putBack (some i) os δ m = some δ') : ∃ j, os[i]? = some (.own j) ∧ ((∃ d, δ[j]? = some (.own d) ∧ δ' = δ.set j (.own m)) ∨ ∃ d, δ[j]? = some (.brw d) ∧ δ' = δ.set j (.brw m)) := by
  simp only [putBack] at h
  split at h
  · rename_i j e
    split at h
    · rename_i d q; cases h; exact ⟨j, e, .inl ⟨_, q, rfl⟩⟩
    · rename_i d q; cases h; exact ⟨j, e, .inr ⟨_, q, rfl⟩⟩
    · cases h
  · cases h
/-- the world behind a call: Rn is the region that is kept -/
theorem call_world {bo : Option Nat} {os : List O} {vs : List V} {r : Ret} {m : D} {v : V} {Rc Rn : Reg} (w : Wd K F R H δ σ) (ro : RepOs K F R H δ σ os vs) (hp : putBack bo os δ m = some δ')
    (de : DefEnd K bo Rc H vs r m v R' H') (sub : SubR R Rn) (gq : Rn.g = R.g) (sub2 : ∀ a, Rn a → R' a) (fresh : ∀ a, Rn a → R a ∨ H a = none) (tr : ∀ a, Rn a → H' a ≠ none) (out : ∀ a, BoA bo vs a → RepTop K Rn H' m a) :
    Wd K F Rn H' δ' σ ∧ Ext δ δ' σ R H Rn H' ∧ ∀ a, OwnA Rn δ' σ a → OwnA R δ σ a := by
  have hbo : ∀ a, BoA bo vs a → ∃ j s, δ[j]? = some s ∧ s.own? = true ∧ σ[j]? = some (some (V.ref a)) ∧ ∃ i, bo = some i ∧ os[i]? = some (.own j) := fun a ⟨i, e1, e2⟩ => by
    subst e1
    obtain ⟨j, q1, q2⟩ := put_some hp
    have q3 : σ[j]? = some (some (V.ref a)) := ro.get q1 e2
    rcases q2 with ⟨d, q2, _⟩ | ⟨d, q2, _⟩
    · exact ⟨j, _, q2, rfl, q3, i, rfl, q1⟩
    · exact ⟨j, _, q2, rfl, q3, i, rfl, q1⟩
  have hsl : ∀ a, BoA bo vs a → SlotA δ σ a := fun a h => by
    obtain ⟨j, s, q1, q2, q3, _⟩ := hbo a h
    exact ⟨j, s, q1, q2, q3⟩
  have hown : ∀ a, BoA bo vs a → OwnA R δ σ a := fun a h => .inl (hsl a h)
  -- slots behind
  have shape : ∀ (k : Nat) (s : Sl), δ'[k]? = some s → δ[k]? = some s ∨ ∃ i, bo = some i ∧ os[i]? = some (.own k) ∧ ((∃ d, δ[k]? = some (.own d) ∧ s = .own m) ∨ ∃ d, δ[k]? = some (.brw d) ∧ s = .brw m) := fun k s h => by
    cases bo with
    | none => cases hp; exact .inl h
    | some i =>
      obtain ⟨j, q1, ⟨d, q2, q3⟩ | ⟨d, q2, q3⟩⟩ := put_some hp
      · subst q3
        rcases set_get h with ⟨z1, z2⟩ | ⟨_, z⟩
        · subst z1; exact .inr ⟨i, rfl, q1, .inl ⟨d, q2, z2⟩⟩
        · exact .inl z
      · subst q3
        rcases set_get h with ⟨z1, z2⟩ | ⟨_, z⟩
        · subst z1; exact .inr ⟨i, rfl, q1, .inr ⟨d, q2, z2⟩⟩
        · exact .inl z
  have len : δ'.length = δ.length := by
    cases bo with
    | none => cases hp; rfl
    | some i =>
      obtain ⟨j, q1, ⟨d, q2, q3⟩ | ⟨d, q2, q3⟩⟩ := put_some hp
      · rw [q3]; simp
      · rw [q3]; simp
  have st : ∀ (k : Nat) (ds : List D), δ'[k]? = some (.sto ds) → δ[k]? = some (.sto ds) := fun k ds h => by
    rcases shape k _ h with z | ⟨i, _, _, ⟨d, _, z⟩ | ⟨d, _, z⟩⟩
    · exact z
    · cases z
    · cases z
  have ob : ∀ a, OwnA Rn δ' σ a → OwnA R δ σ a := fun a h => by
    rcases h with ⟨k, s, h1, h2, h3⟩ | ⟨h, k, ds, h1⟩
    · rcases shape k s h1 with z | ⟨i, _, _, ⟨d, z, _⟩ | ⟨d, z, _⟩⟩
      · exact .inl ⟨k, s, z, h2, h3⟩
      · exact .inl ⟨k, _, z, rfl, h3⟩
      · exact .inl ⟨k, _, z, rfl, h3⟩
    · exact .inr ⟨by rw [gq] at h; exact h, k, ds, st k ds h1⟩
  have ex : Ext δ δ' σ R H Rn H' := ⟨sub, fun a h => (fresh a h).elim .inl fun z => .inr (.inl z), fun a o h n => de.frame a o h fun z => n (hown a z), fun a h => .inl (ob a h), de.alv⟩
  have kp := ex.keep w
  have nR : ∀ a, OwnA R δ σ a → ¬ Rn a := fun a h z => by
    obtain ⟨n, o, ho, _⟩ := w.ownAt h
    rcases fresh a z with z | z
    · exact n z
    · rw [z] at ho; cases ho
  have celF : ∀ (k : Nat) (s : Sl), δ[k]? = some s → s.gh = true → ∀ a ∈ R.g, ¬ Rn a ∧ H' a = H a := fun k s z hg a ha => by
    have ca : CelA R δ a := by
      cases s with
      | sto ds => exact ⟨ha, k, ds, z⟩
      | _ => cases hg
    refine ⟨nR a (.inr ca), ?_⟩
    obtain ⟨_, o, ho, _⟩ := w.ownAt (.inr ca)
    rw [ho]
    exact de.frame a o ho fun hb => w.disC a ca (hsl a hb)
  refine ⟨w.next ex len (fun k s h => ?_) (fun k d h => ?_) (fun k d h => ?_) (fun k ds h => ⟨ds, st k ds h⟩) gq fun a h => ⟨?_, tr a h⟩, ex, ob⟩
  · have new : ∀ d, δ[k]? = some d → d.own? = true → (∃ i, bo = some i ∧ os[i]? = some (.own k)) → ∃ a, σ[k]? = some (some (V.ref a)) ∧ ¬ Rn a ∧ RepTop K Rn H' m a := fun d q ho ⟨i, e1, e2⟩ => by
      obtain ⟨ov, h1, h2⟩ := w.rep k d q
      have hl : i < vs.length := by rw [← ro.length]; exact (List.getElem?_eq_some_iff.mp e2).1
      have h3 : σ[k]? = some (some vs[i]) := ro.get e2 (by simp [hl])
      rw [h3] at h1; cases h1
      have : ∃ a, vs[i] = V.ref a := by
        cases d with
        | un => cases ho
        | sto d => cases h2.1
        | val d => cases ho
        | own d => obtain ⟨a, e, _⟩ := h2; exact ⟨a, e⟩
        | brw d => obtain ⟨a, e, _⟩ := h2; exact ⟨a, e⟩
      obtain ⟨a, e⟩ := this
      have hB : BoA bo vs a := ⟨i, e1, by rw [← e]; simp [hl]⟩
      exact ⟨a, by rw [h3, e], nR a (hown a hB), out a hB⟩
    rcases shape k s h with z | ⟨i, e1, e2, ⟨d, z, q⟩ | ⟨d, z, q⟩⟩
    · obtain ⟨ov, h1, h2⟩ := w.rep k s z
      by_cases hk : ∃ i, bo = some i ∧ os[i]? = some (.own k)
      · by_cases ho : s.own? = true
        · obtain ⟨i, e1, e2⟩ := hk
          subst e1
          obtain ⟨j, q1, ⟨d, q2, q3⟩ | ⟨d, q2, q3⟩⟩ := put_some hp
          · rw [e2] at q1; cases q1
            rw [q3] at h
            have hkl := (List.getElem?_eq_some_iff.mp q2).1
            rw [List.getElem?_set_self hkl] at h
            cases h
            obtain ⟨a, h3, h4, h5⟩ := new _ q2 rfl ⟨i, rfl, e2⟩
            exact ⟨_, h3, a, rfl, h4, h5⟩
          · rw [e2] at q1; cases q1
            rw [q3] at h
            have hkl := (List.getElem?_eq_some_iff.mp q2).1
            rw [List.getElem?_set_self hkl] at h
            cases h
            obtain ⟨a, h3, h4, h5⟩ := new _ q2 rfl ⟨i, rfl, e2⟩
            exact ⟨_, h3, a, rfl, h4, h5⟩
        · exact ⟨ov, h1, h2.keep kp (fun _ => gq) (celF k s z) fun a q _ => absurd q ho⟩
      · refine ⟨ov, h1, h2.keep kp (fun _ => gq) (celF k s z) fun a q e => ?_⟩
        rw [e] at h1
        have oa : OwnA R δ σ a := .inl ⟨k, s, z, q, h1⟩
        refine ⟨nR a oa, ?_⟩
        obtain ⟨_, o, ho, _⟩ := w.ownAt oa
        rw [ho]
        refine de.frame a o ho fun hb => hk ?_
        obtain ⟨j, s', q1, q2, q3, i, q4, q5⟩ := hbo a hb
        have : j = k := w.dis j k s' s a q1 z q2 q q3 h1
        subst this
        exact ⟨i, q4, q5⟩
    · subst q
      obtain ⟨a, h3, h4, h5⟩ := new _ z rfl ⟨i, e1, e2⟩
      exact ⟨_, h3, a, rfl, h4, h5⟩
    · subst q
      obtain ⟨a, h3, h4, h5⟩ := new _ z rfl ⟨i, e1, e2⟩
      exact ⟨_, h3, a, rfl, h4, h5⟩
  · rcases shape k _ h with z | ⟨i, e1, e2, ⟨d', z, q⟩ | ⟨d', z, q⟩⟩
    · exact ⟨d, z⟩
    · exact ⟨d', z⟩
    · cases q
  · rcases shape k _ h with z | ⟨i, e1, e2, ⟨d', z, q⟩ | ⟨d', z, q⟩⟩
    · exact ⟨d, z⟩
    · cases q
    · exact ⟨d', z⟩
  · rcases fresh a h with z | z
    · exact (w.new a z).1
    · exact .inr (w.H0none z)
/-- the borrowed argument stands as it should -/
theorem bor_rep {bo : Option Nat} {os : List O} {vs : List V} {m d : D} {v : V} {i : Nat} (w : Wd K F R H δ σ) (ro : RepOs K F R H δ σ os vs) (hp : putBack bo os δ m = some δ') (hb : bo = some i) (hd : (os[i]?).bind (deref δ) = some d) (hv : vs[i]? = some v) :
    ∃ a, v = .ref a ∧ OwnA R δ σ a ∧ RepTop K R H d a := by
  subst hb
  obtain ⟨j, q1, q2⟩ := put_some hp
  rw [q1] at hd
  have q3 : σ[j]? = some (some v) := ro.get q1 hv
  have hd' : (δ[j]?).bind Sl.d? = some d := hd
  rcases q2 with ⟨d0, q2, _⟩ | ⟨d0, q2, _⟩
  · rw [q2] at hd'; cases hd'
    obtain ⟨ov, h1, h2⟩ := w.rep j _ q2
    rw [q3] at h1; cases h1
    obtain ⟨a, e, n, t⟩ := h2
    subst e
    exact ⟨a, rfl, .inl ⟨j, _, q2, rfl, q3⟩, t⟩
  · rw [q2] at hd'; cases hd'
    obtain ⟨ov, h1, h2⟩ := w.rep j _ q2
    rw [q3] at h1; cases h1
    obtain ⟨a, e, n, t⟩ := h2
    subst e
    exact ⟨a, rfl, .inl ⟨j, _, q2, rfl, q3⟩, t⟩
/-- a call all of whose arguments but the borrowed one are values -/
def callP (bo : Option Nat) (n : Nat) (f : FD) (os : List O) (δ : Env) : Option (O × Env) := if (decide (os.length = n) && plainB bo 0 os) = true then
  (derefs δ os).bind fun ds => (f ds).bind fun p => (putBack bo os δ p.2).bind fun δ2 => some (p.1.o, δ2) else none
theorem call_plain {bo : Option Nat} {n : Nat} {f : FD} {os : List O} {vs : List V} {o : O} (w : Wd K F R H δ σ) (ro : RepOs K F R H δ σ os vs) (h : callP bo n f os δ = some (o, δ')) (Q : VK) (E : XK)
    (q : ∀ v R' H', Wd K F R' H' δ' σ → Ext δ δ' σ R H R' H' → RepO K F R' H' δ' σ o v → FreO H o v → Q v H') : spD K bo n f vs H Q E := by
  unfold callP at h
  split at h
  case isFalse => cases h
  rename_i hc
  rw [Bool.and_eq_true] at hc
  obtain ⟨ds, h1, h⟩ := Option.bind_eq_some_iff.mp h
  obtain ⟨⟨r, m⟩, h2, h⟩ := Option.bind_eq_some_iff.mp h
  obtain ⟨δ2, h3, h⟩ := Option.bind_eq_some_iff.mp h
  cases h
  have hlen : os.length = n := of_decide_eq_true hc.1
  refine ⟨ro.length.symm.trans hlen, R, ds, r, m, ⟨(derefs_len h1).trans ro.length, fun i d v e1 e2 => ⟨fun hb => ?_, fun hb => ?_⟩⟩, fun a h => (w.new a h).2, h2, fun v R' H' de => ?_⟩
  · obtain ⟨o, e3, e4⟩ := derefs_get h1 e1
    obtain ⟨a, e5, e6, e7⟩ := bor_rep w ro h3 hb (by rw [e3]; exact e4) e2
    exact ⟨a, e5, (w.ownAt e6).1, e7⟩
  · obtain ⟨o, e3, e4⟩ := derefs_get h1 e1
    obtain ⟨d', e5⟩ := plainB_get hc.2 e3 (by rw [Nat.zero_add]; exact hb)
    subst e5
    cases e4
    exact ro.get e3 e2
  · obtain ⟨w2, x2, o2⟩ := call_world (Rn := R') w ro h3 de de.sub de.gq (fun _ h => h) de.fresh de.tr fun a h => (de.out a h).2
    have res := de.res
    cases r with
    | dat d => exact q v R' H' w2 x2 res trivial
    | fre d =>
      obtain ⟨a, e, n1, n2, t⟩ := res
      exact q v R' H' w2 x2 ⟨a, e, n1, fun z => w.ownNe n2 (o2 a z), w.H0none n2, t⟩ fun b e2 => by rw [e] at e2; cases e2; exact n2
/-- what is lent -/
def Lnt (δ : Env) (bo : Option Nat) (os : List O) (vs : List V) : Addr → Prop := fun a => ∃ i, bo ≠ some i ∧ vs[i]? = some (V.ref a) ∧ ((∃ (j : Nat) (s : Sl), os[i]? = some (.own j) ∧ δ[j]? = some s ∧ s.own? = true) ∨ (∃ d, os[i]? = some (.fre d)) ∨ ∃ k, os[i]? = some (.cel k))
/-- no lent slot is the borrowed one -/
def lendB (bo : Option Nat) (os : List O) : Bool := match bo with
  | none => true
  | some i => match os[i]? with
    | some (.own j) => lendN i j 0 os
    | _ => false
where lendN (i j : Nat) : Nat → List O → Bool
  | _, [] => true
  | k, o :: os => (match o with | .own l => decide (k = i) || decide (l ≠ j) | _ => true) && lendN i j (k + 1) os
theorem lendN_get : ∀ {os : List O} {i j k l q : Nat}, lendB.lendN i j k os = true → os[q]? = some (.own l) → k + q ≠ i → l ≠ j
  | [], _, _, _, _, q, _, e, _ => by simp at e
  | o :: os, i, j, k, l, 0, h, e, n => by
    simp at e; subst e
    unfold lendB.lendN at h
    rw [Bool.and_eq_true, Bool.or_eq_true] at h
    rcases h.1 with z | z
    · exact absurd (of_decide_eq_true z) n
    · exact of_decide_eq_true z
  | o :: os, i, j, k, l, q + 1, h, e, n => by
    unfold lendB.lendN at h
    rw [Bool.and_eq_true] at h
    exact lendN_get (k := k + 1) (q := q) h.2 (by simpa using e) (by rw [show k + 1 + q = k + (q + 1) by omega]; exact n)
def callL (bo : Option Nat) (n : Nat) (f : FD) (os : List O) (δ : Env) : Option (O × Env) := if (decide (os.length = n) && lendB bo os) = true then
  (derefs δ os).bind fun ds => (f ds).bind fun p => if (flatR p.1 && (flatT p.2)) = true then (putBack bo os δ p.2).bind fun δ2 => some (p.1.o, δ2) else none else none
theorem call_lend {bo : Option Nat} {n : Nat} {f : FD} {os : List O} {vs : List V} {o : O} (w : Wd K F R H δ σ) (ro : RepOs K F R H δ σ os vs) (h : callL bo n f os δ = some (o, δ')) (Q : VK) (E : XK)
    (q : ∀ v R' H', Wd K F R' H' δ' σ → Ext δ δ' σ R H R' H' → RepO K F R' H' δ' σ o v → FreO H o v → Q v H') : spD K bo n f vs H Q E := by
  unfold callL at h
  split at h
  case isFalse => cases h
  rename_i hc
  rw [Bool.and_eq_true] at hc
  obtain ⟨ds, h1, h⟩ := Option.bind_eq_some_iff.mp h
  obtain ⟨⟨r, m⟩, h2, h⟩ := Option.bind_eq_some_iff.mp h
  split at h
  case isFalse => cases h
  rename_i hfl
  rw [Bool.and_eq_true] at hfl
  obtain ⟨δ2, h3, h⟩ := Option.bind_eq_some_iff.mp h
  cases h
  have hlen : os.length = n := of_decide_eq_true hc.1
  let Rc : Reg := ⟨fun a => R a ∨ (Lnt δ bo os vs a ∧ H a ≠ none), R.g⟩
  have k : Keep R H Rc H := ⟨⟨fun _ h => .inl h, fun _ _ h => h⟩, fun _ _ _ h => h, fun _ _ h => h, fun _ _ _ h => h⟩
  refine ⟨ro.length.symm.trans hlen, Rc, ds, r, m, ⟨(derefs_len h1).trans ro.length, fun i d v e1 e2 => ⟨fun hb => ?_, fun hb => ?_⟩⟩, fun a h => h.elim (fun h => (w.new a h).2) (·.2), h2, fun v R' H' de => ?_⟩
  · obtain ⟨o, e3, e4⟩ := derefs_get h1 e1
    obtain ⟨a, e5, e6, e7⟩ := bor_rep w ro h3 hb (by rw [e3]; exact e4) e2
    refine ⟨a, e5, fun z => ?_, e7.keep k rfl⟩
    rcases z with z | ⟨⟨i', z1, z2, z3⟩, _⟩
    · exact (w.ownAt e6).1 z
    · subst hb
      obtain ⟨j, q1, q2⟩ := put_some h3
      have q3 : σ[j]? = some (some v) := ro.get q1 e2
      rw [e5] at q3
      rcases z3 with ⟨l, s, z3, ql, ho⟩ | ⟨d', z3⟩ | ⟨kk, z3⟩
      · have q4 : σ[l]? = some (some (V.ref a)) := ro.get z3 z2
        have hl := hc.2
        simp only [lendB, q1] at hl
        have hn : l ≠ j := lendN_get hl z3 (by rw [Nat.zero_add]; exact fun q => z1 (by rw [q]))
        rcases q2 with ⟨d0, q2, _⟩ | ⟨d0, q2, _⟩
        · exact hn (w.dis l j s _ a ql q2 ho rfl q4 q3)
        · exact hn (w.dis l j s _ a ql q2 ho rfl q4 q3)
      · obtain ⟨b, e, n1, n2, _, _⟩ := ro.get z3 z2
        cases e
        exact n2 e6
      · obtain ⟨b, e, n1⟩ := ro.get z3 z2
        cases e
        have hi' : i' < ds.length := by rw [derefs_len h1]; exact (List.getElem?_eq_some_iff.mp z3).1
        obtain ⟨o', y1, y2⟩ := derefs_get (d := ds[i']) h1 (List.getElem?_eq_getElem hi')
        rw [z3] at y1; cases y1
        obtain ⟨cs, y3, _⟩ := Option.bind_eq_some_iff.mp y2
        have sa : SlotA δ σ a := by
          rcases q2 with ⟨d0, q2, _⟩ | ⟨d0, q2, _⟩
          · exact ⟨j, _, q2, rfl, q3⟩
          · exact ⟨j, _, q2, rfl, q3⟩
        exact w.disC a ⟨List.mem_of_getElem? n1, _, cs, stoOf_last y3⟩ sa
  · obtain ⟨o, e3, e4⟩ := derefs_get h1 e1
    have rv := ro.get e3 e2
    cases o with
    | cel kk =>
      obtain ⟨cs, y3, y4⟩ := Option.bind_eq_some_iff.mp e4
      obtain ⟨a, e, n1⟩ := rv
      subst e
      have t := (w.stoOk (stoOf_last y3)).top kk d a y4 n1
      obtain ⟨ob, hob, _⟩ := t.at
      exact (t.keep k rfl).val (.inr ⟨⟨i, hb, e2, .inr (.inr ⟨kk, e3⟩)⟩, by rw [hob]; exact fun q => by cases q⟩)
    | dat d' => cases e4; exact RepV.keep k rv
    | fre d' =>
      cases e4
      obtain ⟨a, e, _, _, _, t⟩ := rv
      subst e
      obtain ⟨ob, hob, _⟩ := t.at
      exact (t.keep k rfl).val (.inr ⟨⟨i, hb, e2, .inr (.inl ⟨_, e3⟩)⟩, by rw [hob]; exact fun q => by cases q⟩)
    | own j =>
      have e4' : (δ[j]?).bind Sl.d? = some d := e4
      cases ql : δ[j]? with
      | none => rw [ql] at e4'; cases e4'
      | some s =>
        rw [ql] at e4'
        obtain ⟨ov, r1, r2⟩ := w.rep j s ql
        have rv' : σ[j]? = some (some v) := rv
        rw [rv'] at r1; cases r1
        have go : s.own? = true → (∃ a, v = V.ref a ∧ ¬ R a ∧ RepTop K R H d a) → RepV K Rc H d v := fun ho ⟨a, e, _, t⟩ => by
          subst e
          obtain ⟨ob, hob, _⟩ := t.at
          exact (t.keep k rfl).val (.inr ⟨⟨i, hb, e2, .inl ⟨_, s, e3, ql, ho⟩⟩, by rw [hob]; exact fun q => by cases q⟩)
        cases s with
        | un => cases e4'
        | sto d0 => cases e4'
        | val d0 => cases e4'; exact RepV.keep k r2
        | own d0 => cases e4'; exact go rfl r2
        | brw d0 => cases e4'; exact go rfl r2
  · obtain ⟨w2, x2, o2⟩ := call_world (Rn := R) w ro h3 de SubR.refl rfl (fun a h => de.sub a (.inl h)) (fun a h => .inl h) (fun a h => de.tr a (de.sub a (.inl h))) fun a h => flat_top hfl.2 (de.out a h).2
    have res := de.res
    cases r with
    | dat d => exact q v R H' w2 x2 (flat_rep hfl.1 res) trivial
    | fre d =>
      obtain ⟨a, e, n1, n2, t⟩ := res
      exact q v R H' w2 x2 ⟨a, e, fun z => n1 (de.sub a (.inl z)), fun z => w.ownNe n2 (o2 a z), w.H0none n2, flat_top hfl.1 t⟩ fun b e2 => by rw [e] at e2; cases e2; exact n2
end
end DV

/-! DV7: calls as expressions, writes, what is walked, comprehensions. -/
namespace DV
open PySem PySem.Spec PyProof.Rows L2
section
variable {K : PySem.W.Frag} {F : Fx} {R R1 R2 R' : Reg} {H H1 H' : Hp} {δ δ1 δ' : Env} {σ σ' : L2.St}
theorem RepOs.append : ∀ {os ps : List O} {vs us : List V}, RepOs K F R H δ σ os vs → RepOs K F R H δ σ ps us → RepOs K F R H δ σ (os ++ ps) (vs ++ us)
  | [], _, _, _, h, g => by rw [show _ = [] from h]; exact g
  | o :: os, _, _, _, ⟨v, r, e, h1, h2⟩, g => by subst e; exact ⟨v, _, rfl, h1, h2.append g⟩
theorem RepOs.dats : ∀ {ds : List D} {vs : List V}, RepVs K R H ds vs → RepOs K F R H δ σ (ds.map .dat) vs
  | [], _, h => h
  | d :: ds, _, ⟨v, r, e, h1, h2⟩ => ⟨v, r, e, h1, RepOs.dats h2⟩

/-! ### calls -/
def callE (call : List O → Env → Option (O × Env)) (dds : List D) (fa : MA) : ME := fun δ => (fa δ).bind fun p => call (p.1 ++ dds.map .dat) p.2
def CallOk (K : PySem.W.Frag) (sp : Sp) (call : List O → Env → Option (O × Env)) : Prop := ∀ F R H δ σ os vs o δ', Wd K F R H δ σ → RepOs K F R H δ σ os vs → call os δ = some (o, δ') → ∀ (Q : VK) (E : XK),
  (∀ v R' H', Wd K F R' H' δ' σ → Ext δ δ' σ R H R' H' → RepO K F R' H' δ' σ o v → FreO H o v → Q v H') → sp vs H Q E
theorem ev_call {sp : Sp} {call : List O → Env → Option (O × Env)} {dds : List D} {dvs : List V} {E : XK} {ta : TA} {fa : MA} (hc : CallOk K sp call) (hd : ∀ R H, RepVs K R H dds dvs) (ha : EvA K ta fa) : Ev K (tCall sp dvs E ta) (callE call dds fa) :=
  fun F R H δ σ o δ' w hf Q q => by
  obtain ⟨⟨os, δ1⟩, e1, hf⟩ := Option.bind_eq_some_iff.mp hf
  refine ha F R H δ σ os δ1 w e1 _ fun vs R1 H1 w1 x1 r1 f1 => ?_
  exact hc F R1 H1 δ1 σ _ _ o δ' w1 (r1.append (RepOs.dats (hd R1 H1))) hf Q E fun v R2 H2 w2 x2 r2 f2 => q v R2 H2 w2 (x1.trans x2) r2 (f2.ext x1)
def insB (C : Addr) (m : Str) : D → Bool
  | .ins C' ks _ => decide (C' = C) && !ks.contains m
  | _ => false
def methE (C : Addr) (m : Str) (call : List O → Env → Option (O × Env)) (dds : List D) (fo : ME) (fa : MA) : ME := fun δ => (fo δ).bind fun p => (deref p.2 p.1).bind fun d => if insB C m d = true then
  (fa p.2).bind fun q => call (p.1 :: (q.1 ++ dds.map .dat)) q.2 else none
def makeE (C : Addr) (n : Nat) (f : FD) (dds : List D) (fa : MAD) : ME := fun δ => (fa δ).bind fun p => if (decide ((p.1 ++ dds).length + 1 = n)) = true then (f (.ins C [] [] :: (p.1 ++ dds))).bind fun q => match q.1 with
  | .dat .non => some (.fre q.2, p.2)
  | _ => none
  else none
/-! ### writes -/
def Sl.put : Sl → D → Sl
  | .own _, d => .own d
  | .brw _, d => .brw d
  | s, _ => s
theorem keep_upd {l : Addr} {o : HO} (n : ¬ R l) (t : ∃ o, H l = some o ∧ (∀ xs, o ≠ .tup xs) ∧ ∀ ob u, o ≠ .frz ob u) : Keep R H R (upd H l o) := by
  obtain ⟨u, h1, h2, h3⟩ := t
  refine ⟨SubR.refl, fun a v r h => ?_, fun a xs h => ?_, fun a ob v h => ?_⟩
  · rw [upd_ne (fun e => by subst e; exact n r)]; exact h
  · rw [upd_ne (fun e => by subst e; rw [h1] at h; cases h; exact h2 _ rfl)]; exact h
  · rw [upd_ne (fun e => by subst e; rw [h1] at h; cases h; exact h3 _ _ rfl)]; exact h
theorem Wd.write (w : Wd K F R H δ σ) {i : Nat} {s : Sl} {l : Addr} {d : D} {o : HO} (hs : δ[i]? = some s) (ho : s.own? = true) (hl : σ[i]? = some (some (V.ref l))) (t : RepTop K R (upd H l o) d l) :
    Wd K F R (upd H l o) (δ.set i (s.put d)) σ ∧ Ext δ (δ.set i (s.put d)) σ R H R (upd H l o) := by
  have oa : OwnA R δ σ l := .inl ⟨i, s, hs, ho, hl⟩
  obtain ⟨n, ta⟩ := w.ownAt oa
  have alv : ∀ a, H a ≠ none → upd H l o a ≠ none := fun a h => by
    by_cases e : a = l
    · rw [e, upd_same]; exact fun q => by cases q
    · rw [upd_ne e]; exact h
  have ns : ∀ ds, s ≠ .sto ds := fun ds e => by
    subst e
    obtain ⟨ov, h1, r⟩ := w.rep i _ hs
    rw [hl] at h1; cases h1; cases r.1
  have st : ∀ (j : Nat) (ds : List D), (δ.set i (s.put d))[j]? = some (.sto ds) → δ[j]? = some (.sto ds) := fun j ds h => by
    rcases set_get h with ⟨_, q⟩ | ⟨_, q⟩
    · cases s with
      | own _ => cases q
      | brw _ => cases q
      | un => cases ho
      | val _ => cases ho
      | sto x => exact absurd rfl (ns x)
    · exact q
  have ex : Ext δ (δ.set i (s.put d)) σ R H R (upd H l o) := by
    refine ⟨SubR.refl, fun _ h => .inl h, fun a u h z => by rw [upd_ne (fun e => by subst e; exact z oa)]; exact h, fun a h => .inl ?_, alv⟩
    rcases h with ⟨j, s', h1, h2, h3⟩ | ⟨h, j, ds, h1⟩
    · rcases set_get h1 with ⟨q1, q2⟩ | ⟨_, q⟩
      · subst q1; exact .inl ⟨i, s, hs, ho, h3⟩
      · exact .inl ⟨j, s', q, h2, h3⟩
    · exact .inr ⟨h, j, ds, st j ds h1⟩
  have kp := keep_upd (o := o) n ta
  refine ⟨w.next ex (by simp) (fun j s' h => ?_) (fun j d' h => ?_) (fun j d' h => ?_) (fun j ds h => ⟨ds, st j ds h⟩) rfl fun a h => ⟨(w.new a h).1, alv a (w.new a h).2⟩, ex⟩
  · rcases set_get h with ⟨q1, q2⟩ | ⟨q1, q⟩
    · subst q1; subst q2
      refine ⟨_, hl, ?_⟩
      cases s with
      | un => cases ho
      | sto x => exact absurd rfl (ns x)
      | val _ => cases ho
      | own _ => exact ⟨l, rfl, n, t⟩
      | brw _ => exact ⟨l, rfl, n, t⟩
    · obtain ⟨ov, h1, h2⟩ := w.rep j s' q
      refine ⟨ov, h1, h2.keep kp (fun _ => rfl) (fun hg a ha => ?_) fun a q2 q3 => ?_⟩
      · have ca : CelA R δ a := by
          cases s' with
          | sto ds => exact ⟨ha, j, ds, q⟩
          | _ => cases hg
        exact ⟨(w.ownAt (.inr ca)).1, upd_ne fun e => by subst e; exact w.disC a ca ⟨i, s, hs, ho, hl⟩⟩
      rw [q3] at h1
      have ne : a ≠ l := fun e => by subst e; exact q1 (w.dis i j s s' a hs q ho q2 hl h1)
      exact ⟨(w.ownAt (.inl ⟨j, s', q, q2, h1⟩)).1, upd_ne ne⟩
  · rcases set_get h with ⟨q1, q2⟩ | ⟨q1, q⟩
    · subst q1
      cases s with
      | own d0 => exact ⟨d0, hs⟩
      | un => cases ho
      | sto x => exact absurd rfl (ns x)
      | val _ => cases ho
      | brw _ => cases q2
    · exact ⟨d', q⟩
  · rcases set_get h with ⟨q1, q2⟩ | ⟨q1, q⟩
    · subst q1
      cases s with
      | brw d0 => exact ⟨d0, hs⟩
      | un => cases ho
      | sto x => exact absurd rfl (ns x)
      | val _ => cases ho
      | own _ => cases q2
    · exact ⟨d', q⟩
/-- a method that changes its list or dict -/
def MutOk (K : PySem.W.Frag) (r : V → List V → Hp → VK → Prop) (g : D → List D → Option (D × D)) : Prop := ∀ R H d0 ds d1 res l vs, (∀ o, Keep R H R (upd H l o)) → RepTop K R H d0 l → RepVs K R H ds vs → g d0 ds = some (d1, res) →
  ∀ Q : VK, (∀ v o, RepTop K R (upd H l o) d1 l → RepV K R (upd H l o) res v → Q v (upd H l o)) → r (.ref l) vs H Q
def isLst : D → Bool
  | .lst _ => true
  | _ => false
def mutE (ty : D → Bool) (g : D → List D → Option (D × D)) (fo : ME) (fa : MAD) : ME := fun δ => (fo δ).bind fun p => (deref p.2 p.1).bind fun d0 => if ty d0 = true then (fa p.2).bind fun q => match p.1 with
  | .own i => match q.2[i]? with
    | some (.own d) => (g d q.1).bind fun x => some (.dat x.2, q.2.set i (.own x.1))
    | some (.brw d) => (g d q.1).bind fun x => some (.dat x.2, q.2.set i (.brw x.1))
    | _ => none
  | _ => none
  else none
theorem ty_lst (R : Reg) (H : Hp) (d : D) (v : V) (h : isLst d = true) (r : RepL K R H d v) : tyV K "list" v H := by
  cases d with
  | lst ds => obtain ⟨a, vs, rfl, h1, _⟩ := r.lst; exact .inl ⟨rfl, vs, .of h1⟩
  | _ => cases h
def appG (d : D) (ds : List D) : Option (D × D) := match d, ds with
  | .lst xs, [y] => if xs.length < sizeLine then some (.lst (xs ++ [y]), .non) else none
  | _, _ => none
theorem m_append : MutOk K rAppend appG := fun R H d0 ds d1 res l vs k t rv hg Q q => by
  unfold appG at hg
  split at hg
  · rename_i xs y
    split at hg
    · rename_i hl
      cases hg
      obtain ⟨us, h1, h2⟩ := t
      obtain ⟨v, r, e, h3, h4⟩ := rv
      have : r = [] := h4
      subst this; subst e
      exact ⟨l, us, v, rfl, rfl, h1, by rw [← h2.length]; exact hl, q _ _ ⟨_, upd_same, (h2.append (RepVs.one h3)).keep (k _)⟩ rfl⟩
    · cases hg
  · cases hg
/-- o[i] = e of an owned list -/
def setL (fe : MD) (fo fi : ME) : MS := fun δ => (fe δ).bind fun p => (fo p.2).bind fun q => (fi q.2).bind fun r => match q.1, r.1 with
  | .own i, .dat (.int k) => match r.2[i]? with
    | some (.own (.lst xs)) => (ixN xs.length k).bind fun j => some (.nx (r.2.set i (.own (.lst (xs.set j p.1)))))
    | some (.brw (.lst xs)) => (ixN xs.length k).bind fun j => some (.nx (r.2.set i (.brw (.lst (xs.set j p.1)))))
    | _ => none
  | _, _ => none
theorem s_setL {te to ti : TE} {fe : MD} {fo fi : ME} (he : EvD K te fe) (ho : Ev K to fo) (hi : Ev K ti fi) : EvS K (tAsg te (gSub to ti rSetL)) (setL fe fo fi) := fun F R H δ σ fl w hf E q => by
  obtain ⟨⟨d, δ1⟩, e1, hf⟩ := Option.bind_eq_some_iff.mp hf
  obtain ⟨⟨o, δ2⟩, e2, hf⟩ := Option.bind_eq_some_iff.mp hf
  obtain ⟨⟨oi, δ3⟩, e3, hf⟩ := Option.bind_eq_some_iff.mp hf
  refine he F R H δ σ d δ1 w e1 _ fun v R1 H1 w1 x1 r1 => ?_
  refine ho F R1 H1 δ1 σ o δ2 w1 e2 _ fun x R2 H2 w2 x2 r2 _ => ?_
  refine hi F R2 H2 δ2 σ oi δ3 w2 e3 _ fun y R3 H3 w3 x3 r3 _ => ?_
  have core : ∀ (i : Nat) (k : Int) (s : Sl) (xs : List D) (j : Nat), o = .own i → oi = .dat (.int k) → δ3[i]? = some s → s.own? = true → s.d? = some (.lst xs) → ixN xs.length k = some j → fl = .nx (δ3.set i (s.put (.lst (xs.set j d)))) → rSetL x y v H3 fun H4 => E.nx σ H4 := by
    rintro i k s xs j rfl rfl h1 h2 h3 h4 rfl
    have rx : σ[i]? = some (some x) := r2
    have ry : y = .int k := r3
    obtain ⟨ov, h5, h6⟩ := w3.rep i s h1
    rw [rx] at h5; cases h5
    have : ∃ l, x = V.ref l ∧ ¬ R3 l ∧ RepTop K R3 H3 (.lst xs) l := by
      cases s with
      | un => cases h2
      | sto _ => cases h6.1
      | val _ => cases h2
      | own d' => cases h3; exact h6
      | brw d' => cases h3; exact h6
    obtain ⟨l, rfl, n, us, h7, h8⟩ := this
    have ta : ∃ o, H3 l = some o ∧ (∀ xs, o ≠ .tup xs) ∧ ∀ ob u, o ≠ .frz ob u := ⟨_, h7, (fun _ q => by cases q), fun _ _ q => by cases q⟩
    have k3 := (x2.trans x3).keep w1
    refine ⟨l, us, k, j, rfl, ry, h7, by rw [← h8.length]; exact h4, ?_⟩
    have t : RepTop K R3 (upd H3 l (.lst (us.set j v))) (.lst (xs.set j d)) l := ⟨_, upd_same, (h8.set j (RepV.keep k3 r1)).keep (keep_upd n ta)⟩
    obtain ⟨w4, x4⟩ := w3.write h1 h2 rx t
    exact q σ R3 _ w4 (((x1.keep w).trans k3).trans (x4.keep w3))
  cases o with
  | cel _ => cases hf
  | dat _ => cases hf
  | fre _ => cases hf
  | own i =>
    cases oi with
    | cel _ => cases hf
    | own _ => cases hf
    | fre _ => cases hf
    | dat di =>
      cases di with
      | int k =>
        simp only at hf
        cases h1 : δ3[i]? with
        | none => rw [h1] at hf; cases hf
        | some s =>
          rw [h1] at hf
          cases s with
          | un => cases hf
          | sto _ => cases hf
          | val _ => cases hf
          | own d' =>
            cases d' with
            | lst xs =>
              obtain ⟨j, h2, hf⟩ := Option.bind_eq_some_iff.mp hf
              cases hf
              exact core i k _ xs j rfl rfl h1 rfl rfl h2 rfl
            | _ => cases hf
          | brw d' =>
            cases d' with
            | lst xs =>
              obtain ⟨j, h2, hf⟩ := Option.bind_eq_some_iff.mp hf
              cases hf
              exact core i k _ xs j rfl rfl h1 rfl rfl h2 rfl
            | _ => cases hf
      | _ => cases hf
end
end DV

/-! DV8: what is walked; comprehensions. -/
namespace DV
open PySem PySem.Spec PyProof.Rows L2
section
variable {X : Cx} {tg : Expr}
/-- a list or a tuple walked -/
def iSeq (K : PySem.W.Frag) (tl : TE) : TI := fun σ H R => tl σ H fun x H1 => ∃ a, x = .ref a ∧ (((∃ xs, SqL K H1 a xs) ∧ R (Itl K a) H1) ∨ ((∃ xs, SqT K H1 a xs) ∧ R (Itt K a) H1))
theorem pi_seq {l : Expr} {tl : TE} (hl : PE X l tl) : PI X tg l (iSeq X.K tl) := by
  refine ⟨fun pins s σ H R I h => ?_⟩
  refine thn (hl.run pins s σ H _ I h) fun v s1 ⟨x, H1, I1, r1, q1⟩ => ?_
  obtain ⟨a, e, ⟨⟨xs, hq⟩, q⟩ | ⟨⟨xs, hq⟩, q⟩⟩ := q1
  · subst e
    cases r1
    obtain ⟨its, rv, p, hz⟩ := I1.list hq
    refine wpAny_pyIter_list p.isList ?_
    refine ⟨s1.heap.objs.size, [s1.heap.objs.size], _, _, H1, rfl, I1.kept (t' := s1.toks) fun b o e => Heap.get?_push_of_some _ e, turn_list a _, ⟨_, Heap.get?_push_size _ rfl, rfl, rfl⟩, fun b hb => ?_, q⟩
    have e : b = s1.heap.objs.size := by simpa using hb
    subst e
    exact I1.fpOk (Nat.le_refl _) (I1.hok.fresh (Nat.le_refl _))
  · subst e
    cases r1
    obtain ⟨its, rv, p, hz⟩ := I1.tuple hq
    refine wpAny_pyIter_tuple (show s1.heap.IsTuple a its.toArray from p) ?_
    refine ⟨s1.heap.objs.size, [s1.heap.objs.size], _, _, H1, rfl, I1.kept (t' := s1.toks) fun b o e => Heap.get?_push_of_some _ e, turn_tuple a _, ⟨_, Heap.get?_push_size _ rfl, rfl, rfl⟩, fun b hb => ?_, q⟩
    have e : b = s1.heap.objs.size := by simpa using hb
    subst e
    exact I1.fpOk (Nat.le_refl _) (I1.hok.fresh (Nat.le_refl _))
end
section
variable {K : PySem.W.Frag} {F : Fx} {R R1 R2 R' : Reg} {H H1 H' : Hp} {δ δ1 δ' : Env} {σ σ' : L2.St}
def itemsOf : D → Option (List D)
  | .lst ds => some ds
  | .ro ds => some ds
  | .tup ds => some ds
  | _ => none
def seqI (f : MD) : MI := fun δ => (f δ).bind fun p => (itemsOf p.1).bind fun ds => some (ds, p.2)
theorem i_seq {tl : TE} {f : MD} (h : EvD K tl f) : EvI K (iSeq K tl) (seqI f) := fun F R H δ σ ds δ' w hf Q q => by
  obtain ⟨⟨d, δ1⟩, e1, hf⟩ := Option.bind_eq_some_iff.mp hf
  obtain ⟨ds', e2, hf⟩ := Option.bind_eq_some_iff.mp hf
  cases hf
  refine h F R H δ σ d δ1 w e1 _ fun v R1 H1 w1 x1 r1 => ?_
  have lst : ∀ a vs, (∀ R' H', Keep R1 H1 R' H' → SqL K H' a vs) → RepVs K R1 H1 ds vs → ItOk K (Itl K a) R1 H1 ds := fun a vs hs rs R' H' k F' δ' σ' w' i => by
    have h' := hs R' H' k
    refine ⟨fun d hd => ?_, fun hl => ⟨vs, h', by rw [← rs.length]; exact hl⟩⟩
    obtain ⟨v, hv, rv⟩ := rs.get hd
    refine ⟨⟨vs, v, h', hv⟩, fun x H'' y => ?_⟩
    obtain ⟨e, y⟩ := y
    subst e
    have e2 := y vs h'
    rw [hv] at e2; cases e2
    exact ⟨w', Grow.refl, RepV.keep k rv⟩
  cases d with
  | lst xs =>
    cases e2
    obtain ⟨a, vs, e, ra, h1, rs⟩ := r1
    exact ⟨a, e, .inl ⟨⟨vs, .of h1⟩, q _ R1 H1 w1 x1 (lst a vs (fun R' H' k => k.seqL ra (.of h1)) rs)⟩⟩
  | ro xs =>
    cases e2
    obtain ⟨a, vs, e, h1, rs⟩ := r1
    exact ⟨a, e, .inl ⟨⟨vs, h1.l⟩, q _ R1 H1 w1 x1 (lst a vs (fun R' H' k => (k.seqR h1).l) rs)⟩⟩
  | tup xs =>
    cases e2
    obtain ⟨a, vs, e, h0, rs⟩ := r1
    have h1 : SqT K H1 a vs := h0.t
    refine ⟨a, e, .inr ⟨⟨vs, h1⟩, q _ R1 H1 w1 x1 fun R' H' k F' δ' σ' w' i => ?_⟩⟩
    have h' := k.seqT h1
    refine ⟨fun d hd => ?_, fun hl => ⟨vs, h', by rw [← rs.length]; exact hl⟩⟩
    obtain ⟨v, hv, rv⟩ := rs.get hd
    refine ⟨⟨vs, v, h', hv⟩, fun x H'' y => ?_⟩
    obtain ⟨e, y⟩ := y
    subst e
    have e2 := y vs h'
    rw [hv] at e2; cases e2
    exact ⟨w', Grow.refl, RepV.keep k rv⟩
  | _ => cases e2
/-- lo, lo + 1, .. -/
def rangeD (lo : Int) (n : Nat) : List D := (List.range n).map fun (i : Nat) => D.int (lo + (i : Int))
theorem it_range {lo : Int} {n : Nat} : ItOk K (Itr lo n) R H (rangeD lo n) := fun R' H' k F δ σ w i => by
  have hl : (rangeD lo n).length = n := by simp [rangeD]
  refine ⟨fun d hd => ?_, fun h => by rw [hl] at h; exact h⟩
  have hi : i < n := by rw [← hl]; exact (List.getElem?_eq_some_iff.mp hd).1
  refine ⟨hi, fun x H'' y => ?_⟩
  obtain ⟨e1, e2⟩ := y
  subst e1
  have : d = D.int (lo + (i : Int)) := by
    unfold rangeD at hd
    rw [List.getElem?_map, List.getElem?_range hi] at hd
    exact (Option.some.inj hd).symm
  subst this
  exact ⟨w, Grow.refl, e2⟩
def rng1 (fa : MA) : MI := fun δ => (fa δ).bind fun p => match p.1 with
  | [.dat (.int j)] => if (decide (-(2 ^ 62) ≤ j) && decide (j < 2 ^ 62)) = true then some (rangeD 0 j.toNat, p.2) else none
  | _ => none
def rng2 (fa : MA) : MI := fun δ => (fa δ).bind fun p => match p.1 with
  | [.dat (.int i), .dat (.int j)] => if (decide (-(2 ^ 62) ≤ i) && decide (i < 2 ^ 62) && (decide (-(2 ^ 62) ≤ j) && decide (j < 2 ^ 62))) = true then some (rangeD i (j - i).toNat, p.2) else none
  | _ => none
theorem i_range1 {ta : TA} {fa : MA} (h : EvA K ta fa) : EvI K (iRng1 ta) (rng1 fa) := fun F R H δ σ ds δ' w hf Q q => by
  obtain ⟨⟨os, δ1⟩, e1, hf⟩ := Option.bind_eq_some_iff.mp hf
  refine h F R H δ σ os δ1 w e1 _ fun vs R1 H1 w1 x1 r1 f1 => ?_
  clear f1
  dsimp only at hf
  split at hf
  · rename_i j
    split at hf
    · rename_i hc
      cases hf
      rw [Bool.and_eq_true] at hc
      obtain ⟨v, r, e, r2, r3⟩ := r1
      have : r = [] := r3
      subst this
      have : v = .int j := r2
      subst this
      exact ⟨j, e, of_decide_eq_true hc.1, of_decide_eq_true hc.2, q _ R1 H1 w1 x1 it_range⟩
    · cases hf
  · cases hf
/-- enumerate of a list -/
def enumD : Nat → List D → List D
  | _, [] => []
  | n, d :: ds => .tup [.int (n : Int), d] :: enumD (n + 1) ds
theorem enumD_get : ∀ {ds : List D} {n i : Nat} {e : D}, (enumD n ds)[i]? = some e → ∃ d, ds[i]? = some d ∧ e = .tup [.int ((n + i : Nat) : Int), d]
  | [], _, i, _, h => by simp [enumD] at h
  | d :: ds, n, 0, e, h => by simp [enumD] at h; exact ⟨d, rfl, by rw [← h]; rfl⟩
  | d :: ds, n, i + 1, e, h => by
    obtain ⟨d', h1, h2⟩ := enumD_get (ds := ds) (n := n + 1) (i := i) (by simpa [enumD] using h)
    exact ⟨d', by simpa using h1, by rw [h2, show n + 1 + i = n + (i + 1) by omega]⟩
theorem enumD_len : ∀ {ds : List D} {n : Nat}, (enumD n ds).length = ds.length
  | [], _ => rfl
  | d :: ds, n => by simp [enumD, enumD_len]
def enumI (fa : MAD) : MI := fun δ => (fa δ).bind fun p => match p.1 with
  | [.lst ds] => some (enumD 0 ds, p.2)
  | _ => none
/-! ### comprehensions -/
def wipeE (δ : Env) : List Nat → Env
  | [] => δ
  | v :: vs => (wipeE δ vs).set v .un
def restE (δ0 δ : Env) : List Nat → Env
  | [] => δ
  | v :: vs => (restE δ0 δ vs).set v (δ0.getD v .un)
def noOwn (δ : Env) (vs : List Nat) : Bool := vs.all fun v => !(δ.getD v .un).own?
theorem slotA_un {i : Nat} {ov : Option V} {a : Addr} (h : SlotA (δ.set i .un) (σ.set i ov) a) : SlotA δ σ a := by
  obtain ⟨j, t, h1, h2, h3⟩ := h
  rcases set_get h1 with ⟨q1, q2⟩ | ⟨q1, q2⟩
  · subst q2; cases h2
  · rw [List.getElem?_set_ne q1] at h3
    exact ⟨j, t, q2, h2, h3⟩
theorem Wd.setUn (w : Wd K F R H δ σ) (i : Nat) (ov : Option V) : Wd K F R H (δ.set i .un) (σ.set i ov) := by
  refine ⟨fun j s h => ?_, by rw [List.length_set, List.length_set]; exact w.len, fun j k s t a h1 h2 h3 h4 h5 h6 => ?_, fun a h q => w.disC a (celA_set rfl h) (slotA_un q), fun j d' a h g => ?_, fun j d' a h g => ?_, fun a h => w.locC a (celA_set rfl h), w.oneSet rfl, w.gun, w.fr, w.sub, w.new, fun j d' h => ?_, w.alv, w.kp⟩
  · rcases set_get h with ⟨q1, q2⟩ | ⟨q1, q2⟩
    · subst q1; subst q2
      have hl : i < σ.length := by
        have := (List.getElem?_eq_some_iff.mp h).1
        rw [List.length_set, w.len] at this; exact this
      exact ⟨ov, List.getElem?_set_self hl, trivial⟩
    · rw [List.getElem?_set_ne q1]; exact w.rep j s q2
  · rcases set_get h1 with ⟨q1, q2⟩ | ⟨q1, q2⟩
    · subst q2; cases h3
    · rcases set_get h2 with ⟨q3, q4⟩ | ⟨q3, q4⟩
      · subst q4; cases h4
      · rw [List.getElem?_set_ne q1] at h5
        rw [List.getElem?_set_ne q3] at h6
        exact w.dis j k s t a q2 q4 h3 h4 h5 h6
  · rcases set_get h with ⟨q1, q2⟩ | ⟨q1, q2⟩
    · cases q2
    · rw [List.getElem?_set_ne q1] at g; exact w.loc j d' a q2 g
  · rcases set_get h with ⟨q1, q2⟩ | ⟨q1, q2⟩
    · cases q2
    · rw [List.getElem?_set_ne q1] at g; exact w.locB j d' a q2 g
  · rcases set_get h with ⟨q1, q2⟩ | ⟨q1, q2⟩
    · cases q2
    · rw [List.getElem?_set_ne q1]; exact w.muts j d' q2
theorem Wd.wipe (w : Wd K F R H δ σ) : ∀ vs : List Nat, Wd K F R H (wipeE δ vs) (L2.wipe σ vs)
  | [] => w
  | v :: vs => (Wd.wipe w vs).setUn v none
theorem wipe_own {a : Addr} : ∀ vs : List Nat, OwnA R (wipeE δ vs) (L2.wipe σ vs) a → OwnA R δ σ a
  | [], h => h
  | v :: vs, h => wipe_own vs (h.imp slotA_un (celA_set rfl))
theorem wipe_get {j : Nat} : ∀ {vs : List Nat}, j ∉ vs → (L2.wipe σ vs)[j]? = σ[j]?
  | [], _ => rfl
  | v :: vs, h => by
    have h1 : v ≠ j := fun e => h (by rw [e]; exact List.mem_cons_self)
    show ((L2.wipe σ vs).set v none)[j]? = _
    rw [List.getElem?_set_ne h1]
    exact wipe_get fun z => h (List.mem_cons_of_mem _ z)
theorem wipe_idem : ∀ (vs us : List Nat), (∀ v ∈ vs, v ∈ us) → L2.wipe (L2.wipe σ us) vs = L2.wipe σ us
  | [], _, _ => rfl
  | v :: vs, us, h => by
    show (L2.wipe (L2.wipe σ us) vs).set v none = _
    rw [wipe_idem vs us fun x hx => h x (List.mem_cons_of_mem _ hx)]
    have hv := h v List.mem_cons_self
    clear h
    have : ∀ ws : List Nat, v ∈ ws → (L2.wipe σ ws).set v none = L2.wipe σ ws := by
      intro ws
      induction ws with
      | nil => intro h; cases h
      | cons x ws ih =>
        intro h
        show ((L2.wipe σ ws).set x none).set v none = (L2.wipe σ ws).set x none
        by_cases e : v = x
        · subst e; rw [List.set_set]
        · rw [List.set_comm none none (fun q => e q.symm)]
          rcases List.mem_cons.mp h with z | z
          · exact absurd z e
          · rw [ih z]
    exact this us hv
theorem rest_out {δ0 : Env} {j : Nat} : ∀ {vs : List Nat}, j ∉ vs → (restE δ0 δ vs)[j]? = δ[j]?
  | [], _ => rfl
  | v :: vs, h => by
    have h1 : v ≠ j := fun e => h (by rw [e]; exact List.mem_cons_self)
    show ((restE δ0 δ vs).set v _)[j]? = _
    rw [List.getElem?_set_ne h1]
    exact rest_out fun z => h (List.mem_cons_of_mem _ z)
theorem rest_in {δ0 : Env} {j : Nat} {s : Sl} : ∀ {vs : List Nat}, j ∈ vs → (restE δ0 δ vs)[j]? = some s → s = δ0.getD j .un
  | [], h, _ => by cases h
  | v :: vs, h, e => by
    have e' : ((restE δ0 δ vs).set v (δ0.getD v .un))[j]? = some s := e
    rcases set_get e' with ⟨q1, q2⟩ | ⟨q1, q2⟩
    · rw [← q1]; exact q2
    · rcases List.mem_cons.mp h with z | z
      · exact absurd z.symm q1
      · exact rest_in z q2
theorem rest_len {δ0 : Env} : ∀ vs : List Nat, (restE δ0 δ vs).length = δ.length
  | [] => rfl
  | v :: vs => by unfold restE; rw [List.length_set, rest_len vs]
theorem Wd.rest {δ0 : Env} {R0 : Reg} {H0 : Hp} {vs : List Nat} (w0 : Wd K F R0 H0 δ0 σ) (w : Wd K F R H δ (L2.wipe σ vs)) (k : Keep R0 H0 R H) (no : noOwn δ0 vs = true) :
    Wd K F R H (restE δ0 δ vs) σ ∧ ∀ a, OwnA R (restE δ0 δ vs) σ a → OwnA R δ (L2.wipe σ vs) a := by
  have non : ∀ j s, j ∈ vs → (restE δ0 δ vs)[j]? = some s → s.own? = false := fun j s h e => by
    rw [rest_in h e]
    unfold noOwn at no
    rw [List.all_eq_true] at no
    have := no j h
    simpa using this
  have up : ∀ (j : Nat) (s : Sl), (restE δ0 δ vs)[j]? = some s → s.own? = true → δ[j]? = some s ∧ (L2.wipe σ vs)[j]? = σ[j]? := fun j s e ho => by
    by_cases hj : j ∈ vs
    · rw [non j s hj e] at ho; cases ho
    · exact ⟨by rw [← rest_out (δ0 := δ0) hj]; exact e, wipe_get hj⟩
  have hlen : (restE δ0 δ vs).length = σ.length := by rw [rest_len, w.len, wipe_length]
  have cl : ∀ a, CelA R (restE δ0 δ vs) a → CelA R δ a := fun a ⟨h, i, ds, g⟩ => ⟨h, i, ds, (up i _ g rfl).1⟩
  have sl : ∀ a, SlotA (restE δ0 δ vs) σ a → SlotA δ (L2.wipe σ vs) a := fun a ⟨j, s, h1, h2, h3⟩ => by
    obtain ⟨a1, b1⟩ := up j s h1 h2
    exact ⟨j, s, a1, h2, by rw [b1]; exact h3⟩
  refine ⟨⟨fun j s h => ?_, hlen, fun i j s t a h1 h2 h3 h4 h5 h6 => ?_, fun a h q => w.disC a (cl a h) (sl a q), fun j d a h g => ?_, fun j d a h g => ?_, fun a h => w.locC a (cl a h), fun i j ds es h1 h2 => w.one i j ds es (up i _ h1 rfl).1 (up j _ h2 rfl).1, w.gun, w.fr, w.sub, w.new, fun j d h => ?_, w.alv, w.kp⟩, fun a h => h.imp (sl a) (cl a)⟩
  · by_cases hj : j ∈ vs
    · have e := rest_in hj h
      have hjl : j < δ0.length := by rw [w0.len, ← hlen]; exact (List.getElem?_eq_some_iff.mp h).1
      have e0 : δ0[j]? = some s := by rw [e]; simp [hjl]
      obtain ⟨ov, h1, h2⟩ := w0.rep j s e0
      have ng : s.gh = true → False := fun hg => by
        have := non j s hj h
        cases s with
        | sto _ => cases this
        | _ => cases hg
      refine ⟨ov, h1, h2.keep k (fun hg => (ng hg).elim) (fun hg => (ng hg).elim) fun a ho => ?_⟩
      rw [non j s hj h] at ho; cases ho
    · rw [rest_out hj] at h
      obtain ⟨ov, h1, h2⟩ := w.rep j s h
      rw [wipe_get hj] at h1
      exact ⟨ov, h1, h2⟩
  · obtain ⟨a1, b1⟩ := up i s h1 h3
    obtain ⟨a2, b2⟩ := up j t h2 h4
    exact w.dis i j s t a a1 a2 h3 h4 (by rw [b1]; exact h5) (by rw [b2]; exact h6)
  · obtain ⟨a1, b1⟩ := up j _ h rfl
    exact w.loc j d a a1 (by rw [b1]; exact g)
  · obtain ⟨a1, b1⟩ := up j _ h rfl
    exact w.locB j d a a1 (by rw [b1]; exact g)
  · obtain ⟨a1, b1⟩ := up j _ h rfl
    rw [← b1]; exact w.muts j d a1
/-- a pending object of our own is written -/
theorem Wd.touch (w : Wd K F R H δ σ) {p : Addr} {o : HO} (n : ¬ R p) (no : ¬ OwnA R δ σ p) (h0 : F.H0 p = none) (t : ∃ u, H p = some u ∧ (∀ xs, u ≠ .tup xs) ∧ ∀ ob v, u ≠ .frz ob v) : Wd K F R (upd H p o) δ σ := by
  have k := keep_upd (o := o) n t
  have alv : ∀ a, H a ≠ none → upd H p o a ≠ none := fun a h => by
    by_cases e : a = p
    · rw [e, upd_same]; exact fun q => by cases q
    · rw [upd_ne e]; exact h
  refine ⟨fun i s h => ?_, w.len, w.dis, w.disC, w.loc, w.locB, w.locC, w.one, w.gun, fun a u h g => ?_, w.sub, fun a h => ⟨(w.new a h).1, alv a (w.new a h).2⟩, w.muts, fun a h => alv a (w.alv a h), w.kp.trans k⟩
  · obtain ⟨ov, h1, h2⟩ := w.rep i s h
    have ca : s.gh = true → ∀ a ∈ R.g, CelA R δ a := fun hg a ha => by
      cases s with
      | sto ds => exact ⟨ha, i, ds, h⟩
      | _ => cases hg
    refine ⟨ov, h1, h2.keep k (fun _ => rfl) (fun hg a ha => ⟨(w.ownAt (.inr (ca hg a ha))).1, upd_ne fun z => no (z ▸ .inr (ca hg a ha))⟩) fun a ho e => ?_⟩
    rw [e] at h1
    have oa : OwnA R δ σ a := .inl ⟨i, s, h, ho, h1⟩
    exact ⟨(w.ownAt oa).1, upd_ne fun z => no (z ▸ oa)⟩
  · rw [upd_ne fun z => by subst z; rw [h0] at h; cases h]
    exact w.fr a u h g
def GW (g : TG) (vs : List Nat) : Prop := ∀ v σ H (Q Q' : L2.St → Hp → Prop), g v σ H Q → (∀ σ2 H2, L2.wipe σ2 vs = L2.wipe σ vs → Q σ2 H2 → Q' σ2 H2) → g v σ H Q'
theorem wipe_set {i : Nat} {ov : Option V} : ∀ {vs : List Nat}, i ∈ vs → L2.wipe (σ.set i ov) vs = L2.wipe σ vs
  | [], h => by cases h
  | v :: vs, h => by
    show (L2.wipe (σ.set i ov) vs).set v none = (L2.wipe σ vs).set v none
    by_cases hm : i ∈ vs
    · rw [wipe_set hm]
    · have e : i = v := (List.mem_cons.mp h).elim id fun z => absurd z hm
      subst e
      have : ∀ (us : List Nat), i ∉ us → L2.wipe (σ.set i ov) us = (L2.wipe σ us).set i ov := by
        intro us
        induction us with
        | nil => intro _; rfl
        | cons x us ih =>
          intro h
          have h1 : x ≠ i := fun e => h (by rw [e]; exact List.mem_cons_self)
          show (L2.wipe (σ.set i ov) us).set x none = ((L2.wipe σ us).set x none).set i ov
          rw [ih fun z => h (List.mem_cons_of_mem _ z), List.set_comm _ _ h1]
      rw [this vs hm, List.set_set]
theorem gw_name {i : Nat} {vs : List Nat} (h : i ∈ vs) : GW (gName i) vs := fun v σ H Q Q' q f => f _ _ (wipe_set h) q
def yesT : MT := fun δ => some (true, δ)
theorem t_yes : EvT K tYes yesT := fun F R H δ σ b δ' w hf Q q => by cases hf; exact q R H w Ext.refl
def lcL (g : MG) (t : MT) (e : MD) (vs : List Nat) : List D → List D → Env → Option (List D × Env)
  | [], acc, δ => some (acc, δ)
  | d :: r, acc, δ => (g d δ).bind fun δ2 => (t δ2).bind fun p => if p.1 = true then (e p.2).bind fun q => if acc.length < sizeLine then lcL g t e vs r (acc ++ [q.1]) (wipeE q.2 vs) else none
    else lcL g t e vs r acc (wipeE p.2 vs)
def lcE (fi : MI) (g : MG) (t : MT) (e : MD) (vs : List Nat) : ME := fun δ => (fi δ).bind fun p => if noOwn p.2 vs = true then (lcL g t e vs p.1 [] (wipeE p.2 vs)).bind fun q => some (.fre (.lst q.1), restE p.2 q.2 vs) else none
theorem ev_lc {wi : TI} {fi : MI} {g : TG} {fg : MG} {tt : TT} {ft : MT} {te : TE} {fe : MD} {vs : List Nat} (hi : EvI K wi fi) (hg : EvG K g fg) (gw : GW g vs) (ht : EvT K tt ft) (he : EvD K te fe) : Ev K (tLc wi g tt te vs) (lcE fi fg ft fe vs) :=
  fun F R H δ σ o δ' w hf Q q => by
  obtain ⟨⟨ds, δ1⟩, e1, hf⟩ := Option.bind_eq_some_iff.mp hf
  split at hf
  case isFalse => cases hf
  rename_i no
  obtain ⟨⟨accF, δF⟩, e2, hf⟩ := Option.bind_eq_some_iff.mp hf
  cases hf
  refine hi F R H δ σ ds δ1 w e1 _ fun J R1 H1 w1 x1 hJ => ?_
  intro D hD
  have nS : ¬ OwnA R1 δ1 σ D := w1.ownNe hD
  have gD : Grow H1 (upd H1 D (.lst [])) := Grow.new hD
  refine ⟨fun i m H => m = ds.length - i ∧ ∃ R δ acc us, i ≤ ds.length ∧ Wd K F R H δ (L2.wipe σ vs) ∧ ExtS (OwnA R1 δ1 σ) (OwnA R δ (L2.wipe σ vs)) R1 H1 R H ∧ ¬ R D ∧ ¬ OwnA R δ (L2.wipe σ vs) D ∧ H D = some (.lst us) ∧ RepVs K R H acc us ∧ lcL fg ft fe vs (ds.drop i) acc δ = some (accF, δF), ⟨ds.length, by simp, R1, wipeE δ1 vs, [], [], Nat.zero_le _, (w1.alloc hD).wipe vs, ?_, fun z => (w1.new D z).2 hD, fun z => nS (wipe_own vs z), upd_same, rfl, by simpa using e2⟩, ?_⟩
  · exact ⟨SubR.refl, fun _ h => .inl h, fun a o h _ => gD a o h, fun a h => .inl (wipe_own vs h), (gD.ext (S := fun _ => False) (R := R1)).alv⟩
  rintro i m H2 ⟨rfl, R2, δ2, acc, us, hi2, w2, x2, nR, nO, hDu, ra, hl⟩
  have kp := x2.keep w1
  have it := hJ R2 H2 kp F δ2 _ w2 i
  by_cases hlt : i < ds.length
  · have hd : ds[i]? = some ds[i] := by simp [hlt]
    rw [List.drop_eq_getElem_cons hlt] at hl
    obtain ⟨δ3, e3, hl⟩ := Option.bind_eq_some_iff.mp hl
    obtain ⟨⟨b, δ4⟩, e4, hl⟩ := Option.bind_eq_some_iff.mp hl
    obtain ⟨go, yl⟩ := it.1 _ hd
    refine .inr ⟨go, fun H => ∃ R δ acc us, i + 1 ≤ ds.length ∧ Wd K F R H δ (L2.wipe σ vs) ∧ ExtS (OwnA R1 δ1 σ) (OwnA R δ (L2.wipe σ vs)) R1 H1 R H ∧ ¬ R D ∧ ¬ OwnA R δ (L2.wipe σ vs) D ∧ H D = some (.lst us) ∧ RepVs K R H acc us ∧ lcL fg ft fe vs (ds.drop (i + 1)) acc δ = some (accF, δF), fun H' h => ⟨_, by omega, rfl, h⟩, fun x H3 y => ?_⟩
    obtain ⟨w3, g3, r3⟩ := yl x H3 y
    refine gw x _ H3 _ _ (hg F R2 H3 δ2 _ _ x δ3 w3 r3 e3 (fun σ4 H4 => Wd K F R2 H4 δ3 σ4 ∧ Grow H3 H4 ∧ ∀ a, OwnA R2 δ3 σ4 a → OwnA R2 δ2 (L2.wipe σ vs) a) fun σ4 H4 w4 g4 o4 => ⟨w4, g4, o4⟩) ?_
    rintro σ4 H4 hw ⟨w4, g4, o4⟩
    rw [wipe_idem vs vs fun _ h => h] at hw
    refine ⟨hw, ?_⟩
    refine ht F R2 H4 δ3 σ4 b δ4 w4 e4 _ fun R5 H5 w5 x5 => ?_
    have x25 : ExtS (OwnA R1 δ1 σ) (OwnA R5 δ4 σ4) R1 H1 R5 H5 := by
      have a1 : ExtS (OwnA R2 δ2 (L2.wipe σ vs)) (OwnA R2 δ3 σ4) R2 H2 R2 H4 := ⟨SubR.refl, fun _ h => .inl h, fun a o h _ => g4 a o (g3 a o h), fun a h => .inl (o4 a h), ((g3.trans g4).ext (S := fun _ => False) (R := R2)).alv⟩
      exact (x2.trans a1).trans x5
    have nO3 : ¬ OwnA R2 δ3 σ4 D := fun z => nO (o4 D z)
    have hD4 : H4 D = some (.lst us) := g4 D _ (g3 D _ hDu)
    have hD5 : H5 D = some (.lst us) := x5.frame D _ hD4 nO3
    have nR5 : ¬ R5 D := fun z => by
      rcases x5.fresh D z with z | z | z
      · exact nR z
      · rw [hD4] at z; cases z
      · exact nO3 z
    have nO5 : ¬ OwnA R5 δ4 σ4 D := fun z => (x5.own D z).elim nO3 fun z => by rw [hD4] at z; cases z
    have ra5 : RepVs K R5 H5 acc us := ra.keep (((g3.trans g4).keep).trans (x5.keep w4))
    cases b with
    | true =>
      simp only [if_true] at hl ⊢
      obtain ⟨⟨d6, δ6⟩, e6, hl⟩ := Option.bind_eq_some_iff.mp hl
      split at hl
      case isFalse => cases hl
      rename_i hz
      refine he F R5 H5 δ4 σ4 d6 δ6 w5 e6 _ fun y R6 H6 w6 x6 r6 => ?_
      have hD6 : H6 D = some (.lst us) := x6.frame D _ hD5 nO5
      have nR6 : ¬ R6 D := fun z => by
        rcases x6.fresh D z with z | z | z
        · exact nR5 z
        · rw [hD5] at z; cases z
        · exact nO5 z
      have nO6 : ¬ OwnA R6 δ6 σ4 D := fun z => (x6.own D z).elim nO5 fun z => by rw [hD5] at z; cases z
      have tD : ∃ u, H6 D = some u ∧ (∀ xs, u ≠ .tup xs) ∧ ∀ ob v, u ≠ .frz ob v := ⟨_, hD6, (fun _ q => by cases q), fun _ _ q => by cases q⟩
      have ra6 : RepVs K R6 H6 (acc ++ [d6]) (us ++ [y]) := (ra5.keep (x6.keep w5)).append (RepVs.one r6)
      refine ⟨us, hD6, by rw [← ra.length]; exact hz, R6, wipeE δ6 vs, acc ++ [d6], us ++ [y], hlt, ?_, ?_, nR6, fun z => nO6 (by rw [← hw] at z; exact wipe_own vs z), upd_same, ra6.keep (keep_upd nR6 tD), hl⟩
      · have := (w6.touch (o := .lst (us ++ [y])) nR6 nO6 (w1.H0none hD) tD).wipe vs
        rw [hw] at this; exact this
      · have x16 := x25.trans x6
        refine ⟨x16.sub, x16.fresh, fun a o h n => ?_, fun a h => x16.own a ?_, fun a h => ?_⟩
        · rw [upd_ne fun z => by subst z; rw [hD] at h; cases h]
          exact x16.frame a o h n
        · rw [← hw] at h
          exact wipe_own vs h
        · by_cases e : a = D
          · rw [e, upd_same]; exact fun q => by cases q
          · rw [upd_ne e]; exact x16.alv a h
    | false =>
      simp only [Bool.false_eq_true, if_false] at hl ⊢
      refine ⟨R5, wipeE δ4 vs, acc, us, hlt, ?_, ?_, nR5, fun z => nO5 (by rw [← hw] at z; exact wipe_own vs z), hD5, ra5, hl⟩
      · have := w5.wipe vs
        rw [hw] at this; exact this
      · refine ⟨x25.sub, x25.fresh, x25.frame, fun a h => x25.own a ?_, x25.alv⟩
        rw [← hw] at h
        exact wipe_own vs h
  · rw [List.drop_eq_nil_of_le (by omega)] at hl
    cases hl
    obtain ⟨w3, o3⟩ := Wd.rest w1 w2 kp no
    have x3 : Ext δ1 (restE δ1 δF vs) σ R1 H1 R2 H2 := ⟨x2.sub, x2.fresh, x2.frame, fun a h => x2.own a (o3 a h), x2.alv⟩
    exact .inl ⟨it.2 (by omega), q _ R2 H2 w3 (x1.trans x3) ⟨D, rfl, nR, fun z => nO (o3 D z), w1.H0none hD, us, hDu, ra⟩ fun b e => by cases e; exact x1.back hD⟩
end
end DV

/-! DV9: operators, tests, displays, subscripts, slices on data. -/
namespace DV
open PySem PySem.Spec PyProof.Rows L2
section
variable {K : PySem.W.Frag} {F : Fx} {R R1 R' : Reg} {H H1 H' : Hp} {δ δ1 δ' : Env} {σ σ' : L2.St} {X : Cx}

/-! ### ints -/
theorem ok_I {C : Int → Int → Prop} {g : Int → Int → V} {gD : D → D → Option O} (h : ∀ d1 d2 o, gD d1 d2 = some o → ∃ i j d, d1 = .int i ∧ d2 = .int j ∧ C i j ∧ o = .dat d ∧ ∀ R H, RepV K R H d (g i j)) : OpOk K (rI C g) gD :=
  fun F R H δ σ d1 d2 v1 v2 res w r1 r2 hg Q q => by
  obtain ⟨i, j, d, rfl, rfl, hc, rfl, rv⟩ := h d1 d2 res hg
  exact ⟨i, j, r1.int, r2.int, hc, q _ R H w Ext.refl (rv R H) trivial⟩
theorem ok_I0 {g : Int → Int → V} {gD : D → D → Option O} (h : ∀ d1 d2 o, gD d1 d2 = some o → ∃ i j d, d1 = .int i ∧ d2 = .int j ∧ o = .dat d ∧ ∀ R H, RepV K R H d (g i j)) : OpOk K (rI0 g) gD :=
  fun F R H δ σ d1 d2 v1 v2 res w r1 r2 hg Q q => by
  obtain ⟨i, j, d, rfl, rfl, rfl, rv⟩ := h d1 d2 res hg
  exact ⟨i, j, r1.int, r2.int, q _ R H w Ext.refl (rv R H) trivial⟩
def intG (C : Int → Int → Bool) (g : Int → Int → D) : D → D → Option O
  | .int i, .int j => if C i j = true then some (.dat (g i j)) else none
  | _, _ => none
theorem intG_inv {C : Int → Int → Bool} {g : Int → Int → D} {d1 d2 : D} {o : O} (h : intG C g d1 d2 = some o) : ∃ i j, d1 = .int i ∧ d2 = .int j ∧ C i j = true ∧ o = .dat (g i j) := by
  unfold intG at h
  split at h
  · split at h
    · rename_i i j hc; cases h; exact ⟨i, j, rfl, rfl, hc, rfl⟩
    · cases h
  · cases h
abbrev subG := intG (fun _ _ => true) fun i j => .int (i - j)
theorem k_sub : OpOk K (rI0 fun i j => .int (i - j)) subG := ok_I0 fun d1 d2 o h => let ⟨i, j, e1, e2, _, e3⟩ := intG_inv h; ⟨i, j, _, e1, e2, e3, fun _ _ => rfl⟩
abbrev ltG := intG (fun _ _ => true) fun i j => .bl (decide (i < j))
theorem k_lt : OpOk K (rI0 fun i j => .bl (decide (i < j))) ltG := ok_I0 fun d1 d2 o h => let ⟨i, j, e1, e2, _, e3⟩ := intG_inv h; ⟨i, j, _, e1, e2, e3, fun _ _ => rfl⟩
abbrev leG := intG (fun _ _ => true) fun i j => .bl (decide (i ≤ j))
abbrev gtG := intG (fun _ _ => true) fun i j => .bl (decide (j < i))
abbrev geG := intG (fun _ _ => true) fun i j => .bl (decide (j ≤ i))
theorem k_ge : OpOk K (rI0 fun i j => .bl (decide (j ≤ i))) geG := ok_I0 fun d1 d2 o h => let ⟨i, j, e1, e2, _, e3⟩ := intG_inv h; ⟨i, j, _, e1, e2, e3, fun _ _ => rfl⟩
abbrev modG := intG (fun _ j => decide (0 < j)) fun i j => .int (i % j)
theorem k_mod : OpOk K (rI (fun _ j => 0 < j) fun i j => .int (i % j)) modG := ok_I fun d1 d2 o h => let ⟨i, j, e1, e2, c, e3⟩ := intG_inv h; ⟨i, j, _, e1, e2, of_decide_eq_true c, e3, fun _ _ => rfl⟩
/-- // by a positive divisor of at most 2^100 -/
abbrev divG := intG (fun _ j => decide (0 < j) && decide (j.natAbs < 2 ^ 100)) fun i j => .int (i / j)
theorem k_div : OpOk K (rI CDivW fun i j => .int (i / j)) divG := ok_I fun d1 d2 o h => by
  obtain ⟨i, j, e1, e2, c, e3⟩ := intG_inv h
  rw [Bool.and_eq_true, decide_eq_true_eq, decide_eq_true_eq] at c
  exact ⟨i, j, _, e1, e2, wide_div c.1 c.2 (by decide) (by decide), e3, fun _ _ => rfl⟩
def CPowB (i j : Int) : Prop := 0 ≤ j ∧ (Builtin.Int.intBits i : Int) * j ≤ 2 ^ 27
theorem op_powB : OpR X (binaryOp .Pow) (rI CPowB fun i j => .int (i ^ j.toNat)) := opI fun _ _ _ _ _ _ _ hc q => PyProof.Rows.pow_int hc.1 hc.2 q
abbrev powG := intG (fun i j => decide (0 ≤ j) && decide ((Builtin.Int.intBits i : Int) * j ≤ 2 ^ 27)) fun i j => .int (i ^ j.toNat)
theorem k_pow : OpOk K (rI CPowB fun i j => .int (i ^ j.toNat)) powG := ok_I fun d1 d2 o h => by
  obtain ⟨i, j, e1, e2, c, e3⟩ := intG_inv h
  rw [Bool.and_eq_true, decide_eq_true_eq, decide_eq_true_eq] at c
  exact ⟨i, j, _, e1, e2, c, e3, fun _ _ => rfl⟩
theorem OpOk.or {r r' : R2} {g g' : D → D → Option O} (h : OpOk K r g) (h' : OpOk K r' g') : OpOk K (fun x y H Q => r x y H Q ∨ r' x y H Q) (fun a b => match g a b with | some o => some o | none => g' a b) :=
  fun F R H δ σ d1 d2 v1 v2 res w r1 r2 hg Q q => by
  dsimp only at hg
  cases e : g d1 d2 with
  | some o => rw [e] at hg; cases hg; exact .inl (h F R H δ σ d1 d2 v1 v2 _ w r1 r2 e Q q)
  | none => rw [e] at hg; exact .inr (h' F R H δ σ d1 d2 v1 v2 res w r1 r2 hg Q q)

/-! ### + of ints, texts, lists, tuples -/
def rAddU (K : PySem.W.Frag) : R2 := fun x y H Q => (rI0 (fun i j => .int (i + j)) x y H Q ∨ rCat x y H Q) ∨ rCatA K x y H Q ∨ ∃ i j, x = .str i ∧ y = .str j ∧ i.length + j.length ≤ sizeLine ∧ Q (.str (i ++ j)) H
theorem op_addU : OpR X (binaryOp .Add) (rAddU X.K) := (op_add.or op_cat).or (op_catA.or op_add_str)
def addG : D → D → Option O
  | .int i, .int j => some (.dat (.int (i + j)))
  | .lst xs, .lst ys => if xs.length + ys.length ≤ sizeLine then some (.fre (.lst (xs ++ ys))) else none
  | .tup xs, .tup ys => if xs.length + ys.length ≤ sizeLine then some (.dat (.tup (xs ++ ys))) else none
  | .str i, .str j => if i.length + j.length ≤ sizeLine then some (.dat (.str (i ++ j))) else none
  | _, _ => none
theorem k_add : OpOk K (rAddU K) addG := fun F R H δ σ d1 d2 v1 v2 res w r1 r2 hg Q q => by
  unfold addG at hg
  split at hg
  · cases hg
    exact .inl (.inl ⟨_, _, r1.int, r2.int, q _ R H w Ext.refl rfl trivial⟩)
  · split at hg
    case isFalse => cases hg
    rename_i hl
    cases hg
    obtain ⟨a, vs, e1, h1, h2⟩ := r1.lst
    obtain ⟨b, us, e2, h3, h4⟩ := r2.lst
    refine .inl (.inr ⟨a, b, vs, us, e1, e2, h1, h3, by rw [← h2.length, ← h4.length]; exact hl, fun p hp => ?_⟩)
    exact q _ R _ (w.alloc hp) (Ext.alloc hp) (fre_lst w hp (h2.append h4)) fun c e => by cases e; exact hp
  · split at hg
    case isFalse => cases hg
    rename_i xs ys hl
    cases hg
    obtain ⟨a, vs, e1, h1, h2⟩ := r1.tupX
    obtain ⟨b, us, e2, h3, h4⟩ := r2.tupX
    refine .inr (.inl ⟨a, b, vs, us, e1, e2, h1.t, h3.t, by rw [← h2.length, ← h4.length]; exact hl, fun z => ?_, fun _ z => ?_, fun _ _ p hp => ?_⟩)
    · subst z
      have : xs = [] := List.length_eq_zero_iff.mp h2.length
      subst this
      exact q _ R H w Ext.refl ⟨b, us, rfl, h3, h4⟩ trivial
    · subst z
      have : ys = [] := List.length_eq_zero_iff.mp h4.length
      subst this
      rw [List.append_nil] at q
      exact q _ R H w Ext.refl ⟨a, vs, rfl, h1, h2⟩ trivial
    · exact q _ R _ (w.alloc hp) (Ext.alloc hp) (dat_tup w hp (h2.append h4)) trivial
  · split at hg
    case isFalse => cases hg
    rename_i hl
    cases hg
    exact .inr (.inr ⟨_, _, r1.str, r2.str, hl, q _ R H w Ext.refl rfl trivial⟩)
  · cases hg
/-! ### * of ints, of a list and an int -/
def rMulU (K : PySem.W.Frag) : R2 := fun x y H Q => (rI CMul (fun i j => .int (i * j)) x y H Q ∨ rRep x y H Q) ∨ rRepT K x y H Q
theorem op_mulU : OpR X (binaryOp .Mult) (rMulU X.K) := (op_mul.or op_rep).or op_repT
def smallI (i : Int) : Bool := decide (-(2 ^ 64) < i) && decide (i < 2 ^ 64)
def mulG : D → D → Option O
  | .int i, .int j => if (smallI i || smallI j) = true then some (.dat (.int (i * j))) else none
  | .lst xs, .int k => if (decide (-(2 ^ 63) ≤ k) && decide (k < 2 ^ 63) && decide (xs.length * k.toNat ≤ sizeLine)) = true then some (.fre (.lst (List.replicate k.toNat xs).flatten)) else none
  | .tup xs, .int k => if (decide (2 ≤ k) && decide (k ≤ 1000) && decide (0 < xs.length) && decide (xs.length ≤ 1000)) = true then some (.dat (.tup (List.replicate k.toNat xs).flatten)) else none
  | _, _ => none
theorem RepVs.flat {ds : List D} {vs : List V} (h : RepVs K R H ds vs) : ∀ n, RepVs K R H (List.replicate n ds).flatten (List.replicate n vs).flatten
  | 0 => rfl
  | n + 1 => by rw [List.replicate_succ, List.replicate_succ, List.flatten_cons, List.flatten_cons]; exact h.append (RepVs.flat h n)
theorem k_mul : OpOk K (rMulU K) mulG := fun F R H δ σ d1 d2 v1 v2 res w r1 r2 hg Q q => by
  unfold mulG at hg
  split at hg
  · split at hg
    case isFalse => cases hg
    rename_i i j hl
    cases hg
    rw [Bool.or_eq_true] at hl
    refine .inl (.inl ⟨i, j, r1.int, r2.int, ?_, q _ R H w Ext.refl rfl trivial⟩)
    rcases hl with z | z
    · unfold smallI at z; rw [Bool.and_eq_true, decide_eq_true_eq, decide_eq_true_eq] at z; exact .inl z
    · unfold smallI at z; rw [Bool.and_eq_true, decide_eq_true_eq, decide_eq_true_eq] at z; exact .inr z
  · split at hg
    case isFalse => cases hg
    rename_i xs k hl
    cases hg
    simp only [Bool.and_eq_true, decide_eq_true_eq] at hl
    obtain ⟨a, vs, e1, h1, h2⟩ := r1.lst
    refine .inl (.inr ⟨a, k, vs, e1, r2.int, h1, hl.1.1, hl.1.2, by rw [← h2.length]; exact hl.2, fun p hp => ?_⟩)
    exact q _ R _ (w.alloc hp) (Ext.alloc hp) (fre_lst w hp (h2.flat _)) fun c e => by cases e; exact hp
  · split at hg
    case isFalse => cases hg
    rename_i xs k hl
    cases hg
    simp only [Bool.and_eq_true, decide_eq_true_eq] at hl
    obtain ⟨a, vs, e1, h1, h2⟩ := r1.tup
    refine .inr ⟨a, k, vs, e1, r2.int, h1, fun z => ?_, hl.1.1.1, hl.1.1.2, by rw [← h2.length]; exact hl.2, fun p hp => ?_⟩
    · have := h2.length; rw [z, List.length_nil] at this; omega
    · exact q _ R _ (w.alloc hp) (Ext.alloc hp) ⟨p, _, rfl, .inl upd_same, (h2.flat _).grow (Grow.new hp)⟩ trivial
  · cases hg
/-! ### == -/
def toV : D → Option V
  | .non => some .non
  | .bl b => some (.bl b)
  | .int i => some (.int i)
  | .str x => some (.str x)
  | _ => none
theorem toV_rep {d : D} {u v : V} (h : toV d = some u) (r : RepL K R H d v) : v = u := by
  cases d with
  | non => cases h; exact r.non
  | bl b => cases h; exact r.bl
  | int i => cases h; exact r.int
  | str x => cases h; exact r.str
  | _ => cases h
mutual
def toPd : D → Option PyData
  | .non => some .none
  | .bl b => some (.bool b)
  | .int i => some (.int i)
  | .str x => some (.str x)
  | .lst ds => (toPds ds).bind fun l => some (.list l)
  | .ro ds => (toPds ds).bind fun l => some (.list l)
  | .tup ds => (toPds ds).bind fun l => some (.tuple l)
  | _ => none
def toPds : List D → Option (List PyData)
  | [] => some []
  | d :: ds => (toPd d).bind fun a => (toPds ds).bind fun b => some (a :: b)
end
mutual
theorem dp_of : ∀ {d : D} {v : V} {p : PyData}, toPd d = some p → RepV K R H d v → Dp K H v p
  | .non, _, _, h, r => by simp only [toPd] at h; cases h; cases r; exact .non
  | .bl _, _, _, h, r => by simp only [toPd] at h; cases h; cases r; exact .bl _
  | .int _, _, _, h, r => by simp only [toPd] at h; cases h; cases r; exact .int _
  | .str _, _, _, h, r => by simp only [toPd] at h; cases h; cases r; exact .str _
  | .lst ds, _, _, h, ⟨a, vs, e, _, h1, h2⟩ => by
    simp only [toPd] at h
    obtain ⟨l, h3, h⟩ := Option.bind_eq_some_iff.mp h
    cases h; subst e
    exact .lst (.of h1) (dp_ofs h3 h2)
  | .ro ds, _, _, h, ⟨a, vs, e, h1, h2⟩ => by
    simp only [toPd] at h
    obtain ⟨l, h3, h⟩ := Option.bind_eq_some_iff.mp h
    cases h; subst e
    exact .lst h1.l (dp_ofs h3 h2)
  | .tup ds, _, _, h, ⟨a, vs, e, h1, h2⟩ => by
    simp only [toPd] at h
    obtain ⟨l, h3, h⟩ := Option.bind_eq_some_iff.mp h
    cases h; subst e
    exact .tup h1.t (dp_ofs h3 h2)
  | .con _, _, _, h, _ => by simp [toPd] at h
  | .ins _ _ _, _, _, h, _ => by simp [toPd] at h
  | .dic _ _, _, _, h, _ => by simp [toPd] at h
  | .dit _ _, _, _, h, _ => by simp [toPd] at h
theorem dp_ofs : ∀ {ds : List D} {vs : List V} {ps : List PyData}, toPds ds = some ps → RepVs K R H ds vs → DpAll K H vs ps
  | [], _, _, h, r => by simp only [toPds] at h; cases h; cases (show _ = [] from r); exact .nil
  | d :: ds, _, _, h, ⟨v, r, e, h1, h2⟩ => by
    simp only [toPds] at h
    obtain ⟨a, h3, h⟩ := Option.bind_eq_some_iff.mp h
    obtain ⟨b, h4, h⟩ := Option.bind_eq_some_iff.mp h
    cases h; subst e
    exact .cons (dp_of h3 h1) (dp_ofs h4 h2)
end
theorem dp_L {d : D} {v : V} {p : PyData} (h : toPd d = some p) (r : RepL K R H d v) : Dp K H v p := by
  rcases r with r | ⟨a, e, r⟩
  · exact dp_of h r
  · subst e
    cases d with
    | lst ds =>
      simp only [toPd] at h
      obtain ⟨l, h3, h⟩ := Option.bind_eq_some_iff.mp h
      cases h
      obtain ⟨vs, h1, h2⟩ := r
      exact .lst (.of h1) (dp_ofs h3 h2)
    | ins _ _ _ => simp [toPd] at h
    | dic _ _ => simp [toPd] at h
    | dit _ _ => simp [toPd] at h
    | _ => exact r.elim
def rEqU (K : PySem.W.Frag) : R2 := fun x y H Q => rEq x y H Q ∨ rEqD K x y H Q
def rNeU (K : PySem.W.Frag) : R2 := fun x y H Q => rNe x y H Q ∨ rNeD K x y H Q
theorem op_eqU (hu : X.A.units + 64 < cLine) : OpR X (compareOp .Eq) (rEqU X.K) := op_eq.or (op_eqD hu)
theorem op_neU (hu : X.A.units + 64 < cLine) : OpR X (compareOp .NotEq) (rNeU X.K) := op_ne.or (op_neD hu)
/-- what == says of data -/
def eqB (d1 d2 : D) : Option Bool := match (toV d1).bind fun u => (toV d2).bind fun v => if scal u v = true then some (decide (u = v)) else none with
  | some b => some b
  | none => (toPd d1).bind fun a => (toPd d2).bind fun b => if (SeqAt.shaped a && SeqAt.shaped b) = true then some (PyData.eqv a b) else none
def eqG (d1 d2 : D) : Option O := (eqB d1 d2).bind fun b => some (.dat (.bl b))
def neG (d1 d2 : D) : Option O := (eqB d1 d2).bind fun b => some (.dat (.bl (!b)))
theorem eqB_ok {d1 d2 : D} {v1 v2 : V} {b : Bool} (r1 : RepL K R H d1 v1) (r2 : RepL K R H d2 v2) (h : eqB d1 d2 = some b) :
    (scal v1 v2 = true ∧ b = decide (v1 = v2)) ∨ ∃ x y, Dp K H v1 x ∧ Dp K H v2 y ∧ SeqAt.shaped x = true ∧ SeqAt.shaped y = true ∧ b = PyData.eqv x y := by
  unfold eqB at h
  split at h
  · rename_i b' e
    cases h
    obtain ⟨u, e1, e⟩ := Option.bind_eq_some_iff.mp e
    obtain ⟨v, e2, e⟩ := Option.bind_eq_some_iff.mp e
    split at e
    · rename_i hs
      cases e
      rw [toV_rep e1 r1, toV_rep e2 r2]
      exact .inl ⟨hs, rfl⟩
    · cases e
  · obtain ⟨x, e1, h⟩ := Option.bind_eq_some_iff.mp h
    obtain ⟨y, e2, h⟩ := Option.bind_eq_some_iff.mp h
    split at h
    · rename_i hs
      cases h
      rw [Bool.and_eq_true] at hs
      exact .inr ⟨x, y, dp_L e1 r1, dp_L e2 r2, hs.1, hs.2, rfl⟩
    · cases h
theorem k_eq : OpOk K (rEqU K) eqG := fun F R H δ σ d1 d2 v1 v2 res w r1 r2 hg Q q => by
  obtain ⟨b, e, hg⟩ := Option.bind_eq_some_iff.mp hg
  cases hg
  rcases eqB_ok r1 r2 e with ⟨h1, h2⟩ | ⟨x, y, h1, h2, h3, h4, h5⟩
  · exact .inl ⟨h1, q _ R H w Ext.refl (by rw [h2]; rfl) trivial⟩
  · exact .inr ⟨x, y, h1, h2, h3, h4, q _ R H w Ext.refl (by rw [h5]; rfl) trivial⟩
theorem k_ne : OpOk K (rNeU K) neG := fun F R H δ σ d1 d2 v1 v2 res w r1 r2 hg Q q => by
  obtain ⟨b, e, hg⟩ := Option.bind_eq_some_iff.mp hg
  cases hg
  rcases eqB_ok r1 r2 e with ⟨h1, h2⟩ | ⟨x, y, h1, h2, h3, h4, h5⟩
  · exact .inl ⟨h1, q _ R H w Ext.refl (by rw [h2]; rfl) trivial⟩
  · exact .inr ⟨x, y, h1, h2, h3, h4, q _ R H w Ext.refl (by rw [h5]; rfl) trivial⟩
def toVs : List D → Option (List V)
  | [] => some []
  | d :: ds => (toV d).bind fun v => (toVs ds).bind fun vs => some (v :: vs)
def inG (neg : Bool) (x y : D) : Option O := (toV x).bind fun u => (itemsOf y).bind fun ds => (toVs ds).bind fun us => some (.dat (.bl (if neg then !inV u us else inV u us)))
/-! ### items -/
theorem RepVs.atI {ds : List D} {vs : List V} {i : Int} {d : D} (r : RepVs K R H ds vs) (h : atI ds i = some d) : ∃ v, L2.atI vs i = some v ∧ RepV K R H d v := by
  obtain ⟨j, h1, h2⟩ := Option.bind_eq_some_iff.mp h
  obtain ⟨v, h3, h4⟩ := r.get h2
  refine ⟨v, ?_, h4⟩
  unfold L2.atI
  rw [← r.length, h1]; exact h3
def ixG : D → D → Option O
  | .lst xs, .int i => (atI xs i).bind fun d => some (.dat d)
  | .ro xs, .int i => (atI xs i).bind fun d => some (.dat d)
  | .tup xs, .int i => (atI xs i).bind fun d => some (.dat d)
  | .str z, .int i => if z.length ≤ sizeLine then (atI z.cps.toList i).bind fun c => some (.dat (.str ⟨#[c]⟩)) else none
  | _, _ => none
theorem k_ix : OpOk K (rIx K) ixG := fun F R H δ σ d1 d2 v1 v2 res w r1 r2 hg Q q => by
  unfold ixG at hg
  split at hg
  · obtain ⟨d, e, hg⟩ := Option.bind_eq_some_iff.mp hg
    cases hg
    obtain ⟨a, vs, e1, h1, h2⟩ := r1.lst
    obtain ⟨v, h3, h4⟩ := h2.atI e
    exact .inl ⟨a, vs, _, v, e1, r2.int, .of h1, h3, q _ R H w Ext.refl h4 trivial⟩
  · obtain ⟨d, e, hg⟩ := Option.bind_eq_some_iff.mp hg
    cases hg
    obtain ⟨a, vs, e1, h1, h2⟩ := r1.ro
    obtain ⟨v, h3, h4⟩ := h2.atI e
    exact .inl ⟨a, vs, _, v, e1, r2.int, h1, h3, q _ R H w Ext.refl h4 trivial⟩
  · obtain ⟨d, e, hg⟩ := Option.bind_eq_some_iff.mp hg
    cases hg
    obtain ⟨a, vs, e1, h1, h2⟩ := r1.tup
    obtain ⟨v, h3, h4⟩ := h2.atI e
    exact .inr (.inl ⟨a, vs, _, v, e1, r2.int, h1, h3, q _ R H w Ext.refl h4 trivial⟩)
  · split at hg
    case isFalse => cases hg
    rename_i hl
    obtain ⟨c, e, hg⟩ := Option.bind_eq_some_iff.mp hg
    cases hg
    exact .inr (.inr ⟨_, _, c, r1.str, r2.int, hl, e, q _ R H w Ext.refl rfl trivial⟩)
  · cases hg
/-! ### displays -/
def tupE (fa : MAD) : ME := fun δ => (fa δ).bind fun p => if p.1.length ≤ sizeLine then some (.dat (.tup p.1), p.2) else none
def lstE (fa : MAD) : ME := fun δ => (fa δ).bind fun p => if p.1.length ≤ sizeLine then some (.fre (.lst p.1), p.2) else none
theorem ev_tup {ta : TA} {fa : MAD} (h : EvAD K ta fa) : Ev K (tTup ta) (tupE fa) := fun F R H δ σ o δ' w hf Q q => by
  obtain ⟨⟨ds, δ1⟩, e1, hf⟩ := Option.bind_eq_some_iff.mp hf
  split at hf
  case isFalse => cases hf
  rename_i hl
  cases hf
  refine h F R H δ σ ds δ1 w e1 _ fun vs R1 H1 w1 x1 r1 => ⟨by rw [← r1.length]; exact hl, fun p hp => ?_⟩
  exact q _ R1 _ (w1.alloc hp) (x1.trans (Ext.alloc hp)) (dat_tup w1 hp r1) trivial
theorem ev_lst {ta : TA} {fa : MAD} (h : EvAD K ta fa) : Ev K (tLst ta) (lstE fa) := fun F R H δ σ o δ' w hf Q q => by
  obtain ⟨⟨ds, δ1⟩, e1, hf⟩ := Option.bind_eq_some_iff.mp hf
  split at hf
  case isFalse => cases hf
  rename_i hl
  cases hf
  refine h F R H δ σ ds δ1 w e1 _ fun vs R1 H1 w1 x1 r1 => ⟨by rw [← r1.length]; exact hl, fun p hp => ?_⟩
  exact q _ R1 _ (w1.alloc hp) (x1.trans (Ext.alloc hp)) (fre_lst w1 hp r1) fun c e => by cases e; exact x1.back hp
/-! ### slices -/
def nopP : MP := fun δ => some (none, δ)
def intP (f : ME) : MP := fun δ => (f δ).bind fun p => match p.1 with
  | .dat (.int i) => some (some i, p.2)
  | _ => none
theorem p_none : EvP K tNoPart nopP := fun F R H δ σ o δ' w hf Q q => by cases hf; exact q R H w Ext.refl
theorem p_some {te : TE} {f : ME} (h : Ev K te f) : EvP K (tPart te) (intP f) := fun F R H δ σ o δ' w hf Q q => by
  obtain ⟨⟨o1, δ1⟩, e1, hf⟩ := Option.bind_eq_some_iff.mp hf
  refine h F R H δ σ o1 δ1 w e1 _ fun v R1 H1 w1 x1 r1 _ => ?_
  dsimp only at hf
  split at hf
  · cases hf; exact ⟨_, r1, q R1 H1 w1 x1⟩
  · cases hf
def cutD (xs : List D) (lo hi : Option Int) : List D := (xs.drop (HT.sIx xs.length 0 lo)).take (HT.sIx xs.length xs.length hi - HT.sIx xs.length 0 lo)
theorem RepVs.cut {ds : List D} {vs : List V} (r : RepVs K R H ds vs) (lo hi : Option Int) : RepVs K R H (cutD ds lo hi) (cutV vs lo hi) := by
  unfold cutD cutV
  rw [r.length]
  exact (r.drop _).take _
def rSlU (K : PySem.W.Frag) : V → Option Int → Option Int → Hp → VK → Prop := fun x lo hi H Q => rSlL K x lo hi H Q ∨ rSlA K x lo hi H Q
theorem sl_U : SlR X (rSlU X.K) := sl_list.or sl_tupA
def slG (lo hi : Option Int) : D → Option O
  | .lst xs => some (.fre (.lst (cutD xs lo hi)))
  | .ro xs => some (.fre (.lst (cutD xs lo hi)))
  | .tup xs => some (.dat (.tup (cutD xs lo hi)))
  | _ => none
def slE (f : ME) (l h : MP) : ME := fun δ => (f δ).bind fun p => (l p.2).bind fun a => (h a.2).bind fun b => (deref b.2 p.1).bind fun d => (slG a.1 b.1 d).bind fun o => some (o, b.2)
theorem ev_sl {te : TE} {tl th : TO} {f : ME} {l h : MP} (he : Ev K te f) (hl : EvP K tl l) (hh : EvP K th h) : Ev K (tSl (rSlU K) te tl th) (slE f l h) := fun F R H δ σ o δ' w hf Q q => by
  obtain ⟨⟨o1, δ1⟩, e1, hf⟩ := Option.bind_eq_some_iff.mp hf
  obtain ⟨⟨lo, δ2⟩, e2, hf⟩ := Option.bind_eq_some_iff.mp hf
  obtain ⟨⟨hi, δ3⟩, e3, hf⟩ := Option.bind_eq_some_iff.mp hf
  obtain ⟨d, e4, hf⟩ := Option.bind_eq_some_iff.mp hf
  obtain ⟨res, e5, hf⟩ := Option.bind_eq_some_iff.mp hf
  cases hf
  refine he F R H δ σ o1 δ1 w e1 _ fun v R1 H1 w1 x1 r1 _ => ?_
  refine hl F R1 H1 δ1 σ lo δ2 w1 e2 _ fun R2 H2 w2 x2 => ?_
  refine hh F R2 H2 δ2 σ hi δ3 w2 e3 _ fun R3 H3 w3 x3 => ?_
  have rl := deref_ok w3 ((r1.ext w1 x2).ext w2 x3) e4
  have x13 := (x1.trans x2).trans x3
  cases d with
  | lst xs =>
    cases e5
    obtain ⟨a, vs, e, h1, h2⟩ := rl.lst
    exact .inl ⟨a, vs, e, .of h1, fun p hp => q _ R3 _ (w3.alloc hp) (x13.trans (Ext.alloc hp)) (fre_lst w3 hp (h2.cut lo hi)) fun c e => by cases e; exact x13.back hp⟩
  | ro xs =>
    cases e5
    obtain ⟨a, vs, e, h1, h2⟩ := rl.ro
    exact .inl ⟨a, vs, e, h1, fun p hp => q _ R3 _ (w3.alloc hp) (x13.trans (Ext.alloc hp)) (fre_lst w3 hp (h2.cut lo hi)) fun c e => by cases e; exact x13.back hp⟩
  | tup xs =>
    cases e5
    obtain ⟨a, vs, e, h1, h2⟩ := rl.tupX
    refine .inr ⟨a, vs, e, h1.t, fun z => ?_, fun _ p hp => q _ R3 _ (w3.alloc hp) (x13.trans (Ext.alloc hp)) (dat_tup w3 hp (h2.cut lo hi)) trivial⟩
    refine q _ R3 H3 w3 x13 ⟨a, vs, rfl, h1, ?_⟩ trivial
    have c : cutV vs lo hi = vs := by unfold cutV; rw [z.1, z.2]; simp
    have := h2.cut lo hi
    rw [c] at this; exact this
  | _ => cases e5
def revE (f : ME) : ME := fun δ => (f δ).bind fun p => (deref p.2 p.1).bind fun d => match d with
  | .lst xs => some (.fre (.lst xs.reverse), p.2)
  | .ro xs => some (.fre (.lst xs.reverse), p.2)
  | _ => none
/-! ### tests -/
def blOf : O → Option Bool
  | .dat (.bl b) => some b
  | _ => none
theorem blOf_ok {o : O} {v : V} {b : Bool} (h : blOf o = some b) (r : RepO K F R H δ σ o v) : v = .bl b := by
  unfold blOf at h
  split at h
  · cases h; exact r
  · cases h
def testE (f : ME) : MT := fun δ => (f δ).bind fun p => (blOf p.1).bind fun b => some (b, p.2)
theorem t_test {te : TE} {f : ME} (h : Ev K te f) : EvT K (tTest te) (testE f) := fun F R H δ σ b δ' w hf Q q => by
  obtain ⟨⟨o, δ1⟩, e1, hf⟩ := Option.bind_eq_some_iff.mp hf
  obtain ⟨b', e2, hf⟩ := Option.bind_eq_some_iff.mp hf
  cases hf
  exact h F R H δ σ o δ1 w e1 _ fun v R1 H1 w1 x1 r1 _ => ⟨b, blOf_ok e2 r1, q R1 H1 w1 x1⟩
theorem t_b {te : TE} {f : ME} (h : Ev K te f) : EvT K (tB te) (testE f) := fun F R H δ σ b δ' w hf Q q => by
  obtain ⟨⟨o, δ1⟩, e1, hf⟩ := Option.bind_eq_some_iff.mp hf
  obtain ⟨b', e2, hf⟩ := Option.bind_eq_some_iff.mp hf
  cases hf
  exact h F R H δ σ o δ1 w e1 _ fun v R1 H1 w1 x1 r1 _ => ⟨b, blOf_ok e2 r1, q R1 H1 w1 x1⟩
def andT (f g : MT) : MT := fun δ => (f δ).bind fun p => if p.1 = true then g p.2 else some (false, p.2)
def orT (f g : MT) : MT := fun δ => (f δ).bind fun p => if p.1 = true then some (true, p.2) else g p.2
def notT (f : MT) : MT := fun δ => (f δ).bind fun p => some (!p.1, p.2)
theorem t_and {t u : TT} {f g : MT} (h1 : EvT K t f) (h2 : EvT K u g) : EvT K (tAnd t u) (andT f g) := fun F R H δ σ b δ' w hf Q q => by
  obtain ⟨⟨b1, δ1⟩, e1, hf⟩ := Option.bind_eq_some_iff.mp hf
  refine h1 F R H δ σ b1 δ1 w e1 _ fun R1 H1 w1 x1 => ?_
  cases b1 with
  | true => exact h2 F R1 H1 δ1 σ b δ' w1 hf Q fun R2 H2 w2 x2 => q R2 H2 w2 (x1.trans x2)
  | false => cases hf; exact q R1 H1 w1 x1
theorem t_or {t u : TT} {f g : MT} (h1 : EvT K t f) (h2 : EvT K u g) : EvT K (tOr t u) (orT f g) := fun F R H δ σ b δ' w hf Q q => by
  obtain ⟨⟨b1, δ1⟩, e1, hf⟩ := Option.bind_eq_some_iff.mp hf
  refine h1 F R H δ σ b1 δ1 w e1 _ fun R1 H1 w1 x1 => ?_
  cases b1 with
  | true => cases hf; exact q R1 H1 w1 x1
  | false => exact h2 F R1 H1 δ1 σ b δ' w1 hf Q fun R2 H2 w2 x2 => q R2 H2 w2 (x1.trans x2)
theorem t_not {t : TT} {f : MT} (h1 : EvT K t f) : EvT K (tNot t) (notT f) := fun F R H δ σ b δ' w hf Q q => by
  obtain ⟨⟨b1, δ1⟩, e1, hf⟩ := Option.bind_eq_some_iff.mp hf
  cases hf
  exact h1 F R H δ σ b1 δ1 w e1 _ fun R1 H1 w1 x1 => q R1 H1 w1 x1
def andE (f g : ME) : ME := fun δ => (f δ).bind fun p => (blOf p.1).bind fun b => if b = true then g p.2 else some (.dat (.bl false), p.2)
def orE (f g : ME) : ME := fun δ => (f δ).bind fun p => (blOf p.1).bind fun b => if b = true then some (.dat (.bl true), p.2) else g p.2
def notE (f : ME) : ME := fun δ => (f δ).bind fun p => (blOf p.1).bind fun b => some (.dat (.bl (!b)), p.2)
theorem FreO.tr {o : O} {v : V} (x : Ext δ δ' σ R H R' H') (h : FreO H' o v) : FreO H o v := h.ext x
def ifE (c : MT) (f g : ME) : ME := fun δ => (c δ).bind fun p => if p.1 = true then f p.2 else g p.2
/-- a < b < c -/
def chainE (g g' : D → D → Option O) (fa fb fc : ME) : ME := fun δ => (fa δ).bind fun p => (fb p.2).bind fun q => (deref q.2 p.1).bind fun d1 => (deref q.2 q.1).bind fun d2 => (g d1 d2).bind fun o => (blOf o).bind fun b => if b = true then
  (fc q.2).bind fun r => (deref r.2 q.1).bind fun d2' => (deref r.2 r.1).bind fun d3 => (g' d2' d3).bind fun o' => some (o', r.2) else some (.dat (.bl false), q.2)
end
end DV

/-! DV10: built-in functions on data. -/
namespace DV
open PySem PySem.Spec PyProof.Rows L2
section
variable {K : PySem.W.Frag} {F : Fx} {R R1 R' : Reg} {H H1 H' : Hp} {δ δ1 δ' : Env} {σ σ' : L2.St} {X : Cx}
def RepLs (K : PySem.W.Frag) (R : Reg) (H : Hp) : List D → List V → Prop
  | [], vs => vs = []
  | d :: ds, vs => ∃ v r, vs = v :: r ∧ RepL K R H d v ∧ RepLs K R H ds r
theorem derefs_ok (w : Wd K F R H δ σ) : ∀ {os : List O} {vs : List V} {ds : List D}, RepOs K F R H δ σ os vs → derefs δ os = some ds → RepLs K R H ds vs
  | [], _, _, r, h => by cases h; exact r
  | o :: os, _, _, ⟨v, r, e, h1, h2⟩, h => by
    obtain ⟨d, e1, h⟩ := Option.bind_eq_some_iff.mp h
    obtain ⟨ds, e2, h⟩ := Option.bind_eq_some_iff.mp h
    cases h
    exact ⟨v, r, e, deref_ok w h1 e1, derefs_ok w h2 e2⟩
def CbOk (K : PySem.W.Frag) (r : List V → Hp → VK → Prop) (g : List D → Option O) : Prop := ∀ F R H δ σ ds vs res, Wd K F R H δ σ → RepLs K R H ds vs → g ds = some res → ∀ Q : VK,
  (∀ v R' H', Wd K F R' H' δ σ → Ext δ δ σ R H R' H' → RepO K F R' H' δ σ res v → FreO H res v → Q v H') → r vs H Q
def cbE (g : List D → Option O) (fa : MA) : ME := fun δ => (fa δ).bind fun p => (derefs p.2 p.1).bind fun ds => (g ds).bind fun o => some (o, p.2)
theorem ev_cb {r : List V → Hp → VK → Prop} {g : List D → Option O} {ta : TA} {fa : MA} (h : CbOk K r g) (ha : EvA K ta fa) : Ev K (tCB r ta) (cbE g fa) := fun F R H δ σ o δ' w hf Q q => by
  obtain ⟨⟨os, δ1⟩, e1, hf⟩ := Option.bind_eq_some_iff.mp hf
  obtain ⟨ds, e2, hf⟩ := Option.bind_eq_some_iff.mp hf
  obtain ⟨res, e3, hf⟩ := Option.bind_eq_some_iff.mp hf
  cases hf
  refine ha F R H δ σ os δ1 w e1 _ fun vs R1 H1 w1 x1 r1 _ => ?_
  exact h F R1 H1 δ1 σ ds vs _ w1 (derefs_ok w1 r1 e2) e3 Q fun v R2 H2 w2 x2 r2 f2 => q v R2 H2 w2 (x1.trans x2) r2 (f2.ext x1)
theorem RepLs.one {d : D} {vs : List V} (h : RepLs K R H [d] vs) : ∃ v, vs = [v] ∧ RepL K R H d v := by
  obtain ⟨v, r, e, h1, h2⟩ := h
  have : r = [] := h2
  subst this
  exact ⟨v, e, h1⟩
theorem RepLs.two {d e : D} {vs : List V} (h : RepLs K R H [d, e] vs) : ∃ v u, vs = [v, u] ∧ RepL K R H d v ∧ RepL K R H e u := by
  obtain ⟨v, r, e, h1, u, r', e', h2, h3⟩ := h
  have : r' = [] := h3
  subst this; subst e'
  exact ⟨v, u, e, h1, h2⟩
/-- a list of ints -/
def intsOf : List D → Option (List Int)
  | [] => some []
  | .int i :: ds => (intsOf ds).bind fun l => some (i :: l)
  | _ => none
theorem intsOf_map : ∀ ns : List Int, intsOf (ns.map D.int) = some ns
  | [] => rfl
  | n :: r => by simp [intsOf, intsOf_map r]
theorem intsOf_inv : ∀ {ds : List D} {ns : List Int}, intsOf ds = some ns → ds = ns.map D.int
  | [], _, h => by cases h; rfl
  | .int i :: ds, _, h => by
    obtain ⟨l, e, h⟩ := Option.bind_eq_some_iff.mp h
    cases h
    rw [List.map_cons, intsOf_inv e]
  | .non :: _, _, h => by cases h
  | .bl _ :: _, _, h => by cases h
  | .str _ :: _, _, h => by cases h
  | .con _ :: _, _, h => by cases h
  | .lst _ :: _, _, h => by cases h
  | .ro _ :: _, _, h => by cases h
  | .tup _ :: _, _, h => by cases h
  | .ins _ _ _ :: _, _, h => by cases h
  | .dic _ _ :: _, _, h => by cases h
  | .dit _ _ :: _, _, h => by cases h
theorem ints_rep : ∀ {ns : List Int} {vs : List V}, RepVs K R H (ns.map D.int) vs → vs = ns.map V.int
  | [], _, h => h
  | n :: r, _, ⟨v, u, e, h1, h2⟩ => by subst e; rw [List.map_cons, ints_rep h2, show v = .int n from h1]
def lstOf : D → Option (List D)
  | .lst ds => some ds
  | .ro ds => some ds
  | _ => none
theorem lstOf_rep {d : D} {ds : List D} {v : V} (h : lstOf d = some ds) (r : RepL K R H d v) : ∃ a vs, v = .ref a ∧ SqL K H a vs ∧ RepVs K R H ds vs := by
  cases d with
  | lst xs => cases h; obtain ⟨a, vs, e, h1, h2⟩ := r.lst; exact ⟨a, vs, e, .of h1, h2⟩
  | ro xs => cases h; exact r.ro
  | _ => cases h
theorem intsL {d : D} {ns : List Int} {v : V} (h : (lstOf d).bind intsOf = some ns) (r : RepL K R H d v) : ∃ a, v = .ref a ∧ SqL K H a (ns.map V.int) := by
  obtain ⟨ds, e1, e2⟩ := Option.bind_eq_some_iff.mp h
  obtain ⟨a, vs, e, h1, h2⟩ := lstOf_rep e1 r
  have := intsOf_inv e2
  subst this
  rw [ints_rep h2] at h1
  exact ⟨a, e, h1⟩
/-! ### len -/
def rLen (K : PySem.W.Frag) : List V → Hp → VK → Prop := fun xs H Q => ∃ x n, xs = [x] ∧ LenV K x H n ∧ Q (.int n) H
theorem call_len' : CallR X (.builtin "len") (rLen X.K) := call_len
def lenG : List D → Option O
  | [.lst ds] => some (.dat (.int (ds.length : Nat)))
  | [.ro ds] => some (.dat (.int (ds.length : Nat)))
  | [.tup ds] => some (.dat (.int (ds.length : Nat)))
  | [.str x] => if x.length ≤ sizeLine then some (.dat (.int (x.length : Nat))) else none
  | _ => none
theorem c_len : CbOk K (rLen K) lenG := fun F R H δ σ ds vs res w r hg Q q => by
  unfold lenG at hg
  split at hg
  · cases hg
    obtain ⟨v, e, r1⟩ := r.one
    obtain ⟨a, us, e1, h1, h2⟩ := r1.lst
    exact ⟨v, _, e, by rw [e1]; exact .inl ⟨us, .of h1, rfl⟩, q _ R H w Ext.refl (by rw [h2.length]; rfl) trivial⟩
  · cases hg
    obtain ⟨v, e, r1⟩ := r.one
    obtain ⟨a, us, e1, h1, h2⟩ := r1.ro
    exact ⟨v, _, e, by rw [e1]; exact .inl ⟨us, h1, rfl⟩, q _ R H w Ext.refl (by rw [h2.length]; rfl) trivial⟩
  · cases hg
    obtain ⟨v, e, r1⟩ := r.one
    obtain ⟨a, us, e1, h1, h2⟩ := r1.tup
    exact ⟨v, _, e, by rw [e1]; exact .inr ⟨us, h1, rfl⟩, q _ R H w Ext.refl (by rw [h2.length]; rfl) trivial⟩
  · split at hg
    case isFalse => cases hg
    rename_i hl
    cases hg
    obtain ⟨v, e, r1⟩ := r.one
    exact ⟨v, _, e, by rw [r1.str]; exact ⟨hl, rfl⟩, q _ R H w Ext.refl rfl trivial⟩
  · cases hg
/-! ### int -/
def rInt : List V → Hp → VK → Prop := fun xs H Q => (∃ i, xs = [.int i] ∧ Q (.int i) H) ∨ ∃ k, xs = [.bl k] ∧ Q (.int (if k then 1 else 0)) H
theorem call_int' : CallR X (.type "int") rInt := call_int1
def intOfG : List D → Option O
  | [.int i] => some (.dat (.int i))
  | [.bl b] => some (.dat (.int (if b then 1 else 0)))
  | _ => none
theorem c_int : CbOk K rInt intOfG := fun F R H δ σ ds vs res w r hg Q q => by
  unfold intOfG at hg
  split at hg
  · cases hg
    obtain ⟨v, e, r1⟩ := r.one
    exact .inl ⟨_, by rw [e, r1.int], q _ R H w Ext.refl rfl trivial⟩
  · cases hg
    obtain ⟨v, e, r1⟩ := r.one
    exact .inr ⟨_, by rw [e, r1.bl], q _ R H w Ext.refl rfl trivial⟩
  · cases hg
def minL : Int → List Int → Int
  | m, [] => m
  | m, n :: r => minL (if n < m then n else m) r
def maxL : Int → List Int → Int
  | m, [] => m
  | m, n :: r => maxL (if n > m then n else m) r
theorem minL_spec : ∀ (r : List Int) (m : Int), minL m r ∈ m :: r ∧ ∀ y ∈ m :: r, minL m r ≤ y
  | [], m => by simp [minL]
  | n :: r, m => by
    by_cases hc : n < m
    · have ih := minL_spec r n
      have e : minL m (n :: r) = minL n r := by simp [minL, hc]
      rw [e]
      refine ⟨List.mem_cons_of_mem _ ih.1, fun y hy => ?_⟩
      rcases List.mem_cons.mp hy with z | z
      · have := ih.2 n List.mem_cons_self
        rw [z]; omega
      · exact ih.2 y z
    · have ih := minL_spec r m
      have e : minL m (n :: r) = minL m r := by simp [minL, hc]
      rw [e]
      refine ⟨(List.mem_cons.mp ih.1).elim (fun e => by rw [e]; exact List.mem_cons_self) fun z => List.mem_cons_of_mem _ (List.mem_cons_of_mem _ z), fun y hy => ?_⟩
      have h0 := ih.2 m List.mem_cons_self
      rcases List.mem_cons.mp hy with z | z
      · rw [z]; exact h0
      · rcases List.mem_cons.mp z with z | z
        · rw [z]; omega
        · exact ih.2 y (List.mem_cons_of_mem _ z)
theorem maxL_spec : ∀ (r : List Int) (m : Int), maxL m r ∈ m :: r ∧ ∀ y ∈ m :: r, y ≤ maxL m r
  | [], m => by simp [maxL]
  | n :: r, m => by
    by_cases hc : n > m
    · have ih := maxL_spec r n
      have e : maxL m (n :: r) = maxL n r := by simp [maxL, hc]
      rw [e]
      refine ⟨List.mem_cons_of_mem _ ih.1, fun y hy => ?_⟩
      rcases List.mem_cons.mp hy with z | z
      · have := ih.2 n List.mem_cons_self
        rw [z]; omega
      · exact ih.2 y z
    · have ih := maxL_spec r m
      have e : maxL m (n :: r) = maxL m r := by simp [maxL, hc]
      rw [e]
      refine ⟨(List.mem_cons.mp ih.1).elim (fun e => by rw [e]; exact List.mem_cons_self) fun z => List.mem_cons_of_mem _ (List.mem_cons_of_mem _ z), fun y hy => ?_⟩
      have h0 := ih.2 m List.mem_cons_self
      rcases List.mem_cons.mp hy with z | z
      · rw [z]; exact h0
      · rcases List.mem_cons.mp z with z | z
        · rw [z]; omega
        · exact ih.2 y (List.mem_cons_of_mem _ z)
def rMinU (K : PySem.W.Frag) : List V → Hp → VK → Prop := fun xs H Q => (∃ i j, xs = [.int i, .int j] ∧ Q (.int (if j < i then j else i)) H) ∨ rMin K xs H Q
def rMaxU (K : PySem.W.Frag) : List V → Hp → VK → Prop := fun xs H Q => (∃ i j, xs = [.int i, .int j] ∧ Q (.int (if j > i then j else i)) H) ∨ rMax K xs H Q
theorem call_minU (hc : X.calm = true) : CallR X (.builtin "min") (rMinU X.K) := (call_min2 hc).or (cr_min hc)
theorem call_maxU (hc : X.calm = true) : CallR X (.builtin "max") (rMaxU X.K) := (call_max2 hc).or (cr_max hc)
def minG : List D → Option O
  | [.int i, .int j] => some (.dat (.int (if j < i then j else i)))
  | [d] => ((lstOf d).bind intsOf).bind fun ns => match ns with
    | m :: r => some (.dat (.int (minL m r)))
    | [] => none
  | _ => none
def maxG : List D → Option O
  | [.int i, .int j] => some (.dat (.int (if j > i then j else i)))
  | [d] => ((lstOf d).bind intsOf).bind fun ns => match ns with
    | m :: r => some (.dat (.int (maxL m r)))
    | [] => none
  | _ => none
theorem c_min : CbOk K (rMinU K) minG := fun F R H δ σ ds vs res w r hg Q q => by
  unfold minG at hg
  split at hg
  · cases hg
    obtain ⟨v, u, e, r1, r2⟩ := r.two
    exact .inl ⟨_, _, by rw [e, r1.int, r2.int], q _ R H w Ext.refl rfl trivial⟩
  · obtain ⟨ns, e1, hg⟩ := Option.bind_eq_some_iff.mp hg
    obtain ⟨v, e, r1⟩ := r.one
    obtain ⟨a, e2, h1⟩ := intsL e1 r1
    cases ns with
    | nil => cases hg
    | cons m l =>
      cases hg
      refine .inr ⟨a, m :: l, by rw [e, e2], h1, Nat.succ_pos _, fun z hz hy => ?_⟩
      obtain ⟨s1, s2⟩ := minL_spec l m
      have : z = minL m l := Int.le_antisymm (hy _ s1) (s2 _ hz)
      rw [this]
      exact q _ R H w Ext.refl rfl trivial
  · cases hg
theorem c_max : CbOk K (rMaxU K) maxG := fun F R H δ σ ds vs res w r hg Q q => by
  unfold maxG at hg
  split at hg
  · cases hg
    obtain ⟨v, u, e, r1, r2⟩ := r.two
    exact .inl ⟨_, _, by rw [e, r1.int, r2.int], q _ R H w Ext.refl rfl trivial⟩
  · obtain ⟨ns, e1, hg⟩ := Option.bind_eq_some_iff.mp hg
    obtain ⟨v, e, r1⟩ := r.one
    obtain ⟨a, e2, h1⟩ := intsL e1 r1
    cases ns with
    | nil => cases hg
    | cons m l =>
      cases hg
      refine .inr ⟨a, m :: l, by rw [e, e2], h1, Nat.succ_pos _, fun z hz hy => ?_⟩
      obtain ⟨s1, s2⟩ := maxL_spec l m
      have : z = maxL m l := Int.le_antisymm (s2 _ hz) (hy _ s1)
      rw [this]
      exact q _ R H w Ext.refl rfl trivial
  · cases hg
def tupOfG : List D → Option O
  | [.tup ds] => some (.dat (.tup ds))
  | [d] => (lstOf d).bind fun ds => some (.dat (.tup ds))
  | _ => none
def lstOfG : List D → Option O
  | [d] => (itemsOf d).bind fun ds => some (.fre (.lst ds))
  | _ => none
/-- ints in ascending sequence -/
def insI (n : Int) : List Int → List Int
  | [] => [n]
  | m :: r => if n ≤ m then n :: m :: r else m :: insI n r
def srtI : List Int → List Int
  | [] => []
  | n :: r => insI n (srtI r)
/-! ### isinstance of a built-in class -/
def tyOf : D → Option String
  | .non => some "NoneType"
  | .bl _ => some "bool"
  | .int _ => some "int"
  | .str _ => some "str"
  | .lst _ => some "list"
  | .tup _ => some "tuple"
  | _ => none
end
end DV

/-! DVS: set(xs) of a list of ints; sorted(set(xs)). -/
namespace DVS
open PySem PySem.Spec PyProof.Rows L2
section
variable {P : Program} {w : World} {A : Around} {E : Value → Shared → Prop} {s : Shared}
end
end DVS

/-! DV11: isinstance, repr, sorted(set(xs)), several targets, extend, calls by keywords. -/
namespace DV
open PySem PySem.Spec PyProof.Rows L2
section
variable {K : PySem.W.Frag} {F : Fx} {R R1 R' : Reg} {H H1 H' : Hp} {δ δ1 δ' : Env} {σ σ' : L2.St} {X : Cx}
/-! ### isinstance of built-in classes -/
theorem tyX_of {d : D} {v : V} {t : String} (h : tyOf d = some t) (r : RepL K R H d v) : (∃ a xs, v = .ref a ∧ d = .tup xs) ∨ TyX K H v (.type t) := by
  cases d with
  | non => cases h; rw [r.non]; exact .inr (.base .non)
  | bl b => cases h; rw [r.bl]; exact .inr (.base (.bl b))
  | int b => cases h; rw [r.int]; exact .inr (.base (.int b))
  | str b => cases h; rw [r.str]; exact .inr (.base (.str b))
  | lst xs => cases h; obtain ⟨a, vs, e, h1, _⟩ := r.lst; rw [e]; exact .inr (.base (.lst h1))
  | tup xs => obtain ⟨a, vs, e, _⟩ := r.tup; exact .inl ⟨a, xs, e, rfl⟩
  | _ => cases h
theorem tyX {d : D} {v : V} {t : String} (h : tyOf d = some t) (r : RepL K R H d v) : TyX K H v (.type t) := by
  rcases tyX_of h r with ⟨a, xs, e, rfl⟩ | z
  · cases h
    obtain ⟨b, vs, e1, h1, _⟩ := r.tup
    rw [e1]
    rcases h1 with (h1 | ⟨o, h1⟩) | ⟨o, its, n, h1, h2, _⟩
    · exact .base (.tup h1)
    · exact .fTuple h1
    · exact .kTuple h1 h2
  · exact z
/-! ### sorted(set(xs)) -/
/-- ascending, each once -/
def dedI : List Int → List Int
  | [] => []
  | n :: r => if n ∈ r then dedI r else n :: dedI r
def sortSetI (ns : List Int) : List Int := srtI (dedI ns)
def sortSetE (f : ME) : ME := fun δ => (f δ).bind fun p => (deref p.2 p.1).bind fun d => ((lstOf d).bind intsOf).bind fun ns => if ns.length < 64 then some (.fre (.lst ((sortSetI ns).map .int)), p.2) else none
/-! ### several targets -/
def gNs : List Nat → TGs
  | [] => gNil
  | i :: is => gCons (gName i) (gNs is)
def slO : O → Option Sl
  | .dat d => some (.val d)
  | .fre d => some (.own d)
  | .own _ => none
  | .cel k => some (.val (.cel k))
def setAll : List Nat → List O → Env → Option Env
  | [], [], δ => some δ
  | i :: is, o :: os, δ => (slO o).bind fun s => setAll is os (δ.set i s)
  | _, _, _ => none
theorem set_all (k' : ∀ a, ¬ R a ∨ R a) : ∀ {is : List Nat} {os : List O} {vs : List V} {δ δ' : Env} {σ : L2.St}, Wd K F R H δ σ → RepOs K F R H δ σ os vs → FreOs H1 os vs → setAll is os δ = some δ' → ∀ Q : L2.St → Hp → Prop, (∀ σ', Wd K F R H δ' σ' → Q σ' H) → gNs is vs σ H Q
  | [], [], vs, δ, δ', σ, w, r, _, h, Q, q => by cases h; exact ⟨r, q σ w⟩
  | [], _ :: _, _, _, _, _, _, _, _, h, _, _ => by cases h
  | _ :: _, [], _, _, _, _, _, _, _, h, _, _ => by cases h
  | i :: is, o :: os, vs, δ, δ', σ, w, ⟨v, u, e, r1, r2⟩, ⟨v', u', e', f1, nd, f2⟩, h, Q, q => by
    rw [e] at e'; cases e'
    obtain ⟨s, e1, h⟩ := Option.bind_eq_some_iff.mp h
    refine ⟨v, u, e, ?_⟩
    -- what is pending stays pending
    have pend : ∀ {s : Sl}, s.own? = false ∨ (∃ d, o = .fre d) → (s.own? = true → slO o = some s) → ∀ {ps : List O} {us : List V}, (∀ (j : Nat) p x, ps[j]? = some p → us[j]? = some x → ∃ k : Nat, os[k]? = some p ∧ u[k]? = some x) → (∀ (j : Nat) i, ps[j]? ≠ some (.own i)) →
        RepOs K F R H δ σ ps us → RepOs K F R H (δ.set i s) (σ.set i (some v)) ps us := by
      intro s hs hs2 ps
      induction ps with
      | nil => intro us _ _ h; exact h
      | cons p ps ih =>
        intro us hsub hno ⟨x, us', ex, rx, rr⟩
        subst ex
        refine ⟨x, us', rfl, ?_, ih (fun j p y h3 h4 => hsub (j + 1) p y (by simpa using h3) (by simpa using h4)) (fun j i h => hno (j + 1) i (by simpa using h)) rr⟩
        cases p with
        | dat d => exact rx
        | cel k => exact rx
        | own k => exact absurd rfl (hno 0 k)
        | fre d =>
          obtain ⟨a, ea, n1, n2, n3, t⟩ := rx
          refine ⟨a, ea, n1, fun z => ?_, n3, t⟩
          have hg : s.gh = false := by
            cases s with
            | sto ds =>
              have := hs2 rfl
              cases o <;> cases this
            | _ => rfl
          rcases ownA_set hg z with ⟨z1, z2⟩ | z
          · rcases hs with hs | ⟨d0, hs⟩
            · rw [hs] at z1; cases z1
            · obtain ⟨k, h5, h6⟩ := hsub 0 (.fre d) x rfl rfl
              exact nd d0 hs k d h5 (by rw [h6, ea, z2])
          · exact n2 z
    have noown : ∀ {is : List Nat} {os : List O} {δ : Env}, setAll is os δ = some δ' → ∀ (j : Nat) i, os[j]? ≠ some (.own i) := by
      intro is
      induction is with
      | nil => intro os δ h j i z; cases os with | nil => simp at z | cons _ _ => cases h
      | cons i0 is ih =>
        intro os δ h j i z
        cases os with
        | nil => cases h
        | cons o os =>
          obtain ⟨s, e1, h⟩ := Option.bind_eq_some_iff.mp h
          cases j with
          | zero => simp at z; subst z; cases e1
          | succ j => exact ih h j i (by simpa using z)
    cases o with
    | own j => cases e1
    | cel k =>
      cases e1
      exact set_all k' (w.setVal (d := .cel k) r1 i) (pend (.inl rfl) (fun z => by cases z) (fun j p x h3 h4 => ⟨j, h3, h4⟩) (noown h) r2) f2 h Q q
    | dat d =>
      cases e1
      exact set_all k' (w.setVal r1 i) (pend (.inl rfl) (fun z => by cases z) (fun j p x h3 h4 => ⟨j, h3, h4⟩) (noown h) r2) f2 h Q q
    | fre d =>
      cases e1
      exact set_all k' (w.setOwn r1 i) (pend (.inr ⟨d, rfl⟩) (fun _ => rfl) (fun j p x h3 h4 => ⟨j, h3, h4⟩) (noown h) r2) f2 h Q q
def unpS (n : Nat) (is : List Nat) (fa : MA) : MS := fun δ => (fa δ).bind fun p => if (decide (p.1.length = n) && decide (n ≤ sizeLine)) = true then (setAll is p.1 p.2).bind fun δ' => some (.nx δ') else none
def parS (i j : Nat) (fa : MA) : MS := fun δ => (fa δ).bind fun p => if p.1.length = 2 then (setAll [i, j] p.1 p.2).bind fun δ' => some (.nx δ') else none
theorem s_par {ta : TA} {fa : MA} {i j : Nat} (h : EvA K ta fa) : EvS K (tPar i j ta) (parS i j fa) := fun F R H δ σ fl w hf E q => by
  obtain ⟨⟨os, δ1⟩, e1, hf⟩ := Option.bind_eq_some_iff.mp hf
  split at hf
  case isFalse => cases hf
  rename_i hn
  obtain ⟨δ2, e2, hf⟩ := Option.bind_eq_some_iff.mp hf
  cases hf
  refine h F R H δ σ os δ1 w e1 _ fun vs R1 H1 w1 x1 r1 f1 => ?_
  have hv : vs.length = 2 := by rw [← r1.length]; exact hn
  match vs, hv with
  | [v, u], _ =>
    refine ⟨v, u, rfl, ?_⟩
    have := set_all (fun a => (Classical.em (R1 a)).symm) w1 r1 f1 e2 (fun σ' H' => E.nx σ' H') fun σ' w3 => q σ' R1 _ w3 (x1.keep w)
    obtain ⟨v1, r1', e3, h4⟩ := this
    cases e3
    obtain ⟨v2, r2', e5, h6⟩ := h4
    cases e5
    exact h6.2
end
end DV

/-! DV12: calls by keywords alone, in the parameters' order. -/
namespace DVG
open PySem PySem.Spec PyProof.Rows L2
section
variable {X : Cx} {CX : CXT} {k : Nat} {f : Addr} {fd : FuncData} {ps ks : List Str} {sp : Sp} {E : XK} {x : Str} {p pos : Pos} {kws : List Keyword} {tk : TA}
end
end DVG
namespace DV
open PySem PySem.Spec PyProof.Rows L2
section
variable {K : PySem.W.Frag}
def negG : D → Option O
  | .int i => some (.dat (.int (-i)))
  | _ => none
theorem hU {k : Nat} {A : Around} (h : DVG.Rm bb k A) : A.units + 64 < cLine := by have := h.r.un; omega
theorem hU2 {k : Nat} {A : Around} (h : DVG.Rm bb k A) : A.units + 100 < cLine := by have := h.r.un; omega
def par3S (i j l : Nat) (fa : MA) : MS := fun δ => (fa δ).bind fun p => if p.1.length = 3 then (setAll [i, j, l] p.1 p.2).bind fun δ' => some (.nx δ') else none
/-- a call: its arguments plain, or lent -/
def callX (bo : Option Nat) (n : Nat) (f : FD) (os : List O) (δ : Env) : Option (O × Env) := match callP bo n f os δ with
  | some r => some r
  | none => callL bo n f os δ
theorem call_ok {bo : Option Nat} {n : Nat} {f : FD} : CallOk K (spD K bo n f) (callX bo n f) := fun F R H δ σ os vs o δ' w ro h Q E q => by
  unfold callX at h
  split at h
  · rename_i r hr
    cases h
    exact call_plain w ro hr Q E q
  · exact call_lend w ro h Q E q
theorem bt_len : bootBuiltins "len" = some (.builtin "len") := by decide +kernel
theorem bt_isinstance : bootBuiltins "isinstance" = some (.builtin "isinstance") := by decide +kernel
theorem bt_min : bootBuiltins "min" = some (.builtin "min") := by decide +kernel
theorem bt_max : bootBuiltins "max" = some (.builtin "max") := by decide +kernel
theorem bt_repr : bootBuiltins "repr" = some (.builtin "repr") := by decide +kernel
theorem bt_int : bootBuiltins "int" = some (.type "int") := by decide +kernel
theorem bt_list : bootBuiltins "list" = some (.type "list") := by decide +kernel
end
end DV

/-! DV13: the functions on data as a machine: each step a rewriting rule. -/
namespace DV
open PySem PySem.Spec PyProof.Rows L2
section
variable {δ δ1 δ2 : Env} {o o1 o2 : O} {d d1 d2 : D} {b : Bool} {i j n : Nat} {os : List O} {ds : List D}
/-! names -/
def var1 (i : Nat) (δ : Env) : Option Sl → Option (O × Env)
  | some (.val d) => some (.dat d, δ)
  | some (.own _) => some (.own i, δ)
  | some (.brw _) => some (.own i, δ)
  | _ => none
theorem e_var : varE i δ = var1 i δ δ[i]? := by
  unfold varE var1
  cases δ[i]? with
  | none => rfl
  | some s => cases s <;> rfl
theorem e_var1 : var1 i δ (some (.val d)) = some (.dat d, δ) := id rfl
theorem e_var2 : var1 i δ (some (.own d)) = some (.own i, δ) := id rfl
theorem e_var3 : var1 i δ (some (.brw d)) = some (.own i, δ) := id rfl
theorem e_dat : datC d δ = some (.dat d, δ) := id rfl
def sd1 : Option Sl → Option D := fun s => s.bind Sl.d?
theorem e_der1 : deref δ (.dat d) = some d := id rfl
theorem e_der2 : deref δ (.fre d) = some d := id rfl
theorem e_der3 : deref δ (.own i) = sd1 δ[i]? := id rfl
theorem e_sd1 : sd1 (some (.val d)) = some d := id rfl
theorem e_sd2 : sd1 (some (.own d)) = some d := id rfl
theorem e_sd3 : sd1 (some (.brw d)) = some d := id rfl
/-! operations -/
def op1 (g : D → D → Option O) (fb : ME) (x : Option (O × Env)) : Option (O × Env) := x.bind fun p => (fb p.2).bind fun q => (deref q.2 p.1).bind fun d1 => (deref q.2 q.1).bind fun d2 => (g d1 d2).bind fun o => some (o, q.2)
def op2 (g : D → D → Option O) (o1 : O) (x : Option (O × Env)) : Option (O × Env) := x.bind fun q => (deref q.2 o1).bind fun d1 => (deref q.2 q.1).bind fun d2 => (g d1 d2).bind fun o => some (o, q.2)
def op3 (g : D → D → Option O) (δ : Env) (x y : Option D) : Option (O × Env) := x.bind fun d1 => y.bind fun d2 => (g d1 d2).bind fun o => some (o, δ)
def op4 (δ : Env) (x : Option O) : Option (O × Env) := x.bind fun o => some (o, δ)
theorem e_op {g : D → D → Option O} {fa fb : ME} : opE g fa fb δ = op1 g fb (fa δ) := id rfl
theorem e_op1 {g : D → D → Option O} {fb : ME} : op1 g fb (some (o, δ)) = op2 g o (fb δ) := id rfl
theorem e_op2 {g : D → D → Option O} : op2 g o1 (some (o, δ)) = op3 g δ (deref δ o1) (deref δ o) := id rfl
theorem e_op3 {g : D → D → Option O} : op3 g δ (some d1) (some d2) = op4 δ (g d1 d2) := id rfl
theorem e_op4 : op4 δ (some o) = some (o, δ) := id rfl
def un1 (g : D → Option O) (x : Option (O × Env)) : Option (O × Env) := x.bind fun p => (deref p.2 p.1).bind fun d1 => (g d1).bind fun o => some (o, p.2)
def un2 (g : D → Option O) (δ : Env) (x : Option D) : Option (O × Env) := x.bind fun d1 => (g d1).bind fun o => some (o, δ)
theorem e_un {g : D → Option O} {fa : ME} : unE g fa δ = un1 g (fa δ) := id rfl
theorem e_un1 {g : D → Option O} : un1 g (some (o, δ)) = un2 g δ (deref δ o) := id rfl
theorem e_un2 {g : D → Option O} : un2 g δ (some d) = op4 δ (g d) := id rfl
def sol1 (x : Option (O × Env)) : Option (D × Env) := x.bind fun p => solid p.1 p.2
def sol2 (i : Nat) (δ : Env) : Option Sl → Option (D × Env)
  | some (.own d) => some (d, δ.set i (.val d))
  | some (.val d) => some (d, δ)
  | _ => none
theorem e_sol {f : ME} : solidE f δ = sol1 (f δ) := id rfl
theorem e_sol1 : sol1 (some (.dat d, δ)) = some (d, δ) := id rfl
theorem e_sol2 : sol1 (some (.fre d, δ)) = some (d, δ) := id rfl
theorem solid_own : solid (.own i) δ = sol2 i δ δ[i]? := by
  simp only [solid]
  generalize δ[i]? = x
  cases x with
  | none => rfl
  | some s => cases s <;> rfl
theorem e_sol3 : sol1 (some (.own i, δ)) = sol2 i δ δ[i]? := solid_own
theorem e_sol4 : sol2 i δ (some (.own d)) = some (d, δ.set i (.val d)) := id rfl
theorem e_sol5 : sol2 i δ (some (.val d)) = some (d, δ) := id rfl
def da1 (x : Option (D × Env)) : Option (O × Env) := x.bind fun p => some (.dat p.1, p.2)
theorem e_da {f : MD} : datE f δ = da1 (f δ) := id rfl
theorem e_da1 : da1 (some (d, δ)) = some (.dat d, δ) := id rfl
/-! arguments -/
def ca1 (g : MA) (x : Option (O × Env)) : Option (List O × Env) := x.bind fun p => (g p.2).bind fun q => some (p.1 :: q.1, q.2)
def ca2 (o : O) (x : Option (List O × Env)) : Option (List O × Env) := x.bind fun q => some (o :: q.1, q.2)
theorem e_na : nilA δ = some ([], δ) := id rfl
theorem e_ca {f : ME} {g : MA} : consA f g δ = ca1 g (f δ) := id rfl
theorem e_ca1 {g : MA} : ca1 g (some (o, δ)) = ca2 o (g δ) := id rfl
theorem e_ca2 : ca2 o (some (os, δ)) = some (o :: os, δ) := id rfl
def cd1 (g : MAD) (x : Option (D × Env)) : Option (List D × Env) := x.bind fun p => (g p.2).bind fun q => some (p.1 :: q.1, q.2)
def cd2 (o : D) (x : Option (List D × Env)) : Option (List D × Env) := x.bind fun q => some (o :: q.1, q.2)
theorem e_nd : nilD δ = some ([], δ) := id rfl
theorem e_cd {f : MD} {g : MAD} : consD f g δ = cd1 g (f δ) := id rfl
theorem e_cd1 {g : MAD} : cd1 g (some (d, δ)) = cd2 d (g δ) := id rfl
theorem e_cd2 : cd2 d (some (ds, δ)) = some (d :: ds, δ) := id rfl
def dr1 (x : Option D) (y : Option (List D)) : Option (List D) := x.bind fun d => y.bind fun ds => some (d :: ds)
theorem e_dn : derefs δ [] = some [] := id rfl
theorem e_dc : derefs δ (o :: os) = dr1 (deref δ o) (derefs δ os) := id rfl
theorem e_dc1 : dr1 (some d) (some ds) = some (d :: ds) := id rfl
/-! built-ins, displays -/
def cb1 (g : List D → Option O) (x : Option (List O × Env)) : Option (O × Env) := x.bind fun p => (derefs p.2 p.1).bind fun ds => (g ds).bind fun o => some (o, p.2)
def cb2 (g : List D → Option O) (δ : Env) (x : Option (List D)) : Option (O × Env) := x.bind fun ds => (g ds).bind fun o => some (o, δ)
theorem e_cb {g : List D → Option O} {fa : MA} : cbE g fa δ = cb1 g (fa δ) := id rfl
theorem e_cb1 {g : List D → Option O} : cb1 g (some (os, δ)) = cb2 g δ (derefs δ os) := id rfl
theorem e_cb2 {g : List D → Option O} : cb2 g δ (some ds) = op4 δ (g ds) := id rfl
def ls1 (x : Option (List D × Env)) : Option (O × Env) := x.bind fun p => if p.1.length ≤ sizeLine then some (.fre (.lst p.1), p.2) else none
theorem e_ls {fa : MAD} : lstE fa δ = ls1 (fa δ) := id rfl
theorem szl {n : Nat} (h : n ≤ 100000) : n ≤ sizeLine := Nat.le_trans h (by decide)
theorem e_ls1 (h : ds.length ≤ 100000) : ls1 (some (ds, δ)) = some (.fre (.lst ds), δ) := if_pos (szl h)
def tp1 (x : Option (List D × Env)) : Option (O × Env) := x.bind fun p => if p.1.length ≤ sizeLine then some (.dat (.tup p.1), p.2) else none
theorem e_tp {fa : MAD} : tupE fa δ = tp1 (fa δ) := id rfl
theorem e_tp1 (h : ds.length ≤ 100000) : tp1 (some (ds, δ)) = some (.dat (.tup ds), δ) := if_pos (szl h)
/-! slices -/
def ip1 (x : Option (O × Env)) : Option (Option Int × Env) := x.bind fun p => match p.1 with
  | .dat (.int i) => some (some i, p.2)
  | _ => none
theorem e_np : nopP δ = some (none, δ) := id rfl
theorem e_ip {f : ME} : intP f δ = ip1 (f δ) := id rfl
theorem e_ip1 {k : Int} : ip1 (some (.dat (.int k), δ)) = some (some k, δ) := id rfl
def sl1 (l h : MP) (x : Option (O × Env)) : Option (O × Env) := x.bind fun p => (l p.2).bind fun a => (h a.2).bind fun b => (deref b.2 p.1).bind fun d => (slG a.1 b.1 d).bind fun o => some (o, b.2)
def sl2 (h : MP) (o : O) (x : Option (Option Int × Env)) : Option (O × Env) := x.bind fun a => (h a.2).bind fun b => (deref b.2 o).bind fun d => (slG a.1 b.1 d).bind fun o => some (o, b.2)
def sl3 (o : O) (u : Option Int) (x : Option (Option Int × Env)) : Option (O × Env) := x.bind fun b => (deref b.2 o).bind fun d => (slG u b.1 d).bind fun o => some (o, b.2)
theorem e_sl {f : ME} {l h : MP} : slE f l h δ = sl1 l h (f δ) := id rfl
theorem e_sl1 {l h : MP} : sl1 l h (some (o, δ)) = sl2 h o (l δ) := id rfl
theorem e_sl2 {h : MP} {u : Option Int} : sl2 h o (some (u, δ)) = sl3 o u (h δ) := id rfl
theorem e_sl3 {u v : Option Int} : sl3 o u (some (v, δ)) = un2 (slG u v) δ (deref δ o) := id rfl
def rv1 (x : Option (O × Env)) : Option (O × Env) := x.bind fun p => (deref p.2 p.1).bind fun d => match d with
  | .lst xs => some (.fre (.lst xs.reverse), p.2)
  | .ro xs => some (.fre (.lst xs.reverse), p.2)
  | _ => none
def rvG : D → Option O
  | .lst xs => some (.fre (.lst xs.reverse))
  | .ro xs => some (.fre (.lst xs.reverse))
  | _ => none
theorem e_rv {f : ME} : revE f δ = rv1 (f δ) := id rfl
theorem e_rv1 : rv1 (some (o, δ)) = un2 rvG δ (deref δ o) := by
  unfold rv1 un2
  show (deref δ o).bind _ = _
  cases deref δ o with
  | none => rfl
  | some d => cases d <;> rfl
theorem e_rv2 : rvG (.lst ds) = some (.fre (.lst ds.reverse)) := id rfl
/-! tests -/
def te1 (x : Option (O × Env)) : Option (Bool × Env) := x.bind fun p => (blOf p.1).bind fun b => some (b, p.2)
theorem e_te {f : ME} : testE f δ = te1 (f δ) := id rfl
theorem e_te1 : te1 (some (.dat (.bl b), δ)) = some (b, δ) := id rfl
def at1 (g : MT) (x : Option (Bool × Env)) : Option (Bool × Env) := x.bind fun p => if p.1 = true then g p.2 else some (false, p.2)
def ot1 (g : MT) (x : Option (Bool × Env)) : Option (Bool × Env) := x.bind fun p => if p.1 = true then some (true, p.2) else g p.2
def nt1 (x : Option (Bool × Env)) : Option (Bool × Env) := x.bind fun p => some (!p.1, p.2)
theorem e_at {f g : MT} : andT f g δ = at1 g (f δ) := id rfl
theorem e_at1 {g : MT} : at1 g (some (true, δ)) = g δ := id rfl
theorem e_at2 {g : MT} : at1 g (some (false, δ)) = some (false, δ) := id rfl
theorem e_ot {f g : MT} : orT f g δ = ot1 g (f δ) := id rfl
theorem e_ot1 {g : MT} : ot1 g (some (true, δ)) = some (true, δ) := id rfl
theorem e_ot2 {g : MT} : ot1 g (some (false, δ)) = g δ := id rfl
theorem e_nt {f : MT} : notT f δ = nt1 (f δ) := id rfl
theorem e_nt1 : nt1 (some (b, δ)) = some (!b, δ) := id rfl
def ae1 (g : ME) (x : Option (O × Env)) : Option (O × Env) := x.bind fun p => (blOf p.1).bind fun b => if b = true then g p.2 else some (.dat (.bl false), p.2)
def oe1 (g : ME) (x : Option (O × Env)) : Option (O × Env) := x.bind fun p => (blOf p.1).bind fun b => if b = true then some (.dat (.bl true), p.2) else g p.2
def ne1 (x : Option (O × Env)) : Option (O × Env) := x.bind fun p => (blOf p.1).bind fun b => some (.dat (.bl (!b)), p.2)
theorem e_ae {f g : ME} : andE f g δ = ae1 g (f δ) := id rfl
theorem e_ae1 {g : ME} : ae1 g (some (.dat (.bl true), δ)) = g δ := id rfl
theorem e_ae2 {g : ME} : ae1 g (some (.dat (.bl false), δ)) = some (.dat (.bl false), δ) := id rfl
theorem e_oe {f g : ME} : orE f g δ = oe1 g (f δ) := id rfl
theorem e_oe1 {g : ME} : oe1 g (some (.dat (.bl true), δ)) = some (.dat (.bl true), δ) := id rfl
theorem e_oe2 {g : ME} : oe1 g (some (.dat (.bl false), δ)) = g δ := id rfl
theorem e_ne {f : ME} : notE f δ = ne1 (f δ) := id rfl
theorem e_ne1 : ne1 (some (.dat (.bl b), δ)) = some (.dat (.bl (!b)), δ) := id rfl
def ie1 (f g : ME) (x : Option (Bool × Env)) : Option (O × Env) := x.bind fun p => if p.1 = true then f p.2 else g p.2
theorem e_ie {c : MT} {f g : ME} : ifE c f g δ = ie1 f g (c δ) := id rfl
theorem e_ie1 {f g : ME} : ie1 f g (some (true, δ)) = f δ := id rfl
theorem e_ie2 {f g : ME} : ie1 f g (some (false, δ)) = g δ := id rfl
def ch1 (g g' : D → D → Option O) (fb fc : ME) (x : Option (O × Env)) : Option (O × Env) := x.bind fun p => (fb p.2).bind fun q => (deref q.2 p.1).bind fun d1 => (deref q.2 q.1).bind fun d2 => (g d1 d2).bind fun o => (blOf o).bind fun b => if b = true then
  (fc q.2).bind fun r => (deref r.2 q.1).bind fun d2' => (deref r.2 r.1).bind fun d3 => (g' d2' d3).bind fun o' => some (o', r.2) else some (.dat (.bl false), q.2)
def ch2 (g g' : D → D → Option O) (fc : ME) (o1 : O) (x : Option (O × Env)) : Option (O × Env) := x.bind fun q => (deref q.2 o1).bind fun d1 => (deref q.2 q.1).bind fun d2 => (g d1 d2).bind fun o => (blOf o).bind fun b => if b = true then
  (fc q.2).bind fun r => (deref r.2 q.1).bind fun d2' => (deref r.2 r.1).bind fun d3 => (g' d2' d3).bind fun o' => some (o', r.2) else some (.dat (.bl false), q.2)
def ch3 (g g' : D → D → Option O) (fc : ME) (o2 : O) (δ : Env) (x y : Option D) : Option (O × Env) := x.bind fun d1 => y.bind fun d2 => (g d1 d2).bind fun o => (blOf o).bind fun b => if b = true then
  (fc δ).bind fun r => (deref r.2 o2).bind fun d2' => (deref r.2 r.1).bind fun d3 => (g' d2' d3).bind fun o' => some (o', r.2) else some (.dat (.bl false), δ)
def ch4 (g' : D → D → Option O) (fc : ME) (o2 : O) (δ : Env) (x : Option O) : Option (O × Env) := x.bind fun o => (blOf o).bind fun b => if b = true then
  (fc δ).bind fun r => (deref r.2 o2).bind fun d2' => (deref r.2 r.1).bind fun d3 => (g' d2' d3).bind fun o' => some (o', r.2) else some (.dat (.bl false), δ)
theorem e_ch {g g' : D → D → Option O} {fa fb fc : ME} : chainE g g' fa fb fc δ = ch1 g g' fb fc (fa δ) := id rfl
theorem e_ch1 {g g' : D → D → Option O} {fb fc : ME} : ch1 g g' fb fc (some (o, δ)) = ch2 g g' fc o (fb δ) := id rfl
theorem e_ch2 {g g' : D → D → Option O} {fc : ME} : ch2 g g' fc o1 (some (o, δ)) = ch3 g g' fc o δ (deref δ o1) (deref δ o) := id rfl
theorem e_ch3 {g g' : D → D → Option O} {fc : ME} : ch3 g g' fc o δ (some d1) (some d2) = ch4 g' fc o δ (g d1 d2) := id rfl
theorem e_ch4 {g' : D → D → Option O} {fc : ME} : ch4 g' fc o δ (some (.dat (.bl true))) = op2 g' o (fc δ) := id rfl
theorem e_ch5 {g' : D → D → Option O} {fc : ME} : ch4 g' fc o δ (some (.dat (.bl false))) = some (.dat (.bl false), δ) := id rfl
/-! calls -/
def cl1 (call : List O → Env → Option (O × Env)) (dds : List D) (x : Option (List O × Env)) : Option (O × Env) := x.bind fun p => call (p.1 ++ dds.map .dat) p.2
theorem e_cl {call : List O → Env → Option (O × Env)} {dds : List D} {fa : MA} : callE call dds fa δ = cl1 call dds (fa δ) := id rfl
theorem e_cl1 {call : List O → Env → Option (O × Env)} : cl1 call [] (some (os, δ)) = call os δ := by
  show call (os ++ []) δ = _
  rw [List.append_nil]
def cx1 (bo : Option Nat) (n : Nat) (f : FD) (os : List O) (δ : Env) (x : Bool) : Option (O × Env) := match (if x = true then (derefs δ os).bind fun ds => (f ds).bind fun p => (putBack bo os δ p.2).bind fun δ2 => some (p.1.o, δ2) else none) with
  | some r => some r
  | none => callL bo n f os δ
def cx2 (bo : Option Nat) (n : Nat) (f : FD) (os : List O) (δ : Env) (x : Option (List D)) : Option (O × Env) := match (x.bind fun ds => (f ds).bind fun p => (putBack bo os δ p.2).bind fun δ2 => some (p.1.o, δ2)) with
  | some r => some r
  | none => callL bo n f os δ
def cx3 (bo : Option Nat) (n : Nat) (f : FD) (os : List O) (δ : Env) (x : Option (Ret × D)) : Option (O × Env) := match (x.bind fun p => (putBack bo os δ p.2).bind fun δ2 => some (p.1.o, δ2)) with
  | some r => some r
  | none => callL bo n f os δ
def cx4 (bo : Option Nat) (n : Nat) (f : FD) (os : List O) (δ : Env) (o : O) (x : Option Env) : Option (O × Env) := match (x.bind fun δ2 => some (o, δ2)) with
  | some r => some r
  | none => callL bo n f os δ
theorem e_cx {bo : Option Nat} {f : FD} : callX bo n f os δ = cx1 bo n f os δ (decide (os.length = n) && plainB bo 0 os) := id rfl
theorem e_cx1 {bo : Option Nat} {f : FD} : cx1 bo n f os δ true = cx2 bo n f os δ (derefs δ os) := id rfl
theorem e_cx2 {bo : Option Nat} {f : FD} : cx2 bo n f os δ (some ds) = cx3 bo n f os δ (f ds) := id rfl
theorem e_cx3 {bo : Option Nat} {f : FD} {r : Ret} : cx3 bo n f os δ (some (r, d)) = cx4 bo n f os δ r.o (putBack bo os δ d) := id rfl
theorem e_cx4 {bo : Option Nat} {f : FD} : cx4 bo n f os δ o (some δ1) = some (o, δ1) := id rfl
theorem e_cx5 {bo : Option Nat} {f : FD} : cx1 bo n f os δ false = callL bo n f os δ := id rfl
def cz1 (bo : Option Nat) (f : FD) (os : List O) (δ : Env) (x : Bool) : Option (O × Env) := if x = true then
  (derefs δ os).bind fun ds => (f ds).bind fun p => if (flatR p.1 && (flatT p.2)) = true then (putBack bo os δ p.2).bind fun δ2 => some (p.1.o, δ2) else none else none
def cz2 (bo : Option Nat) (f : FD) (os : List O) (δ : Env) (x : Option (List D)) : Option (O × Env) := x.bind fun ds => (f ds).bind fun p => if (flatR p.1 && (flatT p.2)) = true then (putBack bo os δ p.2).bind fun δ2 => some (p.1.o, δ2) else none
def cz3 (bo : Option Nat) (os : List O) (δ : Env) (x : Option (Ret × D)) : Option (O × Env) := x.bind fun p => if (flatR p.1 && (flatT p.2)) = true then (putBack bo os δ p.2).bind fun δ2 => some (p.1.o, δ2) else none
def cz4 (o : O) (x : Option Env) (y : Bool) : Option (O × Env) := if y = true then x.bind fun δ2 => some (o, δ2) else none
theorem e_cz {bo : Option Nat} {f : FD} : callL bo n f os δ = cz1 bo f os δ (decide (os.length = n) && lendB bo os) := id rfl
theorem e_cz1 {bo : Option Nat} {f : FD} : cz1 bo f os δ true = cz2 bo f os δ (derefs δ os) := id rfl
theorem e_cz2 {bo : Option Nat} {f : FD} : cz2 bo f os δ (some ds) = cz3 bo os δ (f ds) := id rfl
theorem e_cz3 {bo : Option Nat} {r : Ret} : cz3 bo os δ (some (r, d)) = cz4 r.o (putBack bo os δ d) (flatR r && flatT d) := id rfl
theorem e_cz4 : cz4 o (some δ) true = some (o, δ) := id rfl
theorem e_ro1 : (Ret.dat d).o = .dat d := id rfl
theorem e_ro2 : (Ret.fre d).o = .fre d := id rfl
theorem e_pl1 {bo : Option Nat} : plainB bo i [] = true := id rfl
theorem e_pl2 {bo : Option Nat} : plainB bo i (.dat d :: os) = plainB bo (i + 1) os := id rfl
theorem e_pl3 {bo : Option Nat} : plainB bo i (.own j :: os) = (decide (bo = some i) && plainB bo (i + 1) os) := id rfl
theorem e_pl4 {bo : Option Nat} : plainB bo i (.fre d :: os) = (decide (bo = some i) && plainB bo (i + 1) os) := id rfl
theorem e_ld0 : lendB none os = true := id rfl
theorem e_ld1 : lendB (some 0) (.own j :: os) = lendB.lendN 0 j 1 os := by
  simp [lendB, lendB.lendN]
theorem e_ld2 : lendB.lendN i j n [] = true := id rfl
theorem e_ld3 : lendB.lendN i j n (.dat d :: os) = lendB.lendN i j (n + 1) os := id rfl
theorem e_ld4 : lendB.lendN i j n (.fre d :: os) = lendB.lendN i j (n + 1) os := id rfl
theorem e_ld5 {l : Nat} : lendB.lendN i j n (.own l :: os) = ((decide (n = i) || decide (l ≠ j)) && lendB.lendN i j (n + 1) os) := id rfl
def pb1 (j : Nat) (δ : Env) (m : D) : Option Sl → Option Env
  | some (.own _) => some (δ.set j (.own m))
  | some (.brw _) => some (δ.set j (.brw m))
  | _ => none
theorem e_pb0 : putBack none os δ d = some δ := id rfl
theorem e_pb1 : putBack (some 0) (.own j :: os) δ d = pb1 j δ d δ[j]? := by
  simp only [putBack, List.getElem?_cons_zero]
  generalize δ[j]? = x
  cases x with
  | none => rfl
  | some s => cases s <;> rfl
theorem e_pb2 : pb1 j δ d (some (.own d1)) = some (δ.set j (.own d)) := id rfl
theorem e_pb3 : pb1 j δ d (some (.brw d1)) = some (δ.set j (.brw d)) := id rfl
/-! statements -/
def sq1 (g : MS) (x : Option Fl) : Option Fl := x.bind fun fl => match fl with
  | .nx δ' => g δ'
  | fl => some fl
theorem e_sq {f g : MS} : seqS f g δ = sq1 g (f δ) := id rfl
theorem e_sq1 {g : MS} : sq1 g (some (.nx δ)) = g δ := id rfl
theorem e_sq2 {g : MS} : sq1 g (some (.rt o δ)) = some (.rt o δ) := id rfl
theorem e_sq3 {g : MS} : sq1 g (some (.bk δ)) = some (.bk δ) := id rfl
theorem e_sq4 {g : MS} : sq1 g (some (.ct δ)) = some (.ct δ) := id rfl
theorem e_nx : nextS δ = some (.nx δ) := id rfl
def rt1 (x : Option (O × Env)) : Option Fl := x.bind fun p => some (.rt p.1 p.2)
theorem e_rt {f : ME} : retS f δ = rt1 (f δ) := id rfl
theorem e_rt1 : rt1 (some (o, δ)) = some (.rt o δ) := id rfl
def dp1 (x : Option (O × Env)) : Option Fl := x.bind fun p => some (.nx p.2)
theorem e_dp {f : ME} : dropS f δ = dp1 (f δ) := id rfl
theorem e_dp1 : dp1 (some (o, δ)) = some (.nx δ) := id rfl
def is1 (f g : MS) (x : Option (Bool × Env)) : Option Fl := x.bind fun p => if p.1 = true then f p.2 else g p.2
theorem e_is {c : MT} {f g : MS} : ifS c f g δ = is1 f g (c δ) := id rfl
theorem e_is1 {f g : MS} : is1 f g (some (true, δ)) = f δ := id rfl
theorem e_is2 {f g : MS} : is1 f g (some (false, δ)) = g δ := id rfl
def as1 (i : Nat) (x : Option (O × Env)) : Option Fl := x.bind fun p => match p.1 with
  | .dat d => some (.nx (p.2.set i (.val d)))
  | .fre d => some (.nx (p.2.set i (.own d)))
  | .own j => (solid (.own j) p.2).bind fun q => some (.nx (q.2.set i (.val q.1)))
  | .cel k => some (.nx (p.2.set i (.val (.cel k))))
def as2 (i : Nat) (x : Option (D × Env)) : Option Fl := x.bind fun q => some (.nx (q.2.set i (.val q.1)))
theorem e_as {f : ME} : asgS i f δ = as1 i (f δ) := id rfl
theorem e_as1 : as1 i (some (.dat d, δ)) = some (.nx (δ.set i (.val d))) := id rfl
theorem e_as2 : as1 i (some (.fre d, δ)) = some (.nx (δ.set i (.own d))) := id rfl
theorem e_as3 : as1 i (some (.own j, δ)) = as2 i (sol2 j δ δ[j]?) := by rw [← solid_own]; rfl
theorem e_as4 : as2 i (some (d, δ)) = some (.nx (δ.set i (.val d))) := id rfl
def ls_ (fo fi : ME) (x : Option (D × Env)) : Option Fl := x.bind fun p => (fo p.2).bind fun q => (fi q.2).bind fun r => match q.1, r.1 with
  | .own i, .dat (.int k) => match r.2[i]? with
    | some (.own (.lst xs)) => (ixN xs.length k).bind fun j => some (.nx (r.2.set i (.own (.lst (xs.set j p.1)))))
    | some (.brw (.lst xs)) => (ixN xs.length k).bind fun j => some (.nx (r.2.set i (.brw (.lst (xs.set j p.1)))))
    | _ => none
  | _, _ => none
def st2 (fi : ME) (d : D) (x : Option (O × Env)) : Option Fl := x.bind fun q => (fi q.2).bind fun r => match q.1, r.1 with
  | .own i, .dat (.int k) => match r.2[i]? with
    | some (.own (.lst xs)) => (ixN xs.length k).bind fun j => some (.nx (r.2.set i (.own (.lst (xs.set j d)))))
    | some (.brw (.lst xs)) => (ixN xs.length k).bind fun j => some (.nx (r.2.set i (.brw (.lst (xs.set j d)))))
    | _ => none
  | _, _ => none
def st4 (d : D) (i : Nat) (k : Int) (δ : Env) : Option Sl → Option Fl
  | some (.own (.lst xs)) => (ixN xs.length k).bind fun j => some (.nx (δ.set i (.own (.lst (xs.set j d)))))
  | some (.brw (.lst xs)) => (ixN xs.length k).bind fun j => some (.nx (δ.set i (.brw (.lst (xs.set j d)))))
  | _ => none
def st3 (d : D) (o : O) (x : Option (O × Env)) : Option Fl := x.bind fun r => match o, r.1 with
  | .own i, .dat (.int k) => st4 d i k r.2 r.2[i]?
  | _, _ => none
def st5 (sl : D → Sl) (d : D) (i : Nat) (xs : List D) (δ : Env) (x : Option Nat) : Option Fl := x.bind fun j => some (.nx (δ.set i (sl (.lst (xs.set j d)))))
theorem e_st {fe : MD} {fo fi : ME} : setL fe fo fi δ = ls_ fo fi (fe δ) := id rfl
theorem e_st1 {fo fi : ME} : ls_ fo fi (some (d, δ)) = st2 fi d (fo δ) := id rfl
theorem e_st2 {fi : ME} : st2 fi d (some (o, δ)) = st3 d o (fi δ) := by
  unfold st2 st3
  show (fi δ).bind _ = (fi δ).bind _
  cases fi δ with
  | none => rfl
  | some r =>
    show (match o, r.1 with | .own i, .dat (.int k) => _ | _, _ => _) = (match o, r.1 with | .own i, .dat (.int k) => _ | _, _ => _)
    cases o with
    | cel _ => rfl
    | own i =>
      cases r.1 with
      | cel _ => rfl
      | dat d =>
        cases d with
        | int k =>
          show (match r.2[i]? with | some (.own (.lst xs)) => _ | some (.brw (.lst xs)) => _ | _ => _) = st4 _ _ _ _ r.2[i]?
          unfold st4
          cases r.2[i]? with
          | none => rfl
          | some s => cases s with
            | own d => cases d <;> rfl
            | brw d => cases d <;> rfl
            | _ => rfl
        | _ => rfl
      | _ => rfl
    | _ => rfl
theorem e_st3 {k : Int} : st3 d (.own i) (some (.dat (.int k), δ)) = st4 d i k δ δ[i]? := id rfl
theorem e_st4 {k : Int} {xs : List D} : st4 d i k δ (some (.own (.lst xs))) = st5 .own d i xs δ (ixN xs.length k) := id rfl
theorem e_st5 {k : Int} {xs : List D} : st4 d i k δ (some (.brw (.lst xs))) = st5 .brw d i xs δ (ixN xs.length k) := id rfl
theorem e_st6 {sl : D → Sl} {xs : List D} : st5 sl d i xs δ (some j) = some (.nx (δ.set i (sl (.lst (xs.set j d))))) := id rfl
def up1 (n : Nat) (is : List Nat) (x : Option (List O × Env)) : Option Fl := x.bind fun p => if (decide (p.1.length = n) && decide (n ≤ sizeLine)) = true then (setAll is p.1 p.2).bind fun δ' => some (.nx δ') else none
def up2 (x : Option Env) : Option Fl := x.bind fun δ' => some (.nx δ')
theorem e_up {is : List Nat} {fa : MA} : unpS n is fa δ = up1 n is (fa δ) := id rfl
theorem e_up1 {is : List Nat} (h : os.length = n) (h2 : n ≤ 100000) : up1 n is (some (os, δ)) = up2 (setAll is os δ) := by
  show (if _ then _ else _) = _
  rw [if_pos (by simp [h, szl h2])]; rfl
theorem e_up2 : up2 (some δ) = some (.nx δ) := id rfl
def pr1 (n : Nat) (is : List Nat) (x : Option (List O × Env)) : Option Fl := x.bind fun p => if p.1.length = n then (setAll is p.1 p.2).bind fun δ' => some (.nx δ') else none
theorem e_pr {fa : MA} : parS i j fa δ = pr1 2 [i, j] (fa δ) := id rfl
theorem e_pr3 {fa : MA} : par3S i j n fa δ = pr1 3 [i, j, n] (fa δ) := id rfl
theorem e_pr1 {is : List Nat} (h : os.length = n) : pr1 n is (some (os, δ)) = up2 (setAll is os δ) := by
  show (if _ then _ else _) = _
  rw [if_pos h]; rfl
theorem e_sa0 : setAll [] [] δ = some δ := id rfl
theorem e_sa1 {is : List Nat} : setAll (i :: is) (.dat d :: os) δ = setAll is os (δ.set i (.val d)) := id rfl
theorem e_sa2 {is : List Nat} : setAll (i :: is) (.fre d :: os) δ = setAll is os (δ.set i (.own d)) := id rfl
def lt1 (g : MG) (x : Option (D × Env)) : Option Fl := x.bind fun p => (g p.1 p.2).bind fun δ' => some (.nx δ')
theorem e_lt {f : MD} {g : MG} : letS f g δ = lt1 g (f δ) := id rfl
theorem e_lt1 {g : MG} : lt1 g (some (d, δ)) = up2 (g d δ) := id rfl
theorem e_ng : nameG i d δ = some (δ.set i (.val d)) := id rfl
theorem e_tg {fs : List D → Env → Option Env} (h : ds.length = n) : tupG n fs (.tup ds) δ = fs ds δ := if_pos h
def cg1 (g : List D → Env → Option Env) (r : List D) (x : Option Env) : Option Env := x.bind fun δ1 => g r δ1
theorem e_gn : nilG [] δ = some δ := id rfl
theorem e_gc {f : MG} {g : List D → Env → Option Env} : consG f g (d :: ds) δ = cg1 g ds (f d δ) := id rfl
theorem e_gc1 {g : List D → Env → Option Env} : cg1 g ds (some δ) = g ds δ := id rfl
/-! loops -/
def fr1 (g : MG) (b : MS) (x : Option (List D × Env)) : Option Fl := x.bind fun p => loopL g b p.1 p.2
theorem e_fr {fi : MI} {g : MG} {b : MS} : forS fi g b δ = fr1 g b (fi δ) := id rfl
theorem e_fr1 {g : MG} {b : MS} : fr1 g b (some (ds, δ)) = loopL g b ds δ := id rfl
def lp1 (g : MG) (b : MS) (r : List D) (x : Option Env) : Option Fl := x.bind fun δ1 => (b δ1).bind fun fl => match fl with
    | .nx δ2 => loopL g b r δ2
    | .ct δ2 => loopL g b r δ2
    | .bk δ2 => some (.nx δ2)
    | .rt o δ2 => some (.rt o δ2)
def lp2 (g : MG) (b : MS) (r : List D) (x : Option Fl) : Option Fl := x.bind fun fl => match fl with
    | .nx δ2 => loopL g b r δ2
    | .ct δ2 => loopL g b r δ2
    | .bk δ2 => some (.nx δ2)
    | .rt o δ2 => some (.rt o δ2)
theorem e_lpc {g : MG} {b : MS} : loopL g b (d :: ds) δ = lp1 g b ds (g d δ) := id rfl
theorem e_lp1 {g : MG} {b : MS} : lp1 g b ds (some δ) = lp2 g b ds (b δ) := id rfl
theorem e_lp2 {g : MG} {b : MS} : lp2 g b ds (some (.nx δ)) = loopL g b ds δ := id rfl
theorem e_lp3 {g : MG} {b : MS} : lp2 g b ds (some (.ct δ)) = loopL g b ds δ := id rfl
theorem e_lp4 {g : MG} {b : MS} : lp2 g b ds (some (.bk δ)) = some (.nx δ) := id rfl
theorem e_lp5 {g : MG} {b : MS} : lp2 g b ds (some (.rt o δ)) = some (.rt o δ) := id rfl
def wh1 (c : MT) (b : MS) (n : Nat) (x : Option (Bool × Env)) : Option Fl := x.bind fun p => if p.1 = true then (b p.2).bind fun fl => match fl with
    | .nx δ2 => whileL c b n δ2
    | .ct δ2 => whileL c b n δ2
    | .bk δ2 => some (.nx δ2)
    | .rt o δ2 => some (.rt o δ2)
    else some (.nx p.2)
def wh2 (c : MT) (b : MS) (n : Nat) (x : Option Fl) : Option Fl := x.bind fun fl => match fl with
    | .nx δ2 => whileL c b n δ2
    | .ct δ2 => whileL c b n δ2
    | .bk δ2 => some (.nx δ2)
    | .rt o δ2 => some (.rt o δ2)
theorem e_wh1 {c : MT} {b : MS} : wh1 c b n (some (true, δ)) = wh2 c b n (b δ) := id rfl
theorem e_wh2 {c : MT} {b : MS} : wh1 c b n (some (false, δ)) = some (.nx δ) := id rfl
theorem e_wh3 {c : MT} {b : MS} : wh2 c b n (some (.nx δ)) = whileL c b n δ := id rfl
theorem e_wh4 {c : MT} {b : MS} : wh2 c b n (some (.rt o δ)) = some (.rt o δ) := id rfl
theorem e_wh5 {c : MT} {b : MS} : wh2 c b n (some (.bk δ)) = some (.nx δ) := id rfl
def sq_ (x : Option (D × Env)) : Option (List D × Env) := x.bind fun p => (itemsOf p.1).bind fun ds => some (ds, p.2)
theorem e_si {f : MD} : seqI f δ = sq_ (f δ) := id rfl
theorem e_si1 : sq_ (some (.lst ds, δ)) = some (ds, δ) := id rfl
theorem e_si2 : sq_ (some (.ro ds, δ)) = some (ds, δ) := id rfl
theorem e_si3 : sq_ (some (.tup ds, δ)) = some (ds, δ) := id rfl
def r11 (x : Option (List O × Env)) : Option (List D × Env) := x.bind fun p => match p.1 with
  | [.dat (.int j)] => if (decide (-(2 ^ 62) ≤ j) && decide (j < 2 ^ 62)) = true then some (rangeD 0 j.toNat, p.2) else none
  | _ => none
theorem e_r1 {fa : MA} : rng1 fa δ = r11 (fa δ) := id rfl
theorem e_r11 {k : Int} (h : -100000 ≤ k ∧ k ≤ 100000) : r11 (some ([.dat (.int k)], δ)) = some (rangeD 0 k.toNat, δ) := by
  show (if _ then _ else _) = _
  rw [if_pos (by rw [Bool.and_eq_true, decide_eq_true_eq, decide_eq_true_eq]; omega)]
def r21 (x : Option (List O × Env)) : Option (List D × Env) := x.bind fun p => match p.1 with
  | [.dat (.int i), .dat (.int j)] => if (decide (-(2 ^ 62) ≤ i) && decide (i < 2 ^ 62) && (decide (-(2 ^ 62) ≤ j) && decide (j < 2 ^ 62))) = true then some (rangeD i (j - i).toNat, p.2) else none
  | _ => none
theorem e_r2 {fa : MA} : rng2 fa δ = r21 (fa δ) := id rfl
theorem e_r21 {k l : Int} (h : -100000 ≤ k ∧ k ≤ 100000) (h2 : -100000 ≤ l ∧ l ≤ 100000) : r21 (some ([.dat (.int k), .dat (.int l)], δ)) = some (rangeD k (l - k).toNat, δ) := by
  show (if _ then _ else _) = _
  rw [if_pos (by simp only [Bool.and_eq_true, decide_eq_true_eq]; omega)]
def en1 (x : Option (List D × Env)) : Option (List D × Env) := x.bind fun p => match p.1 with
  | [.lst ds] => some (enumD 0 ds, p.2)
  | _ => none
theorem e_en {fa : MAD} : enumI fa δ = en1 (fa δ) := id rfl
theorem e_en1 : en1 (some ([.lst ds], δ)) = some (enumD 0 ds, δ) := id rfl
/-! comprehensions -/
def lc1 (g : MG) (t : MT) (e : MD) (vs : List Nat) (x : Option (List D × Env)) : Option (O × Env) := x.bind fun p => if noOwn p.2 vs = true then (lcL g t e vs p.1 [] (wipeE p.2 vs)).bind fun q => some (.fre (.lst q.1), restE p.2 q.2 vs) else none
def lc2 (g : MG) (t : MT) (e : MD) (vs : List Nat) (ds : List D) (δ : Env) (x : Bool) : Option (O × Env) := if x = true then (lcL g t e vs ds [] (wipeE δ vs)).bind fun q => some (.fre (.lst q.1), restE δ q.2 vs) else none
def lc3 (δ : Env) (vs : List Nat) (x : Option (List D × Env)) : Option (O × Env) := x.bind fun q => some (.fre (.lst q.1), restE δ q.2 vs)
theorem e_lc {fi : MI} {g : MG} {t : MT} {e : MD} {vs : List Nat} : lcE fi g t e vs δ = lc1 g t e vs (fi δ) := id rfl
theorem e_lc1 {g : MG} {t : MT} {e : MD} {vs : List Nat} : lc1 g t e vs (some (ds, δ)) = lc2 g t e vs ds δ (noOwn δ vs) := id rfl
theorem e_lc2 {g : MG} {t : MT} {e : MD} {vs : List Nat} : lc2 g t e vs ds δ true = lc3 δ vs (lcL g t e vs ds [] (wipeE δ vs)) := id rfl
theorem e_lc3 {vs : List Nat} : lc3 δ vs (some (ds, δ1)) = some (.fre (.lst ds), restE δ δ1 vs) := id rfl
def lcn1 (g : MG) (t : MT) (e : MD) (vs : List Nat) (r acc : List D) (x : Option Env) : Option (List D × Env) := x.bind fun δ2 => (t δ2).bind fun p => if p.1 = true then (e p.2).bind fun q => if acc.length < sizeLine then lcL g t e vs r (acc ++ [q.1]) (wipeE q.2 vs) else none
    else lcL g t e vs r acc (wipeE p.2 vs)
def lcn2 (g : MG) (t : MT) (e : MD) (vs : List Nat) (r acc : List D) (x : Option (Bool × Env)) : Option (List D × Env) := x.bind fun p => if p.1 = true then (e p.2).bind fun q => if acc.length < sizeLine then lcL g t e vs r (acc ++ [q.1]) (wipeE q.2 vs) else none
    else lcL g t e vs r acc (wipeE p.2 vs)
def lcn3 (g : MG) (t : MT) (e : MD) (vs : List Nat) (r acc : List D) (x : Option (D × Env)) : Option (List D × Env) := x.bind fun q => if acc.length < sizeLine then lcL g t e vs r (acc ++ [q.1]) (wipeE q.2 vs) else none
theorem e_lcl {g : MG} {t : MT} {e : MD} {vs : List Nat} {acc : List D} : lcL g t e vs (d :: ds) acc δ = lcn1 g t e vs ds acc (g d δ) := id rfl
theorem e_lcn1 {g : MG} {t : MT} {e : MD} {vs : List Nat} {acc : List D} : lcn1 g t e vs ds acc (some δ) = lcn2 g t e vs ds acc (t δ) := id rfl
theorem e_lcn2 {g : MG} {t : MT} {e : MD} {vs : List Nat} {acc : List D} : lcn2 g t e vs ds acc (some (true, δ)) = lcn3 g t e vs ds acc (e δ) := id rfl
theorem e_lcn3 {g : MG} {t : MT} {e : MD} {vs : List Nat} {acc : List D} : lcn2 g t e vs ds acc (some (false, δ)) = lcL g t e vs ds acc (wipeE δ vs) := id rfl
theorem e_lcn4 {g : MG} {t : MT} {e : MD} {vs : List Nat} {acc : List D} (h : acc.length ≤ 100000) : lcn3 g t e vs ds acc (some (d, δ)) = lcL g t e vs ds (acc ++ [d]) (wipeE δ vs) := if_pos (Nat.lt_of_le_of_lt h (by decide))
theorem e_ye : yesT δ = some (true, δ) := id rfl
theorem e_wi0 : wipeE δ [] = δ := id rfl
theorem e_wi1 {vs : List Nat} : wipeE δ (i :: vs) = (wipeE δ vs).set i .un := id rfl
theorem e_re0 : restE δ1 δ [] = δ := id rfl
theorem e_re1 {vs : List Nat} : restE δ1 δ (i :: vs) = (restE δ1 δ vs).set i (δ1.getD i .un) := id rfl
theorem e_no0 : noOwn δ [] = true := id rfl
theorem e_no1 {vs : List Nat} : noOwn δ (i :: vs) = (!(δ.getD i .un).own? && noOwn δ vs) := id rfl
theorem e_ow1 : Sl.own? .un = false := id rfl
theorem e_ow2 : Sl.own? (.val d) = false := id rfl
/-! defs -/
def df1 (bo : Option Nat) (x : Option Fl) : Option (Ret × D) := x.bind fun fl => match fl with
  | .nx δ => (outOf bo δ).bind fun m => some (.dat .non, m)
  | .rt o δ => (resOf o δ).bind fun r => (outOf bo δ).bind fun m => some (r, m)
  | _ => none
def df2 (x : Option Ret) (y : Option D) : Option (Ret × D) := x.bind fun r => y.bind fun m => some (r, m)
theorem e_df1 {bo : Option Nat} : df1 bo (some (.nx δ)) = df2 (some (.dat .non)) (outOf bo δ) := id rfl
theorem e_df2 {bo : Option Nat} : df1 bo (some (.rt o δ)) = df2 (resOf o δ) (outOf bo δ) := id rfl
theorem e_df3 {r : Ret} : df2 (some r) (some d) = some (r, d) := id rfl
def rs1 : Option Sl → Option Ret
  | some (.own d) => some (.fre d)
  | some (.val d) => some (.dat d)
  | _ => none
theorem e_rs1 : resOf (.dat d) δ = some (.dat d) := id rfl
theorem e_rs2 : resOf (.fre d) δ = some (.fre d) := id rfl
theorem e_rs3 : resOf (.own i) δ = rs1 δ[i]? := by
  simp only [resOf]
  generalize δ[i]? = x
  cases x with
  | none => rfl
  | some s => cases s <;> rfl
theorem e_rs4 : rs1 (some (.own d)) = some (.fre d) := id rfl
theorem e_rs5 : rs1 (some (.val d)) = some (.dat d) := id rfl
def ou1 : Option Sl → Option D
  | some (.brw d) => some d
  | _ => none
theorem e_ou : outOf none δ = some .non := id rfl
theorem e_ou1 : outOf (some i) δ = ou1 δ[i]? := by
  simp only [outOf]
  generalize δ[i]? = x
  cases x with
  | none => rfl
  | some s => cases s <;> rfl
theorem e_ou2 : ou1 (some (.brw d)) = some d := id rfl
/-! mutation -/
def mu1 (ty : D → Bool) (g : D → List D → Option (D × D)) (fa : MAD) (x : Option (O × Env)) : Option (O × Env) := x.bind fun p => (deref p.2 p.1).bind fun d0 => if ty d0 = true then (fa p.2).bind fun q => match p.1 with
  | .own i => match q.2[i]? with
    | some (.own d) => (g d q.1).bind fun x => some (.dat x.2, q.2.set i (.own x.1))
    | some (.brw d) => (g d q.1).bind fun x => some (.dat x.2, q.2.set i (.brw x.1))
    | _ => none
  | _ => none
  else none
theorem e_mu {ty : D → Bool} {g : D → List D → Option (D × D)} {fo : ME} {fa : MAD} : mutE ty g fo fa δ = mu1 ty g fa (fo δ) := id rfl
def mu3 (g : D → List D → Option (D × D)) (i : Nat) (ds : List D) (δ : Env) : Option Sl → Option (O × Env)
  | some (.own d) => (g d ds).bind fun x => some (.dat x.2, δ.set i (.own x.1))
  | some (.brw d) => (g d ds).bind fun x => some (.dat x.2, δ.set i (.brw x.1))
  | _ => none
def mu2 (g : D → List D → Option (D × D)) (i : Nat) (x : Option (List D × Env)) : Option (O × Env) := x.bind fun q => mu3 g i q.1 q.2 q.2[i]?
def mu5 (ty : D → Bool) (g : D → List D → Option (D × D)) (fa : MAD) (i : Nat) (δ : Env) (x : Option D) : Option (O × Env) := x.bind fun d0 => if ty d0 = true then mu2 g i (fa δ) else none
theorem e_mu1 {ty : D → Bool} {g : D → List D → Option (D × D)} {fa : MAD} : mu1 ty g fa (some (.own i, δ)) = mu5 ty g fa i δ (deref δ (.own i)) := by
  unfold mu1 mu5
  show ((deref δ (.own i)).bind fun d0 => if ty d0 = true then (fa δ).bind fun q => _ else none) = _
  congr
theorem e_mu6 {g : D → List D → Option (D × D)} {fa : MAD} {xs : List D} : mu5 isLst g fa i δ (some (.lst xs)) = mu2 g i (fa δ) := id rfl
theorem e_mu2 {g : D → List D → Option (D × D)} : mu2 g i (some (ds, δ)) = mu3 g i ds δ δ[i]? := id rfl
def mu4 (sl : D → Sl) (i : Nat) (δ : Env) (x : Option (D × D)) : Option (O × Env) := x.bind fun x => some (.dat x.2, δ.set i (sl x.1))
theorem e_mu3 {g : D → List D → Option (D × D)} : mu3 g i ds δ (some (.own d)) = mu4 .own i δ (g d ds) := id rfl
theorem e_mu4 {g : D → List D → Option (D × D)} : mu3 g i ds δ (some (.brw d)) = mu4 .brw i δ (g d ds) := id rfl
theorem e_mu5 {sl : D → Sl} : mu4 sl i δ (some (d1, d2)) = some (.dat d2, δ.set i (sl d1)) := id rfl
end
/-! ### on data -/
section
variable {i j : Int} {xs ys : List D}
theorem g_addI : addG (.int i) (.int j) = some (.dat (.int (i + j))) := id rfl
theorem g_addL (h : xs.length + ys.length ≤ 100000) : addG (.lst xs) (.lst ys) = some (.fre (.lst (xs ++ ys))) := if_pos (szl h)
theorem g_sub : subG (.int i) (.int j) = some (.dat (.int (i - j))) := id rfl
theorem g_lt : ltG (.int i) (.int j) = some (.dat (.bl (decide (i < j)))) := id rfl
theorem g_le : leG (.int i) (.int j) = some (.dat (.bl (decide (i ≤ j)))) := id rfl
theorem g_gt : gtG (.int i) (.int j) = some (.dat (.bl (decide (j < i)))) := id rfl
theorem g_ge : geG (.int i) (.int j) = some (.dat (.bl (decide (j ≤ i)))) := id rfl
theorem g_mod (h : 0 < j) : modG (.int i) (.int j) = some (.dat (.int (i % j))) := if_pos (decide_eq_true h)
theorem g_div (h : 0 < j) (h2 : j < 18446744073709551616) : divG (.int i) (.int j) = some (.dat (.int (i / j))) := if_pos (by
  rw [Bool.and_eq_true, decide_eq_true_eq, decide_eq_true_eq]
  exact ⟨h, by omega⟩)
theorem g_pow {b : Nat} (h : 0 ≤ j) (hb : Builtin.Int.intBits i ≤ b) (h2 : (b : Int) * j ≤ 2 ^ 27) : powG (.int i) (.int j) = some (.dat (.int (i ^ j.toNat))) := if_pos (by
  rw [Bool.and_eq_true, decide_eq_true_eq, decide_eq_true_eq]
  exact ⟨h, Int.le_trans (Int.mul_le_mul_of_nonneg_right (by omega) h) h2⟩)
theorem g_mulI (h : smallI i = true ∨ smallI j = true) : mulG (.int i) (.int j) = some (.dat (.int (i * j))) := if_pos (by rw [Bool.or_eq_true]; exact h)
theorem g_mulL {d : D} (h : j < 100000) (h0 : 0 ≤ j) : mulG (.lst [d]) (.int j) = some (.fre (.lst (List.replicate j.toNat d))) := by
  have e : (List.replicate j.toNat [d]).flatten = List.replicate j.toNat d := by
    generalize j.toNat = n
    induction n with
    | zero => rfl
    | succ n ih => rw [List.replicate_succ, List.flatten_cons, ih]; rfl
  show (if _ then _ else _) = _
  rw [if_pos, e]
  simp only [Bool.and_eq_true, decide_eq_true_eq]
  refine ⟨⟨by omega, by omega⟩, ?_⟩
  show 1 * j.toNat ≤ sizeLine
  exact szl (by omega)
theorem g_eqI : eqG (.int i) (.int j) = some (.dat (.bl (decide (i = j)))) := by
  show some (O.dat (.bl (decide (V.int i = V.int j)))) = _
  simp
theorem g_neI : neG (.int i) (.int j) = some (.dat (.bl (!decide (i = j)))) := by
  show some (O.dat (.bl (!decide (V.int i = V.int j)))) = _
  simp
theorem g_eqB {a b : Bool} : eqG (.bl a) (.bl b) = some (.dat (.bl (decide (a = b)))) := by
  show some (O.dat (.bl (decide (V.bl a = V.bl b)))) = _
  simp
theorem g_neB {a b : Bool} : neG (.bl a) (.bl b) = some (.dat (.bl (!decide (a = b)))) := by
  show some (O.dat (.bl (!decide (V.bl a = V.bl b)))) = _
  simp
theorem g_eqS {a b : Str} : eqG (.str a) (.str b) = some (.dat (.bl (decide (a = b)))) := by
  show some (O.dat (.bl (decide (V.str a = V.str b)))) = _
  simp
theorem ixN_pos {n : Nat} (h0 : 0 ≤ i) (h : i < n) : ixN n i = some i.toNat := by
  unfold ixN
  rw [if_pos h0, if_pos h]
theorem ixN_last {n : Nat} (h : 0 < n) : ixN n (-1) = some (n - 1) := by
  unfold ixN
  rw [if_neg (by omega), if_pos (by omega)]
  exact congrArg some (by omega)
def ix1 (x : Option D) : Option O := x.bind fun d => some (.dat d)
theorem g_ixL : ixG (.lst xs) (.int i) = ix1 (L2.atI xs i) := id rfl
theorem g_ixR : ixG (.ro xs) (.int i) = ix1 (L2.atI xs i) := id rfl
theorem g_ixT : ixG (.tup xs) (.int i) = ix1 (L2.atI xs i) := id rfl
theorem g_ix1 {d : D} : ix1 (some d) = some (.dat d) := id rfl
theorem atI_pos {α : Type} {l : List α} (h0 : 0 ≤ i) (h : i < l.length) : L2.atI l i = l[i.toNat]? := by
  unfold L2.atI; rw [ixN_pos h0 h]; rfl
theorem atI_last {α : Type} {l : List α} (h : 0 < l.length) : L2.atI l (-1) = l[l.length - 1]? := by
  unfold L2.atI; rw [ixN_last h]; rfl
theorem g_lenL : lenG [.lst xs] = some (.dat (.int (xs.length : Nat))) := id rfl
theorem g_lenR : lenG [.ro xs] = some (.dat (.int (xs.length : Nat))) := id rfl
theorem g_lenT : lenG [.tup xs] = some (.dat (.int (xs.length : Nat))) := id rfl
theorem g_intI : intOfG [.int i] = some (.dat (.int i)) := id rfl
theorem g_intB {b : Bool} : intOfG [.bl b] = some (.dat (.int (if b then 1 else 0))) := id rfl
theorem g_min2 : minG [.int i, .int j] = some (.dat (.int (if j < i then j else i))) := id rfl
theorem g_max2 : maxG [.int i, .int j] = some (.dat (.int (if j > i then j else i))) := id rfl
theorem g_app (h : xs.length < 100000) {d : D} : appG (.lst xs) [d] = some (.lst (xs ++ [d]), .non) := by
  unfold appG
  simp only
  rw [if_pos (Nat.lt_of_lt_of_le h (by decide))]
theorem g_slL {u v : Option Int} : slG u v (.lst xs) = some (.fre (.lst (cutD xs u v))) := id rfl
theorem g_slT {u v : Option Int} : slG u v (.tup xs) = some (.dat (.tup (cutD xs u v))) := id rfl
theorem g_neg : negG (.int i) = some (.dat (.int (-i))) := id rfl
theorem g_atI0 {α : Type} {x : α} {l : List α} : L2.atI (x :: l) 0 = some x := by
  rw [atI_pos (Int.le_refl 0) (by simp only [List.length_cons]; omega)]; rfl
theorem g_atI1 {α : Type} {x y : α} {l : List α} : L2.atI (x :: y :: l) 1 = some y := by
  rw [atI_pos (by decide) (by simp only [List.length_cons]; omega)]; rfl
theorem g_atIl {α : Type} {x : α} {l : List α} : L2.atI (l ++ [x]) (-1) = some x := by
  rw [atI_last (by simp)]; simp
theorem g_ixN0 {n : Nat} : ixN (n + 1) 0 = some 0 := by rw [ixN_pos (Int.le_refl 0) (by omega)]; rfl
theorem g_ixN1 {n : Nat} : ixN (n + 2) 1 = some 1 := by rw [ixN_pos (by decide) (by omega)]; rfl
theorem bits_le {z : Int} {b : Nat} (h0 : 0 ≤ z) (h : z < 2 ^ b) : Builtin.Int.intBits z ≤ b := PySem.intBits_le_iff.mpr (by
  have e : ((2 ^ b : Nat) : Int) = (2 : Int) ^ b := by push_cast; rfl
  omega)
theorem g_powM3 {x m : Int} (h : 0 < m) (h2 : m < 2 ^ 32) : powG (.int (x % m)) (.int 3) = some (.dat (.int ((x % m) ^ 3))) :=
  g_pow (b := 32) (by decide) (bits_le (Int.emod_nonneg _ (by omega)) (Int.lt_trans (Int.emod_lt_of_pos _ h) h2)) (by decide)
theorem g_powM5 {x m : Int} (h : 0 < m) (h2 : m < 2 ^ 32) : powG (.int (x % m)) (.int 5) = some (.dat (.int ((x % m) ^ 5))) :=
  g_pow (b := 32) (by decide) (bits_le (Int.emod_nonneg _ (by omega)) (Int.lt_trans (Int.emod_lt_of_pos _ h) h2)) (by decide)
theorem g_mulR {x k : Int} (h : smallI k = true) : mulG (.int x) (.int k) = some (.dat (.int (x * k))) := g_mulI (.inr h)
end
end DV

/-! DV14: lists of ints and of truth values: equal, in, cut, shown. -/
namespace DV
open PySem PySem.Spec PyProof.Rows L2
def bl (bs : List Bool) : D := .lst (bs.map .bl)
theorem toPds_int : ∀ ns : List Int, toPds (ns.map .int) = some (ns.map PyData.int)
  | [] => rfl
  | n :: ns => by
    show (toPd (.int n)).bind _ = _
    simp only [toPd, Option.bind_some, toPds_int ns, List.map_cons]
theorem toPds_bl : ∀ ns : List Bool, toPds (ns.map .bl) = some (ns.map PyData.bool)
  | [] => rfl
  | n :: ns => by
    show (toPd (.bl n)).bind _ = _
    simp only [toPd, Option.bind_some, toPds_bl ns, List.map_cons]
theorem canAll_int : ∀ ns : List Int, PyData.canLayAll0 (ns.map PyData.int) = true
  | [] => rfl
  | n :: ns => by simp only [List.map_cons, PyData.canLayAll0, PyData.canLay0, canAll_int ns, Bool.and_self]
theorem canAll_bl : ∀ ns : List Bool, PyData.canLayAll0 (ns.map PyData.bool) = true
  | [] => rfl
  | n :: ns => by simp only [List.map_cons, PyData.canLayAll0, PyData.canLay0, canAll_bl ns, Bool.and_self]
theorem dep_int : ∀ ns : List Int, PyData.depthAll (ns.map PyData.int) = 0
  | [] => rfl
  | n :: ns => by simp only [List.map_cons, PyData.depthAll, PyData.depth, dep_int ns, Nat.max_self]
theorem dep_bl : ∀ ns : List Bool, PyData.depthAll (ns.map PyData.bool) = 0
  | [] => rfl
  | n :: ns => by simp only [List.map_cons, PyData.depthAll, PyData.depth, dep_bl ns, Nat.max_self]
theorem shaped_int (ns : List Int) : SeqAt.shaped (.list (ns.map PyData.int)) = true := by
  simp [SeqAt.shaped, PyData.canLay0, canAll_int, PyData.depth, dep_int]
theorem shaped_bl (ns : List Bool) : SeqAt.shaped (.list (ns.map PyData.bool)) = true := by
  simp [SeqAt.shaped, PyData.canLay0, canAll_bl, PyData.depth, dep_bl]
theorem shaped_tint (ns : List Int) : SeqAt.shaped (.tuple (ns.map PyData.int)) = true := by
  simp [SeqAt.shaped, PyData.canLay0, canAll_int, PyData.depth, dep_int]
theorem eqvAll_int : ∀ xs ys : List Int, PyData.eqvAll (xs.map PyData.int) (ys.map PyData.int) = decide (xs = ys)
  | [], [] => by simp [PyData.eqvAll]
  | [], _ :: _ => by simp [PyData.eqvAll]
  | _ :: _, [] => by simp [PyData.eqvAll]
  | x :: xs, y :: ys => by
    rw [List.map_cons, List.map_cons, PyData.eqvAll, eqvAll_int xs ys, PyData.eqv, Bool.eq_iff_iff]
    simp
theorem eqvAll_bl : ∀ xs ys : List Bool, PyData.eqvAll (xs.map PyData.bool) (ys.map PyData.bool) = decide (xs = ys)
  | [], [] => by simp [PyData.eqvAll]
  | [], _ :: _ => by simp [PyData.eqvAll]
  | _ :: _, [] => by simp [PyData.eqvAll]
  | x :: xs, y :: ys => by
    rw [List.map_cons, List.map_cons, PyData.eqvAll, eqvAll_bl xs ys, PyData.eqv, Bool.eq_iff_iff]
    simp
theorem eqB_lst {xs ys : List D} {a b : List PyData} (h1 : toPds xs = some a) (h2 : toPds ys = some b) (s1 : SeqAt.shaped (.list a) = true) (s2 : SeqAt.shaped (.list b) = true) : eqB (.lst xs) (.lst ys) = some (PyData.eqvAll a b) := by
  unfold eqB
  simp only [toV, Option.bind_none, toPd, h1, h2, Option.bind_some, s1, s2, Bool.and_self, if_true, PyData.eqv]
theorem eqB_tup {xs ys : List D} {a b : List PyData} (h1 : toPds xs = some a) (h2 : toPds ys = some b) (s1 : SeqAt.shaped (.tuple a) = true) (s2 : SeqAt.shaped (.tuple b) = true) : eqB (.tup xs) (.tup ys) = some (PyData.eqvAll a b) := by
  unfold eqB
  simp only [toV, Option.bind_none, toPd, h1, h2, Option.bind_some, s1, s2, Bool.and_self, if_true, PyData.eqv]
theorem eqB_ints (xs ys : List Int) : eqB (.lst (xs.map .int)) (.lst (ys.map .int)) = some (decide (xs = ys)) := by
  rw [eqB_lst (toPds_int xs) (toPds_int ys) (shaped_int _) (shaped_int _), eqvAll_int]
theorem eqB_bls (xs ys : List Bool) : eqB (.lst (xs.map .bl)) (.lst (ys.map .bl)) = some (decide (xs = ys)) := by
  rw [eqB_lst (toPds_bl xs) (toPds_bl ys) (shaped_bl _) (shaped_bl _), eqvAll_bl]
theorem eqB_tints (xs ys : List Int) : eqB (.tup (xs.map .int)) (.tup (ys.map .int)) = some (decide (xs = ys)) := by
  rw [eqB_tup (toPds_int xs) (toPds_int ys) (shaped_tint _) (shaped_tint _), eqvAll_int]
theorem g_eqIs (xs ys : List Int) : eqG (.lst (xs.map .int)) (.lst (ys.map .int)) = some (.dat (.bl (decide (xs = ys)))) := by unfold eqG; rw [eqB_ints]; rfl
theorem g_neIs (xs ys : List Int) : neG (.lst (xs.map .int)) (.lst (ys.map .int)) = some (.dat (.bl (!decide (xs = ys)))) := by unfold neG; rw [eqB_ints]; rfl
theorem g_eqBs (xs ys : List Bool) : eqG (.lst (xs.map .bl)) (.lst (ys.map .bl)) = some (.dat (.bl (decide (xs = ys)))) := by unfold eqG; rw [eqB_bls]; rfl
theorem g_neBs (xs ys : List Bool) : neG (.lst (xs.map .bl)) (.lst (ys.map .bl)) = some (.dat (.bl (!decide (xs = ys)))) := by unfold neG; rw [eqB_bls]; rfl
theorem g_eqI0 (xs : List Int) : eqG (.lst (xs.map .int)) (.lst []) = some (.dat (.bl (decide (xs = [])))) := g_eqIs xs []
theorem g_neI0 (xs : List Int) : neG (.lst (xs.map .int)) (.lst []) = some (.dat (.bl (!decide (xs = [])))) := g_neIs xs []
theorem g_neT0 (xs : List Int) : neG (.tup (xs.map .int)) (.tup []) = some (.dat (.bl (!decide (xs = [])))) := by
  unfold neG
  rw [show D.tup [] = .tup (([] : List Int).map .int) from rfl, eqB_tints]; rfl
/-! in -/
theorem toVs_bl : ∀ bs : List Bool, toVs (bs.map .bl) = some (bs.map V.bl)
  | [] => rfl
  | b :: bs => by
    show (toV (.bl b)).bind _ = _
    simp only [toV, Option.bind_some, toVs_bl bs, List.map_cons]
theorem g_inB (bs : List Bool) (b : Bool) : inG false (.bl b) (.lst (bs.map .bl)) = some (.dat (.bl (bs.contains b))) := by
  have e : inV (.bl b) (bs.map V.bl) = bs.contains b := by
    unfold inV
    induction bs with
    | nil => rfl
    | cons c bs ih =>
      rw [List.map_cons, List.any_cons, ih, List.contains_cons]
      cases b <;> cases c <;> rfl
  unfold inG
  simp only [toV, Option.bind_some, itemsOf, toVs_bl, e, Bool.false_eq_true, if_false]
/-- a list of ints, with None at its end or not -/
def withNone (ns : List Int) (z : Bool) : List D := ns.map .int ++ (if z then [.non] else [])
theorem toVs_app : ∀ {xs ys : List D} {a b : List V}, toVs xs = some a → toVs ys = some b → toVs (xs ++ ys) = some (a ++ b)
  | [], ys, a, b, h1, h2 => by cases h1; exact h2
  | x :: xs, ys, a, b, h1, h2 => by
    obtain ⟨v, e1, h1⟩ := Option.bind_eq_some_iff.mp h1
    obtain ⟨vs, e2, h1⟩ := Option.bind_eq_some_iff.mp h1
    cases h1
    show ((toV x).bind fun v => (toVs (xs ++ ys)).bind fun vs => some (v :: vs)) = _
    rw [e1, toVs_app e2 h2]
    rfl
theorem toVs_int : ∀ bs : List Int, toVs (bs.map .int) = some (bs.map V.int)
  | [] => rfl
  | b :: bs => by
    show (toV (.int b)).bind _ = _
    simp only [toV, Option.bind_some, toVs_int bs, List.map_cons]
theorem g_inN (ns : List Int) (z : Bool) : inG false .non (.lst (withNone ns z)) = some (.dat (.bl z)) := by
  have e : ∀ ns : List Int, inV .non (ns.map V.int) = false := fun ns => by
    unfold inV
    induction ns with
    | nil => rfl
    | cons c bs ih => rw [List.map_cons, List.any_cons, ih]; rfl
  unfold inG withNone
  cases z with
  | true =>
    have h := toVs_app (toVs_int ns) (show toVs [.non] = some [V.non] from rfl)
    simp only [toV, Option.bind_some, itemsOf, if_true, h, Bool.false_eq_true, if_false]
    have e2 : inV .non (ns.map V.int ++ [V.non]) = true := by
      unfold inV
      rw [List.any_append]
      have : ([V.non].any fun y => eqV y .non) = true := rfl
      rw [this, Bool.or_true]
    rw [e2]
  | false =>
    have h := toVs_int ns
    simp only [toV, Option.bind_some, itemsOf, Bool.false_eq_true, if_false, List.append_nil, h, e]
/-! sorted sets, least numbers -/
def ss1 (x : Option (O × Env)) : Option (O × Env) := x.bind fun p => (deref p.2 p.1).bind fun d => ((lstOf d).bind intsOf).bind fun ns => if ns.length < 64 then some (.fre (.lst ((sortSetI ns).map .int)), p.2) else none
def ssG (d : D) : Option O := ((lstOf d).bind intsOf).bind fun ns => if ns.length < 64 then some (.fre (.lst ((sortSetI ns).map .int))) else none
theorem h_ss {f : ME} {δ : Env} : sortSetE f δ = ss1 (f δ) := id rfl
theorem h_ss1 {o : O} {δ : Env} : ss1 (some (o, δ)) = un2 ssG δ (deref δ o) := by
  show ((deref δ o).bind fun d => ((lstOf d).bind intsOf).bind fun ns => if ns.length < 64 then some (O.fre (.lst ((sortSetI ns).map .int)), δ) else none) = (deref δ o).bind fun d => (((lstOf d).bind intsOf).bind fun ns => if ns.length < 64 then some (O.fre (.lst ((sortSetI ns).map .int))) else none).bind fun o => some (o, δ)
  congr
  funext d
  cases (lstOf d).bind intsOf with
  | none => rfl
  | some ns =>
    show (if _ then _ else _) = Option.bind (if _ then _ else _) _
    split <;> rfl
theorem h_ssG {ns : List Int} (h : ns.length < 64) : ssG (.lst (ns.map .int)) = some (.fre (.lst ((sortSetI ns).map .int))) := by
  unfold ssG
  simp only [lstOf, Option.bind_some, intsOf_map, h, if_true]
theorem h_min {m : Int} {r : List Int} : minG [.lst ((m :: r).map .int)] = some (.dat (.int (minL m r))) := by
  show (((lstOf (.lst ((m :: r).map .int))).bind intsOf).bind fun ns => match ns with | m :: r => some (O.dat (.int (minL m r))) | [] => none) = _
  simp only [lstOf, Option.bind_some, intsOf_map]
theorem h_tup {ds : List D} : tupOfG [.lst ds] = some (.dat (.tup ds)) := id rfl
theorem h_lst {ds : List D} : lstOfG [.lst ds] = some (.fre (.lst ds)) := id rfl
theorem flat_ints : ∀ ns : List Int, flatDs (ns.map .int) = true
  | [] => rfl
  | n :: ns => by rw [List.map_cons]; unfold flatDs; rw [flat_ints ns]; rfl
theorem flat_bls : ∀ ns : List Bool, flatDs (ns.map .bl) = true
  | [] => rfl
  | n :: ns => by rw [List.map_cons]; unfold flatDs; rw [flat_bls ns]; rfl
theorem h_flT {ns : List Int} : flatR (.dat (.tup (ns.map .int))) = true := flat_ints ns
theorem h_flL {ns : List Int} : flatR (.fre (.lst (ns.map .int))) = true := flat_ints ns
theorem h_flB {ns : List Bool} : flatR (.fre (.lst (ns.map .bl))) = true := flat_bls ns
theorem h_flb {b : Bool} : flatR (.dat (.bl b)) = true := id rfl
theorem h_fli {b : Int} : flatR (.dat (.int b)) = true := id rfl
theorem h_fln : flatR (.dat .non) = true := id rfl
theorem h_flN : flatT .non = true := id rfl
theorem h_flS {a b : Int} : flatT (.lst [.int a, .int b]) = true := id rfl
theorem h_mapi {xs : List Int} {v : Int} : xs.map D.int ++ [.int v] = (xs ++ [v]).map .int := by simp
theorem h_mapb {xs : List Bool} {v : Bool} : xs.map D.bl ++ [.bl v] = (xs ++ [v]).map .bl := by simp
theorem h_mapI {xs ys : List Int} : xs.map D.int ++ ys.map D.int = (xs ++ ys).map .int := by simp
theorem h_mapB {xs ys : List Bool} : xs.map D.bl ++ ys.map D.bl = (xs ++ ys).map .bl := by simp
theorem h_revI {xs : List Int} : (xs.map D.int).reverse = xs.reverse.map .int := by simp
end DV

/-! DVE: enumerate of a list or a tuple. -/
namespace DV
open PySem PySem.Spec PyProof.Rows L2
theorem meets_enumT (t : Addr) (items : Array Value) :
    Meets (Builtin.«enumerate.__new__» ⟨[.type "enumerate", .ref t], []⟩) (fun _ Res sh => sh.heap.IsTuple t items ∧ Res (.ok (.ret (.ref (sh.heap.objs.size + 1))))
      { sh with heap := (sh.heap.push { cls := .type "tuple_iterator", data := .fields #[.ref t, .int 0 0] }).push { cls := .type "enumerate", data := .fields #[.none, .bool false, .ref sh.heap.objs.size, rawInt 0, .none, .none] } }) :=
  .of_wp fun prog w A Res sh hh => by
    obtain ⟨hp, gs, dr, tk, os⟩ := sh
    obtain ⟨ht, hres⟩ := hh
    have sub_e := sub_enumerate
    have hz : (hp.push { cls := .type "tuple_iterator", data := .fields #[.ref t, .int 0 0] }).objs.size = hp.objs.size + 1 := Heap.size_push ..
    have step : ∀ {A' : Around} {Er : Value → Shared → Prop} {Qr : Value → Shared → Prop}, Qr (.ref hp.objs.size) ⟨hp.push { cls := .type "tuple_iterator", data := .fields #[.ref t, .int 0 0] }, gs, dr, tk, os⟩ →
        wpAny (model prog w) A' (pyIter (.ref t)) Qr Er ⟨hp, gs, dr, tk, os⟩ := fun qr => (begins_tuple t items).iter prog w _ _ ⟨hp, gs, dr, tk, os⟩ _ ht qr
    wp_walk using step
    refine wpAny_stack_any fun _ => wpAny_pure ?_
    split
    · rename_i cl _ _ _ _ _
      cases (cl == Value.type "enumerate") <;> (wp_walk using step; exact ⟨_, rfl, by rw [hz]; exact hres⟩)
    · wp_walk using step
      exact ⟨_, rfl, by rw [hz]; exact hres⟩
section
variable {prog : Program} {w : World} {A : Around} {E : Value → Shared → Prop} {s : Shared}
theorem call_enumT {t : Addr} {items : Array Value} {Q : Value → Shared → Prop} (ht : s.heap.IsTuple t items)
    (hq : ∀ h', IsEnum h' (s.heap.objs.size + 1) s.heap.objs.size 0 .none → h'.IsTupleIter s.heap.objs.size t 0 → (∀ b o, s.heap.get? b = some o → h'.get? b = some o) → Q (.ref (s.heap.objs.size + 1)) { s with heap := h' }) :
    wpAny (model prog w) A (call (.type "enumerate") [.ref t]) Q E s := by
  refine callType_new F.called_enumerate (by decide) (F.typeCall_enumerate_1 _) (F.newCall_enumerate_1 _) (fun ob => F.args_object_init_2 ob _) F.entry_enumerate_new (meets_enumT t items) ⟨ht, ?_⟩
  have hz : (s.heap.push { cls := .type "tuple_iterator", data := .fields #[.ref t, .int 0 0] }).objs.size = s.heap.objs.size + 1 := Heap.size_push ..
  have he : IsEnum ((s.heap.push { cls := .type "tuple_iterator", data := .fields #[.ref t, .int 0 0] }).push { cls := .type "enumerate", data := .fields #[.none, .bool false, .ref s.heap.objs.size, rawInt 0, .none, .none] }) (s.heap.objs.size + 1) s.heap.objs.size 0 .none := by
    have q := Heap.get?_push_size (s.heap.push { cls := .type "tuple_iterator", data := .fields #[.ref t, .int 0 0] }) (o := { cls := .type "enumerate", data := .fields #[.none, .bool false, .ref s.heap.objs.size, rawInt 0, .none, .none] }) rfl
    rw [hz] at q
    exact q
  exact ⟨⟨_, he, rfl⟩, hq _ he ⟨_, Heap.get?_push_of_some _ (Heap.get?_push_size _ rfl), rfl, rfl⟩ fun b o x => Heap.get?_push_of_some _ (Heap.get?_push_of_some _ x)⟩
end
/-- the tuple at a, its items in new pairs -/
def IteT (K : PySem.W.Frag) (a : Addr) : It :=
  ⟨fun i H => ∃ xs x, SqT K H a xs ∧ xs[i]? = some x, fun i H v H' => ∃ T x, v = .ref T ∧ H T = none ∧ H' = upd H T (.tup [.int (i : Nat), x]) ∧ ∀ xs, SqT K H a xs → xs[i]? = some x, fun i H => ∃ xs, SqT K H a xs ∧ xs.length ≤ i⟩
theorem tup_ne_iter {h : Heap} {t it : Addr} {items : Array Value} {i : Nat} (h1 : h.IsTuple t items) (h2 : h.IsTupleIter it t i) : t ≠ it := fun e => by
  obtain ⟨o, e1, c1, _⟩ := h1
  obtain ⟨o', e2, c2, _⟩ := h2
  subst e
  rw [e1] at e2; cases e2
  rw [c1] at c2
  exact absurd c2 (by decide)
theorem tup_ne_enum {h : Heap} {t e it : Addr} {items : Array Value} {i : Int} {old : Value} (h1 : h.IsTuple t items) (h2 : IsEnum h e it i old) : e ≠ t := fun q => by
  obtain ⟨o, e1, c1, _⟩ := h1
  subst q
  have e2 : h.get? e = _ := h2
  rw [e1] at e2; cases e2
  exact absurd (show Value.type "enumerate" = Value.type "tuple" from c1) (by decide)
theorem turn_enumT {P : Program} {w : World} {K : PySem.W.Frag} {elts : List Expr} {kk : Nat} {tpos : Pos} (a e it : Addr) :
    Turn P w K (.Tuple elts kk tpos) (IteT K a) [e, it] e (fun i h => (∃ old, IsEnum h e it ((i : Nat) : Int) old) ∧ h.IsTupleIter it a i ∧ e ≠ it) := by
  constructor
  · simp
  · rintro i h ⟨⟨old, he⟩, ⟨o, ho, hc, hd⟩, _⟩ b hb
    have hb' : b = e ∨ b = it := by simpa using hb
    rcases hb' with rfl | rfl
    · exact ⟨_, he, fun v q => nomatch q⟩
    · exact ⟨o, ho, fun v q => by rw [hd] at q; cases q⟩
  · rintro i h h' ⟨⟨old, he⟩, hi, hne⟩ k
    exact ⟨⟨old, k e (by simp) _ he⟩, hi.at fun o q => k it (by simp) o q, hne⟩
  · intro X hP hw hK hc i pins s σ H E I hf st hg
    subst hP; subst hw; subst hK
    obtain ⟨⟨old, he⟩, hit, hne⟩ := st
    obtain ⟨xs, x, hq, hx⟩ := hg
    obtain ⟨its, rv, p, hz⟩ := I.tuple hq
    have pt : s.heap.IsTuple a its.toArray := p
    obtain ⟨u, hu, ru⟩ := rv.get hx
    have hel : e < s.heap.objs.size := Heap.lt_size he
    have hil : it < s.heap.objs.size := by obtain ⟨_, q, _⟩ := hit; exact Heap.lt_size q
    have nf : e ∉ [it, a] := fun q => by
      have q' : e = it ∨ e = a := by simpa using q
      exact q'.elim hne (tup_ne_enum pt he)
    have hlt : i < its.toArray.size := by
      have := (List.getElem?_eq_some_iff.mp hu).1
      simpa using this
    refine wpAny_pyNext_enum_itemD (Draws.tuple (show X.A.in1.handled = none from I.ok.hd hc) it a (tup_ne_iter pt hit) its.toArray) he ⟨hit, pt⟩ hlt hne nf fun y h' tk hy ho hst hT hsz hk => ?_
    have ey : y = u := by
      have hy' : its[i]? = some y := by simpa using hy
      rw [hu] at hy'; cases hy'; rfl
    subst ey
    refine ⟨_, rfl, wpAny_letOwnedTupleGo_enum (s := { s with heap := h', toks := tk + 1 }) ho fun h'' he' sb => ?_⟩
    have hT2 : h''.get? s.heap.objs.size = some { cls := .type "tuple", data := .seq #[.int i tk, y] } := (sb.2 _ (Nat.ne_of_gt hel)).trans hT
    have new : ObjOk X.prog X.w (upd H s.heap.objs.size (.tup [.int (i : Nat), x])) h'' s.heap.objs.size (.tup [.int (i : Nat), x]) :=
      ⟨by show 2 ≤ sizeLine; decide, [.int i tk, y], .cons ⟨_, rfl⟩ (.cons ru .nil), ⟨_, hT2, rfl, _, rfl⟩⟩
    have I1 := I.turnedNew (t' := tk + 1) (ch := [e, it]) (h' := h'') (fun b ob hb q => (sb.2 b (fun z => hb (by simp [z]))).trans (hk b ob (fun z => hb (by simp [z])) (fun z => hb (by simp [z])) q)) hf (Nat.le_refl _) new
    have inj : ∀ ys, SqT X.K H a ys → ys[i]? = some x := fun ys hy => by
      obtain ⟨its2, rv2, p2, _⟩ := I.tuple hy
      have e2 : ys = xs := I.tuple_inj hy hq
      rw [e2]; exact hx
    refine ⟨.ref s.heap.objs.size, _, I1, rfl, ⟨_, x, rfl, I.hok.fresh (Nat.le_refl _), rfl, inj⟩, ⟨⟨y, ?_⟩, hst.1.at fun o q => (sb.2 it (Ne.symm hne)).trans q, hne⟩, fun b hb => ?_⟩
    · have e1 : ((i + 1 : Nat) : Int) = (i : Int) + 1 := by omega
      rw [e1]
      exact he'
    · have hb' : b = e ∨ b = it := by simpa using hb
      have lt : b < s.heap.objs.size := by
        rcases hb' with z | z
        · rw [z]; exact hel
        · rw [z]; exact hil
      rw [upd_ne (Nat.ne_of_lt lt)]
      exact (hf b hb).1
  · intro X hP hw hK hc i pins s σ H E I hf st hg
    subst hP; subst hw; subst hK
    obtain ⟨⟨old, he⟩, hit, hne⟩ := st
    obtain ⟨xs, hq, hx⟩ := hg
    obtain ⟨its, rv, p, hz⟩ := I.tuple hq
    have pt : s.heap.IsTuple a its.toArray := p
    obtain ⟨f0, f1, f2, f3, f4, f5⟩ := hf it (by simp)
    have hl := rv.length
    have hnone : its.toArray[i]? = none := by simp; omega
    have hd : X.A.in1.handled = none := I.ok.hd hc
    have D0 : Draws X.prog X.w X.A.in1 it [it, a] 0 (fun _ _ => False) (fun _ h => h.IsTupleIter it a i ∧ h.IsTuple a its.toArray) :=
      ⟨fun _ _ st => let ⟨o, ho, _⟩ := st.1; ⟨o, ho⟩, fun _ _ _ st hk => ⟨st.1.at fun o q => hk it (by simp) o q, st.2.at fun o q => hk a (by simp) o q⟩, fun j s Q E hj => absurd hj (Nat.not_lt_zero _),
        fun s Q E st hE => wpAny_nextOf_tuple_end hd st.1 st.2 hnone hE⟩
    exact wpAny_pyNext_enum_endD D0 he ⟨hit, pt⟩ fun h' eb => ⟨rfl, I.turned (t' := s.toks) (fun b o hb q => eb b o hb q) f0 f1 f3 f4 f5⟩
  · exact fun A i s Q E st hq => let ⟨⟨_, he⟩, _⟩ := st; wpAny_pyIter_enum he hq
/-- enumerate(e), a list or a tuple -/
def iEnumU (K : PySem.W.Frag) (ta : TA) : TI := fun σ H R => ta σ H fun vs H1 => ∃ a, vs = [.ref a] ∧ (((∃ xs, SqL K H1 a xs) ∧ R (Ite K a) H1) ∨ ((∃ xs, SqT K H1 a xs) ∧ R (IteT K a) H1))
theorem pi_enumU {X : Cx} {e : Expr} {ta : TA} {p pos tpos : Pos} {elts : List Expr} {kk : Nat} (hg : Gl X "enumerate") (hm : X.mg "enumerate" = none) (ha : PA X [e] ta) (hs : starEach [e] X.env = [(false, eval e X.env)] := by rfl) :
    PI X (.Tuple elts kk tpos) (.Call (.Name "enumerate" p) [e] [] pos) (iEnumU X.K ta) := by
  constructor
  intro pins s σ H R I h
  refine Call_ (ld_blt I hg hm PyProof.Rows.boot_enumerate (PyProof.Rows.callWith_type1 (thn (ha.run pos pins s σ H _ I h) fun us s1 ⟨vs, H1, I1, r1, q1⟩ => ?_) hs rfl))
  obtain ⟨a, ex, q1⟩ := q1
  subst ex
  cases r1 with
  | cons r rr =>
  cases rr
  cases r
  have fresh2 : ∀ b ∈ [s1.heap.objs.size + 1, s1.heap.objs.size], FpOk X pins H1 b := fun b hb => by
    have hb' : b = s1.heap.objs.size + 1 ∨ b = s1.heap.objs.size := by simpa using hb
    have le : s1.heap.objs.size ≤ b := by
      rcases hb' with z | z
      · rw [z]; exact Nat.le_add_right _ _
      · rw [z]; exact Nat.le_refl _
    exact I1.fpOk le (I1.hok.fresh le)
  rcases q1 with ⟨⟨xs, hq⟩, q⟩ | ⟨⟨xs, hq⟩, q⟩
  · obtain ⟨its, rv, p', hz⟩ := I1.list hq
    refine call_enumerate_list p'.isList fun h' he hit hsz hk => wpAny_pyIter_enum he ?_
    have I2 : Inv X pins σ H1 { s1 with heap := h' } := I1.kept (t' := s1.toks) hk
    exact ⟨s1.heap.objs.size + 1, [s1.heap.objs.size + 1, s1.heap.objs.size], _, _, H1, rfl, I2, turn_enum a (s1.heap.objs.size + 1) s1.heap.objs.size, ⟨⟨.none, he⟩, hit, Nat.succ_ne_self _⟩, fresh2, q⟩
  · obtain ⟨its, rv, p', hz⟩ := I1.tuple hq
    refine call_enumT (show s1.heap.IsTuple a its.toArray from p') fun h' he hit hk => wpAny_pyIter_enum he ?_
    have I2 : Inv X pins σ H1 { s1 with heap := h' } := I1.kept (t' := s1.toks) hk
    exact ⟨s1.heap.objs.size + 1, [s1.heap.objs.size + 1, s1.heap.objs.size], _, _, H1, rfl, I2, turn_enumT a (s1.heap.objs.size + 1) s1.heap.objs.size, ⟨⟨.none, he⟩, hit, Nat.succ_ne_self _⟩, fresh2, q⟩
section
variable {K : PySem.W.Frag}
def enumU (fa : MAD) : MI := fun δ => (fa δ).bind fun p => match p.1 with
  | [.lst ds] => some (enumD 0 ds, p.2)
  | [.tup ds] => some (enumD 0 ds, p.2)
  | _ => none
theorem it_pair {J : It} {R : Reg} {H : Hp} {Sq : Hp → List V → Prop} {ds : List D} {us : List V} (rs : RepVs K R H ds us) (sq : ∀ R' H', Keep R H R' H' → Sq H' us)
    (hgo : ∀ i H' x, Sq H' us → us[i]? = some x → J.go i H') (hst : ∀ i H', Sq H' us → us.length ≤ i → J.stop i H')
    (hy : ∀ i H' v H'', J.yld i H' v H'' → ∃ T x, v = .ref T ∧ H' T = none ∧ H'' = upd H' T (.tup [.int (i : Nat), x]) ∧ (Sq H' us → us[i]? = some x)) : ItOk K J R H (enumD 0 ds) := fun R' H' k F' δ' σ' w' i => by
  have h' := sq R' H' k
  refine ⟨fun d hd => ?_, fun hl => hst i H' h' (by rw [← rs.length]; rw [enumD_len] at hl; exact hl)⟩
  obtain ⟨d0, hd0, rfl⟩ := enumD_get hd
  obtain ⟨u, hu, ru⟩ := rs.get hd0
  refine ⟨hgo i H' u h' hu, fun x H'' y => ?_⟩
  obtain ⟨T, x', e3, hT, e4, e5⟩ := hy i H' x H'' y
  subst e3; subst e4
  have e6 := e5 h'
  rw [hu] at e6; cases e6
  refine ⟨w'.alloc hT, Grow.new hT, T, _, rfl, .inl upd_same, .int i, [u], rfl, ?_, u, [], rfl, RepV.keep (k.trans (Grow.new hT).keep) ru, rfl⟩
  show V.int (i : Int) = V.int ((0 + i : Nat) : Int)
  rw [Nat.zero_add]
theorem i_enumU {ta : TA} {fa : MAD} (h : EvAD K ta fa) : EvI K (iEnumU K ta) (enumU fa) := fun F R H δ σ ds δ' w hf Q q => by
  obtain ⟨⟨os, δ1⟩, e1, hf⟩ := Option.bind_eq_some_iff.mp hf
  refine h F R H δ σ os δ1 w e1 _ fun vs R1 H1 w1 x1 r1 => ?_
  dsimp only at hf
  split at hf
  · cases hf
    obtain ⟨v, r, e, ⟨a, us, e2, ra, h1, rs⟩, r3⟩ := r1
    have : r = [] := r3
    subst this; subst e2
    exact ⟨a, e, .inl ⟨⟨us, .of h1⟩, q _ R1 H1 w1 x1 (it_pair (Sq := fun H' xs => SqL K H' a xs) rs (fun R' H' k => k.seqL ra (.of h1)) (fun i H' x hs hx => ⟨us, x, hs, hx⟩) (fun i H' hs hl => ⟨us, hs, hl⟩) (fun i H' v H'' ⟨T, x, e1, e2, e3, e4⟩ => ⟨T, x, e1, e2, e3, e4 us⟩))⟩⟩
  · cases hf
    obtain ⟨v, r, e, ⟨a, us, e2, h0, rs⟩, r3⟩ := r1
    have : r = [] := r3
    have h1 : SqT K H1 a us := h0.t
    subst this; subst e2
    exact ⟨a, e, .inr ⟨⟨us, h1⟩, q _ R1 H1 w1 x1 (it_pair (Sq := fun H' xs => SqT K H' a xs) rs (fun R' H' k => k.seqT h1) (fun i H' x hs hx => ⟨us, x, hs, hx⟩) (fun i H' hs hl => ⟨us, hs, hl⟩) (fun i H' v H'' ⟨T, x, e1, e2, e3, e4⟩ => ⟨T, x, e1, e2, e3, e4 us⟩))⟩⟩
  · cases hf
end
end DV

/-! DV15: range with step -1, fields, isinstance of own classes and of several, own ==. -/
namespace DV
open PySem PySem.Spec PyProof.Rows L2
section
variable {K : PySem.W.Frag} {F : Fx} {R R1 R2 R' : Reg} {H H1 H' : Hp} {δ δ1 δ' : Env} {σ σ' : L2.St}
/-! ### range down -/
def downD (i : Int) (n : Nat) : List D := (List.range n).map fun (k : Nat) => D.int (i + (k : Int) * -1)
def rng3 (fa : MA) : MI := fun δ => (fa δ).bind fun p => match p.1 with
  | [.dat (.int i), .dat (.int j), .dat (.int c)] => if (decide (-(2 ^ 62) ≤ i) && decide (i < 2 ^ 62) && (decide (-(2 ^ 62) ≤ j) && decide (j < 2 ^ 62)) && decide (c = -1)) = true then some (downD i (i - j).toNat, p.2) else none
  | _ => none
def fldG (C : Addr) (f : Str) : D → Option D
  | .ins C' ks ds => if C' = C then (ks.zip ds).lookup f else none
  | _ => none
def fldE (C : Addr) (f : Str) (fo : ME) : ME := fun δ => (fo δ).bind fun p => (deref p.2 p.1).bind fun d => (fldG C f d).bind fun x => some (.dat x, p.2)
/-- the fields with one more put -/
def putK (f : Str) (d : D) : List Str → List D → List Str × List D
  | k :: ks, x :: ds => if k = f then (k :: ks, d :: ds) else (k :: (putK f d ks ds).1, x :: (putK f d ks ds).2)
  | _, _ => ([f], [d])
def fldS (C : Addr) (f : Str) (fv : MD) (fo : ME) : MS := fun δ => (fv δ).bind fun p => (fo p.2).bind fun q => match q.1 with
  | .own i => match q.2[i]? with
    | some (.own (.ins C' ks ds)) => if (decide (C' = C) && decide (ks.length < 1000)) = true then some (.nx (q.2.set i (.own (.ins C (putK f p.1 ks ds).1 (putK f p.1 ks ds).2)))) else none
    | some (.brw (.ins C' ks ds)) => if (decide (C' = C) && decide (ks.length < 1000)) = true then some (.nx (q.2.set i (.brw (.ins C (putK f p.1 ks ds).1 (putK f p.1 ks ds).2)))) else none
    | _ => none
  | _ => none
end
end DV

/-! DV16: own classes: isinstance, ==, in. -/
namespace DVG
open PySem PySem.Spec PyProof.Rows L2
/-- what the written part says of a class of the text -/
structure Own (K : PySem.W.Frag) (C : Addr) : Prop where
  cls : Cls K C
  ca : PySem.W.findIn K (.ref C) "__class__" = some (some (.builtin "object.__class__"))
  gs : PySem.W.specialIn K (.builtin "object.__class__") "__get__" = some (some (.builtin "getset_descriptor.__get__"))
  tk : PySem.W.takesIn K (.builtin "object.__class__") = some true
  mo : PySem.W.mroIn K C (.type "object") = some true
  one : PySem.W.kitOne K (.ref C) (.ref C) = some true
section
variable {X : Cx} {CX : CXT} {k : Nat} {f C : Addr} {fd : FuncData} {ps : List Str} {sp : Sp} {E : XK}
theorem Rm.in1 {k : Nat} {A : Around} (h : Rm bb (k + 1) A) : Rm bb k A.in1 := ⟨h.r.in1, h.g⟩
end
end DVG
namespace DV
open PySem PySem.Spec PyProof.Rows L2
section
variable {K : PySem.W.Frag} {F : Fx} {R R1 R2 R' : Reg} {H H1 H' : Hp} {δ δ1 δ' : Env} {σ σ' : L2.St}
def insAt (C : Addr) : D → Bool
  | .ins C' _ _ => decide (C' = C)
  | _ => false
def boolR : Option (Ret × D) → Option Bool
  | some (.dat (.bl b), _) => some b
  | _ => none
def eqOwnG (C : Addr) (F2 : FD) (d1 d2 : D) : Option O := if (insAt C d1 && insAt C d2) = true then (boolR (F2 [d1, d2])).bind fun b => some (.dat (.bl b)) else none
def inOwnG (C : Addr) (F2 : FD) (d1 d2 : D) : Option O := if insAt C d2 = true then (boolR (F2 [d2, d1])).bind fun b => some (.dat (.bl b)) else none
/-! isinstance(x, C) -/
def isOwnG (C : Addr) : List D → Option O
  | [d, .con (.ref c)] => if (insAt C d && decide (c = C)) = true then some (.dat (.bl true)) else none
  | _ => none
/-! the end of a law whose functions on data know where the classes lie -/
def spT (K : PySem.W.Frag) (n : Nat) : Sp := fun vs H Q _ => ∃ (a : Addr) (ns : List Int), vs = [.ref a] ∧ Only H ∧ SqL K H a (ns.map V.int) ∧ ns.length ≤ n ∧ (∀ z ∈ ns, Builtin.Int.intBits z ≤ 1048576) ∧ ∀ H', Q (.bl true) H'
end
end DV

/-! DV17: rewriting rules for classes, enumerate, range down. -/
namespace DV
open PySem PySem.Spec PyProof.Rows L2
section
variable {δ δ1 : Env} {o : O} {d d1 d2 : D} {b : Bool} {i j n : Nat} {os : List O} {ds es : List D} {ks ls : List Str} {C : Addr} {f m : Str}
def eu1 (x : Option (List D × Env)) : Option (List D × Env) := x.bind fun p => match p.1 with
  | [.lst ds] => some (enumD 0 ds, p.2)
  | [.tup ds] => some (enumD 0 ds, p.2)
  | _ => none
theorem h_eu {fa : MAD} : enumU fa δ = eu1 (fa δ) := id rfl
theorem h_eu1 : eu1 (some ([.lst ds], δ)) = some (enumD 0 ds, δ) := id rfl
theorem h_eu2 : eu1 (some ([.tup ds], δ)) = some (enumD 0 ds, δ) := id rfl
def r31 (x : Option (List O × Env)) : Option (List D × Env) := x.bind fun p => match p.1 with
  | [.dat (.int i), .dat (.int j), .dat (.int c)] => if (decide (-(2 ^ 62) ≤ i) && decide (i < 2 ^ 62) && (decide (-(2 ^ 62) ≤ j) && decide (j < 2 ^ 62)) && decide (c = -1)) = true then some (downD i (i - j).toNat, p.2) else none
  | _ => none
theorem h_r3 {fa : MA} : rng3 fa δ = r31 (fa δ) := id rfl
theorem h_r31 {k l : Int} (h : -100000 ≤ k ∧ k ≤ 100000) (h2 : -100000 ≤ l ∧ l ≤ 100000) : r31 (some ([.dat (.int k), .dat (.int l), .dat (.int (-1))], δ)) = some (downD k (k - l).toNat, δ) := by
  show (if _ then _ else _) = _
  rw [decide_eq_true (show -(2 ^ 62) ≤ k by omega), decide_eq_true (show k < 2 ^ 62 by omega), decide_eq_true (show -(2 ^ 62) ≤ l by omega), decide_eq_true (show l < 2 ^ 62 by omega)]
  rfl
def fd1 (C : Addr) (f : Str) (x : Option (O × Env)) : Option (O × Env) := x.bind fun p => (deref p.2 p.1).bind fun d => (fldG C f d).bind fun x => some (.dat x, p.2)
def fd2 (C : Addr) (f : Str) (δ : Env) (x : Option D) : Option (O × Env) := x.bind fun d => (fldG C f d).bind fun x => some (.dat x, δ)
def fd3 (δ : Env) (x : Option D) : Option (O × Env) := x.bind fun x => some (.dat x, δ)
theorem h_fd {fo : ME} : fldE C f fo δ = fd1 C f (fo δ) := id rfl
theorem h_fd1 : fd1 C f (some (o, δ)) = fd2 C f δ (deref δ o) := id rfl
theorem h_fd2 : fd2 C f δ (some (.ins C ks ds)) = fd3 δ ((ks.zip ds).lookup f) := by
  show (fldG C f (.ins C ks ds)).bind _ = _
  simp only [fldG, if_true]; rfl
theorem h_fd3 : fd3 δ (some d) = some (.dat d, δ) := id rfl
def fs1 (C : Addr) (f : Str) (fo : ME) (x : Option (D × Env)) : Option Fl := x.bind fun p => (fo p.2).bind fun q => match q.1 with
  | .own i => match q.2[i]? with
    | some (.own (.ins C' ks ds)) => if (decide (C' = C) && decide (ks.length < 1000)) = true then some (.nx (q.2.set i (.own (.ins C (putK f p.1 ks ds).1 (putK f p.1 ks ds).2)))) else none
    | some (.brw (.ins C' ks ds)) => if (decide (C' = C) && decide (ks.length < 1000)) = true then some (.nx (q.2.set i (.brw (.ins C (putK f p.1 ks ds).1 (putK f p.1 ks ds).2)))) else none
    | _ => none
  | _ => none
def fs3 (C : Addr) (f : Str) (d : D) (i : Nat) (δ : Env) : Option Sl → Option Fl
  | some (.own (.ins C' ks ds)) => if (decide (C' = C) && decide (ks.length < 1000)) = true then some (.nx (δ.set i (.own (.ins C (putK f d ks ds).1 (putK f d ks ds).2)))) else none
  | some (.brw (.ins C' ks ds)) => if (decide (C' = C) && decide (ks.length < 1000)) = true then some (.nx (δ.set i (.brw (.ins C (putK f d ks ds).1 (putK f d ks ds).2)))) else none
  | _ => none
def fs2 (C : Addr) (f : Str) (d : D) (x : Option (O × Env)) : Option Fl := x.bind fun q => match q.1 with
  | .own i => fs3 C f d i q.2 q.2[i]?
  | _ => none
theorem h_fs {fv : MD} {fo : ME} : fldS C f fv fo δ = fs1 C f fo (fv δ) := id rfl
theorem h_fs1 {fo : ME} : fs1 C f fo (some (d, δ)) = fs2 C f d (fo δ) := id rfl
theorem h_fs2 : fs2 C f d (some (.own i, δ)) = fs3 C f d i δ δ[i]? := id rfl
theorem h_fs3 (h : ks.length < 1000) : fs3 C f d i δ (some (.brw (.ins C ks ds))) = some (.nx (δ.set i (.brw (.ins C (putK f d ks ds).1 (putK f d ks ds).2)))) := by
  show (if _ then _ else _) = _
  rw [if_pos (by simp [h])]
def mk1 (C : Addr) (n : Nat) (f : FD) (dds : List D) (x : Option (List D × Env)) : Option (O × Env) := x.bind fun p => if (decide ((p.1 ++ dds).length + 1 = n)) = true then (f (.ins C [] [] :: (p.1 ++ dds))).bind fun q => match q.1 with
  | .dat .non => some (.fre q.2, p.2)
  | _ => none
  else none
def mk2 (δ : Env) (x : Option (Ret × D)) : Option (O × Env) := x.bind fun q => match q.1 with
  | .dat .non => some (.fre q.2, δ)
  | _ => none
theorem h_mk {g : FD} {fa : MAD} : makeE C n g es fa δ = mk1 C n g es (fa δ) := id rfl
theorem h_mk1 {g : FD} (h : ds.length + 1 = n) : mk1 C n g [] (some (ds, δ)) = mk2 δ (g (.ins C [] [] :: ds)) := by
  show (if _ then _ else _) = _
  rw [if_pos (by rw [List.append_nil]; exact decide_eq_true h), List.append_nil]
  rfl
theorem h_mk2 : mk2 δ (some (.dat .non, d)) = some (.fre d, δ) := id rfl
def me1 (C : Addr) (m : Str) (call : List O → Env → Option (O × Env)) (dds : List D) (fa : MA) (x : Option (O × Env)) : Option (O × Env) := x.bind fun p => (deref p.2 p.1).bind fun d => if insB C m d = true then
  (fa p.2).bind fun q => call (p.1 :: (q.1 ++ dds.map .dat)) q.2 else none
def me2 (C : Addr) (m : Str) (call : List O → Env → Option (O × Env)) (dds : List D) (fa : MA) (o : O) (δ : Env) (x : Option D) : Option (O × Env) := x.bind fun d => if insB C m d = true then
  (fa δ).bind fun q => call (o :: (q.1 ++ dds.map .dat)) q.2 else none
def me3 (call : List O → Env → Option (O × Env)) (o : O) (x : Option (List O × Env)) : Option (O × Env) := x.bind fun q => call (o :: (q.1 ++ ([] : List D).map .dat)) q.2
theorem h_me {call : List O → Env → Option (O × Env)} {fo : ME} {fa : MA} : methE C m call es fo fa δ = me1 C m call es fa (fo δ) := id rfl
theorem h_me1 {call : List O → Env → Option (O × Env)} {fa : MA} : me1 C m call es fa (some (o, δ)) = me2 C m call es fa o δ (deref δ o) := id rfl
theorem h_me2 {call : List O → Env → Option (O × Env)} {fa : MA} (h : insB C m d = true) : me2 C m call [] fa o δ (some d) = me3 call o (fa δ) := if_pos h
theorem h_me3 {call : List O → Env → Option (O × Env)} : me3 call o (some (os, δ)) = call (o :: os) δ := by
  show call (o :: (os ++ [])) δ = _
  rw [List.append_nil]
theorem h_io : isOwnG C [.ins C ks ds, .con (.ref C)] = some (.dat (.bl true)) := by
  unfold isOwnG
  simp [insAt]
def eo1 (x : Option (Ret × D)) : Option O := (boolR x).bind fun b => some (.dat (.bl b))
theorem h_eo {g : FD} : eqOwnG C g (.ins C ks ds) (.ins C ls es) = eo1 (g [.ins C ks ds, .ins C ls es]) := by
  unfold eqOwnG
  rw [if_pos (by simp [insAt])]; rfl
theorem h_no {g : FD} : inOwnG C g d (.ins C ls es) = eo1 (g [.ins C ls es, d]) := by
  unfold inOwnG
  rw [if_pos (by simp [insAt])]; rfl
theorem h_eo1 : eo1 (some (.dat (.bl b), d)) = some (.dat (.bl b)) := id rfl
end
theorem g_eqTs (xs ys : List Int) : eqG (.tup (xs.map .int)) (.tup (ys.map .int)) = some (.dat (.bl (decide (xs = ys)))) := by unfold eqG; rw [eqB_tints]; rfl
end DV

/-! DVK: calls with keywords in any order, keyword-only defaults that lack. -/
namespace DV
open PySem PySem.Spec PyProof.Rows L2
def pick {α : Type} (idx : List Nat) (xs : List α) : List α := idx.filterMap fun i => xs[i]?
theorem pick_vals : ∀ (idx : List Nat) {vs : List V} {us : List Value}, Vals vs us → Vals (pick idx vs) (pick idx us)
  | [], _, _, _ => .nil
  | i :: idx, vs, us, r => by
    have ih := pick_vals idx r
    unfold pick at ih ⊢
    rw [List.filterMap_cons, List.filterMap_cons]
    cases e : vs[i]? with
    | none =>
      have e2 : us[i]? = none := by
        rw [List.getElem?_eq_none_iff] at e ⊢
        rw [← r.length]; exact e
      rw [e2]
      exact ih
    | some v =>
      obtain ⟨u, hu, ru⟩ := r.get e
      rw [hu]
      exact .cons ru ih
section
variable {K : PySem.W.Frag} {F : Fx} {R R1 R2 R' : Reg} {H H1 H' : Hp} {δ δ1 δ' : Env} {σ σ' : L2.St}
end
/-- how a call with n values by place and the keywords ks binds; ms: what lacks -/
def KwP (K : PySem.W.Frag) (fd : FuncData) (ps : List Str) (n : Nat) (ks : List Str) (idx : List Nat) (ms : List V) : Prop := ∃ g : List Value → List Value → List Value, KBn K fd ps n ks g fun vs zs => pick idx (vs ++ (ms ++ zs))
/-- the same where no parameter has a default -/
theorem kwP0 {K : PySem.W.Frag} {x qual : Str} {st : Stmt} {f : Addr} {fd : FuncData} {ps : List Str} (F : L2.Fun K x qual st f fd) (n : Nat) (ks : List Str) (idx : List Nat)
    (h : ∀ (kV doc pm : Value) (an : Option Addr) (cdv ct : Value) (us ws : List Value), us.length = n → ws.length = ks.length →
      bindArgs (PySem.W.fnOf x qual (defArgs st) (defBody st) (defScope st) .none kV doc pm an cdv ct) ⟨us, ks.zip ws⟩ = pure (ps.zip (pick idx (us ++ ws)))) : KwP K fd ps n ks idx [] := by
  obtain ⟨_, _, kV, doc, pm, an, cdv, ct, _, e, _, _⟩ := F.ex
  subst e
  exact ⟨fun us ws => pick idx (us ++ ([] ++ ws)), ⟨fun s us ws _ l1 l2 => BindsTo.of_eq (h kV doc pm an cdv ct us ws l1 l2), fun {vs us zs ws} r1 r2 => pick_vals idx (r1.append (show Vals ([] ++ zs) ([] ++ ws) from r2))⟩⟩
end DV
namespace DVG
open PySem PySem.Spec PyProof.Rows L2
section
variable {X : Cx} {CX : CXT} {k n : Nat} {f : Addr} {fd : FuncData} {ps ks : List Str} {sp : Sp} {E : XK} {x : Str} {p pos : Pos} {e : Expr} {es : List Expr} {kws : List Keyword} {t tk : TA} {idx : List Nat} {ms : List V}
end
end DVG
namespace DV
open PySem PySem.Spec PyProof.Rows L2
section
variable {K : PySem.W.Frag} {F : Fx} {R R1 R2 R' : Reg} {H H1 H' : Hp} {δ δ1 δ' : Env} {σ σ' : L2.St}
def callNE (call : List O → Env → Option (O × Env)) (idx : List Nat) (n m : Nat) (dms : List D) (fa fk : MA) : ME := fun δ => (fa δ).bind fun p => (fk p.2).bind fun q => if (decide (p.1.length = n) && decide (q.1.length = m)) = true then call (pick idx (p.1 ++ (dms.map .dat ++ q.1))) q.2 else none
end
end DV

/-! DVN: a != b by an own __eq__. -/
namespace DVG
open PySem PySem.Spec PyProof.Rows L2
section
variable {prog : Program} {w : World} {A : Around} {E : Value → Shared → Prop} {s : Shared} {K : PySem.W.Frag} {x y C f : Addr} {ox oy : Obj} {od od' : Option Obj}
end
section
variable {X : Cx} {CX : CXT} {k : Nat} {f C : Addr} {fd : FuncData} {ps : List Str} {sp : Sp} {E : XK}
end
end DVG
namespace DV
open PySem PySem.Spec PyProof.Rows L2
section
variable {K : PySem.W.Frag}
def neOwnG (C : Addr) (F2 : FD) (d1 d2 : D) : Option O := if (insAt C d1 && insAt C d2) = true then (boolR (F2 [d1, d2])).bind fun b => some (.dat (.bl (!b))) else none
end
end DV

/-! DV18: rewriting rules for keyword calls and for !=. -/
namespace DV
open PySem PySem.Spec PyProof.Rows L2
section
variable {δ δ1 : Env} {o : O} {d : D} {b : Bool} {i n m : Nat} {os zs : List O} {ds es : List D} {ks ls : List Str} {C : Addr} {idx : List Nat} {call : List O → Env → Option (O × Env)}
def apd (ds : List D) (zs : List O) : List O := ds.map .dat ++ zs
def apo (os zs : List O) : List O := os ++ zs
theorem h_apd0 : apd [] zs = zs := id rfl
theorem h_apd1 : apd (d :: ds) zs = .dat d :: apd ds zs := id rfl
theorem h_apo0 : apo [] zs = zs := id rfl
theorem h_apo1 : apo (o :: os) zs = o :: apo os zs := id rfl
def cn1 (call : List O → Env → Option (O × Env)) (idx : List Nat) (n m : Nat) (dms : List D) (fk : MA) (x : Option (List O × Env)) : Option (O × Env) := x.bind fun p => (fk p.2).bind fun q => if (decide (p.1.length = n) && decide (q.1.length = m)) = true then call (pick idx (p.1 ++ (dms.map .dat ++ q.1))) q.2 else none
def cn2 (call : List O → Env → Option (O × Env)) (idx : List Nat) (n m : Nat) (dms : List D) (os : List O) (x : Option (List O × Env)) : Option (O × Env) := x.bind fun q => if (decide (os.length = n) && decide (q.1.length = m)) = true then call (pick idx (os ++ (dms.map .dat ++ q.1))) q.2 else none
theorem h_cn {fa fk : MA} : callNE call idx n m ds fa fk δ = cn1 call idx n m ds fk (fa δ) := id rfl
theorem h_cn1 {fk : MA} : cn1 call idx n m ds fk (some (os, δ)) = cn2 call idx n m ds os (fk δ) := id rfl
theorem h_cn2 (h : os.length = n) (h2 : zs.length = m) : cn2 call idx n m ds os (some (zs, δ)) = call (pick idx (apo os (apd ds zs))) δ := by
  show (if _ then _ else _) = _
  rw [if_pos (by simp [h, h2])]
  rfl
def pk1 {α : Type} (x : Option α) (l : List α) : List α := match x with
  | some y => y :: l
  | none => l
theorem h_pk0 {α : Type} {xs : List α} : pick [] xs = [] := id rfl
theorem h_pk1 {α : Type} {xs : List α} : pick (i :: idx) xs = pk1 xs[i]? (pick idx xs) := by
  unfold pick pk1
  rw [List.filterMap_cons]
  cases xs[i]? <;> rfl
theorem h_pk2 {α : Type} {x : α} {l : List α} : pk1 (some x) l = x :: l := id rfl
def no1 (x : Option (Ret × D)) : Option O := (boolR x).bind fun b => some (.dat (.bl (!b)))
theorem h_nw {g : FD} : neOwnG C g (.ins C ks ds) (.ins C ls es) = no1 (g [.ins C ks ds, .ins C ls es]) := by
  unfold neOwnG
  rw [if_pos (by simp [insAt])]; rfl
theorem h_nw1 : no1 (some (.dat (.bl b), d)) = some (.dat (.bl (!b))) := id rfl
end
end DV

/-! DVZ: zip of two lists or two tuples. -/
namespace DV
open PySem PySem.Spec PyProof.Rows L2
section
variable {K : PySem.W.Frag}
def zipD : List D → List D → List D
  | d :: ds, e :: es => .tup [d, e] :: zipD ds es
  | _, _ => []
def zipU (fa : MAD) : MI := fun δ => (fa δ).bind fun p => match p.1 with
  | [.lst ds, .lst es] => some (zipD ds es, p.2)
  | [.tup ds, .tup es] => some (zipD ds es, p.2)
  | _ => none
end
end DV

/-! DVO: a + b by an own __add__; a[b] by an own __getitem__, on data. -/
namespace DVG
open PySem PySem.Spec PyProof.Rows L2
section
variable {X : Cx} {CX : CXT} {k : Nat} {f C : Addr} {fd : FuncData} {ps : List Str} {sp : Sp} {E : XK}
end
end DVG
namespace DV
open PySem PySem.Spec PyProof.Rows L2
section
variable {K : PySem.W.Frag}
def addOwnE (C : Addr) (F2 : FD) (fa fb : ME) : ME := fun δ => (fa δ).bind fun p => (fb p.2).bind fun q => (deref q.2 p.1).bind fun d1 => (deref q.2 q.1).bind fun d2 =>
  if (insAt C d1 && insAt C d2) = true then callX none 2 F2 [p.1, q.1] q.2 else none
def ixOwnE (C : Addr) (F2 : FD) (fa fb : ME) : ME := fun δ => (fa δ).bind fun p => (fb p.2).bind fun q => (deref q.2 p.1).bind fun d1 =>
  if insAt C d1 = true then callX none 2 F2 [p.1, q.1] q.2 else none
end
end DV

/-! DVP: loops and comprehensions by invariants. -/
namespace DV
open PySem PySem.Spec PyProof.Rows L2
/-- x ends, with Q -/
def Ends {α : Type} (x : Option α) (Q : α → Prop) : Prop := ∃ a, x = some a ∧ Q a
theorem ends_some {α : Type} {a : α} {Q : α → Prop} : Ends (some a) Q = Q a := by
  unfold Ends
  apply propext
  constructor
  · rintro ⟨b, h, q⟩
    cases h; exact q
  · exact fun q => ⟨a, rfl, q⟩
theorem Ends.mono {α : Type} {x : Option α} {Q Q' : α → Prop} (h : Ends x Q) (f : ∀ a, Q a → Q' a) : Ends x Q' := h.imp fun a p => ⟨p.1, f a p.2⟩
theorem Ends.eq {α : Type} {x : Option α} {a : α} (h : Ends x fun b => b = a) : x = some a := by
  obtain ⟨b, h1, h2⟩ := h
  rw [h1, h2]
section
variable {g : MG} {b : MS} {c : MT} {t : MT} {e : MD} {δ δ1 : Env} {ds : List D} {d : D} {vs : List Nat} {n : Nat}
/-! ### one turn -/
def turn (g : MG) (b : MS) (d : D) (δ : Env) : Option Fl := (g d δ).bind b
def turn1 (b : MS) (x : Option Env) : Option Fl := x.bind b
theorem e_tu : turn g b d δ = turn1 b (g d δ) := id rfl
theorem e_tu1 : turn1 b (some δ) = b δ := id rfl
/-- what a turn must show: I at the next turn, or Q of the loop's end -/
def After (I : Env → Prop) (Q : Fl → Prop) : Fl → Prop
  | .nx δ => I δ
  | .ct δ => I δ
  | .bk δ => Q (.nx δ)
  | .rt o δ => Q (.rt o δ)
theorem e_af1 {I : Env → Prop} {Q : Fl → Prop} : After I Q (.nx δ) = I δ := id rfl
theorem e_af2 {I : Env → Prop} {Q : Fl → Prop} : After I Q (.ct δ) = I δ := id rfl
theorem e_af3 {I : Env → Prop} {Q : Fl → Prop} : After I Q (.bk δ) = Q (.nx δ) := id rfl
theorem e_af4 {I : Env → Prop} {Q : Fl → Prop} {o : O} : After I Q (.rt o δ) = Q (.rt o δ) := id rfl
theorem loop_raw {g : MG} {b : MS} (I : Nat → Env → Prop) (Q : Fl → Prop) : ∀ (rest : List D) (k : Nat) (δ : Env), I k δ →
    (∀ i d δ, rest[i]? = some d → I (k + i) δ → Ends (turn g b d δ) (After (I (k + i + 1)) Q)) → (∀ δ, I (k + rest.length) δ → Q (.nx δ)) → Ends (loopL g b rest δ) Q
  | [], k, δ, h, _, he => ⟨.nx δ, rfl, he δ h⟩
  | d :: rest, k, δ, h, hs, he => by
    obtain ⟨fl, h1, h2⟩ := hs 0 d δ rfl h
    have go : ∀ δ', I (k + 1) δ' → Ends (loopL g b rest δ') Q := fun δ' h' => by
      refine loop_raw I Q rest (k + 1) δ' h' (fun i d δ hi hI => ?_) (fun δ hI => he δ ?_)
      · have := hs (i + 1) d δ (by simpa using hi) (by rw [show k + (i + 1) = k + 1 + i by omega]; exact hI)
        rw [show k + (i + 1) + 1 = k + 1 + i + 1 by omega] at this
        exact this
      · rw [List.length_cons, show k + (rest.length + 1) = k + 1 + rest.length by omega]; exact hI
    unfold turn at h1
    obtain ⟨δ1, g1, g2⟩ := Option.bind_eq_some_iff.mp h1
    rw [e_lpc, g1, e_lp1, g2]
    cases fl with
    | nx δ' => exact go δ' h2
    | ct δ' => exact go δ' h2
    | bk δ' => exact ⟨_, rfl, h2⟩
    | rt o δ' => exact ⟨_, rfl, h2⟩
/-- a for loop by an invariant over what is gone through -/
theorem loop_inv {α : Type} (enc : α → D) (xs : List α) (I : Nat → Env → Prop) (Q : Fl → Prop) (δ : Env) (h0 : I 0 δ)
    (hs : ∀ i x δ, xs[i]? = some x → I i δ → Ends (turn g b (enc x) δ) (After (I (i + 1)) Q)) (he : ∀ δ, I xs.length δ → Q (.nx δ)) : Ends (loopL g b (xs.map enc) δ) Q := by
  refine loop_raw I Q (xs.map enc) 0 δ h0 (fun i d δ hi hI => ?_) (fun δ hI => he δ ?_)
  · rw [List.getElem?_map] at hi
    cases hx : xs[i]? with
    | none => rw [hx] at hi; cases hi
    | some x =>
      rw [hx] at hi; cases hi
      rw [Nat.zero_add] at hI ⊢
      exact hs i x δ hx hI
  · rw [Nat.zero_add, List.length_map] at hI; exact hI
theorem loop_range (lo : Int) (m : Nat) (I : Nat → Env → Prop) (Q : Fl → Prop) (δ : Env) (h0 : I 0 δ)
    (hs : ∀ i δ, i < m → I i δ → Ends (turn g b (.int (lo + (i : Int))) δ) (After (I (i + 1)) Q)) (he : ∀ δ, I m δ → Q (.nx δ)) : Ends (loopL g b (rangeD lo m) δ) Q := by
  refine loop_inv (fun (i : Nat) => D.int (lo + (i : Int))) (List.range m) I Q δ h0 (fun i x δ hi hI => ?_) (fun δ hI => he δ (by rw [List.length_range] at hI; exact hI))
  obtain ⟨h1, h2⟩ := List.getElem?_eq_some_iff.mp hi
  rw [List.length_range] at h1
  rw [List.getElem_range] at h2
  subst h2
  exact hs i δ h1 hI
/-- the same over any list of data -/
theorem loop_any (ds : List D) (I : Nat → Env → Prop) (Q : Fl → Prop) (δ : Env) (h0 : I 0 δ)
    (hs : ∀ i d δ, ds[i]? = some d → I i δ → Ends (turn g b d δ) (After (I (i + 1)) Q)) (he : ∀ δ, I ds.length δ → Q (.nx δ)) : Ends (loopL g b ds δ) Q := by
  refine loop_raw I Q ds 0 δ h0 (fun i d δ hi hI => ?_) (fun δ hI => he δ (by rw [Nat.zero_add] at hI; exact hI))
  rw [Nat.zero_add] at hI ⊢
  exact hs i d δ hi hI
/-- an enumerate loop -/
theorem loop_enum {α : Type} (enc : α → D) (xs : List α) (I : Nat → Env → Prop) (Q : Fl → Prop) (δ : Env) (h0 : I 0 δ)
    (hs : ∀ i x δ, xs[i]? = some x → I i δ → Ends (turn g b (.tup [.int (i : Int), enc x]) δ) (After (I (i + 1)) Q)) (he : ∀ δ, I xs.length δ → Q (.nx δ)) : Ends (loopL g b (enumD 0 (xs.map enc)) δ) Q := by
  refine loop_any _ I Q δ h0 (fun i d δ hi hI => ?_) (fun δ hI => he δ (by rw [enumD_len, List.length_map] at hI; exact hI))
  obtain ⟨d', h1, h2⟩ := enumD_get hi
  rw [List.getElem?_map] at h1
  cases hx : xs[i]? with
  | none => rw [hx] at h1; cases h1
  | some x =>
    rw [hx] at h1; cases h1
    rw [Nat.zero_add] at h2
    subst h2
    exact hs i x δ hx hI
/-- what the test of a while and its body must show -/
def While (I : Env → Prop) (b : MS) (Q : Fl → Prop) (p : Bool × Env) : Prop := if p.1 = true then Ends (b p.2) (After I Q) else Q (.nx p.2)
theorem e_wl1 {I : Env → Prop} {Q : Fl → Prop} : While I b Q (true, δ) = Ends (b δ) (After I Q) := if_pos rfl
theorem e_wl2 {I : Env → Prop} {Q : Fl → Prop} : While I b Q (false, δ) = Q (.nx δ) := if_neg Bool.false_ne_true
/-! ### comprehensions -/
/-- one turn of a comprehension: what is put to the list, if anything -/
def lct (g : MG) (t : MT) (e : MD) (vs : List Nat) (d : D) (δ : Env) : Option (Option D × Env) := (g d δ).bind fun δ2 => (t δ2).bind fun p => if p.1 = true then (e p.2).bind fun q => some (some q.1, wipeE q.2 vs) else some (none, wipeE p.2 vs)
def lct1 (t : MT) (e : MD) (vs : List Nat) (x : Option Env) : Option (Option D × Env) := x.bind fun δ2 => (t δ2).bind fun p => if p.1 = true then (e p.2).bind fun q => some (some q.1, wipeE q.2 vs) else some (none, wipeE p.2 vs)
def lct2 (e : MD) (vs : List Nat) (x : Option (Bool × Env)) : Option (Option D × Env) := x.bind fun p => if p.1 = true then (e p.2).bind fun q => some (some q.1, wipeE q.2 vs) else some (none, wipeE p.2 vs)
def lct3 (vs : List Nat) (x : Option (D × Env)) : Option (Option D × Env) := x.bind fun q => some (some q.1, wipeE q.2 vs)
theorem e_lct : lct g t e vs d δ = lct1 t e vs (g d δ) := id rfl
theorem e_lct1 : lct1 t e vs (some δ) = lct2 e vs (t δ) := id rfl
theorem e_lct2 : lct2 e vs (some (true, δ)) = lct3 vs (e δ) := id rfl
theorem e_lct3 : lct2 e vs (some (false, δ)) = some (none, wipeE δ vs) := id rfl
theorem e_lct4 : lct3 vs (some (d, δ)) = some (some d, wipeE δ vs) := id rfl
theorem lcL_turn {acc : List D} {o : Option D} (h : lct g t e vs d δ = some (o, δ1)) (hl : acc.length < 100000) : lcL g t e vs (d :: ds) acc δ = lcL g t e vs ds (acc ++ o.toList) δ1 := by
  unfold lct at h
  obtain ⟨δ2, h1, h⟩ := Option.bind_eq_some_iff.mp h
  obtain ⟨⟨z, δ3⟩, h2, h⟩ := Option.bind_eq_some_iff.mp h
  rw [e_lcl, h1, e_lcn1, h2]
  cases z with
  | false =>
    simp only [Bool.false_eq_true, if_false] at h
    cases h
    rw [e_lcn3]; simp
  | true =>
    simp only [if_true] at h
    obtain ⟨⟨d', δ4⟩, h3, h⟩ := Option.bind_eq_some_iff.mp h
    cases h
    rw [e_lcn2, h3, e_lcn4 (by omega)]; rfl
/-- a comprehension whose parts change nothing -/
theorem lc_pure {α : Type} (enc : α → D) (h : α → Option D) : ∀ (xs : List α) (acc : List D) (δ : Env), acc.length + xs.length ≤ 100000 → (∀ x ∈ xs, lct g t e vs (enc x) δ = some (h x, δ)) →
    lcL g t e vs (xs.map enc) acc δ = some (acc ++ xs.filterMap h, δ)
  | [], acc, δ, _, _ => by simp [lcL]
  | x :: xs, acc, δ, hl, hs => by
    rw [List.length_cons] at hl
    rw [List.map_cons, lcL_turn (hs x (List.mem_cons_self ..)) (by omega)]
    rw [lc_pure enc h xs _ δ (by rw [List.length_append]; cases h x <;> simp <;> omega) (fun y hy => hs y (List.mem_cons_of_mem _ hy)), List.filterMap_cons]
    cases h x <;> simp
theorem lc_map {α : Type} (enc : α → D) (h : α → D) (xs : List α) (δ : Env) (hl : xs.length ≤ 100000) (hs : ∀ x ∈ xs, lct g t e vs (enc x) δ = some (some (h x), δ)) :
    lcL g t e vs (xs.map enc) [] δ = some (xs.map h, δ) := by
  rw [lc_pure enc (fun x => some (h x)) xs [] δ (by simpa using hl) hs]
  simp
end
end DV

/-! DVQ: recursion; list(range(..)). -/
namespace DVG
open PySem PySem.Spec PyProof.Rows L2
section
variable {X : Cx} {CX : CXT} {k : Nat} {f C : Addr} {fd : FuncData} {ps : List Str} {sp : Sp} {E : XK}
end
end DVG
namespace DVG
open PySem PySem.Spec PyProof.Rows L2 PySem.W
/-! max and min of a tuple of ints -/
theorem readsAll_ints {h : Heap} : ∀ {ns : List Int} {its : List Value}, Vals (ns.map V.int) its → ReadsAll h its (ns.map PyData.int) []
  | [], _, r => by cases r; exact .nil
  | n :: ns, _, r => by
    cases r with
    | cons r1 r2 =>
      obtain ⟨t, rfl⟩ := r1
      exact .cons (.int n t) (readsAll_ints r2)
theorem fmax_spec : ∀ (l : List Int) (n : Int), l.foldl max n ∈ n :: l ∧ ∀ y ∈ n :: l, y ≤ l.foldl max n
  | [], n => by simp
  | k :: l, n => by
    obtain ⟨h1, h2⟩ := fmax_spec l (max n k)
    rw [List.foldl_cons]
    have hle := h2 _ (List.mem_cons_self ..)
    constructor
    · rcases List.mem_cons.mp h1 with e | e
      · rw [e]
        by_cases q : n ≤ k
        · rw [Int.max_eq_right q]; simp
        · rw [Int.max_eq_left (by omega)]; simp
      · exact List.mem_cons_of_mem _ (List.mem_cons_of_mem _ e)
    · intro y hy
      rcases List.mem_cons.mp hy with rfl | hy
      · omega
      · rcases List.mem_cons.mp hy with rfl | hy
        · omega
        · exact h2 y (List.mem_cons_of_mem _ hy)
theorem fmin_spec : ∀ (l : List Int) (n : Int), l.foldl min n ∈ n :: l ∧ ∀ y ∈ n :: l, l.foldl min n ≤ y
  | [], n => by simp
  | k :: l, n => by
    obtain ⟨h1, h2⟩ := fmin_spec l (min n k)
    rw [List.foldl_cons]
    have hle := h2 _ (List.mem_cons_self ..)
    constructor
    · rcases List.mem_cons.mp h1 with e | e
      · rw [e]
        by_cases q : n ≤ k
        · rw [Int.min_eq_left q]; simp
        · rw [Int.min_eq_right (by omega)]; simp
      · exact List.mem_cons_of_mem _ (List.mem_cons_of_mem _ e)
    · intro y hy
      rcases List.mem_cons.mp hy with rfl | hy
      · omega
      · rcases List.mem_cons.mp hy with rfl | hy
        · omega
        · exact h2 y (List.mem_cons_of_mem _ hy)
theorem alike_ints (ns : List Int) : AlikeAll (ns.map PyData.int) := by
  refine ⟨fun x hx y hy => ?_, fun x hx => ?_⟩
  · obtain ⟨i, _, rfl⟩ := List.mem_map.mp hx
    obtain ⟨j, _, rfl⟩ := List.mem_map.mp hy
    rfl
  · obtain ⟨i, _, rfl⟩ := List.mem_map.mp hx
    exact fun q => by cases q
theorem depth_ints : ∀ ns : List Int, PyData.depthAll (ns.map PyData.int) = 0
  | [] => rfl
  | n :: ns => by rw [List.map_cons, PyData.depthAll, depth_ints ns]; rfl
section
variable {X : Cx}
def rMaxT (K : PySem.W.Frag) : List V → Hp → VK → Prop := fun vs H Q => ∃ (a : Addr) (ns : List Int), vs = [V.ref a] ∧ SqT K H a (ns.map V.int) ∧ 0 < ns.length ∧ ∀ m, m ∈ ns → (∀ y, y ∈ ns → y ≤ m) → Q (.int m) H
def rMinT (K : PySem.W.Frag) : List V → Hp → VK → Prop := fun vs H Q => ∃ (a : Addr) (ns : List Int), vs = [V.ref a] ∧ SqT K H a (ns.map V.int) ∧ 0 < ns.length ∧ ∀ m, m ∈ ns → (∀ y, y ∈ ns → m ≤ y) → Q (.int m) H
theorem cr_maxT (hc : X.calm = true) (hu : X.A.units + 64 < cLine) : CallR X (.builtin "max") (rMaxT X.K) := by
  intro pins s σ H vs us Q I r h
  obtain ⟨a, ns, rfl, hs, hne, q⟩ := h
  obtain ⟨its, rv, pl, _⟩ := I.tuple hs
  rw [Vals.ref1 r]
  cases ns with
  | nil => simp at hne
  | cons n l =>
    have hr : ReadsAll s.heap its.toArray.toList (PyData.int n :: l.map PyData.int) [] := readsAll_ints (ns := n :: l) rv
    have hd : PyData.depthAll (PyData.int n :: l.map PyData.int) = 0 := depth_ints (n :: l)
    refine max_tuple_data (I.ok.hd hc) pl hr (alike_ints (n :: l)) (by rw [hd]; omega) fun i v h' tk bs _ hR hk => ?_
    rw [maxD_ints] at hR
    cases hR
    obtain ⟨h1, h2⟩ := fmax_spec l n
    exact ⟨.int _, H, I.kept hk, ⟨_, rfl⟩, q _ h1 h2⟩
theorem cr_minT (hc : X.calm = true) (hu : X.A.units + 64 < cLine) : CallR X (.builtin "min") (rMinT X.K) := by
  intro pins s σ H vs us Q I r h
  obtain ⟨a, ns, rfl, hs, hne, q⟩ := h
  obtain ⟨its, rv, pl, _⟩ := I.tuple hs
  rw [Vals.ref1 r]
  cases ns with
  | nil => simp at hne
  | cons n l =>
    have hr : ReadsAll s.heap its.toArray.toList (PyData.int n :: l.map PyData.int) [] := readsAll_ints (ns := n :: l) rv
    have hd : PyData.depthAll (PyData.int n :: l.map PyData.int) = 0 := depth_ints (n :: l)
    refine min_tuple_data (I.ok.hd hc) pl hr (alike_ints (n :: l)) (by rw [hd]; omega) fun i v h' tk bs _ hR hk => ?_
    rw [minD_ints] at hR
    cases hR
    obtain ⟨h1, h2⟩ := fmin_spec l n
    exact ⟨.int _, H, I.kept hk, ⟨_, rfl⟩, q _ h1 h2⟩
end
end DVG
namespace DV
open PySem PySem.Spec PyProof.Rows L2
section
variable {K : PySem.W.Frag}
def rgB (a b : Int) : Bool := decide (-1000000 ≤ a) && decide (a ≤ 1000000) && decide (-1000000 ≤ b) && decide (b ≤ 1000000)
def rgL1 (x : Option (O × Env)) : Option (O × Env) := x.bind fun p => match p.1 with
  | .dat (.int b) => if rgB 0 b = true then some (.fre (.lst (rangeD 0 b.toNat)), p.2) else none
  | _ => none
def rgL2 (fb : ME) (x : Option (O × Env)) : Option (O × Env) := x.bind fun p => (fb p.2).bind fun q => match p.1, q.1 with
  | .dat (.int a), .dat (.int b) => if rgB a b = true then some (.fre (.lst (rangeD a (b - a).toNat)), q.2) else none
  | _, _ => none
def rgL3 (o : O) (x : Option (O × Env)) : Option (O × Env) := x.bind fun q => match o, q.1 with
  | .dat (.int a), .dat (.int b) => if rgB a b = true then some (.fre (.lst (rangeD a (b - a).toNat)), q.2) else none
  | _, _ => none
def lrg1 (fa : ME) : ME := fun δ => rgL1 (fa δ)
def lrg2 (fa fb : ME) : ME := fun δ => rgL2 fb (fa δ)
def notInOwnG (C : Addr) (F2 : FD) (d1 d2 : D) : Option O := if insAt C d2 = true then (boolR (F2 [d2, d1])).bind fun b => some (.dat (.bl (!b))) else none
variable {δ : Env} {o : O} {b : Bool} {d : D} {C : Addr} {ls : List Str} {es : List D}
def no2 (x : Option (Ret × D)) : Option O := (boolR x).bind fun b => some (.dat (.bl (!b)))
theorem e_ni {g : FD} : notInOwnG C g d (.ins C ls es) = no2 (g [.ins C ls es, d]) := by
  unfold notInOwnG
  rw [if_pos (by simp [insAt])]; rfl
theorem e_ni1 : no2 (some (.dat (.bl b), d)) = some (.dat (.bl (!b))) := id rfl
theorem e_lg1 {fa : ME} : lrg1 fa δ = rgL1 (fa δ) := id rfl
theorem e_lg2 {fa fb : ME} : lrg2 fa fb δ = rgL2 fb (fa δ) := id rfl
theorem e_lg3 {fb : ME} : rgL2 fb (some (o, δ)) = rgL3 o (fb δ) := id rfl
theorem e_lg4 {a b : Int} (h : -1000000 ≤ a ∧ a ≤ 1000000) (h2 : -1000000 ≤ b ∧ b ≤ 1000000) : rgL3 (.dat (.int a)) (some (.dat (.int b), δ)) = some (.fre (.lst (rangeD a (b - a).toNat)), δ) := by
  show (if _ then _ else _) = _
  rw [if_pos (by unfold rgB; simp only [Bool.and_eq_true, decide_eq_true_eq]; omega)]
theorem e_lg5 {b : Int} (h2 : -1000000 ≤ b ∧ b ≤ 1000000) : rgL1 (some (.dat (.int b), δ)) = some (.fre (.lst (rangeD 0 b.toNat)), δ) := by
  show (if _ then _ else _) = _
  rw [if_pos (by unfold rgB; simp only [Bool.and_eq_true, decide_eq_true_eq]; omega)]
/-! own [], own +, zip -/
variable {o1 : O} {ks : List Str} {ds : List D} {F2 : FD}
def ixw1 (C : Addr) (F2 : FD) (fb : ME) (x : Option (O × Env)) : Option (O × Env) := x.bind fun p => (fb p.2).bind fun q => (deref q.2 p.1).bind fun d1 => if insAt C d1 = true then callX none 2 F2 [p.1, q.1] q.2 else none
def ixw2 (C : Addr) (F2 : FD) (o : O) (x : Option (O × Env)) : Option (O × Env) := x.bind fun q => (deref q.2 o).bind fun d1 => if insAt C d1 = true then callX none 2 F2 [o, q.1] q.2 else none
def ixw3 (C : Addr) (F2 : FD) (o o2 : O) (δ : Env) (x : Option D) : Option (O × Env) := x.bind fun d1 => if insAt C d1 = true then callX none 2 F2 [o, o2] δ else none
theorem e_ixw {fa fb : ME} : ixOwnE C F2 fa fb δ = ixw1 C F2 fb (fa δ) := id rfl
theorem e_ixw1 {fb : ME} : ixw1 C F2 fb (some (o, δ)) = ixw2 C F2 o (fb δ) := id rfl
theorem e_ixw2 : ixw2 C F2 o1 (some (o, δ)) = ixw3 C F2 o1 o δ (deref δ o1) := id rfl
theorem e_ixw3 : ixw3 C F2 o1 o δ (some (.ins C ks ds)) = callX none 2 F2 [o1, o] δ := by
  show (if _ then _ else _) = _
  rw [if_pos (by simp [insAt])]
def aow1 (C : Addr) (F2 : FD) (fb : ME) (x : Option (O × Env)) : Option (O × Env) := x.bind fun p => (fb p.2).bind fun q => (deref q.2 p.1).bind fun d1 => (deref q.2 q.1).bind fun d2 =>
  if (insAt C d1 && insAt C d2) = true then callX none 2 F2 [p.1, q.1] q.2 else none
def aow2 (C : Addr) (F2 : FD) (o : O) (x : Option (O × Env)) : Option (O × Env) := x.bind fun q => (deref q.2 o).bind fun d1 => (deref q.2 q.1).bind fun d2 =>
  if (insAt C d1 && insAt C d2) = true then callX none 2 F2 [o, q.1] q.2 else none
def aow3 (C : Addr) (F2 : FD) (o o2 : O) (δ : Env) (x y : Option D) : Option (O × Env) := x.bind fun d1 => y.bind fun d2 => if (insAt C d1 && insAt C d2) = true then callX none 2 F2 [o, o2] δ else none
theorem e_aow {fa fb : ME} : addOwnE C F2 fa fb δ = aow1 C F2 fb (fa δ) := id rfl
theorem e_aow1 {fb : ME} : aow1 C F2 fb (some (o, δ)) = aow2 C F2 o (fb δ) := id rfl
theorem e_aow2 : aow2 C F2 o1 (some (o, δ)) = aow3 C F2 o1 o δ (deref δ o1) (deref δ o) := id rfl
theorem e_aow3 : aow3 C F2 o1 o δ (some (.ins C ks ds)) (some (.ins C ls es)) = callX none 2 F2 [o1, o] δ := by
  show (if _ then _ else _) = _
  rw [if_pos (by simp [insAt])]
def zuw1 (x : Option (List D × Env)) : Option (List D × Env) := x.bind fun p => match p.1 with
  | [.lst ds, .lst es] => some (zipD ds es, p.2)
  | [.tup ds, .tup es] => some (zipD ds es, p.2)
  | _ => none
theorem e_zu {fa : MAD} : zipU fa δ = zuw1 (fa δ) := id rfl
theorem e_zu1 : zuw1 (some ([.lst ds, .lst es], δ)) = some (zipD ds es, δ) := id rfl
theorem e_zu2 : zuw1 (some ([.tup ds, .tup es], δ)) = some (zipD ds es, δ) := id rfl
theorem e_mulT {k : Int} (h : 2 ≤ k) (h1 : k ≤ 1000) (h2 : 0 < ds.length) (h3 : ds.length ≤ 1000) : mulG (.tup ds) (.int k) = some (.dat (.tup (List.replicate k.toNat ds).flatten)) := by
  show (if _ then _ else _) = _
  rw [if_pos (by simp only [Bool.and_eq_true, decide_eq_true_eq]; omega)]
/-! max and min of lists and tuples -/
def rMaxV (K : PySem.W.Frag) : List V → Hp → VK → Prop := fun xs H Q => rMaxU K xs H Q ∨ DVG.rMaxT K xs H Q
def rMinV (K : PySem.W.Frag) : List V → Hp → VK → Prop := fun xs H Q => rMinU K xs H Q ∨ DVG.rMinT K xs H Q
theorem call_maxV {X : Cx} (hc : X.calm = true) (hu : X.A.units + 64 < cLine) : CallR X (.builtin "max") (rMaxV X.K) := (call_maxU hc).or (DVG.cr_maxT hc hu)
theorem call_minV {X : Cx} (hc : X.calm = true) (hu : X.A.units + 64 < cLine) : CallR X (.builtin "min") (rMinV X.K) := (call_minU hc).or (DVG.cr_minT hc hu)
def maxV : List D → Option O
  | [.tup ds] => (intsOf ds).bind fun ns => match ns with
    | m :: r => some (.dat (.int (maxL m r)))
    | [] => none
  | ds => maxG ds
def minV : List D → Option O
  | [.tup ds] => (intsOf ds).bind fun ns => match ns with
    | m :: r => some (.dat (.int (minL m r)))
    | [] => none
  | ds => minG ds
theorem c_maxV : CbOk K (rMaxV K) maxV := fun F R H δ σ ds vs res w r hg Q q => by
  unfold maxV at hg
  split at hg
  · obtain ⟨ns, e1, hg2⟩ := Option.bind_eq_some_iff.mp hg
    clear hg
    obtain ⟨v, e, r1⟩ := r.one
    obtain ⟨a, us, e2, h1, h2⟩ := r1.tup
    have := intsOf_inv e1
    subst this
    have := ints_rep h2
    subst this
    cases ns with
    | nil => cases hg2
    | cons m l =>
      cases hg2
      refine .inr ⟨a, m :: l, by rw [e, e2], h1, Nat.succ_pos _, fun z hz hy => ?_⟩
      obtain ⟨s1, s2⟩ := maxL_spec l m
      have : z = maxL m l := Int.le_antisymm (s2 _ hz) (hy _ s1)
      rw [this]
      exact q _ R H w Ext.refl rfl trivial
  · exact .inl (c_max F R H δ σ _ vs res w r hg Q q)
theorem c_minV : CbOk K (rMinV K) minV := fun F R H δ σ ds vs res w r hg Q q => by
  unfold minV at hg
  split at hg
  · obtain ⟨ns, e1, hg2⟩ := Option.bind_eq_some_iff.mp hg
    clear hg
    obtain ⟨v, e, r1⟩ := r.one
    obtain ⟨a, us, e2, h1, h2⟩ := r1.tup
    have := intsOf_inv e1
    subst this
    have := ints_rep h2
    subst this
    cases ns with
    | nil => cases hg2
    | cons m l =>
      cases hg2
      refine .inr ⟨a, m :: l, by rw [e, e2], h1, Nat.succ_pos _, fun z hz hy => ?_⟩
      obtain ⟨s1, s2⟩ := minL_spec l m
      have : z = minL m l := Int.le_antisymm (hy _ s1) (s2 _ hz)
      rw [this]
      exact q _ R H w Ext.refl rfl trivial
  · exact .inl (c_min F R H δ σ _ vs res w r hg Q q)
theorem e_mxI {i j : Int} : maxV [.int i, .int j] = some (.dat (.int (if i < j then j else i))) := id rfl
theorem e_mnI {i j : Int} : minV [.int i, .int j] = some (.dat (.int (if j < i then j else i))) := id rfl
theorem e_mxL {m : Int} {r : List Int} : maxV [.lst ((m :: r).map .int)] = some (.dat (.int (maxL m r))) := by
  show (((lstOf (.lst ((m :: r).map .int))).bind intsOf).bind fun ns => match ns with | m :: r => some (O.dat (.int (maxL m r))) | [] => none) = _
  simp only [lstOf, Option.bind_some, intsOf_map]
theorem e_mnL {m : Int} {r : List Int} : minV [.lst ((m :: r).map .int)] = some (.dat (.int (minL m r))) := h_min
theorem e_mxT {m : Int} {r : List Int} : maxV [.tup ((m :: r).map .int)] = some (.dat (.int (maxL m r))) := by
  show ((intsOf ((m :: r).map .int)).bind fun ns => match ns with | m :: r => some (O.dat (.int (maxL m r))) | [] => none) = _
  rw [intsOf_map]; rfl
theorem e_mnT {m : Int} {r : List Int} : minV [.tup ((m :: r).map .int)] = some (.dat (.int (minL m r))) := by
  show ((intsOf ((m :: r).map .int)).bind fun ns => match ns with | m :: r => some (O.dat (.int (minL m r))) | [] => none) = _
  rw [intsOf_map]; rfl
end
end DV

/-! DVY: a for loop in a generator def's body. -/
namespace DVG
open PySem PySem.Spec PyProof.Rows L2 GenW
section
variable {X : Cx}
end
end DVG
namespace DV
open PySem PySem.Spec PyProof.Rows L2
abbrev MGS := List D → Env → Option (Fl × List D)
def GFlOk (K : PySem.W.Frag) (F : Fx) (R : Reg) (H : Hp) (out : List D) : Fl → GEnds → Prop
  | .nx δ, E => ∀ vs σ' R' H', Wd K F R' H' δ σ' → Keep R H R' H' → RepVs K R' H' out vs → E.nx vs σ' H'
  | .rt o δ, E => ∀ vs v σ' R' H', Wd K F R' H' δ σ' → Keep R H R' H' → RepVs K R' H' out vs → RepO K F R' H' δ σ' o v → E.rt vs v H'
  | .bk δ, E => ∀ vs σ' R' H', Wd K F R' H' δ σ' → Keep R H R' H' → RepVs K R' H' out vs → E.bk vs σ' H'
  | .ct δ, E => ∀ vs σ' R' H', Wd K F R' H' δ σ' → Keep R H R' H' → RepVs K R' H' out vs → E.ct vs σ' H'
section
variable {K : PySem.W.Frag} {F : Fx} {R R1 R' : Reg} {H H1 H' : Hp} {δ δ1 δ' : Env} {σ : L2.St} {out : List D}
theorem GFlOk.keep {fl : Fl} {E : GEnds} (k : Keep R H R1 H1) (h : GFlOk K F R H out fl E) : GFlOk K F R1 H1 out fl E := by
  cases fl with
  | nx δ => exact fun vs σ' R' H' w k' => h vs σ' R' H' w (k.trans k')
  | rt o δ => exact fun vs v σ' R' H' w k' => h vs v σ' R' H' w (k.trans k')
  | bk δ => exact fun vs σ' R' H' w k' => h vs σ' R' H' w (k.trans k')
  | ct δ => exact fun vs σ' R' H' w k' => h vs σ' R' H' w (k.trans k')
def plainS (f : MS) : MGS := fun out δ => (f δ).bind fun fl => some (fl, out)
def nextGS : MGS := fun out δ => some (.nx δ, out)
def seqGS (f g : MGS) : MGS := fun out δ => (f out δ).bind fun p => match p.1 with
  | .nx δ' => g p.2 δ'
  | fl => some (fl, p.2)
def yieldS (f : MD) : MGS := fun out δ => if out.length < sizeLine then (f δ).bind fun p => some (.nx p.2, out ++ [p.1]) else none
def gloopL (g : MG) (b : MGS) : List D → MGS
  | [], out, δ => some (.nx δ, out)
  | d :: r, out, δ => (g d δ).bind fun δ1 => (b out δ1).bind fun p => match p.1 with
    | .nx δ2 => gloopL g b r p.2 δ2
    | .ct δ2 => gloopL g b r p.2 δ2
    | .bk δ2 => some (.nx δ2, p.2)
    | .rt o δ2 => some (.rt o δ2, p.2)
def gforS (fi : MI) (g : MG) (b : MGS) : MGS := fun out δ => (fi δ).bind fun p => gloopL g b p.1 out p.2
/-! ### generator defs -/
abbrev GFD := List D → Option (List D)
end
end DV

/-! DVL: list(o.m(..)) and list(f(..)) of generator defs; rewriting rules of generator bodies. -/
namespace DV
open PySem PySem.Spec PyProof.Rows L2
section
variable {K : PySem.W.Frag} {F : Fx} {R R1 R' : Reg} {H H1 H' : Hp} {δ δ1 δ' : Env} {σ : L2.St}
def lgm3 (δ : Env) (x : Option (List D)) : Option (O × Env) := x.bind fun out => some (.fre (.lst out), δ)
def lgm2 (d : D) (n : Nat) (G : GFD) (x : Option (List D × Env)) : Option (O × Env) := x.bind fun q => if (d :: q.1).length = n then lgm3 q.2 (G (d :: q.1)) else none
def lgm1 (C : Addr) (m : Str) (n : Nat) (G : GFD) (fa : MAD) (x : Option (D × Env)) : Option (O × Env) := x.bind fun p => if insB C m p.1 = true then lgm2 p.1 n G (fa p.2) else none
def lgmE (C : Addr) (m : Str) (n : Nat) (G : GFD) (fo : MD) (fa : MAD) : ME := fun δ => lgm1 C m n G fa (fo δ)
def lgc2 (n : Nat) (G : GFD) (x : Option (List D × Env)) : Option (O × Env) := x.bind fun q => if q.1.length = n then lgm3 q.2 (G q.1) else none
def lgcE (n : Nat) (G : GFD) (fa : MAD) : ME := fun δ => lgc2 n G (fa δ)
end
end DV
namespace DVG
open PySem PySem.Spec PyProof.Rows L2
section
variable {X : Cx} {CX : CXT} {k n : Nat} {f : Addr} {fd : FuncData} {ps ks : List Str} {sp : Sp} {E : XK} {x fn : Str} {p pos fpos : Pos} {e : Expr} {es : List Expr} {kws : List Keyword} {t tk : TA} {idx : List Nat} {ms : List V} {bb : Bool}
end
end DVG
namespace DV
open PySem PySem.Spec PyProof.Rows L2
section
variable {X : Cx} {k n : Nat} {f : Addr} {fd : FuncData} {ps : List Str} {sp : SpG} {x : Str} {p pos' : Pos} {idx : List Nat} {ms : List V}
end
section
variable {K : PySem.W.Frag} {F : Fx} {R R1 R' : Reg} {H H1 H' : Hp} {δ δ1 δ' : Env} {σ : L2.St}
def lgk2 (n0 : Nat) (idx : List Nat) (ms : List D) (n : Nat) (G : GFD) (x : Option (List D × Env)) : Option (O × Env) := x.bind fun q => if (decide (q.1.length = n0) && decide ((pick idx (q.1 ++ (ms ++ []))).length = n)) = true then lgm3 q.2 (G (pick idx (q.1 ++ (ms ++ [])))) else none
def lgkE (n0 : Nat) (idx : List Nat) (ms : List D) (n : Nat) (G : GFD) (fa : MAD) : ME := fun δ => lgk2 n0 idx ms n G (fa δ)
end
/-! ### rewriting rules -/
section
variable {C : Addr} {m : Str} {n : Nat} {G : GFD} {fo : MD} {fa : MAD} {δ δ1 : Env} {d : D} {ds out : List D}
theorem e_lgm : lgmE C m n G fo fa δ = lgm1 C m n G fa (fo δ) := id rfl
theorem e_lgm1 (h : insB C m d = true) : lgm1 C m n G fa (some (d, δ)) = lgm2 d n G (fa δ) := if_pos h
theorem e_lgm2 (h : (d :: ds).length = n) : lgm2 d n G (some (ds, δ)) = lgm3 δ (G (d :: ds)) := if_pos h
theorem e_lgm3 : lgm3 δ (some out) = some (.fre (.lst out), δ) := id rfl
theorem e_tupT {ds : List D} : tupOfG [.tup ds] = some (.dat (.tup ds)) := id rfl
theorem e_lstT {ds : List D} : lstOfG [.tup ds] = some (.fre (.lst ds)) := id rfl
theorem e_lgk {n0 : Nat} {idx : List Nat} {ms : List D} : lgkE n0 idx ms n G fa δ = lgk2 n0 idx ms n G (fa δ) := id rfl
theorem e_lgk2 {n0 : Nat} {idx : List Nat} {ms : List D} (h : (decide (ds.length = n0) && decide ((pick idx (ds ++ (ms ++ []))).length = n)) = true) : lgk2 n0 idx ms n G (some (ds, δ)) = lgm3 δ (G (pick idx (ds ++ (ms ++ [])))) := if_pos h
theorem e_lgc : lgcE n G fa δ = lgc2 n G (fa δ) := id rfl
theorem e_lgc2 (h : ds.length = n) : lgc2 n G (some (ds, δ)) = lgm3 δ (G ds) := if_pos h
def gd1 (x : Option (Fl × List D)) : Option (List D) := x.bind fun p => match p.1 with
  | .nx _ => some p.2
  | .rt (.dat .non) _ => some p.2
  | _ => none
theorem e_gd1 : gd1 (some (.nx δ, out)) = some out := id rfl
theorem e_gd2 : gd1 (some (.rt (.dat .non) δ, out)) = some out := id rfl
def gpl1 (out : List D) (x : Option Fl) : Option (Fl × List D) := x.bind fun fl => some (fl, out)
variable {f : MS} {b g1 g2 : MGS} {fi : MI} {g : MG} {fy : MD} {fl : Fl}
theorem e_gpl : plainS f out δ = gpl1 out (f δ) := id rfl
theorem e_gpl1 : gpl1 out (some fl) = some (fl, out) := id rfl
theorem e_gnx : nextGS out δ = some (.nx δ, out) := id rfl
def gsq1 (g : MGS) (x : Option (Fl × List D)) : Option (Fl × List D) := x.bind fun p => match p.1 with
  | .nx δ' => g p.2 δ'
  | fl => some (fl, p.2)
theorem e_gsq : seqGS g1 g2 out δ = gsq1 g2 (g1 out δ) := id rfl
theorem e_gsq1 : gsq1 g2 (some (.nx δ, out)) = g2 out δ := id rfl
def gyd1 (out : List D) (x : Option (D × Env)) : Option (Fl × List D) := x.bind fun p => some (.nx p.2, out ++ [p.1])
theorem e_gyd (h : out.length < 100000) : yieldS fy out δ = gyd1 out (fy δ) := if_pos (Nat.lt_of_lt_of_le h (by decide : 100000 ≤ sizeLine))
theorem e_gyd1 : gyd1 out (some (d, δ)) = some (.nx δ, out ++ [d]) := id rfl
def gfr1 (g : MG) (b : MGS) (out : List D) (x : Option (List D × Env)) : Option (Fl × List D) := x.bind fun p => gloopL g b p.1 out p.2
theorem e_gfr : gforS fi g b out δ = gfr1 g b out (fi δ) := id rfl
theorem e_gfr1 : gfr1 g b out (some (ds, δ)) = gloopL g b ds out δ := id rfl
def glp1 (g : MG) (b : MGS) (r : List D) (x : Option (Fl × List D)) : Option (Fl × List D) := x.bind fun p => match p.1 with
  | .nx δ2 => gloopL g b r p.2 δ2
  | .ct δ2 => gloopL g b r p.2 δ2
  | .bk δ2 => some (.nx δ2, p.2)
  | .rt o δ2 => some (.rt o δ2, p.2)
theorem e_glp1 : glp1 g b ds (some (.nx δ, out)) = gloopL g b ds out δ := id rfl
theorem e_glpN : gloopL g b [] out δ = some (.nx δ, out) := id rfl
end
end DV

/-! DVM: len(o) by an own __len__. -/
namespace DVG
open PySem PySem.Spec PyProof.Rows L2
section
variable {X : Cx} {CX : CXT} {k : Nat} {f C : Addr} {fd : FuncData} {ps : List Str} {sp : Sp} {E : XK}
end
end DVG
namespace DV
open PySem PySem.Spec PyProof.Rows L2
section
variable {K : PySem.W.Frag} {F : Fx} {R R1 R2 R' : Reg} {H H1 H' : Hp} {δ δ1 δ' : Env} {σ σ' : L2.St}
end
end DV

/-! DVU: data that hold instances, equal by their own __eq__: == True, != False. -/
namespace DV
open PySem PySem.Spec PyProof.Rows L2
section
variable {K : PySem.W.Frag} {R : Reg} {H H' : Hp} {own : Addr → Option FD}
end
section
variable {X : Cx} {own : Addr → Option FD}
structure OwnEqs (X : Cx) (k : Nat) (own : Addr → Option FD) : Prop where
  ok : ∀ C F2, own C = some F2 → ∃ (CX : CXT) (f : Addr) (fd : FuncData) (ps : List Str) (E : XK), DVG.FnG false X.prog X.w X.K X.mg X.base CX k f fd ps (spD X.K none 2 F2) ∧
    PySem.W.findIn X.K (.ref C) "__eq__" = some (some (.ref f)) ∧ PySem.W.isFn X.K (.ref f) = true ∧ Binds X.K fd ps [] ∧ Passes CX X E
end
end DV
namespace DVU
open PySem PySem.SeqAt
open SeqRoads2 MeetsSeq3 MeetsSeq2 MeetsSeq
open AutoSeq1 (wpAny_loadPart' sub_tuple_tuple)
section
variable {A : Around} {prog : Program} {R : Result → Shared → Prop} {w : World}
end
section
variable {s : Shared} {A : Around} {prog : Program} {E : Value → Shared → Prop} {w : World}
end
end DVU
namespace DV
open PySem PySem.Spec PyProof.Rows L2
section
variable {X : Cx} {own : Addr → Option FD}
end
section
variable {K : PySem.W.Frag} {F : Fx} {R : Reg} {H : Hp} {δ : Env} {σ : L2.St} {own : Addr → Option FD}
def own1 (C : Addr) (F2 : FD) : Addr → Option FD := fun a => if a = C then some F2 else none
theorem OwnEqs.one {X : Cx} {k : Nat} {CX : CXT} {C f : Addr} {F2 : FD} {fd : FuncData} {ps : List Str} {E : XK} (Fo : DVG.FnG false X.prog X.w X.K X.mg X.base CX k f fd ps (spD X.K none 2 F2))
    (hs : PySem.W.findIn X.K (.ref C) "__eq__" = some (some (.ref f))) (hf : PySem.W.isFn X.K (.ref f) = true) (hb : Binds X.K fd ps []) (hx : Passes CX X E) : OwnEqs X k (own1 C F2) := ⟨fun C' F' h => by
  unfold own1 at h
  split at h
  · rename_i e
    cases h
    subst e
    exact ⟨CX, f, fd, ps, E, Fo, hs, hf, hb, hx⟩
  · cases h⟩
end
end DV

/-! DXV: own errors as values: made by place and by keyword, and kept. -/
namespace PySem
namespace HandSPX
open Builtin Builtin.ObjectAttr
section
variable {M : Model} {A : Around} {E : Value → Shared → Prop} {h : Heap} {g : Array GenState} {d : Drawn} {t : Nat} {os : OsState}
variable {nm q : Str} {C N : Addr} {bs bm bmB : List Value} {hdct : Bool} {sn : List Str} {sub : List Value} {ab : Bool} {col : Option Bool} {dd : Option Addr} {k0 k1 k2 k3 k5 : Option Value} {B newId initId : String}
theorem check_new_ownK (F : ExcBaseFacts B newId initId bmB) (hT : ∀ X : String, bm.contains (.type X) = bmB.contains (.type X)) {rest : List Value} {kw : List (Str × Value)} {Q : Unit → Shared → Prop}
    (hC : h.get? C = some (excClassObj nm q C N bs bm hdct sn sub ab col dd k0 k1 k2 k3 k5 newId)) (hq : Q () ⟨h, g, d, t, os⟩) : wpAny M A (checkBuiltinCall newId ⟨.ref C :: rest, kw⟩) Q E ⟨h, g, d, t, os⟩ := by
  have hcont : (Value.ref C :: bm).contains (.type B) = true := by rw [List.contains_cons, hT, F.hasB, Bool.or_true]
  have hstar := F.noStar
  simp only [checkBuiltinCall, F.newKind, F.newSplit, F.newRow]
  repeat (first | refine wpAny_loadPart_at hC ?_ | (refine wpAny_isSubtype_exc hC ?_; rw [hcont]) | refine wpAny_staticBase_exc hC ?_ | refine wpAny_madeBy_exc hC ?_ | simp only [bne_self_eq_false, Bool.false_eq_true, if_false] | wp_step)
  exact hq
end
section
variable {prog : Program} {w : World} {A : Around} {E : Value → Shared → Prop} {R : Result → Shared → Prop} {h : Heap} {g : Array GenState} {d : Drawn} {t : Nat} {os : OsState}
variable {nm q : Str} {C N : Addr} {bs bm bmB : List Value} {hdct : Bool} {sn : List Str} {sub : List Value} {ab : Bool} {col : Option Bool} {dd : Option Addr} {k0 k1 k2 k3 k5 : Option Value} {B newId initId : String}
theorem new_ownK (F : ExcBaseFacts B newId initId bmB) (hT : ∀ X : String, bm.contains (.type X) = bmB.contains (.type X)) {rest : List Value} {kw : List (Str × Value)}
    (hC : h.get? C = some (excClassObj nm q C N bs bm hdct sn sub ab col dd k0 k1 k2 k3 k5 newId))
    (hq : R (.ok (.ret (.ref (h.objs.size + 1)))) ⟨(h.push { cls := .type "tuple", data := .seq rest.toArray }).push
      { cls := .ref C, data := .fields #[.ref h.objs.size, .none, .none, .none, .bool false, .none] }, g, d, t, os⟩) (hrest : rest.length ≤ sizeLine) :
    codeAny (model prog w) A (.builtin newId ⟨.ref C :: rest, kw⟩) R ⟨h, g, d, t, os⟩ := by
  have hends := F.ends
  have hcB : (Value.ref C :: bm).contains (.type B) = true := by rw [List.contains_cons, hT, F.hasB, Bool.or_true]
  have hcA : (Value.ref C :: bm).contains (.type "AttributeError") = false := by rw [List.contains_cons, hT, F.noAttr]; rfl
  have hcN : (Value.ref C :: bm).contains (.type "NameError") = false := by rw [List.contains_cons, hT, F.noName]; rfl
  refine codeAny_builtinAt F.entry ?_
  unfold Builtin.«BaseException.__new__»
  refine wpAt_bind ?_
  show wpAt _ _ _ (stack >>= _) _ _ _
  refine wpAt_bind (wpAt_stack fun p below => wpAt_of_wpAny ?_)
  wp_walk
  refine wpAt_of_wpAny ?_
  rw [F.owner]
  repeat (first | with_reducible refine wpAny_madeHere_exc F.canon hC ?_ | with_reducible refine wpAny_loadPart_at hC ?_ | (with_reducible refine wpAny_isSubtype_exc hC ?_; first | rw [hcB] | rw [hcA] | rw [hcN]) | wp_step)
  show R _ _
  rw [Heap.size_push]
  exact hq
theorem type_call_ownK (F : ExcBaseFacts B newId initId bmB) (hT : ∀ X : String, bm.contains (.type X) = bmB.contains (.type X)) {rest : List Value} {kw : List (Str × Value)} {fI : Addr} {Q : Fin → Shared → Prop}
    (hC : h.get? C = some (excClassObj nm q C N bs bm hdct sn sub ab col dd k0 k1 k2 k3 k5 newId))
    (hi : W.Looks (model prog w) h (typeLookup (.ref C) "__init__") (some (.ref fI))) (hb : ∀ self, W.Looks (model prog w) h (bindSpecial (.ref fI) self) (.ref fI, [self])) (hrest : rest.length ≤ sizeLine)
    (hq : codeAny (model prog w) A (.call (.ref fI) ⟨.ref (h.objs.size + 1) :: rest, kw⟩)
      (fun r s' => match r with | .ok (.ret v) => v = .none ∧ Q (.done (.ret (.ref (h.objs.size + 1)))) s' | .ok _ => False | .error e => E e s')
      ⟨(h.push (W.kdv_tup rest)).push (excO C h.objs.size), g, d, t, os⟩) :
    wpAny (model prog w) A (Builtin.«type.__call__» ⟨.ref C :: rest, kw⟩) Q E ⟨h, g, d, t, os⟩ := by
  repeat (first | with_reducible refine wpAny_loadPart_at hC ?_ | with_reducible refine wpAny_madeBy_exc hC ?_ | wp_step)
  refine codeAny_call_builtin_code (Code.quiet_builtin _ F.quiet) (check_new_ownK F hT hC ?_)
  refine new_ownK F hT hC ?_ hrest
  show wpAny _ _ _ _ _ _
  have k : ∀ b o, h.get? b = some o → ((h.push (W.kdv_tup rest)).push (excO C h.objs.size)).get? b = some o := fun b o e => Heap.get?_push_of_some _ (Heap.get?_push_of_some _ e)
  have hC₁ := k _ _ hC
  have hget : ((h.push (W.kdv_tup rest)).push (excO C h.objs.size)).get? (h.objs.size + 1) = some (excO C h.objs.size) := by heap_get
  have hcC : (Value.ref C :: bm).contains (.ref C) = true := by simp
  have i1 := hi.keeps k
  have b1 := (hb (.ref (h.objs.size + 1))).keeps k
  unfold isInstance
  repeat (first | with_reducible refine wpAny_loadPart_at hget ?_ | (with_reducible refine wpAny_isSubtype_exc hC₁ ?_; rw [hcC]) | wp_step)
  show wpAny _ _ (typeLookup (.ref C) _) _ _ _
  refine i1.at ?_
  refine wpAny_holding (wpAny_bind (b1.at ?_))
  refine wpAny_bind (wpAny_call (codeAny_mono hq fun r s' z => ?_))
  rcases r with e | (v | _ | _ | _) <;> first | exact z | exact z.elim | skip
  obtain ⟨rfl, z⟩ := z
  first
    | exact wpAny_pure (wpAny_pure z)
    | (wp_walk; exact z)
theorem call_ownK (F : ExcBaseFacts B newId initId bmB) (hT : ∀ X : String, bm.contains (.type X) = bmB.contains (.type X)) {rest : List Value} {kw : List (Str × Value)} {fI : Addr}
    (hC : h.get? C = some (excClassObj nm q C N bs bm hdct sn sub ab col dd k0 k1 k2 k3 k5 newId))
    (hi : W.Looks (model prog w) h (typeLookup (.ref C) "__init__") (some (.ref fI))) (hb : ∀ self, W.Looks (model prog w) h (bindSpecial (.ref fI) self) (.ref fI, [self])) (hrest : rest.length ≤ sizeLine)
    (hq : codeAny (model prog w) (A.under (.builtin "type.__call__" ⟨.ref C :: rest, kw⟩)) (.call (.ref fI) ⟨.ref (h.objs.size + 1) :: rest, kw⟩) (W.InitBack (h.objs.size + 1) R)
      ⟨(h.push (W.kdv_tup rest)).push (excO C h.objs.size), g, d, t, os⟩) :
    codeAny (model prog w) A (.call (.ref C) ⟨rest, kw⟩) R ⟨h, g, d, t, os⟩ := by
  have f1 := tc_lookup
  have f2 := tc_bind (.ref C)
  have hTy : (⟨h, g, d, t, os⟩ : Shared).TypeIs (.ref C) "type" := ⟨_, hC, rfl⟩
  refine codeAny_of_tree ?_
  show wpAny _ _ (callAny (.ref C) _) _ _ _
  repeat (any_goals (first | assumption | with_reducible refine wpAny_loadPart_at hC ?_ | wp_step))
  refine ⟨rfl, ?_⟩
  refine codeAny_call_builtin_at (Code.quiet_builtin _ (by decide +kernel)) entry_typeCall (wpAny_check_type_call_sub hC (type_call_ownK F hT hC hi hb hrest ?_))
  refine codeAny_mono hq fun r s' z => ?_
  rcases r with e | (v | _ | _ | _) <;> exact z
end
end HandSPX
end PySem
namespace L2
open PySem PySem.Spec PyProof.Rows
/-- C(e, .., k = v, ..) of an own error, kept as a value -/
def tMkV (C : Addr) (n m : Nat) (sp : Sp) (gV : List V → List V → List V) (t tk : TA) : TE := fun σ H Q => t σ H fun vs H1 => tk σ H1 fun zs H2 => vs.length = n ∧ n ≤ 1000 ∧ zs.length = m ∧
  ∀ x, H2 x = none → sp (gV (.ref x :: vs) zs) (upd H2 x (exo x C none)) (fun v H3 => v = .non ∧ Q (.ref x) H3) (fun _ _ _ => False)
section
variable {X : Cx} {CX : CXT} {k n : Nat} {f C : Addr} {fd : FuncData} {ps ks : List Str} {sp : Sp} {x : Str} {p pos : Pos} {e : Expr} {es : List Expr} {kws : List Keyword} {t tk : TA} {g : List Value → List Value → List Value} {gV : List V → List V → List V}
theorem run_mkV {pins : List (Addr × Obj)} {σ : St} {H : Hp} {s : Shared} {Q : VK} {us ws : List Value} {vs zs : List V} (T : OexC X.K C) (iC : PySem.W.findIn X.K (.ref C) "__init__" = some (some (.ref f))) (tI : PySem.W.typeIn X.K (.ref f) = some (.type "function"))
    (F1 : FnOk X.prog X.w X.K X.mg X.base CX k f fd ps sp) (hr : Room (k + 1) X.A) (hb : KBn X.K fd ps (n + 1) ks g gV) (hx : Passes CX X (fun _ _ _ => False)) (I : Inv X pins σ H s) (r : Vals vs us) (rz : Vals zs ws) (l1 : vs.length = n) (l0 : n ≤ 1000) (l2 : zs.length = ks.length)
    (h : ∀ x, H x = none → sp (gV (.ref x :: vs) zs) (upd H x (exo x C none)) (fun v H2 => v = .non ∧ Q (.ref x) H2) (fun _ _ _ => False)) :
    wpAny (model X.prog X.w) X.A (call (.ref C) us (ks.zip ws)) (EP X pins σ Q) X.xe s := by
  obtain ⟨nm, q, N, bs, bm, sn, sub, ab, col, dd, k0, k1, k2, k3, k5, hC, hbm⟩ := T.cls
  obtain ⟨hp, g', dr, tk', os⟩ := s
  have hsz : hp.objs.size ≤ hp.objs.size + 1 := Nat.le_succ _
  have hn : H (hp.objs.size + 1) = none := I.hok.fresh hsz
  have hq := h (hp.objs.size + 1) hn
  have kk : ∀ b o, hp.get? b = some o → ((hp.push (PySem.W.kdv_tup us)).push (PySem.HandSPX.excO C hp.objs.size)).get? b = some o := fun b o e => Heap.get?_push_of_some _ (Heap.get?_push_of_some _ e)
  have hget : ((hp.push (PySem.W.kdv_tup us)).push (PySem.HandSPX.excO C hp.objs.size)).get? (hp.objs.size + 1) = some (PySem.HandSPX.excO C hp.objs.size) := by heap_get
  have I2 : Inv X pins σ (upd H (hp.objs.size + 1) (exo (hp.objs.size + 1) C none)) ⟨(hp.push (PySem.W.kdv_tup us)).push (PySem.HandSPX.excO C hp.objs.size), g', dr, tk', os⟩ :=
    I.laid (t' := tk') (a := hp.objs.size + 1) (o := exo (hp.objs.size + 1) C none) (h' := (hp.push (PySem.W.kdv_tup us)).push (PySem.HandSPX.excO C hp.objs.size)) kk hsz (exo_ok hget)
  have r1 : Vals (V.ref (hp.objs.size + 1) :: vs) (Value.ref (hp.objs.size + 1) :: us) := .cons rfl r
  have r2 := hb.rel r1 rz
  have e1 : (Value.ref (hp.objs.size + 1) :: us).length = n + 1 := r1.length.symm.trans (congrArg Nat.succ l1)
  have e2 : ws.length = ks.length := rz.length.symm.trans l2
  have hus : us.length ≤ sizeLine := by
    rw [← Paired.length r, sizeLine_eq]
    omega
  refine wpAny_call (PySem.HandSPX.call_ownK F.excBase_ValueError (fun Y => PySem.HandSPX.refsVE_contains Y bm hbm) (I.kIn _ _ hC) (PySem.W.looks_findIn I.kIn iC) (fun self => PySem.W.bind_fn I.kIn self tI) hus
    (codeAny_mono (F1.run _ X.stack _ _ ⟨Value.ref (hp.objs.size + 1) :: us, ks.zip ws⟩ (g (Value.ref (hp.objs.size + 1) :: us) ws) _ _ (fun _ _ _ => False) (hr.make C us (ks.zip ws)) (I2.env0.make C us (ks.zip ws)) (hb.to _ (Value.ref (hp.objs.size + 1) :: us) ws I2.kIn e1 e2) r2 hq) fun r s' hq' => ?_))
  cases r with
  | error er => exact hx pins σ _ _ er s' I2 hq'
  | ok fl =>
    cases fl with
    | ret u =>
      obtain ⟨v, H', I3, rv, ev, q3⟩ := I2.after hq'
      subst ev
      exact ⟨rv, ⟨V.ref (hp.objs.size + 1), H', I3, rfl, q3⟩⟩
    | next => exact False.elim hq'
    | brk => exact False.elim hq'
    | cont => exact False.elim hq'
theorem pe_mkV0 (T : OexC X.K C) (iC : PySem.W.findIn X.K (.ref C) "__init__" = some (some (.ref f))) (tI : PySem.W.typeIn X.K (.ref f) = some (.type "function"))
    (F1 : FnOk X.prog X.w X.K X.mg X.base CX k f fd ps sp) (hr : Room (k + 1) X.A) (hg : Gl X x) (hm : X.mg x = some (.ref C)) (hb : KBn X.K fd ps 1 ks g gV) (hx : Passes CX X (fun _ _ _ => False)) (hkw : PK X kws tk)
    (hall : (backToKw pos (keywordEach kws X.env)).all (·.1.isSome) = true := by rfl) (hks : (backToKw pos (keywordEach kws X.env)).filterMap (·.1) = ks := by rfl) (hdb : (x == ("__debug__" : Str)) = false := by decide)
    (hpl : ((backTo pos (starEach [] X.env)).any (·.1) || (backToKw pos (keywordEach kws X.env)).any (·.1.isNone)) = false := by rfl) :
    PE X (.Call (.Name x p) [] kws pos) (tMkV C 0 ks.length sp gV tNil tk) := by
  refine ⟨fun pins s σ H Q I h => ?_⟩
  refine wpAny_Call_Name_kw (ld_glob I hg hm ?_ hdb)
  refine PySem.W.callWith_KW0 (h₀ := X.base) I.ok.mod.kin T.kC hall ?_ hpl
  refine thn (hkw.run pos pins s σ H _ I h) fun ws s2 ⟨zs, H2, I2, rz, l1, l0, l2, q2⟩ => ⟨I2.kIn, ?_⟩
  rw [hks]
  exact run_mkV (us := []) (vs := []) T iC tI F1 hr hb hx I2 .nil rz rfl l0 l2 q2
theorem pe_mkV (T : OexC X.K C) (iC : PySem.W.findIn X.K (.ref C) "__init__" = some (some (.ref f))) (tI : PySem.W.typeIn X.K (.ref f) = some (.type "function"))
    (F1 : FnOk X.prog X.w X.K X.mg X.base CX k f fd ps sp) (hr : Room (k + 1) X.A) (hg : Gl X x) (hm : X.mg x = some (.ref C)) (hb : KBn X.K fd ps (n + 1) ks g gV) (hx : Passes CX X (fun _ _ _ => False))
    (ha : PA X (e :: es) t) (hkw : PK X kws tk) (hall : (backToKw pos (keywordEach kws X.env)).all (·.1.isSome) = true := by rfl) (hks : (backToKw pos (keywordEach kws X.env)).filterMap (·.1) = ks := by rfl)
    (hdb : (x == ("__debug__" : Str)) = false := by decide) (he : starEach (e :: es) X.env = (false, eval e X.env) :: starEach es X.env := by rfl)
    (hpl : ((backTo pos (starEach (e :: es) X.env)).any (·.1) || (backToKw pos (keywordEach kws X.env)).any (·.1.isNone)) = false := by rfl) :
    PE X (.Call (.Name x p) (e :: es) kws pos) (tMkV C n ks.length sp gV t tk) := by
  refine ⟨fun pins s σ H Q I h => ?_⟩
  refine wpAny_Call_Name_kw (ld_glob I hg hm ?_ hdb)
  refine PySem.W.callWith_KW (h₀ := X.base) I.ok.mod.kin T.kC hall (thn (ha.run pos pins s σ H _ I h) fun us s1 ⟨vs, H1, I1, r, q⟩ => ?_) hpl he
  refine thn (hkw.run pos pins s1 σ H1 _ I1 q) fun ws s2 ⟨zs, H2, I2, rz, l1, l0, l2, q2⟩ => ⟨I2.kIn, ?_⟩
  rw [hks]
  exact run_mkV T iC tI F1 hr hb hx I2 r rz l1 l0 l2 q2
end
/-! ### asked about -/
section
variable {X : Cx} {e : Expr} {te : TE} {pos : Pos} {n : Str} {pins : List (Addr × Obj)} {σ : St} {H : Hp} {s : Shared} {a C dx : Addr} {fs : List (Str × V)}
theorem exo_inst (I : Inv X pins σ H s) (ea : H a = some (exo a C (some dx))) (ed : H dx = some (exd dx fs)) : ∃ (oe od : Obj) (mA : Str → Option Value), PySem.W.InstAt s.heap a oe C (some od) ∧ (∀ f, PySem.W.lookIn f od = some (mA f)) ∧ ∀ f, RelO (fs.lookup f) (mA f) := by
  obtain ⟨t1, ho⟩ := exo_at I.hok ea
  obtain ⟨mA, hns, rel⟩ := exd_at I.hok ed
  obtain ⟨od, hod, hl⟩ := lookIn_ns hns
  exact ⟨_, od, mA, ⟨ho, rfl, rfl, hod⟩, hl, rel⟩
/-- isinstance(e, c), e an own error that is kept -/
def rIsV (K : PySem.W.Frag) : List V → Hp → VK → Prop := fun xs H Q => ∃ (a C dx : Addr) (fs : List (Str × V)) (c : V) (cv : Value) (b : Bool), xs = [.ref a, c] ∧ H a = some (exo a C (some dx)) ∧ H dx = some (exd dx fs) ∧ ExcC K C ∧ (∀ u, RelV c u → u = cv) ∧ PySem.W.kitOne K (.ref C) cv = some b ∧ Q (.bl b) H
theorem call_isV : CallR X (.builtin "isinstance") (rIsV X.K) := by
  intro pins s σ H xs us Q I r h
  obtain ⟨a, C, dx, fs, c, cv, b, rfl, ea, ed, T, hcv, e, q⟩ := h
  cases r with
  | cons rx rr =>
    cases rr with
    | cons rt rr =>
      cases rr
      cases rx
      have ec := hcv _ rt
      subst ec
      obtain ⟨oe, od, mA, J, _, _⟩ := exo_inst I ea ed
      exact PySem.W.kia_one (PySem.W.kitx_exc (by obtain ⟨cd, hc, _⟩ := PySem.W.any_some T.hd; rw [hc]; rfl) T.hg T.hk T.hs T.ha T.hn T.ht T.hm) I.kIn J e (fun z => nomatch z) fun tk => ⟨.bl b, H, I.kept (t' := tk) fun _ _ z => z, rfl, q⟩
/-- e.f, e an own error that is kept -/
def tXo (K : PySem.W.Frag) (f : Str) (te : TE) : TE := fun σ H Q => te σ H fun x H1 => ∃ (a C dx : Addr) (fs : List (Str × V)) (v : V), x = .ref a ∧ H1 a = some (exo a C (some dx)) ∧ H1 dx = some (exd dx fs) ∧ XfC K C ∧ PySem.W.findIn K (.ref C) f = some none ∧ fs.lookup f = some v ∧ Q v H1
theorem pe_xo (he : PE X e te) (hb : attributeBase e n X.env (eval e X.env) = eval e X.env := by rfl) : PE X (.Attribute e n pos) (tXo X.K n te) := by
  refine ⟨fun pins s σ H Q I h => ?_⟩
  refine attr_of hb (thn (he.run pins s σ H _ I h) fun u s1 hh => ?_)
  obtain ⟨x, H1, I1, rx, a, C, dx, fs, v, ex, ea, ed, T, hno, l, q⟩ := hh
  subst ex
  obtain rfl : u = Value.ref a := rx
  obtain ⟨oe, od, mA, J, hl, hr⟩ := exo_inst I1 ea ed
  obtain ⟨u, hu, ru⟩ := RelO.some_of (v := v) (o := mA n) (by rw [← l]; exact hr n)
  exact HandSPX.exc_get I1.kIn J T.ga T.gg T.exC (PySem.W.findObj_own T.hdC hno rfl (by rw [hl, hu])) (handed_of ru) ⟨v, H1, I1.tok _, ru, q⟩
end
end L2

/-! DXA: calls of defs that may raise: what is raised is wished for at the caller's slots. -/
namespace DVG
open PySem PySem.Spec PyProof.Rows L2
section
variable {X : Cx} {CX : CXT} {k n : Nat} {f C : Addr} {fd : FuncData} {ps ks : List Str} {sp : Sp} {dvs : List V} {ds : List Value} {E0 : XK} {E : L2.St → XK} {x m : Str} {p pos apos : Pos} {e o a b : Expr} {es : List Expr} {kws : List Keyword} {ta tb : TE} {t tk : TA} {idx : List Nat} {ms : List V}
end
end DVG

/-! DXB: defs with a store of cells that may raise: their promise; readings that may raise. -/
namespace DV
open PySem PySem.Spec PyProof.Rows L2
/-- how a def ends -/
inductive RX where
  | ok (r : Ret) (m : D) (cs : List D) | xc (e : Nat) (f : Str) (d : D) (m : D) (cs : List D)
abbrev FX := List D → List D → Option RX
def entryX (bo : Option Nat) (ds : List D) (n : Nat) (cs : List D) : Env := entry bo ds n ++ [.sto cs]
/-- the world behind a def with a store -/
structure EndX (K : PySem.W.Frag) (bo : Option Nat) (R : Reg) (H : Hp) (vs : List V) (m : D) (cs : List D) (R' : Reg) (H' : Hp) : Prop where
  sub : SubR R R'
  fresh : ∀ a, R' a → R a ∨ H a = none
  freshC : ∀ a ∈ R'.g, a ∈ R.g ∨ H a = none
  frame : ∀ a o, H a = some o → ¬ BoA bo vs a → a ∉ R.g → H' a = some o
  alv : ∀ a, H a ≠ none → H' a ≠ none
  tr : ∀ a, R' a → H' a ≠ none
  out : ∀ a, BoA bo vs a → ¬ R' a ∧ a ∉ R'.g ∧ RepTop K R' H' m a
  sto : StoOk K R' H' cs
def ResX (K : PySem.W.Frag) (R' : Reg) (H H' : Hp) (r : Ret) (v : V) : Prop := match r with
  | .dat d => RepV K R' H' d v
  | .fre d => ∃ a, v = .ref a ∧ ¬ R' a ∧ a ∉ R'.g ∧ H a = none ∧ RepTop K R' H' d a
/-- an exception of the class at C whose field f holds d -/
def ExcX (K : PySem.W.Frag) (R' : Reg) (H' : Hp) (f : Str) (d : D) (dd : Addr) : Prop := ∃ v, H' dd = some (.xd [(f, v)]) ∧ RepV K R' H' d v
def GoX (K : PySem.W.Frag) (ec : Nat → Addr) (bo : Option Nat) (R : Reg) (H : Hp) (vs : List V) (Q : VK) (E : XK) : RX → Prop
  | .ok r m cs => ∀ v R' H', EndX K bo R H vs m cs R' H' → ResX K R' H H' r v → Q v H'
  | .xc e f d m cs => ∀ dd R' H', EndX K bo R H vs m cs R' H' → ExcX K R' H' f d dd → E (.ref (ec e)) (some dd) H'
def spX (K : PySem.W.Frag) (ec : Nat → Addr) (bo : Option Nat) (n : Nat) (F : FX) : Sp := fun vs H Q E => vs.length = n ∧ ∃ R ds cs x, ArgRep K R H bo ds vs ∧ (∀ a, R a → H a ≠ none) ∧ StoOk K R H cs ∧ (∀ a, BoA bo vs a → a ∉ R.g) ∧ F ds cs = some x ∧ GoX K ec bo R H vs Q E x
inductive FlX where
  | fl (x : Fl) | xc (e : Nat) (f : Str) (d : D) (δ : Env)
abbrev MSX := Env → Option FlX
def ExOk (K : PySem.W.Frag) (ec : Nat → Addr) (F : Fx) (R : Reg) (H : Hp) (W : WX) (e : Nat) (f : Str) (d : D) (δ : Env) : Prop :=
  ∀ σ' dd R' H', Wd K F R' H' δ σ' → Keep R H R' H' → ExcX K R' H' f d dd → W (.ref (ec e)) (some dd) σ' H'
def FlXOk (K : PySem.W.Frag) (ec : Nat → Addr) (F : Fx) (R : Reg) (H : Hp) (W : WX) (E : L2.Ends) : FlX → Prop
  | .fl x => FlOk K F R H x E
  | .xc e f d δ => ExOk K ec F R H W e f d δ
def EvXS (K : PySem.W.Frag) (ec : Nat → Addr) (t : WX → TS) (f : MSX) : Prop := ∀ (W : WX) F R H δ σ x, Wd K F R H δ σ → f δ = some x → ∀ E : L2.Ends, FlXOk K ec F R H W E x → t W E σ H
/-- readings -/
inductive XO where
  | ok (o : O) (δ : Env) | xc (e : Nat) (f : Str) (d : D) (δ : Env)
abbrev MEX := Env → Option XO
def XoOk (K : PySem.W.Frag) (ec : Nat → Addr) (F : Fx) (R : Reg) (H : Hp) (δ : Env) (σ : L2.St) (W : WX) (Q : VK) : XO → Prop
  | .ok o δ' => ∀ v R' H', Wd K F R' H' δ' σ → Ext δ δ' σ R H R' H' → RepO K F R' H' δ' σ o v → FreO H o v → Q v H'
  | .xc e f d δ' => ∀ dd R' H', Wd K F R' H' δ' σ → Ext δ δ' σ R H R' H' → ExcX K R' H' f d dd → W (.ref (ec e)) (some dd) σ H'
section
variable {K : PySem.W.Frag} {F : Fx} {R R1 R' : Reg} {H H1 H' : Hp} {δ δ1 δ' : Env} {σ σ' : L2.St}
/-! ### entry and end -/
def fxX (bo : Option Nat) (R : Reg) (H : Hp) (vs : List V) (N : List Str) : Fx := ⟨H, fun a => BoA bo vs a ∨ a ∈ R.g, R, L2.start N vs, true⟩
theorem app_get {α : Type} {l : List α} {x y : α} {i : Nat} (h : (l ++ [x])[i]? = some y) : (l[i]? = some y) ∨ (i = l.length ∧ y = x) := by
  by_cases hl : i < l.length
  · rw [List.getElem?_append_left hl] at h; exact .inl h
  · rw [List.getElem?_append_right (by omega)] at h
    have : i - l.length = 0 := by
      by_cases z : i - l.length = 0
      · exact z
      · rw [List.getElem?_eq_none (by simp; omega)] at h; cases h
    rw [this] at h; cases h
    exact .inr ⟨by omega, rfl⟩
theorem wd_entryX {bo : Option Nat} {ds cs : List D} {vs : List V} {N : List Str} {nm : Str} (ha : ArgRep K R H bo ds vs) (ht : ∀ a, R a → H a ≠ none) (hs : StoOk K R H cs) (hd : ∀ a, BoA bo vs a → a ∉ R.g) (hb : (bo.all fun i => decide (i < ds.length)) = true) (hn : ds.length ≤ N.length) :
    Wd K (fxX bo R H vs (N ++ [nm])) R H (entryX bo ds N.length cs) (L2.start (N ++ [nm]) vs) := by
  have hl := ha.1
  have st : L2.start (N ++ [nm]) vs = L2.start N vs ++ [none] := by
    unfold L2.start
    rw [List.append_assoc]
    congr 1
    have : (N ++ [nm]).length - vs.length = (N.length - vs.length) + 1 := by simp; omega
    rw [this, List.replicate_succ']
  have w := wd_entry (N := N) ha ht hb
  have el : (entry bo ds N.length).length = (L2.start N vs).length := w.len
  have sl : ∀ {i : Nat} {s : Sl} {a : Addr}, (entryX bo ds N.length cs)[i]? = some s → s.own? = true → (L2.start (N ++ [nm]) vs)[i]? = some (some (V.ref a)) → (entry bo ds N.length)[i]? = some s ∧ (L2.start N vs)[i]? = some (some (V.ref a)) := fun {i s a} h ho hv => by
    rw [st] at hv
    rcases app_get h with g | ⟨g, _⟩
    · have hi := (List.getElem?_eq_some_iff.mp g).1
      rw [List.getElem?_append_left (by rw [← el]; exact hi)] at hv
      exact ⟨g, hv⟩
    · rw [List.getElem?_append_right (by omega), g, el, Nat.sub_self] at hv
      cases hv
  have bo_of : ∀ {i : Nat} {s : Sl} {a : Addr}, (entry bo ds N.length)[i]? = some s → s.own? = true → (L2.start N vs)[i]? = some (some (V.ref a)) → BoA bo vs a := fun {i s a} h ho hv => by
    rcases entry_get h with ⟨_, q⟩ | ⟨_, _, _, q⟩ | q
    · subst q; exact w.locB i _ a h hv
    · subst q; cases ho
    · subst q; cases ho
  have sto : ∀ {i : Nat} {es : List D}, (entryX bo ds N.length cs)[i]? = some (.sto es) → i = (entry bo ds N.length).length ∧ es = cs := fun {i es} h => by
    rcases app_get h with g | ⟨g, q⟩
    · exact (entry_sto g).elim
    · cases q; exact ⟨g, rfl⟩
  refine ⟨fun i s h => ?_, by unfold entryX; rw [st, List.length_append, List.length_append, el]; rfl, fun i j s t a h1 h2 h3 h4 h5 h6 => ?_, fun a h q => ?_, fun i d a h g => ?_, fun i d a h g => ?_, fun a h => .inl (.inr h.1), fun i j es fs h1 h2 => ⟨(sto h1).1.trans (sto h2).1.symm, rfl⟩, (fun h => by cases h), fun a o h _ => h, SubR.refl, fun a h => ⟨.inl h, ht a h⟩, fun _ _ _ => rfl, fun a h => h, Keep.refl⟩
  · rw [st]
    rcases app_get h with g | ⟨g, q⟩
    · obtain ⟨ov, h1, h2⟩ := w.rep i s g
      exact ⟨ov, by rw [List.getElem?_append_left (List.getElem?_eq_some_iff.mp h1).1]; exact h1, h2⟩
    · subst q
      exact ⟨none, by rw [g, el]; simp, rfl, hs⟩
  · obtain ⟨a1, b1⟩ := sl h1 h3 h5
    obtain ⟨a2, b2⟩ := sl h2 h4 h6
    exact w.dis i j s t a a1 a2 h3 h4 b1 b2
  · obtain ⟨i, s, h1, h2, h3⟩ := q
    obtain ⟨a1, b1⟩ := sl h1 h2 h3
    exact hd a (bo_of a1 h2 b1) h.1
  · obtain ⟨a1, b1⟩ := sl h rfl g
    exact w.loc i d a a1 b1
  · obtain ⟨a1, b1⟩ := sl h rfl g
    exact .inl (w.locB i d a a1 b1)
theorem stoOf_at {cs : List D} (h : stoOf δ = some cs) : ∃ i : Nat, δ[i]? = some (.sto cs) := by
  unfold stoOf at h
  split at h
  · rename_i es e
    cases h
    rw [List.getLast?_eq_getElem?] at e
    exact ⟨_, e⟩
  · cases h
/-- what is passed back of the borrowed argument stands in its slot -/
theorem out_slot {bo : Option Nat} {vs : List V} {N : List Str} {m : D} {a : Addr} (w : Wd K (fxX bo R H vs N) R' H' δ σ) (hm : outOf bo δ = some m) (h : BoA bo vs a) : SlotA δ σ a ∧ ¬ R' a ∧ RepTop K R' H' m a := by
  obtain ⟨i, rfl, e⟩ := h
  unfold outOf at hm
  simp only at hm
  cases q : δ[i]? with
  | none => rw [q] at hm; cases hm
  | some s =>
    rw [q] at hm
    cases s with
    | brw d =>
      cases hm
      obtain ⟨ov, h1, h2⟩ := w.rep i _ q
      have h3 := w.muts i _ q
      have h4 : (fxX (some i) R H vs N).s0[i]? = some (some (.ref a)) := start_get e
      rw [h1, h4] at h3
      cases h3
      obtain ⟨b, e2, n, t⟩ := h2
      cases e2
      exact ⟨⟨i, _, q, rfl, h1⟩, n, t⟩
    | _ => cases hm
theorem end_x {bo : Option Nat} {vs : List V} {N : List Str} {m : D} {cs : List D} (w : Wd K (fxX bo R H vs N) R' H' δ σ) (hm : outOf bo δ = some m) (hs : stoOf δ = some cs) : EndX K bo R H vs m cs R' H' := by
  obtain ⟨i, hi⟩ := stoOf_at hs
  have cel : ∀ a ∈ R'.g, CelA R' δ a := fun a h => ⟨h, i, cs, hi⟩
  refine ⟨w.sub, fun a h => (w.new a h).1, fun a h => ?_, fun a o h n1 n2 => w.fr a o h fun z => z.elim n1 n2, w.alv, fun a h => (w.new a h).2, fun a h => ?_, w.stoOk hi⟩
  · rcases w.locC a (cel a h) with (z | z) | z
    · exact absurd (out_slot w hm z).1 (w.disC a (cel a h))
    · exact .inl z
    · exact .inr z
  · obtain ⟨z1, z2, z3⟩ := out_slot w hm h
    exact ⟨z2, fun q => w.disC a (cel a q) z1, z3⟩
theorem res_x {bo : Option Nat} {vs : List V} {N : List Str} {o : O} {v : V} {r : Ret} {cs : List D} (w : Wd K (fxX bo R H vs N) R' H' δ σ) (hs : stoOf δ = some cs) (ro : RepO K (fxX bo R H vs N) R' H' δ σ o v) (hr : resOf o δ = some r) : ResX K R' H H' r v := by
  obtain ⟨j, hj⟩ := stoOf_at hs
  have cel : ∀ a ∈ R'.g, CelA R' δ a := fun a h => ⟨h, j, cs, hj⟩
  cases o with
  | dat d => cases hr; exact ro
  | cel k => cases hr; exact ro
  | fre d =>
    cases hr
    obtain ⟨a, e, n, no, h0, t⟩ := ro
    exact ⟨a, e, n, fun z => no (.inr (cel a z)), h0, t⟩
  | own i =>
    simp only [resOf] at hr
    have ro' : σ[i]? = some (some v) := ro
    cases q : δ[i]? with
    | none => rw [q] at hr; cases hr
    | some s =>
      rw [q] at hr
      obtain ⟨ov, h1, h2⟩ := w.rep i _ q
      rw [ro'] at h1; cases h1
      cases s with
      | un => cases hr
      | sto d => cases hr
      | brw d => cases hr
      | val d => cases hr; exact h2
      | own d =>
        cases hr
        obtain ⟨a, e, n, t⟩ := h2
        subst e
        exact ⟨a, rfl, n, fun z => w.disC a (cel a z) ⟨i, _, q, rfl, ro'⟩, w.loc i d a q ro', t⟩
def endX (bo : Option Nat) : FlX → Option RX
  | .fl (.nx δ) => (outOf bo δ).bind fun m => (stoOf δ).bind fun cs => some (.ok (.dat .non) m cs)
  | .fl (.rt o δ) => (resOf o δ).bind fun r => (outOf bo δ).bind fun m => (stoOf δ).bind fun cs => some (.ok r m cs)
  | .xc e f d δ => (outOf bo δ).bind fun m => (stoOf δ).bind fun cs => some (.xc e f d m cs)
  | _ => none
def defX (bo : Option Nat) (n : Nat) (body : MSX) : FX := fun ds cs => if ((bo.all fun i => decide (i < ds.length)) && decide (ds.length ≤ n)) = true then (body (entryX bo ds n cs)).bind (endX bo) else none
end
section
variable {P : Program} {w : World} {K : PySem.W.Frag} {mg : Str → Option Value} {base : Heap}
/-- a def keeps the promise of its function on data -/
theorem fn_x {x qual : Str} {st : Stmt} {f : Addr} {fd : FuncData} {N ps : List Str} {nm : Str} {k : Nat} {bo : Option Nat} {t : WX → TS} {body : MSX} {ec : Nat → Addr} (F : L2.Fun K x qual st f fd) (S : FnScope (N ++ [nm]) ps (defScope st))
    (hb : ∀ (cdv : Value) (A : Around) (outer : List PySem.Env) (s : Shared) (H : Hp) (E : XK), DVG.Rm bb k (A.deeper (envOfC qual (defScope st) s.heap.objs.size f cdv)) →
      ∀ W, Takes (cxOf (L2.CX P w) P w K mg base (N ++ [nm]) qual (defScope st) f cdv A outer s H E) W → PSs (cxOf (L2.CX P w) P w K mg base (N ++ [nm]) qual (defScope st) f cdv A outer s H E) (defBody st) (t W))
    (he : EvXS K ec t body) : DVG.FnG bb P w K mg base (L2.CX P w) (k + 1) f fd ps (spX K ec bo ps.length (defX bo N.length body)) := by
  refine DVG.fnG F S (fun vs H Q E h => h.1) fun cdv A outer s H vs Q E hr h => ⟨t fun cls d _ H => E cls d H, hb cdv A outer s H E hr _ (takes_of rfl rfl rfl rfl), ?_⟩
  obtain ⟨hl, R, ds, cs, x, ha, ht, hs, hd, hF, q⟩ := h
  unfold defX at hF
  split at hF
  case isFalse => cases hF
  rename_i hbo
  rw [Bool.and_eq_true, decide_eq_true_eq] at hbo
  obtain ⟨fl, e1, hF⟩ := Option.bind_eq_some_iff.mp hF
  refine he (fun cls d _ H => E cls d H) (fxX bo R H vs (N ++ [nm])) R H _ _ fl (wd_entryX ha ht hs hd hbo.1 hbo.2) e1 _ ?_
  cases fl with
  | fl fl =>
    cases fl with
    | nx δ =>
      obtain ⟨m, e2, hF⟩ := Option.bind_eq_some_iff.mp hF
      obtain ⟨cs', e3, hF⟩ := Option.bind_eq_some_iff.mp hF
      cases hF
      exact fun σ' R' H' w' _ => q _ R' H' (end_x w' e2 e3) rfl
    | rt o δ =>
      obtain ⟨r, e4, hF⟩ := Option.bind_eq_some_iff.mp hF
      obtain ⟨m, e2, hF⟩ := Option.bind_eq_some_iff.mp hF
      obtain ⟨cs', e3, hF⟩ := Option.bind_eq_some_iff.mp hF
      cases hF
      exact fun v σ' R' H' w' _ ro => q v R' H' (end_x w' e2 e3) (res_x w' e3 ro e4)
    | bk δ => cases hF
    | ct δ => cases hF
  | xc e f d δ =>
    obtain ⟨m, e2, hF⟩ := Option.bind_eq_some_iff.mp hF
    obtain ⟨cs', e3, hF⟩ := Option.bind_eq_some_iff.mp hF
    cases hF
    exact fun σ' dd R' H' w' _ ex => q dd R' H' (end_x w' e2 e3) ex
end
end DV

/-! DXC: try with several clauses 'except X as e'. -/
namespace DVG
open PySem PySem.Spec PyProof.Rows L2
inductive HdsAs (X : Cx) (n : Str) : List ExceptHandler → List (Value × (Addr → Value → Option Addr → TS)) → Prop
  | nil : HdsAs X n [] []
  | cons {x : Str} {c : Value} {ts : Addr → Value → Option Addr → TS} {b₀ : Stmt} {suite : List Stmt} {np pos' : Pos} {hds : List ExceptHandler} {l : List (Value × (Addr → Value → Option Addr → TS))} (hc : Names X x c)
      (hsu : ∀ (a : Addr) (oe : Obj) (cls : Value) (d : Option Addr) (pn : List (Addr × Obj)), Zc cls d oe → (∃ vs, oe.data = .fields vs) → PSs (X.suite a ((a, oe) :: pn)) (b₀ :: suite) (ts a cls d)) (r : HdsAs X n hds l) :
      HdsAs X n (.ExceptHandler (some (.Name x np)) (some n) (b₀ :: suite) pos' :: hds) ((c, ts) :: l)
section
variable {X : Cx} {n : Str} {i : Nat} {body : List Stmt} {h₀ : ExceptHandler} {hds : List ExceptHandler} {l : List (Value × (Addr → Value → Option Addr → TS))} {pos : Pos} {tb : WX → TS} {Wout : WX}
end
/-! ### an own exception class's __init__: self.f = value -/
/-- what it keeps -/
def spE (K : PySem.W.Frag) (f : Str) : Sp := fun vs H Q _ => ∃ (a C : Addr) (v : V), vs = [.ref a, v] ∧ OexC K C ∧ PySem.W.findIn K (.ref C) f = some none ∧ H a = some (exo a C none) ∧
  ∀ dx, H dx = none → dx ≠ a → Q .non (upd (upd H dx (exd dx [(f, v)])) a (exo a C (some dx)))
section
variable {P : Program} {w : World} {K : PySem.W.Frag} {mg : Str → Option Value} {base : Heap}
theorem fn_exc {x qual : Str} {st : Stmt} {fa : Addr} {fd : FuncData} {N ps : List Str} {f : Str} {k : Nat} (F : L2.Fun K x qual st fa fd) (S : FnScope N ps (defScope st)) (hl : ps.length = 2) (hN : N.length = 2)
    (hb : ∀ (cdv : Value) (A : Around) (outer : List PySem.Env) (s : Shared) (H : Hp) (E : XK), PSs (cxOf (L2.CX P w) P w K mg base N qual (defScope st) fa cdv A outer s H E) (defBody st) (tSeq (tOst K f (tVar 0) (tVar 1)) tNext)) :
    FnOk P w K mg base (L2.CX P w) (k + 1) fa fd ps (spE K f) := by
  refine F.okX S (fun vs H Q E ⟨a, C, v, e, _⟩ => by rw [e, hl]; rfl) fun cdv A outer s H vs Q E _ h => ⟨_, hb cdv A outer s H E, ?_⟩
  obtain ⟨a, C, v, e, T, hno, ha, q⟩ := h
  subst e
  have st0 : (L2.start N [V.ref a, v])[0]? = some (some (.ref a)) := by unfold L2.start; rfl
  have st1 : (L2.start N [V.ref a, v])[1]? = some (some v) := by unfold L2.start; rfl
  exact ⟨v, st1, .ref a, st0, a, C, rfl, T, hno, .inl ⟨ha, fun dx n1 n2 => q dx n1 n2⟩⟩
end
end DVG

/-! DXD: statements that may raise: rules; raise; try. -/
namespace DV
open PySem PySem.Spec PyProof.Rows L2
section
variable {K : PySem.W.Frag} {ec : Nat → Addr} {F : Fx} {R R1 R' : Reg} {H H1 H' : Hp} {δ δ1 δ' : Env} {σ σ' : L2.St}
theorem ExOk.keep {W : WX} {e : Nat} {f : Str} {d : D} (k : Keep R H R1 H1) (h : ExOk K ec F R H W e f d δ) : ExOk K ec F R1 H1 W e f d δ := fun σ' dd R' H' w k' x => h σ' dd R' H' w (k.trans k') x
theorem FlXOk.keep {W : WX} {E : L2.Ends} {x : FlX} (k : Keep R H R1 H1) (h : FlXOk K ec F R H W E x) : FlXOk K ec F R1 H1 W E x := by
  cases x with
  | fl x => exact FlOk.keep k h
  | xc e f d δ => exact ExOk.keep k h
theorem ExcX.keep {f : Str} {d : D} {dd : Addr} (w : Wd K F R H δ σ) (x : Ext δ δ' σ R H R' H') (h : ExcX K R H f d dd) : ExcX K R' H' f d dd := by
  obtain ⟨v, h1, h2⟩ := h
  refine ⟨v, x.frame dd _ h1 fun z => ?_, h2.keep (x.keep w)⟩
  rcases z with ⟨i, s, e, ho, hs⟩ | ⟨hm, i, ds, e⟩
  · obtain ⟨ov, e2, r⟩ := w.rep i s e
    rw [hs] at e2; cases e2
    have key : ∀ d', RepTop K R H d' dd → False := fun d' t => by
      cases d' with
      | lst ds => obtain ⟨vs, q, _⟩ := t; rw [h1] at q; cases q
      | ins C ks ds => obtain ⟨dx, vs, q, _⟩ := t; rw [h1] at q; cases q
      | dic ks ds => obtain ⟨vs, q, _⟩ := t; rw [h1] at q; cases q
      | dit ks ds => obtain ⟨vs, q, _⟩ := t; rw [h1] at q; cases q
      | _ => exact t
    cases s with
    | un => cases ho
    | val _ => cases ho
    | sto _ => cases r.1
    | own d' => obtain ⟨b, q, n, t⟩ := r; cases q; exact key d' t
    | brw d' => obtain ⟨b, q, n, t⟩ := r; cases q; exact key d' t
  · obtain ⟨k, d', _, _, n, t⟩ := (w.stoOk e).get hm
    cases d' with
    | lst ds => obtain ⟨vs, q, _⟩ := t; rw [h1] at q; cases q
    | ins C ks ds => obtain ⟨dx, vs, q, _⟩ := t; rw [h1] at q; cases q
    | dic ks ds => obtain ⟨vs, q, _⟩ := t; rw [h1] at q; cases q
    | dit ks ds => obtain ⟨vs, q, _⟩ := t; rw [h1] at q; cases q
    | _ => exact t
/-! ### lifts -/
def liftX (f : ME) : MEX := fun δ => match f δ with
  | some (o, δ') => some (.ok o δ')
  | none => none
def liftXS (f : MS) : MSX := fun δ => match f δ with
  | some x => some (.fl x)
  | none => none
theorem xs_lift {t : TS} {f : MS} (h : EvS K t f) : EvXS K ec (fun _ => t) (liftXS f) := fun W F R H δ σ x w hf E q => by
  unfold liftXS at hf
  split at hf
  · rename_i y e; cases hf; exact h F R H δ σ y w e E q
  · cases hf
/-! ### statements -/
def seqX (f g : MSX) : MSX := fun δ => match f δ with
  | some (.fl (.nx δ')) => g δ'
  | x => x
def nextX : MSX := fun δ => some (.fl (.nx δ))
def ifX (c : MT) (f g : MSX) : MSX := fun δ => match c δ with
  | some (true, δ') => f δ'
  | some (false, δ') => g δ'
  | none => none
def retX (f : MEX) : MSX := fun δ => match f δ with
  | some (.ok o δ') => some (.fl (.rt o δ'))
  | some (.xc e f d δ') => some (.xc e f d δ')
  | none => none
def dropX (f : MEX) : MSX := fun δ => match f δ with
  | some (.ok _ δ') => some (.fl (.nx δ'))
  | some (.xc e f d δ') => some (.xc e f d δ')
  | none => none
def asgO (i : Nat) (o : O) (δ : Env) : Option FlX := match o with
  | .dat d => some (.fl (.nx (δ.set i (.val d))))
  | .fre d => some (.fl (.nx (δ.set i (.own d))))
  | .cel k => some (.fl (.nx (δ.set i (.val (.cel k)))))
  | .own j => match solid (.own j) δ with
    | some (d, δ2) => some (.fl (.nx (δ2.set i (.val d))))
    | none => none
def asgX (i : Nat) (f : MEX) : MSX := fun δ => match f δ with
  | some (.ok o δ') => asgO i o δ'
  | some (.xc e f d δ') => some (.xc e f d δ')
  | none => none
/-- a, b = f(..) -/
def letX (f : MEX) (g : MG) : MSX := fun δ => match f δ with
  | some (.ok o δ') => match solid o δ' with
    | some (d, δ2) => match g d δ2 with
      | some δ3 => some (.fl (.nx δ3))
      | none => none
    | none => none
  | some (.xc e f d δ') => some (.xc e f d δ')
  | none => none
/-! ### for -/
def loopX (g : MG) (b : MSX) : List D → MSX
  | [], δ => some (.fl (.nx δ))
  | d :: r, δ => match g d δ with
    | none => none
    | some δ1 => match b δ1 with
      | none => none
      | some (.fl (.nx δ2)) => loopX g b r δ2
      | some (.fl (.ct δ2)) => loopX g b r δ2
      | some (.fl (.bk δ2)) => some (.fl (.nx δ2))
      | some (.fl (.rt o δ2)) => some (.fl (.rt o δ2))
      | some (.xc e f d δ2) => some (.xc e f d δ2)
def forX (fi : MI) (g : MG) (b : MSX) : MSX := fun δ => match fi δ with
  | some p => loopX g b p.1 p.2
  | none => none
/-! ### raise -/
def raiseX (e : Nat) (f : Str) (fe : MD) : MSX := fun δ => match fe δ with
  | some (d, δ') => some (.xc e f d δ')
  | none => none
end
end DV

/-! DXE: try on data; calls of defs that may raise, on data. -/
namespace DV
open PySem PySem.Spec PyProof.Rows L2
section
variable {K : PySem.W.Frag} {ec : Nat → Addr} {F : Fx} {R R1 R' : Reg} {H H1 H' Hc : Hp} {δ δ1 δ' : Env} {σ σ' : L2.St}
/-! ### try -/
/-- a suite: f, d is what the exception holds; slot i its name's -/
def EvUS (K : PySem.W.Frag) (i : Nat) (ts : Addr → Value → Option Addr → TS) (C : Addr) (f : Str) (d : D) (g : MS) : Prop := ∀ F R H δ σ fl a dd, Wd K F R H δ σ → σ[i]? = some (some (V.ref a)) → ExcX K R H f d dd → g δ = some fl → ∀ E : L2.Ends, FlOk K F R H fl E → ts a (.ref C) (some dd) E σ H
/-- e.f -/
def fldU (f0 f : Str) (d : D) : ME := fun δ => if f0 = f then some (.dat d, δ) else none
inductive HdU (K : PySem.W.Frag) (ec : Nat → Addr) (i : Nat) : List (Value × (Addr → Value → Option Addr → TS)) → List (Nat × List Nat × (Str → D → MS)) → Prop
  | nil : HdU K ec i [] []
  | cons {e0 : Nat} {es : List Nat} {ts : Addr → Value → Option Addr → TS} {g : Str → D → MS} {l : List (Value × (Addr → Value → Option Addr → TS))} {r : List (Nat × List Nat × (Str → D → MS))}
      (tb : ∀ e ∈ es, PySem.W.exmOne K (.ref (ec e)) (.ref (ec e0)) = some (decide (e = e0))) (hs : ∀ f d, EvUS K i ts (ec e0) f d (g f d)) (t : HdU K ec i l r) : HdU K ec i ((.ref (ec e0), ts) :: l) ((e0, es, g) :: r)
def offF (i : Nat) : Fl → FlX
  | .nx δ => .fl (.nx (δ.set i .un))
  | .rt o δ => .fl (.rt o δ)
  | .bk δ => .fl (.bk (δ.set i .un))
  | .ct δ => .fl (.ct (δ.set i .un))
def catchX (i : Nat) : List (Nat × List Nat × (Str → D → MS)) → Nat → Str → D → Env → Option FlX
  | [], e, f, d, δ => some (.xc e f d δ)
  | (e0, es, g) :: r, e, f, d, δ => if e ∈ es then if e = e0 then (if i < δ.length then match g f d (δ.set i .un) with | some fl => some (offF i fl) | none => none else none) else catchX i r e f d δ else none
def tryX (i : Nat) (r : List (Nat × List Nat × (Str → D → MS))) (b : MSX) : MSX := fun δ => match b δ with
  | some (.xc e f d δ1) => catchX i r e f d δ1
  | x => x
/-! ### the world behind a call -/
theorem call_worldX {bo : Option Nat} {p : Nat} {cs cs' : List D} {vs : List V} {m : D} (w : Wd K F R H δ σ) (hp : δ[p]? = some (.sto cs)) (g : Grow H Hc) (hB : ∀ a, BoA bo vs a → H a = none) (hc : ∀ a, R a → Hc a ≠ none) (de : EndX K bo R Hc vs m cs' R' H') :
    Wd K F R' H' (δ.set p (.sto cs')) σ ∧ Ext δ (δ.set p (.sto cs')) σ R H R' H' ∧ ∀ a, SlotA (δ.set p (.sto cs')) σ a → SlotA δ σ a := by
  have back : ∀ a, Hc a = none → H a = none := fun a h => by
    cases e : H a with
    | none => rfl
    | some o => rw [g a o e] at h; cases h
  have cel : ∀ a ∈ R.g, CelA R δ a := fun a h => ⟨h, p, cs, hp⟩
  have hpl := (List.getElem?_eq_some_iff.mp hp).1
  have hpn : σ[p]? = some none := by
    obtain ⟨ov, h1, h2⟩ := w.rep p _ hp
    rw [h1, h2.1]
  have gone : ∀ (i : Nat) (s : Sl), (δ.set p (.sto cs'))[i]? = some s → (i = p ∧ s = .sto cs') ∨ (i ≠ p ∧ δ[i]? = some s) := fun i s h => by
    rcases set_get h with ⟨q1, q2⟩ | ⟨q1, q2⟩
    · exact .inl ⟨q1.symm, q2⟩
    · exact .inr ⟨fun z => q1 z.symm, q2⟩
  have sl : ∀ a, SlotA (δ.set p (.sto cs')) σ a → SlotA δ σ a := fun a ⟨i, s, h1, h2, h3⟩ => by
    rcases gone i s h1 with ⟨z, _⟩ | ⟨_, z⟩
    · rw [z, hpn] at h3; cases h3
    · exact ⟨i, s, z, h2, h3⟩
  have fr : ∀ a o, H a = some o → a ∉ R.g → H' a = some o := fun a o h n => de.frame a o (g a o h) (fun z => by rw [hB a z] at h; cases h) n
  have ex : Ext δ (δ.set p (.sto cs')) σ R H R' H' := by
    refine ⟨de.sub, fun a h => (de.fresh a h).imp id fun z => .inl (back a z), fun a o h n => fr a o h fun z => n (.inr (cel a z)), fun a h => ?_, fun a h => ?_⟩
    · rcases h with h | ⟨h, _⟩
      · exact .inl (.inl (sl a h))
      · exact (de.freshC a h).imp (fun z => .inr (cel a z)) (back a)
    · cases e : H a with
      | none => exact absurd e h
      | some o => exact de.alv a (by rw [g a o e]; exact fun z => by cases z)
  have kp := ex.keep w
  have slF : ∀ a, SlotA δ σ a → ¬ R' a ∧ H' a = H a := fun a h => by
    obtain ⟨n, o, ho, _⟩ := w.slotAt h
    refine ⟨fun z => ?_, by rw [ho]; exact fr a o ho fun z => w.disC a (cel a z) h⟩
    rcases de.fresh a z with z | z
    · exact n z
    · rw [back a z] at ho; cases ho
  refine ⟨⟨fun i s h => ?_, by rw [List.length_set]; exact w.len, fun i j s t a h1 h2 h3 h4 h5 h6 => ?_, fun a h q => ?_, fun i d a h q => ?_, fun i d a h q => ?_, fun a h => ?_, fun i j ds es h1 h2 => ?_, fun h => ?_, w.frE ex, w.sub.trans de.sub, fun a h => ⟨?_, de.tr a h⟩, fun i d h => ?_, fun a h => ex.alv a (w.alv a h), w.kp.trans kp⟩, ex, sl⟩
  · rcases gone i s h with ⟨z1, z2⟩ | ⟨z1, z2⟩
    · subst z1; subst z2
      exact ⟨none, hpn, rfl, de.sto⟩
    · obtain ⟨ov, h1, h2⟩ := w.rep i s z2
      have ng : s.gh = true → False := fun hg => by
        cases s with
        | sto ds => exact z1 (w.one i p ds cs z2 hp).1
        | _ => cases hg
      refine ⟨ov, h1, h2.keep kp (fun hg => (ng hg).elim) (fun hg => (ng hg).elim) fun a ho hv => slF a ⟨i, s, z2, ho, by rw [h1, hv]⟩⟩
  · rcases gone i s h1 with ⟨z, _⟩ | ⟨_, z1⟩
    · rw [z, hpn] at h5; cases h5
    · rcases gone j t h2 with ⟨z, _⟩ | ⟨_, z2⟩
      · rw [z, hpn] at h6; cases h6
      · exact w.dis i j s t a z1 z2 h3 h4 h5 h6
  · have q' := sl a q
    rcases de.freshC a h.1 with z | z
    · exact w.disC a (cel a z) q'
    · obtain ⟨_, o, ho, _⟩ := w.slotAt q'
      rw [back a z] at ho; cases ho
  · rcases gone i _ h with ⟨_, z⟩ | ⟨_, z⟩
    · cases z
    · exact w.loc i d a z q
  · rcases gone i _ h with ⟨_, z⟩ | ⟨_, z⟩
    · cases z
    · exact w.locB i d a z q
  · rcases de.freshC a h.1 with z | z
    · exact w.locC a (cel a z)
    · exact .inr (w.H0none (back a z))
  · have tr := (w.one p p cs cs hp hp).2
    refine ⟨?_, tr⟩
    rcases gone i _ h1 with ⟨z1, _⟩ | ⟨z1, z⟩
    · rcases gone j _ h2 with ⟨z2, _⟩ | ⟨z2, z'⟩
      · rw [z1, z2]
      · exact absurd (w.one j p es cs z' hp).1 z2
    · exact absurd (w.one i p ds cs z hp).1 z1
  · have tr := (w.one p p cs cs hp hp).2
    rw [tr] at h; cases h
  · rcases de.fresh a h with z | z
    · exact (w.new a z).1
    · exact .inr (w.H0none (back a z))
  · rcases gone i _ h with ⟨_, z⟩ | ⟨_, z⟩
    · cases z
    · exact w.muts i d z
/-! ### calls: arguments are values -/
def putSto (δ : Env) (cs : List D) : Env := δ.set (δ.length - 1) (.sto cs)
def resXO (δ : Env) : Option RX → Option XO
  | some (.ok r _ cs) => some (.ok r.o (putSto δ cs))
  | some (.xc e f d _ cs) => some (.xc e f d (putSto δ cs))
  | none => none
def callD (n : Nat) (f : FX) (ds : List D) (δ : Env) : Option XO := if ds.length = n then match stoOf δ with
  | some cs => resXO δ (f ds cs)
  | none => none else none
theorem call_datX {n : Nat} {f : FX} {ds : List D} {vs : List V} {x : XO} {W : WX} {δ0 : Env} {R0 : Reg} {H0 : Hp} (w0 : Wd K F R0 H0 δ0 σ) (x0 : Ext δ0 δ σ R0 H0 R H) (w : Wd K F R H δ σ) (rv : RepVs K R H ds vs) (h : callD n f ds δ = some x) (Q : VK) (q : XoOk K ec F R0 H0 δ0 σ W Q x) : spX K ec none n f vs H Q (WE W σ) := by
  unfold callD at h
  split at h
  case isFalse => cases h
  rename_i hn
  cases e1 : stoOf δ with
  | none => rw [e1] at h; cases h
  | some cs =>
  rw [e1] at h
  dsimp only at h
  have hp := stoOf_last e1
  cases e2 : f ds cs with
  | none => rw [e2] at h; cases h
  | some y =>
  rw [e2] at h
  refine ⟨by rw [← rv.length]; exact hn, R, ds, cs, y, ⟨rv.length, fun i d v h1 h2 => ⟨(fun z => by cases z), fun _ => ?_⟩⟩, fun a h => (w.new a h).2, w.stoOk hp, (fun a ⟨i, z, _⟩ => by cases z), e2, ?_⟩
  · obtain ⟨v', h3, h4⟩ := rv.get (i := i) (d := d) h1
    have : v' = v := by rw [h3] at h2; exact Option.some.inj h2
    subst this
    exact h4
  · cases y with
    | ok r m cs' =>
      cases h
      intro v R' H' de res
      obtain ⟨w2, x2, sl⟩ := call_worldX w hp (fun _ _ h => h) (fun a ⟨i, z, _⟩ => by cases z) (fun a h => (w.new a h).2) de
      cases r with
      | dat d => exact q v R' H' w2 (x0.trans x2) res trivial
      | fre d =>
        obtain ⟨a, e, n1, n2, n3, t⟩ := res
        refine q v R' H' w2 (x0.trans x2) ⟨a, e, n1, fun z => ?_, w.H0none n3, t⟩ fun b e' => by rw [e] at e'; cases e'; exact x0.back n3
        rcases z with z | ⟨z, _⟩
        · obtain ⟨_, o, ho, _⟩ := w.slotAt (sl a z)
          rw [n3] at ho; cases ho
        · exact n2 z
    | xc e f d m cs' =>
      cases h
      intro dd R' H' de ex
      obtain ⟨w2, x2, sl⟩ := call_worldX w hp (fun _ _ h => h) (fun a ⟨i, z, _⟩ => by cases z) (fun a h => (w.new a h).2) de
      exact q dd R' H' w2 (x0.trans x2) ex
/-- f(e, ..) -/
def callXE (n : Nat) (f : FX) (dms : List D) (fa : MAD) : MEX := fun δ => match fa δ with
  | some (ds, δ') => callD n f (ds ++ dms) δ'
  | none => none
/-- f(e, .., k = v, ..) -/
def callNXE (idx : List Nat) (n m np : Nat) (f : FX) (dms : List D) (fa fk : MAD) : MEX := fun δ => match fa δ with
  | some (ds, δ1) => match fk δ1 with
    | some (zs, δ2) => if (decide (ds.length = n) && decide (zs.length = m)) = true then callD np f (pick idx (ds ++ (dms ++ zs))) δ2 else none
    | none => none
  | none => none
/-- o.m(e, ..) -/
def methXE (C : Addr) (m : Str) (n : Nat) (f : FX) (dms : List D) (fo : MD) (fa : MAD) : MEX := fun δ => match fo δ with
  | some (d, δ1) => if insB C m d = true then match fa δ1 with
    | some (ds, δ2) => callD n f (d :: (ds ++ dms)) δ2
    | none => none else none
  | none => none
end
end DV

/-! DXM: C(..) whose __init__ may raise; functions of pure defs beside. -/
namespace DV
open PySem PySem.Spec PyProof.Rows L2
section
variable {K : PySem.W.Frag} {ec : Nat → Addr} {F : Fx} {R R1 R' : Reg} {H H1 H' Hc : Hp} {δ δ1 δ' : Env} {σ σ' : L2.St}
def resMk (δ : Env) : Option RX → Option XO
  | some (.ok (.dat .non) m cs) => some (.ok (.fre m) (putSto δ cs))
  | some (.xc e f d _ cs) => some (.xc e f d (putSto δ cs))
  | _ => none
def makeXE (C : Addr) (n : Nat) (f : FX) (dms : List D) (fa : MAD) : MEX := fun δ => match fa δ with
  | some (ds, δ1) => if (ds ++ dms).length + 1 = n then match stoOf δ1 with
    | some cs => resMk δ1 (f (.ins C [] [] :: (ds ++ dms)) cs)
    | none => none else none
  | none => none
/-! ### displays of what may raise -/
inductive XA where
  | ok (ds : List D) (δ : Env) | xc (e : Nat) (f : Str) (d : D) (δ : Env)
abbrev MAX := Env → Option XA
def liftXA (f : MAD) : MAX := fun δ => match f δ with
  | some (ds, δ') => some (.ok ds δ')
  | none => none
def consXA (f : MEX) (g : MAX) : MAX := fun δ => match f δ with
  | some (.ok o δ1) => match solid o δ1 with
    | some (d, δ2) => match g δ2 with
      | some (.ok ds δ3) => some (.ok (d :: ds) δ3)
      | x => x
    | none => none
  | some (.xc e f d δ1) => some (.xc e f d δ1)
  | none => none
end
end DV

/-! DXN: cells: what is new becomes a cell; what a cell holds is read and changed. -/
namespace DV
open PySem PySem.Spec PyProof.Rows L2
section
variable {K : PySem.W.Frag} {ec : Nat → Addr} {F : Fx} {R R1 R' : Reg} {H H1 H' Hc : Hp} {δ δ1 δ' : Env} {σ σ' : L2.St}
/-- the slots that are left as they stand, the store's apart -/
theorem sto_gone {p : Nat} {cs : List D} {i : Nat} {s : Sl} (h : (δ.set p (.sto cs))[i]? = some s) : (i = p ∧ s = .sto cs) ∨ (i ≠ p ∧ δ[i]? = some s) := by
  rcases set_get h with ⟨q1, q2⟩ | ⟨q1, q2⟩
  · exact .inl ⟨q1.symm, q2⟩
  · exact .inr ⟨fun z => q1 z.symm, q2⟩
theorem sto_slot {p : Nat} {cs cs' : List D} (w : Wd K F R H δ σ) (hp : δ[p]? = some (.sto cs)) {a : Addr} (h : SlotA (δ.set p (.sto cs')) σ a) : SlotA δ σ a := by
  obtain ⟨i, s, h1, h2, h3⟩ := h
  obtain ⟨ov, z1, z2⟩ := w.rep p _ hp
  rcases sto_gone h1 with ⟨z, _⟩ | ⟨_, z⟩
  · rw [z, z1, z2.1] at h3; cases h3
  · exact ⟨i, s, z, h2, h3⟩
def CelAdd (R : Reg) (a : Addr) : Reg := ⟨R.P, R.g ++ [a]⟩
/-- what is new becomes a cell -/
theorem Wd.cell (w : Wd K F R H δ σ) {p : Nat} {cs : List D} {d : D} {a : Addr} (hp : δ[p]? = some (.sto cs)) (n : ¬ R a) (no : ¬ OwnA R δ σ a) (h0 : F.H0 a = none) (t : RepTop K R H d a) :
    Wd K F (CelAdd R a) H (δ.set p (.sto (cs ++ [d]))) σ ∧ SubR R (CelAdd R a) ∧ RepV K (CelAdd R a) H (.cel cs.length) (.ref a) ∧ ∀ b, OwnA (CelAdd R a) (δ.set p (.sto (cs ++ [d]))) σ b → OwnA R δ σ b ∨ b = a := by
  have so := w.stoOk hp
  have cel : ∀ b ∈ R.g, CelA R δ b := fun b h => ⟨h, p, cs, hp⟩
  have sub : SubR R (CelAdd R a) := ⟨fun _ h => h, fun k b h => by
    show (R.g ++ [a])[k]? = some b
    rw [List.getElem?_append_left (List.getElem?_eq_some_iff.mp h).1]; exact h⟩
  have kp : Keep R H (CelAdd R a) H := ⟨sub, fun _ _ _ h => h, fun _ _ h => h, fun _ _ _ h => h⟩
  obtain ⟨ov, hpn, hz⟩ := w.rep p _ hp
  have hpl := (List.getElem?_eq_some_iff.mp hp).1
  have tr := (w.one p p cs cs hp hp).2
  have mem : ∀ b, b ∈ (CelAdd R a).g → b ∈ R.g ∨ b = a := fun b h => by
    rcases List.mem_append.mp h with h | h
    · exact .inl h
    · exact .inr (List.mem_singleton.mp h)
  have at' : (R.g ++ [a])[cs.length]? = some a := by rw [so.len]; simp
  refine ⟨⟨fun i s h => ?_, by rw [List.length_set]; exact w.len, fun i j s u b h1 h2 h3 h4 h5 h6 => ?_, fun b h q => ?_, fun i d' b h q => ?_, fun i d' b h q => ?_, fun b h => ?_, fun i j ds es h1 h2 => ?_, fun h => (by rw [tr] at h; cases h), w.fr, w.sub.trans sub, w.new, fun i d' h => ?_, w.alv, w.kp.trans kp⟩, sub, ⟨a, rfl, at'⟩, fun b h => ?_⟩
  · rcases sto_gone h with ⟨z1, z2⟩ | ⟨z1, z2⟩
    · subst z1; subst z2
      refine ⟨ov, hpn, hz.1, ⟨?_, ?_, fun b hb => ?_, fun k d' b h1 h2 => ?_⟩⟩
      · show (cs ++ [d]).length = (R.g ++ [a]).length
        rw [List.length_append, List.length_append, so.len]; rfl
      · refine List.nodup_append.mpr ⟨so.nd, by simp, fun x hx y hy => ?_⟩
        rw [List.mem_singleton] at hy
        subst hy
        intro e
        subst e
        exact no (.inr (cel _ hx))
      · rcases mem b hb with z | z
        · exact so.nr b z
        · rw [z]; exact n
      · rcases app_get h1 with g | ⟨g, q⟩
        · have hk := (List.getElem?_eq_some_iff.mp g).1
          have h2' : (R.g ++ [a])[k]? = some b := h2
          rw [List.getElem?_append_left (by rw [← so.len]; exact hk)] at h2'
          exact (so.top k d' b g h2').keep kp rfl
        · subst g; subst q
          have h2' : (R.g ++ [a])[cs.length]? = some b := h2
          rw [at'] at h2'; cases h2'
          exact t.keep kp rfl
    · obtain ⟨ov', h1, h2⟩ := w.rep i s z2
      have ng : s.gh = true → False := fun hg => by
        cases s with
        | sto ds => exact z1 (w.one i p ds cs z2 hp).1
        | _ => cases hg
      exact ⟨ov', h1, h2.keep kp (fun hg => (ng hg).elim) (fun hg => (ng hg).elim) fun b ho hv => ⟨(w.slotAt ⟨i, s, z2, ho, by rw [h1, hv]⟩).1, rfl⟩⟩
  · rcases sto_gone h1 with ⟨z, _⟩ | ⟨_, z1⟩
    · rw [z, hpn, hz.1] at h5; cases h5
    · rcases sto_gone h2 with ⟨z, _⟩ | ⟨_, z2⟩
      · rw [z, hpn, hz.1] at h6; cases h6
      · exact w.dis i j s u b z1 z2 h3 h4 h5 h6
  · have q' := sto_slot w hp q
    rcases mem b h.1 with z | z
    · exact w.disC b (cel b z) q'
    · subst z; exact no (.inl q')
  · rcases sto_gone h with ⟨_, z⟩ | ⟨_, z⟩
    · cases z
    · exact w.loc i d' b z q
  · rcases sto_gone h with ⟨_, z⟩ | ⟨_, z⟩
    · cases z
    · exact w.locB i d' b z q
  · rcases mem b h.1 with z | z
    · exact w.locC b (cel b z)
    · subst z; exact .inr h0
  · refine ⟨?_, tr⟩
    rcases sto_gone h1 with ⟨z1, _⟩ | ⟨z1, z⟩
    · rcases sto_gone h2 with ⟨z2, _⟩ | ⟨z2, z'⟩
      · rw [z1, z2]
      · exact absurd (w.one j p es cs z' hp).1 z2
    · exact absurd (w.one i p ds cs z hp).1 z1
  · rcases sto_gone h with ⟨_, z⟩ | ⟨_, z⟩
    · cases z
    · exact w.muts i d' z
  · rcases h with h | h
    · exact .inl (.inl (sto_slot w hp h))
    · exact (mem b h.1).imp (fun z => .inr (cel b z)) id
/-- e, as a new cell -/
def promE (f : ME) : ME := fun δ => match f δ with
  | some (.fre d, δ1) => match stoOf δ1 with
    | some cs => some (.dat (.cel cs.length), putSto δ1 (cs ++ [d]))
    | none => none
  | x => x
theorem ev_prom {te : TE} {f : ME} (h : Ev K te f) : Ev K te (promE f) := fun F R H δ σ o δ' w hf Q q => by
  unfold promE at hf
  cases e : f δ with
  | none => rw [e] at hf; cases hf
  | some p =>
    obtain ⟨o1, δ1⟩ := p
    rw [e] at hf
    refine h F R H δ σ o1 δ1 w e _ fun v R1 H1 w1 x1 r1 f1 => ?_
    cases o1 with
    | fre d =>
      dsimp only at hf
      cases e2 : stoOf δ1 with
      | none => rw [e2] at hf; cases hf
      | some cs =>
        rw [e2] at hf
        cases hf
        obtain ⟨a, ev, n, no, h0, t⟩ := r1
        obtain ⟨w2, sub, rv, ob⟩ := w1.cell (stoOf_last e2) n no h0 t
        subst ev
        refine q _ _ H1 w2 ⟨x1.sub.trans sub, x1.fresh, x1.frame, fun b hb => ?_, x1.alv⟩ rv trivial
        rcases ob b hb with z | z
        · exact x1.own b z
        · subst z; exact .inr (f1 b rfl)
    | dat d => cases hf; exact q v R1 H1 w1 x1 r1 f1
    | own i => cases hf; exact q v R1 H1 w1 x1 r1 f1
    | cel k => cases hf; exact q v R1 H1 w1 x1 r1 f1
/-- a cell is looked into -/
def vwO : O → O
  | .dat (.cel k) => .cel k
  | o => o
def viewE (f : ME) : ME := fun δ => match f δ with
  | some (o, δ') => some (vwO o, δ')
  | none => none
theorem ev_view {te : TE} {f : ME} (h : Ev K te f) : Ev K te (viewE f) := fun F R H δ σ o δ' w hf Q q => by
  unfold viewE at hf
  split at hf
  · rename_i o1 δ1 e
    cases hf
    refine h F R H δ σ o1 _ w e Q fun v R' H' w' x' r f1 => q v R' H' w' x' ?_ ?_
    · cases o1 with
      | dat d => cases d <;> exact r
      | _ => exact r
    · cases o1 with
      | dat d => cases d <;> trivial
      | _ => exact f1
  · cases hf
/-! ### a cell is written -/
theorem Wd.writeC (w : Wd K F R H δ σ) {p k : Nat} {cs : List D} {l : Addr} {d : D} {o : HO} (hp : δ[p]? = some (.sto cs)) (hk : k < cs.length) (hl : R.g[k]? = some l) (t : RepTop K R (upd H l o) d l) :
    Wd K F R (upd H l o) (δ.set p (.sto (cs.set k d))) σ ∧ Ext δ (δ.set p (.sto (cs.set k d))) σ R H R (upd H l o) := by
  have so := w.stoOk hp
  have cel : ∀ b ∈ R.g, CelA R δ b := fun b h => ⟨h, p, cs, hp⟩
  have lm := List.mem_of_getElem? hl
  have oa : OwnA R δ σ l := .inr (cel l lm)
  obtain ⟨n, ta⟩ := w.ownAt oa
  obtain ⟨ov, hpn, hz⟩ := w.rep p _ hp
  have hpl := (List.getElem?_eq_some_iff.mp hp).1
  have tr := (w.one p p cs cs hp hp).2
  have alv : ∀ a, H a ≠ none → upd H l o a ≠ none := fun a h => by
    by_cases e : a = l
    · rw [e, upd_same]; exact fun q => by cases q
    · rw [upd_ne e]; exact h
  have kp := keep_upd (o := o) n ta
  have ex : Ext δ (δ.set p (.sto (cs.set k d))) σ R H R (upd H l o) := by
    refine ⟨SubR.refl, fun _ h => .inl h, fun a u h z => by rw [upd_ne (fun e => by subst e; exact z oa)]; exact h, fun a h => .inl ?_, alv⟩
    rcases h with h | h
    · exact .inl (sto_slot w hp h)
    · exact .inr (cel a h.1)
  refine ⟨⟨fun i s h => ?_, by rw [List.length_set]; exact w.len, fun i j s u b h1 h2 h3 h4 h5 h6 => ?_, fun b h q => w.disC b (cel b h.1) (sto_slot w hp q), fun i d' b h q => ?_, fun i d' b h q => ?_, fun b h => w.locC b (cel b h.1), fun i j ds es h1 h2 => ?_, w.gun, w.frE ex, w.sub, fun a h => ⟨(w.new a h).1, alv a (w.new a h).2⟩, fun i d' h => ?_, fun a h => alv a (w.alv a h), w.kp.trans kp⟩, ex⟩
  · rcases sto_gone h with ⟨z1, z2⟩ | ⟨z1, z2⟩
    · subst z1; subst z2
      refine ⟨ov, hpn, hz.1, ⟨by rw [List.length_set]; exact so.len, so.nd, so.nr, fun j d' b h1 h2 => ?_⟩⟩
      rcases set_get h1 with ⟨q1, q2⟩ | ⟨q1, q2⟩
      · subst q1; subst q2
        rw [hl] at h2; cases h2
        exact t
      · refine (so.top j d' b q2 h2).keep kp (upd_ne fun e => q1 ?_)
        subst e
        exact (List.getElem?_inj (List.getElem?_eq_some_iff.mp hl).1 so.nd).mp (hl.trans h2.symm)
    · obtain ⟨ov', h1, h2⟩ := w.rep i s z2
      have ng : s.gh = true → False := fun hg => by
        cases s with
        | sto ds => exact z1 (w.one i p ds cs z2 hp).1
        | _ => cases hg
      refine ⟨ov', h1, h2.keep kp (fun hg => (ng hg).elim) (fun hg => (ng hg).elim) fun b ho hv => ?_⟩
      have sb : SlotA δ σ b := ⟨i, s, z2, ho, by rw [h1, hv]⟩
      exact ⟨(w.slotAt sb).1, upd_ne fun e => by subst e; exact w.disC b (cel b lm) sb⟩
  · rcases sto_gone h1 with ⟨z, _⟩ | ⟨_, z1⟩
    · rw [z, hpn, hz.1] at h5; cases h5
    · rcases sto_gone h2 with ⟨z, _⟩ | ⟨_, z2⟩
      · rw [z, hpn, hz.1] at h6; cases h6
      · exact w.dis i j s u b z1 z2 h3 h4 h5 h6
  · rcases sto_gone h with ⟨_, z⟩ | ⟨_, z⟩
    · cases z
    · exact w.loc i d' b z q
  · rcases sto_gone h with ⟨_, z⟩ | ⟨_, z⟩
    · cases z
    · exact w.locB i d' b z q
  · refine ⟨?_, tr⟩
    rcases sto_gone h1 with ⟨z1, _⟩ | ⟨z1, z⟩
    · rcases sto_gone h2 with ⟨z2, _⟩ | ⟨z2, z'⟩
      · rw [z1, z2]
      · exact absurd (w.one j p es cs z' hp).1 z2
    · exact absurd (w.one i p ds cs z hp).1 z1
  · rcases sto_gone h with ⟨_, z⟩ | ⟨_, z⟩
    · cases z
    · exact w.muts i d' z
/-- a method that changes the list or dict of a cell -/
def mutCE (ty : D → Bool) (g : D → List D → Option (D × D)) (fo : ME) (fa : MAD) : ME := fun δ => match fo δ with
  | some (.dat (.cel k), δ1) => match fa δ1 with
    | some (ds, δ2) => match stoOf δ1, stoOf δ2 with
      | some cs1, some cs => match cs1[k]?, cs[k]? with
        | some d1, some d0 => if ty d1 = true then match g d0 ds with
          | some (d', res) => some (.dat res, putSto δ2 (cs.set k d'))
          | none => none else none
        | _, _ => none
      | _, _ => none
    | none => none
  | _ => none
theorem ev_mutC {T : String} {ty : D → Bool} {r : V → List V → Hp → VK → Prop} {g : D → List D → Option (D × D)} {to : TE} {ta : TA} {fo : ME} {fa : MAD} (hT : ∀ R H d v, ty d = true → RepL K R H d v → tyV K T v H) (hm : MutOk K r g) (ho : Ev K to fo) (ha : EvAD K ta fa) :
    Ev K (tBM K T r to ta) (mutCE ty g fo fa) := fun F R H δ σ o δ' w hf Q q => by
  unfold mutCE at hf
  split at hf
  case h_2 => cases hf
  rename_i k δ1 e1
  split at hf
  case h_2 => cases hf
  rename_i ds δ2 e3
  split at hf
  case h_2 => cases hf
  rename_i cs1 cs s1 s2
  split at hf
  case h_2 => cases hf
  rename_i d1 d0 c1 c2
  split at hf
  case isFalse => cases hf
  rename_i hi
  split at hf
  case h_2 => cases hf
  rename_i d' res e5
  cases hf
  refine ho F R H δ σ _ δ1 w e1 _ fun x R1 H1 w1 x1 r1 f1 => ?_
  obtain ⟨l, ex, hl⟩ := r1
  subst ex
  refine ⟨hT R1 H1 d1 _ hi (.inr ⟨l, rfl, (w1.stoOk (stoOf_last s1)).top k d1 l c1 hl⟩), ?_⟩
  refine ha F R1 H1 δ1 σ ds δ2 w1 e3 _ fun vs R2 H2 w2 x2 r2 => ?_
  have hp := stoOf_last s2
  have hl2 := x2.sub.g k l hl
  have t := (w2.stoOk hp).top k d0 l c2 hl2
  have n : ¬ R2 l := (w2.stoOk hp).nr l (List.mem_of_getElem? hl2)
  refine hm R2 H2 d0 ds d' res l vs (fun o => keep_upd n t.at) t r2 e5 Q fun v o t1 t2 => ?_
  obtain ⟨w3, x3⟩ := w2.writeC hp (List.getElem?_eq_some_iff.mp c2).1 hl2 t1
  exact q v R2 _ w3 ((x1.trans x2).trans x3) t2 trivial
end
end DV

/-! DXW: pure defs asked about cells; the end of a law whose defs have a store. -/
namespace DV
open PySem PySem.Spec PyProof.Rows L2
section
variable {K : PySem.W.Frag} {ec : Nat → Addr} {F : Fx} {R R1 R' : Reg} {H H1 H' Hc : Hp} {δ δ1 δ' : Env} {σ σ' : L2.St}
/-! ### cells seen through -/
mutual
def unc (cs : List D) : D → D
  | .cel k => cs.getD k .non
  | .lst ds => .lst (uncs cs ds)
  | .ro ds => .ro (uncs cs ds)
  | .tup ds => .tup (uncs cs ds)
  | .ins C ks ds => .ins C ks (uncs cs ds)
  | .dic ks ds => .dic ks (uncs cs ds)
  | .dit ks ds => .dit ks (uncs cs ds)
  | d => d
def uncs (cs : List D) : List D → List D
  | [] => []
  | d :: ds => unc cs d :: uncs cs ds
end
theorem uncs_len (cs : List D) : ∀ ds : List D, (uncs cs ds).length = ds.length
  | [] => rfl
  | d :: ds => by rw [uncs, List.length_cons, List.length_cons, uncs_len cs ds]
/-- the region with its cells -/
def RegC (R : Reg) : Reg := ⟨fun a => R a ∨ a ∈ R.g, R.g⟩
theorem keepC : Keep R H (RegC R) H := ⟨⟨fun _ h => .inl h, fun _ _ h => h⟩, fun _ _ _ h => h, fun _ _ h => h, fun _ _ _ h => h⟩
mutual
theorem unc_rep {cs : List D} (so : StoOk K R H cs) : ∀ {d : D} {v : V}, RepV K R H d v → RepV K (RegC R) H (unc cs d) v
  | .non, _, h => h
  | .bl _, _, h => h
  | .int _, _, h => h
  | .str _, _, h => h
  | .con _, _, h => h
  | .lst ds, _, ⟨a, vs, e, r, h, g⟩ => ⟨a, vs, e, .inl r, h, uncs_rep so g⟩
  | .ro ds, _, ⟨a, vs, e, h, g⟩ => ⟨a, vs, e, h, uncs_rep so g⟩
  | .tup ds, _, ⟨a, vs, e, h, g⟩ => ⟨a, vs, e, h, uncs_rep so g⟩
  | .ins C ks ds, _, ⟨a, dx, vs, e, r, h, l, g⟩ => ⟨a, dx, vs, e, .inl r, h, l.trans (uncs_len cs ds).symm, uncs_rep so g⟩
  | .dic ks ds, _, ⟨a, vs, e, r, h, l, g⟩ => ⟨a, vs, e, .inl r, h, l.trans (uncs_len cs ds).symm, uncs_rep so g⟩
  | .dit ks ds, _, ⟨a, vs, e, r, h, l, g⟩ => ⟨a, vs, e, .inl r, h, l.trans (uncs_len cs ds).symm, uncs_rep so g⟩
  | .cel k, v, ⟨a, e, h⟩ => by
    have hk : k < cs.length := by rw [so.len]; exact (List.getElem?_eq_some_iff.mp h).1
    have e2 : cs[k]? = some (cs.getD k .non) := by simp [hk]
    subst e
    show RepV K (RegC R) H (cs.getD k .non) (.ref a)
    exact ((so.top k _ a e2 h).keep keepC rfl).val (.inr (List.mem_of_getElem? h))
  | .exc _ _ _, _, h => h.keep keepC
theorem uncs_rep {cs : List D} (so : StoOk K R H cs) : ∀ {ds : List D} {vs : List V}, RepVs K R H ds vs → RepVs K (RegC R) H (uncs cs ds) vs
  | [], _, h => h
  | d :: ds, _, ⟨v, r, e, h, g⟩ => ⟨v, r, e, unc_rep so h, uncs_rep so g⟩
end
/-- f(e, ..): a pure def that tells a bool of what it is asked -/
def callVE (n : Nat) (f : FD) (fa : MAD) : ME := fun δ => match fa δ with
  | some (ds, δ1) => if ds.length = n then match stoOf δ1 with
    | some cs => match boolR (f (uncs cs ds)) with
      | some b => some (.dat (.bl b), δ1)
      | none => none
    | none => none else none
  | none => none
/-! ### calls of defs with a store that let nothing out -/
def okX : Option XO → Option (O × Env)
  | some (.ok o δ) => some (o, δ)
  | _ => none
def callSE (n : Nat) (f : FX) (dms : List D) (fa : MAD) : ME := fun δ => match fa δ with
  | some (ds, δ1) => okX (callD n f (ds ++ dms) δ1)
  | none => none
theorem ev_callS {n : Nat} {f : FX} {dms : List D} {dvs : List V} {ta : TA} {fa : MAD} (hd : ∀ R H, RepVs K R H dms dvs) (ha : EvAD K ta fa) : Ev K (tCall (spX K ec none n f) dvs (fun _ _ _ => False) ta) (callSE n f dms fa) := fun F R H δ σ o δ' w hf Q q => by
  unfold callSE at hf
  cases e : fa δ with
  | none => rw [e] at hf; cases hf
  | some p =>
    obtain ⟨ds, δ1⟩ := p
    rw [e] at hf
    dsimp only at hf
    unfold okX at hf
    split at hf
    case h_2 => cases hf
    rename_i o1 δ2 e2
    cases hf
    exact ha F R H δ σ ds δ1 w e _ fun vs R1 H1 w1 x1 r1 => call_datX (W := fun _ _ _ _ => False) w x1 w1 (r1.append (hd R1 H1)) e2 Q q
/-! ### the entry of a def -/
def dx1 (bo : Option Nat) (x : Option FlX) : Option RX := x.bind (endX bo)
/-! ### the end of a law -/
theorem toTrueX {P : Program} {w : World} {mg : Str → Option Value} {base : Heap} {k n : Nat} {f : Addr} {fd : FuncData} {x : Str} {F2 : FX} (h : ∀ ns : List Int, ns.length ≤ n → (∀ z ∈ ns, Builtin.Int.intBits z ≤ 1048576) → ∃ cs, F2 [.ro (ns.map D.int)] [] = some (.ok (.dat (.bl true)) .non cs))
    (G : DVG.FnG bb P w K mg base (L2.CX P w) k f fd [x] (spX K ec none 1 F2)) : DVG.FnG bb P w K mg base (L2.CX P w) k f fd [x] (spT K n) := by
  have key : ∀ vs H Q E, spT K n vs H Q E → spX K ec none 1 F2 vs H Q E := fun vs H Q E ⟨a, ns, ev, hO, hS, hl, hb, q⟩ => by
    subst ev
    obtain ⟨cs, e⟩ := h ns hl hb
    refine ⟨rfl, ⟨fun _ => False, []⟩, [.ro (ns.map D.int)], [], _, ⟨rfl, fun i d v h1 h2 => ⟨(fun z => by cases z), fun _ => ?_⟩⟩, fun _ z => z.elim, ⟨rfl, List.nodup_nil, (fun _ z => by cases z), fun k d a z => by cases z⟩, (fun a ⟨i, z, _⟩ => by cases z), e, fun v R' H' _ res => ?_⟩
    · cases i with
      | zero =>
        cases h1; cases h2
        exact ⟨a, _, rfl, .of hO hS, .ints ns⟩
      | succ i => simp at h1
    · have ev : v = .bl true := res
      rw [ev]; exact q H'
  exact ⟨fun vs H Q E z => G.len _ _ _ _ (key vs H Q E z), fun A outer s H args us vs Q E hr e b r z => G.run A outer s H args us vs Q E hr e b r (key vs H Q E z)⟩
theorem walkTX {l : PySem.W.OpenLaw} {n k : Nat} {q : Program} {loose : List Str} {XP : (Str → Option Value) → Heap → Prop} {YP : World → Heap → Prop} {d : DefRec} {K : Params → PySem.W.Frag} {x : Str}
    (hn : l.most = some n) (hn2 : n ≤ sizeLine) (hdf : d.params.defaults = []) (hr : DVG.Rm bb k callerA) (hY : ∀ (w : World) (h : Heap), YP w h → (K w.params).In h)
    (G : ∀ (w : World) (mg : Str → Option Value) (fa : Addr) (h : Heap), (K w.params).In h → h.Ns mainGlobals mg → mg d.name = some (.ref fa) →
      ∃ fd : FuncData, (∀ (s : Shared) (u : Value), BindsTo s fd ⟨[u], []⟩ [(x, u)]) ∧ ∀ base : Heap, (K w.params).In base → base.Ns mainGlobals mg → DVG.FnG bb l.prog w (K w.params) mg base (L2.CX l.prog w) k fa fd [x] (spT (K w.params) n)) :
    PySem.W.WalkO q loose XP YP l.row.toRowW d [] (fun f vs => PySem.call f vs) :=
  DVG.walkG (CX := fun w => L2.CX l.prog w) (sp := fun w => spT (K w.params) n) hn hn2 hdf hr hY G (fun w H a ns hl hb hO hS => ⟨a, ns, rfl, hO, hS, hl, hb, fun _ => rfl⟩) fun w H s e s' z => by
    obtain ⟨_, _, _, _, _, _, _, _, _, _, _, _, z⟩ := z
    exact z
/-! ### own error classes -/
structure ErrC (K : PySem.W.Frag) (mg : Str → Option Value) (x f : Str) (C fI : Addr) : Prop where
  o : OexC K C
  xf : XfC K C
  g : mg x = some (.ref C)
  i : PySem.W.findIn K (.ref C) "__init__" = some (some (.ref fI))
  t : PySem.W.typeIn K (.ref fI) = some (.type "function")
  n : PySem.W.findIn K (.ref C) f = some none
end
end DV

/-! DVD: dicts with keys ints, texts, or tuples of ints. -/
namespace DV
open PySem PySem.Spec PyProof.Rows L2
/-! ### tables as a list of keys and a list of what is there -/
section
variable {κ : Type} [DecidableEq κ] {α : Type}
def lookA : List κ → List α → κ → Option α
  | k :: ks, x :: xs, j => if k = j then some x else lookA ks xs j
  | _, _, _ => none
def putKs (ks : List κ) (k : κ) : List κ := if k ∈ ks then ks else ks ++ [k]
def setA : List κ → List α → κ → α → List α
  | k :: ks, x :: xs, j, y => (if k = j then y else x) :: setA ks xs j y
  | _, _, _, _ => []
def putVs (ks : List κ) (xs : List α) (k : κ) (y : α) : List α := if k ∈ ks then setA ks xs k y else xs ++ [y]
end
section
variable {κ : Type} [DecidableEq κ]
end
section
variable {K : PySem.W.Frag} {F : Fx} {R R1 R' : Reg} {H H1 H' : Hp} {δ δ1 δ' : Env} {σ σ' : L2.St}
section
variable {κ : Type} [DecidableEq κ]
end
/-! ### keys -/
def keyD : Key → D
  | .inl i => .int i
  | .inr x => .str x
def keyOf : D → Option Key
  | .int i => some (.inl i)
  | .str x => some (.inr x)
  | _ => none
def keysOf : List D → Option (List Key)
  | [] => some []
  | .int i :: ds => (keysOf ds).bind fun ks => some (.inl i :: ks)
  | _ => none
def tkeyOf : D → Option (List Key)
  | .tup ds => keysOf ds
  | _ => none
theorem keyOf_rep {d : D} {v : V} {k : Key} (h : keyOf d = some k) (r : RepV K R H d v) : v = kV k := by
  cases d <;> first | (cases h; exact r) | cases h
/-- what a dict holds at a key: none if it can't be told -/
def dGetD : D → D → Option (Option D)
  | .dic ks ds, i => (keyOf i).bind fun k => some (lookA ks ds k)
  | .dit ks ds, i => (tkeyOf i).bind fun k => some (lookA ks ds k)
  | _, _ => none
/-! ### d[k], k in d, d.get(k, x) -/
def dgE (fo : ME) (fi : MD) : ME := fun δ => (fo δ).bind fun p => (fi p.2).bind fun q => (deref q.2 p.1).bind fun d => (dGetD d q.1).bind fun o => o.bind fun e => some (.dat e, q.2)
def dinE (neg : Bool) (fi : MD) (fo : ME) : ME := fun δ => (fi δ).bind fun q => (fo q.2).bind fun p => (deref p.2 p.1).bind fun d => (dGetD d q.1).bind fun o => some (.dat (.bl (if neg then !o.isSome else o.isSome)), p.2)
def isDictD : D → Bool
  | .dic _ _ => true
  | .dit _ _ => true
  | _ => false
def dg2E (fo : ME) (fi fx : MD) : ME := fun δ => (fo δ).bind fun p => (deref p.2 p.1).bind fun d0 => if isDictD d0 = true then (fi p.2).bind fun q => (fx q.2).bind fun r => (deref r.2 p.1).bind fun d => (dGetD d q.1).bind fun o => some (.dat (o.getD r.1), r.2) else none
/-! ### {}, {k: x} -/
def newKE : ME := fun δ => some (.fre (.dic [] []), δ)
def newTE : ME := fun δ => some (.fre (.dit [] []), δ)
def dispE (fk fv : MD) : ME := fun δ => (fk δ).bind fun p => (fv p.2).bind fun q => (keyOf p.1).bind fun k => some (.fre (.dic [k] [q.1]), q.2)
theorem ev_disp {tk tv : TE} {fk fv : MD} (hk : EvD K tk fk) (hv : EvD K tv fv) : Ev K (tDisp [(tk, tv)]) (dispE fk fv) := fun F R H δ σ o δ' w hf Q q => by
  obtain ⟨⟨i, δ1⟩, e1, hf⟩ := Option.bind_eq_some_iff.mp hf
  obtain ⟨⟨d, δ2⟩, e2, hf⟩ := Option.bind_eq_some_iff.mp hf
  obtain ⟨k, e3, hf⟩ := Option.bind_eq_some_iff.mp hf
  cases hf
  intro p hp
  have w0 := w.alloc (o := .dK []) hp
  have x0 : Ext δ δ σ R H R (upd H p (.dK [])) := Ext.alloc hp
  refine hk F R _ δ σ i δ1 w0 e1 _ fun x R1 H1 w1 x1 r1 => ?_
  refine hv F R1 H1 δ1 σ d _ w1 e2 _ fun y R2 H2 w2 x2 r2 => ?_
  have x12 := x1.trans x2
  have np : ¬ R2 p ∧ ¬ OwnA R2 δ2 σ p := by
    have no : ¬ OwnA R δ σ p := w.ownNe hp
    refine ⟨fun z => ?_, fun z => (x12.own p z).elim no fun z => by rw [upd_same] at z; cases z⟩
    rcases x12.fresh p z with z | z | z
    · exact (w.new p z).2 hp
    · rw [upd_same] at z; cases z
    · exact no z
  have at2 : H2 p = some (.dK []) := x12.frame p _ upd_same (w.ownNe hp)
  have tch : ∃ u, H2 p = some u ∧ (∀ xs, u ≠ .tup xs) ∧ ∀ ob v, u ≠ .frz ob v := ⟨_, at2, (fun _ z => by cases z), fun _ _ z => by cases z⟩
  have key : x = kV k := keyOf_rep e3 r1
  refine ⟨at2, [(k, y)], by rw [key]; rfl, (by simp), ?_⟩
  have w3 := w2.touch (o := .dK (mergeK [] [(k, y)])) np.1 np.2 (w.H0none hp) tch
  have kp := keep_upd (o := .dK (mergeK [] [(k, y)])) np.1 tch
  refine q _ R2 _ w3 ?_ ⟨p, rfl, np.1, np.2, w.H0none hp, [y], ?_, rfl, .one (r2.keep kp)⟩ fun c e => by cases e; exact hp
  · have x02 := x0.trans x12
    refine ⟨x02.sub, x02.fresh, fun a o ha hn => ?_, x02.own, fun a ha => ?_⟩
    · rw [upd_ne (ne_of_none ha hp)]; exact x02.frame a o ha hn
    · by_cases e : a = p
      · rw [e, upd_same]; exact fun z => by cases z
      · rw [upd_ne e]; exact x02.alv a ha
  · rw [upd_same]; rfl
/-! ### d[k] = x -/
def dPutD : D → D → D → Option D
  | .dic ks ds, i, e => (keyOf i).bind fun k => if ks.length < 100000 then some (.dic (putKs ks k) (putVs ks ds k e)) else none
  | .dit ks ds, i, e => (tkeyOf i).bind fun k => if ks.length < 100000 then some (.dit (putKs ks k) (putVs ks ds k e)) else none
  | _, _, _ => none
def dpS (fo : ME) (fi : MD) (fv : MD) : MS := fun δ => (fv δ).bind fun p => (fo p.2).bind fun q => (fi q.2).bind fun r => match q.1 with
  | .own i => match r.2[i]? with
    | some (.own d) => (dPutD d r.1 p.1).bind fun d' => some (.nx (r.2.set i (.own d')))
    | some (.brw d) => (dPutD d r.1 p.1).bind fun d' => some (.nx (r.2.set i (.brw d')))
    | _ => none
  | _ => none
def lstKG : List D → Option O
  | [.dic ks _] => some (.fre (.lst (ks.map keyD)))
  | _ => none
def lvE (fo : ME) : ME := fun δ => (fo δ).bind fun p => (deref p.2 p.1).bind fun d => match d with
  | .dic _ ds => some (.fre (.lst ds), p.2)
  | _ => none
end
section
variable {X : Cx}
end
end DV

/-! DVC: for k in d, d a dict that stands still: it is locked while the loop runs. -/
namespace DV
open PySem PySem.Spec PyProof.Rows L2
inductive DctO : HO → Prop
  | k (kvs : List (Key × V)) : DctO (.dK kvs)
  | t (kvs : List (List Key × V)) : DctO (.dT kvs)
section
variable {K : PySem.W.Frag} {F : Fx} {R R1 R' : Reg} {H H1 H' : Hp} {δ δ1 δ' : Env} {σ σ' : L2.St}
def keysD : D → Option (List D)
  | .dic ks _ => some (ks.map keyD)
  | .dit ks _ => some (ks.map fun k => .tup (k.map keyD))
  | _ => none
/-- for g in the dict of a slot -/
def fordS (i : Nat) (g : MG) (b : MS) : MS := fun δ => (solid (.own i) δ).bind fun p => (keysD p.1).bind fun ds => loopL g b ds p.2
end
end DV

/-! DVR: rewriting rules of dicts. -/
namespace DV
open PySem PySem.Spec PyProof.Rows L2
section
variable {fo : ME} {fi fx fv fk : MD} {δ δ' : Env} {o : O} {d i e z : D} {ds : List D} {ks : List Key} {g : MG} {b : MS} {n : Nat} {neg : Bool}
def dg1 (fi : MD) (x : Option (O × Env)) : Option (O × Env) := x.bind fun p => (fi p.2).bind fun q => (deref q.2 p.1).bind fun d => (dGetD d q.1).bind fun o => o.bind fun e => some (.dat e, q.2)
def dg2 (o : O) (x : Option (D × Env)) : Option (O × Env) := x.bind fun q => (deref q.2 o).bind fun d => (dGetD d q.1).bind fun o => o.bind fun e => some (.dat e, q.2)
def dg3 (i : D) (δ : Env) (x : Option D) : Option (O × Env) := x.bind fun d => (dGetD d i).bind fun o => o.bind fun e => some (.dat e, δ)
def dg4 (δ : Env) (x : Option (Option D)) : Option (O × Env) := x.bind fun o => o.bind fun e => some (.dat e, δ)
theorem q_dg : dgE fo fi δ = dg1 fi (fo δ) := id rfl
theorem q_dg1 : dg1 fi (some (o, δ)) = dg2 o (fi δ) := id rfl
theorem q_dg2 : dg2 o (some (i, δ)) = dg3 i δ (deref δ o) := id rfl
theorem q_dg3 : dg3 i δ (some d) = dg4 δ (dGetD d i) := id rfl
theorem q_dg4 : dg4 δ (some (some e)) = some (.dat e, δ) := id rfl
def dn1 (neg : Bool) (fo : ME) (x : Option (D × Env)) : Option (O × Env) := x.bind fun q => (fo q.2).bind fun p => (deref p.2 p.1).bind fun d => (dGetD d q.1).bind fun o => some (.dat (.bl (if neg then !o.isSome else o.isSome)), p.2)
def dn2 (neg : Bool) (i : D) (x : Option (O × Env)) : Option (O × Env) := x.bind fun p => (deref p.2 p.1).bind fun d => (dGetD d i).bind fun o => some (.dat (.bl (if neg then !o.isSome else o.isSome)), p.2)
def dn3 (neg : Bool) (i : D) (δ : Env) (x : Option D) : Option (O × Env) := x.bind fun d => (dGetD d i).bind fun o => some (.dat (.bl (if neg then !o.isSome else o.isSome)), δ)
def dn4 (neg : Bool) (δ : Env) (x : Option (Option D)) : Option (O × Env) := x.bind fun o => some (.dat (.bl (if neg then !o.isSome else o.isSome)), δ)
theorem q_dn : dinE neg fi fo δ = dn1 neg fo (fi δ) := id rfl
theorem q_dn1 : dn1 neg fo (some (i, δ)) = dn2 neg i (fo δ) := id rfl
theorem q_dn2 : dn2 neg i (some (o, δ)) = dn3 neg i δ (deref δ o) := id rfl
theorem q_dn3 : dn3 neg i δ (some d) = dn4 neg δ (dGetD d i) := id rfl
theorem q_dn4 {y : Option D} : dn4 false δ (some y) = some (.dat (.bl y.isSome), δ) := id rfl
theorem q_dn5 {y : Option D} : dn4 true δ (some y) = some (.dat (.bl (!y.isSome)), δ) := id rfl
theorem q_some : (some d : Option D).isSome = true := rfl
theorem q_none : (none : Option D).isSome = false := rfl
theorem q_isd : isDictD (.dic ks ds) = true := rfl
def dh1 (fi fx : MD) (x : Option (O × Env)) : Option (O × Env) := x.bind fun p => (deref p.2 p.1).bind fun d0 => if isDictD d0 = true then (fi p.2).bind fun q => (fx q.2).bind fun r => (deref r.2 p.1).bind fun d => (dGetD d q.1).bind fun o => some (.dat (o.getD r.1), r.2) else none
def dh2 (fi fx : MD) (o : O) (δ : Env) (x : Option D) : Option (O × Env) := x.bind fun d0 => if isDictD d0 = true then (fi δ).bind fun q => (fx q.2).bind fun r => (deref r.2 o).bind fun d => (dGetD d q.1).bind fun o => some (.dat (o.getD r.1), r.2) else none
def dh3 (fx : MD) (o : O) (x : Option (D × Env)) : Option (O × Env) := x.bind fun q => (fx q.2).bind fun r => (deref r.2 o).bind fun d => (dGetD d q.1).bind fun o => some (.dat (o.getD r.1), r.2)
def dh4 (i : D) (o : O) (x : Option (D × Env)) : Option (O × Env) := x.bind fun r => (deref r.2 o).bind fun d => (dGetD d i).bind fun o => some (.dat (o.getD r.1), r.2)
def dh5 (i z : D) (δ : Env) (x : Option D) : Option (O × Env) := x.bind fun d => (dGetD d i).bind fun o => some (.dat (o.getD z), δ)
def dh6 (z : D) (δ : Env) (x : Option (Option D)) : Option (O × Env) := x.bind fun o => some (.dat (o.getD z), δ)
theorem q_dh : dg2E fo fi fx δ = dh1 fi fx (fo δ) := id rfl
theorem q_dh1 : dh1 fi fx (some (o, δ)) = dh2 fi fx o δ (deref δ o) := id rfl
theorem q_dh2 : dh2 fi fx o δ (some (.dic ks ds)) = dh3 fx o (fi δ) := id rfl
theorem q_dh3 : dh3 fx o (some (i, δ)) = dh4 i o (fx δ) := id rfl
theorem q_dh4 : dh4 i o (some (z, δ)) = dh5 i z δ (deref δ o) := id rfl
theorem q_dh5 : dh5 i z δ (some d) = dh6 z δ (dGetD d i) := id rfl
theorem q_dh6 {y : Option D} : dh6 z δ (some y) = some (.dat (y.getD z), δ) := id rfl
theorem q_newK : newKE δ = some (.fre (.dic [] []), δ) := id rfl
theorem q_newT : newTE δ = some (.fre (.dit [] []), δ) := id rfl
def di1 (fv : MD) (x : Option (D × Env)) : Option (O × Env) := x.bind fun p => (fv p.2).bind fun q => (keyOf p.1).bind fun k => some (.fre (.dic [k] [q.1]), q.2)
def di2 (i : D) (x : Option (D × Env)) : Option (O × Env) := x.bind fun q => (keyOf i).bind fun k => some (.fre (.dic [k] [q.1]), q.2)
theorem q_di : dispE fk fv δ = di1 fv (fk δ) := id rfl
theorem q_di1 : di1 fv (some (i, δ)) = di2 i (fv δ) := id rfl
theorem q_di2 {k : Int} : di2 (.int k) (some (d, δ)) = some (.fre (.dic [.inl k] [d]), δ) := id rfl
def lv1 (x : Option (O × Env)) : Option (O × Env) := x.bind fun p => (deref p.2 p.1).bind fun d => match d with
  | .dic _ ds => some (.fre (.lst ds), p.2)
  | _ => none
def lv2 (δ : Env) (x : Option D) : Option (O × Env) := x.bind fun d => match d with
  | .dic _ ds => some (.fre (.lst ds), δ)
  | _ => none
theorem q_lv : lvE fo δ = lv1 (fo δ) := id rfl
theorem q_lv1 : lv1 (some (o, δ)) = lv2 δ (deref δ o) := id rfl
theorem q_lv2 : lv2 δ (some (.dic ks ds)) = some (.fre (.lst ds), δ) := id rfl
theorem q_lk : lstKG [.dic ks ds] = some (.fre (.lst (ks.map keyD))) := id rfl
def dt1 (fo : ME) (fi : MD) (x : Option (D × Env)) : Option Fl := x.bind fun p => (fo p.2).bind fun q => (fi q.2).bind fun r => match q.1 with
  | .own i => match r.2[i]? with
    | some (.own d) => (dPutD d r.1 p.1).bind fun d' => some (.nx (r.2.set i (.own d')))
    | some (.brw d) => (dPutD d r.1 p.1).bind fun d' => some (.nx (r.2.set i (.brw d')))
    | _ => none
  | _ => none
def dt2 (fi : MD) (e : D) (x : Option (O × Env)) : Option Fl := x.bind fun q => (fi q.2).bind fun r => match q.1 with
  | .own i => match r.2[i]? with
    | some (.own d) => (dPutD d r.1 e).bind fun d' => some (.nx (r.2.set i (.own d')))
    | some (.brw d) => (dPutD d r.1 e).bind fun d' => some (.nx (r.2.set i (.brw d')))
    | _ => none
  | _ => none
def dt4 (i : Nat) (j e : D) (δ : Env) : Option Sl → Option Fl
  | some (.own d) => (dPutD d j e).bind fun d' => some (.nx (δ.set i (.own d')))
  | some (.brw d) => (dPutD d j e).bind fun d' => some (.nx (δ.set i (.brw d')))
  | _ => none
def dt3 (o : O) (e : D) (x : Option (D × Env)) : Option Fl := x.bind fun r => match o with
  | .own i => dt4 i r.1 e r.2 r.2[i]?
  | _ => none
def dt5 (i : Nat) (δ : Env) (x : Option D) : Option Fl := x.bind fun d' => some (.nx (δ.set i (.own d')))
def dt6 (i : Nat) (δ : Env) (x : Option D) : Option Fl := x.bind fun d' => some (.nx (δ.set i (.brw d')))
theorem q_dp : dpS fo fi fv δ = dt1 fo fi (fv δ) := id rfl
theorem q_dp1 : dt1 fo fi (some (e, δ)) = dt2 fi e (fo δ) := id rfl
theorem q_dp2 : dt2 fi e (some (o, δ)) = dt3 o e (fi δ) := by
  show ((fi δ).bind fun r => _) = (fi δ).bind fun r => _
  congr 1
theorem q_dp3 {j : Nat} : dt3 (.own j) e (some (i, δ)) = dt4 j i e δ δ[j]? := id rfl
theorem q_dp4 {j : Nat} : dt4 j i e δ (some (.own d)) = dt5 j δ (dPutD d i e) := id rfl
theorem q_dp5 {j : Nat} : dt4 j i e δ (some (.brw d)) = dt6 j δ (dPutD d i e) := id rfl
theorem q_dp6 {j : Nat} : dt5 j δ (some d) = some (.nx (δ.set j (.own d))) := id rfl
theorem q_dp7 {j : Nat} : dt6 j δ (some d) = some (.nx (δ.set j (.brw d))) := id rfl
def fo1 (g : MG) (b : MS) (x : Option (D × Env)) : Option Fl := x.bind fun p => (keysD p.1).bind fun ds => loopL g b ds p.2
def fo2 (g : MG) (b : MS) (δ : Env) (x : Option (List D)) : Option Fl := x.bind fun ds => loopL g b ds δ
theorem q_fo : fordS n g b δ = fo1 g b (sol2 n δ δ[n]?) := by unfold fordS; rw [solid_own]; rfl
theorem q_fo1 : fo1 g b (some (d, δ)) = fo2 g b δ (keysD d) := id rfl
theorem q_fo2 : fo2 g b δ (some ds) = loopL g b ds δ := id rfl
theorem q_kd : keysD (.dic ks ds) = some (ks.map keyD) := id rfl
theorem q_kt {kt : List (List Key)} : keysD (.dit kt ds) = some (kt.map fun k => .tup (k.map keyD)) := id rfl
end
end DV

/-! DVF: what a def gives is a list that nobody else holds, where its arguments hold no list. -/
namespace DV
open PySem PySem.Spec PyProof.Rows L2
section
variable {K : PySem.W.Frag} {F : Fx} {R R1 R' : Reg} {H H1 H' : Hp} {δ δ1 δ' : Env} {σ σ' : L2.St}
def ct1 (n : Nat) (f : FD) (fa : MAD) : Option (O × Env) → Option (O × Env)
  | some (.fre d0, δ) => (fa δ).bind fun q => if (d0 :: q.1).length = n then (f (d0 :: q.1)).bind fun r => some (r.1.o, q.2) else none
  | _ => none
def ct2 (n : Nat) (f : FD) (d0 : D) (x : Option (List D × Env)) : Option (O × Env) := x.bind fun q => if (d0 :: q.1).length = n then (f (d0 :: q.1)).bind fun r => some (r.1.o, q.2) else none
def ct3 (δ : Env) (x : Option (Ret × D)) : Option (O × Env) := x.bind fun r => some (r.1.o, δ)
end
end DV

/-! DVI: a list of anything, != []. -/
namespace DV
open PySem PySem.Spec PyProof.Rows L2
end DV

/-! DVJ: a comprehension over a list that stays one's own. -/
namespace DV
open PySem PySem.Spec PyProof.Rows L2
section
variable {K : PySem.W.Frag} {F : Fx} {R R1 R' : Reg} {H H1 H' : Hp} {δ δ1 δ' : Env} {σ σ' : L2.St}
end
end DV

/-! DVT: texts: f-strings, str(x), join, split, startswith, slices, signs, int(text); fields counted up; xs == []. -/
namespace DV
open PySem PySem.Spec PyProof.Rows L2
section
variable {K : PySem.W.Frag} {F : Fx} {R R1 R' : Reg} {H H1 H' : Hp} {δ δ1 δ' : Env} {σ σ' : L2.St} {X : Cx}
inductive EvJ (K : PySem.W.Frag) : List TE → List ME → Prop where
  | nil : EvJ K [] []
  | cons {t : TE} {f : ME} {ts : List TE} {fs : List ME} (h : Ev K t f) (r : EvJ K ts fs) : EvJ K (t :: ts) (f :: fs)
end
end DV

/-! DVX: rewriting rules of texts. -/
namespace DV
open PySem PySem.Spec PyProof.Rows L2
section
variable {fo f fv : ME} {fs : List ME} {fi : MD} {fa : MA} {δ δ' : Env} {o : O} {d i e z : D} {ds : List D} {os : List O} {x y a b acc : Str} {n m : Int} {C : Addr} {ks : List Str} {F : Str} {op : Int → Int → Int} {g : Str → List D → Option O} {l h : MP} {u v : Option Int} {k : Nat} {ys : List Str}
end
end DV

/-! DVV: repr of data with dicts inside. -/
namespace DVG
open PySem PySem.Spec PyProof.Rows L2
mutual
/-- as Reads; a dict's address is not sysModules' -/
inductive ReadsD (h : Heap) : Value → PyData → List Addr → Prop
  | none : ReadsD h .none .none []
  | bool (b) : ReadsD h (.bool b) (.bool b) []
  | int (i t) : ReadsD h (.int i t) (.int i) []
  | str (x t) : ReadsD h (.str x t) (.str x) []
  | list {a o vs n xs as} : h.get? a = some o → o.cls = .type "list" → o.data = .seq vs n → ReadsAllD h vs.toList xs as → ReadsD h (.ref a) (.list xs) (a :: as)
  | tuple {a o vs n xs as} : h.get? a = some o → o.cls = .type "tuple" → o.data = .seq vs n → ReadsAllD h vs.toList xs as → ReadsD h (.ref a) (.tuple xs) as
  | dict {a o es n kvs as bs} : (a == sysModules) = false → h.get? a = some o → o.cls = .type "dict" → o.data = .dict es n → ReadsAllD h (es.toList.map (·.key)) (kvs.map (·.1)) as →
      ReadsAllD h (es.toList.map (·.val)) (kvs.map (·.2)) bs → ReadsD h (.ref a) (.dict kvs) (a :: as ++ bs)
inductive ReadsAllD (h : Heap) : List Value → List PyData → List Addr → Prop
  | nil : ReadsAllD h [] [] []
  | cons {v vs d ds as bs} : ReadsD h v d as → ReadsAllD h vs ds bs → ReadsAllD h (v :: vs) (d :: ds) (as ++ bs)
end
mutual
theorem ReadsD.r {h : Heap} : ∀ {v : Value} {d : PyData} {as : List Addr}, ReadsD h v d as → Reads h v d as
  | _, _, _, .none => .none
  | _, _, _, .bool b => .bool b
  | _, _, _, .int i t => .int i t
  | _, _, _, .str x t => .str x t
  | _, _, _, .list h1 h2 h3 h4 => .list h1 h2 h3 h4.r
  | _, _, _, .tuple h1 h2 h3 h4 => .tuple h1 h2 h3 h4.r
  | _, _, _, .dict _ h1 h2 h3 h4 h5 => .dict h1 h2 h3 h4.r h5.r
theorem ReadsAllD.r {h : Heap} : ∀ {vs : List Value} {ds : List PyData} {as : List Addr}, ReadsAllD h vs ds as → ReadsAll h vs ds as
  | _, _, _, .nil => .nil
  | _, _, _, .cons r rs => .cons r.r rs.r
end
section
variable {prog : Program} {w : World} {h₀ : Heap}
mutual
theorem rk_of : ∀ {v : Value} {d : PyData} {as : List Addr}, ReadsD h₀ v d as → d.showable = true → d.shown.length ≤ sizeLine → ∃ bs, ReadAtMost h₀ d.depth bs ∧ ReprK prog w bs h₀ d.depth v d.shown
  | _, _, _, .none, _, _ => ⟨[], (fun _ h => nomatch h), by simp only [PyData.shown]; exact .of_is ReprIs.none _ _ _⟩
  | _, _, _, .bool b, _, _ => ⟨[], (fun _ h => nomatch h), by simp only [PyData.shown]; exact .of_is (ReprIs.bool b) _ _ _⟩
  | _, _, _, .int i t, hs, _ => ⟨[], (fun _ h => nomatch h), by simp only [PyData.shown]; exact .of_is (ReprIs.int t (by simpa [PyData.showable] using hs)) _ _ _⟩
  | _, _, _, .str x t, _, hz => ⟨[], (fun _ h => nomatch h), by simp only [PyData.shown]; exact .of_is (ReprIs.str x t (by simpa only [PyData.shown] using hz)) _ _ _⟩
  | _, _, _, .list (a := a) (vs := vs) (xs := xs) h1 h2 h3 h4, hs, hz => by
    have hz' : (listText (PyData.shownAll xs)).length ≤ sizeLine := by simpa only [PyData.shown] using hz
    obtain ⟨bs, hb, hk⟩ := rk_all h4 (by simpa [PyData.showable] using hs) (fun t ht => Nat.le_trans (listText_mem_le ht) hz')
    have r : Reads h₀ (.ref a) (.list xs) _ := .list h1 h2 h3 h4.r
    have hna : a ∉ bs := not_mem_of_deeper r (by simp only [PyData.depth]; omega) hb
    refine ⟨a :: bs, ReadAtMost.cons r (by simp only [PyData.depth]; omega) hb, ?_⟩
    simp only [PyData.depth, PyData.shown]
    obtain ⟨l⟩ := vs
    cases l with
    | nil =>
      have h4' : ReadsAllD h₀ [] xs _ := h4
      cases h4'
      simp only [PyData.shownAll, listText_nil]
      exact ReprK.listEmpty h1 h2 h3
    | cons x l => exact ReprK.list h1 h2 h3 hna (by simpa using hk.length_eq) (fun i y e => hk.item i y (by simpa using e))
  | _, _, _, .tuple (a := a) (xs := xs) h1 h2 h3 h4, hs, hz => by
    have hz' : (tupleText (PyData.shownAll xs)).length ≤ sizeLine := by simpa only [PyData.shown] using hz
    obtain ⟨bs, hb, hk⟩ := rk_all h4 (by simpa [PyData.showable] using hs) (fun t ht => Nat.le_trans (tupleText_mem_le ht) hz')
    have r : Reads h₀ (.ref a) (.tuple xs) _ := .tuple h1 h2 h3 h4.r
    have hna : a ∉ bs := not_mem_of_deeper r (by simp only [PyData.depth]; omega) hb
    refine ⟨a :: bs, ReadAtMost.cons r (by simp only [PyData.depth]; omega) hb, ?_⟩
    simp only [PyData.depth, PyData.shown]
    exact ReprK.tuple h1 h2 h3 hna hk
  | _, _, _, .dict (a := a) (es := es) (kvs := kvs) (as := as₁) (bs := bs₁) hsys h1 h2 h3 h4 h5, hs, hz => by
    have hz' : (dictText (PyData.shownKv kvs)).length ≤ sizeLine := by simpa only [PyData.shown] using hz
    obtain ⟨hs1, hs2⟩ := PyData.showableKv_split kvs (by simpa [PyData.showable] using hs)
    obtain ⟨b1, hb1, k1⟩ := rk_all h4 hs1 (fun t ht => let ⟨p, hp, hl⟩ := PyData.shownKv_key_le kvs t ht; Nat.le_trans hl (Nat.le_trans (dictText_mem_le hp) hz'))
    obtain ⟨b2, hb2, k2⟩ := rk_all h5 hs2 (fun t ht => let ⟨p, hp, hl⟩ := PyData.shownKv_val_le kvs t ht; Nat.le_trans hl (Nat.le_trans (dictText_mem_le hp) hz'))
    have r : Reads h₀ (.ref a) (.dict kvs) _ := .dict h1 h2 h3 h4.r h5.r
    have hb : ReadAtMost h₀ (PyData.depthKv kvs) (b1 ++ b2) := (hb1.mono (PyData.depthAll_keys_le kvs)).append (hb2.mono (PyData.depthAll_vals_le kvs))
    have hna : a ∉ b1 ++ b2 := not_mem_of_deeper r (by simp only [PyData.depth]; omega) hb
    refine ⟨a :: (b1 ++ b2), ReadAtMost.cons r (by simp only [PyData.depth]; omega) hb, ?_⟩
    simp only [PyData.depth, PyData.shown, PyData.shownKv_eq]
    exact ReprK.dict h1 h2 h3 hsys hna (ReprEntriesK.of_two es.toList _ _
      (k1.more_le (fun b hb => List.mem_append_left _ hb) (PyData.depthAll_keys_le kvs)) (k2.more_le (fun b hb => List.mem_append_right _ hb) (PyData.depthAll_vals_le kvs)))
theorem rk_all : ∀ {vs : List Value} {ds : List PyData} {as : List Addr}, ReadsAllD h₀ vs ds as → PyData.showableAll ds = true → (∀ t ∈ PyData.shownAll ds, t.length ≤ sizeLine) →
    ∃ bs, ReadAtMost h₀ (PyData.depthAll ds) bs ∧ ReprAllK prog w bs h₀ (PyData.depthAll ds) vs (PyData.shownAll ds)
  | _, _, _, .nil, _, _ => ⟨[], (fun _ h => nomatch h), by simp only [PyData.shownAll]; exact .nil⟩
  | _, _, _, .cons (d := d) (ds := ds) r rs, hs, hz => by
    have hs' : d.showable = true ∧ PyData.showableAll ds = true := by simpa [PyData.showableAll] using hs
    obtain ⟨b1, hb1, k1⟩ := rk_of r hs'.1 (hz _ (by simp only [PyData.shownAll]; exact List.mem_cons_self ..))
    obtain ⟨b2, hb2, k2⟩ := rk_all rs hs'.2 (fun t ht => hz t (by simp only [PyData.shownAll]; exact List.mem_cons_of_mem _ ht))
    refine ⟨b1 ++ b2, ?_, ?_⟩
    · intro b hm
      simp only [PyData.depthAll]
      rcases List.mem_append.mp hm with hm | hm
      · obtain ⟨d', as', r', hd'⟩ := hb1 b hm
        exact ⟨d', as', r', Nat.le_trans hd' (Nat.le_max_left _ _)⟩
      · obtain ⟨d', as', r', hd'⟩ := hb2 b hm
        exact ⟨d', as', r', Nat.le_trans hd' (Nat.le_max_right _ _)⟩
    · simp only [PyData.depthAll, PyData.shownAll]
      exact .cons ((k1.more fun b hb => List.mem_append_left _ hb).level_le (Nat.le_max_left _ _)) (k2.more_le (fun b hb => List.mem_append_right _ hb) (Nat.le_max_right _ _))
end
theorem shows_of {a : Addr} {d : PyData} {as : List Addr} (r : ReadsD h₀ (.ref a) d as) (hs : d.showable = true) (hsz : d.shown.length ≤ sizeLine) : ∃ T idr, ShowsBy prog w h₀ a d T idr := by
  cases r with
  | list h1 h2 h3 h4 =>
    rename_i o vs n xs bs₀
    have hz' : (listText (PyData.shownAll xs)).length ≤ sizeLine := by simpa only [PyData.shown] using hsz
    obtain ⟨bs, hb, hk⟩ := rk_all (prog := prog) (w := w) h4 (by simpa [PyData.showable] using hs) (fun t ht => Nat.le_trans (listText_mem_le ht) hz')
    have hna : a ∉ bs := not_mem_of_deeper (.list h1 h2 h3 h4.r) (by simp only [PyData.depth]; omega) hb
    refine ⟨"list", "list.__repr__", F.slot_list_repr.toG, F.slot_list_str, F.slot_list_format, fun s hk0 => ⟨o, hk0 _ _ h1, h2⟩, fun A E s Q hg hu hk0 hQ => ?_⟩
    simp only [PyData.depth] at hu
    simp only [PyData.shown] at hQ
    obtain ⟨l⟩ := vs
    cases l with
    | nil =>
      have h4' : ReadsAllD h₀ [] xs _ := h4
      cases h4'
      simp only [PyData.shownAll, listText_nil] at hQ
      exact call_list_repr_empty ⟨o, hk0 _ _ h1, h2⟩ (hk0 _ _ h1) h3 (hQ s.heap _ _ fun _ _ e => e)
    | cons x l =>
      exact call_list_reprK h1 h2 h3 hna (by simpa using hk.length_eq) (fun i y e => hk.item i y (by simpa using e)) hg (fun b _ => Clear.nil b) hu hk0 hQ hz'
  | tuple h1 h2 h3 h4 =>
    rename_i o vs n xs
    have hz' : (tupleText (PyData.shownAll xs)).length ≤ sizeLine := by simpa only [PyData.shown] using hsz
    obtain ⟨bs, hb, hk⟩ := rk_all (prog := prog) (w := w) h4 (by simpa [PyData.showable] using hs) (fun t ht => Nat.le_trans (tupleText_mem_le ht) hz')
    have hna : a ∉ bs := not_mem_of_deeper (.tuple h1 h2 h3 h4.r) (by simp only [PyData.depth]; omega) hb
    refine ⟨"tuple", "tuple.__repr__", F.slot_tuple_repr, F.slot_tuple_str, F.slot_tuple_format, fun s hk0 => ⟨o, hk0 _ _ h1, h2⟩, fun A E s Q hg hu hk0 hQ => ?_⟩
    simp only [PyData.depth] at hu
    simp only [PyData.shown] at hQ
    exact call_tuple_reprK h1 h2 h3 hna hk hg (fun b _ => Clear.nil b) hu hk0 hQ hz'
  | dict hsys h1 h2 h3 h4 h5 =>
    rename_i o es n kvs as₁ bs₁
    have hz' : (dictText (PyData.shownKv kvs)).length ≤ sizeLine := by simpa only [PyData.shown] using hsz
    obtain ⟨hs1, hs2⟩ := PyData.showableKv_split kvs (by simpa [PyData.showable] using hs)
    obtain ⟨b1, hb1, k1⟩ := rk_all (prog := prog) (w := w) h4 hs1 (fun t ht => let ⟨p, hp, hl⟩ := PyData.shownKv_key_le kvs t ht; Nat.le_trans hl (Nat.le_trans (dictText_mem_le hp) hz'))
    obtain ⟨b2, hb2, k2⟩ := rk_all (prog := prog) (w := w) h5 hs2 (fun t ht => let ⟨p, hp, hl⟩ := PyData.shownKv_val_le kvs t ht; Nat.le_trans hl (Nat.le_trans (dictText_mem_le hp) hz'))
    have hb : ReadAtMost h₀ (PyData.depthKv kvs) (b1 ++ b2) := (hb1.mono (PyData.depthAll_keys_le kvs)).append (hb2.mono (PyData.depthAll_vals_le kvs))
    have hna : a ∉ b1 ++ b2 := not_mem_of_deeper (.dict h1 h2 h3 h4.r h5.r) (by simp only [PyData.depth]; omega) hb
    refine ⟨"dict", "dict.__repr__", F.slot_dict_repr, F.slot_dict_str, F.slot_dict_format, fun s hk0 => ⟨o, hk0 _ _ h1, h2⟩, fun A E s Q hg hu hk0 hQ => ?_⟩
    simp only [PyData.depth] at hu
    simp only [PyData.shown, PyData.shownKv_eq] at hQ
    exact call_dict_reprK h1 h2 h3 hsys hna (ReprEntriesK.of_two es.toList _ _
      (k1.more_le (fun b hb => List.mem_append_left _ hb) (PyData.depthAll_keys_le kvs)) (k2.more_le (fun b hb => List.mem_append_right _ hb) (PyData.depthAll_vals_le kvs))) hg (fun b _ => Clear.nil b) hu hk0 hQ (by rw [← PyData.shownKv_eq]; exact hz')
end
end DVG
namespace DV
open PySem PySem.Spec PyProof.Rows L2
def keyP : Key → PyData
  | .inl i => .int i
  | .inr x => .str x
mutual
def toPdx : D → Option PyData
  | .non => some .none
  | .bl b => some (.bool b)
  | .int i => some (.int i)
  | .str x => some (.str x)
  | .lst ds => (toPdxs ds).bind fun l => some (.list l)
  | .ro ds => (toPdxs ds).bind fun l => some (.list l)
  | .tup ds => (toPdxs ds).bind fun l => some (.tuple l)
  | .dic ks ds => (toPdxs ds).bind fun l => some (.dict ((ks.map keyP).zip l))
  | _ => none
def toPdxs : List D → Option (List PyData)
  | [] => some []
  | d :: ds => (toPdx d).bind fun a => (toPdxs ds).bind fun b => some (a :: b)
end
theorem toPdxs_len : ∀ {ds : List D} {ps : List PyData}, toPdxs ds = some ps → ps.length = ds.length
  | [], _, h => by simp only [toPdxs] at h; cases h; rfl
  | d :: ds, _, h => by
    simp only [toPdxs] at h
    obtain ⟨a, h3, h⟩ := Option.bind_eq_some_iff.mp h
    obtain ⟨b, h4, h⟩ := Option.bind_eq_some_iff.mp h
    cases h
    rw [List.length_cons, List.length_cons, toPdxs_len h4]
section
variable {X : Cx} {pins : List (Addr × Obj)} {σ : L2.St} {R : Reg} {H : Hp} {s : Shared}
theorem kv_vals : ∀ {ks : List Key} {vs : List V} {kvs : List (Key × Value)}, ks.length = vs.length → KV (ks.zip vs) kvs → Vals vs (kvs.map (·.2)) ∧ kvs.map (·.1) = ks
  | [], [], _, _, h => by cases h; exact ⟨.nil, rfl⟩
  | [], _ :: _, _, l, _ => by cases l
  | _ :: _, [], _, l, _ => by cases l
  | k :: ks, v :: vs, kvs, l, h => by
    cases h with
    | cons h1 h2 =>
      obtain ⟨q1, q2⟩ := kv_vals (by simpa using l) h2
      exact ⟨.cons h1.2 q1, by rw [List.map_cons, q2, ← h1.1]⟩
theorem pairs_vals {P : Program} {w : World} : ∀ {es : List DictEntry} {kvs : List (Key × Value)}, Pairs (mixKind P w) es kvs → es.map (·.val) = kvs.map (·.2) ∧ ∀ h : Heap, DVG.ReadsAllD h (es.map (·.key)) (kvs.map fun p => keyP p.1) []
  | _, _, .nil => ⟨rfl, fun _ => .nil⟩
  | _, _, .cons (e := e) (kv := kv) h1 h2 h3 => by
    obtain ⟨q1, q2⟩ := pairs_vals h3
    refine ⟨by rw [List.map_cons, List.map_cons, q1, h2], fun h => ?_⟩
    have hk : DVG.ReadsD h e.key (keyP kv.1) [] := by
      rcases keyIs_shape (show keyIs kv.1 e.key = true from h1) with ⟨i, t, a, b⟩ | ⟨x, t, a, b⟩
      · rw [a, b]; exact .int i t
      · rw [a, b]; exact .str x t
    exact DVG.ReadsAllD.cons (as := []) (bs := []) hk (q2 h)
mutual
theorem rdx (I : Inv X pins σ H s) : ∀ {d : D} {v : V} {p : PyData} {u : Value}, toPdx d = some p → RepV X.K R H d v → RelV v u → ∃ as, DVG.ReadsD s.heap u p as
  | .non, _, _, _, h, r, ru => by simp only [toPdx] at h; cases h; cases r; cases ru; exact ⟨_, .none⟩
  | .bl b, _, _, _, h, r, ru => by simp only [toPdx] at h; cases h; cases r; cases ru; exact ⟨_, .bool b⟩
  | .int i, _, _, _, h, r, ru => by simp only [toPdx] at h; cases h; cases r; obtain ⟨t, rfl⟩ := ru; exact ⟨_, .int i t⟩
  | .str x, _, _, _, h, r, ru => by simp only [toPdx] at h; cases h; cases r; obtain ⟨t, rfl⟩ := ru; exact ⟨_, .str x t⟩
  | .lst ds, _, _, _, h, ⟨a, vs, e, _, h1, h2⟩, ru => by
    simp only [toPdx] at h
    obtain ⟨l, h3, h⟩ := Option.bind_eq_some_iff.mp h
    cases h; subst e; cases ru
    obtain ⟨its, rv, ⟨o, n, ho, hc, _, hd⟩, _⟩ := I.list (.of h1)
    obtain ⟨as, hr⟩ := rdxs I h3 h2 rv
    exact ⟨_, .list ho hc hd hr⟩
  | .ro ds, _, _, _, h, ⟨a, vs, e, h1, h2⟩, ru => by
    simp only [toPdx] at h
    obtain ⟨l, h3, h⟩ := Option.bind_eq_some_iff.mp h
    cases h; subst e; cases ru
    obtain ⟨its, rv, ⟨o, n, ho, hc, _, hd⟩, _⟩ := I.list h1.l
    obtain ⟨as, hr⟩ := rdxs I h3 h2 rv
    exact ⟨_, .list ho hc hd hr⟩
  | .tup ds, _, _, _, h, ⟨a, vs, e, h1, h2⟩, ru => by
    simp only [toPdx] at h
    obtain ⟨l, h3, h⟩ := Option.bind_eq_some_iff.mp h
    cases h; subst e; cases ru
    obtain ⟨its, rv, ⟨o, ho, hc, n, hd⟩, _⟩ := I.tuple h1.t
    obtain ⟨as, hr⟩ := rdxs I h3 h2 rv
    exact ⟨_, .tuple ho hc hd hr⟩
  | .dic ks ds, _, _, _, h, ⟨a, vs, e, _, rd, l, h2⟩, ru => by
    simp only [toPdx] at h
    obtain ⟨ps, h3, h⟩ := Option.bind_eq_some_iff.mp h
    cases h; subst e; cases ru
    obtain ⟨_, hsys, kvs, kv, o, es, ep, ho, ex, hd, _, pr, _⟩ := dk_rd I.hok rd
    obtain ⟨q1, q2⟩ := kv_vals (l.trans h2.length) kv
    obtain ⟨q3, q4⟩ := pairs_vals pr
    obtain ⟨bs, hr⟩ := rdxs I h3 h2 q1
    have hl : (ks.map keyP).length = ps.length := by rw [List.length_map, toPdxs_len h3]; exact l
    have e1 : ((ks.map keyP).zip ps).map (·.1) = kvs.map fun p => keyP p.1 := by
      rw [List.map_fst_zip (by omega), ← q2, List.map_map]; rfl
    have e2 : ((ks.map keyP).zip ps).map (·.2) = ps := List.map_snd_zip (by omega)
    exact ⟨_, .dict hsys ho ex.1 hd (by rw [e1]; exact q4 s.heap) (by rw [e2, q3]; exact hr)⟩
  | .con _, _, _, _, h, _, _ => by simp [toPdx] at h
  | .ins _ _ _, _, _, _, h, _, _ => by simp [toPdx] at h
  | .dit _ _, _, _, _, h, _, _ => by simp [toPdx] at h
  | .cel _, _, _, _, h, _, _ => by simp [toPdx] at h
  | .exc _ _ _, _, _, _, h, _, _ => by simp [toPdx] at h
theorem rdxs (I : Inv X pins σ H s) : ∀ {ds : List D} {vs : List V} {ps : List PyData} {us : List Value}, toPdxs ds = some ps → RepVs X.K R H ds vs → Vals vs us → ∃ as, DVG.ReadsAllD s.heap us ps as
  | [], _, _, _, h, r, ru => by simp only [toPdxs] at h; cases h; cases (show _ = [] from r); cases ru; exact ⟨_, .nil⟩
  | d :: ds, _, _, _, h, ⟨v, r, e, h1, h2⟩, ru => by
    simp only [toPdxs] at h
    obtain ⟨a, h3, h⟩ := Option.bind_eq_some_iff.mp h
    obtain ⟨b, h4, h⟩ := Option.bind_eq_some_iff.mp h
    cases h; subst e
    cases ru with
    | cons r1 r2 =>
      obtain ⟨as, q1⟩ := rdx I h3 h1 r1
      obtain ⟨bs, q2⟩ := rdxs I h4 h2 r2
      exact ⟨_, .cons q1 q2⟩
end
/-- repr(x), x data with dicts -/
def rReprX (K : PySem.W.Frag) : List V → Hp → VK → Prop := fun vs H Q => ∃ x p, vs = [x] ∧ (∃ (R : Reg) (d : D), toPdx d = some p ∧ RepV K R H d x) ∧ p.showable = true ∧ p.depth ≤ 64 ∧ p.shown.length ≤ sizeLine ∧ Q (.str p.shown) H
theorem call_reprX (hg : X.A.guards = some []) (hu : X.A.units + 100 < cLine) : CallR X (.builtin "repr") (rReprX X.K) := by
  intro pins s σ H vs us Q I r h
  obtain ⟨x, d, rfl, ⟨R, dd, e1, rv⟩, sh, dep, len, q⟩ := h
  obtain ⟨u, rfl, ru⟩ := vals1 r
  obtain ⟨as, rd⟩ := rdx I e1 rv ru
  have big : ∀ a : Addr, u = .ref a → wpAny (model X.prog X.w) X.A (call (.builtin "repr") [u]) (EP X pins σ Q) X.xe s := fun a e => by
    subst e
    obtain ⟨T, idr, S⟩ := DVG.shows_of (prog := X.prog) (w := X.w) rd sh len
    exact call_repr_slot (by omega) (S.typeIs s fun _ _ e => e) S.slotRepr (S.call X.A.in1 _ s _ hg (by show X.A.units + 1 + d.depth < cLine; omega) (fun _ _ e => e) fun h' u tk k => ⟨_, _, rfl, ⟨.str d.shown, H, I.kept k, ⟨_, rfl⟩, q⟩⟩)
  cases rd with
  | none => exact PySem.P.repr_of_none ⟨.str _, H, I.tok _, ⟨_, rfl⟩, by simpa only [PyData.shown] using q⟩
  | bool b => exact PySem.P.repr_of_bool ⟨.str _, H, I.tok _, ⟨_, rfl⟩, by simpa only [PyData.shown] using q⟩
  | int i t => exact PySem.P.repr_of_int (by simpa [PyData.showable] using sh) ⟨.str _, H, I.tok _, ⟨_, rfl⟩, by simpa only [PyData.shown] using q⟩
  | str y t => exact PySem.P.repr_of_str ⟨.str _, H, I.tok _, ⟨_, rfl⟩, by simpa only [PyData.shown] using q⟩ (by simpa only [PyData.shown] using len)
  | list _ _ _ _ => exact big _ rfl
  | tuple _ _ _ _ => exact big _ rfl
  | dict _ _ _ _ _ _ => exact big _ rfl
end
section
variable {K : PySem.W.Frag}
def reprOkX (p : PyData) : Bool := p.showable && decide (p.depth ≤ 64) && decide (p.shown.length ≤ sizeLine)
def reprXG : List D → Option O
  | [d] => (toPdx d).bind fun p => if reprOkX p = true then some (.dat (.str p.shown)) else none
  | _ => none
end
end DV
namespace DV
open PySem PySem.Spec PyProof.Rows L2
end DV
namespace DV
open PySem PySem.Spec PyProof.Rows L2
section
variable {K : PySem.W.Frag}
end
end DV

/-! DXL: a comprehension over a list in a cell; pure defs asked of what may raise; lists compared. -/
namespace DV
open PySem PySem.Spec PyProof.Rows L2
section
variable {K : PySem.W.Frag} {F : Fx} {R R1 R' : Reg} {H H1 H' : Hp} {δ δ1 δ' : Env} {σ σ' : L2.St}
/-- what the cell holds that slot i names -/
def celAt (i : Nat) (δ : Env) : Option D := match δ[i]? with
  | some (.val (.cel k)) => (stoOf δ).bind fun cs => cs[k]?
  | _ => none
def lcC (i : Nat) (g : MG) (t : MT) (e : MD) (vs : List Nat) : Nat → Nat → List D → Env → Option (List D × Env)
  | 0, _, _, _ => none
  | n + 1, j, acc, δ => match celAt i δ with
    | some (.lst ds) => match ds[j]? with
      | none => some (acc, δ)
      | some d => (g d δ).bind fun δ2 => (t δ2).bind fun p => if p.1 = true then (e p.2).bind fun q => if acc.length < sizeLine then lcC i g t e vs n (j + 1) (acc ++ [q.1]) (wipeE q.2 vs) else none
        else lcC i g t e vs n (j + 1) acc (wipeE p.2 vs)
    | _ => none
def lcCE (i : Nat) (g : MG) (t : MT) (e : MD) (vs : List Nat) : ME := fun δ => if (noOwn δ vs && decide (i ∉ vs)) = true then (lcC i g t e vs 100000 0 [] (wipeE δ vs)).bind fun q => some (.fre (.lst q.1), restE δ q.2 vs) else none
/-- over a cell or over data -/
def isCel (i : Nat) (δ : Env) : Bool := match δ[i]? with
  | some (.val (.cel _)) => true
  | _ => false
def lcVE (i : Nat) (g : MG) (t : MT) (e : MD) (vs : List Nat) : ME := fun δ => if isCel i δ = true then lcCE i g t e vs δ else lcE (seqI (solidE (varE i))) g t e vs δ
end
section
variable {K : PySem.W.Frag} {ec : Nat → Addr} {F : Fx} {R R1 R' : Reg} {H H1 H' : Hp} {δ δ1 δ' : Env} {σ σ' : L2.St}
/-- f(e, ..): f pure, of what may raise -/
def callPX (n : Nat) (f : FD) (fa : MAX) : MEX := fun δ => match fa δ with
  | some (.ok ds δ1) => match callX none n f (ds.map .dat) δ1 with
    | some (o, δ2) => some (.ok o δ2)
    | none => none
  | some (.xc e f d δ1) => some (.xc e f d δ1)
  | none => none
end
/-! ### lists that hold own instances -/
section
variable {X : Cx} {own : Addr → Option FD}
end
section
variable {K : PySem.W.Frag} {F : Fx} {R R1 R' : Reg} {H H1 H' : Hp} {δ δ1 δ' : Env} {σ σ' : L2.St} {own : Addr → Option FD}
end
end DV

/-! DXR: rewriting rules of readings that may raise and of cells. -/
namespace DV
open PySem PySem.Spec PyProof.Rows L2
section
variable {δ δ1 δ' : Env} {o : O} {d : D} {ds cs dms : List D} {e : Nat} {fl : Str} {f g b : MSX} {fx : MEX} {n i k : Nat} {F : FX} {r : Ret} {m : D} {bo : Option Nat}
def zSeq (g : MSX) : Option FlX → Option FlX
  | some (.fl (.nx δ')) => g δ'
  | x => x
theorem z_seq : seqX f g δ = zSeq g (f δ) := rfl
theorem z_seq1 : zSeq g (some (.fl (.nx δ))) = g δ := id rfl
theorem z_seq2 : zSeq g (some (.fl (.rt o δ))) = some (.fl (.rt o δ)) := id rfl
theorem z_seq3 : zSeq g (some (.xc e fl d δ)) = some (.xc e fl d δ) := id rfl
theorem z_seq4 : zSeq g (some (.fl (.bk δ))) = some (.fl (.bk δ)) := id rfl
theorem z_seq5 : zSeq g (some (.fl (.ct δ))) = some (.fl (.ct δ)) := id rfl
def zIf (f g : MSX) : Option (Bool × Env) → Option FlX
  | some (true, δ') => f δ'
  | some (false, δ') => g δ'
  | none => none
theorem z_if {c : MT} : ifX c f g δ = zIf f g (c δ) := rfl
theorem z_if1 : zIf f g (some (true, δ)) = f δ := id rfl
theorem z_if2 : zIf f g (some (false, δ)) = g δ := id rfl
def zLift : Option Fl → Option FlX
  | some x => some (.fl x)
  | none => none
theorem z_ls {f : MS} : liftXS f δ = zLift (f δ) := rfl
theorem z_ls1 {x : Fl} : zLift (some x) = some (.fl x) := id rfl
def zLiftE : Option (O × Env) → Option XO
  | some (o, δ') => some (.ok o δ')
  | none => none
theorem z_le {f : ME} : liftX f δ = zLiftE (f δ) := rfl
theorem z_le1 : zLiftE (some (o, δ)) = some (.ok o δ) := id rfl
theorem z_nx : nextX δ = some (.fl (.nx δ)) := id rfl
def zRet : Option XO → Option FlX
  | some (.ok o δ') => some (.fl (.rt o δ'))
  | some (.xc e f d δ') => some (.xc e f d δ')
  | none => none
theorem z_rt : retX fx δ = zRet (fx δ) := rfl
theorem z_rt1 : zRet (some (.ok o δ)) = some (.fl (.rt o δ)) := id rfl
theorem z_rt2 : zRet (some (.xc e fl d δ)) = some (.xc e fl d δ) := id rfl
def zDrop : Option XO → Option FlX
  | some (.ok _ δ') => some (.fl (.nx δ'))
  | some (.xc e f d δ') => some (.xc e f d δ')
  | none => none
theorem z_dr : dropX fx δ = zDrop (fx δ) := rfl
theorem z_dr1 : zDrop (some (.ok o δ)) = some (.fl (.nx δ)) := id rfl
theorem z_dr2 : zDrop (some (.xc e fl d δ)) = some (.xc e fl d δ) := id rfl
def zAsg (i : Nat) : Option XO → Option FlX
  | some (.ok o δ') => asgO i o δ'
  | some (.xc e f d δ') => some (.xc e f d δ')
  | none => none
theorem z_as : asgX i fx δ = zAsg i (fx δ) := rfl
theorem z_as1 : zAsg i (some (.ok (.dat d) δ)) = some (.fl (.nx (δ.set i (.val d)))) := id rfl
theorem z_as2 : zAsg i (some (.ok (.fre d) δ)) = some (.fl (.nx (δ.set i (.own d)))) := id rfl
theorem z_as3 : zAsg i (some (.ok (.cel k) δ)) = some (.fl (.nx (δ.set i (.val (.cel k))))) := id rfl
theorem z_as4 : zAsg i (some (.xc e fl d δ)) = some (.xc e fl d δ) := id rfl
def zLet2 (x : Option Env) : Option FlX := match x with
  | some δ3 => some (.fl (.nx δ3))
  | none => none
def zLet1 (g : MG) (x : Option (D × Env)) : Option FlX := match x with
  | some (d, δ2) => zLet2 (g d δ2)
  | none => none
def zLet (g : MG) : Option XO → Option FlX
  | some (.ok o δ') => zLet1 g (solid o δ')
  | some (.xc e f d δ') => some (.xc e f d δ')
  | none => none
theorem z_lt {g : MG} : letX fx g δ = zLet g (fx δ) := by
  unfold letX zLet zLet1 zLet2
  rfl
theorem z_lt1 {g : MG} : zLet g (some (.ok o δ)) = zLet1 g (solid o δ) := id rfl
theorem z_lt2 {g : MG} : zLet g (some (.xc e fl d δ)) = some (.xc e fl d δ) := id rfl
theorem z_lt3 {g : MG} : zLet1 g (some (d, δ)) = zLet2 (g d δ) := id rfl
theorem z_lt4 : zLet2 (some δ) = some (.fl (.nx δ)) := id rfl
theorem z_so1 : solid (.dat d) δ = some (d, δ) := id rfl
theorem z_so2 : solid (.fre d) δ = some (d, δ) := id rfl
theorem z_so3 : solid (.cel k) δ = some (.cel k, δ) := id rfl
def zRaise (e : Nat) (f : Str) : Option (D × Env) → Option FlX
  | some (d, δ') => some (.xc e f d δ')
  | none => none
theorem z_ra {fe : MD} : raiseX e fl fe δ = zRaise e fl (fe δ) := rfl
theorem z_ra1 : zRaise e fl (some (d, δ)) = some (.xc e fl d δ) := id rfl
def zFor (g : MG) (b : MSX) : Option (List D × Env) → Option FlX
  | some p => loopX g b p.1 p.2
  | none => none
theorem z_fo {fi : MI} {g : MG} : forX fi g b δ = zFor g b (fi δ) := rfl
theorem z_fo1 {g : MG} : zFor g b (some (ds, δ)) = loopX g b ds δ := id rfl
/-! the store -/
theorem z_sto {s t : Sl} {l : Env} : stoOf (s :: t :: l) = stoOf (t :: l) := by
  unfold stoOf
  rw [List.getLast?_cons_cons]
theorem z_sto1 : stoOf [.sto cs] = some cs := id rfl
theorem z_put {s t : Sl} {l : Env} : putSto (s :: t :: l) cs = s :: putSto (t :: l) cs := by
  unfold putSto
  simp only [List.length_cons, Nat.add_sub_cancel, List.set_cons_succ]
theorem z_put1 {s : Sl} : putSto [s] cs = [.sto cs] := id rfl
/-! calls -/
def zCall (n : Nat) (f : FX) (dms : List D) : Option (List D × Env) → Option XO
  | some (ds, δ') => callD n f (ds ++ dms) δ'
  | none => none
theorem z_ca {fa : MAD} : callXE n F dms fa δ = zCall n F dms (fa δ) := rfl
theorem z_ca1 : zCall n F dms (some (ds, δ)) = callD n F (ds ++ dms) δ := id rfl
def zD2 (f : FX) (ds : List D) (δ : Env) : Option (List D) → Option XO
  | some cs => resXO δ (f ds cs)
  | none => none
def zD1 (f : FX) (ds : List D) (δ : Env) : Bool → Option XO
  | true => zD2 f ds δ (stoOf δ)
  | false => none
theorem z_cd : callD n F ds δ = zD1 F ds δ (decide (ds.length = n)) := by
  unfold callD
  by_cases h : ds.length = n
  · rw [if_pos h, decide_eq_true h]; rfl
  · rw [if_neg h, decide_eq_false h]; rfl
theorem z_cd1 : zD1 F ds δ true = zD2 F ds δ (stoOf δ) := id rfl
theorem z_cd2 : zD2 F ds δ (some cs) = resXO δ (F ds cs) := id rfl
theorem z_re1 : resXO δ (some (.ok (.dat d) m cs)) = some (.ok (.dat d) (putSto δ cs)) := id rfl
theorem z_re2 : resXO δ (some (.ok (.fre d) m cs)) = some (.ok (.fre d) (putSto δ cs)) := id rfl
theorem z_re3 : resXO δ (some (.xc e fl d m cs)) = some (.xc e fl d (putSto δ cs)) := id rfl
def zCN2 (f : FX) (dms : List D) (idx : List Nat) (np : Nat) (ds zs : List D) (δ : Env) : Bool → Option XO
  | true => callD np f (pick idx (ds ++ (dms ++ zs))) δ
  | false => none
def zCN1 (idx : List Nat) (n m np : Nat) (f : FX) (dms : List D) (ds : List D) : Option (List D × Env) → Option XO
  | some (zs, δ2) => zCN2 f dms idx np ds zs δ2 (decide (ds.length = n) && decide (zs.length = m))
  | none => none
def zCN (idx : List Nat) (n m np : Nat) (f : FX) (dms : List D) (fk : MAD) : Option (List D × Env) → Option XO
  | some (ds, δ1) => zCN1 idx n m np f dms ds (fk δ1)
  | none => none
theorem z_cn {idx : List Nat} {n m np : Nat} {fa fk : MAD} : callNXE idx n m np F dms fa fk δ = zCN idx n m np F dms fk (fa δ) := by
  unfold callNXE zCN
  cases fa δ with
  | none => rfl
  | some p =>
    obtain ⟨ds, δ1⟩ := p
    dsimp only
    unfold zCN1
    cases fk δ1 with
    | none => rfl
    | some q =>
      obtain ⟨zs, δ2⟩ := q
      dsimp only
      cases h : (decide (ds.length = n) && decide (zs.length = m)) with
      | true => rw [if_pos rfl]; rfl
      | false => rw [if_neg (by decide)]; rfl
theorem z_cn1 {idx : List Nat} {n m np : Nat} {fk : MAD} : zCN idx n m np F dms fk (some (ds, δ)) = zCN1 idx n m np F dms ds (fk δ) := id rfl
theorem z_cn2 {idx : List Nat} {n m np : Nat} {zs : List D} : zCN1 idx n m np F dms ds (some (zs, δ)) = zCN2 F dms idx np ds zs δ (decide (ds.length = n) && decide (zs.length = m)) := id rfl
theorem z_cn3 {idx : List Nat} {np : Nat} {zs : List D} : zCN2 F dms idx np ds zs δ true = callD np F (pick idx (ds ++ (dms ++ zs))) δ := id rfl
def zMeth2 (n : Nat) (f : FX) (dms : List D) (d : D) : Option (List D × Env) → Option XO
  | some (ds, δ2) => callD n f (d :: (ds ++ dms)) δ2
  | none => none
def zMeth1 (n : Nat) (f : FX) (dms : List D) (fa : MAD) (d : D) (δ : Env) : Bool → Option XO
  | true => zMeth2 n f dms d (fa δ)
  | false => none
def zMeth (C : Addr) (m : Str) (n : Nat) (f : FX) (dms : List D) (fa : MAD) : Option (D × Env) → Option XO
  | some (d, δ1) => zMeth1 n f dms fa d δ1 (insB C m d)
  | none => none
theorem z_me {C : Addr} {mm : Str} {fo : MD} {fa : MAD} : methXE C mm n F dms fo fa δ = zMeth C mm n F dms fa (fo δ) := by
  unfold methXE zMeth
  cases fo δ with
  | none => rfl
  | some p =>
    obtain ⟨d, δ1⟩ := p
    dsimp only
    cases insB C mm d with
    | true => rfl
    | false => rfl
theorem z_me1 {C : Addr} {mm : Str} {fa : MAD} : zMeth C mm n F dms fa (some (d, δ)) = zMeth1 n F dms fa d δ (insB C mm d) := id rfl
theorem z_me2 {fa : MAD} : zMeth1 n F dms fa d δ true = zMeth2 n F dms d (fa δ) := id rfl
theorem z_me3 : zMeth2 n F dms d (some (ds, δ)) = callD n F (d :: (ds ++ dms)) δ := id rfl
def zMk2 (C : Addr) (f : FX) (ds : List D) (δ : Env) : Option (List D) → Option XO
  | some cs => resMk δ (f (.ins C [] [] :: ds) cs)
  | none => none
def zMk1 (C : Addr) (f : FX) (ds : List D) (δ : Env) : Bool → Option XO
  | true => zMk2 C f ds δ (stoOf δ)
  | false => none
def zMk (C : Addr) (n : Nat) (f : FX) (dms : List D) : Option (List D × Env) → Option XO
  | some (ds, δ1) => zMk1 C f (ds ++ dms) δ1 (decide ((ds ++ dms).length + 1 = n))
  | none => none
theorem z_mk {C : Addr} {fa : MAD} : makeXE C n F dms fa δ = zMk C n F dms (fa δ) := by
  unfold makeXE zMk
  cases fa δ with
  | none => rfl
  | some p =>
    obtain ⟨ds, δ1⟩ := p
    dsimp only
    by_cases h : (ds ++ dms).length + 1 = n
    · rw [if_pos h, decide_eq_true h]; rfl
    · rw [if_neg h, decide_eq_false h]; rfl
theorem z_mk1 {C : Addr} : zMk C n F dms (some (ds, δ)) = zMk1 C F (ds ++ dms) δ (decide ((ds ++ dms).length + 1 = n)) := id rfl
theorem z_mk2 {C : Addr} : zMk1 C F ds δ true = zMk2 C F ds δ (stoOf δ) := id rfl
theorem z_mk3 {C : Addr} : zMk2 C F ds δ (some cs) = resMk δ (F (.ins C [] [] :: ds) cs) := id rfl
theorem z_rm1 : resMk δ (some (.ok (.dat .non) m cs)) = some (.ok (.fre m) (putSto δ cs)) := id rfl
theorem z_rm2 : resMk δ (some (.xc e fl d m cs)) = some (.xc e fl d (putSto δ cs)) := id rfl
/-! displays -/
theorem z_xl {fa : MAD} : liftXA fa δ = (match fa δ with | some (ds, δ') => some (.ok ds δ') | none => none : Option XA) := rfl
def zCons2 (d : D) : Option XA → Option XA
  | some (.ok ds δ3) => some (.ok (d :: ds) δ3)
  | x => x
def zCons1 (g : MAX) : Option (D × Env) → Option XA
  | some (d, δ2) => zCons2 d (g δ2)
  | none => none
def zCons (g : MAX) : Option XO → Option XA
  | some (.ok o δ1) => zCons1 g (solid o δ1)
  | some (.xc e f d δ1) => some (.xc e f d δ1)
  | none => none
theorem z_xc {g : MAX} : consXA fx g δ = zCons g (fx δ) := by
  unfold consXA zCons
  cases fx δ with
  | none => rfl
  | some y =>
    cases y with
    | xc c f d δ1 => rfl
    | ok o δ1 =>
      dsimp only
      unfold zCons1
      cases solid o δ1 with
      | none => rfl
      | some p => rfl
theorem z_xc1 {g : MAX} : zCons g (some (.ok o δ)) = zCons1 g (solid o δ) := id rfl
theorem z_xc2 {g : MAX} : zCons g (some (.xc e fl d δ)) = some (.xc e fl d δ) := id rfl
theorem z_xc3 {g : MAX} : zCons1 g (some (d, δ)) = zCons2 d (g δ) := id rfl
theorem z_xc4 : zCons2 d (some (.ok ds δ)) = some (.ok (d :: ds) δ) := id rfl
theorem z_xc5 {d2 : D} : zCons2 d2 (some (.xc e fl d δ)) = some (.xc e fl d δ) := id rfl
def zXl : Option (List D × Env) → Option XA
  | some (ds, δ') => some (.ok ds δ')
  | none => none
theorem z_xla {fa : MAD} : liftXA fa δ = zXl (fa δ) := rfl
theorem z_xla1 : zXl (some (ds, δ)) = some (.ok ds δ) := id rfl
def zP2 : Option (O × Env) → Option XO
  | some (o, δ2) => some (.ok o δ2)
  | none => none
def zP (n : Nat) (f : FD) : Option XA → Option XO
  | some (.ok ds δ1) => zP2 (callX none n f (ds.map .dat) δ1)
  | some (.xc e f d δ1) => some (.xc e f d δ1)
  | none => none
theorem z_cp {f : FD} {fa : MAX} : callPX n f fa δ = zP n f (fa δ) := by
  unfold callPX zP zP2
  rfl
theorem z_cp1 {f : FD} : zP n f (some (.ok ds δ)) = zP2 (callX none n f (ds.map .dat) δ) := id rfl
theorem z_cp2 {f : FD} : zP n f (some (.xc e fl d δ)) = some (.xc e fl d δ) := id rfl
theorem z_cp3 : zP2 (some (o, δ)) = some (.ok o δ) := id rfl
/-! try -/
def zTry (i : Nat) (r : List (Nat × List Nat × (Str → D → MS))) : Option FlX → Option FlX
  | some (.xc e f d δ1) => catchX i r e f d δ1
  | x => x
theorem z_try {h : List (Nat × List Nat × (Str → D → MS))} : tryX i h b δ = zTry i h (b δ) := rfl
theorem z_try1 {h : List (Nat × List Nat × (Str → D → MS))} {x : Fl} : zTry i h (some (.fl x)) = some (.fl x) := id rfl
theorem z_try2 {h : List (Nat × List Nat × (Str → D → MS))} : zTry i h (some (.xc e fl d δ)) = catchX i h e fl d δ := id rfl
def zOff (i : Nat) : Option Fl → Option FlX
  | some x => some (offF i x)
  | none => none
def zCat (i : Nat) (g : Str → D → MS) (f : Str) (d : D) (δ : Env) : Bool → Option FlX
  | true => zOff i (g f d (δ.set i .un))
  | false => none
theorem z_cat {es : List Nat} {g : Str → D → MS} {h : List (Nat × List Nat × (Str → D → MS))} (he : e ∈ es) : catchX i ((e, es, g) :: h) e fl d δ = zCat i g fl d δ (decide (i < δ.length)) := by
  unfold catchX
  rw [if_pos he, if_pos rfl]
  by_cases hi : i < δ.length
  · rw [if_pos hi, decide_eq_true hi]; rfl
  · rw [if_neg hi, decide_eq_false hi]; rfl
theorem z_catn {e0 : Nat} {es : List Nat} {g : Str → D → MS} {h : List (Nat × List Nat × (Str → D → MS))} (he : e ∈ es) (hn : e ≠ e0) : catchX i ((e0, es, g) :: h) e fl d δ = catchX i h e fl d δ := by
  rw [catchX.eq_2, if_pos he, if_neg hn]
theorem z_cat0 : catchX i [] e fl d δ = some (.xc e fl d δ) := id rfl
theorem z_cat1 {g : Str → D → MS} : zCat i g fl d δ true = zOff i (g fl d (δ.set i .un)) := id rfl
theorem z_off1 : zOff i (some (.nx δ)) = some (.fl (.nx (δ.set i .un))) := id rfl
theorem z_off2 : zOff i (some (.rt o δ)) = some (.fl (.rt o δ)) := id rfl
theorem z_fu {f0 : Str} : fldU f0 f0 d δ = some (.dat d, δ) := if_pos rfl
/-! the end of a def -/
def zEnd2 (r : Option Ret) (m : Option D) (c : Option (List D)) : Option RX := r.bind fun r => m.bind fun m => c.bind fun cs => some (.ok r m cs)
def zEnd3 (e : Nat) (f : Str) (d : D) (m : Option D) (c : Option (List D)) : Option RX := m.bind fun m => c.bind fun cs => some (.xc e f d m cs)
theorem z_dx {x : FlX} : dx1 bo (some x) = endX bo x := id rfl
theorem z_en1 : endX bo (.fl (.nx δ)) = zEnd2 (some (.dat .non)) (outOf bo δ) (stoOf δ) := id rfl
theorem z_en2 : endX bo (.fl (.rt o δ)) = zEnd2 (resOf o δ) (outOf bo δ) (stoOf δ) := id rfl
theorem z_en3 : endX bo (.xc e fl d δ) = zEnd3 e fl d (outOf bo δ) (stoOf δ) := id rfl
theorem z_ee2 : zEnd2 (some r) (some m) (some cs) = some (.ok r m cs) := id rfl
theorem z_ee3 : zEnd3 e fl d (some m) (some cs) = some (.xc e fl d m cs) := id rfl
/-! cells -/
def zProm (x : Option (O × Env)) : Option (O × Env) := match x with
  | some (.fre d, δ1) => match stoOf δ1 with
    | some cs => some (.dat (.cel cs.length), putSto δ1 (cs ++ [d]))
    | none => none
  | x => x
def zProm1 (d : D) (δ : Env) : Option (List D) → Option (O × Env)
  | some cs => some (.dat (.cel cs.length), putSto δ (cs ++ [d]))
  | none => none
theorem z_pr {f : ME} : promE f δ = zProm (f δ) := rfl
theorem z_pr1 : zProm (some (.fre d, δ)) = zProm1 d δ (stoOf δ) := rfl
theorem z_pr2 : zProm1 d δ (some cs) = some (.dat (.cel cs.length), putSto δ (cs ++ [d])) := id rfl
def zView : Option (O × Env) → Option (O × Env)
  | some (o, δ') => some (vwO o, δ')
  | none => none
theorem z_vw {f : ME} : viewE f δ = zView (f δ) := rfl
theorem z_vw1 : zView (some (.dat (.cel k), δ)) = some (.cel k, δ) := id rfl
theorem z_vw2 : zView (some (.dat (.int j), δ)) = some (.dat (.int j), δ) := id rfl
theorem z_vw3 : zView (some (.dat (.lst ds), δ)) = some (.dat (.lst ds), δ) := id rfl
theorem z_vw4 : zView (some (.dat (.tup ds), δ)) = some (.dat (.tup ds), δ) := id rfl
theorem z_vw5 {C : Addr} {ks : List Str} : zView (some (.dat (.ins C ks ds), δ)) = some (.dat (.ins C ks ds), δ) := id rfl
def zCell (k : Nat) : Option (List D) → Option D
  | some cs => cs[k]?
  | none => none
theorem z_de : deref δ (.cel k) = zCell k (stoOf δ) := by
  show (stoOf δ).bind _ = _
  cases stoOf δ <;> rfl
theorem z_de1 : zCell k (some cs) = cs[k]? := id rfl
def zS : Option XO → Option (O × Env)
  | some (.ok o δ) => some (o, δ)
  | _ => none
def zCS (n : Nat) (f : FX) (dms : List D) : Option (List D × Env) → Option (O × Env)
  | some (ds, δ1) => zS (callD n f (ds ++ dms) δ1)
  | none => none
theorem z_cs {fa : MAD} : callSE n F dms fa δ = zCS n F dms (fa δ) := by
  unfold callSE zCS zS
  cases fa δ with
  | none => rfl
  | some p =>
    obtain ⟨ds, δ1⟩ := p
    dsimp only
    cases callD n F (ds ++ dms) δ1 with
    | none => rfl
    | some x => cases x <;> rfl
theorem z_cs1 : zCS n F dms (some (ds, δ)) = zS (callD n F (ds ++ dms) δ) := id rfl
theorem z_cs2 : zS (some (.ok o δ)) = some (o, δ) := id rfl
def zV3 (δ : Env) : Option Bool → Option (O × Env)
  | some b => some (.dat (.bl b), δ)
  | none => none
def zV2 (f : FD) (ds : List D) (δ : Env) : Option (List D) → Option (O × Env)
  | some cs => zV3 δ (boolR (f (uncs cs ds)))
  | none => none
def zV1 (f : FD) (ds : List D) (δ : Env) : Bool → Option (O × Env)
  | true => zV2 f ds δ (stoOf δ)
  | false => none
def zV (n : Nat) (f : FD) : Option (List D × Env) → Option (O × Env)
  | some (ds, δ1) => zV1 f ds δ1 (decide (ds.length = n))
  | none => none
theorem z_cv {f : FD} {fa : MAD} : callVE n f fa δ = zV n f (fa δ) := by
  unfold callVE zV
  cases fa δ with
  | none => rfl
  | some p =>
    obtain ⟨ds, δ1⟩ := p
    dsimp only
    by_cases h : ds.length = n
    · rw [if_pos h, decide_eq_true h]
      show _ = zV2 f ds δ1 (stoOf δ1)
      cases stoOf δ1 with
      | none => rfl
      | some cs =>
        show _ = zV3 δ1 (boolR (f (uncs cs ds)))
        dsimp only
        cases boolR (f (uncs cs ds)) <;> rfl
    · rw [if_neg h, decide_eq_false h]; rfl
theorem z_cv1 {f : FD} : zV n f (some (ds, δ)) = zV1 f ds δ (decide (ds.length = n)) := id rfl
theorem z_cv2 {f : FD} : zV1 f ds δ true = zV2 f ds δ (stoOf δ) := id rfl
theorem z_cv3 {f : FD} : zV2 f ds δ (some cs) = zV3 δ (boolR (f (uncs cs ds))) := id rfl
theorem z_cv4 {b : Bool} : zV3 δ (boolR (some (.dat (.bl b), m))) = some (.dat (.bl b), δ) := id rfl
theorem z_us : uncs cs (d :: ds) = unc cs d :: uncs cs ds := by rw [uncs]
theorem z_us0 : uncs cs [] = [] := by rw [uncs]
theorem z_ul : unc cs (.lst ds) = .lst (uncs cs ds) := by rw [unc]
theorem z_ut : unc cs (.tup ds) = .tup (uncs cs ds) := by rw [unc]
theorem z_ui {j : Int} : unc cs (.int j) = .int j := id rfl
theorem z_ub {b : Bool} : unc cs (.bl b) = .bl b := id rfl
theorem z_un : unc cs .non = .non := id rfl
theorem z_uS {x : Str} : unc cs (.str x) = .str x := id rfl
theorem z_lv {g : MG} {t : MT} {ex : MD} {vs : List Nat} (h : isCel i δ = false) : lcVE i g t ex vs δ = lcE (seqI (solidE (varE i))) g t ex vs δ := by
  unfold lcVE
  rw [h, if_neg (by decide)]
theorem z_lc {g : MG} {t : MT} {ex : MD} {vs : List Nat} (h : isCel i δ = true) : lcVE i g t ex vs δ = lcCE i g t ex vs δ := by
  unfold lcVE
  rw [h, if_pos rfl]
end
end DV

/-! DYK: own errors as values: made by place and by keyword, asked about, their fields; repr of what holds cells. -/
namespace DV
open PySem PySem.Spec PyProof.Rows L2
section
variable {K : PySem.W.Frag} {F : Fx} {R R1 R' : Reg} {H H1 H' : Hp} {δ δ1 δ' : Env} {σ σ' : L2.St}
theorem upd_two {H : Hp} {x y : Addr} {o1 o2 o3 : HO} (n : y ≠ x) : upd (upd (upd H x o1) y o2) x o3 = upd (upd H x o3) y o2 := by
  funext a
  by_cases e : a = x
  · subst e
    rw [upd_same, upd_ne (fun z => n z.symm), upd_same]
  · rw [upd_ne e]
    by_cases e2 : a = y
    · subst e2; rw [upd_same, upd_same]
    · rw [upd_ne e2, upd_ne e2, upd_ne e, upd_ne e]
/-- something new, known from now on -/
theorem Wd.newR (w : Wd K F R H δ σ) {x : Addr} {o : HO} (hx : H x = none) : Wd K F (RegAdd R x) (upd H x o) δ σ ∧ Ext δ δ σ R H (RegAdd R x) (upd H x o) := by
  have w1 : Wd K F R (upd H x o) δ σ := w.alloc hx
  have e1 : Ext δ δ σ R H R (upd H x o) := Ext.alloc hx
  refine ⟨w1.addR SubR.add rfl (fun b hb => ?_) (fun b hb => ?_), e1.addR SubR.add rfl fun b hb => ?_⟩
  · rintro (z | z)
    · exact (w1.ownAt hb).1 z
    · subst z; exact w.ownNe hx hb
  · rcases hb with z | z
    · exact w1.new b z
    · rw [z]; exact ⟨.inr (w.H0none hx), by rw [upd_same]; exact fun q => by cases q⟩
  · rcases hb with z | z
    · exact .inl z
    · rw [z]; exact .inr (.inl hx)
/-- C(x), C(f = x): an own error as a value -/
def mkxE (C : Addr) (f : Str) (n m : Nat) (fa fk : MAD) : ME := fun δ => match fa δ with
  | some (ds, δ1) => match fk δ1 with
    | some (es, δ2) => if (decide (ds.length = n) && decide (es.length = m)) = true then match ds ++ es with
      | [d] => some (.dat (.exc C f d), δ2)
      | _ => none
      else none
    | none => none
  | none => none
theorem ev_mkx {C : Addr} {f : Str} {n m : Nat} {ta tk : TA} {fa fk : MAD} {gV : List V → List V → List V} (hg : ∀ x vs zs v, vs ++ zs = [v] → gV (.ref x :: vs) zs = [.ref x, v]) (hn : n ≤ 1000) (T : OexC K C) (hno : PySem.W.findIn K (.ref C) f = some none)
    (ha : EvAD K ta fa) (hk : EvAD K tk fk) : Ev K (tMkV C n m (DVG.spE K f) gV ta tk) (mkxE C f n m fa fk) := fun F R H δ σ o δ' w hf Q q => by
  unfold mkxE at hf
  split at hf
  case h_2 => cases hf
  rename_i ds δ1 e1
  split at hf
  case h_2 => cases hf
  rename_i es δ2 e2
  split at hf
  case isFalse => cases hf
  rename_i hl
  rw [Bool.and_eq_true, decide_eq_true_eq, decide_eq_true_eq] at hl
  split at hf
  case h_2 => cases hf
  rename_i d e3
  cases hf
  refine ha F R H δ σ ds δ1 w e1 _ fun vs R1 H1 w1 x1 r1 => ?_
  refine hk F R1 H1 δ1 σ es _ w1 e2 _ fun zs R2 H2 w2 x2 r2 => ?_
  have r := (RepVs.keep (x2.keep w1) r1).append r2
  rw [e3] at r
  obtain ⟨v, r0, ev, rv, er⟩ := r
  rw [show r0 = [] from er] at ev
  refine ⟨by rw [← r1.length]; exact hl.1, hn, by rw [← r2.length]; exact hl.2, fun x hx => ?_⟩
  refine ⟨x, C, v, hg x vs zs v ev, T, hno, upd_same, fun dx hdx ne => ⟨rfl, ?_⟩⟩
  rw [upd_ne ne] at hdx
  rw [upd_two ne]
  obtain ⟨w3, x3⟩ := w2.newR (o := exo x C (some dx)) hx
  have hdx' : upd H2 x (exo x C (some dx)) dx = none := by rw [upd_ne ne]; exact hdx
  obtain ⟨w4, x4⟩ := w3.newR (o := exd dx [(f, v)]) hdx'
  refine q _ _ _ w4 (((x1.trans x2).trans x3).trans x4) ?_ trivial
  refine ⟨x, dx, v, rfl, .inl (.inr rfl), .inr rfl, ?_, upd_same, RepV.keep (x4.keep w3) (RepV.keep (x3.keep w2) rv)⟩
  rw [upd_ne (fun z => ne z.symm), upd_same]
/-! ### isinstance(e, C) -/
structure ErrIs (K : PySem.W.Frag) (B C : Addr) : Prop where
  x : ExcC K C
  m : ∃ cd, PySem.W.clsIn K C = some cd ∧ cd.mro = [.ref C, .ref B, .type "ValueError", .type "Exception", .type "BaseException", .type "object"]
  t : PySem.W.typeIn K (.ref C) = some (.type "type")
structure ErrAll (K : PySem.W.Frag) (es : List Addr) (B : Addr) : Prop where
  a : ∀ C ∈ es, ErrIs K B C
  b : (PySem.W.clsIn K B).isSome = true
  t : PySem.W.typeIn K (.ref B) = some (.type "type")
def isXG (es : List Addr) (B : Addr) : List D → Option O
  | [.exc C _ _, .con (.ref c)] => if (decide (C ∈ es) && (decide (c ∈ es) || decide (c = B))) = true then some (.dat (.bl (decide (c = C) || decide (c = B)))) else none
  | [.exc C _ _, .con (.ty T)] => if (decide (C ∈ es) && decide (T = "ValueError")) = true then some (.dat (.bl true)) else none
  | _ => none
theorem RepL.exc {C : Addr} {f : Str} {d : D} {v : V} (h : RepL K R H (.exc C f d) v) : ∃ a dx u, v = .ref a ∧ H a = some (exo a C (some dx)) ∧ H dx = some (exd dx [(f, u)]) ∧ RepV K R H d u := by
  rcases h with ⟨a, dx, u, e, _, _, h1, h2, r⟩ | ⟨a, e, z⟩
  · exact ⟨a, dx, u, e, h1, h2, r⟩
  · exact z.elim
theorem kit_err {es : List Addr} {B C c : Addr} (A : ErrAll K es B) (hC : C ∈ es) (hc : c ∈ es ∨ c = B) : PySem.W.kitOne K (.ref C) (.ref c) = some (decide (c = C) || decide (c = B)) := by
  obtain ⟨cd, h1, h2⟩ := (A.a C hC).m
  unfold PySem.W.kitOne
  by_cases e : C = c
  · subst e
    rw [if_pos (by simp)]
    simp
  · rw [if_neg (by simpa using e)]
    have hs : ((PySem.W.clsIn K c).isSome && PySem.W.typeIn K (.ref c) == some (.type "type")) = true := by
      rcases hc with hc | hc
      · obtain ⟨cd', g1, _⟩ := (A.a c hc).m
        rw [g1, (A.a c hc).t]; rfl
      · subst hc
        rw [A.b, A.t]; rfl
    show (if ((PySem.W.clsIn K c).isSome && PySem.W.typeIn K (.ref c) == some (.type "type")) = true then PySem.W.subIn K (.ref C) (.ref c) else none) = _
    rw [if_pos hs]
    show PySem.W.mroIn K C (.ref c) = _
    unfold PySem.W.mroIn
    rw [h1, Option.bind_some, h2, if_neg (by simp)]
    have e' : ¬ c = C := fun z => e z.symm
    by_cases eb : c = B
    · subst eb; simp
    · simp [e', eb]
theorem kit_errV {es : List Addr} {B C : Addr} (A : ErrAll K es B) (hC : C ∈ es) : PySem.W.kitOne K (.ref C) (.type "ValueError") = some true := by
  obtain ⟨cd, h1, h2⟩ := (A.a C hC).m
  unfold PySem.W.kitOne
  rw [if_neg (by simp)]
  show (if PySem.W.kitMeta "ValueError" = true then PySem.W.subIn K (.ref C) (.type "ValueError") else none) = _
  rw [if_pos (by decide +kernel)]
  show PySem.W.mroIn K C (.type "ValueError") = _
  unfold PySem.W.mroIn
  rw [h1, Option.bind_some, h2, if_neg (by simp)]
  simp
theorem c_isX {es : List Addr} {B : Addr} (A : ErrAll K es B) : CbOk K (rIsV K) (isXG es B) := fun F R H δ σ ds vs res w r hg Q q => by
  unfold isXG at hg
  split at hg
  · rename_i C f d c
    split at hg
    case isFalse => cases hg
    rename_i hi
    rw [Bool.and_eq_true, Bool.or_eq_true, decide_eq_true_eq, decide_eq_true_eq, decide_eq_true_eq] at hi
    cases hg
    obtain ⟨v, u, e, r1, r2⟩ := r.two
    obtain ⟨a, dx, y, ev, h1, h2, _⟩ := r1.exc
    have eu : u = .ref c := r2.con
    subst ev; subst eu
    exact ⟨a, C, dx, _, _, .ref c, _, e, h1, h2, (A.a C hi.1).x, fun u hu => hu, kit_err A hi.1 hi.2, q _ R H w Ext.refl rfl trivial⟩
  · rename_i C f d T
    split at hg
    case isFalse => cases hg
    rename_i hi
    rw [Bool.and_eq_true, decide_eq_true_eq, decide_eq_true_eq] at hi
    obtain ⟨hi, rfl⟩ := hi
    cases hg
    obtain ⟨v, u, e, r1, r2⟩ := r.two
    obtain ⟨a, dx, y, ev, h1, h2, _⟩ := r1.exc
    have eu : u = .ty "ValueError" := r2.con
    subst ev; subst eu
    exact ⟨a, C, dx, _, _, .type "ValueError", _, e, h1, h2, (A.a C hi).x, fun u hu => hu, kit_errV A hi, q _ R H w Ext.refl rfl trivial⟩
  · cases hg
/-! ### e.f -/
def fldxE (es : List Addr) (f : Str) (fe : ME) : ME := fun δ => match fe δ with
  | some (o, δ') => match deref δ' o with
    | some (.exc C f' d) => if (decide (C ∈ es) && decide (f' = f)) = true then some (.dat d, δ') else none
    | _ => none
  | none => none
theorem ev_fldx {es : List Addr} {f : Str} {te : TE} {fe : ME} (A : ∀ C ∈ es, XfC K C ∧ PySem.W.findIn K (.ref C) f = some none) (h : Ev K te fe) : Ev K (tXo K f te) (fldxE es f fe) := fun F R H δ σ o δ' w hf Q q => by
  unfold fldxE at hf
  split at hf
  case h_2 => cases hf
  rename_i o1 δ1 e1
  split at hf
  case h_2 => cases hf
  rename_i C f' d e2
  split at hf
  case isFalse => cases hf
  rename_i hi
  rw [Bool.and_eq_true, decide_eq_true_eq, decide_eq_true_eq] at hi
  obtain ⟨hi, rfl⟩ := hi
  cases hf
  refine h F R H δ σ o1 _ w e1 _ fun v R1 H1 w1 x1 r1 f1 => ?_
  obtain ⟨a, dx, y, ev, h1, h2, rd⟩ := (deref_ok w1 r1 e2).exc
  refine ⟨a, C, dx, _, y, ev, h1, h2, (A C hi).1, (A C hi).2, ?_, q y R1 H1 w1 x1 rd trivial⟩
  simp [List.lookup]
/-! ### repr(x), x holding cells -/
def strO : Option O → Option Str
  | some (.dat (.str x)) => some x
  | _ => none
theorem strO_inv {r : Option O} {x : Str} (h : strO r = some x) : r = some (.dat (.str x)) := by
  unfold strO at h
  split at h
  · cases h; rfl
  · cases h
def cbVE (g : List D → Option O) (fa : MAD) : ME := fun δ => match fa δ with
  | some (ds, δ1) => match stoOf δ1 with
    | some cs => match strO (g (uncs cs ds)) with
      | some x => some (.dat (.str x), δ1)
      | none => none
    | none => none
  | none => none
theorem ev_reprV {ta : TA} {fa : MAD} (ha : EvAD K ta fa) : Ev K (tCB (rReprX K) ta) (cbVE reprXG fa) := fun F R H δ σ o δ' w hf Q q => by
  unfold cbVE at hf
  split at hf
  case h_2 => cases hf
  rename_i ds δ1 e1
  split at hf
  case h_2 => cases hf
  rename_i cs e2
  split at hf
  case h_2 => cases hf
  rename_i x e3
  cases hf
  have hg := strO_inv e3
  refine ha F R H δ σ ds _ w e1 _ fun vs R1 H1 w1 x1 r1 => ?_
  have so := w1.stoOk (stoOf_last e2)
  have rv := uncs_rep so r1
  unfold reprXG at hg
  split at hg
  case h_2 => cases hg
  rename_i d ed
  rw [ed] at rv
  obtain ⟨p, e4, hg⟩ := Option.bind_eq_some_iff.mp hg
  split at hg
  case isFalse => cases hg
  rename_i hc
  cases hg
  unfold reprOkX at hc
  simp only [Bool.and_eq_true, decide_eq_true_eq] at hc
  obtain ⟨v, r0, ev, r2, er⟩ := rv
  rw [show r0 = [] from er] at ev
  exact ⟨v, p, ev, ⟨_, d, e4, r2⟩, hc.1.1, hc.1.2, hc.2, q _ R1 H1 w1 x1 rfl trivial⟩
end
end DV
namespace DV
open PySem L2
def gV1 : List V → List V → List V := fun vs zs => pick [0, 1] (vs ++ ([] ++ zs))
end DV
namespace DVG
open PySem PySem.Spec PyProof.Rows L2
section
variable {X : Cx} {CX : CXT} {k n : Nat} {f C : Addr} {fd : FuncData} {ps ks : List Str} {sp : Sp} {x : Str} {p pos : Pos} {e : Expr} {es : List Expr} {kws : List Keyword} {t tk : TA}
theorem pe_mkK {nk : Nat} (T : OexC X.K C) (iC : PySem.W.findIn X.K (.ref C) "__init__" = some (some (.ref f))) (tI : PySem.W.typeIn X.K (.ref f) = some (.type "function"))
    (F1 : FnOk X.prog X.w X.K X.mg X.base CX k f fd ps sp) (hr : Room (k + 1) X.A) (hg : Gl X x) (hm : X.mg x = some (.ref C)) (hb : DV.KwP X.K fd ps (n + 1) ks [0, 1] []) (hx : Passes CX X (fun _ _ _ => False))
    (ha : PA X (e :: es) t) (hkw : PK X kws tk) (hnk : ks.length = nk := by rfl) (hall : (backToKw pos (keywordEach kws X.env)).all (·.1.isSome) = true := by rfl) (hks : (backToKw pos (keywordEach kws X.env)).filterMap (·.1) = ks := by rfl)
    (hdb : (x == ("__debug__" : Str)) = false := by decide) (he : starEach (e :: es) X.env = (false, eval e X.env) :: starEach es X.env := by rfl)
    (hpl : ((backTo pos (starEach (e :: es) X.env)).any (·.1) || (backToKw pos (keywordEach kws X.env)).any (·.1.isNone)) = false := by rfl) :
    PE X (.Call (.Name x p) (e :: es) kws pos) (tMkV C n nk sp DV.gV1 t tk) := by
  subst hnk
  obtain ⟨g, hb⟩ := hb
  exact pe_mkV T iC tI F1 hr hg hm hb hx ha hkw hall hks hdb he hpl
theorem pe_mkK0 {nk : Nat} (T : OexC X.K C) (iC : PySem.W.findIn X.K (.ref C) "__init__" = some (some (.ref f))) (tI : PySem.W.typeIn X.K (.ref f) = some (.type "function"))
    (F1 : FnOk X.prog X.w X.K X.mg X.base CX k f fd ps sp) (hr : Room (k + 1) X.A) (hg : Gl X x) (hm : X.mg x = some (.ref C)) (hb : DV.KwP X.K fd ps 1 ks [0, 1] []) (hx : Passes CX X (fun _ _ _ => False)) (hkw : PK X kws tk) (hnk : ks.length = nk := by rfl)
    (hall : (backToKw pos (keywordEach kws X.env)).all (·.1.isSome) = true := by rfl) (hks : (backToKw pos (keywordEach kws X.env)).filterMap (·.1) = ks := by rfl) (hdb : (x == ("__debug__" : Str)) = false := by decide)
    (hpl : ((backTo pos (starEach [] X.env)).any (·.1) || (backToKw pos (keywordEach kws X.env)).any (·.1.isNone)) = false := by rfl) :
    PE X (.Call (.Name x p) [] kws pos) (tMkV C 0 nk sp DV.gV1 tNil tk) := by
  subst hnk
  obtain ⟨g, hb⟩ := hb
  exact pe_mkV0 T iC tI F1 hr hg hm hb hx hkw hall hks hdb hpl
end
theorem bt_ValueError : bootBuiltins "ValueError" = some (.type "ValueError") := by decide +kernel
end DVG
namespace DV
open PySem PySem.Spec PyProof.Rows L2
theorem gV01 (x : Addr) (vs zs : List V) (v : V) (h : vs ++ zs = [v]) : gV1 (.ref x :: vs) zs = [.ref x, v] := by
  unfold gV1
  rw [List.nil_append, List.cons_append, h]; rfl
theorem bt_ValueError : bootBuiltins "ValueError" = some (.type "ValueError") := by decide +kernel
section
variable {δ δ1 : Env} {o : O} {d : D} {ds es cs : List D} {C : Addr} {f f' : Str} {n m : Nat} {fa fk : MAD} {fe : ME} {as : List Addr} {g : List D → Option O} {x : Str}
def zMx3 (C : Addr) (f : Str) : Bool → List D → Env → Option (O × Env)
  | true, [d], δ => some (.dat (.exc C f d), δ)
  | _, _, _ => none
def zMx2 (C : Addr) (f : Str) (n m : Nat) (ds : List D) : Option (List D × Env) → Option (O × Env)
  | some (es, δ2) => zMx3 C f (decide (ds.length = n) && decide (es.length = m)) (ds ++ es) δ2
  | none => none
def zMx1 (C : Addr) (f : Str) (n m : Nat) (fk : MAD) : Option (List D × Env) → Option (O × Env)
  | some (ds, δ1) => zMx2 C f n m ds (fk δ1)
  | none => none
theorem z_mx : mkxE C f n m fa fk δ = zMx1 C f n m fk (fa δ) := by
  unfold mkxE zMx1
  cases fa δ with
  | none => rfl
  | some p =>
    obtain ⟨ds, δ1⟩ := p
    dsimp only
    unfold zMx2
    cases fk δ1 with
    | none => rfl
    | some q =>
      obtain ⟨es, δ2⟩ := q
      dsimp only
      generalize (decide (ds.length = n) && decide (es.length = m)) = b
      generalize ds ++ es = l
      cases b
      · rfl
      · rcases l with _ | ⟨a, _ | ⟨b, l⟩⟩ <;> rfl
theorem z_mx1 : zMx1 C f n m fk (some (ds, δ)) = zMx2 C f n m ds (fk δ) := id rfl
theorem z_mx2 : zMx2 C f n m ds (some (es, δ)) = zMx3 C f (decide (ds.length = n) && decide (es.length = m)) (ds ++ es) δ := id rfl
theorem z_mx3 : zMx3 C f true [d] δ = some (.dat (.exc C f d), δ) := id rfl
def zFx3 : Bool → D → Env → Option (O × Env)
  | true, d, δ => some (.dat d, δ)
  | false, _, _ => none
def zFx2 (as : List Addr) (f : Str) : Option D → Env → Option (O × Env)
  | some (.exc C f' d), δ => zFx3 (decide (C ∈ as) && decide (f' = f)) d δ
  | _, _ => none
def zFx1 (as : List Addr) (f : Str) : Option (O × Env) → Option (O × Env)
  | some (o, δ') => zFx2 as f (deref δ' o) δ'
  | none => none
theorem z_fx : fldxE as f fe δ = zFx1 as f (fe δ) := by
  unfold fldxE zFx1
  cases fe δ with
  | none => rfl
  | some p =>
    obtain ⟨o, δ1⟩ := p
    dsimp only
    unfold zFx2
    cases deref δ1 o with
    | none => rfl
    | some d =>
      cases d <;> try rfl
      rename_i C f' d
      dsimp only
      unfold zFx3
      generalize (decide (C ∈ as) && decide (f' = f)) = b
      cases b <;> rfl
theorem z_fx1 : zFx1 as f (some (o, δ)) = zFx2 as f (deref δ o) δ := id rfl
theorem z_fx2 : zFx2 as f (some (.exc C f' d)) δ = zFx3 (decide (C ∈ as) && decide (f' = f)) d δ := id rfl
theorem z_fx3 : zFx3 true d δ = some (.dat d, δ) := id rfl
def zRv3 (δ : Env) : Option Str → Option (O × Env)
  | some x => some (.dat (.str x), δ)
  | none => none
def zRv2 (g : List D → Option O) (ds : List D) (δ : Env) : Option (List D) → Option (O × Env)
  | some cs => zRv3 δ (strO (g (uncs cs ds)))
  | none => none
def zRv1 (g : List D → Option O) : Option (List D × Env) → Option (O × Env)
  | some (ds, δ1) => zRv2 g ds δ1 (stoOf δ1)
  | none => none
theorem z_rv : cbVE g fa δ = zRv1 g (fa δ) := by
  unfold cbVE zRv1
  cases fa δ with
  | none => rfl
  | some p =>
    obtain ⟨ds, δ1⟩ := p
    dsimp only
    unfold zRv2
    cases stoOf δ1 with
    | none => rfl
    | some cs =>
      dsimp only
      unfold zRv3
      cases strO (g (uncs cs ds)) <;> rfl
theorem z_rv1 : zRv1 g (some (ds, δ)) = zRv2 g ds δ (stoOf δ) := id rfl
theorem z_rv2 : zRv2 g ds δ (some cs) = zRv3 δ (strO (g (uncs cs ds))) := id rfl
theorem z_rv3 : zRv3 δ (some x) = some (.dat (.str x), δ) := id rfl
theorem z_so : strO (some (.dat (.str x))) = some x := id rfl
end
end DV

/-! DYE: own instances compared with values of any kind. -/
namespace DVG
open PySem PySem.Spec PyProof.Rows L2
open MeetsSeq SeqAt
section
variable {prog : Program} {w : World} {A : Around} {E : Value → Shared → Prop} {s : Shared} {K : PySem.W.Frag} {x C f : Addr} {ox : Obj} {od : Option Obj}
end
/-- an own class is none of the built-in ones -/
structure NoB (K : PySem.W.Frag) (C : Addr) : Prop where
  i : PySem.W.subIn K (.ref C) (.type "int") = some false
  b : PySem.W.subIn K (.ref C) (.type "bool") = some false
  n : PySem.W.subIn K (.ref C) (.type "NoneType") = some false
  s : PySem.W.subIn K (.ref C) (.type "str") = some false
  l : PySem.W.subIn K (.ref C) (.type "list") = some false
  t : PySem.W.subIn K (.ref C) (.type "tuple") = some false
  d : PySem.W.subIn K (.ref C) (.type "dict") = some false
/-- what the other side's == does -/
structure Decl (X : Cx) (A : Around) (s : Shared) (v : Value) (C b : Addr) (T id : String) : Prop where
  ty : s.TypeIs v T
  slot : Slot T "__eq__" id
  call : ∀ Q : Value → Shared → Prop, Q .notImplemented s → wpAny (model X.prog X.w) A (call (.builtin id) [v, .ref b]) Q X.xe s
  sub : PySem.W.subIn X.K (.ref C) (.type T) = some false
  bus : PySem.W.subIn X.K (.type T) (.ref C) = some false
section
variable {X : Cx} {C : Addr}
variable {CX : CXT} {k : Nat} {f : Addr} {fd : FuncData} {ps : List Str} {sp : Sp} {E : XK}
end
end DVG
namespace DV
open PySem PySem.Spec PyProof.Rows L2
section
variable {K : PySem.W.Frag} {F : Fx} {R R1 R2 R' : Reg} {H H1 H' : Hp} {δ δ1 δ' : Env} {σ σ' : L2.St}
structure ClsM (K : PySem.W.Frag) (C : Addr) : Prop where
  i : PySem.W.isClsIn K C = true
  t : PySem.W.typeIn K (.ref C) = some (.type "type")
end
end DV

/-! DYF: != of lists that hold own instances, of dicts, of one and the same cell. -/
namespace GQ
open PySem PySem.Calls PySem.SeqAt
open SeqRoads2 MeetsSeq3 MeetsSeq2 MeetsSeq
open AutoSeq1 (wpAny_loadPart' sub_tuple_tuple)
section
variable {prog : Program} {w : World} {A : Around} {R : Result → Shared → Prop}
end
section
variable {prog : Program} {w : World} {A : Around} {E : Value → Shared → Prop} {s : Shared}
end
end GQ
namespace PySem.W
open PySem PySem.Calls PyProof.Rows PyProof.V PySem.Spec
section
variable {prog : Program} {w : World} {K : Type} [DecidableEq K] {knd : HeapKind prog w K} {A : Around} {E : Value → Shared → Prop} {s : Shared}
end
end PySem.W
namespace DV
open PySem PySem.Spec PyProof.Rows L2
/-! ### lists that hold own instances -/
section
variable {X : Cx} {own : Addr → Option FD}
end
section
variable {K : PySem.W.Frag} {F : Fx} {R R1 R' : Reg} {H H1 H' : Hp} {δ δ1 δ' : Env} {σ σ' : L2.St} {own : Addr → Option FD}
end
/-! ### dicts -/
section
variable {X : Cx}
end
section
variable {K : PySem.W.Frag} {F : Fx} {R R1 R' : Reg} {H H1 H' : Hp} {δ δ1 δ' : Env} {σ σ' : L2.St}
end
/-! ### one and the same list -/
section
variable {X : Cx}
end
section
variable {K : PySem.W.Frag} {F : Fx} {R R1 R' : Reg} {H H1 H' : Hp} {δ δ1 δ' : Env} {σ σ' : L2.St}
end
end DV

/-! DXO: own instances in cells: fields written, methods called, new ones made; dicts in cells. -/
namespace DV
open PySem PySem.Spec PyProof.Rows L2
section
variable {K : PySem.W.Frag} {ec : Nat → Addr} {F : Fx} {R R1 R' : Reg} {H H1 H' Hc : Hp} {δ δ1 δ' : Env} {σ σ' : L2.St}
end
end DV

/-! DYG: lists in cells walked, enumerated; an owned slot becomes a cell. -/
namespace DV
open PySem PySem.Spec PyProof.Rows L2
section
variable {K : PySem.W.Frag} {ec : Nat → Addr} {F : Fx} {R R1 R' : Reg} {H H1 H' : Hp} {δ δ1 δ' : Env} {σ σ' : L2.St}
/-- what is walked: data, or what a cell holds -/
inductive Src where
  | dat (ds : List D)
  | cel (k : Nat) (en : Bool)
def celK (k : Nat) (δ : Env) : Option D := (stoOf δ).bind fun cs => cs[k]?
def enB (en : Bool) (j : Nat) (d : D) : D := if en = true then .tup [.int (j : Nat), d] else d
def srcNext : Src → Nat → Env → Option (Option D)
  | .dat ds, j, _ => some ds[j]?
  | .cel k en, j, δ => match celK k δ with
    | some (.lst ds) => some ((ds[j]?).map (enB en j))
    | _ => none
def SrcOk (K : PySem.W.Frag) (J : It) (R : Reg) (H : Hp) (src : Src) : Prop := ∀ R' H', Keep R H R' H' → ∀ F δ σ, Wd K F R' H' δ σ → ∀ (j : Nat) (r : Option D), srcNext src j δ = some r →
  (∀ d, r = some d → J.go j H' ∧ ∀ x H'', J.yld j H' x H'' → Wd K F R' H'' δ σ ∧ Grow H' H'' ∧ RepV K R' H'' d x) ∧ (r = none → J.stop j H')
theorem SrcOk.dat {J : It} {ds : List D} (h : ItOk K J R H ds) : SrcOk K J R H (.dat ds) := fun R' H' k F δ σ w j r e => by
  injection e with e
  obtain ⟨h1, h2⟩ := h R' H' k F δ σ w j
  exact ⟨fun d ed => h1 d (by rw [e, ed]), fun en => h2 (List.getElem?_eq_none_iff.mp (by rw [e, en]))⟩
end
section
variable {K : PySem.W.Frag} {F : Fx} {R R1 R' : Reg} {H H1 H' : Hp} {δ δ1 δ' : Env} {σ σ' : L2.St}
end
end DV

/-! DYH: isinstance of data of any kind, dicts with tuples as keys among them. -/
namespace DV
open PySem PySem.Spec PyProof.Rows L2
def TyY (K : PySem.W.Frag) (H : Hp) (x : V) (t : Value) : Prop := TyX K H x t ∨ (t = .type "dict" ∧ ∃ a ob kvs, x = .ref a ∧ H a = some (.frz ob (.dT kvs)))
section
variable {X : Cx} {pins : List (Addr × Obj)} {σ : L2.St} {H : Hp} {s : Shared}
theorem kit_ofY {x : V} {u t : Value} (I : Inv X pins σ H s) (rx : RelV x u) (ty : TyY X.K H x t) : ∃ P : Heap → Prop, PySem.W.KitX X.K u t P ∧ P s.heap ∧ u ≠ .builtin "__main__.__loader__#opaque" := by
  rcases ty with ty | ⟨et, a, ob, kvs, ex, ea⟩
  · exact kit_of I rx ty
  · subst et; subst ex
    cases (show u = Value.ref a from rx)
    obtain ⟨_, _, _, xs, _, o, es, ep, h1, h2, _⟩ := (show ObjOk X.prog X.w H s.heap a (.frz ob (.dT kvs)) from I.hok a _ ea)
    exact ⟨_, PySem.W.kitx_dict, ⟨o, h1, h2.1⟩, fun z => nomatch z⟩
end
def rIsiY (K : PySem.W.Frag) : List V → Hp → VK → Prop := fun xs H Q => ∃ (x c : V) (t u : Value) (b : Bool), xs = [x, c] ∧ ClsV c u ∧ TyY K H x t ∧ PySem.W.kitOne K t u = some b ∧ Q (.bl b) H
section
variable {X : Cx}
theorem call_isiY : CallR X (.builtin "isinstance") (rIsiY X.K) := by
  intro pins s σ H xs us Q I r h
  obtain ⟨x, c, t, u, b, rfl, k, ty, e, q⟩ := h
  obtain ⟨u1, u2, rfl, r1, r2⟩ := vals2 r
  have e2 := k.eq r2
  subst e2
  obtain ⟨P, Z, p, hx⟩ := kit_ofY I r1 ty
  exact PySem.W.kia_one Z I.kIn p e hx fun tk => ⟨.bl b, H, I.tok tk, rfl, q⟩
end
section
variable {K : PySem.W.Frag} {F : Fx} {R R1 R' : Reg} {H H1 H' : Hp} {δ δ1 δ' : Env} {σ σ' : L2.St}
def tyYof : D → Option String
  | .dic _ _ => some "dict"
  | .dit _ _ => some "dict"
  | d => tyOf d
theorem tyY_of {d : D} {v : V} {t : String} (h : tyYof d = some t) (r : RepL K R H d v) : TyY K H v (.type t) := by
  unfold tyYof at h
  split at h
  · cases h
    obtain ⟨a, us, ev, rd, _, _⟩ := r.dic
    subst ev
    rcases rd with h | ⟨o, h⟩
    · exact .inl (.base (.dK h))
    · exact .inl (.fDict h)
  · cases h
    obtain ⟨a, us, ev, rd, _, _⟩ := r.dit
    subst ev
    rcases rd with h | ⟨o, h⟩
    · exact .inl (.base (.dT h))
    · exact .inr ⟨rfl, _, _, _, rfl, h⟩
  · exact .inl (tyX h r)
def isYG : List D → Option O
  | [d, .con (.ty c)] => (tyYof d).bind fun t => (kitB t c).bind fun b => some (.dat (.bl b))
  | _ => none
theorem c_isY : CbOk K (rIsiY K) isYG := fun F R H δ σ ds vs res w r hg Q q => by
  unfold isYG at hg
  split at hg
  · rename_i d c
    obtain ⟨t, e1, hg⟩ := Option.bind_eq_some_iff.mp hg
    obtain ⟨b, e2, hg⟩ := Option.bind_eq_some_iff.mp hg
    cases hg
    obtain ⟨v, u, e, r1, r2⟩ := r.two
    exact ⟨v, u, .type t, .type c, b, e, by rw [r2.con]; exact .ty c, tyY_of e1 r1, kit_ty e2, q _ R H w Ext.refl rfl trivial⟩
  · cases hg
end
end DV

/-! DYI: a dict display of one pair whose key is a tuple. -/
namespace DV
open PySem PySem.Spec PyProof.Rows L2
section
variable {K : PySem.W.Frag} {F : Fx} {R R1 R' : Reg} {H H1 H' : Hp} {δ δ1 δ' : Env} {σ σ' : L2.St}
end
end DV

namespace PL
open PySem PySem.Spec PyProof.Rows L2 DV
/-- where the classes lie -/
structure CA where
  e_BadHead : Addr
  e_BadSteps : Addr
  e_NoStep : Addr
  e_BadBody : Addr
  e_BadChain : Addr
  e_NoBoundary : Addr
  e_NoPiece : Addr
  e_BadStretches : Addr
  e_BadName : Addr
  e_BadRoad : Addr
  e_BadTells : Addr
  e_NoMouth : Addr
  e_NameTaken : Addr
  e_UnknownName : Addr
  e_TooSmall : Addr
  e_BadStep : Addr
  e_BadChange : Addr
  e_TooDeep : Addr
  e_TooGreat : Addr
  e_OtherHead : Addr
  e_Held : Addr
  e_TooFar : Addr
  e_Hopeless : Addr
  e_BadText : Addr
  e_BadCommand : Addr
  EB : Addr
def ES (c : CA) : List Addr := [c.e_BadHead, c.e_BadSteps, c.e_NoStep, c.e_BadBody, c.e_BadChain, c.e_NoBoundary, c.e_NoPiece, c.e_BadStretches, c.e_BadName, c.e_BadRoad, c.e_BadTells, c.e_NoMouth, c.e_NameTaken, c.e_UnknownName, c.e_TooSmall, c.e_BadStep, c.e_BadChange, c.e_TooDeep, c.e_TooGreat, c.e_OtherHead, c.e_Held, c.e_TooFar, c.e_Hopeless, c.e_BadText, c.e_BadCommand]
/-- the classes lie apart -/
def Dis (c : CA) : Prop := (ES c ++ [c.EB]).Nodup
def FS_value (c : CA) : List Addr := [c.e_BadHead, c.e_BadSteps, c.e_NoStep, c.e_BadBody, c.e_BadChain, c.e_NoBoundary, c.e_NoPiece, c.e_BadStretches, c.e_BadName, c.e_BadRoad, c.e_BadTells, c.e_NoMouth]
def FS_name (c : CA) : List Addr := [c.e_NameTaken, c.e_UnknownName, c.e_TooSmall]
def FS_position (c : CA) : List Addr := [c.e_BadStep, c.e_BadChange]
def FS_depth (c : CA) : List Addr := [c.e_TooDeep]
def FS_size (c : CA) : List Addr := [c.e_TooGreat, c.e_Held]
def FS_head (c : CA) : List Addr := [c.e_OtherHead]
def FS_count (c : CA) : List Addr := [c.e_TooFar]
def FS_body (c : CA) : List Addr := [c.e_Hopeless]
def FS_line (c : CA) : List Addr := [c.e_BadText]
def FS_command (c : CA) : List Addr := [c.e_BadCommand]
/-! _law_source: 0=script 1=start 2=mixed 3=cell 4=rest -/
def b1_law_source : MS := (asgS 2 (opE addG (opE modG (cbE intOfG (consA (opE powG (cbE intOfG (consA (opE addG (opE mulG (varE 2) (datC (.int 48611))) (cbE intOfG (consA (varE 3) nilA))) nilA)) (datC (.int 3))) nilA)) (datC (.int 2147483587))) (datC (.int 1))))
def m_law_source : MS := (seqS (asgS 2 (opE addG (datC (.int 97)) (varE 1)))
    (seqS (forS (seqI (solidE (varE 0))) (nameG 3) b1_law_source)
    (seqS (asgS 4 (datC (.int 0)))
    (seqS (ifS (andT (testE (opE ltG (varE 1) (cbE lenG (consA (varE 0) nilA)))) (testE (opE geG (opE ixG (varE 0) (varE 1)) (opE powG (datC (.int 10)) (datC (.int 18)))))) (asgS 4 (opE subG (opE ixG (varE 0) (varE 1)) (opE powG (datC (.int 10)) (datC (.int 18))))) nextS)
    (retS (lstE (consD (solidE (varE 4)) (consD (solidE (varE 2)) nilD))))))))
def f_law_source : FD := defF none 5 (m_law_source)
theorem en_law_source (a0 a1 : D) : f_law_source [a0, a1] = df1 none (m_law_source [.val a0, .val a1, .un, .un, .un]) := rfl

/-! _law_draw: 0=source 1=span 2=found -/

def m_law_draw : MS := (seqS (ifS (testE (opE geG (opE ixG (varE 0) (datC (.int 0))) (varE 1))) (seqS (asgS 2 (opE modG (cbE intOfG (consA (opE ixG (varE 0) (datC (.int 0))) nilA)) (varE 1)))
    (seqS (setL (solidE (opE divG (opE ixG (varE 0) (datC (.int 0))) (varE 1))) (varE 0) (datC (.int 0)))
    (retS (varE 2)))) nextS)
    (seqS (setL (solidE (opE modG (cbE intOfG (consA (opE addG (opE mulG (opE ixG (varE 0) (datC (.int 1))) (datC (.int 69621))) (datC (.int 7919))) nilA)) (datC (.int 2147483647)))) (varE 0) (datC (.int 1)))
    (retS (opE modG (cbE intOfG (consA (opE divG (opE modG (cbE intOfG (consA (opE powG (cbE intOfG (consA (opE ixG (varE 0) (datC (.int 1))) nilA)) (datC (.int 5))) nilA)) (datC (.int 1000000007))) (datC (.int 11))) nilA)) (varE 1)))))
def f_law_draw : FD := defF (some 0) 3 (m_law_draw)
theorem en_law_draw (a0 a1 : D) : f_law_draw [a0, a1] = df1 (some 0) (m_law_draw [.brw a0, .val a1, .un]) := rfl

/-! _law_pick: 0=source 1=items -/

def m_law_pick : MS := (retS (opE ixG (varE 1) (callE (callX (some 0) 2 f_law_draw) [] (consA (varE 0) (consA (datE (solidE (cbE lenG (consA (varE 1) nilA)))) nilA)))))
def f_law_pick : FD := defF (some 0) 2 (m_law_pick)
theorem en_law_pick (a0 a1 : D) : f_law_pick [a0, a1] = df1 (some 0) (m_law_pick [.brw a0, .val a1]) := rfl

/-! _law_by_place!: 0=thing 1=word 2=many 3=found -/

def m_law_by_place_x (c : CA) : MSX := (liftXS (seqS (asgS 3 (lstE (consD (solidE (mkxE c.e_BadHead "value" 1 0 (consD (solidE (varE 0)) nilD) nilD)) (consD (solidE (mkxE c.e_BadSteps "value" 1 0 (consD (solidE (varE 0)) nilD) nilD)) (consD (solidE (mkxE c.e_NoStep "value" 1 0 (consD (solidE (varE 0)) nilD) nilD)) (consD (solidE (mkxE c.e_BadBody "value" 1 0 (consD (solidE (varE 0)) nilD) nilD)) (consD (solidE (mkxE c.e_BadChain "value" 1 0 (consD (solidE (varE 0)) nilD) nilD)) (consD (solidE (mkxE c.e_NoBoundary "value" 1 0 (consD (solidE (varE 0)) nilD) nilD)) nilD))))))))
    (seqS (asgS 3 (opE addG (varE 3) (lstE (consD (solidE (mkxE c.e_NoPiece "value" 1 0 (consD (solidE (varE 0)) nilD) nilD)) (consD (solidE (mkxE c.e_BadStretches "value" 1 0 (consD (solidE (varE 0)) nilD) nilD)) (consD (solidE (mkxE c.e_BadName "value" 1 0 (consD (solidE (varE 0)) nilD) nilD)) (consD (solidE (mkxE c.e_BadRoad "value" 1 0 (consD (solidE (tupE (consD (solidE (varE 0)) (consD (solidE (varE 1)) (consD (solidE (varE 1)) nilD))))) nilD) nilD)) nilD)))))))
    (seqS (asgS 3 (opE addG (varE 3) (lstE (consD (solidE (mkxE c.e_BadTells "value" 1 0 (consD (solidE (varE 0)) nilD) nilD)) (consD (solidE (mkxE c.e_NoMouth "value" 1 0 (consD (solidE (varE 0)) nilD) nilD)) (consD (solidE (mkxE c.e_NameTaken "name" 1 0 (consD (solidE (varE 1)) nilD) nilD)) (consD (solidE (mkxE c.e_UnknownName "name" 1 0 (consD (solidE (varE 0)) nilD) nilD)) (consD (solidE (mkxE c.e_TooSmall "name" 1 0 (consD (solidE (varE 1)) nilD) nilD)) nilD))))))))
    (seqS (asgS 3 (opE addG (varE 3) (lstE (consD (solidE (mkxE c.e_BadStep "position" 1 0 (consD (solidE (varE 2)) nilD) nilD)) (consD (solidE (mkxE c.e_BadChange "position" 1 0 (consD (solidE (varE 2)) nilD) nilD)) (consD (solidE (mkxE c.e_TooDeep "depth" 1 0 (consD (solidE (varE 2)) nilD) nilD)) (consD (solidE (mkxE c.e_TooGreat "size" 1 0 (consD (solidE (varE 2)) nilD) nilD)) (consD (solidE (mkxE c.e_OtherHead "head" 1 0 (consD (solidE (varE 2)) nilD) nilD)) (consD (solidE (mkxE c.e_Held "size" 1 0 (consD (solidE (varE 2)) nilD) nilD)) nilD)))))))))
    (retS (opE addG (varE 3) (lstE (consD (solidE (mkxE c.e_TooFar "count" 1 0 (consD (solidE (varE 2)) nilD) nilD)) (consD (solidE (mkxE c.e_Hopeless "body" 1 0 (consD (solidE (varE 2)) nilD) nilD)) (consD (solidE (mkxE c.e_BadText "line" 1 0 (consD (solidE (varE 2)) nilD) nilD)) (consD (solidE (mkxE c.e_BadCommand "command" 1 0 (consD (solidE (varE 0)) nilD) nilD)) nilD))))))))))))
def f_law_by_place_x (c : CA) : FX := defX none 4 (m_law_by_place_x c)
theorem en_law_by_place_x (c : CA) (a0 a1 a2 : D) (cs : List D) : f_law_by_place_x c [a0, a1, a2] cs = dx1 none (m_law_by_place_x c [.val a0, .val a1, .val a2, .un, .sto cs]) := rfl

/-! _law_by_name!: 0=thing 1=word 2=many 3=found -/

def m_law_by_name_x (c : CA) : MSX := (liftXS (seqS (asgS 3 (lstE (consD (solidE (mkxE c.e_BadHead "value" 0 1 nilD (consD (solidE (varE 0)) nilD))) (consD (solidE (mkxE c.e_BadSteps "value" 0 1 nilD (consD (solidE (varE 0)) nilD))) (consD (solidE (mkxE c.e_NoStep "value" 0 1 nilD (consD (solidE (varE 0)) nilD))) (consD (solidE (mkxE c.e_BadBody "value" 0 1 nilD (consD (solidE (varE 0)) nilD))) nilD))))))
    (seqS (asgS 3 (opE addG (varE 3) (lstE (consD (solidE (mkxE c.e_BadChain "value" 0 1 nilD (consD (solidE (varE 0)) nilD))) (consD (solidE (mkxE c.e_NoBoundary "value" 0 1 nilD (consD (solidE (varE 0)) nilD))) (consD (solidE (mkxE c.e_NoPiece "value" 0 1 nilD (consD (solidE (varE 0)) nilD))) (consD (solidE (mkxE c.e_BadStretches "value" 0 1 nilD (consD (solidE (varE 0)) nilD))) nilD)))))))
    (seqS (asgS 3 (opE addG (varE 3) (lstE (consD (solidE (mkxE c.e_BadName "value" 0 1 nilD (consD (solidE (varE 0)) nilD))) (consD (solidE (mkxE c.e_BadRoad "value" 0 1 nilD (consD (solidE (tupE (consD (solidE (varE 0)) (consD (solidE (varE 1)) (consD (solidE (varE 1)) nilD))))) nilD))) (consD (solidE (mkxE c.e_BadTells "value" 0 1 nilD (consD (solidE (varE 0)) nilD))) nilD))))))
    (seqS (asgS 3 (opE addG (varE 3) (lstE (consD (solidE (mkxE c.e_NoMouth "value" 0 1 nilD (consD (solidE (varE 0)) nilD))) (consD (solidE (mkxE c.e_NameTaken "name" 0 1 nilD (consD (solidE (varE 1)) nilD))) (consD (solidE (mkxE c.e_UnknownName "name" 0 1 nilD (consD (solidE (varE 0)) nilD))) (consD (solidE (mkxE c.e_TooSmall "name" 0 1 nilD (consD (solidE (varE 1)) nilD))) nilD)))))))
    (seqS (asgS 3 (opE addG (varE 3) (lstE (consD (solidE (mkxE c.e_BadStep "position" 0 1 nilD (consD (solidE (varE 2)) nilD))) (consD (solidE (mkxE c.e_BadChange "position" 0 1 nilD (consD (solidE (varE 2)) nilD))) (consD (solidE (mkxE c.e_TooDeep "depth" 0 1 nilD (consD (solidE (varE 2)) nilD))) (consD (solidE (mkxE c.e_TooGreat "size" 0 1 nilD (consD (solidE (varE 2)) nilD))) nilD)))))))
    (seqS (asgS 3 (opE addG (varE 3) (lstE (consD (solidE (mkxE c.e_OtherHead "head" 0 1 nilD (consD (solidE (varE 2)) nilD))) (consD (solidE (mkxE c.e_Held "size" 0 1 nilD (consD (solidE (varE 2)) nilD))) (consD (solidE (mkxE c.e_TooFar "count" 0 1 nilD (consD (solidE (varE 2)) nilD))) (consD (solidE (mkxE c.e_Hopeless "body" 0 1 nilD (consD (solidE (varE 2)) nilD))) nilD)))))))
    (retS (opE addG (varE 3) (lstE (consD (solidE (mkxE c.e_BadText "line" 0 1 nilD (consD (solidE (varE 2)) nilD))) (consD (solidE (mkxE c.e_BadCommand "command" 0 1 nilD (consD (solidE (varE 0)) nilD))) nilD))))))))))))
def f_law_by_name_x (c : CA) : FX := defX none 4 (m_law_by_name_x c)
theorem en_law_by_name_x (c : CA) (a0 a1 a2 : D) (cs : List D) : f_law_by_name_x c [a0, a1, a2] cs = dx1 none (m_law_by_name_x c [.val a0, .val a1, .val a2, .un, .sto cs]) := rfl

/-! _law_kinds: 0=error 1=found -/

def m_law_kinds (c : CA) : MS := (seqS (asgS 1 (lstE (consD (solidE (cbE (isXG (ES c) c.EB) (consA (varE 0) (consA (datC (.con (.ref c.e_BadHead))) nilA)))) (consD (solidE (cbE (isXG (ES c) c.EB) (consA (varE 0) (consA (datC (.con (.ref c.e_BadSteps))) nilA)))) (consD (solidE (cbE (isXG (ES c) c.EB) (consA (varE 0) (consA (datC (.con (.ref c.e_NoStep))) nilA)))) nilD)))))
    (seqS (asgS 1 (opE addG (varE 1) (lstE (consD (solidE (cbE (isXG (ES c) c.EB) (consA (varE 0) (consA (datC (.con (.ref c.e_BadBody))) nilA)))) (consD (solidE (cbE (isXG (ES c) c.EB) (consA (varE 0) (consA (datC (.con (.ref c.e_BadChain))) nilA)))) (consD (solidE (cbE (isXG (ES c) c.EB) (consA (varE 0) (consA (datC (.con (.ref c.e_NoBoundary))) nilA)))) nilD))))))
    (seqS (asgS 1 (opE addG (varE 1) (lstE (consD (solidE (cbE (isXG (ES c) c.EB) (consA (varE 0) (consA (datC (.con (.ref c.e_NoPiece))) nilA)))) (consD (solidE (cbE (isXG (ES c) c.EB) (consA (varE 0) (consA (datC (.con (.ref c.e_BadStretches))) nilA)))) (consD (solidE (cbE (isXG (ES c) c.EB) (consA (varE 0) (consA (datC (.con (.ref c.e_BadName))) nilA)))) nilD))))))
    (seqS (asgS 1 (opE addG (varE 1) (lstE (consD (solidE (cbE (isXG (ES c) c.EB) (consA (varE 0) (consA (datC (.con (.ref c.e_BadRoad))) nilA)))) (consD (solidE (cbE (isXG (ES c) c.EB) (consA (varE 0) (consA (datC (.con (.ref c.e_BadTells))) nilA)))) (consD (solidE (cbE (isXG (ES c) c.EB) (consA (varE 0) (consA (datC (.con (.ref c.e_NoMouth))) nilA)))) nilD))))))
    (seqS (asgS 1 (opE addG (varE 1) (lstE (consD (solidE (cbE (isXG (ES c) c.EB) (consA (varE 0) (consA (datC (.con (.ref c.e_NameTaken))) nilA)))) (consD (solidE (cbE (isXG (ES c) c.EB) (consA (varE 0) (consA (datC (.con (.ref c.e_UnknownName))) nilA)))) (consD (solidE (cbE (isXG (ES c) c.EB) (consA (varE 0) (consA (datC (.con (.ref c.e_TooSmall))) nilA)))) nilD))))))
    (seqS (asgS 1 (opE addG (varE 1) (lstE (consD (solidE (cbE (isXG (ES c) c.EB) (consA (varE 0) (consA (datC (.con (.ref c.e_BadStep))) nilA)))) (consD (solidE (cbE (isXG (ES c) c.EB) (consA (varE 0) (consA (datC (.con (.ref c.e_BadChange))) nilA)))) (consD (solidE (cbE (isXG (ES c) c.EB) (consA (varE 0) (consA (datC (.con (.ref c.e_TooDeep))) nilA)))) nilD))))))
    (seqS (asgS 1 (opE addG (varE 1) (lstE (consD (solidE (cbE (isXG (ES c) c.EB) (consA (varE 0) (consA (datC (.con (.ref c.e_TooGreat))) nilA)))) (consD (solidE (cbE (isXG (ES c) c.EB) (consA (varE 0) (consA (datC (.con (.ref c.e_OtherHead))) nilA)))) (consD (solidE (cbE (isXG (ES c) c.EB) (consA (varE 0) (consA (datC (.con (.ref c.e_Held))) nilA)))) nilD))))))
    (seqS (asgS 1 (opE addG (varE 1) (lstE (consD (solidE (cbE (isXG (ES c) c.EB) (consA (varE 0) (consA (datC (.con (.ref c.e_TooFar))) nilA)))) (consD (solidE (cbE (isXG (ES c) c.EB) (consA (varE 0) (consA (datC (.con (.ref c.e_Hopeless))) nilA)))) (consD (solidE (cbE (isXG (ES c) c.EB) (consA (varE 0) (consA (datC (.con (.ref c.e_BadText))) nilA)))) nilD))))))
    (retS (opE addG (varE 1) (lstE (consD (solidE (cbE (isXG (ES c) c.EB) (consA (varE 0) (consA (datC (.con (.ref c.e_BadCommand))) nilA)))) nilD))))))))))))
def f_law_kinds (c : CA) : FD := defF none 2 (m_law_kinds c)
theorem en_law_kinds (c : CA) (a0 : D) : f_law_kinds c [a0] = df1 none (m_law_kinds c [.val a0, .un]) := rfl

/-! _law_stored: 0=errors 1=found 2=error -/
def x1_law_stored (c : CA) : MD := (solidE (fldxE (FS_value c) "value" (varE 2)))
def y2_law_stored : MT := yesT
def x3_law_stored (c : CA) : MD := (solidE (fldxE (FS_name c) "name" (varE 2)))
def y4_law_stored : MT := yesT
def x5_law_stored (c : CA) : MD := (solidE (fldxE (FS_position c) "position" (varE 2)))
def y6_law_stored : MT := yesT
def m_law_stored (c : CA) : MS := (seqS (asgS 1 (opE addG (lcE (seqI (solidE (slE (varE 0) nopP (intP (datC (.int 12)))))) (nameG 2) y2_law_stored (x1_law_stored c) [2]) (lcE (seqI (solidE (slE (varE 0) (intP (datC (.int 12))) (intP (datC (.int 15)))))) (nameG 2) y4_law_stored (x3_law_stored c) [2])))
    (seqS (asgS 1 (opE addG (opE addG (varE 1) (lcE (seqI (solidE (slE (varE 0) (intP (datC (.int 15))) (intP (datC (.int 17)))))) (nameG 2) y6_law_stored (x5_law_stored c) [2])) (lstE (consD (solidE (fldxE (FS_depth c) "depth" (opE ixG (varE 0) (datC (.int 17))))) (consD (solidE (fldxE (FS_size c) "size" (opE ixG (varE 0) (datC (.int 18))))) (consD (solidE (fldxE (FS_head c) "head" (opE ixG (varE 0) (datC (.int 19))))) nilD))))))
    (retS (opE addG (varE 1) (lstE (consD (solidE (fldxE (FS_size c) "size" (opE ixG (varE 0) (datC (.int 20))))) (consD (solidE (fldxE (FS_count c) "count" (opE ixG (varE 0) (datC (.int 21))))) (consD (solidE (fldxE (FS_body c) "body" (opE ixG (varE 0) (datC (.int 22))))) (consD (solidE (fldxE (FS_line c) "line" (opE ixG (varE 0) (datC (.int 23))))) (consD (solidE (fldxE (FS_command c) "command" (opE ixG (varE 0) (datC (.int 24))))) nilD))))))))))
def f_law_stored (c : CA) : FD := defF none 3 (m_law_stored c)
theorem en_law_stored (c : CA) (a0 : D) : f_law_stored c [a0] = df1 none (m_law_stored c [.val a0, .un, .un]) := rfl

/-! law!: 0=script 1=start 2=source 3=thing 4=word 5=many 6=errors 7=at 8=error 9=due 10=other -/
def x1_law_x : MD := (solidE (opE eqG (varE 10) (varE 7)))
def y2_law_x : MT := yesT
def b3_law_x (c : CA) : MS := (seqS (ifS (orT (notT (testE (cbE (isXG (ES c) c.EB) (consA (varE 8) (consA (datC (.con (.ref c.EB))) nilA))))) (notT (testE (cbE (isXG (ES c) c.EB) (consA (varE 8) (consA (datC (.con (.ty "ValueError"))) nilA)))))) (retS (datC (.bl false))) nextS)
    (ifS (testE (opE neG (callE (callX none 1 (f_law_kinds c)) [] (consA (varE 8) nilA)) (lcE (rng1 (consA (datC (.int 25)) nilA)) (nameG 10) y2_law_x x1_law_x [10]))) (retS (datC (.bl false))) nextS))
def b4_law_x (c : CA) : MS := (seqS (forS (enumU (consD (solidE (varE 6)) nilD)) (tupG 2 (consG (nameG 7) (consG (nameG 8) nilG))) (b3_law_x c))
    (seqS (ifS (testE (cbE isYG (consA (viewE (varE 3)) (consA (datC (.con (.ty "list"))) nilA)))) (dropS (mutCE isLst appG (varE 3) (consD (solidE (datC (.int 0))) nilD))) nextS)
    (seqS (asgS 9 (opE addG (opE addG (opE addG (opE mulG (lstE (consD (solidE (varE 3)) nilD)) (datC (.int 9))) (lstE (consD (solidE (tupE (consD (solidE (varE 3)) (consD (solidE (varE 4)) (consD (solidE (varE 4)) nilD))))) (consD (solidE (varE 3)) (consD (solidE (varE 3)) (consD (solidE (varE 4)) (consD (solidE (varE 3)) (consD (solidE (varE 4)) nilD)))))))) (opE mulG (lstE (consD (solidE (varE 5)) nilD)) (datC (.int 9)))) (lstE (consD (solidE (varE 3)) nilD))))
    (ifS (testE (opE neG (cbVE reprXG (consD (solidE (callE (callX none 1 (f_law_stored c)) [] (consA (varE 6) nilA))) nilD)) (cbVE reprXG (consD (solidE (varE 9)) nilD)))) (retS (datC (.bl false))) nextS))))
def b5_law_x (c : CA) : MS := (seqS (asgS 2 (callE (callX none 2 f_law_source) [] (consA (varE 0) (consA (varE 1) nilA))))
    (seqS (asgS 3 (callE (callX (some 0) 2 f_law_pick) [] (consA (varE 2) (consA (datE (solidE (lstE (consD (solidE (promE (lstE (consD (solidE (datC (.int 5))) nilD)))) (consD (solidE (promE (lstE (consD (solidE (datC (.str "a"))) (consD (solidE (datC .non)) nilD))))) (consD (solidE (promE (lstE (consD (solidE (lstE nilD)) nilD)))) (consD (solidE (promE (dispE (solidE (datC (.str "a"))) (solidE (datC (.int 1)))))) nilD))))))) nilA))))
    (seqS (parS 4 5 (consA (callE (callX (some 0) 2 f_law_pick) [] (consA (varE 2) (consA (datE (solidE (lstE (consD (solidE (datC (.str "a"))) (consD (solidE (datC (.str "road"))) (consD (solidE (datC (.str "abcdefgh"))) nilD)))))) nilA))) (consA (callE (callX (some 0) 2 f_law_draw) [] (consA (varE 2) (consA (datE (solidE (datC (.int 40)))) nilA))) nilA)))
    (forS (seqI (solidE (lstE (consD (solidE (callSE 3 (f_law_by_place_x c) [] (consD (solidE (varE 3)) (consD (solidE (varE 4)) (consD (solidE (varE 5)) nilD))))) (consD (solidE (callSE 3 (f_law_by_name_x c) [] (consD (solidE (varE 3)) (consD (solidE (varE 4)) (consD (solidE (varE 5)) nilD))))) nilD))))) (nameG 6) (b4_law_x c)))))
def m_law_x (c : CA) : MSX := (liftXS (seqS (forS (rng1 (consA (cbE maxV (consA (datC (.int 1)) (consA (cbE minV (consA (datC (.int 4)) (consA (cbE lenG (consA (varE 0) nilA)) nilA))) nilA))) nilA)) (nameG 1) (b5_law_x c))
    (retS (datC (.bl true)))))
def f_law_x (c : CA) : FX := defX none 11 (m_law_x c)
theorem en_law_x (c : CA) (a0 : D) (cs : List D) : f_law_x c [a0] cs = dx1 none (m_law_x c [.val a0, .un, .un, .un, .un, .un, .un, .un, .un, .un, .un, .sto cs]) := rfl
end PL

namespace PL
open PySem PySem.Spec PyProof.Rows L2 DV

/-! ### the source of draws -/
abbrev Strm := Int × Int
def SD (s : Strm) : D := .lst [.int s.1, .int s.2]
def drv (s : Strm) (n : Int) : Int := if n ≤ s.1 then s.1 % n else ((s.2 * 69621 + 7919) % 2147483647) ^ 5 % 1000000007 / 11 % n
def drs (s : Strm) (n : Int) : Strm := if n ≤ s.1 then (s.1 / n, s.2) else (s.1, (s.2 * 69621 + 7919) % 2147483647)
theorem drv_ok {s : Strm} {n : Int} (h : 0 < n) : 0 ≤ drv s n ∧ drv s n < n := by
  unfold drv
  split
  · exact ⟨Int.emod_nonneg _ (by omega), Int.emod_lt_of_pos _ h⟩
  · exact ⟨Int.emod_nonneg _ (by omega), Int.emod_lt_of_pos _ h⟩
theorem draw_eq (s : Strm) (n : Int) (h0 : 0 < n) (h1 : n < 18446744073709551616) : f_law_draw [SD s, .int n] = some (.dat (.int (drv s n)), SD (drs s n)) := by
  obtain ⟨a, b⟩ := s
  unfold SD drv drs
  by_cases h : n ≤ a
  · simp only [en_law_draw, m_law_draw, e_var, e_var1, e_var2, e_var3, e_dat, e_der1, e_der2, e_der3, e_sd1, e_sd2, e_sd3, e_op, e_op1, e_op2, e_op3, e_op4, e_un, e_un1, e_un2, e_sol, e_sol1, e_sol2, e_sol3, e_sol4, e_sol5, e_da, e_da1, e_na, e_ca, e_ca1, e_ca2, e_nd, e_cd, e_cd1, e_cd2, e_dn, e_dc, e_dc1, e_cb, e_cb1, e_cb2, e_ls, e_ls1, e_tp, e_tp1, e_np, e_ip, e_ip1, e_sl, e_sl1, e_sl2, e_sl3, e_rv, e_rv1, e_rv2, e_te, e_te1, e_at, e_at1, e_at2, e_ot, e_ot1, e_ot2, e_nt, e_nt1, e_ae, e_ae1, e_ae2, e_oe, e_oe1, e_oe2, e_ne, e_ne1, e_ie, e_ie1, e_ie2, e_ch, e_ch1, e_ch2, e_ch3, e_ch4, e_ch5, e_cl, e_cl1, e_cx, e_cx1, e_cx2, e_cx3, e_cx4, e_cx5, e_cz, e_cz1, e_cz2, e_cz3, e_cz4, e_ro1, e_ro2, e_pl1, e_pl2, e_pl3, e_pl4, e_ld0, e_ld1, e_ld2, e_ld3, e_ld4, e_ld5, e_pb0, e_pb1, e_pb2, e_pb3, e_sq, e_sq1, e_sq2, e_sq3, e_sq4, e_nx, e_rt, e_rt1, e_dp, e_dp1, e_is, e_is1, e_is2, e_as, e_as1, e_as2, e_as3, e_as4, e_st, e_st1, e_st2, e_st3, e_st4, e_st5, e_st6, e_up, e_up1, e_up2, e_pr, e_pr3, e_pr1, e_sa0, e_sa1, e_sa2, e_lt, e_lt1, e_ng, e_tg, e_gn, e_gc, e_gc1, e_fr, e_fr1, e_lp1, e_lp2, e_lp3, e_lp4, e_lp5, e_wh1, e_wh2, e_wh3, e_wh4, e_wh5, e_si, e_si1, e_si2, e_si3, e_r1, e_r11, e_r2, e_r21, e_en, e_en1, e_lc, e_lc1, e_lc2, e_lc3, e_lcn1, e_lcn2, e_lcn3, e_lcn4, e_ye, e_wi0, e_wi1, e_re0, e_re1, e_no0, e_no1, e_ow1, e_ow2, e_df1, e_df2, e_df3, e_rs1, e_rs2, e_rs3, e_rs4, e_rs5, e_ou, e_ou1, e_ou2, e_mu, e_mu1, e_mu6, e_mu2, e_mu3, e_mu4, e_mu5, g_addI, g_addL, g_sub, g_lt, g_le, g_gt, g_ge, g_mod, g_div, g_mulL, g_eqI, g_neI, g_eqB, g_neB, g_eqS, g_ixL, g_ixR, g_ixT, g_ix1, g_lenL, g_lenR, g_lenT, g_intI, g_intB, g_min2, g_max2, g_app, g_slL, g_slT, g_neg, g_atI0, g_atI1, g_atIl, g_ixN0, g_ixN1, g_powM3, g_powM5, g_mulR, List.getElem?_cons_zero, List.getElem?_cons_succ, List.getD_cons_zero, List.getD_cons_succ, List.set_cons_zero, List.set_cons_succ, Bool.and_true, Bool.true_and, Bool.and_false, Bool.false_and, decide_true, decide_false, Bool.not_true, Bool.not_false, List.length_cons, List.length_nil, Nat.reduceAdd, Nat.reduceMul, Nat.reduceSub, Nat.reduceLT, Nat.reduceLeDiff, Nat.reduceEqDiff, Int.reduceAdd, Int.reduceMul, Int.reduceSub, Int.reduceNeg, Int.reduceLT, Int.reduceLE, Int.reduceMod, Int.reduceDiv, Int.reducePow, Int.reduceToNat, Bool.false_eq_true, if_true, if_false, gt_iff_lt, ge_iff_le, g_eqIs, g_neIs, g_eqBs, g_neBs, g_eqI0, g_neI0, g_neT0, g_inB, g_inN, h_ss, h_ss1, h_ssG, h_min, h_tup, h_lst, h_flT, h_flL, h_flB, h_flb, h_fli, h_fln, h_flN, h_flS, h_mapi, h_mapb, h_mapI, h_mapB, h_revI, h_eu, h_eu1, h_eu2, h_r3, h_r31, h_fd, h_fd1, h_fd2, h_fd3, h_fs, h_fs1, h_fs2, h_fs3, h_mk, h_mk1, h_mk2, h_me, h_me1, h_me2, h_me3, h_io, h_eo, h_no, h_eo1, g_eqTs, h_apd0, h_apd1, h_apo0, h_apo1, h_cn, h_cn1, h_cn2, h_pk0, h_pk1, h_pk2, h_nw, h_nw1, e_tu, e_tu1, e_af1, e_af2, e_af3, e_af4, e_wl1, e_wl2, e_lct, e_lct1, e_lct2, e_lct3, e_lct4, e_ni, e_ni1, e_lg1, e_lg2, e_lg3, e_lg4, e_lg5, e_ixw, e_ixw1, e_ixw2, e_ixw3, e_aow, e_aow1, e_aow2, e_aow3, e_zu, e_zu1, e_zu2, e_mulT, e_mxI, e_mnI, e_mxL, e_mnL, e_mxT, e_mnT, e_lgm, e_lgm1, e_lgm2, e_lgm3, e_tupT, e_lstT, e_lgk, e_lgk2, e_lgc, e_lgc2, e_gd1, e_gd2, e_gpl, e_gpl1, e_gnx, e_gsq, e_gsq1, e_gyd, e_gyd1, e_gfr, e_gfr1, e_glp1, e_glpN, ends_some, Int.sub_zero, Int.add_zero, Int.zero_add, and_self, and_true, true_and, and_false, false_and, ne_eq, not_false_eq_true, not_true_eq_false, Bool.or_true, Bool.true_or, Bool.or_false, Bool.false_or, Option.some.injEq, reduceCtorEq, h, h0, h1]
    done
  · simp only [en_law_draw, m_law_draw, e_var, e_var1, e_var2, e_var3, e_dat, e_der1, e_der2, e_der3, e_sd1, e_sd2, e_sd3, e_op, e_op1, e_op2, e_op3, e_op4, e_un, e_un1, e_un2, e_sol, e_sol1, e_sol2, e_sol3, e_sol4, e_sol5, e_da, e_da1, e_na, e_ca, e_ca1, e_ca2, e_nd, e_cd, e_cd1, e_cd2, e_dn, e_dc, e_dc1, e_cb, e_cb1, e_cb2, e_ls, e_ls1, e_tp, e_tp1, e_np, e_ip, e_ip1, e_sl, e_sl1, e_sl2, e_sl3, e_rv, e_rv1, e_rv2, e_te, e_te1, e_at, e_at1, e_at2, e_ot, e_ot1, e_ot2, e_nt, e_nt1, e_ae, e_ae1, e_ae2, e_oe, e_oe1, e_oe2, e_ne, e_ne1, e_ie, e_ie1, e_ie2, e_ch, e_ch1, e_ch2, e_ch3, e_ch4, e_ch5, e_cl, e_cl1, e_cx, e_cx1, e_cx2, e_cx3, e_cx4, e_cx5, e_cz, e_cz1, e_cz2, e_cz3, e_cz4, e_ro1, e_ro2, e_pl1, e_pl2, e_pl3, e_pl4, e_ld0, e_ld1, e_ld2, e_ld3, e_ld4, e_ld5, e_pb0, e_pb1, e_pb2, e_pb3, e_sq, e_sq1, e_sq2, e_sq3, e_sq4, e_nx, e_rt, e_rt1, e_dp, e_dp1, e_is, e_is1, e_is2, e_as, e_as1, e_as2, e_as3, e_as4, e_st, e_st1, e_st2, e_st3, e_st4, e_st5, e_st6, e_up, e_up1, e_up2, e_pr, e_pr3, e_pr1, e_sa0, e_sa1, e_sa2, e_lt, e_lt1, e_ng, e_tg, e_gn, e_gc, e_gc1, e_fr, e_fr1, e_lp1, e_lp2, e_lp3, e_lp4, e_lp5, e_wh1, e_wh2, e_wh3, e_wh4, e_wh5, e_si, e_si1, e_si2, e_si3, e_r1, e_r11, e_r2, e_r21, e_en, e_en1, e_lc, e_lc1, e_lc2, e_lc3, e_lcn1, e_lcn2, e_lcn3, e_lcn4, e_ye, e_wi0, e_wi1, e_re0, e_re1, e_no0, e_no1, e_ow1, e_ow2, e_df1, e_df2, e_df3, e_rs1, e_rs2, e_rs3, e_rs4, e_rs5, e_ou, e_ou1, e_ou2, e_mu, e_mu1, e_mu6, e_mu2, e_mu3, e_mu4, e_mu5, g_addI, g_addL, g_sub, g_lt, g_le, g_gt, g_ge, g_mod, g_div, g_mulL, g_eqI, g_neI, g_eqB, g_neB, g_eqS, g_ixL, g_ixR, g_ixT, g_ix1, g_lenL, g_lenR, g_lenT, g_intI, g_intB, g_min2, g_max2, g_app, g_slL, g_slT, g_neg, g_atI0, g_atI1, g_atIl, g_ixN0, g_ixN1, g_powM3, g_powM5, g_mulR, List.getElem?_cons_zero, List.getElem?_cons_succ, List.getD_cons_zero, List.getD_cons_succ, List.set_cons_zero, List.set_cons_succ, Bool.and_true, Bool.true_and, Bool.and_false, Bool.false_and, decide_true, decide_false, Bool.not_true, Bool.not_false, List.length_cons, List.length_nil, Nat.reduceAdd, Nat.reduceMul, Nat.reduceSub, Nat.reduceLT, Nat.reduceLeDiff, Nat.reduceEqDiff, Int.reduceAdd, Int.reduceMul, Int.reduceSub, Int.reduceNeg, Int.reduceLT, Int.reduceLE, Int.reduceMod, Int.reduceDiv, Int.reducePow, Int.reduceToNat, Bool.false_eq_true, if_true, if_false, gt_iff_lt, ge_iff_le, g_eqIs, g_neIs, g_eqBs, g_neBs, g_eqI0, g_neI0, g_neT0, g_inB, g_inN, h_ss, h_ss1, h_ssG, h_min, h_tup, h_lst, h_flT, h_flL, h_flB, h_flb, h_fli, h_fln, h_flN, h_flS, h_mapi, h_mapb, h_mapI, h_mapB, h_revI, h_eu, h_eu1, h_eu2, h_r3, h_r31, h_fd, h_fd1, h_fd2, h_fd3, h_fs, h_fs1, h_fs2, h_fs3, h_mk, h_mk1, h_mk2, h_me, h_me1, h_me2, h_me3, h_io, h_eo, h_no, h_eo1, g_eqTs, h_apd0, h_apd1, h_apo0, h_apo1, h_cn, h_cn1, h_cn2, h_pk0, h_pk1, h_pk2, h_nw, h_nw1, e_tu, e_tu1, e_af1, e_af2, e_af3, e_af4, e_wl1, e_wl2, e_lct, e_lct1, e_lct2, e_lct3, e_lct4, e_ni, e_ni1, e_lg1, e_lg2, e_lg3, e_lg4, e_lg5, e_ixw, e_ixw1, e_ixw2, e_ixw3, e_aow, e_aow1, e_aow2, e_aow3, e_zu, e_zu1, e_zu2, e_mulT, e_mxI, e_mnI, e_mxL, e_mnL, e_mxT, e_mnT, e_lgm, e_lgm1, e_lgm2, e_lgm3, e_tupT, e_lstT, e_lgk, e_lgk2, e_lgc, e_lgc2, e_gd1, e_gd2, e_gpl, e_gpl1, e_gnx, e_gsq, e_gsq1, e_gyd, e_gyd1, e_gfr, e_gfr1, e_glp1, e_glpN, ends_some, Int.sub_zero, Int.add_zero, Int.zero_add, and_self, and_true, true_and, and_false, false_and, ne_eq, not_false_eq_true, not_true_eq_false, Bool.or_true, Bool.true_or, Bool.or_false, Bool.false_or, Option.some.injEq, reduceCtorEq, h, h0, h1, show smallI 69621 = true from rfl, g_mulR]
    done
theorem flat_SD (s : Strm) : flatT (SD s) = true := rfl
theorem pow1018 : powG (.int 10) (.int 18) = some (.dat (.int 1000000000000000000)) := g_pow (b := 4) (by decide) (by decide +kernel) (by decide)
theorem pow_cell {s c : Int} (h0 : 0 ≤ s) (h1 : s < 4294967296) (hc : Builtin.Int.intBits c ≤ 1048576) : powG (.int (s * 48611 + c)) (.int 3) = some (.dat (.int ((s * 48611 + c) ^ 3))) := by
  have e1 : Builtin.Int.intBits (s * 48611) ≤ 64 := bits_le (by omega) (by omega)
  exact g_pow (b := 1048577) (by decide) (Nat.le_trans (PySem.intBits_add_le e1 hc) (by decide)) (by decide)
theorem stream_loop (v0 v1 v4 : Sl) : ∀ (ns : List Int) (s : Int) (v3 : Sl), 0 ≤ s → s < 4294967296 → (∀ z ∈ ns, Builtin.Int.intBits z ≤ 1048576) → ∃ s' v3', loopL (nameG 3) b1_law_source (ns.map .int) [v0, v1, .val (.int s), v3, v4] = some (.nx [v0, v1, .val (.int s'), v3', v4])
  | [], s, v3, _, _, _ => ⟨s, v3, rfl⟩
  | c :: ns, s, v3, h0, h1, hb => by
    have hp := pow_cell h0 h1 (hb c (List.mem_cons_self ..))
    have h2 : 0 ≤ (s * 48611 + c) ^ 3 % 2147483587 := Int.emod_nonneg _ (by decide)
    have h3 : (s * 48611 + c) ^ 3 % 2147483587 < 2147483587 := Int.emod_lt_of_pos _ (by decide)
    obtain ⟨s', v3', e⟩ := stream_loop v0 v1 v4 ns ((s * 48611 + c) ^ 3 % 2147483587 + 1) (.val (.int c)) (by omega) (by omega) (fun z hz => hb z (List.mem_cons_of_mem _ hz))
    refine ⟨s', v3', ?_⟩
    rw [← e]
    simp only [List.map_cons, e_lpc, b1_law_source, e_var, e_var1, e_var2, e_var3, e_dat, e_der1, e_der2, e_der3, e_sd1, e_sd2, e_sd3, e_op, e_op1, e_op2, e_op3, e_op4, e_un, e_un1, e_un2, e_sol, e_sol1, e_sol2, e_sol3, e_sol4, e_sol5, e_da, e_da1, e_na, e_ca, e_ca1, e_ca2, e_nd, e_cd, e_cd1, e_cd2, e_dn, e_dc, e_dc1, e_cb, e_cb1, e_cb2, e_ls, e_ls1, e_tp, e_tp1, e_np, e_ip, e_ip1, e_sl, e_sl1, e_sl2, e_sl3, e_rv, e_rv1, e_rv2, e_te, e_te1, e_at, e_at1, e_at2, e_ot, e_ot1, e_ot2, e_nt, e_nt1, e_ae, e_ae1, e_ae2, e_oe, e_oe1, e_oe2, e_ne, e_ne1, e_ie, e_ie1, e_ie2, e_ch, e_ch1, e_ch2, e_ch3, e_ch4, e_ch5, e_cl, e_cl1, e_cx, e_cx1, e_cx2, e_cx3, e_cx4, e_cx5, e_cz, e_cz1, e_cz2, e_cz3, e_cz4, e_ro1, e_ro2, e_pl1, e_pl2, e_pl3, e_pl4, e_ld0, e_ld1, e_ld2, e_ld3, e_ld4, e_ld5, e_pb0, e_pb1, e_pb2, e_pb3, e_sq, e_sq1, e_sq2, e_sq3, e_sq4, e_nx, e_rt, e_rt1, e_dp, e_dp1, e_is, e_is1, e_is2, e_as, e_as1, e_as2, e_as3, e_as4, e_st, e_st1, e_st2, e_st3, e_st4, e_st5, e_st6, e_up, e_up1, e_up2, e_pr, e_pr3, e_pr1, e_sa0, e_sa1, e_sa2, e_lt, e_lt1, e_ng, e_tg, e_gn, e_gc, e_gc1, e_fr, e_fr1, e_lp1, e_lp2, e_lp3, e_lp4, e_lp5, e_wh1, e_wh2, e_wh3, e_wh4, e_wh5, e_si, e_si1, e_si2, e_si3, e_r1, e_r11, e_r2, e_r21, e_en, e_en1, e_lc, e_lc1, e_lc2, e_lc3, e_lcn1, e_lcn2, e_lcn3, e_lcn4, e_ye, e_wi0, e_wi1, e_re0, e_re1, e_no0, e_no1, e_ow1, e_ow2, e_df1, e_df2, e_df3, e_rs1, e_rs2, e_rs3, e_rs4, e_rs5, e_ou, e_ou1, e_ou2, e_mu, e_mu1, e_mu6, e_mu2, e_mu3, e_mu4, e_mu5, g_addI, g_addL, g_sub, g_lt, g_le, g_gt, g_ge, g_mod, g_div, g_mulL, g_eqI, g_neI, g_eqB, g_neB, g_eqS, g_ixL, g_ixR, g_ixT, g_ix1, g_lenL, g_lenR, g_lenT, g_intI, g_intB, g_min2, g_max2, g_app, g_slL, g_slT, g_neg, g_atI0, g_atI1, g_atIl, g_ixN0, g_ixN1, g_powM3, g_powM5, g_mulR, List.getElem?_cons_zero, List.getElem?_cons_succ, List.getD_cons_zero, List.getD_cons_succ, List.set_cons_zero, List.set_cons_succ, Bool.and_true, Bool.true_and, Bool.and_false, Bool.false_and, decide_true, decide_false, Bool.not_true, Bool.not_false, List.length_cons, List.length_nil, Nat.reduceAdd, Nat.reduceMul, Nat.reduceSub, Nat.reduceLT, Nat.reduceLeDiff, Nat.reduceEqDiff, Int.reduceAdd, Int.reduceMul, Int.reduceSub, Int.reduceNeg, Int.reduceLT, Int.reduceLE, Int.reduceMod, Int.reduceDiv, Int.reducePow, Int.reduceToNat, Bool.false_eq_true, if_true, if_false, gt_iff_lt, ge_iff_le, g_eqIs, g_neIs, g_eqBs, g_neBs, g_eqI0, g_neI0, g_neT0, g_inB, g_inN, h_ss, h_ss1, h_ssG, h_min, h_tup, h_lst, h_flT, h_flL, h_flB, h_flb, h_fli, h_fln, h_flN, h_flS, h_mapi, h_mapb, h_mapI, h_mapB, h_revI, h_eu, h_eu1, h_eu2, h_r3, h_r31, h_fd, h_fd1, h_fd2, h_fd3, h_fs, h_fs1, h_fs2, h_fs3, h_mk, h_mk1, h_mk2, h_me, h_me1, h_me2, h_me3, h_io, h_eo, h_no, h_eo1, g_eqTs, h_apd0, h_apd1, h_apo0, h_apo1, h_cn, h_cn1, h_cn2, h_pk0, h_pk1, h_pk2, h_nw, h_nw1, e_tu, e_tu1, e_af1, e_af2, e_af3, e_af4, e_wl1, e_wl2, e_lct, e_lct1, e_lct2, e_lct3, e_lct4, e_ni, e_ni1, e_lg1, e_lg2, e_lg3, e_lg4, e_lg5, e_ixw, e_ixw1, e_ixw2, e_ixw3, e_aow, e_aow1, e_aow2, e_aow3, e_zu, e_zu1, e_zu2, e_mulT, e_mxI, e_mnI, e_mxL, e_mnL, e_mxT, e_mnT, e_lgm, e_lgm1, e_lgm2, e_lgm3, e_tupT, e_lstT, e_lgk, e_lgk2, e_lgc, e_lgc2, e_gd1, e_gd2, e_gpl, e_gpl1, e_gnx, e_gsq, e_gsq1, e_gyd, e_gyd1, e_gfr, e_gfr1, e_glp1, e_glpN, ends_some, Int.sub_zero, Int.add_zero, Int.zero_add, and_self, and_true, true_and, and_false, false_and, ne_eq, not_false_eq_true, not_true_eq_false, Bool.or_true, Bool.true_or, Bool.or_false, Bool.false_or, Option.some.injEq, reduceCtorEq, hp, show smallI 48611 = true from rfl]
theorem stream_eq (ns : List Int) (i : Nat) (hl : ns.length ≤ 63) (hi : i ≤ 63) (hb : ∀ z ∈ ns, Builtin.Int.intBits z ≤ 1048576) : ∃ s : Strm, f_law_source [.ro (ns.map .int), .int i] = some (.fre (SD s), .non) := by
  obtain ⟨s', v3', e⟩ := stream_loop (.val (.ro (ns.map .int))) (.val (.int i)) .un ns (97 + i) .un (by omega) (by omega) hb
  by_cases h1 : i < ns.length
  · have hx : L2.atI (ns.map D.int) (i : Int) = some (.int ns[i]) := by
      rw [atI_pos (by omega) (by rw [List.length_map]; omega)]
      simp [h1]
    have h1' : (i : Int) < (ns.map D.int).length := by rw [List.length_map]; omega
    by_cases h2 : 1000000000000000000 ≤ ns[i]
    · refine ⟨(ns[i] - 1000000000000000000, s'), ?_⟩
      simp only [SD, en_law_source, m_law_source, e_var, e_var1, e_var2, e_var3, e_dat, e_der1, e_der2, e_der3, e_sd1, e_sd2, e_sd3, e_op, e_op1, e_op2, e_op3, e_op4, e_un, e_un1, e_un2, e_sol, e_sol1, e_sol2, e_sol3, e_sol4, e_sol5, e_da, e_da1, e_na, e_ca, e_ca1, e_ca2, e_nd, e_cd, e_cd1, e_cd2, e_dn, e_dc, e_dc1, e_cb, e_cb1, e_cb2, e_ls, e_ls1, e_tp, e_tp1, e_np, e_ip, e_ip1, e_sl, e_sl1, e_sl2, e_sl3, e_rv, e_rv1, e_rv2, e_te, e_te1, e_at, e_at1, e_at2, e_ot, e_ot1, e_ot2, e_nt, e_nt1, e_ae, e_ae1, e_ae2, e_oe, e_oe1, e_oe2, e_ne, e_ne1, e_ie, e_ie1, e_ie2, e_ch, e_ch1, e_ch2, e_ch3, e_ch4, e_ch5, e_cl, e_cl1, e_cx, e_cx1, e_cx2, e_cx3, e_cx4, e_cx5, e_cz, e_cz1, e_cz2, e_cz3, e_cz4, e_ro1, e_ro2, e_pl1, e_pl2, e_pl3, e_pl4, e_ld0, e_ld1, e_ld2, e_ld3, e_ld4, e_ld5, e_pb0, e_pb1, e_pb2, e_pb3, e_sq, e_sq1, e_sq2, e_sq3, e_sq4, e_nx, e_rt, e_rt1, e_dp, e_dp1, e_is, e_is1, e_is2, e_as, e_as1, e_as2, e_as3, e_as4, e_st, e_st1, e_st2, e_st3, e_st4, e_st5, e_st6, e_up, e_up1, e_up2, e_pr, e_pr3, e_pr1, e_sa0, e_sa1, e_sa2, e_lt, e_lt1, e_ng, e_tg, e_gn, e_gc, e_gc1, e_fr, e_fr1, e_lp1, e_lp2, e_lp3, e_lp4, e_lp5, e_wh1, e_wh2, e_wh3, e_wh4, e_wh5, e_si, e_si1, e_si2, e_si3, e_r1, e_r11, e_r2, e_r21, e_en, e_en1, e_lc, e_lc1, e_lc2, e_lc3, e_lcn1, e_lcn2, e_lcn3, e_lcn4, e_ye, e_wi0, e_wi1, e_re0, e_re1, e_no0, e_no1, e_ow1, e_ow2, e_df1, e_df2, e_df3, e_rs1, e_rs2, e_rs3, e_rs4, e_rs5, e_ou, e_ou1, e_ou2, e_mu, e_mu1, e_mu6, e_mu2, e_mu3, e_mu4, e_mu5, g_addI, g_addL, g_sub, g_lt, g_le, g_gt, g_ge, g_mod, g_div, g_mulL, g_eqI, g_neI, g_eqB, g_neB, g_eqS, g_ixL, g_ixR, g_ixT, g_ix1, g_lenL, g_lenR, g_lenT, g_intI, g_intB, g_min2, g_max2, g_app, g_slL, g_slT, g_neg, g_atI0, g_atI1, g_atIl, g_ixN0, g_ixN1, g_powM3, g_powM5, g_mulR, List.getElem?_cons_zero, List.getElem?_cons_succ, List.getD_cons_zero, List.getD_cons_succ, List.set_cons_zero, List.set_cons_succ, Bool.and_true, Bool.true_and, Bool.and_false, Bool.false_and, decide_true, decide_false, Bool.not_true, Bool.not_false, List.length_cons, List.length_nil, Nat.reduceAdd, Nat.reduceMul, Nat.reduceSub, Nat.reduceLT, Nat.reduceLeDiff, Nat.reduceEqDiff, Int.reduceAdd, Int.reduceMul, Int.reduceSub, Int.reduceNeg, Int.reduceLT, Int.reduceLE, Int.reduceMod, Int.reduceDiv, Int.reducePow, Int.reduceToNat, Bool.false_eq_true, if_true, if_false, gt_iff_lt, ge_iff_le, g_eqIs, g_neIs, g_eqBs, g_neBs, g_eqI0, g_neI0, g_neT0, g_inB, g_inN, h_ss, h_ss1, h_ssG, h_min, h_tup, h_lst, h_flT, h_flL, h_flB, h_flb, h_fli, h_fln, h_flN, h_flS, h_mapi, h_mapb, h_mapI, h_mapB, h_revI, h_eu, h_eu1, h_eu2, h_r3, h_r31, h_fd, h_fd1, h_fd2, h_fd3, h_fs, h_fs1, h_fs2, h_fs3, h_mk, h_mk1, h_mk2, h_me, h_me1, h_me2, h_me3, h_io, h_eo, h_no, h_eo1, g_eqTs, h_apd0, h_apd1, h_apo0, h_apo1, h_cn, h_cn1, h_cn2, h_pk0, h_pk1, h_pk2, h_nw, h_nw1, e_tu, e_tu1, e_af1, e_af2, e_af3, e_af4, e_wl1, e_wl2, e_lct, e_lct1, e_lct2, e_lct3, e_lct4, e_ni, e_ni1, e_lg1, e_lg2, e_lg3, e_lg4, e_lg5, e_ixw, e_ixw1, e_ixw2, e_ixw3, e_aow, e_aow1, e_aow2, e_aow3, e_zu, e_zu1, e_zu2, e_mulT, e_mxI, e_mnI, e_mxL, e_mnL, e_mxT, e_mnT, e_lgm, e_lgm1, e_lgm2, e_lgm3, e_tupT, e_lstT, e_lgk, e_lgk2, e_lgc, e_lgc2, e_gd1, e_gd2, e_gpl, e_gpl1, e_gnx, e_gsq, e_gsq1, e_gyd, e_gyd1, e_gfr, e_gfr1, e_glp1, e_glpN, ends_some, Int.sub_zero, Int.add_zero, Int.zero_add, and_self, and_true, true_and, and_false, false_and, ne_eq, not_false_eq_true, not_true_eq_false, Bool.or_true, Bool.true_or, Bool.or_false, Bool.false_or, Option.some.injEq, reduceCtorEq, e, h1', hx, h2, pow1018, Nat.reduceLeDiff]
    · refine ⟨(0, s'), ?_⟩
      simp only [SD, en_law_source, m_law_source, e_var, e_var1, e_var2, e_var3, e_dat, e_der1, e_der2, e_der3, e_sd1, e_sd2, e_sd3, e_op, e_op1, e_op2, e_op3, e_op4, e_un, e_un1, e_un2, e_sol, e_sol1, e_sol2, e_sol3, e_sol4, e_sol5, e_da, e_da1, e_na, e_ca, e_ca1, e_ca2, e_nd, e_cd, e_cd1, e_cd2, e_dn, e_dc, e_dc1, e_cb, e_cb1, e_cb2, e_ls, e_ls1, e_tp, e_tp1, e_np, e_ip, e_ip1, e_sl, e_sl1, e_sl2, e_sl3, e_rv, e_rv1, e_rv2, e_te, e_te1, e_at, e_at1, e_at2, e_ot, e_ot1, e_ot2, e_nt, e_nt1, e_ae, e_ae1, e_ae2, e_oe, e_oe1, e_oe2, e_ne, e_ne1, e_ie, e_ie1, e_ie2, e_ch, e_ch1, e_ch2, e_ch3, e_ch4, e_ch5, e_cl, e_cl1, e_cx, e_cx1, e_cx2, e_cx3, e_cx4, e_cx5, e_cz, e_cz1, e_cz2, e_cz3, e_cz4, e_ro1, e_ro2, e_pl1, e_pl2, e_pl3, e_pl4, e_ld0, e_ld1, e_ld2, e_ld3, e_ld4, e_ld5, e_pb0, e_pb1, e_pb2, e_pb3, e_sq, e_sq1, e_sq2, e_sq3, e_sq4, e_nx, e_rt, e_rt1, e_dp, e_dp1, e_is, e_is1, e_is2, e_as, e_as1, e_as2, e_as3, e_as4, e_st, e_st1, e_st2, e_st3, e_st4, e_st5, e_st6, e_up, e_up1, e_up2, e_pr, e_pr3, e_pr1, e_sa0, e_sa1, e_sa2, e_lt, e_lt1, e_ng, e_tg, e_gn, e_gc, e_gc1, e_fr, e_fr1, e_lp1, e_lp2, e_lp3, e_lp4, e_lp5, e_wh1, e_wh2, e_wh3, e_wh4, e_wh5, e_si, e_si1, e_si2, e_si3, e_r1, e_r11, e_r2, e_r21, e_en, e_en1, e_lc, e_lc1, e_lc2, e_lc3, e_lcn1, e_lcn2, e_lcn3, e_lcn4, e_ye, e_wi0, e_wi1, e_re0, e_re1, e_no0, e_no1, e_ow1, e_ow2, e_df1, e_df2, e_df3, e_rs1, e_rs2, e_rs3, e_rs4, e_rs5, e_ou, e_ou1, e_ou2, e_mu, e_mu1, e_mu6, e_mu2, e_mu3, e_mu4, e_mu5, g_addI, g_addL, g_sub, g_lt, g_le, g_gt, g_ge, g_mod, g_div, g_mulL, g_eqI, g_neI, g_eqB, g_neB, g_eqS, g_ixL, g_ixR, g_ixT, g_ix1, g_lenL, g_lenR, g_lenT, g_intI, g_intB, g_min2, g_max2, g_app, g_slL, g_slT, g_neg, g_atI0, g_atI1, g_atIl, g_ixN0, g_ixN1, g_powM3, g_powM5, g_mulR, List.getElem?_cons_zero, List.getElem?_cons_succ, List.getD_cons_zero, List.getD_cons_succ, List.set_cons_zero, List.set_cons_succ, Bool.and_true, Bool.true_and, Bool.and_false, Bool.false_and, decide_true, decide_false, Bool.not_true, Bool.not_false, List.length_cons, List.length_nil, Nat.reduceAdd, Nat.reduceMul, Nat.reduceSub, Nat.reduceLT, Nat.reduceLeDiff, Nat.reduceEqDiff, Int.reduceAdd, Int.reduceMul, Int.reduceSub, Int.reduceNeg, Int.reduceLT, Int.reduceLE, Int.reduceMod, Int.reduceDiv, Int.reducePow, Int.reduceToNat, Bool.false_eq_true, if_true, if_false, gt_iff_lt, ge_iff_le, g_eqIs, g_neIs, g_eqBs, g_neBs, g_eqI0, g_neI0, g_neT0, g_inB, g_inN, h_ss, h_ss1, h_ssG, h_min, h_tup, h_lst, h_flT, h_flL, h_flB, h_flb, h_fli, h_fln, h_flN, h_flS, h_mapi, h_mapb, h_mapI, h_mapB, h_revI, h_eu, h_eu1, h_eu2, h_r3, h_r31, h_fd, h_fd1, h_fd2, h_fd3, h_fs, h_fs1, h_fs2, h_fs3, h_mk, h_mk1, h_mk2, h_me, h_me1, h_me2, h_me3, h_io, h_eo, h_no, h_eo1, g_eqTs, h_apd0, h_apd1, h_apo0, h_apo1, h_cn, h_cn1, h_cn2, h_pk0, h_pk1, h_pk2, h_nw, h_nw1, e_tu, e_tu1, e_af1, e_af2, e_af3, e_af4, e_wl1, e_wl2, e_lct, e_lct1, e_lct2, e_lct3, e_lct4, e_ni, e_ni1, e_lg1, e_lg2, e_lg3, e_lg4, e_lg5, e_ixw, e_ixw1, e_ixw2, e_ixw3, e_aow, e_aow1, e_aow2, e_aow3, e_zu, e_zu1, e_zu2, e_mulT, e_mxI, e_mnI, e_mxL, e_mnL, e_mxT, e_mnT, e_lgm, e_lgm1, e_lgm2, e_lgm3, e_tupT, e_lstT, e_lgk, e_lgk2, e_lgc, e_lgc2, e_gd1, e_gd2, e_gpl, e_gpl1, e_gnx, e_gsq, e_gsq1, e_gyd, e_gyd1, e_gfr, e_gfr1, e_glp1, e_glpN, ends_some, Int.sub_zero, Int.add_zero, Int.zero_add, and_self, and_true, true_and, and_false, false_and, ne_eq, not_false_eq_true, not_true_eq_false, Bool.or_true, Bool.true_or, Bool.or_false, Bool.false_or, Option.some.injEq, reduceCtorEq, e, h1', hx, h2, pow1018, Nat.reduceLeDiff]
  · have h1' : ¬ (i : Int) < (ns.map D.int).length := by rw [List.length_map]; omega
    refine ⟨(0, s'), ?_⟩
    simp only [SD, en_law_source, m_law_source, e_var, e_var1, e_var2, e_var3, e_dat, e_der1, e_der2, e_der3, e_sd1, e_sd2, e_sd3, e_op, e_op1, e_op2, e_op3, e_op4, e_un, e_un1, e_un2, e_sol, e_sol1, e_sol2, e_sol3, e_sol4, e_sol5, e_da, e_da1, e_na, e_ca, e_ca1, e_ca2, e_nd, e_cd, e_cd1, e_cd2, e_dn, e_dc, e_dc1, e_cb, e_cb1, e_cb2, e_ls, e_ls1, e_tp, e_tp1, e_np, e_ip, e_ip1, e_sl, e_sl1, e_sl2, e_sl3, e_rv, e_rv1, e_rv2, e_te, e_te1, e_at, e_at1, e_at2, e_ot, e_ot1, e_ot2, e_nt, e_nt1, e_ae, e_ae1, e_ae2, e_oe, e_oe1, e_oe2, e_ne, e_ne1, e_ie, e_ie1, e_ie2, e_ch, e_ch1, e_ch2, e_ch3, e_ch4, e_ch5, e_cl, e_cl1, e_cx, e_cx1, e_cx2, e_cx3, e_cx4, e_cx5, e_cz, e_cz1, e_cz2, e_cz3, e_cz4, e_ro1, e_ro2, e_pl1, e_pl2, e_pl3, e_pl4, e_ld0, e_ld1, e_ld2, e_ld3, e_ld4, e_ld5, e_pb0, e_pb1, e_pb2, e_pb3, e_sq, e_sq1, e_sq2, e_sq3, e_sq4, e_nx, e_rt, e_rt1, e_dp, e_dp1, e_is, e_is1, e_is2, e_as, e_as1, e_as2, e_as3, e_as4, e_st, e_st1, e_st2, e_st3, e_st4, e_st5, e_st6, e_up, e_up1, e_up2, e_pr, e_pr3, e_pr1, e_sa0, e_sa1, e_sa2, e_lt, e_lt1, e_ng, e_tg, e_gn, e_gc, e_gc1, e_fr, e_fr1, e_lp1, e_lp2, e_lp3, e_lp4, e_lp5, e_wh1, e_wh2, e_wh3, e_wh4, e_wh5, e_si, e_si1, e_si2, e_si3, e_r1, e_r11, e_r2, e_r21, e_en, e_en1, e_lc, e_lc1, e_lc2, e_lc3, e_lcn1, e_lcn2, e_lcn3, e_lcn4, e_ye, e_wi0, e_wi1, e_re0, e_re1, e_no0, e_no1, e_ow1, e_ow2, e_df1, e_df2, e_df3, e_rs1, e_rs2, e_rs3, e_rs4, e_rs5, e_ou, e_ou1, e_ou2, e_mu, e_mu1, e_mu6, e_mu2, e_mu3, e_mu4, e_mu5, g_addI, g_addL, g_sub, g_lt, g_le, g_gt, g_ge, g_mod, g_div, g_mulL, g_eqI, g_neI, g_eqB, g_neB, g_eqS, g_ixL, g_ixR, g_ixT, g_ix1, g_lenL, g_lenR, g_lenT, g_intI, g_intB, g_min2, g_max2, g_app, g_slL, g_slT, g_neg, g_atI0, g_atI1, g_atIl, g_ixN0, g_ixN1, g_powM3, g_powM5, g_mulR, List.getElem?_cons_zero, List.getElem?_cons_succ, List.getD_cons_zero, List.getD_cons_succ, List.set_cons_zero, List.set_cons_succ, Bool.and_true, Bool.true_and, Bool.and_false, Bool.false_and, decide_true, decide_false, Bool.not_true, Bool.not_false, List.length_cons, List.length_nil, Nat.reduceAdd, Nat.reduceMul, Nat.reduceSub, Nat.reduceLT, Nat.reduceLeDiff, Nat.reduceEqDiff, Int.reduceAdd, Int.reduceMul, Int.reduceSub, Int.reduceNeg, Int.reduceLT, Int.reduceLE, Int.reduceMod, Int.reduceDiv, Int.reducePow, Int.reduceToNat, Bool.false_eq_true, if_true, if_false, gt_iff_lt, ge_iff_le, g_eqIs, g_neIs, g_eqBs, g_neBs, g_eqI0, g_neI0, g_neT0, g_inB, g_inN, h_ss, h_ss1, h_ssG, h_min, h_tup, h_lst, h_flT, h_flL, h_flB, h_flb, h_fli, h_fln, h_flN, h_flS, h_mapi, h_mapb, h_mapI, h_mapB, h_revI, h_eu, h_eu1, h_eu2, h_r3, h_r31, h_fd, h_fd1, h_fd2, h_fd3, h_fs, h_fs1, h_fs2, h_fs3, h_mk, h_mk1, h_mk2, h_me, h_me1, h_me2, h_me3, h_io, h_eo, h_no, h_eo1, g_eqTs, h_apd0, h_apd1, h_apo0, h_apo1, h_cn, h_cn1, h_cn2, h_pk0, h_pk1, h_pk2, h_nw, h_nw1, e_tu, e_tu1, e_af1, e_af2, e_af3, e_af4, e_wl1, e_wl2, e_lct, e_lct1, e_lct2, e_lct3, e_lct4, e_ni, e_ni1, e_lg1, e_lg2, e_lg3, e_lg4, e_lg5, e_ixw, e_ixw1, e_ixw2, e_ixw3, e_aow, e_aow1, e_aow2, e_aow3, e_zu, e_zu1, e_zu2, e_mulT, e_mxI, e_mnI, e_mxL, e_mnL, e_mxT, e_mnT, e_lgm, e_lgm1, e_lgm2, e_lgm3, e_tupT, e_lstT, e_lgk, e_lgk2, e_lgc, e_lgc2, e_gd1, e_gd2, e_gpl, e_gpl1, e_gnx, e_gsq, e_gsq1, e_gyd, e_gyd1, e_gfr, e_gfr1, e_glp1, e_glpN, ends_some, Int.sub_zero, Int.add_zero, Int.zero_add, and_self, and_true, true_and, and_false, false_and, ne_eq, not_false_eq_true, not_true_eq_false, Bool.or_true, Bool.true_or, Bool.or_false, Bool.false_or, Option.some.injEq, reduceCtorEq, e, h1', Nat.reduceLeDiff]
/-! a choice -/
def chv {α : Type} (s : Strm) (xs : List α) (d : α) : α := xs.getD (drv s (xs.length : Int)).toNat d
def chs {α : Type} (s : Strm) (xs : List α) : Strm := drs s (xs.length : Int)
theorem chv_mem {α : Type} {s : Strm} {xs : List α} {d : α} (h : xs ≠ []) : chv s xs d ∈ xs := by
  have hl : 0 < xs.length := List.length_pos_iff.mpr h
  have := drv_ok (s := s) (n := (xs.length : Int)) (by omega)
  unfold chv
  rw [List.getD_eq_getElem?_getD, List.getElem?_eq_getElem (by omega)]
  exact List.getElem_mem _
theorem choose_at {α : Type} (s : Strm) (enc : α → D) (xs : List α) (d : α) (h : xs ≠ []) : L2.atI (xs.map enc) (drv s (xs.length : Int)) = some (enc (chv s xs d)) := by
  have hl : 0 < xs.length := List.length_pos_iff.mpr h
  have := drv_ok (s := s) (n := (xs.length : Int)) (by omega)
  rw [atI_pos this.1 (by rw [List.length_map]; omega), List.getElem?_map, List.getElem?_eq_getElem (by omega)]
  unfold chv
  rw [List.getD_eq_getElem?_getD, List.getElem?_eq_getElem (by omega)]
  rfl
theorem choose_eq {α : Type} (s : Strm) (enc : α → D) (xs : List α) (d : α) (h : xs ≠ []) (h2 : xs.length ≤ 100000) : f_law_pick [SD s, .lst (xs.map enc)] = some (.dat (enc (chv s xs d)), SD (chs s xs)) := by
  have hl : 0 < xs.length := List.length_pos_iff.mpr h
  have ea := choose_at s enc xs d h
  have ed := draw_eq s (xs.length : Int) (by omega) (by omega)
  unfold chs
  simp only [en_law_pick, m_law_pick, e_var, e_var1, e_var2, e_var3, e_dat, e_der1, e_der2, e_der3, e_sd1, e_sd2, e_sd3, e_op, e_op1, e_op2, e_op3, e_op4, e_un, e_un1, e_un2, e_sol, e_sol1, e_sol2, e_sol3, e_sol4, e_sol5, e_da, e_da1, e_na, e_ca, e_ca1, e_ca2, e_nd, e_cd, e_cd1, e_cd2, e_dn, e_dc, e_dc1, e_cb, e_cb1, e_cb2, e_ls, e_ls1, e_tp, e_tp1, e_np, e_ip, e_ip1, e_sl, e_sl1, e_sl2, e_sl3, e_rv, e_rv1, e_rv2, e_te, e_te1, e_at, e_at1, e_at2, e_ot, e_ot1, e_ot2, e_nt, e_nt1, e_ae, e_ae1, e_ae2, e_oe, e_oe1, e_oe2, e_ne, e_ne1, e_ie, e_ie1, e_ie2, e_ch, e_ch1, e_ch2, e_ch3, e_ch4, e_ch5, e_cl, e_cl1, e_cx, e_cx1, e_cx2, e_cx3, e_cx4, e_cx5, e_cz, e_cz1, e_cz2, e_cz3, e_cz4, e_ro1, e_ro2, e_pl1, e_pl2, e_pl3, e_pl4, e_ld0, e_ld1, e_ld2, e_ld3, e_ld4, e_ld5, e_pb0, e_pb1, e_pb2, e_pb3, e_sq, e_sq1, e_sq2, e_sq3, e_sq4, e_nx, e_rt, e_rt1, e_dp, e_dp1, e_is, e_is1, e_is2, e_as, e_as1, e_as2, e_as3, e_as4, e_st, e_st1, e_st2, e_st3, e_st4, e_st5, e_st6, e_up, e_up1, e_up2, e_pr, e_pr3, e_pr1, e_sa0, e_sa1, e_sa2, e_lt, e_lt1, e_ng, e_tg, e_gn, e_gc, e_gc1, e_fr, e_fr1, e_lp1, e_lp2, e_lp3, e_lp4, e_lp5, e_wh1, e_wh2, e_wh3, e_wh4, e_wh5, e_si, e_si1, e_si2, e_si3, e_r1, e_r11, e_r2, e_r21, e_en, e_en1, e_lc, e_lc1, e_lc2, e_lc3, e_lcn1, e_lcn2, e_lcn3, e_lcn4, e_ye, e_wi0, e_wi1, e_re0, e_re1, e_no0, e_no1, e_ow1, e_ow2, e_df1, e_df2, e_df3, e_rs1, e_rs2, e_rs3, e_rs4, e_rs5, e_ou, e_ou1, e_ou2, e_mu, e_mu1, e_mu6, e_mu2, e_mu3, e_mu4, e_mu5, g_addI, g_addL, g_sub, g_lt, g_le, g_gt, g_ge, g_mod, g_div, g_mulL, g_eqI, g_neI, g_eqB, g_neB, g_eqS, g_ixL, g_ixR, g_ixT, g_ix1, g_lenL, g_lenR, g_lenT, g_intI, g_intB, g_min2, g_max2, g_app, g_slL, g_slT, g_neg, g_atI0, g_atI1, g_atIl, g_ixN0, g_ixN1, g_powM3, g_powM5, g_mulR, List.getElem?_cons_zero, List.getElem?_cons_succ, List.getD_cons_zero, List.getD_cons_succ, List.set_cons_zero, List.set_cons_succ, Bool.and_true, Bool.true_and, Bool.and_false, Bool.false_and, decide_true, decide_false, Bool.not_true, Bool.not_false, List.length_cons, List.length_nil, Nat.reduceAdd, Nat.reduceMul, Nat.reduceSub, Nat.reduceLT, Nat.reduceLeDiff, Nat.reduceEqDiff, Int.reduceAdd, Int.reduceMul, Int.reduceSub, Int.reduceNeg, Int.reduceLT, Int.reduceLE, Int.reduceMod, Int.reduceDiv, Int.reducePow, Int.reduceToNat, Bool.false_eq_true, if_true, if_false, gt_iff_lt, ge_iff_le, g_eqIs, g_neIs, g_eqBs, g_neBs, g_eqI0, g_neI0, g_neT0, g_inB, g_inN, h_ss, h_ss1, h_ssG, h_min, h_tup, h_lst, h_flT, h_flL, h_flB, h_flb, h_fli, h_fln, h_flN, h_flS, h_mapi, h_mapb, h_mapI, h_mapB, h_revI, h_eu, h_eu1, h_eu2, h_r3, h_r31, h_fd, h_fd1, h_fd2, h_fd3, h_fs, h_fs1, h_fs2, h_fs3, h_mk, h_mk1, h_mk2, h_me, h_me1, h_me2, h_me3, h_io, h_eo, h_no, h_eo1, g_eqTs, h_apd0, h_apd1, h_apo0, h_apo1, h_cn, h_cn1, h_cn2, h_pk0, h_pk1, h_pk2, h_nw, h_nw1, e_tu, e_tu1, e_af1, e_af2, e_af3, e_af4, e_wl1, e_wl2, e_lct, e_lct1, e_lct2, e_lct3, e_lct4, e_ni, e_ni1, e_lg1, e_lg2, e_lg3, e_lg4, e_lg5, e_ixw, e_ixw1, e_ixw2, e_ixw3, e_aow, e_aow1, e_aow2, e_aow3, e_zu, e_zu1, e_zu2, e_mulT, e_mxI, e_mnI, e_mxL, e_mnL, e_mxT, e_mnT, e_lgm, e_lgm1, e_lgm2, e_lgm3, e_tupT, e_lstT, e_lgk, e_lgk2, e_lgc, e_lgc2, e_gd1, e_gd2, e_gpl, e_gpl1, e_gnx, e_gsq, e_gsq1, e_gyd, e_gyd1, e_gfr, e_gfr1, e_glp1, e_glpN, ends_some, Int.sub_zero, Int.add_zero, Int.zero_add, and_self, and_true, true_and, and_false, false_and, ne_eq, not_false_eq_true, not_true_eq_false, Bool.or_true, Bool.true_or, Bool.or_false, Bool.false_or, Option.some.injEq, reduceCtorEq, List.length_map, ed, ea]
end PL

namespace PL
open PySem PySem.Spec PyProof.Rows L2 DV

/-! ### repr of nested data with dicts -/
def Rz (w k : Nat) (d : D) : Prop := ∃ p, toPdx d = some p ∧ PyData.leavesShort 40 p = true ∧ PyData.showable p = true ∧ PyData.weight p ≤ w ∧ PyData.depth p ≤ k
def Rzs (w k : Nat) (ds : List D) : Prop := ∃ ps, toPdxs ds = some ps ∧ PyData.leavesShortAll 40 ps = true ∧ PyData.showableAll ps = true ∧ PyData.weightAll ps ≤ w ∧ PyData.depthAll ps ≤ k
theorem rz_up {w v k j : Nat} {d : D} (h : Rz w k d) (l : w ≤ v) (m : k ≤ j) : Rz v j d := by
  obtain ⟨p, e, h1, h3, h4, h5⟩ := h
  exact ⟨p, e, h1, h3, by omega, by omega⟩
theorem rzs_up {w v k j : Nat} {d : List D} (h : Rzs w k d) (l : w ≤ v) (m : k ≤ j) : Rzs v j d := by
  obtain ⟨p, e, h1, h3, h4, h5⟩ := h
  exact ⟨p, e, h1, h3, by omega, by omega⟩
theorem rzs_nil (k : Nat) : Rzs 0 k [] := ⟨[], rfl, rfl, rfl, Nat.le_refl _, Nat.zero_le _⟩
theorem rzs_cons {w v k : Nat} {d : D} {ds : List D} (h : Rz w k d) (g : Rzs v k ds) : Rzs (w + 1 + v) k (d :: ds) := by
  obtain ⟨p, e, h1, h3, h4, h5⟩ := h
  obtain ⟨ps, e', g1, g3, g4, g5⟩ := g
  refine ⟨p :: ps, by simp only [toPdxs, e, e', Option.bind_some], ?_, ?_, ?_, ?_⟩
  · rw [PyData.leavesShortAll, h1, g1]; rfl
  · rw [PyData.showableAll, h3, g3]; rfl
  · rw [PyData.weightAll]; omega
  · rw [PyData.depthAll]; omega
theorem rzs_app {w v k : Nat} : ∀ {ds es : List D}, Rzs w k ds → Rzs v k es → Rzs (w + v) k (ds ++ es)
  | [], es, _, g => rzs_up g (by omega) (Nat.le_refl _)
  | d :: ds, es, h, g => by
    obtain ⟨ps, e, h1, h3, h4, h5⟩ := h
    simp only [toPdxs] at e
    obtain ⟨a, e1, e⟩ := Option.bind_eq_some_iff.mp e
    obtain ⟨b, e2, e⟩ := Option.bind_eq_some_iff.mp e
    cases e
    rw [PyData.leavesShortAll, Bool.and_eq_true] at h1
    rw [PyData.showableAll, Bool.and_eq_true] at h3
    rw [PyData.weightAll] at h4
    rw [PyData.depthAll] at h5
    have ih := rzs_app (w := PyData.weightAll b) (ds := ds) ⟨b, e2, h1.2, h3.2, Nat.le_refl _, by omega⟩ g
    exact rzs_up (rzs_cons (w := PyData.weight a) ⟨a, e1, h1.1, h3.1, Nat.le_refl _, by omega⟩ ih) (by omega) (Nat.le_refl _)
theorem rz_lst {w k : Nat} {ds : List D} (g : Rzs w k ds) : Rz w (k + 1) (.lst ds) := by
  obtain ⟨ps, e', g1, g3, g4, g5⟩ := g
  exact ⟨.list ps, by simp only [toPdx, e', Option.bind_some], by rw [PyData.leavesShort]; exact g1, by rw [PyData.showable]; exact g3, by rw [PyData.weight]; exact g4, by rw [PyData.depth]; omega⟩
theorem rz_tup {w k : Nat} {ds : List D} (g : Rzs w k ds) : Rz w (k + 1) (.tup ds) := by
  obtain ⟨ps, e', g1, g3, g4, g5⟩ := g
  exact ⟨.tuple ps, by simp only [toPdx, e', Option.bind_some], by rw [PyData.leavesShort]; exact g1, by rw [PyData.showable]; exact g3, by rw [PyData.weight]; exact g4, by rw [PyData.depth]; omega⟩
theorem rz_non (k : Nat) : Rz 0 k .non := ⟨_, rfl, rfl, rfl, Nat.le_refl _, Nat.zero_le _⟩
theorem rz_int {i : Int} (h : i.natAbs < 10 ^ 38) (k : Nat) : Rz 128 k (.int i) := by
  have hl : i.natAbs.log2 < 127 := by
    by_cases z : i.natAbs = 0
    · rw [z]; decide
    · exact (Nat.log2_lt z).mpr (Nat.lt_of_lt_of_le h (by decide))
  refine ⟨.int i, rfl, ?_, ?_, ?_, Nat.zero_le _⟩
  · have e := PySem.int_text_length_le10 (k := 38) (by decide) h
    rw [PyData.leavesShort]
    refine decide_eq_true ?_
    show (Str.ofString (toString i)).length ≤ 40
    rw [PySem.ofString_length]; omega
  · rw [PyData.showable]; exact decide_eq_true (by omega)
  · rw [PyData.weight]
    split <;> omega
theorem rz_str {x : Str} (h : x.cps.toList.all (fun c => decide (c < 16 ^ 8)) = true) (k : Nat) : Rz x.cps.size k (.str x) := ⟨.str x, rfl, by rw [PyData.leavesShort]; exact h, rfl, by rw [PyData.weight]; exact Nat.le_refl _, Nat.zero_le _⟩
theorem rz_repr {w k : Nat} {d : D} (h : Rz w k d) (hw : w ≤ 300000) (hk : k ≤ 64) : ∃ x : Str, reprXG [d] = some (.dat (.str x)) := by
  obtain ⟨p, e, h1, h3, h4, h5⟩ := h
  have hs := PyData.shown_le 40 (by decide) p h1
  have hlen : p.shown.length ≤ sizeLine := by
    have : (40 + 2) * p.weight + 40 ≤ 16777216 := by omega
    exact Nat.le_trans hs (Nat.le_trans this (by decide))
  refine ⟨PyData.shown p, ?_⟩
  have hok : reprOkX p = true := by
    unfold reprOkX
    simp only [Bool.and_eq_true, decide_eq_true_eq]
    exact ⟨⟨h3, by omega⟩, hlen⟩
  show (toPdx d).bind _ = _
  rw [e]
  show (if reprOkX p = true then _ else _) = _
  rw [if_pos hok]
end PL

namespace PL
open PySem PySem.Spec PyProof.Rows L2 DV

/-! K91A: the errors of each class, by place and by name; of which classes they are; what they store. -/
def evL (c : CA) (t w m : D) : List D := [.exc c.e_BadHead "value" t, .exc c.e_BadSteps "value" t, .exc c.e_NoStep "value" t, .exc c.e_BadBody "value" t, .exc c.e_BadChain "value" t, .exc c.e_NoBoundary "value" t, .exc c.e_NoPiece "value" t, .exc c.e_BadStretches "value" t, .exc c.e_BadName "value" t, .exc c.e_BadRoad "value" (.tup [t, w, w]), .exc c.e_BadTells "value" t, .exc c.e_NoMouth "value" t, .exc c.e_NameTaken "name" w, .exc c.e_UnknownName "name" t, .exc c.e_TooSmall "name" w, .exc c.e_BadStep "position" m, .exc c.e_BadChange "position" m, .exc c.e_TooDeep "depth" m, .exc c.e_TooGreat "size" m, .exc c.e_OtherHead "head" m, .exc c.e_Held "size" m, .exc c.e_TooFar "count" m, .exc c.e_Hopeless "body" m, .exc c.e_BadText "line" m, .exc c.e_BadCommand "command" t]
def dvL (t w m : D) : List D := [t, t, t, t, t, t, t, t, t, .tup [t, w, w], t, t, w, t, w, m, m, m, m, m, m, m, m, m, t]
theorem by_place (c : CA) (t w m : D) (cs : List D) : f_law_by_place_x c [t, w, m] cs = some (.ok (.fre (.lst (evL c t w m))) .non cs) := by
  unfold evL
  simp only [en_law_by_place_x, m_law_by_place_x, e_var, e_var1, e_var2, e_var3, e_dat, e_der1, e_der2, e_der3, e_sd1, e_sd2, e_sd3, e_op, e_op1, e_op2, e_op3, e_op4, e_un, e_un1, e_un2, e_sol, e_sol1, e_sol2, e_sol3, e_sol4, e_sol5, e_da, e_da1, e_na, e_ca, e_ca1, e_ca2, e_nd, e_cd, e_cd1, e_cd2, e_dn, e_dc, e_dc1, e_cb, e_cb1, e_cb2, e_ls, e_ls1, e_tp, e_tp1, e_np, e_ip, e_ip1, e_sl, e_sl1, e_sl2, e_sl3, e_rv, e_rv1, e_rv2, e_te, e_te1, e_at, e_at1, e_at2, e_ot, e_ot1, e_ot2, e_nt, e_nt1, e_ae, e_ae1, e_ae2, e_oe, e_oe1, e_oe2, e_ne, e_ne1, e_ie, e_ie1, e_ie2, e_ch, e_ch1, e_ch2, e_ch3, e_ch4, e_ch5, e_cl, e_cl1, e_cx, e_cx1, e_cx2, e_cx3, e_cx4, e_cx5, e_cz, e_cz1, e_cz2, e_cz3, e_cz4, e_ro1, e_ro2, e_pl1, e_pl2, e_pl3, e_pl4, e_ld0, e_ld1, e_ld2, e_ld3, e_ld4, e_ld5, e_pb0, e_pb1, e_pb2, e_pb3, e_sq, e_sq1, e_sq2, e_sq3, e_sq4, e_nx, e_rt, e_rt1, e_dp, e_dp1, e_is, e_is1, e_is2, e_as, e_as1, e_as2, e_as3, e_as4, e_st, e_st1, e_st2, e_st3, e_st4, e_st5, e_st6, e_up, e_up1, e_up2, e_pr, e_pr3, e_pr1, e_sa0, e_sa1, e_sa2, e_lt, e_lt1, e_ng, e_tg, e_gn, e_gc, e_gc1, e_fr, e_fr1, e_lp1, e_lp2, e_lp3, e_lp4, e_lp5, e_wh1, e_wh2, e_wh3, e_wh4, e_wh5, e_si, e_si1, e_si2, e_si3, e_r1, e_r11, e_r2, e_r21, e_en, e_en1, e_lc, e_lc1, e_lc2, e_lc3, e_lcn1, e_lcn2, e_lcn3, e_lcn4, e_ye, e_wi0, e_wi1, e_re0, e_re1, e_no0, e_no1, e_ow1, e_ow2, e_df1, e_df2, e_df3, e_rs1, e_rs2, e_rs3, e_rs4, e_rs5, e_ou, e_ou1, e_ou2, e_mu, e_mu1, e_mu6, e_mu2, e_mu3, e_mu4, e_mu5, g_addI, g_addL, g_sub, g_lt, g_le, g_gt, g_ge, g_mod, g_div, g_mulL, g_eqI, g_neI, g_eqB, g_neB, g_eqS, g_ixL, g_ixR, g_ixT, g_ix1, g_lenL, g_lenR, g_lenT, g_intI, g_intB, g_min2, g_max2, g_app, g_slL, g_slT, g_neg, g_atI0, g_atI1, g_atIl, g_ixN0, g_ixN1, g_powM3, g_powM5, g_mulR, List.getElem?_cons_zero, List.getElem?_cons_succ, List.getD_cons_zero, List.getD_cons_succ, List.set_cons_zero, List.set_cons_succ, Bool.and_true, Bool.true_and, Bool.and_false, Bool.false_and, decide_true, decide_false, Bool.not_true, Bool.not_false, List.length_cons, List.length_nil, Nat.reduceAdd, Nat.reduceMul, Nat.reduceSub, Nat.reduceLT, Nat.reduceLeDiff, Nat.reduceEqDiff, Int.reduceAdd, Int.reduceMul, Int.reduceSub, Int.reduceNeg, Int.reduceLT, Int.reduceLE, Int.reduceMod, Int.reduceDiv, Int.reducePow, Int.reduceToNat, Bool.false_eq_true, if_true, if_false, gt_iff_lt, ge_iff_le, g_eqIs, g_neIs, g_eqBs, g_neBs, g_eqI0, g_neI0, g_neT0, g_inB, g_inN, h_ss, h_ss1, h_ssG, h_min, h_tup, h_lst, h_flT, h_flL, h_flB, h_flb, h_fli, h_fln, h_flN, h_flS, h_mapi, h_mapb, h_mapI, h_mapB, h_revI, h_eu, h_eu1, h_eu2, h_r3, h_r31, h_fd, h_fd1, h_fd2, h_fd3, h_fs, h_fs1, h_fs2, h_fs3, h_mk, h_mk1, h_mk2, h_me, h_me1, h_me2, h_me3, h_io, h_eo, h_no, h_eo1, g_eqTs, h_apd0, h_apd1, h_apo0, h_apo1, h_cn, h_cn1, h_cn2, h_pk0, h_pk1, h_pk2, h_nw, h_nw1, e_tu, e_tu1, e_af1, e_af2, e_af3, e_af4, e_wl1, e_wl2, e_lct, e_lct1, e_lct2, e_lct3, e_lct4, e_ni, e_ni1, e_lg1, e_lg2, e_lg3, e_lg4, e_lg5, e_ixw, e_ixw1, e_ixw2, e_ixw3, e_aow, e_aow1, e_aow2, e_aow3, e_zu, e_zu1, e_zu2, e_mulT, e_mxI, e_mnI, e_mxL, e_mnL, e_mxT, e_mnT, e_lgm, e_lgm1, e_lgm2, e_lgm3, e_tupT, e_lstT, e_lgk, e_lgk2, e_lgc, e_lgc2, e_gd1, e_gd2, e_gpl, e_gpl1, e_gnx, e_gsq, e_gsq1, e_gyd, e_gyd1, e_gfr, e_gfr1, e_glp1, e_glpN, ends_some, Int.sub_zero, Int.add_zero, Int.zero_add, and_self, and_true, true_and, and_false, false_and, ne_eq, not_false_eq_true, not_true_eq_false, Bool.or_true, Bool.true_or, Bool.or_false, Bool.false_or, Option.some.injEq, reduceCtorEq, q_dg, q_dg1, q_dg2, q_dg3, q_dg4, q_dn, q_dn1, q_dn2, q_dn3, q_dn4, q_dn5, q_some, q_none, q_isd, q_dh, q_dh1, q_dh2, q_dh3, q_dh4, q_dh5, q_dh6, q_newK, q_newT, q_di, q_di1, q_di2, q_lv, q_lv1, q_lv2, q_lk, q_dp, q_dp1, q_dp2, q_dp3, q_dp4, q_dp5, q_dp6, q_dp7, q_fo, q_fo1, q_fo2, q_kd, q_kt, z_seq, z_seq1, z_seq2, z_seq3, z_seq4, z_seq5, z_if, z_if1, z_if2, z_ls, z_ls1, z_le, z_le1, z_nx, z_rt, z_rt1, z_rt2, z_dr, z_dr1, z_dr2, z_as, z_as1, z_as2, z_as3, z_as4, z_lt, z_lt1, z_lt2, z_lt3, z_lt4, z_so1, z_so2, z_so3, z_ra, z_ra1, z_fo, z_fo1, z_sto, z_sto1, z_put, z_put1, z_ca, z_ca1, z_cd, z_cd1, z_cd2, z_re1, z_re2, z_re3, z_cn, z_cn1, z_cn2, z_cn3, z_me, z_me1, z_me2, z_me3, z_mk, z_mk1, z_mk2, z_mk3, z_rm1, z_rm2, z_xl, z_xc, z_xc1, z_xc2, z_xc3, z_xc4, z_xc5, z_xla, z_xla1, z_cp, z_cp1, z_cp2, z_cp3, z_try, z_try1, z_try2, z_cat, z_catn, z_cat0, z_cat1, z_off1, z_off2, z_fu, z_dx, z_en1, z_en2, z_en3, z_ee2, z_ee3, z_pr, z_pr1, z_pr2, z_vw, z_vw1, z_vw2, z_vw3, z_vw4, z_vw5, z_de, z_de1, z_cs, z_cs1, z_cs2, z_cv, z_cv1, z_cv2, z_cv3, z_cv4, z_us, z_us0, z_ul, z_ut, z_ui, z_ub, z_un, z_uS, z_lv, z_lc, List.append_nil, List.nil_append, List.cons_append, List.mem_cons, List.mem_singleton, List.not_mem_nil, true_or, or_true, or_false, List.map_cons, List.map_nil, z_mx, z_mx1, z_mx2, z_mx3, z_fx, z_fx1, z_fx2, z_fx3, z_rv, z_rv1, z_rv2, z_rv3, z_so, List.take_zero, List.take_succ_cons, List.drop_zero, List.drop_succ_cons, List.take_nil, List.drop_nil]
  done
theorem by_name (c : CA) (t w m : D) (cs : List D) : f_law_by_name_x c [t, w, m] cs = some (.ok (.fre (.lst (evL c t w m))) .non cs) := by
  unfold evL
  simp only [en_law_by_name_x, m_law_by_name_x, e_var, e_var1, e_var2, e_var3, e_dat, e_der1, e_der2, e_der3, e_sd1, e_sd2, e_sd3, e_op, e_op1, e_op2, e_op3, e_op4, e_un, e_un1, e_un2, e_sol, e_sol1, e_sol2, e_sol3, e_sol4, e_sol5, e_da, e_da1, e_na, e_ca, e_ca1, e_ca2, e_nd, e_cd, e_cd1, e_cd2, e_dn, e_dc, e_dc1, e_cb, e_cb1, e_cb2, e_ls, e_ls1, e_tp, e_tp1, e_np, e_ip, e_ip1, e_sl, e_sl1, e_sl2, e_sl3, e_rv, e_rv1, e_rv2, e_te, e_te1, e_at, e_at1, e_at2, e_ot, e_ot1, e_ot2, e_nt, e_nt1, e_ae, e_ae1, e_ae2, e_oe, e_oe1, e_oe2, e_ne, e_ne1, e_ie, e_ie1, e_ie2, e_ch, e_ch1, e_ch2, e_ch3, e_ch4, e_ch5, e_cl, e_cl1, e_cx, e_cx1, e_cx2, e_cx3, e_cx4, e_cx5, e_cz, e_cz1, e_cz2, e_cz3, e_cz4, e_ro1, e_ro2, e_pl1, e_pl2, e_pl3, e_pl4, e_ld0, e_ld1, e_ld2, e_ld3, e_ld4, e_ld5, e_pb0, e_pb1, e_pb2, e_pb3, e_sq, e_sq1, e_sq2, e_sq3, e_sq4, e_nx, e_rt, e_rt1, e_dp, e_dp1, e_is, e_is1, e_is2, e_as, e_as1, e_as2, e_as3, e_as4, e_st, e_st1, e_st2, e_st3, e_st4, e_st5, e_st6, e_up, e_up1, e_up2, e_pr, e_pr3, e_pr1, e_sa0, e_sa1, e_sa2, e_lt, e_lt1, e_ng, e_tg, e_gn, e_gc, e_gc1, e_fr, e_fr1, e_lp1, e_lp2, e_lp3, e_lp4, e_lp5, e_wh1, e_wh2, e_wh3, e_wh4, e_wh5, e_si, e_si1, e_si2, e_si3, e_r1, e_r11, e_r2, e_r21, e_en, e_en1, e_lc, e_lc1, e_lc2, e_lc3, e_lcn1, e_lcn2, e_lcn3, e_lcn4, e_ye, e_wi0, e_wi1, e_re0, e_re1, e_no0, e_no1, e_ow1, e_ow2, e_df1, e_df2, e_df3, e_rs1, e_rs2, e_rs3, e_rs4, e_rs5, e_ou, e_ou1, e_ou2, e_mu, e_mu1, e_mu6, e_mu2, e_mu3, e_mu4, e_mu5, g_addI, g_addL, g_sub, g_lt, g_le, g_gt, g_ge, g_mod, g_div, g_mulL, g_eqI, g_neI, g_eqB, g_neB, g_eqS, g_ixL, g_ixR, g_ixT, g_ix1, g_lenL, g_lenR, g_lenT, g_intI, g_intB, g_min2, g_max2, g_app, g_slL, g_slT, g_neg, g_atI0, g_atI1, g_atIl, g_ixN0, g_ixN1, g_powM3, g_powM5, g_mulR, List.getElem?_cons_zero, List.getElem?_cons_succ, List.getD_cons_zero, List.getD_cons_succ, List.set_cons_zero, List.set_cons_succ, Bool.and_true, Bool.true_and, Bool.and_false, Bool.false_and, decide_true, decide_false, Bool.not_true, Bool.not_false, List.length_cons, List.length_nil, Nat.reduceAdd, Nat.reduceMul, Nat.reduceSub, Nat.reduceLT, Nat.reduceLeDiff, Nat.reduceEqDiff, Int.reduceAdd, Int.reduceMul, Int.reduceSub, Int.reduceNeg, Int.reduceLT, Int.reduceLE, Int.reduceMod, Int.reduceDiv, Int.reducePow, Int.reduceToNat, Bool.false_eq_true, if_true, if_false, gt_iff_lt, ge_iff_le, g_eqIs, g_neIs, g_eqBs, g_neBs, g_eqI0, g_neI0, g_neT0, g_inB, g_inN, h_ss, h_ss1, h_ssG, h_min, h_tup, h_lst, h_flT, h_flL, h_flB, h_flb, h_fli, h_fln, h_flN, h_flS, h_mapi, h_mapb, h_mapI, h_mapB, h_revI, h_eu, h_eu1, h_eu2, h_r3, h_r31, h_fd, h_fd1, h_fd2, h_fd3, h_fs, h_fs1, h_fs2, h_fs3, h_mk, h_mk1, h_mk2, h_me, h_me1, h_me2, h_me3, h_io, h_eo, h_no, h_eo1, g_eqTs, h_apd0, h_apd1, h_apo0, h_apo1, h_cn, h_cn1, h_cn2, h_pk0, h_pk1, h_pk2, h_nw, h_nw1, e_tu, e_tu1, e_af1, e_af2, e_af3, e_af4, e_wl1, e_wl2, e_lct, e_lct1, e_lct2, e_lct3, e_lct4, e_ni, e_ni1, e_lg1, e_lg2, e_lg3, e_lg4, e_lg5, e_ixw, e_ixw1, e_ixw2, e_ixw3, e_aow, e_aow1, e_aow2, e_aow3, e_zu, e_zu1, e_zu2, e_mulT, e_mxI, e_mnI, e_mxL, e_mnL, e_mxT, e_mnT, e_lgm, e_lgm1, e_lgm2, e_lgm3, e_tupT, e_lstT, e_lgk, e_lgk2, e_lgc, e_lgc2, e_gd1, e_gd2, e_gpl, e_gpl1, e_gnx, e_gsq, e_gsq1, e_gyd, e_gyd1, e_gfr, e_gfr1, e_glp1, e_glpN, ends_some, Int.sub_zero, Int.add_zero, Int.zero_add, and_self, and_true, true_and, and_false, false_and, ne_eq, not_false_eq_true, not_true_eq_false, Bool.or_true, Bool.true_or, Bool.or_false, Bool.false_or, Option.some.injEq, reduceCtorEq, q_dg, q_dg1, q_dg2, q_dg3, q_dg4, q_dn, q_dn1, q_dn2, q_dn3, q_dn4, q_dn5, q_some, q_none, q_isd, q_dh, q_dh1, q_dh2, q_dh3, q_dh4, q_dh5, q_dh6, q_newK, q_newT, q_di, q_di1, q_di2, q_lv, q_lv1, q_lv2, q_lk, q_dp, q_dp1, q_dp2, q_dp3, q_dp4, q_dp5, q_dp6, q_dp7, q_fo, q_fo1, q_fo2, q_kd, q_kt, z_seq, z_seq1, z_seq2, z_seq3, z_seq4, z_seq5, z_if, z_if1, z_if2, z_ls, z_ls1, z_le, z_le1, z_nx, z_rt, z_rt1, z_rt2, z_dr, z_dr1, z_dr2, z_as, z_as1, z_as2, z_as3, z_as4, z_lt, z_lt1, z_lt2, z_lt3, z_lt4, z_so1, z_so2, z_so3, z_ra, z_ra1, z_fo, z_fo1, z_sto, z_sto1, z_put, z_put1, z_ca, z_ca1, z_cd, z_cd1, z_cd2, z_re1, z_re2, z_re3, z_cn, z_cn1, z_cn2, z_cn3, z_me, z_me1, z_me2, z_me3, z_mk, z_mk1, z_mk2, z_mk3, z_rm1, z_rm2, z_xl, z_xc, z_xc1, z_xc2, z_xc3, z_xc4, z_xc5, z_xla, z_xla1, z_cp, z_cp1, z_cp2, z_cp3, z_try, z_try1, z_try2, z_cat, z_catn, z_cat0, z_cat1, z_off1, z_off2, z_fu, z_dx, z_en1, z_en2, z_en3, z_ee2, z_ee3, z_pr, z_pr1, z_pr2, z_vw, z_vw1, z_vw2, z_vw3, z_vw4, z_vw5, z_de, z_de1, z_cs, z_cs1, z_cs2, z_cv, z_cv1, z_cv2, z_cv3, z_cv4, z_us, z_us0, z_ul, z_ut, z_ui, z_ub, z_un, z_uS, z_lv, z_lc, List.append_nil, List.nil_append, List.cons_append, List.mem_cons, List.mem_singleton, List.not_mem_nil, true_or, or_true, or_false, List.map_cons, List.map_nil, z_mx, z_mx1, z_mx2, z_mx3, z_fx, z_fx1, z_fx2, z_fx3, z_rv, z_rv1, z_rv2, z_rv3, z_so, List.take_zero, List.take_succ_cons, List.drop_zero, List.drop_succ_cons, List.take_nil, List.drop_nil]
  done
theorem mem_BadHead (c : CA) : c.e_BadHead ∈ ES c := by unfold ES; simp
theorem mem_BadSteps (c : CA) : c.e_BadSteps ∈ ES c := by unfold ES; simp
theorem mem_NoStep (c : CA) : c.e_NoStep ∈ ES c := by unfold ES; simp
theorem mem_BadBody (c : CA) : c.e_BadBody ∈ ES c := by unfold ES; simp
theorem mem_BadChain (c : CA) : c.e_BadChain ∈ ES c := by unfold ES; simp
theorem mem_NoBoundary (c : CA) : c.e_NoBoundary ∈ ES c := by unfold ES; simp
theorem mem_NoPiece (c : CA) : c.e_NoPiece ∈ ES c := by unfold ES; simp
theorem mem_BadStretches (c : CA) : c.e_BadStretches ∈ ES c := by unfold ES; simp
theorem mem_BadName (c : CA) : c.e_BadName ∈ ES c := by unfold ES; simp
theorem mem_BadRoad (c : CA) : c.e_BadRoad ∈ ES c := by unfold ES; simp
theorem mem_BadTells (c : CA) : c.e_BadTells ∈ ES c := by unfold ES; simp
theorem mem_NoMouth (c : CA) : c.e_NoMouth ∈ ES c := by unfold ES; simp
theorem mem_NameTaken (c : CA) : c.e_NameTaken ∈ ES c := by unfold ES; simp
theorem mem_UnknownName (c : CA) : c.e_UnknownName ∈ ES c := by unfold ES; simp
theorem mem_TooSmall (c : CA) : c.e_TooSmall ∈ ES c := by unfold ES; simp
theorem mem_BadStep (c : CA) : c.e_BadStep ∈ ES c := by unfold ES; simp
theorem mem_BadChange (c : CA) : c.e_BadChange ∈ ES c := by unfold ES; simp
theorem mem_TooDeep (c : CA) : c.e_TooDeep ∈ ES c := by unfold ES; simp
theorem mem_TooGreat (c : CA) : c.e_TooGreat ∈ ES c := by unfold ES; simp
theorem mem_OtherHead (c : CA) : c.e_OtherHead ∈ ES c := by unfold ES; simp
theorem mem_Held (c : CA) : c.e_Held ∈ ES c := by unfold ES; simp
theorem mem_TooFar (c : CA) : c.e_TooFar ∈ ES c := by unfold ES; simp
theorem mem_Hopeless (c : CA) : c.e_Hopeless ∈ ES c := by unfold ES; simp
theorem mem_BadText (c : CA) : c.e_BadText ∈ ES c := by unfold ES; simp
theorem mem_BadCommand (c : CA) : c.e_BadCommand ∈ ES c := by unfold ES; simp
theorem isx (c : CA) {C x : Addr} (f : Str) (d : D) (hC : C ∈ ES c) (hx : x ∈ ES c) : isXG (ES c) c.EB [.exc C f d, .con (.ref x)] = some (.dat (.bl (decide (x = C) || decide (x = c.EB)))) := by
  unfold isXG
  dsimp only
  rw [if_pos (by simp [hC, hx])]
theorem isxB (c : CA) {C : Addr} (f : Str) (d : D) (hC : C ∈ ES c) : isXG (ES c) c.EB [.exc C f d, .con (.ref c.EB)] = some (.dat (.bl true)) := by
  unfold isXG
  dsimp only
  rw [if_pos (by simp [hC])]
  simp
theorem isxV (c : CA) {C : Addr} (f : Str) (d : D) (hC : C ∈ ES c) : isXG (ES c) c.EB [.exc C f d, .con (.ty "ValueError")] = some (.dat (.bl true)) := by
  unfold isXG
  dsimp only
  rw [if_pos (by simp [hC])]
theorem kinds_eq (c : CA) {C : Addr} (f : Str) (d : D) (hC : C ∈ ES c) : f_law_kinds c [.exc C f d] = some (.fre (.lst (((ES c).map fun x => decide (x = C) || decide (x = c.EB)).map .bl)), .non) := by
  have h := fun {x : Addr} (hx : x ∈ ES c) => isx c f d hC hx
  simp only [en_law_kinds, m_law_kinds, e_var, e_var1, e_var2, e_var3, e_dat, e_der1, e_der2, e_der3, e_sd1, e_sd2, e_sd3, e_op, e_op1, e_op2, e_op3, e_op4, e_un, e_un1, e_un2, e_sol, e_sol1, e_sol2, e_sol3, e_sol4, e_sol5, e_da, e_da1, e_na, e_ca, e_ca1, e_ca2, e_nd, e_cd, e_cd1, e_cd2, e_dn, e_dc, e_dc1, e_cb, e_cb1, e_cb2, e_ls, e_ls1, e_tp, e_tp1, e_np, e_ip, e_ip1, e_sl, e_sl1, e_sl2, e_sl3, e_rv, e_rv1, e_rv2, e_te, e_te1, e_at, e_at1, e_at2, e_ot, e_ot1, e_ot2, e_nt, e_nt1, e_ae, e_ae1, e_ae2, e_oe, e_oe1, e_oe2, e_ne, e_ne1, e_ie, e_ie1, e_ie2, e_ch, e_ch1, e_ch2, e_ch3, e_ch4, e_ch5, e_cl, e_cl1, e_cx, e_cx1, e_cx2, e_cx3, e_cx4, e_cx5, e_cz, e_cz1, e_cz2, e_cz3, e_cz4, e_ro1, e_ro2, e_pl1, e_pl2, e_pl3, e_pl4, e_ld0, e_ld1, e_ld2, e_ld3, e_ld4, e_ld5, e_pb0, e_pb1, e_pb2, e_pb3, e_sq, e_sq1, e_sq2, e_sq3, e_sq4, e_nx, e_rt, e_rt1, e_dp, e_dp1, e_is, e_is1, e_is2, e_as, e_as1, e_as2, e_as3, e_as4, e_st, e_st1, e_st2, e_st3, e_st4, e_st5, e_st6, e_up, e_up1, e_up2, e_pr, e_pr3, e_pr1, e_sa0, e_sa1, e_sa2, e_lt, e_lt1, e_ng, e_tg, e_gn, e_gc, e_gc1, e_fr, e_fr1, e_lp1, e_lp2, e_lp3, e_lp4, e_lp5, e_wh1, e_wh2, e_wh3, e_wh4, e_wh5, e_si, e_si1, e_si2, e_si3, e_r1, e_r11, e_r2, e_r21, e_en, e_en1, e_lc, e_lc1, e_lc2, e_lc3, e_lcn1, e_lcn2, e_lcn3, e_lcn4, e_ye, e_wi0, e_wi1, e_re0, e_re1, e_no0, e_no1, e_ow1, e_ow2, e_df1, e_df2, e_df3, e_rs1, e_rs2, e_rs3, e_rs4, e_rs5, e_ou, e_ou1, e_ou2, e_mu, e_mu1, e_mu6, e_mu2, e_mu3, e_mu4, e_mu5, g_addI, g_addL, g_sub, g_lt, g_le, g_gt, g_ge, g_mod, g_div, g_mulL, g_eqI, g_neI, g_eqB, g_neB, g_eqS, g_ixL, g_ixR, g_ixT, g_ix1, g_lenL, g_lenR, g_lenT, g_intI, g_intB, g_min2, g_max2, g_app, g_slL, g_slT, g_neg, g_atI0, g_atI1, g_atIl, g_ixN0, g_ixN1, g_powM3, g_powM5, g_mulR, List.getElem?_cons_zero, List.getElem?_cons_succ, List.getD_cons_zero, List.getD_cons_succ, List.set_cons_zero, List.set_cons_succ, Bool.and_true, Bool.true_and, Bool.and_false, Bool.false_and, decide_true, decide_false, Bool.not_true, Bool.not_false, List.length_cons, List.length_nil, Nat.reduceAdd, Nat.reduceMul, Nat.reduceSub, Nat.reduceLT, Nat.reduceLeDiff, Nat.reduceEqDiff, Int.reduceAdd, Int.reduceMul, Int.reduceSub, Int.reduceNeg, Int.reduceLT, Int.reduceLE, Int.reduceMod, Int.reduceDiv, Int.reducePow, Int.reduceToNat, Bool.false_eq_true, if_true, if_false, gt_iff_lt, ge_iff_le, g_eqIs, g_neIs, g_eqBs, g_neBs, g_eqI0, g_neI0, g_neT0, g_inB, g_inN, h_ss, h_ss1, h_ssG, h_min, h_tup, h_lst, h_flT, h_flL, h_flB, h_flb, h_fli, h_fln, h_flN, h_flS, h_mapi, h_mapb, h_mapI, h_mapB, h_revI, h_eu, h_eu1, h_eu2, h_r3, h_r31, h_fd, h_fd1, h_fd2, h_fd3, h_fs, h_fs1, h_fs2, h_fs3, h_mk, h_mk1, h_mk2, h_me, h_me1, h_me2, h_me3, h_io, h_eo, h_no, h_eo1, g_eqTs, h_apd0, h_apd1, h_apo0, h_apo1, h_cn, h_cn1, h_cn2, h_pk0, h_pk1, h_pk2, h_nw, h_nw1, e_tu, e_tu1, e_af1, e_af2, e_af3, e_af4, e_wl1, e_wl2, e_lct, e_lct1, e_lct2, e_lct3, e_lct4, e_ni, e_ni1, e_lg1, e_lg2, e_lg3, e_lg4, e_lg5, e_ixw, e_ixw1, e_ixw2, e_ixw3, e_aow, e_aow1, e_aow2, e_aow3, e_zu, e_zu1, e_zu2, e_mulT, e_mxI, e_mnI, e_mxL, e_mnL, e_mxT, e_mnT, e_lgm, e_lgm1, e_lgm2, e_lgm3, e_tupT, e_lstT, e_lgk, e_lgk2, e_lgc, e_lgc2, e_gd1, e_gd2, e_gpl, e_gpl1, e_gnx, e_gsq, e_gsq1, e_gyd, e_gyd1, e_gfr, e_gfr1, e_glp1, e_glpN, ends_some, Int.sub_zero, Int.add_zero, Int.zero_add, and_self, and_true, true_and, and_false, false_and, ne_eq, not_false_eq_true, not_true_eq_false, Bool.or_true, Bool.true_or, Bool.or_false, Bool.false_or, Option.some.injEq, reduceCtorEq, q_dg, q_dg1, q_dg2, q_dg3, q_dg4, q_dn, q_dn1, q_dn2, q_dn3, q_dn4, q_dn5, q_some, q_none, q_isd, q_dh, q_dh1, q_dh2, q_dh3, q_dh4, q_dh5, q_dh6, q_newK, q_newT, q_di, q_di1, q_di2, q_lv, q_lv1, q_lv2, q_lk, q_dp, q_dp1, q_dp2, q_dp3, q_dp4, q_dp5, q_dp6, q_dp7, q_fo, q_fo1, q_fo2, q_kd, q_kt, z_seq, z_seq1, z_seq2, z_seq3, z_seq4, z_seq5, z_if, z_if1, z_if2, z_ls, z_ls1, z_le, z_le1, z_nx, z_rt, z_rt1, z_rt2, z_dr, z_dr1, z_dr2, z_as, z_as1, z_as2, z_as3, z_as4, z_lt, z_lt1, z_lt2, z_lt3, z_lt4, z_so1, z_so2, z_so3, z_ra, z_ra1, z_fo, z_fo1, z_sto, z_sto1, z_put, z_put1, z_ca, z_ca1, z_cd, z_cd1, z_cd2, z_re1, z_re2, z_re3, z_cn, z_cn1, z_cn2, z_cn3, z_me, z_me1, z_me2, z_me3, z_mk, z_mk1, z_mk2, z_mk3, z_rm1, z_rm2, z_xl, z_xc, z_xc1, z_xc2, z_xc3, z_xc4, z_xc5, z_xla, z_xla1, z_cp, z_cp1, z_cp2, z_cp3, z_try, z_try1, z_try2, z_cat, z_catn, z_cat0, z_cat1, z_off1, z_off2, z_fu, z_dx, z_en1, z_en2, z_en3, z_ee2, z_ee3, z_pr, z_pr1, z_pr2, z_vw, z_vw1, z_vw2, z_vw3, z_vw4, z_vw5, z_de, z_de1, z_cs, z_cs1, z_cs2, z_cv, z_cv1, z_cv2, z_cv3, z_cv4, z_us, z_us0, z_ul, z_ut, z_ui, z_ub, z_un, z_uS, z_lv, z_lc, List.append_nil, List.nil_append, List.cons_append, List.mem_cons, List.mem_singleton, List.not_mem_nil, true_or, or_true, or_false, List.map_cons, List.map_nil, z_mx, z_mx1, z_mx2, z_mx3, z_fx, z_fx1, z_fx2, z_fx3, z_rv, z_rv1, z_rv2, z_rv3, z_so, List.take_zero, List.take_succ_cons, List.drop_zero, List.drop_succ_cons, List.take_nil, List.drop_nil, h (mem_BadHead c), h (mem_BadSteps c), h (mem_NoStep c), h (mem_BadBody c), h (mem_BadChain c), h (mem_NoBoundary c), h (mem_NoPiece c), h (mem_BadStretches c), h (mem_BadName c), h (mem_BadRoad c), h (mem_BadTells c), h (mem_NoMouth c), h (mem_NameTaken c), h (mem_UnknownName c), h (mem_TooSmall c), h (mem_BadStep c), h (mem_BadChange c), h (mem_TooDeep c), h (mem_TooGreat c), h (mem_OtherHead c), h (mem_Held c), h (mem_TooFar c), h (mem_Hopeless c), h (mem_BadText c), h (mem_BadCommand c)]
  unfold ES
  rfl
theorem fld_lc (c : CA) (as : List Addr) (f : Str) (v0 v1 : Sl) (xs : List (Addr × D)) (hl : xs.length ≤ 100000) (ha : ∀ p ∈ xs, p.1 ∈ as) : lcL (nameG 2) yesT (solidE (fldxE as f (varE 2))) [2] (xs.map fun p => D.exc p.1 f p.2) [] [v0, v1, .un] = some (xs.map fun p => p.2, [v0, v1, .un]) := by
  refine lc_map (fun p : Addr × D => D.exc p.1 f p.2) (fun p => p.2) xs _ hl fun x hx => ?_
  have h := ha x hx
  simp only [e_var, e_var1, e_var2, e_var3, e_dat, e_der1, e_der2, e_der3, e_sd1, e_sd2, e_sd3, e_op, e_op1, e_op2, e_op3, e_op4, e_un, e_un1, e_un2, e_sol, e_sol1, e_sol2, e_sol3, e_sol4, e_sol5, e_da, e_da1, e_na, e_ca, e_ca1, e_ca2, e_nd, e_cd, e_cd1, e_cd2, e_dn, e_dc, e_dc1, e_cb, e_cb1, e_cb2, e_ls, e_ls1, e_tp, e_tp1, e_np, e_ip, e_ip1, e_sl, e_sl1, e_sl2, e_sl3, e_rv, e_rv1, e_rv2, e_te, e_te1, e_at, e_at1, e_at2, e_ot, e_ot1, e_ot2, e_nt, e_nt1, e_ae, e_ae1, e_ae2, e_oe, e_oe1, e_oe2, e_ne, e_ne1, e_ie, e_ie1, e_ie2, e_ch, e_ch1, e_ch2, e_ch3, e_ch4, e_ch5, e_cl, e_cl1, e_cx, e_cx1, e_cx2, e_cx3, e_cx4, e_cx5, e_cz, e_cz1, e_cz2, e_cz3, e_cz4, e_ro1, e_ro2, e_pl1, e_pl2, e_pl3, e_pl4, e_ld0, e_ld1, e_ld2, e_ld3, e_ld4, e_ld5, e_pb0, e_pb1, e_pb2, e_pb3, e_sq, e_sq1, e_sq2, e_sq3, e_sq4, e_nx, e_rt, e_rt1, e_dp, e_dp1, e_is, e_is1, e_is2, e_as, e_as1, e_as2, e_as3, e_as4, e_st, e_st1, e_st2, e_st3, e_st4, e_st5, e_st6, e_up, e_up1, e_up2, e_pr, e_pr3, e_pr1, e_sa0, e_sa1, e_sa2, e_lt, e_lt1, e_ng, e_tg, e_gn, e_gc, e_gc1, e_fr, e_fr1, e_lp1, e_lp2, e_lp3, e_lp4, e_lp5, e_wh1, e_wh2, e_wh3, e_wh4, e_wh5, e_si, e_si1, e_si2, e_si3, e_r1, e_r11, e_r2, e_r21, e_en, e_en1, e_lc, e_lc1, e_lc2, e_lc3, e_lcn1, e_lcn2, e_lcn3, e_lcn4, e_ye, e_wi0, e_wi1, e_re0, e_re1, e_no0, e_no1, e_ow1, e_ow2, e_df1, e_df2, e_df3, e_rs1, e_rs2, e_rs3, e_rs4, e_rs5, e_ou, e_ou1, e_ou2, e_mu, e_mu1, e_mu6, e_mu2, e_mu3, e_mu4, e_mu5, g_addI, g_addL, g_sub, g_lt, g_le, g_gt, g_ge, g_mod, g_div, g_mulL, g_eqI, g_neI, g_eqB, g_neB, g_eqS, g_ixL, g_ixR, g_ixT, g_ix1, g_lenL, g_lenR, g_lenT, g_intI, g_intB, g_min2, g_max2, g_app, g_slL, g_slT, g_neg, g_atI0, g_atI1, g_atIl, g_ixN0, g_ixN1, g_powM3, g_powM5, g_mulR, List.getElem?_cons_zero, List.getElem?_cons_succ, List.getD_cons_zero, List.getD_cons_succ, List.set_cons_zero, List.set_cons_succ, Bool.and_true, Bool.true_and, Bool.and_false, Bool.false_and, decide_true, decide_false, Bool.not_true, Bool.not_false, List.length_cons, List.length_nil, Nat.reduceAdd, Nat.reduceMul, Nat.reduceSub, Nat.reduceLT, Nat.reduceLeDiff, Nat.reduceEqDiff, Int.reduceAdd, Int.reduceMul, Int.reduceSub, Int.reduceNeg, Int.reduceLT, Int.reduceLE, Int.reduceMod, Int.reduceDiv, Int.reducePow, Int.reduceToNat, Bool.false_eq_true, if_true, if_false, gt_iff_lt, ge_iff_le, g_eqIs, g_neIs, g_eqBs, g_neBs, g_eqI0, g_neI0, g_neT0, g_inB, g_inN, h_ss, h_ss1, h_ssG, h_min, h_tup, h_lst, h_flT, h_flL, h_flB, h_flb, h_fli, h_fln, h_flN, h_flS, h_mapi, h_mapb, h_mapI, h_mapB, h_revI, h_eu, h_eu1, h_eu2, h_r3, h_r31, h_fd, h_fd1, h_fd2, h_fd3, h_fs, h_fs1, h_fs2, h_fs3, h_mk, h_mk1, h_mk2, h_me, h_me1, h_me2, h_me3, h_io, h_eo, h_no, h_eo1, g_eqTs, h_apd0, h_apd1, h_apo0, h_apo1, h_cn, h_cn1, h_cn2, h_pk0, h_pk1, h_pk2, h_nw, h_nw1, e_tu, e_tu1, e_af1, e_af2, e_af3, e_af4, e_wl1, e_wl2, e_lct, e_lct1, e_lct2, e_lct3, e_lct4, e_ni, e_ni1, e_lg1, e_lg2, e_lg3, e_lg4, e_lg5, e_ixw, e_ixw1, e_ixw2, e_ixw3, e_aow, e_aow1, e_aow2, e_aow3, e_zu, e_zu1, e_zu2, e_mulT, e_mxI, e_mnI, e_mxL, e_mnL, e_mxT, e_mnT, e_lgm, e_lgm1, e_lgm2, e_lgm3, e_tupT, e_lstT, e_lgk, e_lgk2, e_lgc, e_lgc2, e_gd1, e_gd2, e_gpl, e_gpl1, e_gnx, e_gsq, e_gsq1, e_gyd, e_gyd1, e_gfr, e_gfr1, e_glp1, e_glpN, ends_some, Int.sub_zero, Int.add_zero, Int.zero_add, and_self, and_true, true_and, and_false, false_and, ne_eq, not_false_eq_true, not_true_eq_false, Bool.or_true, Bool.true_or, Bool.or_false, Bool.false_or, Option.some.injEq, reduceCtorEq, q_dg, q_dg1, q_dg2, q_dg3, q_dg4, q_dn, q_dn1, q_dn2, q_dn3, q_dn4, q_dn5, q_some, q_none, q_isd, q_dh, q_dh1, q_dh2, q_dh3, q_dh4, q_dh5, q_dh6, q_newK, q_newT, q_di, q_di1, q_di2, q_lv, q_lv1, q_lv2, q_lk, q_dp, q_dp1, q_dp2, q_dp3, q_dp4, q_dp5, q_dp6, q_dp7, q_fo, q_fo1, q_fo2, q_kd, q_kt, z_seq, z_seq1, z_seq2, z_seq3, z_seq4, z_seq5, z_if, z_if1, z_if2, z_ls, z_ls1, z_le, z_le1, z_nx, z_rt, z_rt1, z_rt2, z_dr, z_dr1, z_dr2, z_as, z_as1, z_as2, z_as3, z_as4, z_lt, z_lt1, z_lt2, z_lt3, z_lt4, z_so1, z_so2, z_so3, z_ra, z_ra1, z_fo, z_fo1, z_sto, z_sto1, z_put, z_put1, z_ca, z_ca1, z_cd, z_cd1, z_cd2, z_re1, z_re2, z_re3, z_cn, z_cn1, z_cn2, z_cn3, z_me, z_me1, z_me2, z_me3, z_mk, z_mk1, z_mk2, z_mk3, z_rm1, z_rm2, z_xl, z_xc, z_xc1, z_xc2, z_xc3, z_xc4, z_xc5, z_xla, z_xla1, z_cp, z_cp1, z_cp2, z_cp3, z_try, z_try1, z_try2, z_cat, z_catn, z_cat0, z_cat1, z_off1, z_off2, z_fu, z_dx, z_en1, z_en2, z_en3, z_ee2, z_ee3, z_pr, z_pr1, z_pr2, z_vw, z_vw1, z_vw2, z_vw3, z_vw4, z_vw5, z_de, z_de1, z_cs, z_cs1, z_cs2, z_cv, z_cv1, z_cv2, z_cv3, z_cv4, z_us, z_us0, z_ul, z_ut, z_ui, z_ub, z_un, z_uS, z_lv, z_lc, List.append_nil, List.nil_append, List.cons_append, List.mem_cons, List.mem_singleton, List.not_mem_nil, true_or, or_true, or_false, List.map_cons, List.map_nil, z_mx, z_mx1, z_mx2, z_mx3, z_fx, z_fx1, z_fx2, z_fx3, z_rv, z_rv1, z_rv2, z_rv3, z_so, List.take_zero, List.take_succ_cons, List.drop_zero, List.drop_succ_cons, List.take_nil, List.drop_nil, h, decide_true, Bool.and_self]
end PL

namespace PL
open PySem PySem.Spec PyProof.Rows L2 DV

/-! K91B: what they store; their kinds, told apart. -/
theorem stored_eq (c : CA) (t w m : D) : f_law_stored c [.lst (evL c t w m)] = some (.fre (.lst (dvL t w m)), .non) := by
  have e1 : ∀ v0 v1, lcL (nameG 2) y2_law_stored (x1_law_stored c) [2] (cutD (evL c t w m) none (some 12)) [] [v0, v1, .un] = some ([t, t, t, t, t, t, t, t, t, .tup [t, w, w], t, t], [v0, v1, .un]) := fun v0 v1 =>
    fld_lc c (FS_value c) "value" v0 v1 [(c.e_BadHead, t), (c.e_BadSteps, t), (c.e_NoStep, t), (c.e_BadBody, t), (c.e_BadChain, t), (c.e_NoBoundary, t), (c.e_NoPiece, t), (c.e_BadStretches, t), (c.e_BadName, t), (c.e_BadRoad, .tup [t, w, w]), (c.e_BadTells, t), (c.e_NoMouth, t)] (by simp) (by unfold FS_value; simp)
  have e2 : ∀ v0 v1, lcL (nameG 2) y4_law_stored (x3_law_stored c) [2] (cutD (evL c t w m) (some 12) (some 15)) [] [v0, v1, .un] = some ([w, t, w], [v0, v1, .un]) := fun v0 v1 =>
    fld_lc c (FS_name c) "name" v0 v1 [(c.e_NameTaken, w), (c.e_UnknownName, t), (c.e_TooSmall, w)] (by simp) (by unfold FS_name; simp)
  have e3 : ∀ v0 v1, lcL (nameG 2) y6_law_stored (x5_law_stored c) [2] (cutD (evL c t w m) (some 15) (some 17)) [] [v0, v1, .un] = some ([m, m], [v0, v1, .un]) := fun v0 v1 =>
    fld_lc c (FS_position c) "position" v0 v1 [(c.e_BadStep, m), (c.e_BadChange, m)] (by simp) (by unfold FS_position; simp)
  have a17 : L2.atI (evL c t w m) 17 = some (.exc c.e_TooDeep "depth" m) := rfl
  have n17 : c.e_TooDeep ∈ FS_depth c := by unfold FS_depth; simp
  have a18 : L2.atI (evL c t w m) 18 = some (.exc c.e_TooGreat "size" m) := rfl
  have n18 : c.e_TooGreat ∈ FS_size c := by unfold FS_size; simp
  have a19 : L2.atI (evL c t w m) 19 = some (.exc c.e_OtherHead "head" m) := rfl
  have n19 : c.e_OtherHead ∈ FS_head c := by unfold FS_head; simp
  have a20 : L2.atI (evL c t w m) 20 = some (.exc c.e_Held "size" m) := rfl
  have n20 : c.e_Held ∈ FS_size c := by unfold FS_size; simp
  have a21 : L2.atI (evL c t w m) 21 = some (.exc c.e_TooFar "count" m) := rfl
  have n21 : c.e_TooFar ∈ FS_count c := by unfold FS_count; simp
  have a22 : L2.atI (evL c t w m) 22 = some (.exc c.e_Hopeless "body" m) := rfl
  have n22 : c.e_Hopeless ∈ FS_body c := by unfold FS_body; simp
  have a23 : L2.atI (evL c t w m) 23 = some (.exc c.e_BadText "line" m) := rfl
  have n23 : c.e_BadText ∈ FS_line c := by unfold FS_line; simp
  have a24 : L2.atI (evL c t w m) 24 = some (.exc c.e_BadCommand "command" t) := rfl
  have n24 : c.e_BadCommand ∈ FS_command c := by unfold FS_command; simp
  simp only [en_law_stored, m_law_stored, e_var, e_var1, e_var2, e_var3, e_dat, e_der1, e_der2, e_der3, e_sd1, e_sd2, e_sd3, e_op, e_op1, e_op2, e_op3, e_op4, e_un, e_un1, e_un2, e_sol, e_sol1, e_sol2, e_sol3, e_sol4, e_sol5, e_da, e_da1, e_na, e_ca, e_ca1, e_ca2, e_nd, e_cd, e_cd1, e_cd2, e_dn, e_dc, e_dc1, e_cb, e_cb1, e_cb2, e_ls, e_ls1, e_tp, e_tp1, e_np, e_ip, e_ip1, e_sl, e_sl1, e_sl2, e_sl3, e_rv, e_rv1, e_rv2, e_te, e_te1, e_at, e_at1, e_at2, e_ot, e_ot1, e_ot2, e_nt, e_nt1, e_ae, e_ae1, e_ae2, e_oe, e_oe1, e_oe2, e_ne, e_ne1, e_ie, e_ie1, e_ie2, e_ch, e_ch1, e_ch2, e_ch3, e_ch4, e_ch5, e_cl, e_cl1, e_cx, e_cx1, e_cx2, e_cx3, e_cx4, e_cx5, e_cz, e_cz1, e_cz2, e_cz3, e_cz4, e_ro1, e_ro2, e_pl1, e_pl2, e_pl3, e_pl4, e_ld0, e_ld1, e_ld2, e_ld3, e_ld4, e_ld5, e_pb0, e_pb1, e_pb2, e_pb3, e_sq, e_sq1, e_sq2, e_sq3, e_sq4, e_nx, e_rt, e_rt1, e_dp, e_dp1, e_is, e_is1, e_is2, e_as, e_as1, e_as2, e_as3, e_as4, e_st, e_st1, e_st2, e_st3, e_st4, e_st5, e_st6, e_up, e_up1, e_up2, e_pr, e_pr3, e_pr1, e_sa0, e_sa1, e_sa2, e_lt, e_lt1, e_ng, e_tg, e_gn, e_gc, e_gc1, e_fr, e_fr1, e_lp1, e_lp2, e_lp3, e_lp4, e_lp5, e_wh1, e_wh2, e_wh3, e_wh4, e_wh5, e_si, e_si1, e_si2, e_si3, e_r1, e_r11, e_r2, e_r21, e_en, e_en1, e_lc, e_lc1, e_lc2, e_lc3, e_lcn1, e_lcn2, e_lcn3, e_lcn4, e_ye, e_wi0, e_wi1, e_re0, e_re1, e_no0, e_no1, e_ow1, e_ow2, e_df1, e_df2, e_df3, e_rs1, e_rs2, e_rs3, e_rs4, e_rs5, e_ou, e_ou1, e_ou2, e_mu, e_mu1, e_mu6, e_mu2, e_mu3, e_mu4, e_mu5, g_addI, g_addL, g_sub, g_lt, g_le, g_gt, g_ge, g_mod, g_div, g_mulL, g_eqI, g_neI, g_eqB, g_neB, g_eqS, g_ixL, g_ixR, g_ixT, g_ix1, g_lenL, g_lenR, g_lenT, g_intI, g_intB, g_min2, g_max2, g_app, g_slL, g_slT, g_neg, g_atI0, g_atI1, g_atIl, g_ixN0, g_ixN1, g_powM3, g_powM5, g_mulR, List.getElem?_cons_zero, List.getElem?_cons_succ, List.getD_cons_zero, List.getD_cons_succ, List.set_cons_zero, List.set_cons_succ, Bool.and_true, Bool.true_and, Bool.and_false, Bool.false_and, decide_true, decide_false, Bool.not_true, Bool.not_false, List.length_cons, List.length_nil, Nat.reduceAdd, Nat.reduceMul, Nat.reduceSub, Nat.reduceLT, Nat.reduceLeDiff, Nat.reduceEqDiff, Int.reduceAdd, Int.reduceMul, Int.reduceSub, Int.reduceNeg, Int.reduceLT, Int.reduceLE, Int.reduceMod, Int.reduceDiv, Int.reducePow, Int.reduceToNat, Bool.false_eq_true, if_true, if_false, gt_iff_lt, ge_iff_le, g_eqIs, g_neIs, g_eqBs, g_neBs, g_eqI0, g_neI0, g_neT0, g_inB, g_inN, h_ss, h_ss1, h_ssG, h_min, h_tup, h_lst, h_flT, h_flL, h_flB, h_flb, h_fli, h_fln, h_flN, h_flS, h_mapi, h_mapb, h_mapI, h_mapB, h_revI, h_eu, h_eu1, h_eu2, h_r3, h_r31, h_fd, h_fd1, h_fd2, h_fd3, h_fs, h_fs1, h_fs2, h_fs3, h_mk, h_mk1, h_mk2, h_me, h_me1, h_me2, h_me3, h_io, h_eo, h_no, h_eo1, g_eqTs, h_apd0, h_apd1, h_apo0, h_apo1, h_cn, h_cn1, h_cn2, h_pk0, h_pk1, h_pk2, h_nw, h_nw1, e_tu, e_tu1, e_af1, e_af2, e_af3, e_af4, e_wl1, e_wl2, e_lct, e_lct1, e_lct2, e_lct3, e_lct4, e_ni, e_ni1, e_lg1, e_lg2, e_lg3, e_lg4, e_lg5, e_ixw, e_ixw1, e_ixw2, e_ixw3, e_aow, e_aow1, e_aow2, e_aow3, e_zu, e_zu1, e_zu2, e_mulT, e_mxI, e_mnI, e_mxL, e_mnL, e_mxT, e_mnT, e_lgm, e_lgm1, e_lgm2, e_lgm3, e_tupT, e_lstT, e_lgk, e_lgk2, e_lgc, e_lgc2, e_gd1, e_gd2, e_gpl, e_gpl1, e_gnx, e_gsq, e_gsq1, e_gyd, e_gyd1, e_gfr, e_gfr1, e_glp1, e_glpN, ends_some, Int.sub_zero, Int.add_zero, Int.zero_add, and_self, and_true, true_and, and_false, false_and, ne_eq, not_false_eq_true, not_true_eq_false, Bool.or_true, Bool.true_or, Bool.or_false, Bool.false_or, Option.some.injEq, reduceCtorEq, q_dg, q_dg1, q_dg2, q_dg3, q_dg4, q_dn, q_dn1, q_dn2, q_dn3, q_dn4, q_dn5, q_some, q_none, q_isd, q_dh, q_dh1, q_dh2, q_dh3, q_dh4, q_dh5, q_dh6, q_newK, q_newT, q_di, q_di1, q_di2, q_lv, q_lv1, q_lv2, q_lk, q_dp, q_dp1, q_dp2, q_dp3, q_dp4, q_dp5, q_dp6, q_dp7, q_fo, q_fo1, q_fo2, q_kd, q_kt, z_seq, z_seq1, z_seq2, z_seq3, z_seq4, z_seq5, z_if, z_if1, z_if2, z_ls, z_ls1, z_le, z_le1, z_nx, z_rt, z_rt1, z_rt2, z_dr, z_dr1, z_dr2, z_as, z_as1, z_as2, z_as3, z_as4, z_lt, z_lt1, z_lt2, z_lt3, z_lt4, z_so1, z_so2, z_so3, z_ra, z_ra1, z_fo, z_fo1, z_sto, z_sto1, z_put, z_put1, z_ca, z_ca1, z_cd, z_cd1, z_cd2, z_re1, z_re2, z_re3, z_cn, z_cn1, z_cn2, z_cn3, z_me, z_me1, z_me2, z_me3, z_mk, z_mk1, z_mk2, z_mk3, z_rm1, z_rm2, z_xl, z_xc, z_xc1, z_xc2, z_xc3, z_xc4, z_xc5, z_xla, z_xla1, z_cp, z_cp1, z_cp2, z_cp3, z_try, z_try1, z_try2, z_cat, z_catn, z_cat0, z_cat1, z_off1, z_off2, z_fu, z_dx, z_en1, z_en2, z_en3, z_ee2, z_ee3, z_pr, z_pr1, z_pr2, z_vw, z_vw1, z_vw2, z_vw3, z_vw4, z_vw5, z_de, z_de1, z_cs, z_cs1, z_cs2, z_cv, z_cv1, z_cv2, z_cv3, z_cv4, z_us, z_us0, z_ul, z_ut, z_ui, z_ub, z_un, z_uS, z_lv, z_lc, List.append_nil, List.nil_append, List.cons_append, List.mem_cons, List.mem_singleton, List.not_mem_nil, true_or, or_true, or_false, List.map_cons, List.map_nil, z_mx, z_mx1, z_mx2, z_mx3, z_fx, z_fx1, z_fx2, z_fx3, z_rv, z_rv1, z_rv2, z_rv3, z_so, List.take_zero, List.take_succ_cons, List.drop_zero, List.drop_succ_cons, List.take_nil, List.drop_nil, e1, e2, e3, a17, n17, a18, n18, a19, n19, a20, n20, a21, n21, a22, n22, a23, n23, a24, n24]
  rfl
def exs (c : CA) (t w m : D) : List (Addr × Str × D) := [(c.e_BadHead, "value", t), (c.e_BadSteps, "value", t), (c.e_NoStep, "value", t), (c.e_BadBody, "value", t), (c.e_BadChain, "value", t), (c.e_NoBoundary, "value", t), (c.e_NoPiece, "value", t), (c.e_BadStretches, "value", t), (c.e_BadName, "value", t), (c.e_BadRoad, "value", .tup [t, w, w]), (c.e_BadTells, "value", t), (c.e_NoMouth, "value", t), (c.e_NameTaken, "name", w), (c.e_UnknownName, "name", t), (c.e_TooSmall, "name", w), (c.e_BadStep, "position", m), (c.e_BadChange, "position", m), (c.e_TooDeep, "depth", m), (c.e_TooGreat, "size", m), (c.e_OtherHead, "head", m), (c.e_Held, "size", m), (c.e_TooFar, "count", m), (c.e_Hopeless, "body", m), (c.e_BadText, "line", m), (c.e_BadCommand, "command", t)]
def encX (p : Addr × Str × D) : D := .exc p.1 p.2.1 p.2.2
theorem exs_ev (c : CA) (t w m : D) : (exs c t w m).map encX = evL c t w m := rfl
theorem exs_ES (c : CA) (t w m : D) : (exs c t w m).map (·.1) = ES c := rfl
theorem apart (c : CA) (dis : Dis c) (j : Nat) (hj : j < (ES c).length) : ((ES c).map fun x => decide (x = (ES c)[j]) || decide (x = c.EB)) = (List.range 25).map fun (i : Nat) => decide ((0 : Int) + (i : Int) = (j : Int)) := by
  have hl : (ES c).length = 25 := rfl
  unfold Dis at dis
  obtain ⟨d1, _, d2⟩ := List.nodup_append.mp dis
  refine List.ext_getElem (by simp [hl]) fun i h1 h2 => ?_
  rw [List.length_map] at h1
  rw [List.getElem_map, List.getElem_map, List.getElem_range]
  have hn : ¬ (ES c)[i] = c.EB := fun z => d2 _ (List.getElem_mem h1) _ (List.mem_singleton.mpr rfl) z
  refine Bool.eq_iff_iff.mpr ?_
  simp only [Bool.or_eq_true, decide_eq_true_eq]
  constructor
  · rintro (z | z)
    · have e : i = j := (List.getElem?_inj h1 d1).mp ((List.getElem?_eq_getElem h1).trans ((congrArg some z).trans (List.getElem?_eq_getElem hj).symm))
      omega
    · exact (hn z).elim
  · intro z
    have e : i = j := by omega
    subst e
    exact .inl rfl
theorem comp_eq (j : Int) (v0 v1 v2 v3 v4 v5 v6 v8 v9 : Sl) (cs : List D) : lcL (nameG 10) y2_law_x x1_law_x [10] (rangeD 0 25) [] [v0, v1, v2, v3, v4, v5, v6, .val (.int j), v8, v9, .un, .sto cs] = some (((List.range 25).map fun (i : Nat) => decide ((0 : Int) + (i : Int) = j)).map .bl, [v0, v1, v2, v3, v4, v5, v6, .val (.int j), v8, v9, .un, .sto cs]) := by
  rw [List.map_map]
  refine lc_map (fun (i : Nat) => D.int (0 + (i : Int))) (fun (i : Nat) => .bl (decide ((0 : Int) + (i : Int) = j))) (List.range 25) _ (by simp) fun x hx => ?_
  simp only [y2_law_x, x1_law_x, e_var, e_var1, e_var2, e_var3, e_dat, e_der1, e_der2, e_der3, e_sd1, e_sd2, e_sd3, e_op, e_op1, e_op2, e_op3, e_op4, e_un, e_un1, e_un2, e_sol, e_sol1, e_sol2, e_sol3, e_sol4, e_sol5, e_da, e_da1, e_na, e_ca, e_ca1, e_ca2, e_nd, e_cd, e_cd1, e_cd2, e_dn, e_dc, e_dc1, e_cb, e_cb1, e_cb2, e_ls, e_ls1, e_tp, e_tp1, e_np, e_ip, e_ip1, e_sl, e_sl1, e_sl2, e_sl3, e_rv, e_rv1, e_rv2, e_te, e_te1, e_at, e_at1, e_at2, e_ot, e_ot1, e_ot2, e_nt, e_nt1, e_ae, e_ae1, e_ae2, e_oe, e_oe1, e_oe2, e_ne, e_ne1, e_ie, e_ie1, e_ie2, e_ch, e_ch1, e_ch2, e_ch3, e_ch4, e_ch5, e_cl, e_cl1, e_cx, e_cx1, e_cx2, e_cx3, e_cx4, e_cx5, e_cz, e_cz1, e_cz2, e_cz3, e_cz4, e_ro1, e_ro2, e_pl1, e_pl2, e_pl3, e_pl4, e_ld0, e_ld1, e_ld2, e_ld3, e_ld4, e_ld5, e_pb0, e_pb1, e_pb2, e_pb3, e_sq, e_sq1, e_sq2, e_sq3, e_sq4, e_nx, e_rt, e_rt1, e_dp, e_dp1, e_is, e_is1, e_is2, e_as, e_as1, e_as2, e_as3, e_as4, e_st, e_st1, e_st2, e_st3, e_st4, e_st5, e_st6, e_up, e_up1, e_up2, e_pr, e_pr3, e_pr1, e_sa0, e_sa1, e_sa2, e_lt, e_lt1, e_ng, e_tg, e_gn, e_gc, e_gc1, e_fr, e_fr1, e_lp1, e_lp2, e_lp3, e_lp4, e_lp5, e_wh1, e_wh2, e_wh3, e_wh4, e_wh5, e_si, e_si1, e_si2, e_si3, e_r1, e_r11, e_r2, e_r21, e_en, e_en1, e_lc, e_lc1, e_lc2, e_lc3, e_lcn1, e_lcn2, e_lcn3, e_lcn4, e_ye, e_wi0, e_wi1, e_re0, e_re1, e_no0, e_no1, e_ow1, e_ow2, e_df1, e_df2, e_df3, e_rs1, e_rs2, e_rs3, e_rs4, e_rs5, e_ou, e_ou1, e_ou2, e_mu, e_mu1, e_mu6, e_mu2, e_mu3, e_mu4, e_mu5, g_addI, g_addL, g_sub, g_lt, g_le, g_gt, g_ge, g_mod, g_div, g_mulL, g_eqI, g_neI, g_eqB, g_neB, g_eqS, g_ixL, g_ixR, g_ixT, g_ix1, g_lenL, g_lenR, g_lenT, g_intI, g_intB, g_min2, g_max2, g_app, g_slL, g_slT, g_neg, g_atI0, g_atI1, g_atIl, g_ixN0, g_ixN1, g_powM3, g_powM5, g_mulR, List.getElem?_cons_zero, List.getElem?_cons_succ, List.getD_cons_zero, List.getD_cons_succ, List.set_cons_zero, List.set_cons_succ, Bool.and_true, Bool.true_and, Bool.and_false, Bool.false_and, decide_true, decide_false, Bool.not_true, Bool.not_false, List.length_cons, List.length_nil, Nat.reduceAdd, Nat.reduceMul, Nat.reduceSub, Nat.reduceLT, Nat.reduceLeDiff, Nat.reduceEqDiff, Int.reduceAdd, Int.reduceMul, Int.reduceSub, Int.reduceNeg, Int.reduceLT, Int.reduceLE, Int.reduceMod, Int.reduceDiv, Int.reducePow, Int.reduceToNat, Bool.false_eq_true, if_true, if_false, gt_iff_lt, ge_iff_le, g_eqIs, g_neIs, g_eqBs, g_neBs, g_eqI0, g_neI0, g_neT0, g_inB, g_inN, h_ss, h_ss1, h_ssG, h_min, h_tup, h_lst, h_flT, h_flL, h_flB, h_flb, h_fli, h_fln, h_flN, h_flS, h_mapi, h_mapb, h_mapI, h_mapB, h_revI, h_eu, h_eu1, h_eu2, h_r3, h_r31, h_fd, h_fd1, h_fd2, h_fd3, h_fs, h_fs1, h_fs2, h_fs3, h_mk, h_mk1, h_mk2, h_me, h_me1, h_me2, h_me3, h_io, h_eo, h_no, h_eo1, g_eqTs, h_apd0, h_apd1, h_apo0, h_apo1, h_cn, h_cn1, h_cn2, h_pk0, h_pk1, h_pk2, h_nw, h_nw1, e_tu, e_tu1, e_af1, e_af2, e_af3, e_af4, e_wl1, e_wl2, e_lct, e_lct1, e_lct2, e_lct3, e_lct4, e_ni, e_ni1, e_lg1, e_lg2, e_lg3, e_lg4, e_lg5, e_ixw, e_ixw1, e_ixw2, e_ixw3, e_aow, e_aow1, e_aow2, e_aow3, e_zu, e_zu1, e_zu2, e_mulT, e_mxI, e_mnI, e_mxL, e_mnL, e_mxT, e_mnT, e_lgm, e_lgm1, e_lgm2, e_lgm3, e_tupT, e_lstT, e_lgk, e_lgk2, e_lgc, e_lgc2, e_gd1, e_gd2, e_gpl, e_gpl1, e_gnx, e_gsq, e_gsq1, e_gyd, e_gyd1, e_gfr, e_gfr1, e_glp1, e_glpN, ends_some, Int.sub_zero, Int.add_zero, Int.zero_add, and_self, and_true, true_and, and_false, false_and, ne_eq, not_false_eq_true, not_true_eq_false, Bool.or_true, Bool.true_or, Bool.or_false, Bool.false_or, Option.some.injEq, reduceCtorEq, q_dg, q_dg1, q_dg2, q_dg3, q_dg4, q_dn, q_dn1, q_dn2, q_dn3, q_dn4, q_dn5, q_some, q_none, q_isd, q_dh, q_dh1, q_dh2, q_dh3, q_dh4, q_dh5, q_dh6, q_newK, q_newT, q_di, q_di1, q_di2, q_lv, q_lv1, q_lv2, q_lk, q_dp, q_dp1, q_dp2, q_dp3, q_dp4, q_dp5, q_dp6, q_dp7, q_fo, q_fo1, q_fo2, q_kd, q_kt, z_seq, z_seq1, z_seq2, z_seq3, z_seq4, z_seq5, z_if, z_if1, z_if2, z_ls, z_ls1, z_le, z_le1, z_nx, z_rt, z_rt1, z_rt2, z_dr, z_dr1, z_dr2, z_as, z_as1, z_as2, z_as3, z_as4, z_lt, z_lt1, z_lt2, z_lt3, z_lt4, z_so1, z_so2, z_so3, z_ra, z_ra1, z_fo, z_fo1, z_sto, z_sto1, z_put, z_put1, z_ca, z_ca1, z_cd, z_cd1, z_cd2, z_re1, z_re2, z_re3, z_cn, z_cn1, z_cn2, z_cn3, z_me, z_me1, z_me2, z_me3, z_mk, z_mk1, z_mk2, z_mk3, z_rm1, z_rm2, z_xl, z_xc, z_xc1, z_xc2, z_xc3, z_xc4, z_xc5, z_xla, z_xla1, z_cp, z_cp1, z_cp2, z_cp3, z_try, z_try1, z_try2, z_cat, z_catn, z_cat0, z_cat1, z_off1, z_off2, z_fu, z_dx, z_en1, z_en2, z_en3, z_ee2, z_ee3, z_pr, z_pr1, z_pr2, z_vw, z_vw1, z_vw2, z_vw3, z_vw4, z_vw5, z_de, z_de1, z_cs, z_cs1, z_cs2, z_cv, z_cv1, z_cv2, z_cv3, z_cv4, z_us, z_us0, z_ul, z_ut, z_ui, z_ub, z_un, z_uS, z_lv, z_lc, List.append_nil, List.nil_append, List.cons_append, List.mem_cons, List.mem_singleton, List.not_mem_nil, true_or, or_true, or_false, List.map_cons, List.map_nil, z_mx, z_mx1, z_mx2, z_mx3, z_fx, z_fx1, z_fx2, z_fx3, z_rv, z_rv1, z_rv2, z_rv3, z_so, List.take_zero, List.take_succ_cons, List.drop_zero, List.drop_succ_cons, List.take_nil, List.drop_nil]
theorem kinds_turn (c : CA) (dis : Dis c) (t w m : D) (v0 v1 v2 v3 v4 v5 v6 v9 : Sl) (j : Nat) (p : Addr × Str × D) (hp : (exs c t w m)[j]? = some p) (cs : List D) :
    b3_law_x c [v0, v1, v2, v3, v4, v5, v6, .val (.int (j : Int)), .val (encX p), v9, .un, .sto cs] = some (.nx [v0, v1, v2, v3, v4, v5, v6, .val (.int (j : Int)), .val (encX p), v9, .un, .sto cs]) := by
  obtain ⟨C, f, d⟩ := p
  have hj : j < (ES c).length := by
    rw [← exs_ES c t w m, List.length_map]
    exact (List.getElem?_eq_some_iff.mp hp).1
  have hC : C = (ES c)[j] := by
    have : ((exs c t w m).map (·.1))[j]? = some C := by rw [List.getElem?_map, hp]; rfl
    rw [exs_ES] at this
    exact ((List.getElem?_eq_some_iff.mp this).2).symm
  have hm : C ∈ ES c := by rw [hC]; exact List.getElem_mem hj
  have k1 := kinds_eq c f d hm
  rw [show ((ES c).map fun x => decide (x = C) || decide (x = c.EB)) = (List.range 25).map fun (i : Nat) => decide ((0 : Int) + (i : Int) = (j : Int)) from by subst hC; exact apart c dis j hj] at k1
  have k2 := isxB c f d hm
  have k3 := isxV c f d hm
  have k4 := comp_eq (j : Int) v0 v1 v2 v3 v4 v5 v6 (.val (.exc C f d)) v9 cs
  generalize (List.range 25).map (fun (i : Nat) => decide ((0 : Int) + (i : Int) = (j : Int))) = L at k1 k4
  have k5 := g_neBs L L
  rw [decide_eq_true (rfl : L = L)] at k5
  unfold encX
  simp only [b3_law_x, e_var, e_var1, e_var2, e_var3, e_dat, e_der1, e_der2, e_der3, e_sd1, e_sd2, e_sd3, e_op, e_op1, e_op2, e_op3, e_op4, e_un, e_un1, e_un2, e_sol, e_sol1, e_sol2, e_sol3, e_sol4, e_sol5, e_da, e_da1, e_na, e_ca, e_ca1, e_ca2, e_nd, e_cd, e_cd1, e_cd2, e_dn, e_dc, e_dc1, e_cb, e_cb1, e_cb2, e_ls, e_ls1, e_tp, e_tp1, e_np, e_ip, e_ip1, e_sl, e_sl1, e_sl2, e_sl3, e_rv, e_rv1, e_rv2, e_te, e_te1, e_at, e_at1, e_at2, e_ot, e_ot1, e_ot2, e_nt, e_nt1, e_ae, e_ae1, e_ae2, e_oe, e_oe1, e_oe2, e_ne, e_ne1, e_ie, e_ie1, e_ie2, e_ch, e_ch1, e_ch2, e_ch3, e_ch4, e_ch5, e_cl, e_cl1, e_cx, e_cx1, e_cx2, e_cx3, e_cx4, e_cx5, e_cz, e_cz1, e_cz2, e_cz3, e_cz4, e_ro1, e_ro2, e_pl1, e_pl2, e_pl3, e_pl4, e_ld0, e_ld1, e_ld2, e_ld3, e_ld4, e_ld5, e_pb0, e_pb1, e_pb2, e_pb3, e_sq, e_sq1, e_sq2, e_sq3, e_sq4, e_nx, e_rt, e_rt1, e_dp, e_dp1, e_is, e_is1, e_is2, e_as, e_as1, e_as2, e_as3, e_as4, e_st, e_st1, e_st2, e_st3, e_st4, e_st5, e_st6, e_up, e_up1, e_up2, e_pr, e_pr3, e_pr1, e_sa0, e_sa1, e_sa2, e_lt, e_lt1, e_ng, e_tg, e_gn, e_gc, e_gc1, e_fr, e_fr1, e_lp1, e_lp2, e_lp3, e_lp4, e_lp5, e_wh1, e_wh2, e_wh3, e_wh4, e_wh5, e_si, e_si1, e_si2, e_si3, e_r1, e_r11, e_r2, e_r21, e_en, e_en1, e_lc, e_lc1, e_lc2, e_lc3, e_lcn1, e_lcn2, e_lcn3, e_lcn4, e_ye, e_wi0, e_wi1, e_re0, e_re1, e_no0, e_no1, e_ow1, e_ow2, e_df1, e_df2, e_df3, e_rs1, e_rs2, e_rs3, e_rs4, e_rs5, e_ou, e_ou1, e_ou2, e_mu, e_mu1, e_mu6, e_mu2, e_mu3, e_mu4, e_mu5, g_addI, g_addL, g_sub, g_lt, g_le, g_gt, g_ge, g_mod, g_div, g_mulL, g_eqI, g_neI, g_eqB, g_neB, g_eqS, g_ixL, g_ixR, g_ixT, g_ix1, g_lenL, g_lenR, g_lenT, g_intI, g_intB, g_min2, g_max2, g_app, g_slL, g_slT, g_neg, g_atI0, g_atI1, g_atIl, g_ixN0, g_ixN1, g_powM3, g_powM5, g_mulR, List.getElem?_cons_zero, List.getElem?_cons_succ, List.getD_cons_zero, List.getD_cons_succ, List.set_cons_zero, List.set_cons_succ, Bool.and_true, Bool.true_and, Bool.and_false, Bool.false_and, decide_true, decide_false, Bool.not_true, Bool.not_false, List.length_cons, List.length_nil, Nat.reduceAdd, Nat.reduceMul, Nat.reduceSub, Nat.reduceLT, Nat.reduceLeDiff, Nat.reduceEqDiff, Int.reduceAdd, Int.reduceMul, Int.reduceSub, Int.reduceNeg, Int.reduceLT, Int.reduceLE, Int.reduceMod, Int.reduceDiv, Int.reducePow, Int.reduceToNat, Bool.false_eq_true, if_true, if_false, gt_iff_lt, ge_iff_le, g_eqIs, g_neIs, g_eqBs, g_neBs, g_eqI0, g_neI0, g_neT0, g_inB, g_inN, h_ss, h_ss1, h_ssG, h_min, h_tup, h_lst, h_flT, h_flL, h_flB, h_flb, h_fli, h_fln, h_flN, h_flS, h_mapi, h_mapb, h_mapI, h_mapB, h_revI, h_eu, h_eu1, h_eu2, h_r3, h_r31, h_fd, h_fd1, h_fd2, h_fd3, h_fs, h_fs1, h_fs2, h_fs3, h_mk, h_mk1, h_mk2, h_me, h_me1, h_me2, h_me3, h_io, h_eo, h_no, h_eo1, g_eqTs, h_apd0, h_apd1, h_apo0, h_apo1, h_cn, h_cn1, h_cn2, h_pk0, h_pk1, h_pk2, h_nw, h_nw1, e_tu, e_tu1, e_af1, e_af2, e_af3, e_af4, e_wl1, e_wl2, e_lct, e_lct1, e_lct2, e_lct3, e_lct4, e_ni, e_ni1, e_lg1, e_lg2, e_lg3, e_lg4, e_lg5, e_ixw, e_ixw1, e_ixw2, e_ixw3, e_aow, e_aow1, e_aow2, e_aow3, e_zu, e_zu1, e_zu2, e_mulT, e_mxI, e_mnI, e_mxL, e_mnL, e_mxT, e_mnT, e_lgm, e_lgm1, e_lgm2, e_lgm3, e_tupT, e_lstT, e_lgk, e_lgk2, e_lgc, e_lgc2, e_gd1, e_gd2, e_gpl, e_gpl1, e_gnx, e_gsq, e_gsq1, e_gyd, e_gyd1, e_gfr, e_gfr1, e_glp1, e_glpN, ends_some, Int.sub_zero, Int.add_zero, Int.zero_add, and_self, and_true, true_and, and_false, false_and, ne_eq, not_false_eq_true, not_true_eq_false, Bool.or_true, Bool.true_or, Bool.or_false, Bool.false_or, Option.some.injEq, reduceCtorEq, q_dg, q_dg1, q_dg2, q_dg3, q_dg4, q_dn, q_dn1, q_dn2, q_dn3, q_dn4, q_dn5, q_some, q_none, q_isd, q_dh, q_dh1, q_dh2, q_dh3, q_dh4, q_dh5, q_dh6, q_newK, q_newT, q_di, q_di1, q_di2, q_lv, q_lv1, q_lv2, q_lk, q_dp, q_dp1, q_dp2, q_dp3, q_dp4, q_dp5, q_dp6, q_dp7, q_fo, q_fo1, q_fo2, q_kd, q_kt, z_seq, z_seq1, z_seq2, z_seq3, z_seq4, z_seq5, z_if, z_if1, z_if2, z_ls, z_ls1, z_le, z_le1, z_nx, z_rt, z_rt1, z_rt2, z_dr, z_dr1, z_dr2, z_as, z_as1, z_as2, z_as3, z_as4, z_lt, z_lt1, z_lt2, z_lt3, z_lt4, z_so1, z_so2, z_so3, z_ra, z_ra1, z_fo, z_fo1, z_sto, z_sto1, z_put, z_put1, z_ca, z_ca1, z_cd, z_cd1, z_cd2, z_re1, z_re2, z_re3, z_cn, z_cn1, z_cn2, z_cn3, z_me, z_me1, z_me2, z_me3, z_mk, z_mk1, z_mk2, z_mk3, z_rm1, z_rm2, z_xl, z_xc, z_xc1, z_xc2, z_xc3, z_xc4, z_xc5, z_xla, z_xla1, z_cp, z_cp1, z_cp2, z_cp3, z_try, z_try1, z_try2, z_cat, z_catn, z_cat0, z_cat1, z_off1, z_off2, z_fu, z_dx, z_en1, z_en2, z_en3, z_ee2, z_ee3, z_pr, z_pr1, z_pr2, z_vw, z_vw1, z_vw2, z_vw3, z_vw4, z_vw5, z_de, z_de1, z_cs, z_cs1, z_cs2, z_cv, z_cv1, z_cv2, z_cv3, z_cv4, z_us, z_us0, z_ul, z_ut, z_ui, z_ub, z_un, z_uS, z_lv, z_lc, List.append_nil, List.nil_append, List.cons_append, List.mem_cons, List.mem_singleton, List.not_mem_nil, true_or, or_true, or_false, List.map_cons, List.map_nil, z_mx, z_mx1, z_mx2, z_mx3, z_fx, z_fx1, z_fx2, z_fx3, z_rv, z_rv1, z_rv2, z_rv3, z_so, List.take_zero, List.take_succ_cons, List.drop_zero, List.drop_succ_cons, List.take_nil, List.drop_nil, k1, k2, k3, k4, k5, Bool.not_true, Bool.not_false, Int.reduceLT, Int.reduceLE, Nat.reduceLeDiff]
end PL

namespace PL
open PySem PySem.Spec PyProof.Rows L2 DV

theorem neS {a b : Str} : neG (.str a) (.str b) = some (.dat (.bl (!decide (a = b)))) := by
  show some (O.dat (.bl (!decide (V.str a = V.str b)))) = _
  simp
end PL

namespace PL
open PySem PySem.Spec PyProof.Rows L2 DV

/-! K91C: a list of errors; a number of the script; the law. -/
def TC (n : Nat) (d : D) : Prop := (∃ xs, d = .lst xs ∧ xs.length ≤ 2 + n ∧ Rzs (400 + 200 * n) 2 xs) ∨ d = .dic [.inr "a"] [.int 1]
theorem rz_da : Rz 1000 3 (.dic [.inr "a"] [.int 1]) := ⟨.dict [(.str "a", .int 1)], rfl, by decide +kernel, by decide +kernel, by decide +kernel, by decide +kernel⟩
theorem tc_rz {n : Nat} {d : D} (h : TC n d) (hn : n ≤ 2) : Rz 1000 3 d := by
  rcases h with ⟨xs, rfl, _, h⟩ | rfl
  · exact rz_up (rz_lst h) (by omega) (by omega)
  · exact rz_da
theorem due_repr {A : D} (h : Rz 1000 3 A) {w : Str} (hw : w.cps.toList.all (fun c => decide (c < 16 ^ 8)) = true) (hw2 : w.cps.size ≤ 100) {m : Int} (hm : 0 ≤ m ∧ m < 40) : ∃ y, reprXG [.lst (dvL A (.str w) (.int m))] = some (.dat (.str y)) := by
  have w1 := fun k => rz_up (rz_str hw k) hw2 (Nat.le_refl k)
  have m1 := rz_int (i := m) (by omega) 4
  have A1 := rz_up h (Nat.le_refl _) (show 3 ≤ 4 by omega)
  have z := rzs_nil 4
  have m9 := rzs_cons m1 (rzs_cons m1 (rzs_cons m1 (rzs_cons m1 (rzs_cons m1 (rzs_cons m1 (rzs_cons m1 (rzs_cons m1 (rzs_cons m1 (rzs_cons A1 z)))))))))
  have w4 := rzs_cons A1 (rzs_cons A1 (rzs_cons (w1 4) (rzs_cons A1 (rzs_cons (w1 4) m9))))
  have t3 := rzs_cons (rz_tup (rzs_cons h (rzs_cons (w1 3) (rzs_cons (w1 3) (rzs_nil 3))))) w4
  have a9 := rzs_cons A1 (rzs_cons A1 (rzs_cons A1 (rzs_cons A1 (rzs_cons A1 (rzs_cons A1 (rzs_cons A1 (rzs_cons A1 (rzs_cons A1 t3))))))))
  exact rz_repr (w := 100000) (k := 5) (rz_up (rz_lst a9) (Nat.le_of_ble_eq_true (by rfl)) (Nat.le_of_ble_eq_true (by rfl))) (by omega) (by omega)
theorem unc_due (cs : List D) (k : Nat) (A : D) (w : Str) (m : Int) (h : cs[k]? = some A) : uncs cs [.lst (dvL (.cel k) (.str w) (.int m))] = [.lst (dvL A (.str w) (.int m))] := by
  have e : cs.getD k .non = A := by rw [List.getD_eq_getElem?_getD, h]; rfl
  simp only [dvL, uncs, unc, e]
theorem neSS (y : Str) : neG (.str y) (.str y) = some (.dat (.bl false)) := neS.trans (by rw [decide_eq_true rfl]; rfl)
theorem errs_turn (c : CA) (dis : Dis c) (k n : Nat) (hn : n ≤ 1) (w : Str) (hw : w.cps.toList.all (fun c => decide (c < 16 ^ 8)) = true) (hw2 : w.cps.size ≤ 100) (m : Int) (hm : 0 ≤ m ∧ m < 40) (v0 v1 v2 v7 v8 v9 : Sl) (cs : List D) (A : D) (hk : cs[k]? = some A) (hA : TC n A) :
    ∃ (w7 w8 w9 : Sl) (cs' : List D) (A' : D), cs'.length = cs.length ∧ cs'[k]? = some A' ∧ TC (n + 1) A' ∧
      b4_law_x c [v0, v1, v2, .val (.cel k), .val (.str w), .val (.int m), .val (.lst (evL c (.cel k) (.str w) (.int m))), v7, v8, v9, .un, .sto cs] = some (.nx [v0, v1, v2, .val (.cel k), .val (.str w), .val (.int m), .val (.lst (evL c (.cel k) (.str w) (.int m))), w7, w8, w9, .un, .sto cs']) := by
  obtain ⟨fl, e1, w7, w8, rfl⟩ := loop_enum (g := tupG 2 (consG (nameG 7) (consG (nameG 8) nilG))) (b := b3_law_x c) encX (exs c (.cel k) (.str w) (.int m))
    (fun _ δ => ∃ (w7 w8 : Sl), δ = [v0, v1, v2, .val (.cel k), .val (.str w), .val (.int m), .val (.lst (evL c (.cel k) (.str w) (.int m))), w7, w8, v9, .un, .sto cs])
    (fun fl => ∃ (w7 w8 : Sl), fl = .nx [v0, v1, v2, .val (.cel k), .val (.str w), .val (.int m), .val (.lst (evL c (.cel k) (.str w) (.int m))), w7, w8, v9, .un, .sto cs])
    [v0, v1, v2, .val (.cel k), .val (.str w), .val (.int m), .val (.lst (evL c (.cel k) (.str w) (.int m))), v7, v8, v9, .un, .sto cs] ⟨_, _, rfl⟩
    (fun i x δ hi ⟨w7, w8, hδ⟩ => by
      subst hδ
      have q := kinds_turn c dis (.cel k) (.str w) (.int m) v0 v1 v2 (.val (.cel k)) (.val (.str w)) (.val (.int m)) (.val (.lst (evL c (.cel k) (.str w) (.int m)))) v9 i x hi cs
      simp only [e_tu, e_var, e_var1, e_var2, e_var3, e_dat, e_der1, e_der2, e_der3, e_sd1, e_sd2, e_sd3, e_op, e_op1, e_op2, e_op3, e_op4, e_un, e_un1, e_un2, e_sol, e_sol1, e_sol2, e_sol3, e_sol4, e_sol5, e_da, e_da1, e_na, e_ca, e_ca1, e_ca2, e_nd, e_cd, e_cd1, e_cd2, e_dn, e_dc, e_dc1, e_cb, e_cb1, e_cb2, e_ls, e_ls1, e_tp, e_tp1, e_np, e_ip, e_ip1, e_sl, e_sl1, e_sl2, e_sl3, e_rv, e_rv1, e_rv2, e_te, e_te1, e_at, e_at1, e_at2, e_ot, e_ot1, e_ot2, e_nt, e_nt1, e_ae, e_ae1, e_ae2, e_oe, e_oe1, e_oe2, e_ne, e_ne1, e_ie, e_ie1, e_ie2, e_ch, e_ch1, e_ch2, e_ch3, e_ch4, e_ch5, e_cl, e_cl1, e_cx, e_cx1, e_cx2, e_cx3, e_cx4, e_cx5, e_cz, e_cz1, e_cz2, e_cz3, e_cz4, e_ro1, e_ro2, e_pl1, e_pl2, e_pl3, e_pl4, e_ld0, e_ld1, e_ld2, e_ld3, e_ld4, e_ld5, e_pb0, e_pb1, e_pb2, e_pb3, e_sq, e_sq1, e_sq2, e_sq3, e_sq4, e_nx, e_rt, e_rt1, e_dp, e_dp1, e_is, e_is1, e_is2, e_as, e_as1, e_as2, e_as3, e_as4, e_st, e_st1, e_st2, e_st3, e_st4, e_st5, e_st6, e_up, e_up1, e_up2, e_pr, e_pr3, e_pr1, e_sa0, e_sa1, e_sa2, e_lt, e_lt1, e_ng, e_tg, e_gn, e_gc, e_gc1, e_fr, e_fr1, e_lp1, e_lp2, e_lp3, e_lp4, e_lp5, e_wh1, e_wh2, e_wh3, e_wh4, e_wh5, e_si, e_si1, e_si2, e_si3, e_r1, e_r11, e_r2, e_r21, e_en, e_en1, e_lc, e_lc1, e_lc2, e_lc3, e_lcn1, e_lcn2, e_lcn3, e_lcn4, e_ye, e_wi0, e_wi1, e_re0, e_re1, e_no0, e_no1, e_ow1, e_ow2, e_df1, e_df2, e_df3, e_rs1, e_rs2, e_rs3, e_rs4, e_rs5, e_ou, e_ou1, e_ou2, e_mu, e_mu1, e_mu6, e_mu2, e_mu3, e_mu4, e_mu5, g_addI, g_addL, g_sub, g_lt, g_le, g_gt, g_ge, g_mod, g_div, g_mulL, g_eqI, g_neI, g_eqB, g_neB, g_eqS, g_ixL, g_ixR, g_ixT, g_ix1, g_lenL, g_lenR, g_lenT, g_intI, g_intB, g_min2, g_max2, g_app, g_slL, g_slT, g_neg, g_atI0, g_atI1, g_atIl, g_ixN0, g_ixN1, g_powM3, g_powM5, g_mulR, List.getElem?_cons_zero, List.getElem?_cons_succ, List.getD_cons_zero, List.getD_cons_succ, List.set_cons_zero, List.set_cons_succ, Bool.and_true, Bool.true_and, Bool.and_false, Bool.false_and, decide_true, decide_false, Bool.not_true, Bool.not_false, List.length_cons, List.length_nil, Nat.reduceAdd, Nat.reduceMul, Nat.reduceSub, Nat.reduceLT, Nat.reduceLeDiff, Nat.reduceEqDiff, Int.reduceAdd, Int.reduceMul, Int.reduceSub, Int.reduceNeg, Int.reduceLT, Int.reduceLE, Int.reduceMod, Int.reduceDiv, Int.reducePow, Int.reduceToNat, Bool.false_eq_true, if_true, if_false, gt_iff_lt, ge_iff_le, g_eqIs, g_neIs, g_eqBs, g_neBs, g_eqI0, g_neI0, g_neT0, g_inB, g_inN, h_ss, h_ss1, h_ssG, h_min, h_tup, h_lst, h_flT, h_flL, h_flB, h_flb, h_fli, h_fln, h_flN, h_flS, h_mapi, h_mapb, h_mapI, h_mapB, h_revI, h_eu, h_eu1, h_eu2, h_r3, h_r31, h_fd, h_fd1, h_fd2, h_fd3, h_fs, h_fs1, h_fs2, h_fs3, h_mk, h_mk1, h_mk2, h_me, h_me1, h_me2, h_me3, h_io, h_eo, h_no, h_eo1, g_eqTs, h_apd0, h_apd1, h_apo0, h_apo1, h_cn, h_cn1, h_cn2, h_pk0, h_pk1, h_pk2, h_nw, h_nw1, e_tu, e_tu1, e_af1, e_af2, e_af3, e_af4, e_wl1, e_wl2, e_lct, e_lct1, e_lct2, e_lct3, e_lct4, e_ni, e_ni1, e_lg1, e_lg2, e_lg3, e_lg4, e_lg5, e_ixw, e_ixw1, e_ixw2, e_ixw3, e_aow, e_aow1, e_aow2, e_aow3, e_zu, e_zu1, e_zu2, e_mulT, e_mxI, e_mnI, e_mxL, e_mnL, e_mxT, e_mnT, e_lgm, e_lgm1, e_lgm2, e_lgm3, e_tupT, e_lstT, e_lgk, e_lgk2, e_lgc, e_lgc2, e_gd1, e_gd2, e_gpl, e_gpl1, e_gnx, e_gsq, e_gsq1, e_gyd, e_gyd1, e_gfr, e_gfr1, e_glp1, e_glpN, ends_some, Int.sub_zero, Int.add_zero, Int.zero_add, and_self, and_true, true_and, and_false, false_and, ne_eq, not_false_eq_true, not_true_eq_false, Bool.or_true, Bool.true_or, Bool.or_false, Bool.false_or, Option.some.injEq, reduceCtorEq, q_dg, q_dg1, q_dg2, q_dg3, q_dg4, q_dn, q_dn1, q_dn2, q_dn3, q_dn4, q_dn5, q_some, q_none, q_isd, q_dh, q_dh1, q_dh2, q_dh3, q_dh4, q_dh5, q_dh6, q_newK, q_newT, q_di, q_di1, q_di2, q_lv, q_lv1, q_lv2, q_lk, q_dp, q_dp1, q_dp2, q_dp3, q_dp4, q_dp5, q_dp6, q_dp7, q_fo, q_fo1, q_fo2, q_kd, q_kt, z_seq, z_seq1, z_seq2, z_seq3, z_seq4, z_seq5, z_if, z_if1, z_if2, z_ls, z_ls1, z_le, z_le1, z_nx, z_rt, z_rt1, z_rt2, z_dr, z_dr1, z_dr2, z_as, z_as1, z_as2, z_as3, z_as4, z_lt, z_lt1, z_lt2, z_lt3, z_lt4, z_so1, z_so2, z_so3, z_ra, z_ra1, z_fo, z_fo1, z_sto, z_sto1, z_put, z_put1, z_ca, z_ca1, z_cd, z_cd1, z_cd2, z_re1, z_re2, z_re3, z_cn, z_cn1, z_cn2, z_cn3, z_me, z_me1, z_me2, z_me3, z_mk, z_mk1, z_mk2, z_mk3, z_rm1, z_rm2, z_xl, z_xc, z_xc1, z_xc2, z_xc3, z_xc4, z_xc5, z_xla, z_xla1, z_cp, z_cp1, z_cp2, z_cp3, z_try, z_try1, z_try2, z_cat, z_catn, z_cat0, z_cat1, z_off1, z_off2, z_fu, z_dx, z_en1, z_en2, z_en3, z_ee2, z_ee3, z_pr, z_pr1, z_pr2, z_vw, z_vw1, z_vw2, z_vw3, z_vw4, z_vw5, z_de, z_de1, z_cs, z_cs1, z_cs2, z_cv, z_cv1, z_cv2, z_cv3, z_cv4, z_us, z_us0, z_ul, z_ut, z_ui, z_ub, z_un, z_uS, z_lv, z_lc, List.append_nil, List.nil_append, List.cons_append, List.mem_cons, List.mem_singleton, List.not_mem_nil, true_or, or_true, or_false, List.map_cons, List.map_nil, z_mx, z_mx1, z_mx2, z_mx3, z_fx, z_fx1, z_fx2, z_fx3, z_rv, z_rv1, z_rv2, z_rv3, z_so, List.take_zero, List.take_succ_cons, List.drop_zero, List.drop_succ_cons, List.take_nil, List.drop_nil]
      rw [q, ends_some, e_af1]
      exact ⟨_, _, rfl⟩)
    (fun δ ⟨w7, w8, hδ⟩ => ⟨w7, w8, by rw [hδ]⟩)
  rw [exs_ev] at e1
  have hkl : k < cs.length := (List.getElem?_eq_some_iff.mp hk).1
  have hst := stored_eq c (.cel k) (.str w) (.int m)
  have hfin : ∀ t w m : D, ((List.replicate 9 t ++ [D.tup [t, w, w], t, t, w, t, w]) ++ List.replicate 9 m) ++ [t] = dvL t w m := fun t w m => rfl
  rcases hA with ⟨xs, rfl, hx, hA⟩ | rfl
  · have hA' : TC (n + 1) (.lst (xs ++ [.int 0])) := .inl ⟨_, rfl, (by rw [List.length_append, List.length_singleton]; omega), rzs_up (rzs_app hA (rzs_cons (rz_int (i := 0) (by decide) 2) (rzs_nil 2))) (by omega) (by omega)⟩
    obtain ⟨c2, hc2⟩ : ∃ c2 : List D, c2 = cs.set k (.lst (xs ++ [.int 0])) := ⟨_, rfl⟩
    have hk2 : c2[k]? = some (.lst (xs ++ [.int 0])) := by rw [hc2, List.getElem?_set_self hkl]
    obtain ⟨y, hy⟩ := due_repr (tc_rz hA' (by omega)) hw hw2 hm
    have hu := unc_due c2 k _ w m hk2
    have i1 : isYG [.lst xs, .con (.ty "list")] = some (.dat (.bl true)) := rfl
    have ap : appG (.lst xs) [.int 0] = some (.lst (xs ++ [.int 0]), .non) := by unfold appG; dsimp only; rw [if_pos (Nat.lt_of_le_of_lt (show xs.length ≤ 10 by omega) (by decide))]
    have mE : ∀ (v0 v1 v2 v4 v5 v6 v7 v8 v9 v10 : Sl), mutCE isLst appG (varE 3) (consD (solidE (datC (.int 0))) nilD) [v0, v1, v2, .val (.cel k), v4, v5, v6, v7, v8, v9, v10, .sto cs] = some (.dat .non, [v0, v1, v2, .val (.cel k), v4, v5, v6, v7, v8, v9, v10, .sto c2]) := fun v0 v1 v2 v4 v5 v6 v7 v8 v9 v10 => by
      have q1 : varE 3 [v0, v1, v2, .val (.cel k), v4, v5, v6, v7, v8, v9, v10, .sto cs] = some (.dat (.cel k), [v0, v1, v2, .val (.cel k), v4, v5, v6, v7, v8, v9, v10, .sto cs]) := rfl
      have q2 : consD (solidE (datC (.int 0))) nilD [v0, v1, v2, .val (.cel k), v4, v5, v6, v7, v8, v9, v10, .sto cs] = some ([.int 0], [v0, v1, v2, .val (.cel k), v4, v5, v6, v7, v8, v9, v10, .sto cs]) := rfl
      have q3 : stoOf [v0, v1, v2, .val (.cel k), v4, v5, v6, v7, v8, v9, v10, .sto cs] = some cs := rfl
      unfold mutCE
      rw [q1]
      dsimp only
      rw [q2]
      dsimp only
      rw [q3]
      dsimp only
      rw [hk]
      dsimp only
      rw [if_pos (show isLst (D.lst xs) = true from rfl), ap]
      dsimp only
      rw [← hc2]; rfl
    refine ⟨w7, w8, .val (.lst (dvL (.cel k) (.str w) (.int m))), c2, _, by rw [hc2, List.length_set], hk2, hA', ?_⟩
    simp only [b4_law_x, e_var, e_var1, e_var2, e_var3, e_dat, e_der1, e_der2, e_der3, e_sd1, e_sd2, e_sd3, e_op, e_op1, e_op2, e_op3, e_op4, e_un, e_un1, e_un2, e_sol, e_sol1, e_sol2, e_sol3, e_sol4, e_sol5, e_da, e_da1, e_na, e_ca, e_ca1, e_ca2, e_nd, e_cd, e_cd1, e_cd2, e_dn, e_dc, e_dc1, e_cb, e_cb1, e_cb2, e_ls, e_ls1, e_tp, e_tp1, e_np, e_ip, e_ip1, e_sl, e_sl1, e_sl2, e_sl3, e_rv, e_rv1, e_rv2, e_te, e_te1, e_at, e_at1, e_at2, e_ot, e_ot1, e_ot2, e_nt, e_nt1, e_ae, e_ae1, e_ae2, e_oe, e_oe1, e_oe2, e_ne, e_ne1, e_ie, e_ie1, e_ie2, e_ch, e_ch1, e_ch2, e_ch3, e_ch4, e_ch5, e_cl, e_cl1, e_cx, e_cx1, e_cx2, e_cx3, e_cx4, e_cx5, e_cz, e_cz1, e_cz2, e_cz3, e_cz4, e_ro1, e_ro2, e_pl1, e_pl2, e_pl3, e_pl4, e_ld0, e_ld1, e_ld2, e_ld3, e_ld4, e_ld5, e_pb0, e_pb1, e_pb2, e_pb3, e_sq, e_sq1, e_sq2, e_sq3, e_sq4, e_nx, e_rt, e_rt1, e_dp, e_dp1, e_is, e_is1, e_is2, e_as, e_as1, e_as2, e_as3, e_as4, e_st, e_st1, e_st2, e_st3, e_st4, e_st5, e_st6, e_up, e_up1, e_up2, e_pr, e_pr3, e_pr1, e_sa0, e_sa1, e_sa2, e_lt, e_lt1, e_ng, e_tg, e_gn, e_gc, e_gc1, e_fr, e_fr1, e_lp1, e_lp2, e_lp3, e_lp4, e_lp5, e_wh1, e_wh2, e_wh3, e_wh4, e_wh5, e_si, e_si1, e_si2, e_si3, e_r1, e_r11, e_r2, e_r21, e_en, e_en1, e_lc, e_lc1, e_lc2, e_lc3, e_lcn1, e_lcn2, e_lcn3, e_lcn4, e_ye, e_wi0, e_wi1, e_re0, e_re1, e_no0, e_no1, e_ow1, e_ow2, e_df1, e_df2, e_df3, e_rs1, e_rs2, e_rs3, e_rs4, e_rs5, e_ou, e_ou1, e_ou2, e_mu, e_mu1, e_mu6, e_mu2, e_mu3, e_mu4, e_mu5, g_addI, g_addL, g_sub, g_lt, g_le, g_gt, g_ge, g_mod, g_div, g_mulL, g_eqI, g_neI, g_eqB, g_neB, g_eqS, g_ixL, g_ixR, g_ixT, g_ix1, g_lenL, g_lenR, g_lenT, g_intI, g_intB, g_min2, g_max2, g_app, g_slL, g_slT, g_neg, g_atI0, g_atI1, g_atIl, g_ixN0, g_ixN1, g_powM3, g_powM5, g_mulR, List.getElem?_cons_zero, List.getElem?_cons_succ, List.getD_cons_zero, List.getD_cons_succ, List.set_cons_zero, List.set_cons_succ, Bool.and_true, Bool.true_and, Bool.and_false, Bool.false_and, decide_true, decide_false, Bool.not_true, Bool.not_false, List.length_cons, List.length_nil, Nat.reduceAdd, Nat.reduceMul, Nat.reduceSub, Nat.reduceLT, Nat.reduceLeDiff, Nat.reduceEqDiff, Int.reduceAdd, Int.reduceMul, Int.reduceSub, Int.reduceNeg, Int.reduceLT, Int.reduceLE, Int.reduceMod, Int.reduceDiv, Int.reducePow, Int.reduceToNat, Bool.false_eq_true, if_true, if_false, gt_iff_lt, ge_iff_le, g_eqIs, g_neIs, g_eqBs, g_neBs, g_eqI0, g_neI0, g_neT0, g_inB, g_inN, h_ss, h_ss1, h_ssG, h_min, h_tup, h_lst, h_flT, h_flL, h_flB, h_flb, h_fli, h_fln, h_flN, h_flS, h_mapi, h_mapb, h_mapI, h_mapB, h_revI, h_eu, h_eu1, h_eu2, h_r3, h_r31, h_fd, h_fd1, h_fd2, h_fd3, h_fs, h_fs1, h_fs2, h_fs3, h_mk, h_mk1, h_mk2, h_me, h_me1, h_me2, h_me3, h_io, h_eo, h_no, h_eo1, g_eqTs, h_apd0, h_apd1, h_apo0, h_apo1, h_cn, h_cn1, h_cn2, h_pk0, h_pk1, h_pk2, h_nw, h_nw1, e_tu, e_tu1, e_af1, e_af2, e_af3, e_af4, e_wl1, e_wl2, e_lct, e_lct1, e_lct2, e_lct3, e_lct4, e_ni, e_ni1, e_lg1, e_lg2, e_lg3, e_lg4, e_lg5, e_ixw, e_ixw1, e_ixw2, e_ixw3, e_aow, e_aow1, e_aow2, e_aow3, e_zu, e_zu1, e_zu2, e_mulT, e_mxI, e_mnI, e_mxL, e_mnL, e_mxT, e_mnT, e_lgm, e_lgm1, e_lgm2, e_lgm3, e_tupT, e_lstT, e_lgk, e_lgk2, e_lgc, e_lgc2, e_gd1, e_gd2, e_gpl, e_gpl1, e_gnx, e_gsq, e_gsq1, e_gyd, e_gyd1, e_gfr, e_gfr1, e_glp1, e_glpN, ends_some, Int.sub_zero, Int.add_zero, Int.zero_add, and_self, and_true, true_and, and_false, false_and, ne_eq, not_false_eq_true, not_true_eq_false, Bool.or_true, Bool.true_or, Bool.or_false, Bool.false_or, Option.some.injEq, reduceCtorEq, q_dg, q_dg1, q_dg2, q_dg3, q_dg4, q_dn, q_dn1, q_dn2, q_dn3, q_dn4, q_dn5, q_some, q_none, q_isd, q_dh, q_dh1, q_dh2, q_dh3, q_dh4, q_dh5, q_dh6, q_newK, q_newT, q_di, q_di1, q_di2, q_lv, q_lv1, q_lv2, q_lk, q_dp, q_dp1, q_dp2, q_dp3, q_dp4, q_dp5, q_dp6, q_dp7, q_fo, q_fo1, q_fo2, q_kd, q_kt, z_seq, z_seq1, z_seq2, z_seq3, z_seq4, z_seq5, z_if, z_if1, z_if2, z_ls, z_ls1, z_le, z_le1, z_nx, z_rt, z_rt1, z_rt2, z_dr, z_dr1, z_dr2, z_as, z_as1, z_as2, z_as3, z_as4, z_lt, z_lt1, z_lt2, z_lt3, z_lt4, z_so1, z_so2, z_so3, z_ra, z_ra1, z_fo, z_fo1, z_sto, z_sto1, z_put, z_put1, z_ca, z_ca1, z_cd, z_cd1, z_cd2, z_re1, z_re2, z_re3, z_cn, z_cn1, z_cn2, z_cn3, z_me, z_me1, z_me2, z_me3, z_mk, z_mk1, z_mk2, z_mk3, z_rm1, z_rm2, z_xl, z_xc, z_xc1, z_xc2, z_xc3, z_xc4, z_xc5, z_xla, z_xla1, z_cp, z_cp1, z_cp2, z_cp3, z_try, z_try1, z_try2, z_cat, z_catn, z_cat0, z_cat1, z_off1, z_off2, z_fu, z_dx, z_en1, z_en2, z_en3, z_ee2, z_ee3, z_pr, z_pr1, z_pr2, z_vw, z_vw1, z_vw2, z_vw3, z_vw4, z_vw5, z_de, z_de1, z_cs, z_cs1, z_cs2, z_cv, z_cv1, z_cv2, z_cv3, z_cv4, z_us, z_us0, z_ul, z_ut, z_ui, z_ub, z_un, z_uS, z_lv, z_lc, List.append_nil, List.nil_append, List.cons_append, List.mem_cons, List.mem_singleton, List.not_mem_nil, true_or, or_true, or_false, List.map_cons, List.map_nil, z_mx, z_mx1, z_mx2, z_mx3, z_fx, z_fx1, z_fx2, z_fx3, z_rv, z_rv1, z_rv2, z_rv3, z_so, List.take_zero, List.take_succ_cons, List.drop_zero, List.drop_succ_cons, List.take_nil, List.drop_nil, e1, hk, i1, mE, hst, hu, hy, neSS, List.length_replicate, List.length_cons, List.length_nil, List.length_append, Nat.reduceAdd, Nat.reduceLeDiff, hfin]
  · obtain ⟨y, hy⟩ := due_repr rz_da hw hw2 hm
    have hu := unc_due cs k _ w m hk
    have i1 : isYG [.dic [.inr "a"] [.int 1], .con (.ty "list")] = some (.dat (.bl false)) := rfl
    refine ⟨w7, w8, .val (.lst (dvL (.cel k) (.str w) (.int m))), cs, _, rfl, hk, .inr rfl, ?_⟩
    simp only [b4_law_x, e_var, e_var1, e_var2, e_var3, e_dat, e_der1, e_der2, e_der3, e_sd1, e_sd2, e_sd3, e_op, e_op1, e_op2, e_op3, e_op4, e_un, e_un1, e_un2, e_sol, e_sol1, e_sol2, e_sol3, e_sol4, e_sol5, e_da, e_da1, e_na, e_ca, e_ca1, e_ca2, e_nd, e_cd, e_cd1, e_cd2, e_dn, e_dc, e_dc1, e_cb, e_cb1, e_cb2, e_ls, e_ls1, e_tp, e_tp1, e_np, e_ip, e_ip1, e_sl, e_sl1, e_sl2, e_sl3, e_rv, e_rv1, e_rv2, e_te, e_te1, e_at, e_at1, e_at2, e_ot, e_ot1, e_ot2, e_nt, e_nt1, e_ae, e_ae1, e_ae2, e_oe, e_oe1, e_oe2, e_ne, e_ne1, e_ie, e_ie1, e_ie2, e_ch, e_ch1, e_ch2, e_ch3, e_ch4, e_ch5, e_cl, e_cl1, e_cx, e_cx1, e_cx2, e_cx3, e_cx4, e_cx5, e_cz, e_cz1, e_cz2, e_cz3, e_cz4, e_ro1, e_ro2, e_pl1, e_pl2, e_pl3, e_pl4, e_ld0, e_ld1, e_ld2, e_ld3, e_ld4, e_ld5, e_pb0, e_pb1, e_pb2, e_pb3, e_sq, e_sq1, e_sq2, e_sq3, e_sq4, e_nx, e_rt, e_rt1, e_dp, e_dp1, e_is, e_is1, e_is2, e_as, e_as1, e_as2, e_as3, e_as4, e_st, e_st1, e_st2, e_st3, e_st4, e_st5, e_st6, e_up, e_up1, e_up2, e_pr, e_pr3, e_pr1, e_sa0, e_sa1, e_sa2, e_lt, e_lt1, e_ng, e_tg, e_gn, e_gc, e_gc1, e_fr, e_fr1, e_lp1, e_lp2, e_lp3, e_lp4, e_lp5, e_wh1, e_wh2, e_wh3, e_wh4, e_wh5, e_si, e_si1, e_si2, e_si3, e_r1, e_r11, e_r2, e_r21, e_en, e_en1, e_lc, e_lc1, e_lc2, e_lc3, e_lcn1, e_lcn2, e_lcn3, e_lcn4, e_ye, e_wi0, e_wi1, e_re0, e_re1, e_no0, e_no1, e_ow1, e_ow2, e_df1, e_df2, e_df3, e_rs1, e_rs2, e_rs3, e_rs4, e_rs5, e_ou, e_ou1, e_ou2, e_mu, e_mu1, e_mu6, e_mu2, e_mu3, e_mu4, e_mu5, g_addI, g_addL, g_sub, g_lt, g_le, g_gt, g_ge, g_mod, g_div, g_mulL, g_eqI, g_neI, g_eqB, g_neB, g_eqS, g_ixL, g_ixR, g_ixT, g_ix1, g_lenL, g_lenR, g_lenT, g_intI, g_intB, g_min2, g_max2, g_app, g_slL, g_slT, g_neg, g_atI0, g_atI1, g_atIl, g_ixN0, g_ixN1, g_powM3, g_powM5, g_mulR, List.getElem?_cons_zero, List.getElem?_cons_succ, List.getD_cons_zero, List.getD_cons_succ, List.set_cons_zero, List.set_cons_succ, Bool.and_true, Bool.true_and, Bool.and_false, Bool.false_and, decide_true, decide_false, Bool.not_true, Bool.not_false, List.length_cons, List.length_nil, Nat.reduceAdd, Nat.reduceMul, Nat.reduceSub, Nat.reduceLT, Nat.reduceLeDiff, Nat.reduceEqDiff, Int.reduceAdd, Int.reduceMul, Int.reduceSub, Int.reduceNeg, Int.reduceLT, Int.reduceLE, Int.reduceMod, Int.reduceDiv, Int.reducePow, Int.reduceToNat, Bool.false_eq_true, if_true, if_false, gt_iff_lt, ge_iff_le, g_eqIs, g_neIs, g_eqBs, g_neBs, g_eqI0, g_neI0, g_neT0, g_inB, g_inN, h_ss, h_ss1, h_ssG, h_min, h_tup, h_lst, h_flT, h_flL, h_flB, h_flb, h_fli, h_fln, h_flN, h_flS, h_mapi, h_mapb, h_mapI, h_mapB, h_revI, h_eu, h_eu1, h_eu2, h_r3, h_r31, h_fd, h_fd1, h_fd2, h_fd3, h_fs, h_fs1, h_fs2, h_fs3, h_mk, h_mk1, h_mk2, h_me, h_me1, h_me2, h_me3, h_io, h_eo, h_no, h_eo1, g_eqTs, h_apd0, h_apd1, h_apo0, h_apo1, h_cn, h_cn1, h_cn2, h_pk0, h_pk1, h_pk2, h_nw, h_nw1, e_tu, e_tu1, e_af1, e_af2, e_af3, e_af4, e_wl1, e_wl2, e_lct, e_lct1, e_lct2, e_lct3, e_lct4, e_ni, e_ni1, e_lg1, e_lg2, e_lg3, e_lg4, e_lg5, e_ixw, e_ixw1, e_ixw2, e_ixw3, e_aow, e_aow1, e_aow2, e_aow3, e_zu, e_zu1, e_zu2, e_mulT, e_mxI, e_mnI, e_mxL, e_mnL, e_mxT, e_mnT, e_lgm, e_lgm1, e_lgm2, e_lgm3, e_tupT, e_lstT, e_lgk, e_lgk2, e_lgc, e_lgc2, e_gd1, e_gd2, e_gpl, e_gpl1, e_gnx, e_gsq, e_gsq1, e_gyd, e_gyd1, e_gfr, e_gfr1, e_glp1, e_glpN, ends_some, Int.sub_zero, Int.add_zero, Int.zero_add, and_self, and_true, true_and, and_false, false_and, ne_eq, not_false_eq_true, not_true_eq_false, Bool.or_true, Bool.true_or, Bool.or_false, Bool.false_or, Option.some.injEq, reduceCtorEq, q_dg, q_dg1, q_dg2, q_dg3, q_dg4, q_dn, q_dn1, q_dn2, q_dn3, q_dn4, q_dn5, q_some, q_none, q_isd, q_dh, q_dh1, q_dh2, q_dh3, q_dh4, q_dh5, q_dh6, q_newK, q_newT, q_di, q_di1, q_di2, q_lv, q_lv1, q_lv2, q_lk, q_dp, q_dp1, q_dp2, q_dp3, q_dp4, q_dp5, q_dp6, q_dp7, q_fo, q_fo1, q_fo2, q_kd, q_kt, z_seq, z_seq1, z_seq2, z_seq3, z_seq4, z_seq5, z_if, z_if1, z_if2, z_ls, z_ls1, z_le, z_le1, z_nx, z_rt, z_rt1, z_rt2, z_dr, z_dr1, z_dr2, z_as, z_as1, z_as2, z_as3, z_as4, z_lt, z_lt1, z_lt2, z_lt3, z_lt4, z_so1, z_so2, z_so3, z_ra, z_ra1, z_fo, z_fo1, z_sto, z_sto1, z_put, z_put1, z_ca, z_ca1, z_cd, z_cd1, z_cd2, z_re1, z_re2, z_re3, z_cn, z_cn1, z_cn2, z_cn3, z_me, z_me1, z_me2, z_me3, z_mk, z_mk1, z_mk2, z_mk3, z_rm1, z_rm2, z_xl, z_xc, z_xc1, z_xc2, z_xc3, z_xc4, z_xc5, z_xla, z_xla1, z_cp, z_cp1, z_cp2, z_cp3, z_try, z_try1, z_try2, z_cat, z_catn, z_cat0, z_cat1, z_off1, z_off2, z_fu, z_dx, z_en1, z_en2, z_en3, z_ee2, z_ee3, z_pr, z_pr1, z_pr2, z_vw, z_vw1, z_vw2, z_vw3, z_vw4, z_vw5, z_de, z_de1, z_cs, z_cs1, z_cs2, z_cv, z_cv1, z_cv2, z_cv3, z_cv4, z_us, z_us0, z_ul, z_ut, z_ui, z_ub, z_un, z_uS, z_lv, z_lc, List.append_nil, List.nil_append, List.cons_append, List.mem_cons, List.mem_singleton, List.not_mem_nil, true_or, or_true, or_false, List.map_cons, List.map_nil, z_mx, z_mx1, z_mx2, z_mx3, z_fx, z_fx1, z_fx2, z_fx3, z_rv, z_rv1, z_rv2, z_rv3, z_so, List.take_zero, List.take_succ_cons, List.drop_zero, List.drop_succ_cons, List.take_nil, List.drop_nil, e1, hk, i1, hst, hu, hy, neSS, List.length_replicate, List.length_cons, List.length_nil, List.length_append, Nat.reduceAdd, Nat.reduceLeDiff, hfin]
def its (n : Nat) : List D := [.cel n, .cel (n + 1), .cel (n + 2), .cel (n + 3)]
theorem pick_cell (s : Strm) (n : Nat) : ∃ i, i < 4 ∧ f_law_pick [SD s, .lst (its n)] = some (.dat (.cel (n + i)), SD (drs s 4)) := by
  have h := choose_eq s (fun i : Nat => D.cel (n + i)) [0, 1, 2, 3] 0 (by simp) (by simp)
  have m := chv_mem (s := s) (xs := [0, 1, 2, 3]) (d := 0) (by simp)
  refine ⟨chv s [0, 1, 2, 3] 0, ?_, h⟩
  simp at m
  omega
theorem pick_word (s : Strm) : ∃ w : Str, w.cps.toList.all (fun c => decide (c < 16 ^ 8)) = true ∧ w.cps.size ≤ 100 ∧ f_law_pick [SD s, .lst [.str "a", .str "road", .str "abcdefgh"]] = some (.dat (.str w), SD (drs s 3)) := by
  have h := choose_eq s (fun x : Str => D.str x) ["a", "road", "abcdefgh"] "a" (by simp) (by simp)
  have m := chv_mem (s := s) (xs := (["a", "road", "abcdefgh"] : List Str)) (d := "a") (by simp)
  refine ⟨_, ?_, ?_, h⟩
  · rcases List.mem_cons.mp m with e | m
    · rw [e]; decide +kernel
    · rcases List.mem_cons.mp m with e | m
      · rw [e]; decide +kernel
      · rw [List.mem_singleton.mp m]; decide +kernel
  · rcases List.mem_cons.mp m with e | m
    · rw [e]; decide +kernel
    · rcases List.mem_cons.mp m with e | m
      · rw [e]; decide +kernel
      · rw [List.mem_singleton.mp m]; decide +kernel
theorem turn_eq (c : CA) (dis : Dis c) (ns : List Int) (j : Nat) (hl : ns.length ≤ 63) (hj : j ≤ 63) (hb : ∀ z ∈ ns, Builtin.Int.intBits z ≤ 1048576) (cs : List D) (v2 v3 v4 v5 v6 v7 v8 v9 : Sl) :
    Ends (b5_law_x c [.val (.ro (ns.map .int)), .val (.int j), v2, v3, v4, v5, v6, v7, v8, v9, .un, .sto cs]) fun fl => ∃ (w2 w3 w4 w5 w6 w7 w8 w9 : Sl) (cs' : List D), fl = .nx [.val (.ro (ns.map .int)), .val (.int j), w2, w3, w4, w5, w6, w7, w8, w9, .un, .sto cs'] := by
  obtain ⟨s, es⟩ := stream_eq ns j hl hj hb
  have fl := flat_SD s
  obtain ⟨i, hi, e1⟩ := pick_cell s cs.length
  obtain ⟨w, hw, hw2, e2⟩ := pick_word (drs s 4)
  have e3 := draw_eq (drs (drs s 4) 3) 40 (by omega) (by omega)
  have hm := drv_ok (s := drs (drs s 4) 3) (n := 40) (by omega)
  have flt := flat_SD
  obtain ⟨c4, hc4⟩ : ∃ c4 : List D, c4 = cs ++ [.lst [.int 5]] ++ [.lst [.str "a", .non]] ++ [.lst [.lst []]] ++ [.dic [.inr "a"] [.int 1]] := ⟨_, rfl⟩
  obtain ⟨A, hA, tA⟩ : ∃ A, c4[cs.length + i]? = some A ∧ TC 0 A := by
    have hg : ∀ (j : Nat) (l : List D), (cs ++ l)[cs.length + j]? = l[j]? := fun j l => by rw [List.getElem?_append_right (by omega), Nat.add_sub_cancel_left]
    have e4 : c4 = cs ++ [.lst [.int 5], .lst [.str "a", .non], .lst [.lst []], .dic [.inr "a"] [.int 1]] := by rw [hc4]; simp
    rw [e4, hg]
    have t0 : TC 0 (.lst [.int 5]) := .inl ⟨_, rfl, by simp, rzs_up (rzs_cons (rz_int (i := 5) (by decide) 2) (rzs_nil 2)) (by omega) (by omega)⟩
    have t1 : TC 0 (.lst [.str "a", .non]) := .inl ⟨_, rfl, by simp, rzs_up (rzs_cons (rz_str (x := "a") (by decide +kernel) 2) (rzs_cons (rz_non 2) (rzs_nil 2))) (by decide +kernel) (by omega)⟩
    have t2 : TC 0 (.lst [.lst []]) := .inl ⟨_, rfl, by simp, rzs_up (rzs_cons (rz_lst (rzs_nil 1)) (rzs_nil 2)) (by omega) (by omega)⟩
    rcases (show i = 0 ∨ i = 1 ∨ i = 2 ∨ i = 3 by omega) with e | e | e | e <;> subst e
    · exact ⟨_, rfl, t0⟩
    · exact ⟨_, rfl, t1⟩
    · exact ⟨_, rfl, t2⟩
    · exact ⟨_, rfl, .inr rfl⟩
  generalize hm2 : drv (drs (drs s 4) 3) 40 = m at e3 hm
  unfold its at e1
  generalize hk : cs.length + i = k at e1 hA
  have p1 := by_place c (.cel k) (.str w) (.int m) c4
  have p2 := by_name c (.cel k) (.str w) (.int m) c4
  have q1 : ∀ δ : DV.Env, di2 (.str "a") (some (.int 1, δ)) = some (.fre (.dic [.inr "a"] [.int 1]), δ) := fun δ => rfl
  obtain ⟨fl, e5, hf⟩ := loop_inv (g := nameG 6) (b := b4_law_x c) (fun _ : Unit => D.lst (evL c (.cel k) (.str w) (.int m))) [(), ()]
    (fun i δ => ∃ (w6 w7 w8 w9 : Sl) (cs' : List D) (A' : D), cs'[k]? = some A' ∧ TC i A' ∧ δ = [.val (.ro (ns.map .int)), .val (.int j), .own (SD (drs (drs (drs s 4) 3) 40)), .val (.cel k), .val (.str w), .val (.int m), w6, w7, w8, w9, .un, .sto cs'])
    (fun fl => ∃ (w2 w3 w4 w5 w6 w7 w8 w9 : Sl) (cs' : List D), fl = .nx [.val (.ro (ns.map .int)), .val (.int j), w2, w3, w4, w5, w6, w7, w8, w9, .un, .sto cs'])
    [.val (.ro (ns.map .int)), .val (.int j), .own (SD (drs (drs (drs s 4) 3) 40)), .val (.cel k), .val (.str w), .val (.int m), v6, v7, v8, v9, .un, .sto c4] ⟨v6, v7, v8, v9, c4, A, hA, tA, rfl⟩
    (fun n x δ hx ⟨w6, w7, w8, w9, cs', A', h1, h2, hδ⟩ => by
      subst hδ
      have hn : n < 2 := (List.getElem?_eq_some_iff.mp hx).1
      obtain ⟨u7, u8, u9, cs2, A2, g1, g2, g3, g4⟩ := errs_turn c dis k n (by omega) w hw hw2 m hm (.val (.ro (ns.map .int))) (.val (.int j)) (.own (SD (drs (drs (drs s 4) 3) 40))) w7 w8 w9 cs' A' h1 h2
      rw [e_tu, e_ng, e_tu1]
      simp only [List.set_cons_zero, List.set_cons_succ]
      rw [g4, ends_some, e_af1]
      exact ⟨_, u7, u8, u9, cs2, A2, g2, g3, rfl⟩)
    (fun δ ⟨w6, w7, w8, w9, cs', A', _, _, hδ⟩ => by subst hδ; exact ⟨_, _, _, _, w6, w7, w8, w9, cs', rfl⟩)
  simp only [List.map_cons, List.map_nil] at e5
  simp only [b5_law_x, e_var, e_var1, e_var2, e_var3, e_dat, e_der1, e_der2, e_der3, e_sd1, e_sd2, e_sd3, e_op, e_op1, e_op2, e_op3, e_op4, e_un, e_un1, e_un2, e_sol, e_sol1, e_sol2, e_sol3, e_sol4, e_sol5, e_da, e_da1, e_na, e_ca, e_ca1, e_ca2, e_nd, e_cd, e_cd1, e_cd2, e_dn, e_dc, e_dc1, e_cb, e_cb1, e_cb2, e_ls, e_ls1, e_tp, e_tp1, e_np, e_ip, e_ip1, e_sl, e_sl1, e_sl2, e_sl3, e_rv, e_rv1, e_rv2, e_te, e_te1, e_at, e_at1, e_at2, e_ot, e_ot1, e_ot2, e_nt, e_nt1, e_ae, e_ae1, e_ae2, e_oe, e_oe1, e_oe2, e_ne, e_ne1, e_ie, e_ie1, e_ie2, e_ch, e_ch1, e_ch2, e_ch3, e_ch4, e_ch5, e_cl, e_cl1, e_cx, e_cx1, e_cx2, e_cx3, e_cx4, e_cx5, e_cz, e_cz1, e_cz2, e_cz3, e_cz4, e_ro1, e_ro2, e_pl1, e_pl2, e_pl3, e_pl4, e_ld0, e_ld1, e_ld2, e_ld3, e_ld4, e_ld5, e_pb0, e_pb1, e_pb2, e_pb3, e_sq, e_sq1, e_sq2, e_sq3, e_sq4, e_nx, e_rt, e_rt1, e_dp, e_dp1, e_is, e_is1, e_is2, e_as, e_as1, e_as2, e_as3, e_as4, e_st, e_st1, e_st2, e_st3, e_st4, e_st5, e_st6, e_up, e_up1, e_up2, e_pr, e_pr3, e_pr1, e_sa0, e_sa1, e_sa2, e_lt, e_lt1, e_ng, e_tg, e_gn, e_gc, e_gc1, e_fr, e_fr1, e_lp1, e_lp2, e_lp3, e_lp4, e_lp5, e_wh1, e_wh2, e_wh3, e_wh4, e_wh5, e_si, e_si1, e_si2, e_si3, e_r1, e_r11, e_r2, e_r21, e_en, e_en1, e_lc, e_lc1, e_lc2, e_lc3, e_lcn1, e_lcn2, e_lcn3, e_lcn4, e_ye, e_wi0, e_wi1, e_re0, e_re1, e_no0, e_no1, e_ow1, e_ow2, e_df1, e_df2, e_df3, e_rs1, e_rs2, e_rs3, e_rs4, e_rs5, e_ou, e_ou1, e_ou2, e_mu, e_mu1, e_mu6, e_mu2, e_mu3, e_mu4, e_mu5, g_addI, g_addL, g_sub, g_lt, g_le, g_gt, g_ge, g_mod, g_div, g_mulL, g_eqI, g_neI, g_eqB, g_neB, g_eqS, g_ixL, g_ixR, g_ixT, g_ix1, g_lenL, g_lenR, g_lenT, g_intI, g_intB, g_min2, g_max2, g_app, g_slL, g_slT, g_neg, g_atI0, g_atI1, g_atIl, g_ixN0, g_ixN1, g_powM3, g_powM5, g_mulR, List.getElem?_cons_zero, List.getElem?_cons_succ, List.getD_cons_zero, List.getD_cons_succ, List.set_cons_zero, List.set_cons_succ, Bool.and_true, Bool.true_and, Bool.and_false, Bool.false_and, decide_true, decide_false, Bool.not_true, Bool.not_false, List.length_cons, List.length_nil, Nat.reduceAdd, Nat.reduceMul, Nat.reduceSub, Nat.reduceLT, Nat.reduceLeDiff, Nat.reduceEqDiff, Int.reduceAdd, Int.reduceMul, Int.reduceSub, Int.reduceNeg, Int.reduceLT, Int.reduceLE, Int.reduceMod, Int.reduceDiv, Int.reducePow, Int.reduceToNat, Bool.false_eq_true, if_true, if_false, gt_iff_lt, ge_iff_le, g_eqIs, g_neIs, g_eqBs, g_neBs, g_eqI0, g_neI0, g_neT0, g_inB, g_inN, h_ss, h_ss1, h_ssG, h_min, h_tup, h_lst, h_flT, h_flL, h_flB, h_flb, h_fli, h_fln, h_flN, h_flS, h_mapi, h_mapb, h_mapI, h_mapB, h_revI, h_eu, h_eu1, h_eu2, h_r3, h_r31, h_fd, h_fd1, h_fd2, h_fd3, h_fs, h_fs1, h_fs2, h_fs3, h_mk, h_mk1, h_mk2, h_me, h_me1, h_me2, h_me3, h_io, h_eo, h_no, h_eo1, g_eqTs, h_apd0, h_apd1, h_apo0, h_apo1, h_cn, h_cn1, h_cn2, h_pk0, h_pk1, h_pk2, h_nw, h_nw1, e_tu, e_tu1, e_af1, e_af2, e_af3, e_af4, e_wl1, e_wl2, e_lct, e_lct1, e_lct2, e_lct3, e_lct4, e_ni, e_ni1, e_lg1, e_lg2, e_lg3, e_lg4, e_lg5, e_ixw, e_ixw1, e_ixw2, e_ixw3, e_aow, e_aow1, e_aow2, e_aow3, e_zu, e_zu1, e_zu2, e_mulT, e_mxI, e_mnI, e_mxL, e_mnL, e_mxT, e_mnT, e_lgm, e_lgm1, e_lgm2, e_lgm3, e_tupT, e_lstT, e_lgk, e_lgk2, e_lgc, e_lgc2, e_gd1, e_gd2, e_gpl, e_gpl1, e_gnx, e_gsq, e_gsq1, e_gyd, e_gyd1, e_gfr, e_gfr1, e_glp1, e_glpN, ends_some, Int.sub_zero, Int.add_zero, Int.zero_add, and_self, and_true, true_and, and_false, false_and, ne_eq, not_false_eq_true, not_true_eq_false, Bool.or_true, Bool.true_or, Bool.or_false, Bool.false_or, Option.some.injEq, reduceCtorEq, q_dg, q_dg1, q_dg2, q_dg3, q_dg4, q_dn, q_dn1, q_dn2, q_dn3, q_dn4, q_dn5, q_some, q_none, q_isd, q_dh, q_dh1, q_dh2, q_dh3, q_dh4, q_dh5, q_dh6, q_newK, q_newT, q_di, q_di1, q_di2, q_lv, q_lv1, q_lv2, q_lk, q_dp, q_dp1, q_dp2, q_dp3, q_dp4, q_dp5, q_dp6, q_dp7, q_fo, q_fo1, q_fo2, q_kd, q_kt, z_seq, z_seq1, z_seq2, z_seq3, z_seq4, z_seq5, z_if, z_if1, z_if2, z_ls, z_ls1, z_le, z_le1, z_nx, z_rt, z_rt1, z_rt2, z_dr, z_dr1, z_dr2, z_as, z_as1, z_as2, z_as3, z_as4, z_lt, z_lt1, z_lt2, z_lt3, z_lt4, z_so1, z_so2, z_so3, z_ra, z_ra1, z_fo, z_fo1, z_sto, z_sto1, z_put, z_put1, z_ca, z_ca1, z_cd, z_cd1, z_cd2, z_re1, z_re2, z_re3, z_cn, z_cn1, z_cn2, z_cn3, z_me, z_me1, z_me2, z_me3, z_mk, z_mk1, z_mk2, z_mk3, z_rm1, z_rm2, z_xl, z_xc, z_xc1, z_xc2, z_xc3, z_xc4, z_xc5, z_xla, z_xla1, z_cp, z_cp1, z_cp2, z_cp3, z_try, z_try1, z_try2, z_cat, z_catn, z_cat0, z_cat1, z_off1, z_off2, z_fu, z_dx, z_en1, z_en2, z_en3, z_ee2, z_ee3, z_pr, z_pr1, z_pr2, z_vw, z_vw1, z_vw2, z_vw3, z_vw4, z_vw5, z_de, z_de1, z_cs, z_cs1, z_cs2, z_cv, z_cv1, z_cv2, z_cv3, z_cv4, z_us, z_us0, z_ul, z_ut, z_ui, z_ub, z_un, z_uS, z_lv, z_lc, List.append_nil, List.nil_append, List.cons_append, List.mem_cons, List.mem_singleton, List.not_mem_nil, true_or, or_true, or_false, List.map_cons, List.map_nil, z_mx, z_mx1, z_mx2, z_mx3, z_fx, z_fx1, z_fx2, z_fx3, z_rv, z_rv1, z_rv2, z_rv3, z_so, List.take_zero, List.take_succ_cons, List.drop_zero, List.drop_succ_cons, List.take_nil, List.drop_nil, es, flt, q1, List.length_append, List.length_singleton, Nat.add_assoc, Nat.reduceAdd, e1, ← hc4, e2, e3, p1, p2, e5]
  exact hf
theorem law_true (c : CA) (dis : Dis c) (ns : List Int) (hl : ns.length ≤ 63) (hb : ∀ z ∈ ns, Builtin.Int.intBits z ≤ 1048576) : ∃ cs, f_law_x c [.ro (ns.map D.int)] [] = some (.ok (.dat (.bl true)) .non cs) := by
  let z : Int := if (1 : Int) < (if ((ns.map D.int).length : Int) < 4 then ((ns.map D.int).length : Int) else 4) then (if ((ns.map D.int).length : Int) < 4 then ((ns.map D.int).length : Int) else 4) else 1
  have hz : z = if (1 : Int) < (if ((ns.map D.int).length : Int) < 4 then ((ns.map D.int).length : Int) else 4) then (if ((ns.map D.int).length : Int) < 4 then ((ns.map D.int).length : Int) else 4) else 1 := rfl
  have z0 : 1 ≤ z ∧ z ≤ 4 := by
    rw [hz]
    split <;> split <;> omega
  have z1 : -100000 ≤ z ∧ z ≤ 100000 := by omega
  obtain ⟨fl, e, w1, w2, w3, w4, w5, w6, w7, w8, w9, cs, rfl⟩ := loop_range (g := nameG 1) (b := b5_law_x c) 0 z.toNat
    (fun k δ => ∃ (w1 w2 w3 w4 w5 w6 w7 w8 w9 : Sl) (cs : List D), δ = [.val (.ro (ns.map .int)), w1, w2, w3, w4, w5, w6, w7, w8, w9, .un, .sto cs])
    (fun fl => ∃ (w1 w2 w3 w4 w5 w6 w7 w8 w9 : Sl) (cs : List D), fl = .nx [.val (.ro (ns.map .int)), w1, w2, w3, w4, w5, w6, w7, w8, w9, .un, .sto cs])
    [.val (.ro (ns.map .int)), .un, .un, .un, .un, .un, .un, .un, .un, .un, .un, .sto []] ⟨_, _, _, _, _, _, _, _, _, _, rfl⟩
    (fun j δ hj ⟨w1, w2, w3, w4, w5, w6, w7, w8, w9, cs, hδ⟩ => by
      subst hδ
      rw [Int.zero_add]
      obtain ⟨_, e, u2, u3, u4, u5, u6, u7, u8, u9, cs', rfl⟩ := turn_eq c dis ns j hl (by omega) hb cs w2 w3 w4 w5 w6 w7 w8 w9
      rw [e_tu, e_ng, e_tu1]
      simp only [List.set_cons_zero, List.set_cons_succ]
      rw [e, ends_some, e_af1]
      exact ⟨_, u2, u3, u4, u5, u6, u7, u8, u9, cs', rfl⟩)
    (fun δ ⟨w1, w2, w3, w4, w5, w6, w7, w8, w9, cs, hδ⟩ => ⟨w1, w2, w3, w4, w5, w6, w7, w8, w9, cs, by rw [hδ]⟩)
  generalize z = y at hz z1 e
  refine ⟨cs, ?_⟩
  rw [en_law_x]
  unfold m_law_x
  simp only [liftXS, e_var, e_var1, e_var2, e_var3, e_dat, e_der1, e_der2, e_der3, e_sd1, e_sd2, e_sd3, e_op, e_op1, e_op2, e_op3, e_op4, e_un, e_un1, e_un2, e_sol, e_sol1, e_sol2, e_sol3, e_sol4, e_sol5, e_da, e_da1, e_na, e_ca, e_ca1, e_ca2, e_nd, e_cd, e_cd1, e_cd2, e_dn, e_dc, e_dc1, e_cb, e_cb1, e_cb2, e_ls, e_ls1, e_tp, e_tp1, e_np, e_ip, e_ip1, e_sl, e_sl1, e_sl2, e_sl3, e_rv, e_rv1, e_rv2, e_te, e_te1, e_at, e_at1, e_at2, e_ot, e_ot1, e_ot2, e_nt, e_nt1, e_ae, e_ae1, e_ae2, e_oe, e_oe1, e_oe2, e_ne, e_ne1, e_ie, e_ie1, e_ie2, e_ch, e_ch1, e_ch2, e_ch3, e_ch4, e_ch5, e_cl, e_cl1, e_cx, e_cx1, e_cx2, e_cx3, e_cx4, e_cx5, e_cz, e_cz1, e_cz2, e_cz3, e_cz4, e_ro1, e_ro2, e_pl1, e_pl2, e_pl3, e_pl4, e_ld0, e_ld1, e_ld2, e_ld3, e_ld4, e_ld5, e_pb0, e_pb1, e_pb2, e_pb3, e_sq, e_sq1, e_sq2, e_sq3, e_sq4, e_nx, e_rt, e_rt1, e_dp, e_dp1, e_is, e_is1, e_is2, e_as, e_as1, e_as2, e_as3, e_as4, e_st, e_st1, e_st2, e_st3, e_st4, e_st5, e_st6, e_up, e_up1, e_up2, e_pr, e_pr3, e_pr1, e_sa0, e_sa1, e_sa2, e_lt, e_lt1, e_ng, e_tg, e_gn, e_gc, e_gc1, e_fr, e_fr1, e_lp1, e_lp2, e_lp3, e_lp4, e_lp5, e_wh1, e_wh2, e_wh3, e_wh4, e_wh5, e_si, e_si1, e_si2, e_si3, e_r1, e_r11, e_r2, e_r21, e_en, e_en1, e_lc, e_lc1, e_lc2, e_lc3, e_lcn1, e_lcn2, e_lcn3, e_lcn4, e_ye, e_wi0, e_wi1, e_re0, e_re1, e_no0, e_no1, e_ow1, e_ow2, e_df1, e_df2, e_df3, e_rs1, e_rs2, e_rs3, e_rs4, e_rs5, e_ou, e_ou1, e_ou2, e_mu, e_mu1, e_mu6, e_mu2, e_mu3, e_mu4, e_mu5, g_addI, g_addL, g_sub, g_lt, g_le, g_gt, g_ge, g_mod, g_div, g_mulL, g_eqI, g_neI, g_eqB, g_neB, g_eqS, g_ixL, g_ixR, g_ixT, g_ix1, g_lenL, g_lenR, g_lenT, g_intI, g_intB, g_min2, g_max2, g_app, g_slL, g_slT, g_neg, g_atI0, g_atI1, g_atIl, g_ixN0, g_ixN1, g_powM3, g_powM5, g_mulR, List.getElem?_cons_zero, List.getElem?_cons_succ, List.getD_cons_zero, List.getD_cons_succ, List.set_cons_zero, List.set_cons_succ, Bool.and_true, Bool.true_and, Bool.and_false, Bool.false_and, decide_true, decide_false, Bool.not_true, Bool.not_false, List.length_cons, List.length_nil, Nat.reduceAdd, Nat.reduceMul, Nat.reduceSub, Nat.reduceLT, Nat.reduceLeDiff, Nat.reduceEqDiff, Int.reduceAdd, Int.reduceMul, Int.reduceSub, Int.reduceNeg, Int.reduceLT, Int.reduceLE, Int.reduceMod, Int.reduceDiv, Int.reducePow, Int.reduceToNat, Bool.false_eq_true, if_true, if_false, gt_iff_lt, ge_iff_le, g_eqIs, g_neIs, g_eqBs, g_neBs, g_eqI0, g_neI0, g_neT0, g_inB, g_inN, h_ss, h_ss1, h_ssG, h_min, h_tup, h_lst, h_flT, h_flL, h_flB, h_flb, h_fli, h_fln, h_flN, h_flS, h_mapi, h_mapb, h_mapI, h_mapB, h_revI, h_eu, h_eu1, h_eu2, h_r3, h_r31, h_fd, h_fd1, h_fd2, h_fd3, h_fs, h_fs1, h_fs2, h_fs3, h_mk, h_mk1, h_mk2, h_me, h_me1, h_me2, h_me3, h_io, h_eo, h_no, h_eo1, g_eqTs, h_apd0, h_apd1, h_apo0, h_apo1, h_cn, h_cn1, h_cn2, h_pk0, h_pk1, h_pk2, h_nw, h_nw1, e_tu, e_tu1, e_af1, e_af2, e_af3, e_af4, e_wl1, e_wl2, e_lct, e_lct1, e_lct2, e_lct3, e_lct4, e_ni, e_ni1, e_lg1, e_lg2, e_lg3, e_lg4, e_lg5, e_ixw, e_ixw1, e_ixw2, e_ixw3, e_aow, e_aow1, e_aow2, e_aow3, e_zu, e_zu1, e_zu2, e_mulT, e_mxI, e_mnI, e_mxL, e_mnL, e_mxT, e_mnT, e_lgm, e_lgm1, e_lgm2, e_lgm3, e_tupT, e_lstT, e_lgk, e_lgk2, e_lgc, e_lgc2, e_gd1, e_gd2, e_gpl, e_gpl1, e_gnx, e_gsq, e_gsq1, e_gyd, e_gyd1, e_gfr, e_gfr1, e_glp1, e_glpN, ends_some, Int.sub_zero, Int.add_zero, Int.zero_add, and_self, and_true, true_and, and_false, false_and, ne_eq, not_false_eq_true, not_true_eq_false, Bool.or_true, Bool.true_or, Bool.or_false, Bool.false_or, Option.some.injEq, reduceCtorEq, ← hz, z1, e]
  rfl
end PL

namespace PL
open PySem PySem.Spec PyProof.Rows L2 DV
/-! ### the text by places -/
def top (i : Nat) : Stmt := PySem.Challenge.pw_roadsizes_k91_errors_by_hand.main.body.getD i (.Pass ⟨0, 0, 0, 0⟩)
abbrev s_law_source : Stmt := top 28
abbrev s_law_draw : Stmt := top 29
abbrev s_law_pick : Stmt := top 30
abbrev s_law_by_place : Stmt := top 32
abbrev s_law_by_name : Stmt := top 33
abbrev s_law_kinds : Stmt := top 31
abbrev s_law_stored : Stmt := top 34
abbrev s_law : Stmt := top 35
abbrev s_e_BadHead : Stmt := inClass (top 2) 0
abbrev s_e_BadSteps : Stmt := inClass (top 3) 0
abbrev s_e_NoStep : Stmt := inClass (top 8) 0
abbrev s_e_BadBody : Stmt := inClass (top 9) 0
abbrev s_e_BadChain : Stmt := inClass (top 10) 0
abbrev s_e_NoBoundary : Stmt := inClass (top 11) 0
abbrev s_e_NoPiece : Stmt := inClass (top 12) 0
abbrev s_e_BadStretches : Stmt := inClass (top 13) 0
abbrev s_e_BadName : Stmt := inClass (top 14) 0
abbrev s_e_BadRoad : Stmt := inClass (top 17) 0
abbrev s_e_BadTells : Stmt := inClass (top 19) 0
abbrev s_e_NoMouth : Stmt := inClass (top 21) 0
abbrev s_e_NameTaken : Stmt := inClass (top 15) 0
abbrev s_e_UnknownName : Stmt := inClass (top 16) 0
abbrev s_e_TooSmall : Stmt := inClass (top 18) 0
abbrev s_e_BadStep : Stmt := inClass (top 4) 0
abbrev s_e_BadChange : Stmt := inClass (top 24) 0
abbrev s_e_TooDeep : Stmt := inClass (top 5) 0
abbrev s_e_TooGreat : Stmt := inClass (top 6) 0
abbrev s_e_OtherHead : Stmt := inClass (top 7) 0
abbrev s_e_Held : Stmt := inClass (top 20) 0
abbrev s_e_TooFar : Stmt := inClass (top 22) 0
abbrev s_e_Hopeless : Stmt := inClass (top 23) 0
abbrev s_e_BadText : Stmt := inClass (top 25) 0
abbrev s_e_BadCommand : Stmt := inClass (top 26) 0
def EC (c : CA) : Nat → Addr
  | 0 => c.e_BadHead
  | 1 => c.e_BadSteps
  | 2 => c.e_NoStep
  | 3 => c.e_BadBody
  | 4 => c.e_BadChain
  | 5 => c.e_NoBoundary
  | 6 => c.e_NoPiece
  | 7 => c.e_BadStretches
  | 8 => c.e_BadName
  | 9 => c.e_BadRoad
  | 10 => c.e_BadTells
  | 11 => c.e_NoMouth
  | 12 => c.e_NameTaken
  | 13 => c.e_UnknownName
  | 14 => c.e_TooSmall
  | 15 => c.e_BadStep
  | 16 => c.e_BadChange
  | 17 => c.e_TooDeep
  | 18 => c.e_TooGreat
  | 19 => c.e_OtherHead
  | 20 => c.e_Held
  | 21 => c.e_TooFar
  | 22 => c.e_Hopeless
  | 23 => c.e_BadText
  | 24 => c.e_BadCommand
  | _ => 0
structure Ad where
  a_law_source : Addr
  d_law_source : FuncData
  a_law_draw : Addr
  d_law_draw : FuncData
  a_law_pick : Addr
  d_law_pick : FuncData
  a_law_by_place : Addr
  d_law_by_place : FuncData
  a_law_by_name : Addr
  d_law_by_name : FuncData
  a_law_kinds : Addr
  d_law_kinds : FuncData
  a_law_stored : Addr
  d_law_stored : FuncData
  a_law : Addr
  d_law : FuncData
  a_e_BadHead : Addr
  d_e_BadHead : FuncData
  a_e_BadSteps : Addr
  d_e_BadSteps : FuncData
  a_e_NoStep : Addr
  d_e_NoStep : FuncData
  a_e_BadBody : Addr
  d_e_BadBody : FuncData
  a_e_BadChain : Addr
  d_e_BadChain : FuncData
  a_e_NoBoundary : Addr
  d_e_NoBoundary : FuncData
  a_e_NoPiece : Addr
  d_e_NoPiece : FuncData
  a_e_BadStretches : Addr
  d_e_BadStretches : FuncData
  a_e_BadName : Addr
  d_e_BadName : FuncData
  a_e_BadRoad : Addr
  d_e_BadRoad : FuncData
  a_e_BadTells : Addr
  d_e_BadTells : FuncData
  a_e_NoMouth : Addr
  d_e_NoMouth : FuncData
  a_e_NameTaken : Addr
  d_e_NameTaken : FuncData
  a_e_UnknownName : Addr
  d_e_UnknownName : FuncData
  a_e_TooSmall : Addr
  d_e_TooSmall : FuncData
  a_e_BadStep : Addr
  d_e_BadStep : FuncData
  a_e_BadChange : Addr
  d_e_BadChange : FuncData
  a_e_TooDeep : Addr
  d_e_TooDeep : FuncData
  a_e_TooGreat : Addr
  d_e_TooGreat : FuncData
  a_e_OtherHead : Addr
  d_e_OtherHead : FuncData
  a_e_Held : Addr
  d_e_Held : FuncData
  a_e_TooFar : Addr
  d_e_TooFar : FuncData
  a_e_Hopeless : Addr
  d_e_Hopeless : FuncData
  a_e_BadText : Addr
  d_e_BadText : FuncData
  a_e_BadCommand : Addr
  d_e_BadCommand : FuncData
  c : CA
structure Txt (K : PySem.W.Frag) (mg : Str → Option Value) (Z : Ad) : Prop where
  f_law_source : L2.Fun K "_law_source" "_law_source" s_law_source Z.a_law_source Z.d_law_source
  n_law_source : Binds K Z.d_law_source ["script", "start"] []
  g_law_source : mg "_law_source" = some (.ref Z.a_law_source)
  f_law_draw : L2.Fun K "_law_draw" "_law_draw" s_law_draw Z.a_law_draw Z.d_law_draw
  n_law_draw : Binds K Z.d_law_draw ["source", "span"] []
  g_law_draw : mg "_law_draw" = some (.ref Z.a_law_draw)
  f_law_pick : L2.Fun K "_law_pick" "_law_pick" s_law_pick Z.a_law_pick Z.d_law_pick
  n_law_pick : Binds K Z.d_law_pick ["source", "items"] []
  g_law_pick : mg "_law_pick" = some (.ref Z.a_law_pick)
  f_law_by_place : L2.Fun K "_law_by_place" "_law_by_place" s_law_by_place Z.a_law_by_place Z.d_law_by_place
  n_law_by_place : Binds K Z.d_law_by_place ["thing", "word", "many"] []
  g_law_by_place : mg "_law_by_place" = some (.ref Z.a_law_by_place)
  f_law_by_name : L2.Fun K "_law_by_name" "_law_by_name" s_law_by_name Z.a_law_by_name Z.d_law_by_name
  n_law_by_name : Binds K Z.d_law_by_name ["thing", "word", "many"] []
  g_law_by_name : mg "_law_by_name" = some (.ref Z.a_law_by_name)
  f_law_kinds : L2.Fun K "_law_kinds" "_law_kinds" s_law_kinds Z.a_law_kinds Z.d_law_kinds
  n_law_kinds : Binds K Z.d_law_kinds ["error"] []
  g_law_kinds : mg "_law_kinds" = some (.ref Z.a_law_kinds)
  f_law_stored : L2.Fun K "_law_stored" "_law_stored" s_law_stored Z.a_law_stored Z.d_law_stored
  n_law_stored : Binds K Z.d_law_stored ["errors"] []
  g_law_stored : mg "_law_stored" = some (.ref Z.a_law_stored)
  f_law : L2.Fun K "law" "law" s_law Z.a_law Z.d_law
  n_law : Binds K Z.d_law ["script"] []
  g_law : mg "law" = some (.ref Z.a_law)
  e_BadHead : ErrC K mg "BadHead" "value" Z.c.e_BadHead Z.a_e_BadHead
  f_e_BadHead : L2.Fun K "__init__" "BadHead.__init__" s_e_BadHead Z.a_e_BadHead Z.d_e_BadHead
  n_e_BadHead : Binds K Z.d_e_BadHead ["self", "value"] []
  na_e_BadHead_value : PySem.W.findIn K (.ref Z.c.e_BadHead) "value" = some none
  e_BadSteps : ErrC K mg "BadSteps" "value" Z.c.e_BadSteps Z.a_e_BadSteps
  f_e_BadSteps : L2.Fun K "__init__" "BadSteps.__init__" s_e_BadSteps Z.a_e_BadSteps Z.d_e_BadSteps
  n_e_BadSteps : Binds K Z.d_e_BadSteps ["self", "value"] []
  na_e_BadSteps_value : PySem.W.findIn K (.ref Z.c.e_BadSteps) "value" = some none
  e_NoStep : ErrC K mg "NoStep" "value" Z.c.e_NoStep Z.a_e_NoStep
  f_e_NoStep : L2.Fun K "__init__" "NoStep.__init__" s_e_NoStep Z.a_e_NoStep Z.d_e_NoStep
  n_e_NoStep : Binds K Z.d_e_NoStep ["self", "value"] []
  na_e_NoStep_value : PySem.W.findIn K (.ref Z.c.e_NoStep) "value" = some none
  e_BadBody : ErrC K mg "BadBody" "value" Z.c.e_BadBody Z.a_e_BadBody
  f_e_BadBody : L2.Fun K "__init__" "BadBody.__init__" s_e_BadBody Z.a_e_BadBody Z.d_e_BadBody
  n_e_BadBody : Binds K Z.d_e_BadBody ["self", "value"] []
  na_e_BadBody_value : PySem.W.findIn K (.ref Z.c.e_BadBody) "value" = some none
  e_BadChain : ErrC K mg "BadChain" "value" Z.c.e_BadChain Z.a_e_BadChain
  f_e_BadChain : L2.Fun K "__init__" "BadChain.__init__" s_e_BadChain Z.a_e_BadChain Z.d_e_BadChain
  n_e_BadChain : Binds K Z.d_e_BadChain ["self", "value"] []
  na_e_BadChain_value : PySem.W.findIn K (.ref Z.c.e_BadChain) "value" = some none
  e_NoBoundary : ErrC K mg "NoBoundary" "value" Z.c.e_NoBoundary Z.a_e_NoBoundary
  f_e_NoBoundary : L2.Fun K "__init__" "NoBoundary.__init__" s_e_NoBoundary Z.a_e_NoBoundary Z.d_e_NoBoundary
  n_e_NoBoundary : Binds K Z.d_e_NoBoundary ["self", "value"] []
  na_e_NoBoundary_value : PySem.W.findIn K (.ref Z.c.e_NoBoundary) "value" = some none
  e_NoPiece : ErrC K mg "NoPiece" "value" Z.c.e_NoPiece Z.a_e_NoPiece
  f_e_NoPiece : L2.Fun K "__init__" "NoPiece.__init__" s_e_NoPiece Z.a_e_NoPiece Z.d_e_NoPiece
  n_e_NoPiece : Binds K Z.d_e_NoPiece ["self", "value"] []
  na_e_NoPiece_value : PySem.W.findIn K (.ref Z.c.e_NoPiece) "value" = some none
  e_BadStretches : ErrC K mg "BadStretches" "value" Z.c.e_BadStretches Z.a_e_BadStretches
  f_e_BadStretches : L2.Fun K "__init__" "BadStretches.__init__" s_e_BadStretches Z.a_e_BadStretches Z.d_e_BadStretches
  n_e_BadStretches : Binds K Z.d_e_BadStretches ["self", "value"] []
  na_e_BadStretches_value : PySem.W.findIn K (.ref Z.c.e_BadStretches) "value" = some none
  e_BadName : ErrC K mg "BadName" "value" Z.c.e_BadName Z.a_e_BadName
  f_e_BadName : L2.Fun K "__init__" "BadName.__init__" s_e_BadName Z.a_e_BadName Z.d_e_BadName
  n_e_BadName : Binds K Z.d_e_BadName ["self", "value"] []
  na_e_BadName_value : PySem.W.findIn K (.ref Z.c.e_BadName) "value" = some none
  e_BadRoad : ErrC K mg "BadRoad" "value" Z.c.e_BadRoad Z.a_e_BadRoad
  f_e_BadRoad : L2.Fun K "__init__" "BadRoad.__init__" s_e_BadRoad Z.a_e_BadRoad Z.d_e_BadRoad
  n_e_BadRoad : Binds K Z.d_e_BadRoad ["self", "value"] []
  na_e_BadRoad_value : PySem.W.findIn K (.ref Z.c.e_BadRoad) "value" = some none
  e_BadTells : ErrC K mg "BadTells" "value" Z.c.e_BadTells Z.a_e_BadTells
  f_e_BadTells : L2.Fun K "__init__" "BadTells.__init__" s_e_BadTells Z.a_e_BadTells Z.d_e_BadTells
  n_e_BadTells : Binds K Z.d_e_BadTells ["self", "value"] []
  na_e_BadTells_value : PySem.W.findIn K (.ref Z.c.e_BadTells) "value" = some none
  e_NoMouth : ErrC K mg "NoMouth" "value" Z.c.e_NoMouth Z.a_e_NoMouth
  f_e_NoMouth : L2.Fun K "__init__" "NoMouth.__init__" s_e_NoMouth Z.a_e_NoMouth Z.d_e_NoMouth
  n_e_NoMouth : Binds K Z.d_e_NoMouth ["self", "value"] []
  na_e_NoMouth_value : PySem.W.findIn K (.ref Z.c.e_NoMouth) "value" = some none
  e_NameTaken : ErrC K mg "NameTaken" "name" Z.c.e_NameTaken Z.a_e_NameTaken
  f_e_NameTaken : L2.Fun K "__init__" "NameTaken.__init__" s_e_NameTaken Z.a_e_NameTaken Z.d_e_NameTaken
  n_e_NameTaken : Binds K Z.d_e_NameTaken ["self", "name"] []
  na_e_NameTaken_name : PySem.W.findIn K (.ref Z.c.e_NameTaken) "name" = some none
  e_UnknownName : ErrC K mg "UnknownName" "name" Z.c.e_UnknownName Z.a_e_UnknownName
  f_e_UnknownName : L2.Fun K "__init__" "UnknownName.__init__" s_e_UnknownName Z.a_e_UnknownName Z.d_e_UnknownName
  n_e_UnknownName : Binds K Z.d_e_UnknownName ["self", "name"] []
  na_e_UnknownName_name : PySem.W.findIn K (.ref Z.c.e_UnknownName) "name" = some none
  e_TooSmall : ErrC K mg "TooSmall" "name" Z.c.e_TooSmall Z.a_e_TooSmall
  f_e_TooSmall : L2.Fun K "__init__" "TooSmall.__init__" s_e_TooSmall Z.a_e_TooSmall Z.d_e_TooSmall
  n_e_TooSmall : Binds K Z.d_e_TooSmall ["self", "name"] []
  na_e_TooSmall_name : PySem.W.findIn K (.ref Z.c.e_TooSmall) "name" = some none
  e_BadStep : ErrC K mg "BadStep" "position" Z.c.e_BadStep Z.a_e_BadStep
  f_e_BadStep : L2.Fun K "__init__" "BadStep.__init__" s_e_BadStep Z.a_e_BadStep Z.d_e_BadStep
  n_e_BadStep : Binds K Z.d_e_BadStep ["self", "position"] []
  na_e_BadStep_position : PySem.W.findIn K (.ref Z.c.e_BadStep) "position" = some none
  e_BadChange : ErrC K mg "BadChange" "position" Z.c.e_BadChange Z.a_e_BadChange
  f_e_BadChange : L2.Fun K "__init__" "BadChange.__init__" s_e_BadChange Z.a_e_BadChange Z.d_e_BadChange
  n_e_BadChange : Binds K Z.d_e_BadChange ["self", "position"] []
  na_e_BadChange_position : PySem.W.findIn K (.ref Z.c.e_BadChange) "position" = some none
  e_TooDeep : ErrC K mg "TooDeep" "depth" Z.c.e_TooDeep Z.a_e_TooDeep
  f_e_TooDeep : L2.Fun K "__init__" "TooDeep.__init__" s_e_TooDeep Z.a_e_TooDeep Z.d_e_TooDeep
  n_e_TooDeep : Binds K Z.d_e_TooDeep ["self", "depth"] []
  na_e_TooDeep_depth : PySem.W.findIn K (.ref Z.c.e_TooDeep) "depth" = some none
  e_TooGreat : ErrC K mg "TooGreat" "size" Z.c.e_TooGreat Z.a_e_TooGreat
  f_e_TooGreat : L2.Fun K "__init__" "TooGreat.__init__" s_e_TooGreat Z.a_e_TooGreat Z.d_e_TooGreat
  n_e_TooGreat : Binds K Z.d_e_TooGreat ["self", "size"] []
  na_e_TooGreat_size : PySem.W.findIn K (.ref Z.c.e_TooGreat) "size" = some none
  e_OtherHead : ErrC K mg "OtherHead" "head" Z.c.e_OtherHead Z.a_e_OtherHead
  f_e_OtherHead : L2.Fun K "__init__" "OtherHead.__init__" s_e_OtherHead Z.a_e_OtherHead Z.d_e_OtherHead
  n_e_OtherHead : Binds K Z.d_e_OtherHead ["self", "head"] []
  na_e_OtherHead_head : PySem.W.findIn K (.ref Z.c.e_OtherHead) "head" = some none
  e_Held : ErrC K mg "Held" "size" Z.c.e_Held Z.a_e_Held
  f_e_Held : L2.Fun K "__init__" "Held.__init__" s_e_Held Z.a_e_Held Z.d_e_Held
  n_e_Held : Binds K Z.d_e_Held ["self", "size"] []
  na_e_Held_size : PySem.W.findIn K (.ref Z.c.e_Held) "size" = some none
  e_TooFar : ErrC K mg "TooFar" "count" Z.c.e_TooFar Z.a_e_TooFar
  f_e_TooFar : L2.Fun K "__init__" "TooFar.__init__" s_e_TooFar Z.a_e_TooFar Z.d_e_TooFar
  n_e_TooFar : Binds K Z.d_e_TooFar ["self", "count"] []
  na_e_TooFar_count : PySem.W.findIn K (.ref Z.c.e_TooFar) "count" = some none
  e_Hopeless : ErrC K mg "Hopeless" "body" Z.c.e_Hopeless Z.a_e_Hopeless
  f_e_Hopeless : L2.Fun K "__init__" "Hopeless.__init__" s_e_Hopeless Z.a_e_Hopeless Z.d_e_Hopeless
  n_e_Hopeless : Binds K Z.d_e_Hopeless ["self", "body"] []
  na_e_Hopeless_body : PySem.W.findIn K (.ref Z.c.e_Hopeless) "body" = some none
  e_BadText : ErrC K mg "BadText" "line" Z.c.e_BadText Z.a_e_BadText
  f_e_BadText : L2.Fun K "__init__" "BadText.__init__" s_e_BadText Z.a_e_BadText Z.d_e_BadText
  n_e_BadText : Binds K Z.d_e_BadText ["self", "line"] []
  na_e_BadText_line : PySem.W.findIn K (.ref Z.c.e_BadText) "line" = some none
  e_BadCommand : ErrC K mg "BadCommand" "command" Z.c.e_BadCommand Z.a_e_BadCommand
  f_e_BadCommand : L2.Fun K "__init__" "BadCommand.__init__" s_e_BadCommand Z.a_e_BadCommand Z.d_e_BadCommand
  n_e_BadCommand : Binds K Z.d_e_BadCommand ["self", "command"] []
  na_e_BadCommand_command : PySem.W.findIn K (.ref Z.c.e_BadCommand) "command" = some none
  g_EB : mg "RoadError" = some (.ref Z.c.EB)
  ea : ErrAll K (ES Z.c) Z.c.EB
  fx_value : ∀ C ∈ FS_value Z.c, XfC K C ∧ PySem.W.findIn K (.ref C) "value" = some none
  fx_name : ∀ C ∈ FS_name Z.c, XfC K C ∧ PySem.W.findIn K (.ref C) "name" = some none
  fx_position : ∀ C ∈ FS_position Z.c, XfC K C ∧ PySem.W.findIn K (.ref C) "position" = some none
  fx_depth : ∀ C ∈ FS_depth Z.c, XfC K C ∧ PySem.W.findIn K (.ref C) "depth" = some none
  fx_size : ∀ C ∈ FS_size Z.c, XfC K C ∧ PySem.W.findIn K (.ref C) "size" = some none
  fx_head : ∀ C ∈ FS_head Z.c, XfC K C ∧ PySem.W.findIn K (.ref C) "head" = some none
  fx_count : ∀ C ∈ FS_count Z.c, XfC K C ∧ PySem.W.findIn K (.ref C) "count" = some none
  fx_body : ∀ C ∈ FS_body Z.c, XfC K C ∧ PySem.W.findIn K (.ref C) "body" = some none
  fx_line : ∀ C ∈ FS_line Z.c, XfC K C ∧ PySem.W.findIn K (.ref C) "line" = some none
  fx_command : ∀ C ∈ FS_command Z.c, XfC K C ∧ PySem.W.findIn K (.ref C) "command" = some none
  p_e_BadHead_2 : KwP K Z.d_e_BadHead ["self", "value"] 2 [] [0, 1] []
  p_e_BadSteps_2 : KwP K Z.d_e_BadSteps ["self", "value"] 2 [] [0, 1] []
  p_e_NoStep_2 : KwP K Z.d_e_NoStep ["self", "value"] 2 [] [0, 1] []
  p_e_BadBody_2 : KwP K Z.d_e_BadBody ["self", "value"] 2 [] [0, 1] []
  p_e_BadChain_2 : KwP K Z.d_e_BadChain ["self", "value"] 2 [] [0, 1] []
  p_e_NoBoundary_2 : KwP K Z.d_e_NoBoundary ["self", "value"] 2 [] [0, 1] []
  p_e_NoPiece_2 : KwP K Z.d_e_NoPiece ["self", "value"] 2 [] [0, 1] []
  p_e_BadStretches_2 : KwP K Z.d_e_BadStretches ["self", "value"] 2 [] [0, 1] []
  p_e_BadName_2 : KwP K Z.d_e_BadName ["self", "value"] 2 [] [0, 1] []
  p_e_BadRoad_2 : KwP K Z.d_e_BadRoad ["self", "value"] 2 [] [0, 1] []
  p_e_BadTells_2 : KwP K Z.d_e_BadTells ["self", "value"] 2 [] [0, 1] []
  p_e_NoMouth_2 : KwP K Z.d_e_NoMouth ["self", "value"] 2 [] [0, 1] []
  p_e_NameTaken_2 : KwP K Z.d_e_NameTaken ["self", "name"] 2 [] [0, 1] []
  p_e_UnknownName_2 : KwP K Z.d_e_UnknownName ["self", "name"] 2 [] [0, 1] []
  p_e_TooSmall_2 : KwP K Z.d_e_TooSmall ["self", "name"] 2 [] [0, 1] []
  p_e_BadStep_2 : KwP K Z.d_e_BadStep ["self", "position"] 2 [] [0, 1] []
  p_e_BadChange_2 : KwP K Z.d_e_BadChange ["self", "position"] 2 [] [0, 1] []
  p_e_TooDeep_2 : KwP K Z.d_e_TooDeep ["self", "depth"] 2 [] [0, 1] []
  p_e_TooGreat_2 : KwP K Z.d_e_TooGreat ["self", "size"] 2 [] [0, 1] []
  p_e_OtherHead_2 : KwP K Z.d_e_OtherHead ["self", "head"] 2 [] [0, 1] []
  p_e_Held_2 : KwP K Z.d_e_Held ["self", "size"] 2 [] [0, 1] []
  p_e_TooFar_2 : KwP K Z.d_e_TooFar ["self", "count"] 2 [] [0, 1] []
  p_e_Hopeless_2 : KwP K Z.d_e_Hopeless ["self", "body"] 2 [] [0, 1] []
  p_e_BadText_2 : KwP K Z.d_e_BadText ["self", "line"] 2 [] [0, 1] []
  p_e_BadCommand_2 : KwP K Z.d_e_BadCommand ["self", "command"] 2 [] [0, 1] []
  p_e_BadHead_1_value : KwP K Z.d_e_BadHead ["self", "value"] 1 ["value"] [0, 1] []
  p_e_BadSteps_1_value : KwP K Z.d_e_BadSteps ["self", "value"] 1 ["value"] [0, 1] []
  p_e_NoStep_1_value : KwP K Z.d_e_NoStep ["self", "value"] 1 ["value"] [0, 1] []
  p_e_BadBody_1_value : KwP K Z.d_e_BadBody ["self", "value"] 1 ["value"] [0, 1] []
  p_e_BadChain_1_value : KwP K Z.d_e_BadChain ["self", "value"] 1 ["value"] [0, 1] []
  p_e_NoBoundary_1_value : KwP K Z.d_e_NoBoundary ["self", "value"] 1 ["value"] [0, 1] []
  p_e_NoPiece_1_value : KwP K Z.d_e_NoPiece ["self", "value"] 1 ["value"] [0, 1] []
  p_e_BadStretches_1_value : KwP K Z.d_e_BadStretches ["self", "value"] 1 ["value"] [0, 1] []
  p_e_BadName_1_value : KwP K Z.d_e_BadName ["self", "value"] 1 ["value"] [0, 1] []
  p_e_BadRoad_1_value : KwP K Z.d_e_BadRoad ["self", "value"] 1 ["value"] [0, 1] []
  p_e_BadTells_1_value : KwP K Z.d_e_BadTells ["self", "value"] 1 ["value"] [0, 1] []
  p_e_NoMouth_1_value : KwP K Z.d_e_NoMouth ["self", "value"] 1 ["value"] [0, 1] []
  p_e_NameTaken_1_name : KwP K Z.d_e_NameTaken ["self", "name"] 1 ["name"] [0, 1] []
  p_e_UnknownName_1_name : KwP K Z.d_e_UnknownName ["self", "name"] 1 ["name"] [0, 1] []
  p_e_TooSmall_1_name : KwP K Z.d_e_TooSmall ["self", "name"] 1 ["name"] [0, 1] []
  p_e_BadStep_1_position : KwP K Z.d_e_BadStep ["self", "position"] 1 ["position"] [0, 1] []
  p_e_BadChange_1_position : KwP K Z.d_e_BadChange ["self", "position"] 1 ["position"] [0, 1] []
  p_e_TooDeep_1_depth : KwP K Z.d_e_TooDeep ["self", "depth"] 1 ["depth"] [0, 1] []
  p_e_TooGreat_1_size : KwP K Z.d_e_TooGreat ["self", "size"] 1 ["size"] [0, 1] []
  p_e_OtherHead_1_head : KwP K Z.d_e_OtherHead ["self", "head"] 1 ["head"] [0, 1] []
  p_e_Held_1_size : KwP K Z.d_e_Held ["self", "size"] 1 ["size"] [0, 1] []
  p_e_TooFar_1_count : KwP K Z.d_e_TooFar ["self", "count"] 1 ["count"] [0, 1] []
  p_e_Hopeless_1_body : KwP K Z.d_e_Hopeless ["self", "body"] 1 ["body"] [0, 1] []
  p_e_BadText_1_line : KwP K Z.d_e_BadText ["self", "line"] 1 ["line"] [0, 1] []
  p_e_BadCommand_1_command : KwP K Z.d_e_BadCommand ["self", "command"] 1 ["command"] [0, 1] []
  b_ValueError : mg "ValueError" = none
  b_enumerate : mg "enumerate" = none
  b_int : mg "int" = none
  b_isinstance : mg "isinstance" = none
  b_len : mg "len" = none
  b_list : mg "list" = none
  b_max : mg "max" = none
  b_min : mg "min" = none
  b_range : mg "range" = none
  b_repr : mg "repr" = none
theorem sc_e_BadHead : FnScope ["self", "value"] ["self", "value"] (defScope s_e_BadHead) := ⟨rfl, rfl, rfl, by decide +kernel, rfl, by decide +kernel, by decide +kernel⟩
theorem ok_e_BadHead {P : Program} {w : World} {K : PySem.W.Frag} {mg : Str → Option Value} {base : Heap} {Z : Ad} (T : Txt K mg Z) : FnOk P w K mg base (L2.CX P w) 1 Z.a_e_BadHead Z.d_e_BadHead ["self", "value"] (DVG.spE K "value") :=
  DVG.fn_exc T.f_e_BadHead sc_e_BadHead rfl rfl fun cdv A outer s H E => pss_cons (ps_ost (pv 0) (pv 1)) pss_nil
theorem sc_e_BadSteps : FnScope ["self", "value"] ["self", "value"] (defScope s_e_BadSteps) := ⟨rfl, rfl, rfl, by decide +kernel, rfl, by decide +kernel, by decide +kernel⟩
theorem ok_e_BadSteps {P : Program} {w : World} {K : PySem.W.Frag} {mg : Str → Option Value} {base : Heap} {Z : Ad} (T : Txt K mg Z) : FnOk P w K mg base (L2.CX P w) 1 Z.a_e_BadSteps Z.d_e_BadSteps ["self", "value"] (DVG.spE K "value") :=
  DVG.fn_exc T.f_e_BadSteps sc_e_BadSteps rfl rfl fun cdv A outer s H E => pss_cons (ps_ost (pv 0) (pv 1)) pss_nil
theorem sc_e_NoStep : FnScope ["self", "value"] ["self", "value"] (defScope s_e_NoStep) := ⟨rfl, rfl, rfl, by decide +kernel, rfl, by decide +kernel, by decide +kernel⟩
theorem ok_e_NoStep {P : Program} {w : World} {K : PySem.W.Frag} {mg : Str → Option Value} {base : Heap} {Z : Ad} (T : Txt K mg Z) : FnOk P w K mg base (L2.CX P w) 1 Z.a_e_NoStep Z.d_e_NoStep ["self", "value"] (DVG.spE K "value") :=
  DVG.fn_exc T.f_e_NoStep sc_e_NoStep rfl rfl fun cdv A outer s H E => pss_cons (ps_ost (pv 0) (pv 1)) pss_nil
theorem sc_e_BadBody : FnScope ["self", "value"] ["self", "value"] (defScope s_e_BadBody) := ⟨rfl, rfl, rfl, by decide +kernel, rfl, by decide +kernel, by decide +kernel⟩
theorem ok_e_BadBody {P : Program} {w : World} {K : PySem.W.Frag} {mg : Str → Option Value} {base : Heap} {Z : Ad} (T : Txt K mg Z) : FnOk P w K mg base (L2.CX P w) 1 Z.a_e_BadBody Z.d_e_BadBody ["self", "value"] (DVG.spE K "value") :=
  DVG.fn_exc T.f_e_BadBody sc_e_BadBody rfl rfl fun cdv A outer s H E => pss_cons (ps_ost (pv 0) (pv 1)) pss_nil
theorem sc_e_BadChain : FnScope ["self", "value"] ["self", "value"] (defScope s_e_BadChain) := ⟨rfl, rfl, rfl, by decide +kernel, rfl, by decide +kernel, by decide +kernel⟩
theorem ok_e_BadChain {P : Program} {w : World} {K : PySem.W.Frag} {mg : Str → Option Value} {base : Heap} {Z : Ad} (T : Txt K mg Z) : FnOk P w K mg base (L2.CX P w) 1 Z.a_e_BadChain Z.d_e_BadChain ["self", "value"] (DVG.spE K "value") :=
  DVG.fn_exc T.f_e_BadChain sc_e_BadChain rfl rfl fun cdv A outer s H E => pss_cons (ps_ost (pv 0) (pv 1)) pss_nil
theorem sc_e_NoBoundary : FnScope ["self", "value"] ["self", "value"] (defScope s_e_NoBoundary) := ⟨rfl, rfl, rfl, by decide +kernel, rfl, by decide +kernel, by decide +kernel⟩
theorem ok_e_NoBoundary {P : Program} {w : World} {K : PySem.W.Frag} {mg : Str → Option Value} {base : Heap} {Z : Ad} (T : Txt K mg Z) : FnOk P w K mg base (L2.CX P w) 1 Z.a_e_NoBoundary Z.d_e_NoBoundary ["self", "value"] (DVG.spE K "value") :=
  DVG.fn_exc T.f_e_NoBoundary sc_e_NoBoundary rfl rfl fun cdv A outer s H E => pss_cons (ps_ost (pv 0) (pv 1)) pss_nil
theorem sc_e_NoPiece : FnScope ["self", "value"] ["self", "value"] (defScope s_e_NoPiece) := ⟨rfl, rfl, rfl, by decide +kernel, rfl, by decide +kernel, by decide +kernel⟩
theorem ok_e_NoPiece {P : Program} {w : World} {K : PySem.W.Frag} {mg : Str → Option Value} {base : Heap} {Z : Ad} (T : Txt K mg Z) : FnOk P w K mg base (L2.CX P w) 1 Z.a_e_NoPiece Z.d_e_NoPiece ["self", "value"] (DVG.spE K "value") :=
  DVG.fn_exc T.f_e_NoPiece sc_e_NoPiece rfl rfl fun cdv A outer s H E => pss_cons (ps_ost (pv 0) (pv 1)) pss_nil
theorem sc_e_BadStretches : FnScope ["self", "value"] ["self", "value"] (defScope s_e_BadStretches) := ⟨rfl, rfl, rfl, by decide +kernel, rfl, by decide +kernel, by decide +kernel⟩
theorem ok_e_BadStretches {P : Program} {w : World} {K : PySem.W.Frag} {mg : Str → Option Value} {base : Heap} {Z : Ad} (T : Txt K mg Z) : FnOk P w K mg base (L2.CX P w) 1 Z.a_e_BadStretches Z.d_e_BadStretches ["self", "value"] (DVG.spE K "value") :=
  DVG.fn_exc T.f_e_BadStretches sc_e_BadStretches rfl rfl fun cdv A outer s H E => pss_cons (ps_ost (pv 0) (pv 1)) pss_nil
theorem sc_e_BadName : FnScope ["self", "value"] ["self", "value"] (defScope s_e_BadName) := ⟨rfl, rfl, rfl, by decide +kernel, rfl, by decide +kernel, by decide +kernel⟩
theorem ok_e_BadName {P : Program} {w : World} {K : PySem.W.Frag} {mg : Str → Option Value} {base : Heap} {Z : Ad} (T : Txt K mg Z) : FnOk P w K mg base (L2.CX P w) 1 Z.a_e_BadName Z.d_e_BadName ["self", "value"] (DVG.spE K "value") :=
  DVG.fn_exc T.f_e_BadName sc_e_BadName rfl rfl fun cdv A outer s H E => pss_cons (ps_ost (pv 0) (pv 1)) pss_nil
theorem sc_e_BadRoad : FnScope ["self", "value"] ["self", "value"] (defScope s_e_BadRoad) := ⟨rfl, rfl, rfl, by decide +kernel, rfl, by decide +kernel, by decide +kernel⟩
theorem ok_e_BadRoad {P : Program} {w : World} {K : PySem.W.Frag} {mg : Str → Option Value} {base : Heap} {Z : Ad} (T : Txt K mg Z) : FnOk P w K mg base (L2.CX P w) 1 Z.a_e_BadRoad Z.d_e_BadRoad ["self", "value"] (DVG.spE K "value") :=
  DVG.fn_exc T.f_e_BadRoad sc_e_BadRoad rfl rfl fun cdv A outer s H E => pss_cons (ps_ost (pv 0) (pv 1)) pss_nil
theorem sc_e_BadTells : FnScope ["self", "value"] ["self", "value"] (defScope s_e_BadTells) := ⟨rfl, rfl, rfl, by decide +kernel, rfl, by decide +kernel, by decide +kernel⟩
theorem ok_e_BadTells {P : Program} {w : World} {K : PySem.W.Frag} {mg : Str → Option Value} {base : Heap} {Z : Ad} (T : Txt K mg Z) : FnOk P w K mg base (L2.CX P w) 1 Z.a_e_BadTells Z.d_e_BadTells ["self", "value"] (DVG.spE K "value") :=
  DVG.fn_exc T.f_e_BadTells sc_e_BadTells rfl rfl fun cdv A outer s H E => pss_cons (ps_ost (pv 0) (pv 1)) pss_nil
theorem sc_e_NoMouth : FnScope ["self", "value"] ["self", "value"] (defScope s_e_NoMouth) := ⟨rfl, rfl, rfl, by decide +kernel, rfl, by decide +kernel, by decide +kernel⟩
theorem ok_e_NoMouth {P : Program} {w : World} {K : PySem.W.Frag} {mg : Str → Option Value} {base : Heap} {Z : Ad} (T : Txt K mg Z) : FnOk P w K mg base (L2.CX P w) 1 Z.a_e_NoMouth Z.d_e_NoMouth ["self", "value"] (DVG.spE K "value") :=
  DVG.fn_exc T.f_e_NoMouth sc_e_NoMouth rfl rfl fun cdv A outer s H E => pss_cons (ps_ost (pv 0) (pv 1)) pss_nil
theorem sc_e_NameTaken : FnScope ["self", "name"] ["self", "name"] (defScope s_e_NameTaken) := ⟨rfl, rfl, rfl, by decide +kernel, rfl, by decide +kernel, by decide +kernel⟩
theorem ok_e_NameTaken {P : Program} {w : World} {K : PySem.W.Frag} {mg : Str → Option Value} {base : Heap} {Z : Ad} (T : Txt K mg Z) : FnOk P w K mg base (L2.CX P w) 1 Z.a_e_NameTaken Z.d_e_NameTaken ["self", "name"] (DVG.spE K "name") :=
  DVG.fn_exc T.f_e_NameTaken sc_e_NameTaken rfl rfl fun cdv A outer s H E => pss_cons (ps_ost (pv 0) (pv 1)) pss_nil
theorem sc_e_UnknownName : FnScope ["self", "name"] ["self", "name"] (defScope s_e_UnknownName) := ⟨rfl, rfl, rfl, by decide +kernel, rfl, by decide +kernel, by decide +kernel⟩
theorem ok_e_UnknownName {P : Program} {w : World} {K : PySem.W.Frag} {mg : Str → Option Value} {base : Heap} {Z : Ad} (T : Txt K mg Z) : FnOk P w K mg base (L2.CX P w) 1 Z.a_e_UnknownName Z.d_e_UnknownName ["self", "name"] (DVG.spE K "name") :=
  DVG.fn_exc T.f_e_UnknownName sc_e_UnknownName rfl rfl fun cdv A outer s H E => pss_cons (ps_ost (pv 0) (pv 1)) pss_nil
theorem sc_e_TooSmall : FnScope ["self", "name"] ["self", "name"] (defScope s_e_TooSmall) := ⟨rfl, rfl, rfl, by decide +kernel, rfl, by decide +kernel, by decide +kernel⟩
theorem ok_e_TooSmall {P : Program} {w : World} {K : PySem.W.Frag} {mg : Str → Option Value} {base : Heap} {Z : Ad} (T : Txt K mg Z) : FnOk P w K mg base (L2.CX P w) 1 Z.a_e_TooSmall Z.d_e_TooSmall ["self", "name"] (DVG.spE K "name") :=
  DVG.fn_exc T.f_e_TooSmall sc_e_TooSmall rfl rfl fun cdv A outer s H E => pss_cons (ps_ost (pv 0) (pv 1)) pss_nil
theorem sc_e_BadStep : FnScope ["self", "position"] ["self", "position"] (defScope s_e_BadStep) := ⟨rfl, rfl, rfl, by decide +kernel, rfl, by decide +kernel, by decide +kernel⟩
theorem ok_e_BadStep {P : Program} {w : World} {K : PySem.W.Frag} {mg : Str → Option Value} {base : Heap} {Z : Ad} (T : Txt K mg Z) : FnOk P w K mg base (L2.CX P w) 1 Z.a_e_BadStep Z.d_e_BadStep ["self", "position"] (DVG.spE K "position") :=
  DVG.fn_exc T.f_e_BadStep sc_e_BadStep rfl rfl fun cdv A outer s H E => pss_cons (ps_ost (pv 0) (pv 1)) pss_nil
theorem sc_e_BadChange : FnScope ["self", "position"] ["self", "position"] (defScope s_e_BadChange) := ⟨rfl, rfl, rfl, by decide +kernel, rfl, by decide +kernel, by decide +kernel⟩
theorem ok_e_BadChange {P : Program} {w : World} {K : PySem.W.Frag} {mg : Str → Option Value} {base : Heap} {Z : Ad} (T : Txt K mg Z) : FnOk P w K mg base (L2.CX P w) 1 Z.a_e_BadChange Z.d_e_BadChange ["self", "position"] (DVG.spE K "position") :=
  DVG.fn_exc T.f_e_BadChange sc_e_BadChange rfl rfl fun cdv A outer s H E => pss_cons (ps_ost (pv 0) (pv 1)) pss_nil
theorem sc_e_TooDeep : FnScope ["self", "depth"] ["self", "depth"] (defScope s_e_TooDeep) := ⟨rfl, rfl, rfl, by decide +kernel, rfl, by decide +kernel, by decide +kernel⟩
theorem ok_e_TooDeep {P : Program} {w : World} {K : PySem.W.Frag} {mg : Str → Option Value} {base : Heap} {Z : Ad} (T : Txt K mg Z) : FnOk P w K mg base (L2.CX P w) 1 Z.a_e_TooDeep Z.d_e_TooDeep ["self", "depth"] (DVG.spE K "depth") :=
  DVG.fn_exc T.f_e_TooDeep sc_e_TooDeep rfl rfl fun cdv A outer s H E => pss_cons (ps_ost (pv 0) (pv 1)) pss_nil
theorem sc_e_TooGreat : FnScope ["self", "size"] ["self", "size"] (defScope s_e_TooGreat) := ⟨rfl, rfl, rfl, by decide +kernel, rfl, by decide +kernel, by decide +kernel⟩
theorem ok_e_TooGreat {P : Program} {w : World} {K : PySem.W.Frag} {mg : Str → Option Value} {base : Heap} {Z : Ad} (T : Txt K mg Z) : FnOk P w K mg base (L2.CX P w) 1 Z.a_e_TooGreat Z.d_e_TooGreat ["self", "size"] (DVG.spE K "size") :=
  DVG.fn_exc T.f_e_TooGreat sc_e_TooGreat rfl rfl fun cdv A outer s H E => pss_cons (ps_ost (pv 0) (pv 1)) pss_nil
theorem sc_e_OtherHead : FnScope ["self", "head"] ["self", "head"] (defScope s_e_OtherHead) := ⟨rfl, rfl, rfl, by decide +kernel, rfl, by decide +kernel, by decide +kernel⟩
theorem ok_e_OtherHead {P : Program} {w : World} {K : PySem.W.Frag} {mg : Str → Option Value} {base : Heap} {Z : Ad} (T : Txt K mg Z) : FnOk P w K mg base (L2.CX P w) 1 Z.a_e_OtherHead Z.d_e_OtherHead ["self", "head"] (DVG.spE K "head") :=
  DVG.fn_exc T.f_e_OtherHead sc_e_OtherHead rfl rfl fun cdv A outer s H E => pss_cons (ps_ost (pv 0) (pv 1)) pss_nil
theorem sc_e_Held : FnScope ["self", "size"] ["self", "size"] (defScope s_e_Held) := ⟨rfl, rfl, rfl, by decide +kernel, rfl, by decide +kernel, by decide +kernel⟩
theorem ok_e_Held {P : Program} {w : World} {K : PySem.W.Frag} {mg : Str → Option Value} {base : Heap} {Z : Ad} (T : Txt K mg Z) : FnOk P w K mg base (L2.CX P w) 1 Z.a_e_Held Z.d_e_Held ["self", "size"] (DVG.spE K "size") :=
  DVG.fn_exc T.f_e_Held sc_e_Held rfl rfl fun cdv A outer s H E => pss_cons (ps_ost (pv 0) (pv 1)) pss_nil
theorem sc_e_TooFar : FnScope ["self", "count"] ["self", "count"] (defScope s_e_TooFar) := ⟨rfl, rfl, rfl, by decide +kernel, rfl, by decide +kernel, by decide +kernel⟩
theorem ok_e_TooFar {P : Program} {w : World} {K : PySem.W.Frag} {mg : Str → Option Value} {base : Heap} {Z : Ad} (T : Txt K mg Z) : FnOk P w K mg base (L2.CX P w) 1 Z.a_e_TooFar Z.d_e_TooFar ["self", "count"] (DVG.spE K "count") :=
  DVG.fn_exc T.f_e_TooFar sc_e_TooFar rfl rfl fun cdv A outer s H E => pss_cons (ps_ost (pv 0) (pv 1)) pss_nil
theorem sc_e_Hopeless : FnScope ["self", "body"] ["self", "body"] (defScope s_e_Hopeless) := ⟨rfl, rfl, rfl, by decide +kernel, rfl, by decide +kernel, by decide +kernel⟩
theorem ok_e_Hopeless {P : Program} {w : World} {K : PySem.W.Frag} {mg : Str → Option Value} {base : Heap} {Z : Ad} (T : Txt K mg Z) : FnOk P w K mg base (L2.CX P w) 1 Z.a_e_Hopeless Z.d_e_Hopeless ["self", "body"] (DVG.spE K "body") :=
  DVG.fn_exc T.f_e_Hopeless sc_e_Hopeless rfl rfl fun cdv A outer s H E => pss_cons (ps_ost (pv 0) (pv 1)) pss_nil
theorem sc_e_BadText : FnScope ["self", "line"] ["self", "line"] (defScope s_e_BadText) := ⟨rfl, rfl, rfl, by decide +kernel, rfl, by decide +kernel, by decide +kernel⟩
theorem ok_e_BadText {P : Program} {w : World} {K : PySem.W.Frag} {mg : Str → Option Value} {base : Heap} {Z : Ad} (T : Txt K mg Z) : FnOk P w K mg base (L2.CX P w) 1 Z.a_e_BadText Z.d_e_BadText ["self", "line"] (DVG.spE K "line") :=
  DVG.fn_exc T.f_e_BadText sc_e_BadText rfl rfl fun cdv A outer s H E => pss_cons (ps_ost (pv 0) (pv 1)) pss_nil
theorem sc_e_BadCommand : FnScope ["self", "command"] ["self", "command"] (defScope s_e_BadCommand) := ⟨rfl, rfl, rfl, by decide +kernel, rfl, by decide +kernel, by decide +kernel⟩
theorem ok_e_BadCommand {P : Program} {w : World} {K : PySem.W.Frag} {mg : Str → Option Value} {base : Heap} {Z : Ad} (T : Txt K mg Z) : FnOk P w K mg base (L2.CX P w) 1 Z.a_e_BadCommand Z.d_e_BadCommand ["self", "command"] (DVG.spE K "command") :=
  DVG.fn_exc T.f_e_BadCommand sc_e_BadCommand rfl rfl fun cdv A outer s H E => pss_cons (ps_ost (pv 0) (pv 1)) pss_nil
theorem sc_law_source : FnScope ["script", "start", "mixed", "cell", "rest"] ["script", "start"] (defScope s_law_source) := ⟨rfl, rfl, rfl, by decide +kernel, rfl, by decide +kernel, by decide +kernel⟩
theorem ok_law_source {P : Program} {w : World} {K : PySem.W.Frag} {mg : Str → Option Value} {base : Heap} {Z : Ad} (T : Txt K mg Z) : DVG.FnG false P w K mg base CX0 (1) Z.a_law_source Z.d_law_source ["script", "start"] (spD K none 2 (f_law_source)) :=
  fn_d T.f_law_source sc_law_source (fun cdv A outer s H E hr =>
      (pss_cons (ps_set (i := 2) sc_law_source.nd rfl (by first | exact Or.inl rfl | exact Or.inr rfl) (pe_op op_addU pe_int (pv 1)))
      (pss_cons (ps_for PassesOwn.never rfl (pi_seq (pv 0)) (pg_name (i := 3) sc_law_source.nd rfl (by first | exact Or.inl rfl | exact Or.inr rfl)) (pss_one (ps_set (i := 2) sc_law_source.nd rfl (by first | exact Or.inl rfl | exact Or.inr rfl) (pe_op op_addU (pe_op op_mod (pe_callTy call_int' (by rfl) T.b_int bt_int (pa_cons (pe_op op_powB (pe_callTy call_int' (by rfl) T.b_int bt_int (pa_cons (pe_op op_addU (pe_op op_mulU (pv 2) pe_int) (pe_callTy call_int' (by rfl) T.b_int bt_int (pa_cons (pv 3) pa_nil))) pa_nil)) pe_int) pa_nil)) pe_int) pe_int))))
      (pss_cons (ps_set (i := 4) sc_law_source.nd rfl (by first | exact Or.inl rfl | exact Or.inr rfl) pe_int)
      (pss_cons (ps_if (PW.pt (pw_and (pt_cmpR op_lt (pv 1) (pe_callB call_len' (by rfl) T.b_len bt_len (pa_cons (pv 0) pa_nil)) (nomark _)) (pw_and1 (pt_cmpR op_ge (pe_ix ix_seq (pv 0) (pv 1) (fun _ _ => rfl)) (pe_op op_powB pe_int pe_int) (nomark _))))) (pss_one (ps_set (i := 4) sc_law_source.nd rfl (by first | exact Or.inl rfl | exact Or.inr rfl) (pe_op op_sub (pe_ix ix_seq (pv 0) (pv 1) (fun _ _ => rfl)) (pe_op op_powB pe_int pe_int)))) pss_nil)
      (pss_one (ps_ret (pe_lst (pa_cons (pv 4) (pa_cons (pv 2) pa_nil))))))))))
    ((s_seq (s_asg (ev_op k_add ev_int ev_var))
      (s_seq (s_for (i_seq (evd ev_var)) g_name (show EvS _ _ b1_law_source from (s_asg (ev_op k_add (ev_op k_mod (ev_cb c_int (ea_cons (ev_op k_pow (ev_cb c_int (ea_cons (ev_op k_add (ev_op k_mul ev_var ev_int) (ev_cb c_int (ea_cons ev_var ea_nil))) ea_nil)) ev_int) ea_nil)) ev_int) ev_int))))
      (s_seq (s_asg ev_int)
      (s_seq (s_if (t_and (t_test (ev_op k_lt ev_var (ev_cb c_len (ea_cons ev_var ea_nil)))) (t_test (ev_op k_ge (ev_op k_ix ev_var ev_var) (ev_op k_pow ev_int ev_int)))) (s_asg (ev_op k_sub (ev_op k_ix ev_var ev_var) (ev_op k_pow ev_int ev_int))) s_next)
      (s_ret (ev_lst (ed_cons (evd ev_var) (ed_cons (evd ev_var) ed_nil)))))))))

theorem sc_law_draw : FnScope ["source", "span", "found"] ["source", "span"] (defScope s_law_draw) := ⟨rfl, rfl, rfl, by decide +kernel, rfl, by decide +kernel, by decide +kernel⟩
theorem ok_law_draw {P : Program} {w : World} {K : PySem.W.Frag} {mg : Str → Option Value} {base : Heap} {Z : Ad} (T : Txt K mg Z) : DVG.FnG false P w K mg base CX0 (1) Z.a_law_draw Z.d_law_draw ["source", "span"] (spD K (some 0) 2 (f_law_draw)) :=
  fn_d T.f_law_draw sc_law_draw (fun cdv A outer s H E hr =>
      (pss_cons (ps_if (pt_cmpR op_ge (pe_ix ix_seq (pv 0) pe_int (fun _ _ => rfl)) (pv 1) (nomark _)) (pss_cons (ps_set (i := 2) sc_law_draw.nd rfl (by first | exact Or.inl rfl | exact Or.inr rfl) (pe_op op_mod (pe_callTy call_int' (by rfl) T.b_int bt_int (pa_cons (pe_ix ix_seq (pv 0) pe_int (fun _ _ => rfl)) pa_nil)) (pv 1)))
      (pss_cons (ps_asg (pe_op op_fdivW (pe_ix ix_seq (pv 0) pe_int (fun _ _ => rfl)) (pv 1)) (pg_sub (pv 0) pe_int set_list))
      (pss_one (ps_ret (pv 2))))) pss_nil)
      (pss_cons (ps_asg (pe_op op_mod (pe_callTy call_int' (by rfl) T.b_int bt_int (pa_cons (pe_op op_addU (pe_op op_mulU (pe_ix ix_seq (pv 0) pe_int (fun _ _ => rfl)) pe_int) pe_int) pa_nil)) pe_int) (pg_sub (pv 0) pe_int set_list))
      (pss_one (ps_ret (pe_op op_mod (pe_callTy call_int' (by rfl) T.b_int bt_int (pa_cons (pe_op op_fdivW (pe_op op_mod (pe_callTy call_int' (by rfl) T.b_int bt_int (pa_cons (pe_op op_powB (pe_callTy call_int' (by rfl) T.b_int bt_int (pa_cons (pe_ix ix_seq (pv 0) pe_int (fun _ _ => rfl)) pa_nil)) pe_int) pa_nil)) pe_int) pe_int) pa_nil)) (pv 1)))))))
    ((s_seq (s_if (t_test (ev_op k_ge (ev_op k_ix ev_var ev_int) ev_var)) (s_seq (s_asg (ev_op k_mod (ev_cb c_int (ea_cons (ev_op k_ix ev_var ev_int) ea_nil)) ev_var))
      (s_seq (s_setL (evd (ev_op k_div (ev_op k_ix ev_var ev_int) ev_var)) ev_var ev_int)
      (s_ret ev_var))) s_next)
      (s_seq (s_setL (evd (ev_op k_mod (ev_cb c_int (ea_cons (ev_op k_add (ev_op k_mul (ev_op k_ix ev_var ev_int) ev_int) ev_int) ea_nil)) ev_int)) ev_var ev_int)
      (s_ret (ev_op k_mod (ev_cb c_int (ea_cons (ev_op k_div (ev_op k_mod (ev_cb c_int (ea_cons (ev_op k_pow (ev_cb c_int (ea_cons (ev_op k_ix ev_var ev_int) ea_nil)) ev_int) ea_nil)) ev_int) ev_int) ea_nil)) ev_var)))))

theorem sc_law_pick : FnScope ["source", "items"] ["source", "items"] (defScope s_law_pick) := ⟨rfl, rfl, rfl, by decide +kernel, rfl, by decide +kernel, by decide +kernel⟩
theorem ok_law_pick {P : Program} {w : World} {K : PySem.W.Frag} {mg : Str → Option Value} {base : Heap} {Z : Ad} (T : Txt K mg Z) : DVG.FnG false P w K mg base CX0 (2) Z.a_law_pick Z.d_law_pick ["source", "items"] (spD K (some 0) 2 (f_law_pick)) :=
  fn_d T.f_law_pick sc_law_pick (fun cdv A outer s H E hr =>
      (pss_one (ps_ret (pe_ix ix_seq (pv 1) (DVG.pe_callG (ok_law_draw T) ((hr.mono (by first | decide | omega : 1 ≤ 1))) (by rfl) T.g_law_draw T.f_law_draw.kp T.n_law_draw .nil pass0 (pa_cons (pv 0) (pa_cons (pe_callB call_len' (by rfl) T.b_len bt_len (pa_cons (pv 1) pa_nil)) pa_nil))) (fun _ _ => rfl)))))
    ((s_ret (ev_op k_ix ev_var (ev_call (dds := []) (call_ok (bo := (some 0)) (n := 2)) (fun _ _ => rfl) (ea_cons ev_var (ea_cons (ev_of (evd (ev_cb c_len (ea_cons ev_var ea_nil)))) ea_nil))))))

theorem sc_law_by_place_x : FnScope ((["thing", "word", "many", "found"] : List Str) ++ [("0sto" : Str)]) ["thing", "word", "many"] (defScope s_law_by_place) := ⟨rfl, rfl, rfl, by decide +kernel, rfl, by decide +kernel, by decide +kernel⟩
theorem ok_law_by_place_x {P : Program} {w : World} {K : PySem.W.Frag} {mg : Str → Option Value} {base : Heap} {Z : Ad} (T : Txt K mg Z) : DVG.FnG false P w K mg base (L2.CX P w) (3) Z.a_law_by_place Z.d_law_by_place ["thing", "word", "many"] (spX K (EC Z.c) none 3 (f_law_by_place_x Z.c)) :=
  fn_x T.f_law_by_place sc_law_by_place_x (fun cdv A outer s H E hr W tk =>
      (pss_cons (ps_set (i := 3) sc_law_by_place_x.nd rfl (by first | exact Or.inl rfl | exact Or.inr rfl) (pe_lst (pa_cons (DVG.pe_mkK T.e_BadHead.o T.e_BadHead.i T.e_BadHead.t (ok_e_BadHead T) (hr.mono (by first | decide | omega : 2 ≤ 2)).r (by rfl) T.e_BadHead.g T.p_e_BadHead_2 passL (pa_cons (pv 0) pa_nil) pk_nil) (pa_cons (DVG.pe_mkK T.e_BadSteps.o T.e_BadSteps.i T.e_BadSteps.t (ok_e_BadSteps T) (hr.mono (by first | decide | omega : 2 ≤ 2)).r (by rfl) T.e_BadSteps.g T.p_e_BadSteps_2 passL (pa_cons (pv 0) pa_nil) pk_nil) (pa_cons (DVG.pe_mkK T.e_NoStep.o T.e_NoStep.i T.e_NoStep.t (ok_e_NoStep T) (hr.mono (by first | decide | omega : 2 ≤ 2)).r (by rfl) T.e_NoStep.g T.p_e_NoStep_2 passL (pa_cons (pv 0) pa_nil) pk_nil) (pa_cons (DVG.pe_mkK T.e_BadBody.o T.e_BadBody.i T.e_BadBody.t (ok_e_BadBody T) (hr.mono (by first | decide | omega : 2 ≤ 2)).r (by rfl) T.e_BadBody.g T.p_e_BadBody_2 passL (pa_cons (pv 0) pa_nil) pk_nil) (pa_cons (DVG.pe_mkK T.e_BadChain.o T.e_BadChain.i T.e_BadChain.t (ok_e_BadChain T) (hr.mono (by first | decide | omega : 2 ≤ 2)).r (by rfl) T.e_BadChain.g T.p_e_BadChain_2 passL (pa_cons (pv 0) pa_nil) pk_nil) (pa_cons (DVG.pe_mkK T.e_NoBoundary.o T.e_NoBoundary.i T.e_NoBoundary.t (ok_e_NoBoundary T) (hr.mono (by first | decide | omega : 2 ≤ 2)).r (by rfl) T.e_NoBoundary.g T.p_e_NoBoundary_2 passL (pa_cons (pv 0) pa_nil) pk_nil) pa_nil))))))))
      (pss_cons (ps_set (i := 3) sc_law_by_place_x.nd rfl (by first | exact Or.inl rfl | exact Or.inr rfl) (pe_op op_addU (pv 3) (pe_lst (pa_cons (DVG.pe_mkK T.e_NoPiece.o T.e_NoPiece.i T.e_NoPiece.t (ok_e_NoPiece T) (hr.mono (by first | decide | omega : 2 ≤ 2)).r (by rfl) T.e_NoPiece.g T.p_e_NoPiece_2 passL (pa_cons (pv 0) pa_nil) pk_nil) (pa_cons (DVG.pe_mkK T.e_BadStretches.o T.e_BadStretches.i T.e_BadStretches.t (ok_e_BadStretches T) (hr.mono (by first | decide | omega : 2 ≤ 2)).r (by rfl) T.e_BadStretches.g T.p_e_BadStretches_2 passL (pa_cons (pv 0) pa_nil) pk_nil) (pa_cons (DVG.pe_mkK T.e_BadName.o T.e_BadName.i T.e_BadName.t (ok_e_BadName T) (hr.mono (by first | decide | omega : 2 ≤ 2)).r (by rfl) T.e_BadName.g T.p_e_BadName_2 passL (pa_cons (pv 0) pa_nil) pk_nil) (pa_cons (DVG.pe_mkK T.e_BadRoad.o T.e_BadRoad.i T.e_BadRoad.t (ok_e_BadRoad T) (hr.mono (by first | decide | omega : 2 ≤ 2)).r (by rfl) T.e_BadRoad.g T.p_e_BadRoad_2 passL (pa_cons (pe_tup (pa_cons (pv 0) (pa_cons (pv 1) (pa_cons (pv 1) pa_nil)))) pa_nil) pk_nil) pa_nil)))))))
      (pss_cons (ps_set (i := 3) sc_law_by_place_x.nd rfl (by first | exact Or.inl rfl | exact Or.inr rfl) (pe_op op_addU (pv 3) (pe_lst (pa_cons (DVG.pe_mkK T.e_BadTells.o T.e_BadTells.i T.e_BadTells.t (ok_e_BadTells T) (hr.mono (by first | decide | omega : 2 ≤ 2)).r (by rfl) T.e_BadTells.g T.p_e_BadTells_2 passL (pa_cons (pv 0) pa_nil) pk_nil) (pa_cons (DVG.pe_mkK T.e_NoMouth.o T.e_NoMouth.i T.e_NoMouth.t (ok_e_NoMouth T) (hr.mono (by first | decide | omega : 2 ≤ 2)).r (by rfl) T.e_NoMouth.g T.p_e_NoMouth_2 passL (pa_cons (pv 0) pa_nil) pk_nil) (pa_cons (DVG.pe_mkK T.e_NameTaken.o T.e_NameTaken.i T.e_NameTaken.t (ok_e_NameTaken T) (hr.mono (by first | decide | omega : 2 ≤ 2)).r (by rfl) T.e_NameTaken.g T.p_e_NameTaken_2 passL (pa_cons (pv 1) pa_nil) pk_nil) (pa_cons (DVG.pe_mkK T.e_UnknownName.o T.e_UnknownName.i T.e_UnknownName.t (ok_e_UnknownName T) (hr.mono (by first | decide | omega : 2 ≤ 2)).r (by rfl) T.e_UnknownName.g T.p_e_UnknownName_2 passL (pa_cons (pv 0) pa_nil) pk_nil) (pa_cons (DVG.pe_mkK T.e_TooSmall.o T.e_TooSmall.i T.e_TooSmall.t (ok_e_TooSmall T) (hr.mono (by first | decide | omega : 2 ≤ 2)).r (by rfl) T.e_TooSmall.g T.p_e_TooSmall_2 passL (pa_cons (pv 1) pa_nil) pk_nil) pa_nil))))))))
      (pss_cons (ps_set (i := 3) sc_law_by_place_x.nd rfl (by first | exact Or.inl rfl | exact Or.inr rfl) (pe_op op_addU (pv 3) (pe_lst (pa_cons (DVG.pe_mkK T.e_BadStep.o T.e_BadStep.i T.e_BadStep.t (ok_e_BadStep T) (hr.mono (by first | decide | omega : 2 ≤ 2)).r (by rfl) T.e_BadStep.g T.p_e_BadStep_2 passL (pa_cons (pv 2) pa_nil) pk_nil) (pa_cons (DVG.pe_mkK T.e_BadChange.o T.e_BadChange.i T.e_BadChange.t (ok_e_BadChange T) (hr.mono (by first | decide | omega : 2 ≤ 2)).r (by rfl) T.e_BadChange.g T.p_e_BadChange_2 passL (pa_cons (pv 2) pa_nil) pk_nil) (pa_cons (DVG.pe_mkK T.e_TooDeep.o T.e_TooDeep.i T.e_TooDeep.t (ok_e_TooDeep T) (hr.mono (by first | decide | omega : 2 ≤ 2)).r (by rfl) T.e_TooDeep.g T.p_e_TooDeep_2 passL (pa_cons (pv 2) pa_nil) pk_nil) (pa_cons (DVG.pe_mkK T.e_TooGreat.o T.e_TooGreat.i T.e_TooGreat.t (ok_e_TooGreat T) (hr.mono (by first | decide | omega : 2 ≤ 2)).r (by rfl) T.e_TooGreat.g T.p_e_TooGreat_2 passL (pa_cons (pv 2) pa_nil) pk_nil) (pa_cons (DVG.pe_mkK T.e_OtherHead.o T.e_OtherHead.i T.e_OtherHead.t (ok_e_OtherHead T) (hr.mono (by first | decide | omega : 2 ≤ 2)).r (by rfl) T.e_OtherHead.g T.p_e_OtherHead_2 passL (pa_cons (pv 2) pa_nil) pk_nil) (pa_cons (DVG.pe_mkK T.e_Held.o T.e_Held.i T.e_Held.t (ok_e_Held T) (hr.mono (by first | decide | omega : 2 ≤ 2)).r (by rfl) T.e_Held.g T.p_e_Held_2 passL (pa_cons (pv 2) pa_nil) pk_nil) pa_nil)))))))))
      (pss_one (ps_ret (pe_op op_addU (pv 3) (pe_lst (pa_cons (DVG.pe_mkK T.e_TooFar.o T.e_TooFar.i T.e_TooFar.t (ok_e_TooFar T) (hr.mono (by first | decide | omega : 2 ≤ 2)).r (by rfl) T.e_TooFar.g T.p_e_TooFar_2 passL (pa_cons (pv 2) pa_nil) pk_nil) (pa_cons (DVG.pe_mkK T.e_Hopeless.o T.e_Hopeless.i T.e_Hopeless.t (ok_e_Hopeless T) (hr.mono (by first | decide | omega : 2 ≤ 2)).r (by rfl) T.e_Hopeless.g T.p_e_Hopeless_2 passL (pa_cons (pv 2) pa_nil) pk_nil) (pa_cons (DVG.pe_mkK T.e_BadText.o T.e_BadText.i T.e_BadText.t (ok_e_BadText T) (hr.mono (by first | decide | omega : 2 ≤ 2)).r (by rfl) T.e_BadText.g T.p_e_BadText_2 passL (pa_cons (pv 2) pa_nil) pk_nil) (pa_cons (DVG.pe_mkK T.e_BadCommand.o T.e_BadCommand.i T.e_BadCommand.t (ok_e_BadCommand T) (hr.mono (by first | decide | omega : 2 ≤ 2)).r (by rfl) T.e_BadCommand.g T.p_e_BadCommand_2 passL (pa_cons (pv 0) pa_nil) pk_nil) pa_nil)))))))))))))
    ((xs_lift (s_seq (s_asg (ev_lst (ed_cons (evd (ev_mkx gV01 (by decide) T.e_BadHead.o T.e_BadHead.n (ed_cons (evd ev_var) ed_nil) ed_nil)) (ed_cons (evd (ev_mkx gV01 (by decide) T.e_BadSteps.o T.e_BadSteps.n (ed_cons (evd ev_var) ed_nil) ed_nil)) (ed_cons (evd (ev_mkx gV01 (by decide) T.e_NoStep.o T.e_NoStep.n (ed_cons (evd ev_var) ed_nil) ed_nil)) (ed_cons (evd (ev_mkx gV01 (by decide) T.e_BadBody.o T.e_BadBody.n (ed_cons (evd ev_var) ed_nil) ed_nil)) (ed_cons (evd (ev_mkx gV01 (by decide) T.e_BadChain.o T.e_BadChain.n (ed_cons (evd ev_var) ed_nil) ed_nil)) (ed_cons (evd (ev_mkx gV01 (by decide) T.e_NoBoundary.o T.e_NoBoundary.n (ed_cons (evd ev_var) ed_nil) ed_nil)) ed_nil))))))))
      (s_seq (s_asg (ev_op k_add ev_var (ev_lst (ed_cons (evd (ev_mkx gV01 (by decide) T.e_NoPiece.o T.e_NoPiece.n (ed_cons (evd ev_var) ed_nil) ed_nil)) (ed_cons (evd (ev_mkx gV01 (by decide) T.e_BadStretches.o T.e_BadStretches.n (ed_cons (evd ev_var) ed_nil) ed_nil)) (ed_cons (evd (ev_mkx gV01 (by decide) T.e_BadName.o T.e_BadName.n (ed_cons (evd ev_var) ed_nil) ed_nil)) (ed_cons (evd (ev_mkx gV01 (by decide) T.e_BadRoad.o T.e_BadRoad.n (ed_cons (evd (ev_tup (ed_cons (evd ev_var) (ed_cons (evd ev_var) (ed_cons (evd ev_var) ed_nil))))) ed_nil) ed_nil)) ed_nil)))))))
      (s_seq (s_asg (ev_op k_add ev_var (ev_lst (ed_cons (evd (ev_mkx gV01 (by decide) T.e_BadTells.o T.e_BadTells.n (ed_cons (evd ev_var) ed_nil) ed_nil)) (ed_cons (evd (ev_mkx gV01 (by decide) T.e_NoMouth.o T.e_NoMouth.n (ed_cons (evd ev_var) ed_nil) ed_nil)) (ed_cons (evd (ev_mkx gV01 (by decide) T.e_NameTaken.o T.e_NameTaken.n (ed_cons (evd ev_var) ed_nil) ed_nil)) (ed_cons (evd (ev_mkx gV01 (by decide) T.e_UnknownName.o T.e_UnknownName.n (ed_cons (evd ev_var) ed_nil) ed_nil)) (ed_cons (evd (ev_mkx gV01 (by decide) T.e_TooSmall.o T.e_TooSmall.n (ed_cons (evd ev_var) ed_nil) ed_nil)) ed_nil))))))))
      (s_seq (s_asg (ev_op k_add ev_var (ev_lst (ed_cons (evd (ev_mkx gV01 (by decide) T.e_BadStep.o T.e_BadStep.n (ed_cons (evd ev_var) ed_nil) ed_nil)) (ed_cons (evd (ev_mkx gV01 (by decide) T.e_BadChange.o T.e_BadChange.n (ed_cons (evd ev_var) ed_nil) ed_nil)) (ed_cons (evd (ev_mkx gV01 (by decide) T.e_TooDeep.o T.e_TooDeep.n (ed_cons (evd ev_var) ed_nil) ed_nil)) (ed_cons (evd (ev_mkx gV01 (by decide) T.e_TooGreat.o T.e_TooGreat.n (ed_cons (evd ev_var) ed_nil) ed_nil)) (ed_cons (evd (ev_mkx gV01 (by decide) T.e_OtherHead.o T.e_OtherHead.n (ed_cons (evd ev_var) ed_nil) ed_nil)) (ed_cons (evd (ev_mkx gV01 (by decide) T.e_Held.o T.e_Held.n (ed_cons (evd ev_var) ed_nil) ed_nil)) ed_nil)))))))))
      (s_ret (ev_op k_add ev_var (ev_lst (ed_cons (evd (ev_mkx gV01 (by decide) T.e_TooFar.o T.e_TooFar.n (ed_cons (evd ev_var) ed_nil) ed_nil)) (ed_cons (evd (ev_mkx gV01 (by decide) T.e_Hopeless.o T.e_Hopeless.n (ed_cons (evd ev_var) ed_nil) ed_nil)) (ed_cons (evd (ev_mkx gV01 (by decide) T.e_BadText.o T.e_BadText.n (ed_cons (evd ev_var) ed_nil) ed_nil)) (ed_cons (evd (ev_mkx gV01 (by decide) T.e_BadCommand.o T.e_BadCommand.n (ed_cons (evd ev_var) ed_nil) ed_nil)) ed_nil)))))))))))))

theorem sc_law_by_name_x : FnScope ((["thing", "word", "many", "found"] : List Str) ++ [("0sto" : Str)]) ["thing", "word", "many"] (defScope s_law_by_name) := ⟨rfl, rfl, rfl, by decide +kernel, rfl, by decide +kernel, by decide +kernel⟩
theorem ok_law_by_name_x {P : Program} {w : World} {K : PySem.W.Frag} {mg : Str → Option Value} {base : Heap} {Z : Ad} (T : Txt K mg Z) : DVG.FnG false P w K mg base (L2.CX P w) (3) Z.a_law_by_name Z.d_law_by_name ["thing", "word", "many"] (spX K (EC Z.c) none 3 (f_law_by_name_x Z.c)) :=
  fn_x T.f_law_by_name sc_law_by_name_x (fun cdv A outer s H E hr W tk =>
      (pss_cons (ps_set (i := 3) sc_law_by_name_x.nd rfl (by first | exact Or.inl rfl | exact Or.inr rfl) (pe_lst (pa_cons (DVG.pe_mkK0 T.e_BadHead.o T.e_BadHead.i T.e_BadHead.t (ok_e_BadHead T) (hr.mono (by first | decide | omega : 2 ≤ 2)).r (by rfl) T.e_BadHead.g T.p_e_BadHead_1_value passL (pk_cons (pv 0) pk_nil)) (pa_cons (DVG.pe_mkK0 T.e_BadSteps.o T.e_BadSteps.i T.e_BadSteps.t (ok_e_BadSteps T) (hr.mono (by first | decide | omega : 2 ≤ 2)).r (by rfl) T.e_BadSteps.g T.p_e_BadSteps_1_value passL (pk_cons (pv 0) pk_nil)) (pa_cons (DVG.pe_mkK0 T.e_NoStep.o T.e_NoStep.i T.e_NoStep.t (ok_e_NoStep T) (hr.mono (by first | decide | omega : 2 ≤ 2)).r (by rfl) T.e_NoStep.g T.p_e_NoStep_1_value passL (pk_cons (pv 0) pk_nil)) (pa_cons (DVG.pe_mkK0 T.e_BadBody.o T.e_BadBody.i T.e_BadBody.t (ok_e_BadBody T) (hr.mono (by first | decide | omega : 2 ≤ 2)).r (by rfl) T.e_BadBody.g T.p_e_BadBody_1_value passL (pk_cons (pv 0) pk_nil)) pa_nil))))))
      (pss_cons (ps_set (i := 3) sc_law_by_name_x.nd rfl (by first | exact Or.inl rfl | exact Or.inr rfl) (pe_op op_addU (pv 3) (pe_lst (pa_cons (DVG.pe_mkK0 T.e_BadChain.o T.e_BadChain.i T.e_BadChain.t (ok_e_BadChain T) (hr.mono (by first | decide | omega : 2 ≤ 2)).r (by rfl) T.e_BadChain.g T.p_e_BadChain_1_value passL (pk_cons (pv 0) pk_nil)) (pa_cons (DVG.pe_mkK0 T.e_NoBoundary.o T.e_NoBoundary.i T.e_NoBoundary.t (ok_e_NoBoundary T) (hr.mono (by first | decide | omega : 2 ≤ 2)).r (by rfl) T.e_NoBoundary.g T.p_e_NoBoundary_1_value passL (pk_cons (pv 0) pk_nil)) (pa_cons (DVG.pe_mkK0 T.e_NoPiece.o T.e_NoPiece.i T.e_NoPiece.t (ok_e_NoPiece T) (hr.mono (by first | decide | omega : 2 ≤ 2)).r (by rfl) T.e_NoPiece.g T.p_e_NoPiece_1_value passL (pk_cons (pv 0) pk_nil)) (pa_cons (DVG.pe_mkK0 T.e_BadStretches.o T.e_BadStretches.i T.e_BadStretches.t (ok_e_BadStretches T) (hr.mono (by first | decide | omega : 2 ≤ 2)).r (by rfl) T.e_BadStretches.g T.p_e_BadStretches_1_value passL (pk_cons (pv 0) pk_nil)) pa_nil)))))))
      (pss_cons (ps_set (i := 3) sc_law_by_name_x.nd rfl (by first | exact Or.inl rfl | exact Or.inr rfl) (pe_op op_addU (pv 3) (pe_lst (pa_cons (DVG.pe_mkK0 T.e_BadName.o T.e_BadName.i T.e_BadName.t (ok_e_BadName T) (hr.mono (by first | decide | omega : 2 ≤ 2)).r (by rfl) T.e_BadName.g T.p_e_BadName_1_value passL (pk_cons (pv 0) pk_nil)) (pa_cons (DVG.pe_mkK0 T.e_BadRoad.o T.e_BadRoad.i T.e_BadRoad.t (ok_e_BadRoad T) (hr.mono (by first | decide | omega : 2 ≤ 2)).r (by rfl) T.e_BadRoad.g T.p_e_BadRoad_1_value passL (pk_cons (pe_tup (pa_cons (pv 0) (pa_cons (pv 1) (pa_cons (pv 1) pa_nil)))) pk_nil)) (pa_cons (DVG.pe_mkK0 T.e_BadTells.o T.e_BadTells.i T.e_BadTells.t (ok_e_BadTells T) (hr.mono (by first | decide | omega : 2 ≤ 2)).r (by rfl) T.e_BadTells.g T.p_e_BadTells_1_value passL (pk_cons (pv 0) pk_nil)) pa_nil))))))
      (pss_cons (ps_set (i := 3) sc_law_by_name_x.nd rfl (by first | exact Or.inl rfl | exact Or.inr rfl) (pe_op op_addU (pv 3) (pe_lst (pa_cons (DVG.pe_mkK0 T.e_NoMouth.o T.e_NoMouth.i T.e_NoMouth.t (ok_e_NoMouth T) (hr.mono (by first | decide | omega : 2 ≤ 2)).r (by rfl) T.e_NoMouth.g T.p_e_NoMouth_1_value passL (pk_cons (pv 0) pk_nil)) (pa_cons (DVG.pe_mkK0 T.e_NameTaken.o T.e_NameTaken.i T.e_NameTaken.t (ok_e_NameTaken T) (hr.mono (by first | decide | omega : 2 ≤ 2)).r (by rfl) T.e_NameTaken.g T.p_e_NameTaken_1_name passL (pk_cons (pv 1) pk_nil)) (pa_cons (DVG.pe_mkK0 T.e_UnknownName.o T.e_UnknownName.i T.e_UnknownName.t (ok_e_UnknownName T) (hr.mono (by first | decide | omega : 2 ≤ 2)).r (by rfl) T.e_UnknownName.g T.p_e_UnknownName_1_name passL (pk_cons (pv 0) pk_nil)) (pa_cons (DVG.pe_mkK0 T.e_TooSmall.o T.e_TooSmall.i T.e_TooSmall.t (ok_e_TooSmall T) (hr.mono (by first | decide | omega : 2 ≤ 2)).r (by rfl) T.e_TooSmall.g T.p_e_TooSmall_1_name passL (pk_cons (pv 1) pk_nil)) pa_nil)))))))
      (pss_cons (ps_set (i := 3) sc_law_by_name_x.nd rfl (by first | exact Or.inl rfl | exact Or.inr rfl) (pe_op op_addU (pv 3) (pe_lst (pa_cons (DVG.pe_mkK0 T.e_BadStep.o T.e_BadStep.i T.e_BadStep.t (ok_e_BadStep T) (hr.mono (by first | decide | omega : 2 ≤ 2)).r (by rfl) T.e_BadStep.g T.p_e_BadStep_1_position passL (pk_cons (pv 2) pk_nil)) (pa_cons (DVG.pe_mkK0 T.e_BadChange.o T.e_BadChange.i T.e_BadChange.t (ok_e_BadChange T) (hr.mono (by first | decide | omega : 2 ≤ 2)).r (by rfl) T.e_BadChange.g T.p_e_BadChange_1_position passL (pk_cons (pv 2) pk_nil)) (pa_cons (DVG.pe_mkK0 T.e_TooDeep.o T.e_TooDeep.i T.e_TooDeep.t (ok_e_TooDeep T) (hr.mono (by first | decide | omega : 2 ≤ 2)).r (by rfl) T.e_TooDeep.g T.p_e_TooDeep_1_depth passL (pk_cons (pv 2) pk_nil)) (pa_cons (DVG.pe_mkK0 T.e_TooGreat.o T.e_TooGreat.i T.e_TooGreat.t (ok_e_TooGreat T) (hr.mono (by first | decide | omega : 2 ≤ 2)).r (by rfl) T.e_TooGreat.g T.p_e_TooGreat_1_size passL (pk_cons (pv 2) pk_nil)) pa_nil)))))))
      (pss_cons (ps_set (i := 3) sc_law_by_name_x.nd rfl (by first | exact Or.inl rfl | exact Or.inr rfl) (pe_op op_addU (pv 3) (pe_lst (pa_cons (DVG.pe_mkK0 T.e_OtherHead.o T.e_OtherHead.i T.e_OtherHead.t (ok_e_OtherHead T) (hr.mono (by first | decide | omega : 2 ≤ 2)).r (by rfl) T.e_OtherHead.g T.p_e_OtherHead_1_head passL (pk_cons (pv 2) pk_nil)) (pa_cons (DVG.pe_mkK0 T.e_Held.o T.e_Held.i T.e_Held.t (ok_e_Held T) (hr.mono (by first | decide | omega : 2 ≤ 2)).r (by rfl) T.e_Held.g T.p_e_Held_1_size passL (pk_cons (pv 2) pk_nil)) (pa_cons (DVG.pe_mkK0 T.e_TooFar.o T.e_TooFar.i T.e_TooFar.t (ok_e_TooFar T) (hr.mono (by first | decide | omega : 2 ≤ 2)).r (by rfl) T.e_TooFar.g T.p_e_TooFar_1_count passL (pk_cons (pv 2) pk_nil)) (pa_cons (DVG.pe_mkK0 T.e_Hopeless.o T.e_Hopeless.i T.e_Hopeless.t (ok_e_Hopeless T) (hr.mono (by first | decide | omega : 2 ≤ 2)).r (by rfl) T.e_Hopeless.g T.p_e_Hopeless_1_body passL (pk_cons (pv 2) pk_nil)) pa_nil)))))))
      (pss_one (ps_ret (pe_op op_addU (pv 3) (pe_lst (pa_cons (DVG.pe_mkK0 T.e_BadText.o T.e_BadText.i T.e_BadText.t (ok_e_BadText T) (hr.mono (by first | decide | omega : 2 ≤ 2)).r (by rfl) T.e_BadText.g T.p_e_BadText_1_line passL (pk_cons (pv 2) pk_nil)) (pa_cons (DVG.pe_mkK0 T.e_BadCommand.o T.e_BadCommand.i T.e_BadCommand.t (ok_e_BadCommand T) (hr.mono (by first | decide | omega : 2 ≤ 2)).r (by rfl) T.e_BadCommand.g T.p_e_BadCommand_1_command passL (pk_cons (pv 0) pk_nil)) pa_nil)))))))))))))
    ((xs_lift (s_seq (s_asg (ev_lst (ed_cons (evd (ev_mkx gV01 (by decide) T.e_BadHead.o T.e_BadHead.n ed_nil (ed_cons (evd ev_var) ed_nil))) (ed_cons (evd (ev_mkx gV01 (by decide) T.e_BadSteps.o T.e_BadSteps.n ed_nil (ed_cons (evd ev_var) ed_nil))) (ed_cons (evd (ev_mkx gV01 (by decide) T.e_NoStep.o T.e_NoStep.n ed_nil (ed_cons (evd ev_var) ed_nil))) (ed_cons (evd (ev_mkx gV01 (by decide) T.e_BadBody.o T.e_BadBody.n ed_nil (ed_cons (evd ev_var) ed_nil))) ed_nil))))))
      (s_seq (s_asg (ev_op k_add ev_var (ev_lst (ed_cons (evd (ev_mkx gV01 (by decide) T.e_BadChain.o T.e_BadChain.n ed_nil (ed_cons (evd ev_var) ed_nil))) (ed_cons (evd (ev_mkx gV01 (by decide) T.e_NoBoundary.o T.e_NoBoundary.n ed_nil (ed_cons (evd ev_var) ed_nil))) (ed_cons (evd (ev_mkx gV01 (by decide) T.e_NoPiece.o T.e_NoPiece.n ed_nil (ed_cons (evd ev_var) ed_nil))) (ed_cons (evd (ev_mkx gV01 (by decide) T.e_BadStretches.o T.e_BadStretches.n ed_nil (ed_cons (evd ev_var) ed_nil))) ed_nil)))))))
      (s_seq (s_asg (ev_op k_add ev_var (ev_lst (ed_cons (evd (ev_mkx gV01 (by decide) T.e_BadName.o T.e_BadName.n ed_nil (ed_cons (evd ev_var) ed_nil))) (ed_cons (evd (ev_mkx gV01 (by decide) T.e_BadRoad.o T.e_BadRoad.n ed_nil (ed_cons (evd (ev_tup (ed_cons (evd ev_var) (ed_cons (evd ev_var) (ed_cons (evd ev_var) ed_nil))))) ed_nil))) (ed_cons (evd (ev_mkx gV01 (by decide) T.e_BadTells.o T.e_BadTells.n ed_nil (ed_cons (evd ev_var) ed_nil))) ed_nil))))))
      (s_seq (s_asg (ev_op k_add ev_var (ev_lst (ed_cons (evd (ev_mkx gV01 (by decide) T.e_NoMouth.o T.e_NoMouth.n ed_nil (ed_cons (evd ev_var) ed_nil))) (ed_cons (evd (ev_mkx gV01 (by decide) T.e_NameTaken.o T.e_NameTaken.n ed_nil (ed_cons (evd ev_var) ed_nil))) (ed_cons (evd (ev_mkx gV01 (by decide) T.e_UnknownName.o T.e_UnknownName.n ed_nil (ed_cons (evd ev_var) ed_nil))) (ed_cons (evd (ev_mkx gV01 (by decide) T.e_TooSmall.o T.e_TooSmall.n ed_nil (ed_cons (evd ev_var) ed_nil))) ed_nil)))))))
      (s_seq (s_asg (ev_op k_add ev_var (ev_lst (ed_cons (evd (ev_mkx gV01 (by decide) T.e_BadStep.o T.e_BadStep.n ed_nil (ed_cons (evd ev_var) ed_nil))) (ed_cons (evd (ev_mkx gV01 (by decide) T.e_BadChange.o T.e_BadChange.n ed_nil (ed_cons (evd ev_var) ed_nil))) (ed_cons (evd (ev_mkx gV01 (by decide) T.e_TooDeep.o T.e_TooDeep.n ed_nil (ed_cons (evd ev_var) ed_nil))) (ed_cons (evd (ev_mkx gV01 (by decide) T.e_TooGreat.o T.e_TooGreat.n ed_nil (ed_cons (evd ev_var) ed_nil))) ed_nil)))))))
      (s_seq (s_asg (ev_op k_add ev_var (ev_lst (ed_cons (evd (ev_mkx gV01 (by decide) T.e_OtherHead.o T.e_OtherHead.n ed_nil (ed_cons (evd ev_var) ed_nil))) (ed_cons (evd (ev_mkx gV01 (by decide) T.e_Held.o T.e_Held.n ed_nil (ed_cons (evd ev_var) ed_nil))) (ed_cons (evd (ev_mkx gV01 (by decide) T.e_TooFar.o T.e_TooFar.n ed_nil (ed_cons (evd ev_var) ed_nil))) (ed_cons (evd (ev_mkx gV01 (by decide) T.e_Hopeless.o T.e_Hopeless.n ed_nil (ed_cons (evd ev_var) ed_nil))) ed_nil)))))))
      (s_ret (ev_op k_add ev_var (ev_lst (ed_cons (evd (ev_mkx gV01 (by decide) T.e_BadText.o T.e_BadText.n ed_nil (ed_cons (evd ev_var) ed_nil))) (ed_cons (evd (ev_mkx gV01 (by decide) T.e_BadCommand.o T.e_BadCommand.n ed_nil (ed_cons (evd ev_var) ed_nil))) ed_nil)))))))))))))

theorem sc_law_kinds : FnScope ["error", "found"] ["error"] (defScope s_law_kinds) := ⟨rfl, rfl, rfl, by decide +kernel, rfl, by decide +kernel, by decide +kernel⟩
theorem ok_law_kinds {P : Program} {w : World} {K : PySem.W.Frag} {mg : Str → Option Value} {base : Heap} {Z : Ad} (T : Txt K mg Z) : DVG.FnG false P w K mg base CX0 (1) Z.a_law_kinds Z.d_law_kinds ["error"] (spD K none 1 (f_law_kinds Z.c)) :=
  fn_d T.f_law_kinds sc_law_kinds (fun cdv A outer s H E hr =>
      (pss_cons (ps_set (i := 1) sc_law_kinds.nd rfl (by first | exact Or.inl rfl | exact Or.inr rfl) (pe_lst (pa_cons (pe_callB call_isV (by rfl) T.b_isinstance bt_isinstance (pa_cons (pv 0) (pa_cons (pe_glob (v := .ref Z.c.e_BadHead) (by rfl) T.e_BadHead.g rfl) pa_nil))) (pa_cons (pe_callB call_isV (by rfl) T.b_isinstance bt_isinstance (pa_cons (pv 0) (pa_cons (pe_glob (v := .ref Z.c.e_BadSteps) (by rfl) T.e_BadSteps.g rfl) pa_nil))) (pa_cons (pe_callB call_isV (by rfl) T.b_isinstance bt_isinstance (pa_cons (pv 0) (pa_cons (pe_glob (v := .ref Z.c.e_NoStep) (by rfl) T.e_NoStep.g rfl) pa_nil))) pa_nil)))))
      (pss_cons (ps_set (i := 1) sc_law_kinds.nd rfl (by first | exact Or.inl rfl | exact Or.inr rfl) (pe_op op_addU (pv 1) (pe_lst (pa_cons (pe_callB call_isV (by rfl) T.b_isinstance bt_isinstance (pa_cons (pv 0) (pa_cons (pe_glob (v := .ref Z.c.e_BadBody) (by rfl) T.e_BadBody.g rfl) pa_nil))) (pa_cons (pe_callB call_isV (by rfl) T.b_isinstance bt_isinstance (pa_cons (pv 0) (pa_cons (pe_glob (v := .ref Z.c.e_BadChain) (by rfl) T.e_BadChain.g rfl) pa_nil))) (pa_cons (pe_callB call_isV (by rfl) T.b_isinstance bt_isinstance (pa_cons (pv 0) (pa_cons (pe_glob (v := .ref Z.c.e_NoBoundary) (by rfl) T.e_NoBoundary.g rfl) pa_nil))) pa_nil))))))
      (pss_cons (ps_set (i := 1) sc_law_kinds.nd rfl (by first | exact Or.inl rfl | exact Or.inr rfl) (pe_op op_addU (pv 1) (pe_lst (pa_cons (pe_callB call_isV (by rfl) T.b_isinstance bt_isinstance (pa_cons (pv 0) (pa_cons (pe_glob (v := .ref Z.c.e_NoPiece) (by rfl) T.e_NoPiece.g rfl) pa_nil))) (pa_cons (pe_callB call_isV (by rfl) T.b_isinstance bt_isinstance (pa_cons (pv 0) (pa_cons (pe_glob (v := .ref Z.c.e_BadStretches) (by rfl) T.e_BadStretches.g rfl) pa_nil))) (pa_cons (pe_callB call_isV (by rfl) T.b_isinstance bt_isinstance (pa_cons (pv 0) (pa_cons (pe_glob (v := .ref Z.c.e_BadName) (by rfl) T.e_BadName.g rfl) pa_nil))) pa_nil))))))
      (pss_cons (ps_set (i := 1) sc_law_kinds.nd rfl (by first | exact Or.inl rfl | exact Or.inr rfl) (pe_op op_addU (pv 1) (pe_lst (pa_cons (pe_callB call_isV (by rfl) T.b_isinstance bt_isinstance (pa_cons (pv 0) (pa_cons (pe_glob (v := .ref Z.c.e_BadRoad) (by rfl) T.e_BadRoad.g rfl) pa_nil))) (pa_cons (pe_callB call_isV (by rfl) T.b_isinstance bt_isinstance (pa_cons (pv 0) (pa_cons (pe_glob (v := .ref Z.c.e_BadTells) (by rfl) T.e_BadTells.g rfl) pa_nil))) (pa_cons (pe_callB call_isV (by rfl) T.b_isinstance bt_isinstance (pa_cons (pv 0) (pa_cons (pe_glob (v := .ref Z.c.e_NoMouth) (by rfl) T.e_NoMouth.g rfl) pa_nil))) pa_nil))))))
      (pss_cons (ps_set (i := 1) sc_law_kinds.nd rfl (by first | exact Or.inl rfl | exact Or.inr rfl) (pe_op op_addU (pv 1) (pe_lst (pa_cons (pe_callB call_isV (by rfl) T.b_isinstance bt_isinstance (pa_cons (pv 0) (pa_cons (pe_glob (v := .ref Z.c.e_NameTaken) (by rfl) T.e_NameTaken.g rfl) pa_nil))) (pa_cons (pe_callB call_isV (by rfl) T.b_isinstance bt_isinstance (pa_cons (pv 0) (pa_cons (pe_glob (v := .ref Z.c.e_UnknownName) (by rfl) T.e_UnknownName.g rfl) pa_nil))) (pa_cons (pe_callB call_isV (by rfl) T.b_isinstance bt_isinstance (pa_cons (pv 0) (pa_cons (pe_glob (v := .ref Z.c.e_TooSmall) (by rfl) T.e_TooSmall.g rfl) pa_nil))) pa_nil))))))
      (pss_cons (ps_set (i := 1) sc_law_kinds.nd rfl (by first | exact Or.inl rfl | exact Or.inr rfl) (pe_op op_addU (pv 1) (pe_lst (pa_cons (pe_callB call_isV (by rfl) T.b_isinstance bt_isinstance (pa_cons (pv 0) (pa_cons (pe_glob (v := .ref Z.c.e_BadStep) (by rfl) T.e_BadStep.g rfl) pa_nil))) (pa_cons (pe_callB call_isV (by rfl) T.b_isinstance bt_isinstance (pa_cons (pv 0) (pa_cons (pe_glob (v := .ref Z.c.e_BadChange) (by rfl) T.e_BadChange.g rfl) pa_nil))) (pa_cons (pe_callB call_isV (by rfl) T.b_isinstance bt_isinstance (pa_cons (pv 0) (pa_cons (pe_glob (v := .ref Z.c.e_TooDeep) (by rfl) T.e_TooDeep.g rfl) pa_nil))) pa_nil))))))
      (pss_cons (ps_set (i := 1) sc_law_kinds.nd rfl (by first | exact Or.inl rfl | exact Or.inr rfl) (pe_op op_addU (pv 1) (pe_lst (pa_cons (pe_callB call_isV (by rfl) T.b_isinstance bt_isinstance (pa_cons (pv 0) (pa_cons (pe_glob (v := .ref Z.c.e_TooGreat) (by rfl) T.e_TooGreat.g rfl) pa_nil))) (pa_cons (pe_callB call_isV (by rfl) T.b_isinstance bt_isinstance (pa_cons (pv 0) (pa_cons (pe_glob (v := .ref Z.c.e_OtherHead) (by rfl) T.e_OtherHead.g rfl) pa_nil))) (pa_cons (pe_callB call_isV (by rfl) T.b_isinstance bt_isinstance (pa_cons (pv 0) (pa_cons (pe_glob (v := .ref Z.c.e_Held) (by rfl) T.e_Held.g rfl) pa_nil))) pa_nil))))))
      (pss_cons (ps_set (i := 1) sc_law_kinds.nd rfl (by first | exact Or.inl rfl | exact Or.inr rfl) (pe_op op_addU (pv 1) (pe_lst (pa_cons (pe_callB call_isV (by rfl) T.b_isinstance bt_isinstance (pa_cons (pv 0) (pa_cons (pe_glob (v := .ref Z.c.e_TooFar) (by rfl) T.e_TooFar.g rfl) pa_nil))) (pa_cons (pe_callB call_isV (by rfl) T.b_isinstance bt_isinstance (pa_cons (pv 0) (pa_cons (pe_glob (v := .ref Z.c.e_Hopeless) (by rfl) T.e_Hopeless.g rfl) pa_nil))) (pa_cons (pe_callB call_isV (by rfl) T.b_isinstance bt_isinstance (pa_cons (pv 0) (pa_cons (pe_glob (v := .ref Z.c.e_BadText) (by rfl) T.e_BadText.g rfl) pa_nil))) pa_nil))))))
      (pss_one (ps_ret (pe_op op_addU (pv 1) (pe_lst (pa_cons (pe_callB call_isV (by rfl) T.b_isinstance bt_isinstance (pa_cons (pv 0) (pa_cons (pe_glob (v := .ref Z.c.e_BadCommand) (by rfl) T.e_BadCommand.g rfl) pa_nil))) pa_nil))))))))))))))
    ((s_seq (s_asg (ev_lst (ed_cons (evd (ev_cb (c_isX T.ea) (ea_cons ev_var (ea_cons ev_con ea_nil)))) (ed_cons (evd (ev_cb (c_isX T.ea) (ea_cons ev_var (ea_cons ev_con ea_nil)))) (ed_cons (evd (ev_cb (c_isX T.ea) (ea_cons ev_var (ea_cons ev_con ea_nil)))) ed_nil)))))
      (s_seq (s_asg (ev_op k_add ev_var (ev_lst (ed_cons (evd (ev_cb (c_isX T.ea) (ea_cons ev_var (ea_cons ev_con ea_nil)))) (ed_cons (evd (ev_cb (c_isX T.ea) (ea_cons ev_var (ea_cons ev_con ea_nil)))) (ed_cons (evd (ev_cb (c_isX T.ea) (ea_cons ev_var (ea_cons ev_con ea_nil)))) ed_nil))))))
      (s_seq (s_asg (ev_op k_add ev_var (ev_lst (ed_cons (evd (ev_cb (c_isX T.ea) (ea_cons ev_var (ea_cons ev_con ea_nil)))) (ed_cons (evd (ev_cb (c_isX T.ea) (ea_cons ev_var (ea_cons ev_con ea_nil)))) (ed_cons (evd (ev_cb (c_isX T.ea) (ea_cons ev_var (ea_cons ev_con ea_nil)))) ed_nil))))))
      (s_seq (s_asg (ev_op k_add ev_var (ev_lst (ed_cons (evd (ev_cb (c_isX T.ea) (ea_cons ev_var (ea_cons ev_con ea_nil)))) (ed_cons (evd (ev_cb (c_isX T.ea) (ea_cons ev_var (ea_cons ev_con ea_nil)))) (ed_cons (evd (ev_cb (c_isX T.ea) (ea_cons ev_var (ea_cons ev_con ea_nil)))) ed_nil))))))
      (s_seq (s_asg (ev_op k_add ev_var (ev_lst (ed_cons (evd (ev_cb (c_isX T.ea) (ea_cons ev_var (ea_cons ev_con ea_nil)))) (ed_cons (evd (ev_cb (c_isX T.ea) (ea_cons ev_var (ea_cons ev_con ea_nil)))) (ed_cons (evd (ev_cb (c_isX T.ea) (ea_cons ev_var (ea_cons ev_con ea_nil)))) ed_nil))))))
      (s_seq (s_asg (ev_op k_add ev_var (ev_lst (ed_cons (evd (ev_cb (c_isX T.ea) (ea_cons ev_var (ea_cons ev_con ea_nil)))) (ed_cons (evd (ev_cb (c_isX T.ea) (ea_cons ev_var (ea_cons ev_con ea_nil)))) (ed_cons (evd (ev_cb (c_isX T.ea) (ea_cons ev_var (ea_cons ev_con ea_nil)))) ed_nil))))))
      (s_seq (s_asg (ev_op k_add ev_var (ev_lst (ed_cons (evd (ev_cb (c_isX T.ea) (ea_cons ev_var (ea_cons ev_con ea_nil)))) (ed_cons (evd (ev_cb (c_isX T.ea) (ea_cons ev_var (ea_cons ev_con ea_nil)))) (ed_cons (evd (ev_cb (c_isX T.ea) (ea_cons ev_var (ea_cons ev_con ea_nil)))) ed_nil))))))
      (s_seq (s_asg (ev_op k_add ev_var (ev_lst (ed_cons (evd (ev_cb (c_isX T.ea) (ea_cons ev_var (ea_cons ev_con ea_nil)))) (ed_cons (evd (ev_cb (c_isX T.ea) (ea_cons ev_var (ea_cons ev_con ea_nil)))) (ed_cons (evd (ev_cb (c_isX T.ea) (ea_cons ev_var (ea_cons ev_con ea_nil)))) ed_nil))))))
      (s_ret (ev_op k_add ev_var (ev_lst (ed_cons (evd (ev_cb (c_isX T.ea) (ea_cons ev_var (ea_cons ev_con ea_nil)))) ed_nil)))))))))))))

theorem sc_law_stored : FnScope ["errors", "found", "error"] ["errors"] (defScope s_law_stored) := ⟨rfl, rfl, rfl, by decide +kernel, rfl, by decide +kernel, by decide +kernel⟩
theorem ok_law_stored {P : Program} {w : World} {K : PySem.W.Frag} {mg : Str → Option Value} {base : Heap} {Z : Ad} (T : Txt K mg Z) : DVG.FnG false P w K mg base CX0 (1) Z.a_law_stored Z.d_law_stored ["errors"] (spD K none 1 (f_law_stored Z.c)) :=
  fn_d T.f_law_stored sc_law_stored (fun cdv A outer s H E hr =>
      (pss_cons (ps_set (i := 1) sc_law_stored.nd rfl (by first | exact Or.inl rfl | exact Or.inr rfl) (pe_op op_addU (pe_lc rfl sc_law_stored.nd (pi_seq (pe_slice sl_U (pv 0) po_none (po_some pe_int))) (blkOk_by (own := [("error", 2)]) (by show blkC ["errors", "found", "error"] (defScope s_law_stored) _ _ = true; decide +kernel)) (fun _ _ _ _ _ => (pg_name (i := 2) sc_law_stored.nd rfl (by first | exact Or.inl rfl | exact Or.inr rfl))) (fun _ _ _ _ _ => pts_nil) (fun _ _ _ _ _ => (pe_xo (pv 2)))) (pe_lc rfl sc_law_stored.nd (pi_seq (pe_slice sl_U (pv 0) (po_some pe_int) (po_some pe_int))) (blkOk_by (own := [("error", 2)]) (by show blkC ["errors", "found", "error"] (defScope s_law_stored) _ _ = true; decide +kernel)) (fun _ _ _ _ _ => (pg_name (i := 2) sc_law_stored.nd rfl (by first | exact Or.inl rfl | exact Or.inr rfl))) (fun _ _ _ _ _ => pts_nil) (fun _ _ _ _ _ => (pe_xo (pv 2))))))
      (pss_cons (ps_set (i := 1) sc_law_stored.nd rfl (by first | exact Or.inl rfl | exact Or.inr rfl) (pe_op op_addU (pe_op op_addU (pv 1) (pe_lc rfl sc_law_stored.nd (pi_seq (pe_slice sl_U (pv 0) (po_some pe_int) (po_some pe_int))) (blkOk_by (own := [("error", 2)]) (by show blkC ["errors", "found", "error"] (defScope s_law_stored) _ _ = true; decide +kernel)) (fun _ _ _ _ _ => (pg_name (i := 2) sc_law_stored.nd rfl (by first | exact Or.inl rfl | exact Or.inr rfl))) (fun _ _ _ _ _ => pts_nil) (fun _ _ _ _ _ => (pe_xo (pv 2))))) (pe_lst (pa_cons (pe_xo (pe_ix ix_seq (pv 0) pe_int (fun _ _ => rfl))) (pa_cons (pe_xo (pe_ix ix_seq (pv 0) pe_int (fun _ _ => rfl))) (pa_cons (pe_xo (pe_ix ix_seq (pv 0) pe_int (fun _ _ => rfl))) pa_nil))))))
      (pss_one (ps_ret (pe_op op_addU (pv 1) (pe_lst (pa_cons (pe_xo (pe_ix ix_seq (pv 0) pe_int (fun _ _ => rfl))) (pa_cons (pe_xo (pe_ix ix_seq (pv 0) pe_int (fun _ _ => rfl))) (pa_cons (pe_xo (pe_ix ix_seq (pv 0) pe_int (fun _ _ => rfl))) (pa_cons (pe_xo (pe_ix ix_seq (pv 0) pe_int (fun _ _ => rfl))) (pa_cons (pe_xo (pe_ix ix_seq (pv 0) pe_int (fun _ _ => rfl))) pa_nil))))))))))))
    ((s_seq (s_asg (ev_op k_add (ev_lc (vs := [2]) (i_seq (evd (ev_sl ev_var p_none (p_some ev_int)))) g_name (gw_name (by decide)) (show EvT _ _ y2_law_stored from t_yes) (show EvD _ _ (x1_law_stored Z.c) from evd (ev_fldx T.fx_value ev_var))) (ev_lc (vs := [2]) (i_seq (evd (ev_sl ev_var (p_some ev_int) (p_some ev_int)))) g_name (gw_name (by decide)) (show EvT _ _ y4_law_stored from t_yes) (show EvD _ _ (x3_law_stored Z.c) from evd (ev_fldx T.fx_name ev_var)))))
      (s_seq (s_asg (ev_op k_add (ev_op k_add ev_var (ev_lc (vs := [2]) (i_seq (evd (ev_sl ev_var (p_some ev_int) (p_some ev_int)))) g_name (gw_name (by decide)) (show EvT _ _ y6_law_stored from t_yes) (show EvD _ _ (x5_law_stored Z.c) from evd (ev_fldx T.fx_position ev_var)))) (ev_lst (ed_cons (evd (ev_fldx T.fx_depth (ev_op k_ix ev_var ev_int))) (ed_cons (evd (ev_fldx T.fx_size (ev_op k_ix ev_var ev_int))) (ed_cons (evd (ev_fldx T.fx_head (ev_op k_ix ev_var ev_int))) ed_nil))))))
      (s_ret (ev_op k_add ev_var (ev_lst (ed_cons (evd (ev_fldx T.fx_size (ev_op k_ix ev_var ev_int))) (ed_cons (evd (ev_fldx T.fx_count (ev_op k_ix ev_var ev_int))) (ed_cons (evd (ev_fldx T.fx_body (ev_op k_ix ev_var ev_int))) (ed_cons (evd (ev_fldx T.fx_line (ev_op k_ix ev_var ev_int))) (ed_cons (evd (ev_fldx T.fx_command (ev_op k_ix ev_var ev_int))) ed_nil)))))))))))

theorem sc_law_x : FnScope ((["script", "start", "source", "thing", "word", "many", "errors", "at", "error", "due", "other"] : List Str) ++ [("0sto" : Str)]) ["script"] (defScope s_law) := ⟨rfl, rfl, rfl, by decide +kernel, rfl, by decide +kernel, by decide +kernel⟩
theorem ok_law_x {P : Program} {w : World} {K : PySem.W.Frag} {mg : Str → Option Value} {base : Heap} {Z : Ad} (T : Txt K mg Z) : DVG.FnG true P w K mg base (L2.CX P w) (4) Z.a_law Z.d_law ["script"] (spX K (EC Z.c) none 1 (f_law_x Z.c)) :=
  fn_x T.f_law sc_law_x (fun cdv A outer s H E hr W tk =>
      (pss_cons (ps_for (passes_of rfl) rfl (pi_range1 (by rfl) T.b_range (pa_cons (pe_callB (call_maxV rfl (hU hr)) (by rfl) T.b_max bt_max (pa_cons pe_int (pa_cons (pe_callB (call_minV rfl (hU hr)) (by rfl) T.b_min bt_min (pa_cons pe_int (pa_cons (pe_callB call_len' (by rfl) T.b_len bt_len (pa_cons (pv 0) pa_nil)) pa_nil))) pa_nil))) pa_nil)) (pg_name (i := 1) sc_law_x.nd rfl (by first | exact Or.inl rfl | exact Or.inr rfl)) (pss_cons (ps_set (i := 2) sc_law_x.nd rfl (by first | exact Or.inl rfl | exact Or.inr rfl) (DVG.pe_callG (ok_law_source T) (DVG.Rm.low (hr.mono (by first | decide | omega : 1 ≤ 3))) (by rfl) T.g_law_source T.f_law_source.kp T.n_law_source .nil pass0 (pa_cons (pv 0) (pa_cons (pv 1) pa_nil))))
      (pss_cons (ps_set (i := 3) sc_law_x.nd rfl (by first | exact Or.inl rfl | exact Or.inr rfl) (DVG.pe_callG (ok_law_pick T) (DVG.Rm.low (hr.mono (by first | decide | omega : 2 ≤ 3))) (by rfl) T.g_law_pick T.f_law_pick.kp T.n_law_pick .nil pass0 (pa_cons (pv 2) (pa_cons (pe_lst (pa_cons (pe_lst (pa_cons pe_int pa_nil)) (pa_cons (pe_lst (pa_cons pe_str (pa_cons pe_non pa_nil))) (pa_cons (pe_lst (pa_cons (pe_lst pa_nil) pa_nil)) (pa_cons (pe_disp (pps_cons pe_str pe_int pps_nil) rfl rfl (by simp) (by decide)) pa_nil))))) pa_nil))))
      (pss_cons (ps_par (i := 4) (j := 5) rfl sc_law_x.nd rfl rfl (by decide) rfl rfl (pa_cons (DVG.pe_callG (ok_law_pick T) (DVG.Rm.low (hr.mono (by first | decide | omega : 2 ≤ 3))) (by rfl) T.g_law_pick T.f_law_pick.kp T.n_law_pick .nil pass0 (pa_cons (pv 2) (pa_cons (pe_lst (pa_cons pe_str (pa_cons pe_str (pa_cons pe_str pa_nil)))) pa_nil))) (pa_cons (DVG.pe_callG (ok_law_draw T) (DVG.Rm.low (hr.mono (by first | decide | omega : 1 ≤ 3))) (by rfl) T.g_law_draw T.f_law_draw.kp T.n_law_draw .nil pass0 (pa_cons (pv 2) (pa_cons pe_int pa_nil))) pa_nil)) (by rfl))
      (pss_one (ps_for (passes_of rfl) rfl (pi_seq (pe_lst (pa_cons (DVG.pe_callG (ok_law_by_place_x T) (DVG.Rm.low (hr.mono (by first | decide | omega : 3 ≤ 3))) (by rfl) T.g_law_by_place T.f_law_by_place.kp T.n_law_by_place .nil passL (pa_cons (pv 3) (pa_cons (pv 4) (pa_cons (pv 5) pa_nil)))) (pa_cons (DVG.pe_callG (ok_law_by_name_x T) (DVG.Rm.low (hr.mono (by first | decide | omega : 3 ≤ 3))) (by rfl) T.g_law_by_name T.f_law_by_name.kp T.n_law_by_name .nil passL (pa_cons (pv 3) (pa_cons (pv 4) (pa_cons (pv 5) pa_nil)))) pa_nil)))) (pg_name (i := 6) sc_law_x.nd rfl (by first | exact Or.inl rfl | exact Or.inr rfl)) (pss_cons (ps_for (passes_of rfl) rfl (pi_enumU (by rfl) T.b_enumerate (pa_cons (pv 6) pa_nil)) (pg_tup rfl (pgs_cons (pg_name (i := 7) sc_law_x.nd rfl (by first | exact Or.inl rfl | exact Or.inr rfl)) (pgs_cons (pg_name (i := 8) sc_law_x.nd rfl (by first | exact Or.inl rfl | exact Or.inr rfl)) pgs_nil))) (pss_cons (ps_if (PW.pt (pw_or (pt_not (pt_val (pe_callB call_isV (by rfl) T.b_isinstance bt_isinstance (pa_cons (pv 8) (pa_cons (pe_glob (v := .ref Z.c.EB) (by rfl) T.g_EB rfl) pa_nil))))) (pw_or1 (pt_not (pt_val (pe_callB call_isV (by rfl) T.b_isinstance bt_isinstance (pa_cons (pv 8) (pa_cons (pe_bltn (v := .ty "ValueError") (by rfl) T.b_ValueError bt_ValueError rfl) pa_nil)))))))) (pss_one (ps_ret pe_bl)) pss_nil)
      (pss_one (ps_if (pt_cmpR (op_neU (hU hr)) (DVG.pe_callG (ok_law_kinds T) (DVG.Rm.low (hr.mono (by first | decide | omega : 1 ≤ 3))) (by rfl) T.g_law_kinds T.f_law_kinds.kp T.n_law_kinds .nil pass0 (pa_cons (pv 8) pa_nil)) (pe_lc rfl sc_law_x.nd (pi_range1 (by rfl) T.b_range (pa_cons pe_int pa_nil)) (blkOk_by (own := [("other", 10)]) (by show blkC ["script", "start", "source", "thing", "word", "many", "errors", "at", "error", "due", "other", "0sto"] (defScope s_law) _ _ = true; decide +kernel)) (fun _ _ _ _ _ => (pg_name (i := 10) sc_law_x.nd rfl (by first | exact Or.inl rfl | exact Or.inr rfl))) (fun _ _ _ _ _ => pts_nil) (fun _ _ _ _ _ => (pe_cmpR (op_eqU (hU hr)) (pv 10) (pv 7) (nomark _)))) (nomark _)) (pss_one (ps_ret pe_bl)) pss_nil))))
      (pss_cons (ps_if (pt_val (pe_callB call_isiY (by rfl) T.b_isinstance bt_isinstance (pa_cons (pv 3) (pa_cons (pe_bltn (v := .ty "list") (by rfl) T.b_list bt_list rfl) pa_nil)))) (pss_one (ps_expr (pe_bm PySem.F.plainAttrs_list PySem.F.slot_list_append PySem.F.type_list_append mt_append (pv 3) (pa_cons pe_int pa_nil)))) pss_nil)
      (pss_cons (ps_set (i := 9) sc_law_x.nd rfl (by first | exact Or.inl rfl | exact Or.inr rfl) (pe_op op_addU (pe_op op_addU (pe_op op_addU (pe_op op_mulU (pe_lst (pa_cons (pv 3) pa_nil)) pe_int) (pe_lst (pa_cons (pe_tup (pa_cons (pv 3) (pa_cons (pv 4) (pa_cons (pv 4) pa_nil)))) (pa_cons (pv 3) (pa_cons (pv 3) (pa_cons (pv 4) (pa_cons (pv 3) (pa_cons (pv 4) pa_nil)))))))) (pe_op op_mulU (pe_lst (pa_cons (pv 5) pa_nil)) pe_int)) (pe_lst (pa_cons (pv 3) pa_nil))))
      (pss_one (ps_if (pt_cmpR (op_neU (hU hr)) (pe_callB (call_reprX (hr.g rfl) (hU2 hr)) (by rfl) T.b_repr bt_repr (pa_cons (DVG.pe_callG (ok_law_stored T) (DVG.Rm.low (hr.mono (by first | decide | omega : 1 ≤ 3))) (by rfl) T.g_law_stored T.f_law_stored.kp T.n_law_stored .nil pass0 (pa_cons (pv 6) pa_nil)) pa_nil)) (pe_callB (call_reprX (hr.g rfl) (hU2 hr)) (by rfl) T.b_repr bt_repr (pa_cons (pv 9) pa_nil)) (nomark _)) (pss_one (ps_ret pe_bl)) pss_nil)))))))))))
      (pss_one (ps_ret pe_bl))))
    ((xs_lift (s_seq (s_for (i_range1 (ea_cons (ev_cb c_maxV (ea_cons ev_int (ea_cons (ev_cb c_minV (ea_cons ev_int (ea_cons (ev_cb c_len (ea_cons ev_var ea_nil)) ea_nil))) ea_nil))) ea_nil)) g_name (show EvS _ _ (b5_law_x Z.c) from (s_seq (s_asg (ev_call (dds := []) (call_ok (bo := none) (n := 2)) (fun _ _ => rfl) (ea_cons ev_var (ea_cons ev_var ea_nil))))
      (s_seq (s_asg (ev_call (dds := []) (call_ok (bo := (some 0)) (n := 2)) (fun _ _ => rfl) (ea_cons ev_var (ea_cons (ev_of (evd (ev_lst (ed_cons (evd (ev_prom (ev_lst (ed_cons (evd ev_int) ed_nil)))) (ed_cons (evd (ev_prom (ev_lst (ed_cons (evd ev_str) (ed_cons (evd ev_non) ed_nil))))) (ed_cons (evd (ev_prom (ev_lst (ed_cons (evd (ev_lst ed_nil)) ed_nil)))) (ed_cons (evd (ev_prom (ev_disp (evd ev_str) (evd ev_int)))) ed_nil))))))) ea_nil))))
      (s_seq (s_par (ea_cons (ev_call (dds := []) (call_ok (bo := (some 0)) (n := 2)) (fun _ _ => rfl) (ea_cons ev_var (ea_cons (ev_of (evd (ev_lst (ed_cons (evd ev_str) (ed_cons (evd ev_str) (ed_cons (evd ev_str) ed_nil)))))) ea_nil))) (ea_cons (ev_call (dds := []) (call_ok (bo := (some 0)) (n := 2)) (fun _ _ => rfl) (ea_cons ev_var (ea_cons (ev_of (evd ev_int)) ea_nil))) ea_nil)))
      (s_for (i_seq (evd (ev_lst (ed_cons (evd (ev_callS (dms := []) (n := 3) (fun _ _ => rfl) (ed_cons (evd ev_var) (ed_cons (evd ev_var) (ed_cons (evd ev_var) ed_nil))))) (ed_cons (evd (ev_callS (dms := []) (n := 3) (fun _ _ => rfl) (ed_cons (evd ev_var) (ed_cons (evd ev_var) (ed_cons (evd ev_var) ed_nil))))) ed_nil))))) g_name (show EvS _ _ (b4_law_x Z.c) from (s_seq (s_for (i_enumU (ed_cons (evd ev_var) ed_nil)) (g_tup (gs_cons g_name (gs_cons g_name gs_nil))) (show EvS _ _ (b3_law_x Z.c) from (s_seq (s_if (t_or (t_not (t_b (ev_cb (c_isX T.ea) (ea_cons ev_var (ea_cons ev_con ea_nil))))) (t_not (t_b (ev_cb (c_isX T.ea) (ea_cons ev_var (ea_cons ev_con ea_nil)))))) (s_ret ev_bl) s_next)
      (s_if (t_test (ev_op k_ne (ev_call (dds := []) (call_ok (bo := none) (n := 1)) (fun _ _ => rfl) (ea_cons ev_var ea_nil)) (ev_lc (vs := [10]) (i_range1 (ea_cons ev_int ea_nil)) g_name (gw_name (by decide)) (show EvT _ _ y2_law_x from t_yes) (show EvD _ _ x1_law_x from evd (ev_op k_eq ev_var ev_var))))) (s_ret ev_bl) s_next))))
      (s_seq (s_if (t_b (ev_cb c_isY (ea_cons (ev_view ev_var) (ea_cons ev_con ea_nil)))) (s_drop (ev_mutC ty_lst m_append ev_var (ed_cons (evd ev_int) ed_nil))) s_next)
      (s_seq (s_asg (ev_op k_add (ev_op k_add (ev_op k_add (ev_op k_mul (ev_lst (ed_cons (evd ev_var) ed_nil)) ev_int) (ev_lst (ed_cons (evd (ev_tup (ed_cons (evd ev_var) (ed_cons (evd ev_var) (ed_cons (evd ev_var) ed_nil))))) (ed_cons (evd ev_var) (ed_cons (evd ev_var) (ed_cons (evd ev_var) (ed_cons (evd ev_var) (ed_cons (evd ev_var) ed_nil)))))))) (ev_op k_mul (ev_lst (ed_cons (evd ev_var) ed_nil)) ev_int)) (ev_lst (ed_cons (evd ev_var) ed_nil))))
      (s_if (t_test (ev_op k_ne (ev_reprV (ed_cons (evd (ev_call (dds := []) (call_ok (bo := none) (n := 1)) (fun _ _ => rfl) (ea_cons ev_var ea_nil))) ed_nil)) (ev_reprV (ed_cons (evd ev_var) ed_nil)))) (s_ret ev_bl) s_next)))))))))))
      (s_ret ev_bl))))

/-! ### the head -/
theorem all_mk {l : PySem.W.OpenLaw} {w : World} {K : PySem.W.Frag} {h : Heap} {mg : Str → Option Value} {fa : Addr} (ht : ∀ (c : CA) (dis : Dis c) (ns : List Int), ns.length ≤ 63 → (∀ z ∈ ns, Builtin.Int.intBits z ≤ 1048576) → ∃ cs, f_law_x c [.ro (ns.map D.int)] [] = some (.ok (.dat (.bl true)) .non cs)) (X : K.In h) (G : h.Ns mainGlobals mg) (hfa : mg "law" = some (.ref fa))
    {f0 : Addr} {od0 an0 : Option Addr} {sl0 : Array (Option Value)} {oc0 kV0 dc0 pm0 cd0 ct0 : Value}
    (a0 : PySem.W.nsIn K mainGlobals "_law_source" = some (some (.ref f0))) (l0 : K.lookup f0 = some ⟨oc0, od0, .func (PySem.W.fnOf "_law_source" "_law_source" (defArgs s_law_source) (defBody s_law_source) (defScope s_law_source) .none kV0 dc0 pm0 an0 cd0 ct0), sl0⟩) (c0 : PySem.W.codeIn K cd0 "_law_source" = true) (k0 : PySem.W.keepIn K (.ref f0) = true)
    {f1 : Addr} {od1 an1 : Option Addr} {sl1 : Array (Option Value)} {oc1 kV1 dc1 pm1 cd1 ct1 : Value}
    (a1 : PySem.W.nsIn K mainGlobals "_law_draw" = some (some (.ref f1))) (l1 : K.lookup f1 = some ⟨oc1, od1, .func (PySem.W.fnOf "_law_draw" "_law_draw" (defArgs s_law_draw) (defBody s_law_draw) (defScope s_law_draw) .none kV1 dc1 pm1 an1 cd1 ct1), sl1⟩) (c1 : PySem.W.codeIn K cd1 "_law_draw" = true) (k1 : PySem.W.keepIn K (.ref f1) = true)
    {f2 : Addr} {od2 an2 : Option Addr} {sl2 : Array (Option Value)} {oc2 kV2 dc2 pm2 cd2 ct2 : Value}
    (a2 : PySem.W.nsIn K mainGlobals "_law_pick" = some (some (.ref f2))) (l2 : K.lookup f2 = some ⟨oc2, od2, .func (PySem.W.fnOf "_law_pick" "_law_pick" (defArgs s_law_pick) (defBody s_law_pick) (defScope s_law_pick) .none kV2 dc2 pm2 an2 cd2 ct2), sl2⟩) (c2 : PySem.W.codeIn K cd2 "_law_pick" = true) (k2 : PySem.W.keepIn K (.ref f2) = true)
    {f3 : Addr} {od3 an3 : Option Addr} {sl3 : Array (Option Value)} {oc3 kV3 dc3 pm3 cd3 ct3 : Value}
    (a3 : PySem.W.nsIn K mainGlobals "_law_by_place" = some (some (.ref f3))) (l3 : K.lookup f3 = some ⟨oc3, od3, .func (PySem.W.fnOf "_law_by_place" "_law_by_place" (defArgs s_law_by_place) (defBody s_law_by_place) (defScope s_law_by_place) .none kV3 dc3 pm3 an3 cd3 ct3), sl3⟩) (c3 : PySem.W.codeIn K cd3 "_law_by_place" = true) (k3 : PySem.W.keepIn K (.ref f3) = true)
    {f4 : Addr} {od4 an4 : Option Addr} {sl4 : Array (Option Value)} {oc4 kV4 dc4 pm4 cd4 ct4 : Value}
    (a4 : PySem.W.nsIn K mainGlobals "_law_by_name" = some (some (.ref f4))) (l4 : K.lookup f4 = some ⟨oc4, od4, .func (PySem.W.fnOf "_law_by_name" "_law_by_name" (defArgs s_law_by_name) (defBody s_law_by_name) (defScope s_law_by_name) .none kV4 dc4 pm4 an4 cd4 ct4), sl4⟩) (c4 : PySem.W.codeIn K cd4 "_law_by_name" = true) (k4 : PySem.W.keepIn K (.ref f4) = true)
    {f5 : Addr} {od5 an5 : Option Addr} {sl5 : Array (Option Value)} {oc5 kV5 dc5 pm5 cd5 ct5 : Value}
    (a5 : PySem.W.nsIn K mainGlobals "_law_kinds" = some (some (.ref f5))) (l5 : K.lookup f5 = some ⟨oc5, od5, .func (PySem.W.fnOf "_law_kinds" "_law_kinds" (defArgs s_law_kinds) (defBody s_law_kinds) (defScope s_law_kinds) .none kV5 dc5 pm5 an5 cd5 ct5), sl5⟩) (c5 : PySem.W.codeIn K cd5 "_law_kinds" = true) (k5 : PySem.W.keepIn K (.ref f5) = true)
    {f6 : Addr} {od6 an6 : Option Addr} {sl6 : Array (Option Value)} {oc6 kV6 dc6 pm6 cd6 ct6 : Value}
    (a6 : PySem.W.nsIn K mainGlobals "_law_stored" = some (some (.ref f6))) (l6 : K.lookup f6 = some ⟨oc6, od6, .func (PySem.W.fnOf "_law_stored" "_law_stored" (defArgs s_law_stored) (defBody s_law_stored) (defScope s_law_stored) .none kV6 dc6 pm6 an6 cd6 ct6), sl6⟩) (c6 : PySem.W.codeIn K cd6 "_law_stored" = true) (k6 : PySem.W.keepIn K (.ref f6) = true)
    {f7 : Addr} {od7 an7 : Option Addr} {sl7 : Array (Option Value)} {oc7 kV7 dc7 pm7 cd7 ct7 : Value}
    (a7 : PySem.W.nsIn K mainGlobals "law" = some (some (.ref f7))) (l7 : K.lookup f7 = some ⟨oc7, od7, .func (PySem.W.fnOf "law" "law" (defArgs s_law) (defBody s_law) (defScope s_law) .none kV7 dc7 pm7 an7 cd7 ct7), sl7⟩) (c7 : PySem.W.codeIn K cd7 "law" = true) (k7 : PySem.W.keepIn K (.ref f7) = true)
    {EB : Addr} (eb : PySem.W.nsIn K mainGlobals "RoadError" = some (some (.ref EB))) (ebi : PySem.W.isClsIn K EB = true) (ebt : PySem.W.typeIn K (.ref EB) = some (.type "type"))
    (ebn : PySem.W.specialIn K (.builtin "object.__class__") "__get__" = some (some (.builtin "getset_descriptor.__get__"))) (ebk : PySem.W.takesIn K (.builtin "object.__class__") = some true)
    {E0  EF0 : Addr} {en0 eq0 : Str} {eN0 : Addr} {ebs0 : List Value} {esn0 : List Str} {esub0 : List Value} {eab0 : Bool} {ecol0 : Option Bool} {edd0 : Option Addr} {ek00 ek10 ek20 ek30 ek50 : Option Value} {eod0 ean0 : Option Addr} {esl0 : Array (Option Value)} {eoc0 ekV0 edc0 epm0 ecd0 ect0 : Value}
    (r0 : PySem.W.nsIn K mainGlobals "BadHead" = some (some (.ref E0))) (r0a : K.lookup E0 = some (excClassObj en0 eq0 E0 eN0 ebs0 [.ref EB, .type "ValueError", .type "Exception", .type "BaseException", .type "object"] true esn0 esub0 eab0 ecol0 edd0 ek00 ek10 ek20 ek30 ek50 "ValueError.__new__"))
    (r0b : PySem.W.findIn K (.ref E0) "__setattr__" = some (some (.builtin "object.__setattr__"))) (r0c : PySem.W.findIn K (.ref E0) "__getattribute__" = some (some (.builtin "BaseException.__getattribute__"))) (r0d : PySem.W.findIn K (.ref E0) "__getattr__" = some none)
    (r0e : PySem.W.findIn K (.ref E0) "value" = some none) (r0f : PySem.W.findIn K (.ref E0) "__init__" = some (some (.ref EF0))) (r0g : PySem.W.typeIn K (.ref EF0) = some (.type "function"))
    (r0h : K.lookup EF0 = some ⟨eoc0, eod0, .func (PySem.W.fnOf "__init__" "BadHead.__init__" (defArgs s_e_BadHead) (defBody s_e_BadHead) (defScope s_e_BadHead) .none ekV0 edc0 epm0 ean0 ecd0 ect0), esl0⟩) (r0i : PySem.W.codeIn K ecd0 "BadHead.__init__" = true) (r0j : PySem.W.keepIn K (.ref EF0) = true)
    (r0k : PySem.W.keepIn K (.ref E0) = true) (r0l : PySem.W.subIn K (.ref E0) (.type "BaseException") = some true) (r0m : PySem.W.typeIn K (.ref E0) = some (.type "type")) (r0n : PySem.W.hasDictIn K E0 = true) (r0o : PySem.W.isClsIn K E0 = true)
    (r0p : PySem.W.findIn K (.ref E0) "__class__" = some (some (.builtin "object.__class__"))) (r0q : PySem.W.mroIn K E0 (.type "object") = some true)
    {E1  EF1 : Addr} {en1 eq1 : Str} {eN1 : Addr} {ebs1 : List Value} {esn1 : List Str} {esub1 : List Value} {eab1 : Bool} {ecol1 : Option Bool} {edd1 : Option Addr} {ek01 ek11 ek21 ek31 ek51 : Option Value} {eod1 ean1 : Option Addr} {esl1 : Array (Option Value)} {eoc1 ekV1 edc1 epm1 ecd1 ect1 : Value}
    (r1 : PySem.W.nsIn K mainGlobals "BadSteps" = some (some (.ref E1))) (r1a : K.lookup E1 = some (excClassObj en1 eq1 E1 eN1 ebs1 [.ref EB, .type "ValueError", .type "Exception", .type "BaseException", .type "object"] true esn1 esub1 eab1 ecol1 edd1 ek01 ek11 ek21 ek31 ek51 "ValueError.__new__"))
    (r1b : PySem.W.findIn K (.ref E1) "__setattr__" = some (some (.builtin "object.__setattr__"))) (r1c : PySem.W.findIn K (.ref E1) "__getattribute__" = some (some (.builtin "BaseException.__getattribute__"))) (r1d : PySem.W.findIn K (.ref E1) "__getattr__" = some none)
    (r1e : PySem.W.findIn K (.ref E1) "value" = some none) (r1f : PySem.W.findIn K (.ref E1) "__init__" = some (some (.ref EF1))) (r1g : PySem.W.typeIn K (.ref EF1) = some (.type "function"))
    (r1h : K.lookup EF1 = some ⟨eoc1, eod1, .func (PySem.W.fnOf "__init__" "BadSteps.__init__" (defArgs s_e_BadSteps) (defBody s_e_BadSteps) (defScope s_e_BadSteps) .none ekV1 edc1 epm1 ean1 ecd1 ect1), esl1⟩) (r1i : PySem.W.codeIn K ecd1 "BadSteps.__init__" = true) (r1j : PySem.W.keepIn K (.ref EF1) = true)
    (r1k : PySem.W.keepIn K (.ref E1) = true) (r1l : PySem.W.subIn K (.ref E1) (.type "BaseException") = some true) (r1m : PySem.W.typeIn K (.ref E1) = some (.type "type")) (r1n : PySem.W.hasDictIn K E1 = true) (r1o : PySem.W.isClsIn K E1 = true)
    (r1p : PySem.W.findIn K (.ref E1) "__class__" = some (some (.builtin "object.__class__"))) (r1q : PySem.W.mroIn K E1 (.type "object") = some true)
    {E2  EF2 : Addr} {en2 eq2 : Str} {eN2 : Addr} {ebs2 : List Value} {esn2 : List Str} {esub2 : List Value} {eab2 : Bool} {ecol2 : Option Bool} {edd2 : Option Addr} {ek02 ek12 ek22 ek32 ek52 : Option Value} {eod2 ean2 : Option Addr} {esl2 : Array (Option Value)} {eoc2 ekV2 edc2 epm2 ecd2 ect2 : Value}
    (r2 : PySem.W.nsIn K mainGlobals "NoStep" = some (some (.ref E2))) (r2a : K.lookup E2 = some (excClassObj en2 eq2 E2 eN2 ebs2 [.ref EB, .type "ValueError", .type "Exception", .type "BaseException", .type "object"] true esn2 esub2 eab2 ecol2 edd2 ek02 ek12 ek22 ek32 ek52 "ValueError.__new__"))
    (r2b : PySem.W.findIn K (.ref E2) "__setattr__" = some (some (.builtin "object.__setattr__"))) (r2c : PySem.W.findIn K (.ref E2) "__getattribute__" = some (some (.builtin "BaseException.__getattribute__"))) (r2d : PySem.W.findIn K (.ref E2) "__getattr__" = some none)
    (r2e : PySem.W.findIn K (.ref E2) "value" = some none) (r2f : PySem.W.findIn K (.ref E2) "__init__" = some (some (.ref EF2))) (r2g : PySem.W.typeIn K (.ref EF2) = some (.type "function"))
    (r2h : K.lookup EF2 = some ⟨eoc2, eod2, .func (PySem.W.fnOf "__init__" "NoStep.__init__" (defArgs s_e_NoStep) (defBody s_e_NoStep) (defScope s_e_NoStep) .none ekV2 edc2 epm2 ean2 ecd2 ect2), esl2⟩) (r2i : PySem.W.codeIn K ecd2 "NoStep.__init__" = true) (r2j : PySem.W.keepIn K (.ref EF2) = true)
    (r2k : PySem.W.keepIn K (.ref E2) = true) (r2l : PySem.W.subIn K (.ref E2) (.type "BaseException") = some true) (r2m : PySem.W.typeIn K (.ref E2) = some (.type "type")) (r2n : PySem.W.hasDictIn K E2 = true) (r2o : PySem.W.isClsIn K E2 = true)
    (r2p : PySem.W.findIn K (.ref E2) "__class__" = some (some (.builtin "object.__class__"))) (r2q : PySem.W.mroIn K E2 (.type "object") = some true)
    {E3  EF3 : Addr} {en3 eq3 : Str} {eN3 : Addr} {ebs3 : List Value} {esn3 : List Str} {esub3 : List Value} {eab3 : Bool} {ecol3 : Option Bool} {edd3 : Option Addr} {ek03 ek13 ek23 ek33 ek53 : Option Value} {eod3 ean3 : Option Addr} {esl3 : Array (Option Value)} {eoc3 ekV3 edc3 epm3 ecd3 ect3 : Value}
    (r3 : PySem.W.nsIn K mainGlobals "BadBody" = some (some (.ref E3))) (r3a : K.lookup E3 = some (excClassObj en3 eq3 E3 eN3 ebs3 [.ref EB, .type "ValueError", .type "Exception", .type "BaseException", .type "object"] true esn3 esub3 eab3 ecol3 edd3 ek03 ek13 ek23 ek33 ek53 "ValueError.__new__"))
    (r3b : PySem.W.findIn K (.ref E3) "__setattr__" = some (some (.builtin "object.__setattr__"))) (r3c : PySem.W.findIn K (.ref E3) "__getattribute__" = some (some (.builtin "BaseException.__getattribute__"))) (r3d : PySem.W.findIn K (.ref E3) "__getattr__" = some none)
    (r3e : PySem.W.findIn K (.ref E3) "value" = some none) (r3f : PySem.W.findIn K (.ref E3) "__init__" = some (some (.ref EF3))) (r3g : PySem.W.typeIn K (.ref EF3) = some (.type "function"))
    (r3h : K.lookup EF3 = some ⟨eoc3, eod3, .func (PySem.W.fnOf "__init__" "BadBody.__init__" (defArgs s_e_BadBody) (defBody s_e_BadBody) (defScope s_e_BadBody) .none ekV3 edc3 epm3 ean3 ecd3 ect3), esl3⟩) (r3i : PySem.W.codeIn K ecd3 "BadBody.__init__" = true) (r3j : PySem.W.keepIn K (.ref EF3) = true)
    (r3k : PySem.W.keepIn K (.ref E3) = true) (r3l : PySem.W.subIn K (.ref E3) (.type "BaseException") = some true) (r3m : PySem.W.typeIn K (.ref E3) = some (.type "type")) (r3n : PySem.W.hasDictIn K E3 = true) (r3o : PySem.W.isClsIn K E3 = true)
    (r3p : PySem.W.findIn K (.ref E3) "__class__" = some (some (.builtin "object.__class__"))) (r3q : PySem.W.mroIn K E3 (.type "object") = some true)
    {E4  EF4 : Addr} {en4 eq4 : Str} {eN4 : Addr} {ebs4 : List Value} {esn4 : List Str} {esub4 : List Value} {eab4 : Bool} {ecol4 : Option Bool} {edd4 : Option Addr} {ek04 ek14 ek24 ek34 ek54 : Option Value} {eod4 ean4 : Option Addr} {esl4 : Array (Option Value)} {eoc4 ekV4 edc4 epm4 ecd4 ect4 : Value}
    (r4 : PySem.W.nsIn K mainGlobals "BadChain" = some (some (.ref E4))) (r4a : K.lookup E4 = some (excClassObj en4 eq4 E4 eN4 ebs4 [.ref EB, .type "ValueError", .type "Exception", .type "BaseException", .type "object"] true esn4 esub4 eab4 ecol4 edd4 ek04 ek14 ek24 ek34 ek54 "ValueError.__new__"))
    (r4b : PySem.W.findIn K (.ref E4) "__setattr__" = some (some (.builtin "object.__setattr__"))) (r4c : PySem.W.findIn K (.ref E4) "__getattribute__" = some (some (.builtin "BaseException.__getattribute__"))) (r4d : PySem.W.findIn K (.ref E4) "__getattr__" = some none)
    (r4e : PySem.W.findIn K (.ref E4) "value" = some none) (r4f : PySem.W.findIn K (.ref E4) "__init__" = some (some (.ref EF4))) (r4g : PySem.W.typeIn K (.ref EF4) = some (.type "function"))
    (r4h : K.lookup EF4 = some ⟨eoc4, eod4, .func (PySem.W.fnOf "__init__" "BadChain.__init__" (defArgs s_e_BadChain) (defBody s_e_BadChain) (defScope s_e_BadChain) .none ekV4 edc4 epm4 ean4 ecd4 ect4), esl4⟩) (r4i : PySem.W.codeIn K ecd4 "BadChain.__init__" = true) (r4j : PySem.W.keepIn K (.ref EF4) = true)
    (r4k : PySem.W.keepIn K (.ref E4) = true) (r4l : PySem.W.subIn K (.ref E4) (.type "BaseException") = some true) (r4m : PySem.W.typeIn K (.ref E4) = some (.type "type")) (r4n : PySem.W.hasDictIn K E4 = true) (r4o : PySem.W.isClsIn K E4 = true)
    (r4p : PySem.W.findIn K (.ref E4) "__class__" = some (some (.builtin "object.__class__"))) (r4q : PySem.W.mroIn K E4 (.type "object") = some true)
    {E5  EF5 : Addr} {en5 eq5 : Str} {eN5 : Addr} {ebs5 : List Value} {esn5 : List Str} {esub5 : List Value} {eab5 : Bool} {ecol5 : Option Bool} {edd5 : Option Addr} {ek05 ek15 ek25 ek35 ek55 : Option Value} {eod5 ean5 : Option Addr} {esl5 : Array (Option Value)} {eoc5 ekV5 edc5 epm5 ecd5 ect5 : Value}
    (r5 : PySem.W.nsIn K mainGlobals "NoBoundary" = some (some (.ref E5))) (r5a : K.lookup E5 = some (excClassObj en5 eq5 E5 eN5 ebs5 [.ref EB, .type "ValueError", .type "Exception", .type "BaseException", .type "object"] true esn5 esub5 eab5 ecol5 edd5 ek05 ek15 ek25 ek35 ek55 "ValueError.__new__"))
    (r5b : PySem.W.findIn K (.ref E5) "__setattr__" = some (some (.builtin "object.__setattr__"))) (r5c : PySem.W.findIn K (.ref E5) "__getattribute__" = some (some (.builtin "BaseException.__getattribute__"))) (r5d : PySem.W.findIn K (.ref E5) "__getattr__" = some none)
    (r5e : PySem.W.findIn K (.ref E5) "value" = some none) (r5f : PySem.W.findIn K (.ref E5) "__init__" = some (some (.ref EF5))) (r5g : PySem.W.typeIn K (.ref EF5) = some (.type "function"))
    (r5h : K.lookup EF5 = some ⟨eoc5, eod5, .func (PySem.W.fnOf "__init__" "NoBoundary.__init__" (defArgs s_e_NoBoundary) (defBody s_e_NoBoundary) (defScope s_e_NoBoundary) .none ekV5 edc5 epm5 ean5 ecd5 ect5), esl5⟩) (r5i : PySem.W.codeIn K ecd5 "NoBoundary.__init__" = true) (r5j : PySem.W.keepIn K (.ref EF5) = true)
    (r5k : PySem.W.keepIn K (.ref E5) = true) (r5l : PySem.W.subIn K (.ref E5) (.type "BaseException") = some true) (r5m : PySem.W.typeIn K (.ref E5) = some (.type "type")) (r5n : PySem.W.hasDictIn K E5 = true) (r5o : PySem.W.isClsIn K E5 = true)
    (r5p : PySem.W.findIn K (.ref E5) "__class__" = some (some (.builtin "object.__class__"))) (r5q : PySem.W.mroIn K E5 (.type "object") = some true)
    {E6  EF6 : Addr} {en6 eq6 : Str} {eN6 : Addr} {ebs6 : List Value} {esn6 : List Str} {esub6 : List Value} {eab6 : Bool} {ecol6 : Option Bool} {edd6 : Option Addr} {ek06 ek16 ek26 ek36 ek56 : Option Value} {eod6 ean6 : Option Addr} {esl6 : Array (Option Value)} {eoc6 ekV6 edc6 epm6 ecd6 ect6 : Value}
    (r6 : PySem.W.nsIn K mainGlobals "NoPiece" = some (some (.ref E6))) (r6a : K.lookup E6 = some (excClassObj en6 eq6 E6 eN6 ebs6 [.ref EB, .type "ValueError", .type "Exception", .type "BaseException", .type "object"] true esn6 esub6 eab6 ecol6 edd6 ek06 ek16 ek26 ek36 ek56 "ValueError.__new__"))
    (r6b : PySem.W.findIn K (.ref E6) "__setattr__" = some (some (.builtin "object.__setattr__"))) (r6c : PySem.W.findIn K (.ref E6) "__getattribute__" = some (some (.builtin "BaseException.__getattribute__"))) (r6d : PySem.W.findIn K (.ref E6) "__getattr__" = some none)
    (r6e : PySem.W.findIn K (.ref E6) "value" = some none) (r6f : PySem.W.findIn K (.ref E6) "__init__" = some (some (.ref EF6))) (r6g : PySem.W.typeIn K (.ref EF6) = some (.type "function"))
    (r6h : K.lookup EF6 = some ⟨eoc6, eod6, .func (PySem.W.fnOf "__init__" "NoPiece.__init__" (defArgs s_e_NoPiece) (defBody s_e_NoPiece) (defScope s_e_NoPiece) .none ekV6 edc6 epm6 ean6 ecd6 ect6), esl6⟩) (r6i : PySem.W.codeIn K ecd6 "NoPiece.__init__" = true) (r6j : PySem.W.keepIn K (.ref EF6) = true)
    (r6k : PySem.W.keepIn K (.ref E6) = true) (r6l : PySem.W.subIn K (.ref E6) (.type "BaseException") = some true) (r6m : PySem.W.typeIn K (.ref E6) = some (.type "type")) (r6n : PySem.W.hasDictIn K E6 = true) (r6o : PySem.W.isClsIn K E6 = true)
    (r6p : PySem.W.findIn K (.ref E6) "__class__" = some (some (.builtin "object.__class__"))) (r6q : PySem.W.mroIn K E6 (.type "object") = some true)
    {E7  EF7 : Addr} {en7 eq7 : Str} {eN7 : Addr} {ebs7 : List Value} {esn7 : List Str} {esub7 : List Value} {eab7 : Bool} {ecol7 : Option Bool} {edd7 : Option Addr} {ek07 ek17 ek27 ek37 ek57 : Option Value} {eod7 ean7 : Option Addr} {esl7 : Array (Option Value)} {eoc7 ekV7 edc7 epm7 ecd7 ect7 : Value}
    (r7 : PySem.W.nsIn K mainGlobals "BadStretches" = some (some (.ref E7))) (r7a : K.lookup E7 = some (excClassObj en7 eq7 E7 eN7 ebs7 [.ref EB, .type "ValueError", .type "Exception", .type "BaseException", .type "object"] true esn7 esub7 eab7 ecol7 edd7 ek07 ek17 ek27 ek37 ek57 "ValueError.__new__"))
    (r7b : PySem.W.findIn K (.ref E7) "__setattr__" = some (some (.builtin "object.__setattr__"))) (r7c : PySem.W.findIn K (.ref E7) "__getattribute__" = some (some (.builtin "BaseException.__getattribute__"))) (r7d : PySem.W.findIn K (.ref E7) "__getattr__" = some none)
    (r7e : PySem.W.findIn K (.ref E7) "value" = some none) (r7f : PySem.W.findIn K (.ref E7) "__init__" = some (some (.ref EF7))) (r7g : PySem.W.typeIn K (.ref EF7) = some (.type "function"))
    (r7h : K.lookup EF7 = some ⟨eoc7, eod7, .func (PySem.W.fnOf "__init__" "BadStretches.__init__" (defArgs s_e_BadStretches) (defBody s_e_BadStretches) (defScope s_e_BadStretches) .none ekV7 edc7 epm7 ean7 ecd7 ect7), esl7⟩) (r7i : PySem.W.codeIn K ecd7 "BadStretches.__init__" = true) (r7j : PySem.W.keepIn K (.ref EF7) = true)
    (r7k : PySem.W.keepIn K (.ref E7) = true) (r7l : PySem.W.subIn K (.ref E7) (.type "BaseException") = some true) (r7m : PySem.W.typeIn K (.ref E7) = some (.type "type")) (r7n : PySem.W.hasDictIn K E7 = true) (r7o : PySem.W.isClsIn K E7 = true)
    (r7p : PySem.W.findIn K (.ref E7) "__class__" = some (some (.builtin "object.__class__"))) (r7q : PySem.W.mroIn K E7 (.type "object") = some true)
    {E8  EF8 : Addr} {en8 eq8 : Str} {eN8 : Addr} {ebs8 : List Value} {esn8 : List Str} {esub8 : List Value} {eab8 : Bool} {ecol8 : Option Bool} {edd8 : Option Addr} {ek08 ek18 ek28 ek38 ek58 : Option Value} {eod8 ean8 : Option Addr} {esl8 : Array (Option Value)} {eoc8 ekV8 edc8 epm8 ecd8 ect8 : Value}
    (r8 : PySem.W.nsIn K mainGlobals "BadName" = some (some (.ref E8))) (r8a : K.lookup E8 = some (excClassObj en8 eq8 E8 eN8 ebs8 [.ref EB, .type "ValueError", .type "Exception", .type "BaseException", .type "object"] true esn8 esub8 eab8 ecol8 edd8 ek08 ek18 ek28 ek38 ek58 "ValueError.__new__"))
    (r8b : PySem.W.findIn K (.ref E8) "__setattr__" = some (some (.builtin "object.__setattr__"))) (r8c : PySem.W.findIn K (.ref E8) "__getattribute__" = some (some (.builtin "BaseException.__getattribute__"))) (r8d : PySem.W.findIn K (.ref E8) "__getattr__" = some none)
    (r8e : PySem.W.findIn K (.ref E8) "value" = some none) (r8f : PySem.W.findIn K (.ref E8) "__init__" = some (some (.ref EF8))) (r8g : PySem.W.typeIn K (.ref EF8) = some (.type "function"))
    (r8h : K.lookup EF8 = some ⟨eoc8, eod8, .func (PySem.W.fnOf "__init__" "BadName.__init__" (defArgs s_e_BadName) (defBody s_e_BadName) (defScope s_e_BadName) .none ekV8 edc8 epm8 ean8 ecd8 ect8), esl8⟩) (r8i : PySem.W.codeIn K ecd8 "BadName.__init__" = true) (r8j : PySem.W.keepIn K (.ref EF8) = true)
    (r8k : PySem.W.keepIn K (.ref E8) = true) (r8l : PySem.W.subIn K (.ref E8) (.type "BaseException") = some true) (r8m : PySem.W.typeIn K (.ref E8) = some (.type "type")) (r8n : PySem.W.hasDictIn K E8 = true) (r8o : PySem.W.isClsIn K E8 = true)
    (r8p : PySem.W.findIn K (.ref E8) "__class__" = some (some (.builtin "object.__class__"))) (r8q : PySem.W.mroIn K E8 (.type "object") = some true)
    {E9  EF9 : Addr} {en9 eq9 : Str} {eN9 : Addr} {ebs9 : List Value} {esn9 : List Str} {esub9 : List Value} {eab9 : Bool} {ecol9 : Option Bool} {edd9 : Option Addr} {ek09 ek19 ek29 ek39 ek59 : Option Value} {eod9 ean9 : Option Addr} {esl9 : Array (Option Value)} {eoc9 ekV9 edc9 epm9 ecd9 ect9 : Value}
    (r9 : PySem.W.nsIn K mainGlobals "BadRoad" = some (some (.ref E9))) (r9a : K.lookup E9 = some (excClassObj en9 eq9 E9 eN9 ebs9 [.ref EB, .type "ValueError", .type "Exception", .type "BaseException", .type "object"] true esn9 esub9 eab9 ecol9 edd9 ek09 ek19 ek29 ek39 ek59 "ValueError.__new__"))
    (r9b : PySem.W.findIn K (.ref E9) "__setattr__" = some (some (.builtin "object.__setattr__"))) (r9c : PySem.W.findIn K (.ref E9) "__getattribute__" = some (some (.builtin "BaseException.__getattribute__"))) (r9d : PySem.W.findIn K (.ref E9) "__getattr__" = some none)
    (r9e : PySem.W.findIn K (.ref E9) "value" = some none) (r9f : PySem.W.findIn K (.ref E9) "__init__" = some (some (.ref EF9))) (r9g : PySem.W.typeIn K (.ref EF9) = some (.type "function"))
    (r9h : K.lookup EF9 = some ⟨eoc9, eod9, .func (PySem.W.fnOf "__init__" "BadRoad.__init__" (defArgs s_e_BadRoad) (defBody s_e_BadRoad) (defScope s_e_BadRoad) .none ekV9 edc9 epm9 ean9 ecd9 ect9), esl9⟩) (r9i : PySem.W.codeIn K ecd9 "BadRoad.__init__" = true) (r9j : PySem.W.keepIn K (.ref EF9) = true)
    (r9k : PySem.W.keepIn K (.ref E9) = true) (r9l : PySem.W.subIn K (.ref E9) (.type "BaseException") = some true) (r9m : PySem.W.typeIn K (.ref E9) = some (.type "type")) (r9n : PySem.W.hasDictIn K E9 = true) (r9o : PySem.W.isClsIn K E9 = true)
    (r9p : PySem.W.findIn K (.ref E9) "__class__" = some (some (.builtin "object.__class__"))) (r9q : PySem.W.mroIn K E9 (.type "object") = some true)
    {E10  EF10 : Addr} {en10 eq10 : Str} {eN10 : Addr} {ebs10 : List Value} {esn10 : List Str} {esub10 : List Value} {eab10 : Bool} {ecol10 : Option Bool} {edd10 : Option Addr} {ek010 ek110 ek210 ek310 ek510 : Option Value} {eod10 ean10 : Option Addr} {esl10 : Array (Option Value)} {eoc10 ekV10 edc10 epm10 ecd10 ect10 : Value}
    (r10 : PySem.W.nsIn K mainGlobals "BadTells" = some (some (.ref E10))) (r10a : K.lookup E10 = some (excClassObj en10 eq10 E10 eN10 ebs10 [.ref EB, .type "ValueError", .type "Exception", .type "BaseException", .type "object"] true esn10 esub10 eab10 ecol10 edd10 ek010 ek110 ek210 ek310 ek510 "ValueError.__new__"))
    (r10b : PySem.W.findIn K (.ref E10) "__setattr__" = some (some (.builtin "object.__setattr__"))) (r10c : PySem.W.findIn K (.ref E10) "__getattribute__" = some (some (.builtin "BaseException.__getattribute__"))) (r10d : PySem.W.findIn K (.ref E10) "__getattr__" = some none)
    (r10e : PySem.W.findIn K (.ref E10) "value" = some none) (r10f : PySem.W.findIn K (.ref E10) "__init__" = some (some (.ref EF10))) (r10g : PySem.W.typeIn K (.ref EF10) = some (.type "function"))
    (r10h : K.lookup EF10 = some ⟨eoc10, eod10, .func (PySem.W.fnOf "__init__" "BadTells.__init__" (defArgs s_e_BadTells) (defBody s_e_BadTells) (defScope s_e_BadTells) .none ekV10 edc10 epm10 ean10 ecd10 ect10), esl10⟩) (r10i : PySem.W.codeIn K ecd10 "BadTells.__init__" = true) (r10j : PySem.W.keepIn K (.ref EF10) = true)
    (r10k : PySem.W.keepIn K (.ref E10) = true) (r10l : PySem.W.subIn K (.ref E10) (.type "BaseException") = some true) (r10m : PySem.W.typeIn K (.ref E10) = some (.type "type")) (r10n : PySem.W.hasDictIn K E10 = true) (r10o : PySem.W.isClsIn K E10 = true)
    (r10p : PySem.W.findIn K (.ref E10) "__class__" = some (some (.builtin "object.__class__"))) (r10q : PySem.W.mroIn K E10 (.type "object") = some true)
    {E11  EF11 : Addr} {en11 eq11 : Str} {eN11 : Addr} {ebs11 : List Value} {esn11 : List Str} {esub11 : List Value} {eab11 : Bool} {ecol11 : Option Bool} {edd11 : Option Addr} {ek011 ek111 ek211 ek311 ek511 : Option Value} {eod11 ean11 : Option Addr} {esl11 : Array (Option Value)} {eoc11 ekV11 edc11 epm11 ecd11 ect11 : Value}
    (r11 : PySem.W.nsIn K mainGlobals "NoMouth" = some (some (.ref E11))) (r11a : K.lookup E11 = some (excClassObj en11 eq11 E11 eN11 ebs11 [.ref EB, .type "ValueError", .type "Exception", .type "BaseException", .type "object"] true esn11 esub11 eab11 ecol11 edd11 ek011 ek111 ek211 ek311 ek511 "ValueError.__new__"))
    (r11b : PySem.W.findIn K (.ref E11) "__setattr__" = some (some (.builtin "object.__setattr__"))) (r11c : PySem.W.findIn K (.ref E11) "__getattribute__" = some (some (.builtin "BaseException.__getattribute__"))) (r11d : PySem.W.findIn K (.ref E11) "__getattr__" = some none)
    (r11e : PySem.W.findIn K (.ref E11) "value" = some none) (r11f : PySem.W.findIn K (.ref E11) "__init__" = some (some (.ref EF11))) (r11g : PySem.W.typeIn K (.ref EF11) = some (.type "function"))
    (r11h : K.lookup EF11 = some ⟨eoc11, eod11, .func (PySem.W.fnOf "__init__" "NoMouth.__init__" (defArgs s_e_NoMouth) (defBody s_e_NoMouth) (defScope s_e_NoMouth) .none ekV11 edc11 epm11 ean11 ecd11 ect11), esl11⟩) (r11i : PySem.W.codeIn K ecd11 "NoMouth.__init__" = true) (r11j : PySem.W.keepIn K (.ref EF11) = true)
    (r11k : PySem.W.keepIn K (.ref E11) = true) (r11l : PySem.W.subIn K (.ref E11) (.type "BaseException") = some true) (r11m : PySem.W.typeIn K (.ref E11) = some (.type "type")) (r11n : PySem.W.hasDictIn K E11 = true) (r11o : PySem.W.isClsIn K E11 = true)
    (r11p : PySem.W.findIn K (.ref E11) "__class__" = some (some (.builtin "object.__class__"))) (r11q : PySem.W.mroIn K E11 (.type "object") = some true)
    {E12  EF12 : Addr} {en12 eq12 : Str} {eN12 : Addr} {ebs12 : List Value} {esn12 : List Str} {esub12 : List Value} {eab12 : Bool} {ecol12 : Option Bool} {edd12 : Option Addr} {ek012 ek112 ek212 ek312 ek512 : Option Value} {eod12 ean12 : Option Addr} {esl12 : Array (Option Value)} {eoc12 ekV12 edc12 epm12 ecd12 ect12 : Value}
    (r12 : PySem.W.nsIn K mainGlobals "NameTaken" = some (some (.ref E12))) (r12a : K.lookup E12 = some (excClassObj en12 eq12 E12 eN12 ebs12 [.ref EB, .type "ValueError", .type "Exception", .type "BaseException", .type "object"] true esn12 esub12 eab12 ecol12 edd12 ek012 ek112 ek212 ek312 ek512 "ValueError.__new__"))
    (r12b : PySem.W.findIn K (.ref E12) "__setattr__" = some (some (.builtin "object.__setattr__"))) (r12c : PySem.W.findIn K (.ref E12) "__getattribute__" = some (some (.builtin "BaseException.__getattribute__"))) (r12d : PySem.W.findIn K (.ref E12) "__getattr__" = some none)
    (r12e : PySem.W.findIn K (.ref E12) "name" = some none) (r12f : PySem.W.findIn K (.ref E12) "__init__" = some (some (.ref EF12))) (r12g : PySem.W.typeIn K (.ref EF12) = some (.type "function"))
    (r12h : K.lookup EF12 = some ⟨eoc12, eod12, .func (PySem.W.fnOf "__init__" "NameTaken.__init__" (defArgs s_e_NameTaken) (defBody s_e_NameTaken) (defScope s_e_NameTaken) .none ekV12 edc12 epm12 ean12 ecd12 ect12), esl12⟩) (r12i : PySem.W.codeIn K ecd12 "NameTaken.__init__" = true) (r12j : PySem.W.keepIn K (.ref EF12) = true)
    (r12k : PySem.W.keepIn K (.ref E12) = true) (r12l : PySem.W.subIn K (.ref E12) (.type "BaseException") = some true) (r12m : PySem.W.typeIn K (.ref E12) = some (.type "type")) (r12n : PySem.W.hasDictIn K E12 = true) (r12o : PySem.W.isClsIn K E12 = true)
    (r12p : PySem.W.findIn K (.ref E12) "__class__" = some (some (.builtin "object.__class__"))) (r12q : PySem.W.mroIn K E12 (.type "object") = some true)
    {E13  EF13 : Addr} {en13 eq13 : Str} {eN13 : Addr} {ebs13 : List Value} {esn13 : List Str} {esub13 : List Value} {eab13 : Bool} {ecol13 : Option Bool} {edd13 : Option Addr} {ek013 ek113 ek213 ek313 ek513 : Option Value} {eod13 ean13 : Option Addr} {esl13 : Array (Option Value)} {eoc13 ekV13 edc13 epm13 ecd13 ect13 : Value}
    (r13 : PySem.W.nsIn K mainGlobals "UnknownName" = some (some (.ref E13))) (r13a : K.lookup E13 = some (excClassObj en13 eq13 E13 eN13 ebs13 [.ref EB, .type "ValueError", .type "Exception", .type "BaseException", .type "object"] true esn13 esub13 eab13 ecol13 edd13 ek013 ek113 ek213 ek313 ek513 "ValueError.__new__"))
    (r13b : PySem.W.findIn K (.ref E13) "__setattr__" = some (some (.builtin "object.__setattr__"))) (r13c : PySem.W.findIn K (.ref E13) "__getattribute__" = some (some (.builtin "BaseException.__getattribute__"))) (r13d : PySem.W.findIn K (.ref E13) "__getattr__" = some none)
    (r13e : PySem.W.findIn K (.ref E13) "name" = some none) (r13f : PySem.W.findIn K (.ref E13) "__init__" = some (some (.ref EF13))) (r13g : PySem.W.typeIn K (.ref EF13) = some (.type "function"))
    (r13h : K.lookup EF13 = some ⟨eoc13, eod13, .func (PySem.W.fnOf "__init__" "UnknownName.__init__" (defArgs s_e_UnknownName) (defBody s_e_UnknownName) (defScope s_e_UnknownName) .none ekV13 edc13 epm13 ean13 ecd13 ect13), esl13⟩) (r13i : PySem.W.codeIn K ecd13 "UnknownName.__init__" = true) (r13j : PySem.W.keepIn K (.ref EF13) = true)
    (r13k : PySem.W.keepIn K (.ref E13) = true) (r13l : PySem.W.subIn K (.ref E13) (.type "BaseException") = some true) (r13m : PySem.W.typeIn K (.ref E13) = some (.type "type")) (r13n : PySem.W.hasDictIn K E13 = true) (r13o : PySem.W.isClsIn K E13 = true)
    (r13p : PySem.W.findIn K (.ref E13) "__class__" = some (some (.builtin "object.__class__"))) (r13q : PySem.W.mroIn K E13 (.type "object") = some true)
    {E14  EF14 : Addr} {en14 eq14 : Str} {eN14 : Addr} {ebs14 : List Value} {esn14 : List Str} {esub14 : List Value} {eab14 : Bool} {ecol14 : Option Bool} {edd14 : Option Addr} {ek014 ek114 ek214 ek314 ek514 : Option Value} {eod14 ean14 : Option Addr} {esl14 : Array (Option Value)} {eoc14 ekV14 edc14 epm14 ecd14 ect14 : Value}
    (r14 : PySem.W.nsIn K mainGlobals "TooSmall" = some (some (.ref E14))) (r14a : K.lookup E14 = some (excClassObj en14 eq14 E14 eN14 ebs14 [.ref EB, .type "ValueError", .type "Exception", .type "BaseException", .type "object"] true esn14 esub14 eab14 ecol14 edd14 ek014 ek114 ek214 ek314 ek514 "ValueError.__new__"))
    (r14b : PySem.W.findIn K (.ref E14) "__setattr__" = some (some (.builtin "object.__setattr__"))) (r14c : PySem.W.findIn K (.ref E14) "__getattribute__" = some (some (.builtin "BaseException.__getattribute__"))) (r14d : PySem.W.findIn K (.ref E14) "__getattr__" = some none)
    (r14e : PySem.W.findIn K (.ref E14) "name" = some none) (r14f : PySem.W.findIn K (.ref E14) "__init__" = some (some (.ref EF14))) (r14g : PySem.W.typeIn K (.ref EF14) = some (.type "function"))
    (r14h : K.lookup EF14 = some ⟨eoc14, eod14, .func (PySem.W.fnOf "__init__" "TooSmall.__init__" (defArgs s_e_TooSmall) (defBody s_e_TooSmall) (defScope s_e_TooSmall) .none ekV14 edc14 epm14 ean14 ecd14 ect14), esl14⟩) (r14i : PySem.W.codeIn K ecd14 "TooSmall.__init__" = true) (r14j : PySem.W.keepIn K (.ref EF14) = true)
    (r14k : PySem.W.keepIn K (.ref E14) = true) (r14l : PySem.W.subIn K (.ref E14) (.type "BaseException") = some true) (r14m : PySem.W.typeIn K (.ref E14) = some (.type "type")) (r14n : PySem.W.hasDictIn K E14 = true) (r14o : PySem.W.isClsIn K E14 = true)
    (r14p : PySem.W.findIn K (.ref E14) "__class__" = some (some (.builtin "object.__class__"))) (r14q : PySem.W.mroIn K E14 (.type "object") = some true)
    {E15  EF15 : Addr} {en15 eq15 : Str} {eN15 : Addr} {ebs15 : List Value} {esn15 : List Str} {esub15 : List Value} {eab15 : Bool} {ecol15 : Option Bool} {edd15 : Option Addr} {ek015 ek115 ek215 ek315 ek515 : Option Value} {eod15 ean15 : Option Addr} {esl15 : Array (Option Value)} {eoc15 ekV15 edc15 epm15 ecd15 ect15 : Value}
    (r15 : PySem.W.nsIn K mainGlobals "BadStep" = some (some (.ref E15))) (r15a : K.lookup E15 = some (excClassObj en15 eq15 E15 eN15 ebs15 [.ref EB, .type "ValueError", .type "Exception", .type "BaseException", .type "object"] true esn15 esub15 eab15 ecol15 edd15 ek015 ek115 ek215 ek315 ek515 "ValueError.__new__"))
    (r15b : PySem.W.findIn K (.ref E15) "__setattr__" = some (some (.builtin "object.__setattr__"))) (r15c : PySem.W.findIn K (.ref E15) "__getattribute__" = some (some (.builtin "BaseException.__getattribute__"))) (r15d : PySem.W.findIn K (.ref E15) "__getattr__" = some none)
    (r15e : PySem.W.findIn K (.ref E15) "position" = some none) (r15f : PySem.W.findIn K (.ref E15) "__init__" = some (some (.ref EF15))) (r15g : PySem.W.typeIn K (.ref EF15) = some (.type "function"))
    (r15h : K.lookup EF15 = some ⟨eoc15, eod15, .func (PySem.W.fnOf "__init__" "BadStep.__init__" (defArgs s_e_BadStep) (defBody s_e_BadStep) (defScope s_e_BadStep) .none ekV15 edc15 epm15 ean15 ecd15 ect15), esl15⟩) (r15i : PySem.W.codeIn K ecd15 "BadStep.__init__" = true) (r15j : PySem.W.keepIn K (.ref EF15) = true)
    (r15k : PySem.W.keepIn K (.ref E15) = true) (r15l : PySem.W.subIn K (.ref E15) (.type "BaseException") = some true) (r15m : PySem.W.typeIn K (.ref E15) = some (.type "type")) (r15n : PySem.W.hasDictIn K E15 = true) (r15o : PySem.W.isClsIn K E15 = true)
    (r15p : PySem.W.findIn K (.ref E15) "__class__" = some (some (.builtin "object.__class__"))) (r15q : PySem.W.mroIn K E15 (.type "object") = some true)
    {E16  EF16 : Addr} {en16 eq16 : Str} {eN16 : Addr} {ebs16 : List Value} {esn16 : List Str} {esub16 : List Value} {eab16 : Bool} {ecol16 : Option Bool} {edd16 : Option Addr} {ek016 ek116 ek216 ek316 ek516 : Option Value} {eod16 ean16 : Option Addr} {esl16 : Array (Option Value)} {eoc16 ekV16 edc16 epm16 ecd16 ect16 : Value}
    (r16 : PySem.W.nsIn K mainGlobals "BadChange" = some (some (.ref E16))) (r16a : K.lookup E16 = some (excClassObj en16 eq16 E16 eN16 ebs16 [.ref EB, .type "ValueError", .type "Exception", .type "BaseException", .type "object"] true esn16 esub16 eab16 ecol16 edd16 ek016 ek116 ek216 ek316 ek516 "ValueError.__new__"))
    (r16b : PySem.W.findIn K (.ref E16) "__setattr__" = some (some (.builtin "object.__setattr__"))) (r16c : PySem.W.findIn K (.ref E16) "__getattribute__" = some (some (.builtin "BaseException.__getattribute__"))) (r16d : PySem.W.findIn K (.ref E16) "__getattr__" = some none)
    (r16e : PySem.W.findIn K (.ref E16) "position" = some none) (r16f : PySem.W.findIn K (.ref E16) "__init__" = some (some (.ref EF16))) (r16g : PySem.W.typeIn K (.ref EF16) = some (.type "function"))
    (r16h : K.lookup EF16 = some ⟨eoc16, eod16, .func (PySem.W.fnOf "__init__" "BadChange.__init__" (defArgs s_e_BadChange) (defBody s_e_BadChange) (defScope s_e_BadChange) .none ekV16 edc16 epm16 ean16 ecd16 ect16), esl16⟩) (r16i : PySem.W.codeIn K ecd16 "BadChange.__init__" = true) (r16j : PySem.W.keepIn K (.ref EF16) = true)
    (r16k : PySem.W.keepIn K (.ref E16) = true) (r16l : PySem.W.subIn K (.ref E16) (.type "BaseException") = some true) (r16m : PySem.W.typeIn K (.ref E16) = some (.type "type")) (r16n : PySem.W.hasDictIn K E16 = true) (r16o : PySem.W.isClsIn K E16 = true)
    (r16p : PySem.W.findIn K (.ref E16) "__class__" = some (some (.builtin "object.__class__"))) (r16q : PySem.W.mroIn K E16 (.type "object") = some true)
    {E17  EF17 : Addr} {en17 eq17 : Str} {eN17 : Addr} {ebs17 : List Value} {esn17 : List Str} {esub17 : List Value} {eab17 : Bool} {ecol17 : Option Bool} {edd17 : Option Addr} {ek017 ek117 ek217 ek317 ek517 : Option Value} {eod17 ean17 : Option Addr} {esl17 : Array (Option Value)} {eoc17 ekV17 edc17 epm17 ecd17 ect17 : Value}
    (r17 : PySem.W.nsIn K mainGlobals "TooDeep" = some (some (.ref E17))) (r17a : K.lookup E17 = some (excClassObj en17 eq17 E17 eN17 ebs17 [.ref EB, .type "ValueError", .type "Exception", .type "BaseException", .type "object"] true esn17 esub17 eab17 ecol17 edd17 ek017 ek117 ek217 ek317 ek517 "ValueError.__new__"))
    (r17b : PySem.W.findIn K (.ref E17) "__setattr__" = some (some (.builtin "object.__setattr__"))) (r17c : PySem.W.findIn K (.ref E17) "__getattribute__" = some (some (.builtin "BaseException.__getattribute__"))) (r17d : PySem.W.findIn K (.ref E17) "__getattr__" = some none)
    (r17e : PySem.W.findIn K (.ref E17) "depth" = some none) (r17f : PySem.W.findIn K (.ref E17) "__init__" = some (some (.ref EF17))) (r17g : PySem.W.typeIn K (.ref EF17) = some (.type "function"))
    (r17h : K.lookup EF17 = some ⟨eoc17, eod17, .func (PySem.W.fnOf "__init__" "TooDeep.__init__" (defArgs s_e_TooDeep) (defBody s_e_TooDeep) (defScope s_e_TooDeep) .none ekV17 edc17 epm17 ean17 ecd17 ect17), esl17⟩) (r17i : PySem.W.codeIn K ecd17 "TooDeep.__init__" = true) (r17j : PySem.W.keepIn K (.ref EF17) = true)
    (r17k : PySem.W.keepIn K (.ref E17) = true) (r17l : PySem.W.subIn K (.ref E17) (.type "BaseException") = some true) (r17m : PySem.W.typeIn K (.ref E17) = some (.type "type")) (r17n : PySem.W.hasDictIn K E17 = true) (r17o : PySem.W.isClsIn K E17 = true)
    (r17p : PySem.W.findIn K (.ref E17) "__class__" = some (some (.builtin "object.__class__"))) (r17q : PySem.W.mroIn K E17 (.type "object") = some true)
    {E18  EF18 : Addr} {en18 eq18 : Str} {eN18 : Addr} {ebs18 : List Value} {esn18 : List Str} {esub18 : List Value} {eab18 : Bool} {ecol18 : Option Bool} {edd18 : Option Addr} {ek018 ek118 ek218 ek318 ek518 : Option Value} {eod18 ean18 : Option Addr} {esl18 : Array (Option Value)} {eoc18 ekV18 edc18 epm18 ecd18 ect18 : Value}
    (r18 : PySem.W.nsIn K mainGlobals "TooGreat" = some (some (.ref E18))) (r18a : K.lookup E18 = some (excClassObj en18 eq18 E18 eN18 ebs18 [.ref EB, .type "ValueError", .type "Exception", .type "BaseException", .type "object"] true esn18 esub18 eab18 ecol18 edd18 ek018 ek118 ek218 ek318 ek518 "ValueError.__new__"))
    (r18b : PySem.W.findIn K (.ref E18) "__setattr__" = some (some (.builtin "object.__setattr__"))) (r18c : PySem.W.findIn K (.ref E18) "__getattribute__" = some (some (.builtin "BaseException.__getattribute__"))) (r18d : PySem.W.findIn K (.ref E18) "__getattr__" = some none)
    (r18e : PySem.W.findIn K (.ref E18) "size" = some none) (r18f : PySem.W.findIn K (.ref E18) "__init__" = some (some (.ref EF18))) (r18g : PySem.W.typeIn K (.ref EF18) = some (.type "function"))
    (r18h : K.lookup EF18 = some ⟨eoc18, eod18, .func (PySem.W.fnOf "__init__" "TooGreat.__init__" (defArgs s_e_TooGreat) (defBody s_e_TooGreat) (defScope s_e_TooGreat) .none ekV18 edc18 epm18 ean18 ecd18 ect18), esl18⟩) (r18i : PySem.W.codeIn K ecd18 "TooGreat.__init__" = true) (r18j : PySem.W.keepIn K (.ref EF18) = true)
    (r18k : PySem.W.keepIn K (.ref E18) = true) (r18l : PySem.W.subIn K (.ref E18) (.type "BaseException") = some true) (r18m : PySem.W.typeIn K (.ref E18) = some (.type "type")) (r18n : PySem.W.hasDictIn K E18 = true) (r18o : PySem.W.isClsIn K E18 = true)
    (r18p : PySem.W.findIn K (.ref E18) "__class__" = some (some (.builtin "object.__class__"))) (r18q : PySem.W.mroIn K E18 (.type "object") = some true)
    {E19  EF19 : Addr} {en19 eq19 : Str} {eN19 : Addr} {ebs19 : List Value} {esn19 : List Str} {esub19 : List Value} {eab19 : Bool} {ecol19 : Option Bool} {edd19 : Option Addr} {ek019 ek119 ek219 ek319 ek519 : Option Value} {eod19 ean19 : Option Addr} {esl19 : Array (Option Value)} {eoc19 ekV19 edc19 epm19 ecd19 ect19 : Value}
    (r19 : PySem.W.nsIn K mainGlobals "OtherHead" = some (some (.ref E19))) (r19a : K.lookup E19 = some (excClassObj en19 eq19 E19 eN19 ebs19 [.ref EB, .type "ValueError", .type "Exception", .type "BaseException", .type "object"] true esn19 esub19 eab19 ecol19 edd19 ek019 ek119 ek219 ek319 ek519 "ValueError.__new__"))
    (r19b : PySem.W.findIn K (.ref E19) "__setattr__" = some (some (.builtin "object.__setattr__"))) (r19c : PySem.W.findIn K (.ref E19) "__getattribute__" = some (some (.builtin "BaseException.__getattribute__"))) (r19d : PySem.W.findIn K (.ref E19) "__getattr__" = some none)
    (r19e : PySem.W.findIn K (.ref E19) "head" = some none) (r19f : PySem.W.findIn K (.ref E19) "__init__" = some (some (.ref EF19))) (r19g : PySem.W.typeIn K (.ref EF19) = some (.type "function"))
    (r19h : K.lookup EF19 = some ⟨eoc19, eod19, .func (PySem.W.fnOf "__init__" "OtherHead.__init__" (defArgs s_e_OtherHead) (defBody s_e_OtherHead) (defScope s_e_OtherHead) .none ekV19 edc19 epm19 ean19 ecd19 ect19), esl19⟩) (r19i : PySem.W.codeIn K ecd19 "OtherHead.__init__" = true) (r19j : PySem.W.keepIn K (.ref EF19) = true)
    (r19k : PySem.W.keepIn K (.ref E19) = true) (r19l : PySem.W.subIn K (.ref E19) (.type "BaseException") = some true) (r19m : PySem.W.typeIn K (.ref E19) = some (.type "type")) (r19n : PySem.W.hasDictIn K E19 = true) (r19o : PySem.W.isClsIn K E19 = true)
    (r19p : PySem.W.findIn K (.ref E19) "__class__" = some (some (.builtin "object.__class__"))) (r19q : PySem.W.mroIn K E19 (.type "object") = some true)
    {E20  EF20 : Addr} {en20 eq20 : Str} {eN20 : Addr} {ebs20 : List Value} {esn20 : List Str} {esub20 : List Value} {eab20 : Bool} {ecol20 : Option Bool} {edd20 : Option Addr} {ek020 ek120 ek220 ek320 ek520 : Option Value} {eod20 ean20 : Option Addr} {esl20 : Array (Option Value)} {eoc20 ekV20 edc20 epm20 ecd20 ect20 : Value}
    (r20 : PySem.W.nsIn K mainGlobals "Held" = some (some (.ref E20))) (r20a : K.lookup E20 = some (excClassObj en20 eq20 E20 eN20 ebs20 [.ref EB, .type "ValueError", .type "Exception", .type "BaseException", .type "object"] true esn20 esub20 eab20 ecol20 edd20 ek020 ek120 ek220 ek320 ek520 "ValueError.__new__"))
    (r20b : PySem.W.findIn K (.ref E20) "__setattr__" = some (some (.builtin "object.__setattr__"))) (r20c : PySem.W.findIn K (.ref E20) "__getattribute__" = some (some (.builtin "BaseException.__getattribute__"))) (r20d : PySem.W.findIn K (.ref E20) "__getattr__" = some none)
    (r20e : PySem.W.findIn K (.ref E20) "size" = some none) (r20f : PySem.W.findIn K (.ref E20) "__init__" = some (some (.ref EF20))) (r20g : PySem.W.typeIn K (.ref EF20) = some (.type "function"))
    (r20h : K.lookup EF20 = some ⟨eoc20, eod20, .func (PySem.W.fnOf "__init__" "Held.__init__" (defArgs s_e_Held) (defBody s_e_Held) (defScope s_e_Held) .none ekV20 edc20 epm20 ean20 ecd20 ect20), esl20⟩) (r20i : PySem.W.codeIn K ecd20 "Held.__init__" = true) (r20j : PySem.W.keepIn K (.ref EF20) = true)
    (r20k : PySem.W.keepIn K (.ref E20) = true) (r20l : PySem.W.subIn K (.ref E20) (.type "BaseException") = some true) (r20m : PySem.W.typeIn K (.ref E20) = some (.type "type")) (r20n : PySem.W.hasDictIn K E20 = true) (r20o : PySem.W.isClsIn K E20 = true)
    (r20p : PySem.W.findIn K (.ref E20) "__class__" = some (some (.builtin "object.__class__"))) (r20q : PySem.W.mroIn K E20 (.type "object") = some true)
    {E21  EF21 : Addr} {en21 eq21 : Str} {eN21 : Addr} {ebs21 : List Value} {esn21 : List Str} {esub21 : List Value} {eab21 : Bool} {ecol21 : Option Bool} {edd21 : Option Addr} {ek021 ek121 ek221 ek321 ek521 : Option Value} {eod21 ean21 : Option Addr} {esl21 : Array (Option Value)} {eoc21 ekV21 edc21 epm21 ecd21 ect21 : Value}
    (r21 : PySem.W.nsIn K mainGlobals "TooFar" = some (some (.ref E21))) (r21a : K.lookup E21 = some (excClassObj en21 eq21 E21 eN21 ebs21 [.ref EB, .type "ValueError", .type "Exception", .type "BaseException", .type "object"] true esn21 esub21 eab21 ecol21 edd21 ek021 ek121 ek221 ek321 ek521 "ValueError.__new__"))
    (r21b : PySem.W.findIn K (.ref E21) "__setattr__" = some (some (.builtin "object.__setattr__"))) (r21c : PySem.W.findIn K (.ref E21) "__getattribute__" = some (some (.builtin "BaseException.__getattribute__"))) (r21d : PySem.W.findIn K (.ref E21) "__getattr__" = some none)
    (r21e : PySem.W.findIn K (.ref E21) "count" = some none) (r21f : PySem.W.findIn K (.ref E21) "__init__" = some (some (.ref EF21))) (r21g : PySem.W.typeIn K (.ref EF21) = some (.type "function"))
    (r21h : K.lookup EF21 = some ⟨eoc21, eod21, .func (PySem.W.fnOf "__init__" "TooFar.__init__" (defArgs s_e_TooFar) (defBody s_e_TooFar) (defScope s_e_TooFar) .none ekV21 edc21 epm21 ean21 ecd21 ect21), esl21⟩) (r21i : PySem.W.codeIn K ecd21 "TooFar.__init__" = true) (r21j : PySem.W.keepIn K (.ref EF21) = true)
    (r21k : PySem.W.keepIn K (.ref E21) = true) (r21l : PySem.W.subIn K (.ref E21) (.type "BaseException") = some true) (r21m : PySem.W.typeIn K (.ref E21) = some (.type "type")) (r21n : PySem.W.hasDictIn K E21 = true) (r21o : PySem.W.isClsIn K E21 = true)
    (r21p : PySem.W.findIn K (.ref E21) "__class__" = some (some (.builtin "object.__class__"))) (r21q : PySem.W.mroIn K E21 (.type "object") = some true)
    {E22  EF22 : Addr} {en22 eq22 : Str} {eN22 : Addr} {ebs22 : List Value} {esn22 : List Str} {esub22 : List Value} {eab22 : Bool} {ecol22 : Option Bool} {edd22 : Option Addr} {ek022 ek122 ek222 ek322 ek522 : Option Value} {eod22 ean22 : Option Addr} {esl22 : Array (Option Value)} {eoc22 ekV22 edc22 epm22 ecd22 ect22 : Value}
    (r22 : PySem.W.nsIn K mainGlobals "Hopeless" = some (some (.ref E22))) (r22a : K.lookup E22 = some (excClassObj en22 eq22 E22 eN22 ebs22 [.ref EB, .type "ValueError", .type "Exception", .type "BaseException", .type "object"] true esn22 esub22 eab22 ecol22 edd22 ek022 ek122 ek222 ek322 ek522 "ValueError.__new__"))
    (r22b : PySem.W.findIn K (.ref E22) "__setattr__" = some (some (.builtin "object.__setattr__"))) (r22c : PySem.W.findIn K (.ref E22) "__getattribute__" = some (some (.builtin "BaseException.__getattribute__"))) (r22d : PySem.W.findIn K (.ref E22) "__getattr__" = some none)
    (r22e : PySem.W.findIn K (.ref E22) "body" = some none) (r22f : PySem.W.findIn K (.ref E22) "__init__" = some (some (.ref EF22))) (r22g : PySem.W.typeIn K (.ref EF22) = some (.type "function"))
    (r22h : K.lookup EF22 = some ⟨eoc22, eod22, .func (PySem.W.fnOf "__init__" "Hopeless.__init__" (defArgs s_e_Hopeless) (defBody s_e_Hopeless) (defScope s_e_Hopeless) .none ekV22 edc22 epm22 ean22 ecd22 ect22), esl22⟩) (r22i : PySem.W.codeIn K ecd22 "Hopeless.__init__" = true) (r22j : PySem.W.keepIn K (.ref EF22) = true)
    (r22k : PySem.W.keepIn K (.ref E22) = true) (r22l : PySem.W.subIn K (.ref E22) (.type "BaseException") = some true) (r22m : PySem.W.typeIn K (.ref E22) = some (.type "type")) (r22n : PySem.W.hasDictIn K E22 = true) (r22o : PySem.W.isClsIn K E22 = true)
    (r22p : PySem.W.findIn K (.ref E22) "__class__" = some (some (.builtin "object.__class__"))) (r22q : PySem.W.mroIn K E22 (.type "object") = some true)
    {E23  EF23 : Addr} {en23 eq23 : Str} {eN23 : Addr} {ebs23 : List Value} {esn23 : List Str} {esub23 : List Value} {eab23 : Bool} {ecol23 : Option Bool} {edd23 : Option Addr} {ek023 ek123 ek223 ek323 ek523 : Option Value} {eod23 ean23 : Option Addr} {esl23 : Array (Option Value)} {eoc23 ekV23 edc23 epm23 ecd23 ect23 : Value}
    (r23 : PySem.W.nsIn K mainGlobals "BadText" = some (some (.ref E23))) (r23a : K.lookup E23 = some (excClassObj en23 eq23 E23 eN23 ebs23 [.ref EB, .type "ValueError", .type "Exception", .type "BaseException", .type "object"] true esn23 esub23 eab23 ecol23 edd23 ek023 ek123 ek223 ek323 ek523 "ValueError.__new__"))
    (r23b : PySem.W.findIn K (.ref E23) "__setattr__" = some (some (.builtin "object.__setattr__"))) (r23c : PySem.W.findIn K (.ref E23) "__getattribute__" = some (some (.builtin "BaseException.__getattribute__"))) (r23d : PySem.W.findIn K (.ref E23) "__getattr__" = some none)
    (r23e : PySem.W.findIn K (.ref E23) "line" = some none) (r23f : PySem.W.findIn K (.ref E23) "__init__" = some (some (.ref EF23))) (r23g : PySem.W.typeIn K (.ref EF23) = some (.type "function"))
    (r23h : K.lookup EF23 = some ⟨eoc23, eod23, .func (PySem.W.fnOf "__init__" "BadText.__init__" (defArgs s_e_BadText) (defBody s_e_BadText) (defScope s_e_BadText) .none ekV23 edc23 epm23 ean23 ecd23 ect23), esl23⟩) (r23i : PySem.W.codeIn K ecd23 "BadText.__init__" = true) (r23j : PySem.W.keepIn K (.ref EF23) = true)
    (r23k : PySem.W.keepIn K (.ref E23) = true) (r23l : PySem.W.subIn K (.ref E23) (.type "BaseException") = some true) (r23m : PySem.W.typeIn K (.ref E23) = some (.type "type")) (r23n : PySem.W.hasDictIn K E23 = true) (r23o : PySem.W.isClsIn K E23 = true)
    (r23p : PySem.W.findIn K (.ref E23) "__class__" = some (some (.builtin "object.__class__"))) (r23q : PySem.W.mroIn K E23 (.type "object") = some true)
    {E24  EF24 : Addr} {en24 eq24 : Str} {eN24 : Addr} {ebs24 : List Value} {esn24 : List Str} {esub24 : List Value} {eab24 : Bool} {ecol24 : Option Bool} {edd24 : Option Addr} {ek024 ek124 ek224 ek324 ek524 : Option Value} {eod24 ean24 : Option Addr} {esl24 : Array (Option Value)} {eoc24 ekV24 edc24 epm24 ecd24 ect24 : Value}
    (r24 : PySem.W.nsIn K mainGlobals "BadCommand" = some (some (.ref E24))) (r24a : K.lookup E24 = some (excClassObj en24 eq24 E24 eN24 ebs24 [.ref EB, .type "ValueError", .type "Exception", .type "BaseException", .type "object"] true esn24 esub24 eab24 ecol24 edd24 ek024 ek124 ek224 ek324 ek524 "ValueError.__new__"))
    (r24b : PySem.W.findIn K (.ref E24) "__setattr__" = some (some (.builtin "object.__setattr__"))) (r24c : PySem.W.findIn K (.ref E24) "__getattribute__" = some (some (.builtin "BaseException.__getattribute__"))) (r24d : PySem.W.findIn K (.ref E24) "__getattr__" = some none)
    (r24e : PySem.W.findIn K (.ref E24) "command" = some none) (r24f : PySem.W.findIn K (.ref E24) "__init__" = some (some (.ref EF24))) (r24g : PySem.W.typeIn K (.ref EF24) = some (.type "function"))
    (r24h : K.lookup EF24 = some ⟨eoc24, eod24, .func (PySem.W.fnOf "__init__" "BadCommand.__init__" (defArgs s_e_BadCommand) (defBody s_e_BadCommand) (defScope s_e_BadCommand) .none ekV24 edc24 epm24 ean24 ecd24 ect24), esl24⟩) (r24i : PySem.W.codeIn K ecd24 "BadCommand.__init__" = true) (r24j : PySem.W.keepIn K (.ref EF24) = true)
    (r24k : PySem.W.keepIn K (.ref E24) = true) (r24l : PySem.W.subIn K (.ref E24) (.type "BaseException") = some true) (r24m : PySem.W.typeIn K (.ref E24) = some (.type "type")) (r24n : PySem.W.hasDictIn K E24 = true) (r24o : PySem.W.isClsIn K E24 = true)
    (r24p : PySem.W.findIn K (.ref E24) "__class__" = some (some (.builtin "object.__class__"))) (r24q : PySem.W.mroIn K E24 (.type "object") = some true)
    (nd : [E0, E1, E2, E3, E4, E5, E6, E7, E8, E9, E10, E11, E12, E13, E14, E15, E16, E17, E18, E19, E20, E21, E22, E23, E24, EB].Nodup)
    (z0 : PySem.W.nsIn K mainGlobals "ValueError" = some none)
    (z1 : PySem.W.nsIn K mainGlobals "enumerate" = some none)
    (z2 : PySem.W.nsIn K mainGlobals "int" = some none)
    (z3 : PySem.W.nsIn K mainGlobals "isinstance" = some none)
    (z4 : PySem.W.nsIn K mainGlobals "len" = some none)
    (z5 : PySem.W.nsIn K mainGlobals "list" = some none)
    (z6 : PySem.W.nsIn K mainGlobals "max" = some none)
    (z7 : PySem.W.nsIn K mainGlobals "min" = some none)
    (z8 : PySem.W.nsIn K mainGlobals "range" = some none)
    (z9 : PySem.W.nsIn K mainGlobals "repr" = some none) :
    ∃ fd : FuncData, (∀ (s : Shared) (v : Value), BindsTo s fd ⟨[v], []⟩ [("script", v)]) ∧ ∀ base : Heap, K.In base → base.Ns mainGlobals mg → DVG.FnG true l.prog w K mg base (L2.CX l.prog w) 4 fa fd ["script"] (spT K 63) := by
  have e := hfa.symm.trans (PySem.W.mg_of X G a7)
  cases e
  have F0 := fun_mk (st := s_law_source) l0 c0 k0
  have F1 := fun_mk (st := s_law_draw) l1 c1 k1
  have F2 := fun_mk (st := s_law_pick) l2 c2 k2
  have F3 := fun_mk (st := s_law_by_place) l3 c3 k3
  have F4 := fun_mk (st := s_law_by_name) l4 c4 k4
  have F5 := fun_mk (st := s_law_kinds) l5 c5 k5
  have F6 := fun_mk (st := s_law_stored) l6 c6 k6
  have F7 := fun_mk (st := s_law) l7 c7 k7
  have FE0 := fun_mk (st := s_e_BadHead) r0h r0i r0j
  have FE1 := fun_mk (st := s_e_BadSteps) r1h r1i r1j
  have FE2 := fun_mk (st := s_e_NoStep) r2h r2i r2j
  have FE3 := fun_mk (st := s_e_BadBody) r3h r3i r3j
  have FE4 := fun_mk (st := s_e_BadChain) r4h r4i r4j
  have FE5 := fun_mk (st := s_e_NoBoundary) r5h r5i r5j
  have FE6 := fun_mk (st := s_e_NoPiece) r6h r6i r6j
  have FE7 := fun_mk (st := s_e_BadStretches) r7h r7i r7j
  have FE8 := fun_mk (st := s_e_BadName) r8h r8i r8j
  have FE9 := fun_mk (st := s_e_BadRoad) r9h r9i r9j
  have FE10 := fun_mk (st := s_e_BadTells) r10h r10i r10j
  have FE11 := fun_mk (st := s_e_NoMouth) r11h r11i r11j
  have FE12 := fun_mk (st := s_e_NameTaken) r12h r12i r12j
  have FE13 := fun_mk (st := s_e_UnknownName) r13h r13i r13j
  have FE14 := fun_mk (st := s_e_TooSmall) r14h r14i r14j
  have FE15 := fun_mk (st := s_e_BadStep) r15h r15i r15j
  have FE16 := fun_mk (st := s_e_BadChange) r16h r16i r16j
  have FE17 := fun_mk (st := s_e_TooDeep) r17h r17i r17j
  have FE18 := fun_mk (st := s_e_TooGreat) r18h r18i r18j
  have FE19 := fun_mk (st := s_e_OtherHead) r19h r19i r19j
  have FE20 := fun_mk (st := s_e_Held) r20h r20i r20j
  have FE21 := fun_mk (st := s_e_TooFar) r21h r21i r21j
  have FE22 := fun_mk (st := s_e_Hopeless) r22h r22i r22j
  have FE23 := fun_mk (st := s_e_BadText) r23h r23i r23j
  have FE24 := fun_mk (st := s_e_BadCommand) r24h r24i r24j
  have T : Txt K mg ⟨f0, _, f1, _, f2, _, f3, _, f4, _, f5, _, f6, _, fa, _, EF0, _, EF1, _, EF2, _, EF3, _, EF4, _, EF5, _, EF6, _, EF7, _, EF8, _, EF9, _, EF10, _, EF11, _, EF12, _, EF13, _, EF14, _, EF15, _, EF16, _, EF17, _, EF18, _, EF19, _, EF20, _, EF21, _, EF22, _, EF23, _, EF24, _, ⟨E0, E1, E2, E3, E4, E5, E6, E7, E8, E9, E10, E11, E12, E13, E14, E15, E16, E17, E18, E19, E20, E21, E22, E23, E24, EB⟩⟩ := {
    f_law_source := F0,
    n_law_source := F0.binds (fun _ _ _ _ _ _ us hl => match us, hl with | [_, _], _ => rfl),
    g_law_source := PySem.W.mg_of X G a0,
    f_law_draw := F1,
    n_law_draw := F1.binds (fun _ _ _ _ _ _ us hl => match us, hl with | [_, _], _ => rfl),
    g_law_draw := PySem.W.mg_of X G a1,
    f_law_pick := F2,
    n_law_pick := F2.binds (fun _ _ _ _ _ _ us hl => match us, hl with | [_, _], _ => rfl),
    g_law_pick := PySem.W.mg_of X G a2,
    f_law_by_place := F3,
    n_law_by_place := F3.binds (fun _ _ _ _ _ _ us hl => match us, hl with | [_, _, _], _ => rfl),
    g_law_by_place := PySem.W.mg_of X G a3,
    f_law_by_name := F4,
    n_law_by_name := F4.binds (fun _ _ _ _ _ _ us hl => match us, hl with | [_, _, _], _ => rfl),
    g_law_by_name := PySem.W.mg_of X G a4,
    f_law_kinds := F5,
    n_law_kinds := F5.binds (fun _ _ _ _ _ _ us hl => match us, hl with | [_], _ => rfl),
    g_law_kinds := PySem.W.mg_of X G a5,
    f_law_stored := F6,
    n_law_stored := F6.binds (fun _ _ _ _ _ _ us hl => match us, hl with | [_], _ => rfl),
    g_law_stored := PySem.W.mg_of X G a6,
    f_law := F7,
    n_law := F7.binds (fun _ _ _ _ _ _ us hl => match us, hl with | [_], _ => rfl),
    g_law := PySem.W.mg_of X G a7,
    e_BadHead := ⟨⟨⟨_, _, _, _, _, _, _, _, _, _, _, _, _, _, _, r0a, rfl⟩, r0b, r0l, r0m, r0k⟩, ⟨r0c, r0d, r0l, r0n⟩, PySem.W.mg_of X G r0, r0f, r0g, r0e⟩,
    f_e_BadHead := FE0,
    n_e_BadHead := FE0.binds (fun _ _ _ _ _ _ us hl => match us, hl with | [_, _], _ => rfl),
    na_e_BadHead_value := r0e,
    e_BadSteps := ⟨⟨⟨_, _, _, _, _, _, _, _, _, _, _, _, _, _, _, r1a, rfl⟩, r1b, r1l, r1m, r1k⟩, ⟨r1c, r1d, r1l, r1n⟩, PySem.W.mg_of X G r1, r1f, r1g, r1e⟩,
    f_e_BadSteps := FE1,
    n_e_BadSteps := FE1.binds (fun _ _ _ _ _ _ us hl => match us, hl with | [_, _], _ => rfl),
    na_e_BadSteps_value := r1e,
    e_NoStep := ⟨⟨⟨_, _, _, _, _, _, _, _, _, _, _, _, _, _, _, r2a, rfl⟩, r2b, r2l, r2m, r2k⟩, ⟨r2c, r2d, r2l, r2n⟩, PySem.W.mg_of X G r2, r2f, r2g, r2e⟩,
    f_e_NoStep := FE2,
    n_e_NoStep := FE2.binds (fun _ _ _ _ _ _ us hl => match us, hl with | [_, _], _ => rfl),
    na_e_NoStep_value := r2e,
    e_BadBody := ⟨⟨⟨_, _, _, _, _, _, _, _, _, _, _, _, _, _, _, r3a, rfl⟩, r3b, r3l, r3m, r3k⟩, ⟨r3c, r3d, r3l, r3n⟩, PySem.W.mg_of X G r3, r3f, r3g, r3e⟩,
    f_e_BadBody := FE3,
    n_e_BadBody := FE3.binds (fun _ _ _ _ _ _ us hl => match us, hl with | [_, _], _ => rfl),
    na_e_BadBody_value := r3e,
    e_BadChain := ⟨⟨⟨_, _, _, _, _, _, _, _, _, _, _, _, _, _, _, r4a, rfl⟩, r4b, r4l, r4m, r4k⟩, ⟨r4c, r4d, r4l, r4n⟩, PySem.W.mg_of X G r4, r4f, r4g, r4e⟩,
    f_e_BadChain := FE4,
    n_e_BadChain := FE4.binds (fun _ _ _ _ _ _ us hl => match us, hl with | [_, _], _ => rfl),
    na_e_BadChain_value := r4e,
    e_NoBoundary := ⟨⟨⟨_, _, _, _, _, _, _, _, _, _, _, _, _, _, _, r5a, rfl⟩, r5b, r5l, r5m, r5k⟩, ⟨r5c, r5d, r5l, r5n⟩, PySem.W.mg_of X G r5, r5f, r5g, r5e⟩,
    f_e_NoBoundary := FE5,
    n_e_NoBoundary := FE5.binds (fun _ _ _ _ _ _ us hl => match us, hl with | [_, _], _ => rfl),
    na_e_NoBoundary_value := r5e,
    e_NoPiece := ⟨⟨⟨_, _, _, _, _, _, _, _, _, _, _, _, _, _, _, r6a, rfl⟩, r6b, r6l, r6m, r6k⟩, ⟨r6c, r6d, r6l, r6n⟩, PySem.W.mg_of X G r6, r6f, r6g, r6e⟩,
    f_e_NoPiece := FE6,
    n_e_NoPiece := FE6.binds (fun _ _ _ _ _ _ us hl => match us, hl with | [_, _], _ => rfl),
    na_e_NoPiece_value := r6e,
    e_BadStretches := ⟨⟨⟨_, _, _, _, _, _, _, _, _, _, _, _, _, _, _, r7a, rfl⟩, r7b, r7l, r7m, r7k⟩, ⟨r7c, r7d, r7l, r7n⟩, PySem.W.mg_of X G r7, r7f, r7g, r7e⟩,
    f_e_BadStretches := FE7,
    n_e_BadStretches := FE7.binds (fun _ _ _ _ _ _ us hl => match us, hl with | [_, _], _ => rfl),
    na_e_BadStretches_value := r7e,
    e_BadName := ⟨⟨⟨_, _, _, _, _, _, _, _, _, _, _, _, _, _, _, r8a, rfl⟩, r8b, r8l, r8m, r8k⟩, ⟨r8c, r8d, r8l, r8n⟩, PySem.W.mg_of X G r8, r8f, r8g, r8e⟩,
    f_e_BadName := FE8,
    n_e_BadName := FE8.binds (fun _ _ _ _ _ _ us hl => match us, hl with | [_, _], _ => rfl),
    na_e_BadName_value := r8e,
    e_BadRoad := ⟨⟨⟨_, _, _, _, _, _, _, _, _, _, _, _, _, _, _, r9a, rfl⟩, r9b, r9l, r9m, r9k⟩, ⟨r9c, r9d, r9l, r9n⟩, PySem.W.mg_of X G r9, r9f, r9g, r9e⟩,
    f_e_BadRoad := FE9,
    n_e_BadRoad := FE9.binds (fun _ _ _ _ _ _ us hl => match us, hl with | [_, _], _ => rfl),
    na_e_BadRoad_value := r9e,
    e_BadTells := ⟨⟨⟨_, _, _, _, _, _, _, _, _, _, _, _, _, _, _, r10a, rfl⟩, r10b, r10l, r10m, r10k⟩, ⟨r10c, r10d, r10l, r10n⟩, PySem.W.mg_of X G r10, r10f, r10g, r10e⟩,
    f_e_BadTells := FE10,
    n_e_BadTells := FE10.binds (fun _ _ _ _ _ _ us hl => match us, hl with | [_, _], _ => rfl),
    na_e_BadTells_value := r10e,
    e_NoMouth := ⟨⟨⟨_, _, _, _, _, _, _, _, _, _, _, _, _, _, _, r11a, rfl⟩, r11b, r11l, r11m, r11k⟩, ⟨r11c, r11d, r11l, r11n⟩, PySem.W.mg_of X G r11, r11f, r11g, r11e⟩,
    f_e_NoMouth := FE11,
    n_e_NoMouth := FE11.binds (fun _ _ _ _ _ _ us hl => match us, hl with | [_, _], _ => rfl),
    na_e_NoMouth_value := r11e,
    e_NameTaken := ⟨⟨⟨_, _, _, _, _, _, _, _, _, _, _, _, _, _, _, r12a, rfl⟩, r12b, r12l, r12m, r12k⟩, ⟨r12c, r12d, r12l, r12n⟩, PySem.W.mg_of X G r12, r12f, r12g, r12e⟩,
    f_e_NameTaken := FE12,
    n_e_NameTaken := FE12.binds (fun _ _ _ _ _ _ us hl => match us, hl with | [_, _], _ => rfl),
    na_e_NameTaken_name := r12e,
    e_UnknownName := ⟨⟨⟨_, _, _, _, _, _, _, _, _, _, _, _, _, _, _, r13a, rfl⟩, r13b, r13l, r13m, r13k⟩, ⟨r13c, r13d, r13l, r13n⟩, PySem.W.mg_of X G r13, r13f, r13g, r13e⟩,
    f_e_UnknownName := FE13,
    n_e_UnknownName := FE13.binds (fun _ _ _ _ _ _ us hl => match us, hl with | [_, _], _ => rfl),
    na_e_UnknownName_name := r13e,
    e_TooSmall := ⟨⟨⟨_, _, _, _, _, _, _, _, _, _, _, _, _, _, _, r14a, rfl⟩, r14b, r14l, r14m, r14k⟩, ⟨r14c, r14d, r14l, r14n⟩, PySem.W.mg_of X G r14, r14f, r14g, r14e⟩,
    f_e_TooSmall := FE14,
    n_e_TooSmall := FE14.binds (fun _ _ _ _ _ _ us hl => match us, hl with | [_, _], _ => rfl),
    na_e_TooSmall_name := r14e,
    e_BadStep := ⟨⟨⟨_, _, _, _, _, _, _, _, _, _, _, _, _, _, _, r15a, rfl⟩, r15b, r15l, r15m, r15k⟩, ⟨r15c, r15d, r15l, r15n⟩, PySem.W.mg_of X G r15, r15f, r15g, r15e⟩,
    f_e_BadStep := FE15,
    n_e_BadStep := FE15.binds (fun _ _ _ _ _ _ us hl => match us, hl with | [_, _], _ => rfl),
    na_e_BadStep_position := r15e,
    e_BadChange := ⟨⟨⟨_, _, _, _, _, _, _, _, _, _, _, _, _, _, _, r16a, rfl⟩, r16b, r16l, r16m, r16k⟩, ⟨r16c, r16d, r16l, r16n⟩, PySem.W.mg_of X G r16, r16f, r16g, r16e⟩,
    f_e_BadChange := FE16,
    n_e_BadChange := FE16.binds (fun _ _ _ _ _ _ us hl => match us, hl with | [_, _], _ => rfl),
    na_e_BadChange_position := r16e,
    e_TooDeep := ⟨⟨⟨_, _, _, _, _, _, _, _, _, _, _, _, _, _, _, r17a, rfl⟩, r17b, r17l, r17m, r17k⟩, ⟨r17c, r17d, r17l, r17n⟩, PySem.W.mg_of X G r17, r17f, r17g, r17e⟩,
    f_e_TooDeep := FE17,
    n_e_TooDeep := FE17.binds (fun _ _ _ _ _ _ us hl => match us, hl with | [_, _], _ => rfl),
    na_e_TooDeep_depth := r17e,
    e_TooGreat := ⟨⟨⟨_, _, _, _, _, _, _, _, _, _, _, _, _, _, _, r18a, rfl⟩, r18b, r18l, r18m, r18k⟩, ⟨r18c, r18d, r18l, r18n⟩, PySem.W.mg_of X G r18, r18f, r18g, r18e⟩,
    f_e_TooGreat := FE18,
    n_e_TooGreat := FE18.binds (fun _ _ _ _ _ _ us hl => match us, hl with | [_, _], _ => rfl),
    na_e_TooGreat_size := r18e,
    e_OtherHead := ⟨⟨⟨_, _, _, _, _, _, _, _, _, _, _, _, _, _, _, r19a, rfl⟩, r19b, r19l, r19m, r19k⟩, ⟨r19c, r19d, r19l, r19n⟩, PySem.W.mg_of X G r19, r19f, r19g, r19e⟩,
    f_e_OtherHead := FE19,
    n_e_OtherHead := FE19.binds (fun _ _ _ _ _ _ us hl => match us, hl with | [_, _], _ => rfl),
    na_e_OtherHead_head := r19e,
    e_Held := ⟨⟨⟨_, _, _, _, _, _, _, _, _, _, _, _, _, _, _, r20a, rfl⟩, r20b, r20l, r20m, r20k⟩, ⟨r20c, r20d, r20l, r20n⟩, PySem.W.mg_of X G r20, r20f, r20g, r20e⟩,
    f_e_Held := FE20,
    n_e_Held := FE20.binds (fun _ _ _ _ _ _ us hl => match us, hl with | [_, _], _ => rfl),
    na_e_Held_size := r20e,
    e_TooFar := ⟨⟨⟨_, _, _, _, _, _, _, _, _, _, _, _, _, _, _, r21a, rfl⟩, r21b, r21l, r21m, r21k⟩, ⟨r21c, r21d, r21l, r21n⟩, PySem.W.mg_of X G r21, r21f, r21g, r21e⟩,
    f_e_TooFar := FE21,
    n_e_TooFar := FE21.binds (fun _ _ _ _ _ _ us hl => match us, hl with | [_, _], _ => rfl),
    na_e_TooFar_count := r21e,
    e_Hopeless := ⟨⟨⟨_, _, _, _, _, _, _, _, _, _, _, _, _, _, _, r22a, rfl⟩, r22b, r22l, r22m, r22k⟩, ⟨r22c, r22d, r22l, r22n⟩, PySem.W.mg_of X G r22, r22f, r22g, r22e⟩,
    f_e_Hopeless := FE22,
    n_e_Hopeless := FE22.binds (fun _ _ _ _ _ _ us hl => match us, hl with | [_, _], _ => rfl),
    na_e_Hopeless_body := r22e,
    e_BadText := ⟨⟨⟨_, _, _, _, _, _, _, _, _, _, _, _, _, _, _, r23a, rfl⟩, r23b, r23l, r23m, r23k⟩, ⟨r23c, r23d, r23l, r23n⟩, PySem.W.mg_of X G r23, r23f, r23g, r23e⟩,
    f_e_BadText := FE23,
    n_e_BadText := FE23.binds (fun _ _ _ _ _ _ us hl => match us, hl with | [_, _], _ => rfl),
    na_e_BadText_line := r23e,
    e_BadCommand := ⟨⟨⟨_, _, _, _, _, _, _, _, _, _, _, _, _, _, _, r24a, rfl⟩, r24b, r24l, r24m, r24k⟩, ⟨r24c, r24d, r24l, r24n⟩, PySem.W.mg_of X G r24, r24f, r24g, r24e⟩,
    f_e_BadCommand := FE24,
    n_e_BadCommand := FE24.binds (fun _ _ _ _ _ _ us hl => match us, hl with | [_, _], _ => rfl),
    na_e_BadCommand_command := r24e,
    g_EB := PySem.W.mg_of X G eb,
    ea := ⟨(List.forall_mem_cons.mpr ⟨⟨⟨r0c, r0d, r0l, r0n, r0p, ebn, ebk, r0q⟩, ⟨_, (by unfold PySem.W.clsIn; rw [r0a]), rfl⟩, r0m⟩, (List.forall_mem_cons.mpr ⟨⟨⟨r1c, r1d, r1l, r1n, r1p, ebn, ebk, r1q⟩, ⟨_, (by unfold PySem.W.clsIn; rw [r1a]), rfl⟩, r1m⟩, (List.forall_mem_cons.mpr ⟨⟨⟨r2c, r2d, r2l, r2n, r2p, ebn, ebk, r2q⟩, ⟨_, (by unfold PySem.W.clsIn; rw [r2a]), rfl⟩, r2m⟩, (List.forall_mem_cons.mpr ⟨⟨⟨r3c, r3d, r3l, r3n, r3p, ebn, ebk, r3q⟩, ⟨_, (by unfold PySem.W.clsIn; rw [r3a]), rfl⟩, r3m⟩, (List.forall_mem_cons.mpr ⟨⟨⟨r4c, r4d, r4l, r4n, r4p, ebn, ebk, r4q⟩, ⟨_, (by unfold PySem.W.clsIn; rw [r4a]), rfl⟩, r4m⟩, (List.forall_mem_cons.mpr ⟨⟨⟨r5c, r5d, r5l, r5n, r5p, ebn, ebk, r5q⟩, ⟨_, (by unfold PySem.W.clsIn; rw [r5a]), rfl⟩, r5m⟩, (List.forall_mem_cons.mpr ⟨⟨⟨r6c, r6d, r6l, r6n, r6p, ebn, ebk, r6q⟩, ⟨_, (by unfold PySem.W.clsIn; rw [r6a]), rfl⟩, r6m⟩, (List.forall_mem_cons.mpr ⟨⟨⟨r7c, r7d, r7l, r7n, r7p, ebn, ebk, r7q⟩, ⟨_, (by unfold PySem.W.clsIn; rw [r7a]), rfl⟩, r7m⟩, (List.forall_mem_cons.mpr ⟨⟨⟨r8c, r8d, r8l, r8n, r8p, ebn, ebk, r8q⟩, ⟨_, (by unfold PySem.W.clsIn; rw [r8a]), rfl⟩, r8m⟩, (List.forall_mem_cons.mpr ⟨⟨⟨r9c, r9d, r9l, r9n, r9p, ebn, ebk, r9q⟩, ⟨_, (by unfold PySem.W.clsIn; rw [r9a]), rfl⟩, r9m⟩, (List.forall_mem_cons.mpr ⟨⟨⟨r10c, r10d, r10l, r10n, r10p, ebn, ebk, r10q⟩, ⟨_, (by unfold PySem.W.clsIn; rw [r10a]), rfl⟩, r10m⟩, (List.forall_mem_cons.mpr ⟨⟨⟨r11c, r11d, r11l, r11n, r11p, ebn, ebk, r11q⟩, ⟨_, (by unfold PySem.W.clsIn; rw [r11a]), rfl⟩, r11m⟩, (List.forall_mem_cons.mpr ⟨⟨⟨r12c, r12d, r12l, r12n, r12p, ebn, ebk, r12q⟩, ⟨_, (by unfold PySem.W.clsIn; rw [r12a]), rfl⟩, r12m⟩, (List.forall_mem_cons.mpr ⟨⟨⟨r13c, r13d, r13l, r13n, r13p, ebn, ebk, r13q⟩, ⟨_, (by unfold PySem.W.clsIn; rw [r13a]), rfl⟩, r13m⟩, (List.forall_mem_cons.mpr ⟨⟨⟨r14c, r14d, r14l, r14n, r14p, ebn, ebk, r14q⟩, ⟨_, (by unfold PySem.W.clsIn; rw [r14a]), rfl⟩, r14m⟩, (List.forall_mem_cons.mpr ⟨⟨⟨r15c, r15d, r15l, r15n, r15p, ebn, ebk, r15q⟩, ⟨_, (by unfold PySem.W.clsIn; rw [r15a]), rfl⟩, r15m⟩, (List.forall_mem_cons.mpr ⟨⟨⟨r16c, r16d, r16l, r16n, r16p, ebn, ebk, r16q⟩, ⟨_, (by unfold PySem.W.clsIn; rw [r16a]), rfl⟩, r16m⟩, (List.forall_mem_cons.mpr ⟨⟨⟨r17c, r17d, r17l, r17n, r17p, ebn, ebk, r17q⟩, ⟨_, (by unfold PySem.W.clsIn; rw [r17a]), rfl⟩, r17m⟩, (List.forall_mem_cons.mpr ⟨⟨⟨r18c, r18d, r18l, r18n, r18p, ebn, ebk, r18q⟩, ⟨_, (by unfold PySem.W.clsIn; rw [r18a]), rfl⟩, r18m⟩, (List.forall_mem_cons.mpr ⟨⟨⟨r19c, r19d, r19l, r19n, r19p, ebn, ebk, r19q⟩, ⟨_, (by unfold PySem.W.clsIn; rw [r19a]), rfl⟩, r19m⟩, (List.forall_mem_cons.mpr ⟨⟨⟨r20c, r20d, r20l, r20n, r20p, ebn, ebk, r20q⟩, ⟨_, (by unfold PySem.W.clsIn; rw [r20a]), rfl⟩, r20m⟩, (List.forall_mem_cons.mpr ⟨⟨⟨r21c, r21d, r21l, r21n, r21p, ebn, ebk, r21q⟩, ⟨_, (by unfold PySem.W.clsIn; rw [r21a]), rfl⟩, r21m⟩, (List.forall_mem_cons.mpr ⟨⟨⟨r22c, r22d, r22l, r22n, r22p, ebn, ebk, r22q⟩, ⟨_, (by unfold PySem.W.clsIn; rw [r22a]), rfl⟩, r22m⟩, (List.forall_mem_cons.mpr ⟨⟨⟨r23c, r23d, r23l, r23n, r23p, ebn, ebk, r23q⟩, ⟨_, (by unfold PySem.W.clsIn; rw [r23a]), rfl⟩, r23m⟩, (List.forall_mem_cons.mpr ⟨⟨⟨r24c, r24d, r24l, r24n, r24p, ebn, ebk, r24q⟩, ⟨_, (by unfold PySem.W.clsIn; rw [r24a]), rfl⟩, r24m⟩, (fun _ h => by cases h)⟩)⟩)⟩)⟩)⟩)⟩)⟩)⟩)⟩)⟩)⟩)⟩)⟩)⟩)⟩)⟩)⟩)⟩)⟩)⟩)⟩)⟩)⟩)⟩)⟩), ebi, ebt⟩,
    fx_value := (List.forall_mem_cons.mpr ⟨⟨⟨r0c, r0d, r0l, r0n⟩, r0e⟩, (List.forall_mem_cons.mpr ⟨⟨⟨r1c, r1d, r1l, r1n⟩, r1e⟩, (List.forall_mem_cons.mpr ⟨⟨⟨r2c, r2d, r2l, r2n⟩, r2e⟩, (List.forall_mem_cons.mpr ⟨⟨⟨r3c, r3d, r3l, r3n⟩, r3e⟩, (List.forall_mem_cons.mpr ⟨⟨⟨r4c, r4d, r4l, r4n⟩, r4e⟩, (List.forall_mem_cons.mpr ⟨⟨⟨r5c, r5d, r5l, r5n⟩, r5e⟩, (List.forall_mem_cons.mpr ⟨⟨⟨r6c, r6d, r6l, r6n⟩, r6e⟩, (List.forall_mem_cons.mpr ⟨⟨⟨r7c, r7d, r7l, r7n⟩, r7e⟩, (List.forall_mem_cons.mpr ⟨⟨⟨r8c, r8d, r8l, r8n⟩, r8e⟩, (List.forall_mem_cons.mpr ⟨⟨⟨r9c, r9d, r9l, r9n⟩, r9e⟩, (List.forall_mem_cons.mpr ⟨⟨⟨r10c, r10d, r10l, r10n⟩, r10e⟩, (List.forall_mem_cons.mpr ⟨⟨⟨r11c, r11d, r11l, r11n⟩, r11e⟩, (fun _ h => by cases h)⟩)⟩)⟩)⟩)⟩)⟩)⟩)⟩)⟩)⟩)⟩)⟩),
    fx_name := (List.forall_mem_cons.mpr ⟨⟨⟨r12c, r12d, r12l, r12n⟩, r12e⟩, (List.forall_mem_cons.mpr ⟨⟨⟨r13c, r13d, r13l, r13n⟩, r13e⟩, (List.forall_mem_cons.mpr ⟨⟨⟨r14c, r14d, r14l, r14n⟩, r14e⟩, (fun _ h => by cases h)⟩)⟩)⟩),
    fx_position := (List.forall_mem_cons.mpr ⟨⟨⟨r15c, r15d, r15l, r15n⟩, r15e⟩, (List.forall_mem_cons.mpr ⟨⟨⟨r16c, r16d, r16l, r16n⟩, r16e⟩, (fun _ h => by cases h)⟩)⟩),
    fx_depth := (List.forall_mem_cons.mpr ⟨⟨⟨r17c, r17d, r17l, r17n⟩, r17e⟩, (fun _ h => by cases h)⟩),
    fx_size := (List.forall_mem_cons.mpr ⟨⟨⟨r18c, r18d, r18l, r18n⟩, r18e⟩, (List.forall_mem_cons.mpr ⟨⟨⟨r20c, r20d, r20l, r20n⟩, r20e⟩, (fun _ h => by cases h)⟩)⟩),
    fx_head := (List.forall_mem_cons.mpr ⟨⟨⟨r19c, r19d, r19l, r19n⟩, r19e⟩, (fun _ h => by cases h)⟩),
    fx_count := (List.forall_mem_cons.mpr ⟨⟨⟨r21c, r21d, r21l, r21n⟩, r21e⟩, (fun _ h => by cases h)⟩),
    fx_body := (List.forall_mem_cons.mpr ⟨⟨⟨r22c, r22d, r22l, r22n⟩, r22e⟩, (fun _ h => by cases h)⟩),
    fx_line := (List.forall_mem_cons.mpr ⟨⟨⟨r23c, r23d, r23l, r23n⟩, r23e⟩, (fun _ h => by cases h)⟩),
    fx_command := (List.forall_mem_cons.mpr ⟨⟨⟨r24c, r24d, r24l, r24n⟩, r24e⟩, (fun _ h => by cases h)⟩),
    p_e_BadHead_2 := kwP0 FE0 2 [] [0, 1] (fun _ _ _ _ _ _ us ws h1 h2 => match us, ws, h1, h2 with | [_, _], [], _, _ => rfl),
    p_e_BadSteps_2 := kwP0 FE1 2 [] [0, 1] (fun _ _ _ _ _ _ us ws h1 h2 => match us, ws, h1, h2 with | [_, _], [], _, _ => rfl),
    p_e_NoStep_2 := kwP0 FE2 2 [] [0, 1] (fun _ _ _ _ _ _ us ws h1 h2 => match us, ws, h1, h2 with | [_, _], [], _, _ => rfl),
    p_e_BadBody_2 := kwP0 FE3 2 [] [0, 1] (fun _ _ _ _ _ _ us ws h1 h2 => match us, ws, h1, h2 with | [_, _], [], _, _ => rfl),
    p_e_BadChain_2 := kwP0 FE4 2 [] [0, 1] (fun _ _ _ _ _ _ us ws h1 h2 => match us, ws, h1, h2 with | [_, _], [], _, _ => rfl),
    p_e_NoBoundary_2 := kwP0 FE5 2 [] [0, 1] (fun _ _ _ _ _ _ us ws h1 h2 => match us, ws, h1, h2 with | [_, _], [], _, _ => rfl),
    p_e_NoPiece_2 := kwP0 FE6 2 [] [0, 1] (fun _ _ _ _ _ _ us ws h1 h2 => match us, ws, h1, h2 with | [_, _], [], _, _ => rfl),
    p_e_BadStretches_2 := kwP0 FE7 2 [] [0, 1] (fun _ _ _ _ _ _ us ws h1 h2 => match us, ws, h1, h2 with | [_, _], [], _, _ => rfl),
    p_e_BadName_2 := kwP0 FE8 2 [] [0, 1] (fun _ _ _ _ _ _ us ws h1 h2 => match us, ws, h1, h2 with | [_, _], [], _, _ => rfl),
    p_e_BadRoad_2 := kwP0 FE9 2 [] [0, 1] (fun _ _ _ _ _ _ us ws h1 h2 => match us, ws, h1, h2 with | [_, _], [], _, _ => rfl),
    p_e_BadTells_2 := kwP0 FE10 2 [] [0, 1] (fun _ _ _ _ _ _ us ws h1 h2 => match us, ws, h1, h2 with | [_, _], [], _, _ => rfl),
    p_e_NoMouth_2 := kwP0 FE11 2 [] [0, 1] (fun _ _ _ _ _ _ us ws h1 h2 => match us, ws, h1, h2 with | [_, _], [], _, _ => rfl),
    p_e_NameTaken_2 := kwP0 FE12 2 [] [0, 1] (fun _ _ _ _ _ _ us ws h1 h2 => match us, ws, h1, h2 with | [_, _], [], _, _ => rfl),
    p_e_UnknownName_2 := kwP0 FE13 2 [] [0, 1] (fun _ _ _ _ _ _ us ws h1 h2 => match us, ws, h1, h2 with | [_, _], [], _, _ => rfl),
    p_e_TooSmall_2 := kwP0 FE14 2 [] [0, 1] (fun _ _ _ _ _ _ us ws h1 h2 => match us, ws, h1, h2 with | [_, _], [], _, _ => rfl),
    p_e_BadStep_2 := kwP0 FE15 2 [] [0, 1] (fun _ _ _ _ _ _ us ws h1 h2 => match us, ws, h1, h2 with | [_, _], [], _, _ => rfl),
    p_e_BadChange_2 := kwP0 FE16 2 [] [0, 1] (fun _ _ _ _ _ _ us ws h1 h2 => match us, ws, h1, h2 with | [_, _], [], _, _ => rfl),
    p_e_TooDeep_2 := kwP0 FE17 2 [] [0, 1] (fun _ _ _ _ _ _ us ws h1 h2 => match us, ws, h1, h2 with | [_, _], [], _, _ => rfl),
    p_e_TooGreat_2 := kwP0 FE18 2 [] [0, 1] (fun _ _ _ _ _ _ us ws h1 h2 => match us, ws, h1, h2 with | [_, _], [], _, _ => rfl),
    p_e_OtherHead_2 := kwP0 FE19 2 [] [0, 1] (fun _ _ _ _ _ _ us ws h1 h2 => match us, ws, h1, h2 with | [_, _], [], _, _ => rfl),
    p_e_Held_2 := kwP0 FE20 2 [] [0, 1] (fun _ _ _ _ _ _ us ws h1 h2 => match us, ws, h1, h2 with | [_, _], [], _, _ => rfl),
    p_e_TooFar_2 := kwP0 FE21 2 [] [0, 1] (fun _ _ _ _ _ _ us ws h1 h2 => match us, ws, h1, h2 with | [_, _], [], _, _ => rfl),
    p_e_Hopeless_2 := kwP0 FE22 2 [] [0, 1] (fun _ _ _ _ _ _ us ws h1 h2 => match us, ws, h1, h2 with | [_, _], [], _, _ => rfl),
    p_e_BadText_2 := kwP0 FE23 2 [] [0, 1] (fun _ _ _ _ _ _ us ws h1 h2 => match us, ws, h1, h2 with | [_, _], [], _, _ => rfl),
    p_e_BadCommand_2 := kwP0 FE24 2 [] [0, 1] (fun _ _ _ _ _ _ us ws h1 h2 => match us, ws, h1, h2 with | [_, _], [], _, _ => rfl),
    p_e_BadHead_1_value := kwP0 FE0 1 ["value"] [0, 1] (fun _ _ _ _ _ _ us ws h1 h2 => match us, ws, h1, h2 with | [_], [_], _, _ => rfl),
    p_e_BadSteps_1_value := kwP0 FE1 1 ["value"] [0, 1] (fun _ _ _ _ _ _ us ws h1 h2 => match us, ws, h1, h2 with | [_], [_], _, _ => rfl),
    p_e_NoStep_1_value := kwP0 FE2 1 ["value"] [0, 1] (fun _ _ _ _ _ _ us ws h1 h2 => match us, ws, h1, h2 with | [_], [_], _, _ => rfl),
    p_e_BadBody_1_value := kwP0 FE3 1 ["value"] [0, 1] (fun _ _ _ _ _ _ us ws h1 h2 => match us, ws, h1, h2 with | [_], [_], _, _ => rfl),
    p_e_BadChain_1_value := kwP0 FE4 1 ["value"] [0, 1] (fun _ _ _ _ _ _ us ws h1 h2 => match us, ws, h1, h2 with | [_], [_], _, _ => rfl),
    p_e_NoBoundary_1_value := kwP0 FE5 1 ["value"] [0, 1] (fun _ _ _ _ _ _ us ws h1 h2 => match us, ws, h1, h2 with | [_], [_], _, _ => rfl),
    p_e_NoPiece_1_value := kwP0 FE6 1 ["value"] [0, 1] (fun _ _ _ _ _ _ us ws h1 h2 => match us, ws, h1, h2 with | [_], [_], _, _ => rfl),
    p_e_BadStretches_1_value := kwP0 FE7 1 ["value"] [0, 1] (fun _ _ _ _ _ _ us ws h1 h2 => match us, ws, h1, h2 with | [_], [_], _, _ => rfl),
    p_e_BadName_1_value := kwP0 FE8 1 ["value"] [0, 1] (fun _ _ _ _ _ _ us ws h1 h2 => match us, ws, h1, h2 with | [_], [_], _, _ => rfl),
    p_e_BadRoad_1_value := kwP0 FE9 1 ["value"] [0, 1] (fun _ _ _ _ _ _ us ws h1 h2 => match us, ws, h1, h2 with | [_], [_], _, _ => rfl),
    p_e_BadTells_1_value := kwP0 FE10 1 ["value"] [0, 1] (fun _ _ _ _ _ _ us ws h1 h2 => match us, ws, h1, h2 with | [_], [_], _, _ => rfl),
    p_e_NoMouth_1_value := kwP0 FE11 1 ["value"] [0, 1] (fun _ _ _ _ _ _ us ws h1 h2 => match us, ws, h1, h2 with | [_], [_], _, _ => rfl),
    p_e_NameTaken_1_name := kwP0 FE12 1 ["name"] [0, 1] (fun _ _ _ _ _ _ us ws h1 h2 => match us, ws, h1, h2 with | [_], [_], _, _ => rfl),
    p_e_UnknownName_1_name := kwP0 FE13 1 ["name"] [0, 1] (fun _ _ _ _ _ _ us ws h1 h2 => match us, ws, h1, h2 with | [_], [_], _, _ => rfl),
    p_e_TooSmall_1_name := kwP0 FE14 1 ["name"] [0, 1] (fun _ _ _ _ _ _ us ws h1 h2 => match us, ws, h1, h2 with | [_], [_], _, _ => rfl),
    p_e_BadStep_1_position := kwP0 FE15 1 ["position"] [0, 1] (fun _ _ _ _ _ _ us ws h1 h2 => match us, ws, h1, h2 with | [_], [_], _, _ => rfl),
    p_e_BadChange_1_position := kwP0 FE16 1 ["position"] [0, 1] (fun _ _ _ _ _ _ us ws h1 h2 => match us, ws, h1, h2 with | [_], [_], _, _ => rfl),
    p_e_TooDeep_1_depth := kwP0 FE17 1 ["depth"] [0, 1] (fun _ _ _ _ _ _ us ws h1 h2 => match us, ws, h1, h2 with | [_], [_], _, _ => rfl),
    p_e_TooGreat_1_size := kwP0 FE18 1 ["size"] [0, 1] (fun _ _ _ _ _ _ us ws h1 h2 => match us, ws, h1, h2 with | [_], [_], _, _ => rfl),
    p_e_OtherHead_1_head := kwP0 FE19 1 ["head"] [0, 1] (fun _ _ _ _ _ _ us ws h1 h2 => match us, ws, h1, h2 with | [_], [_], _, _ => rfl),
    p_e_Held_1_size := kwP0 FE20 1 ["size"] [0, 1] (fun _ _ _ _ _ _ us ws h1 h2 => match us, ws, h1, h2 with | [_], [_], _, _ => rfl),
    p_e_TooFar_1_count := kwP0 FE21 1 ["count"] [0, 1] (fun _ _ _ _ _ _ us ws h1 h2 => match us, ws, h1, h2 with | [_], [_], _, _ => rfl),
    p_e_Hopeless_1_body := kwP0 FE22 1 ["body"] [0, 1] (fun _ _ _ _ _ _ us ws h1 h2 => match us, ws, h1, h2 with | [_], [_], _, _ => rfl),
    p_e_BadText_1_line := kwP0 FE23 1 ["line"] [0, 1] (fun _ _ _ _ _ _ us ws h1 h2 => match us, ws, h1, h2 with | [_], [_], _, _ => rfl),
    p_e_BadCommand_1_command := kwP0 FE24 1 ["command"] [0, 1] (fun _ _ _ _ _ _ us ws h1 h2 => match us, ws, h1, h2 with | [_], [_], _, _ => rfl),
    b_ValueError := PySem.W.mg_none_of X G z0,
    b_enumerate := PySem.W.mg_none_of X G z1,
    b_int := PySem.W.mg_none_of X G z2,
    b_isinstance := PySem.W.mg_none_of X G z3,
    b_len := PySem.W.mg_none_of X G z4,
    b_list := PySem.W.mg_none_of X G z5,
    b_max := PySem.W.mg_none_of X G z6,
    b_min := PySem.W.mg_none_of X G z7,
    b_range := PySem.W.mg_none_of X G z8,
    b_repr := PySem.W.mg_none_of X G z9 }
  exact ⟨_, fun s v => .of_eq rfl, fun base _ _ => toTrueX (ht ⟨E0, E1, E2, E3, E4, E5, E6, E7, E8, E9, E10, E11, E12, E13, E14, E15, E16, E17, E18, E19, E20, E21, E22, E23, E24, EB⟩ nd) (ok_law_x T)⟩
end PL

open PySem PySem.W PyProof.Rows in
set_option maxRecDepth 100000 in
set_option maxHeartbeats 0 in
theorem PySem.Challenge.cw_roadsizes_k91_errors_by_hand_holds : PySem.Challenge.rw_roadsizes_k91_errors_by_hand.Holds := by
  w_on; o_law; k_head; (case hw => w_witness2)
  k_fill
  refine DV.walkTX (l := PySem.Challenge.rw_roadsizes_k91_errors_by_hand) (n := 63) (k := 4) (x := "script") rfl (by decide) rfl (DVG.rm_caller (bb := true) ⟨rfl, by decide, by decide⟩) (fun w h Y => PySem.W.kIn_of Y) ?F
  case F =>
    intro w mg fa h KX G hmg
    refine' PL.all_mk PL.law_true KX G hmg ?a0 ?l0 ?c0 ?k0 ?a1 ?l1 ?c1 ?k1 ?a2 ?l2 ?c2 ?k2 ?a3 ?l3 ?c3 ?k3 ?a4 ?l4 ?c4 ?k4 ?a5 ?l5 ?c5 ?k5 ?a6 ?l6 ?c6 ?k6 ?a7 ?l7 ?c7 ?k7 ?eb ?ebi ?ebt ?ebn ?ebk ?r0 ?r0a ?r0b ?r0c ?r0d ?r0e ?r0f ?r0g ?r0h ?r0i ?r0j ?r0k ?r0l ?r0m ?r0n ?r0o ?r0p ?r0q ?r1 ?r1a ?r1b ?r1c ?r1d ?r1e ?r1f ?r1g ?r1h ?r1i ?r1j ?r1k ?r1l ?r1m ?r1n ?r1o ?r1p ?r1q ?r2 ?r2a ?r2b ?r2c ?r2d ?r2e ?r2f ?r2g ?r2h ?r2i ?r2j ?r2k ?r2l ?r2m ?r2n ?r2o ?r2p ?r2q ?r3 ?r3a ?r3b ?r3c ?r3d ?r3e ?r3f ?r3g ?r3h ?r3i ?r3j ?r3k ?r3l ?r3m ?r3n ?r3o ?r3p ?r3q ?r4 ?r4a ?r4b ?r4c ?r4d ?r4e ?r4f ?r4g ?r4h ?r4i ?r4j ?r4k ?r4l ?r4m ?r4n ?r4o ?r4p ?r4q ?r5 ?r5a ?r5b ?r5c ?r5d ?r5e ?r5f ?r5g ?r5h ?r5i ?r5j ?r5k ?r5l ?r5m ?r5n ?r5o ?r5p ?r5q ?r6 ?r6a ?r6b ?r6c ?r6d ?r6e ?r6f ?r6g ?r6h ?r6i ?r6j ?r6k ?r6l ?r6m ?r6n ?r6o ?r6p ?r6q ?r7 ?r7a ?r7b ?r7c ?r7d ?r7e ?r7f ?r7g ?r7h ?r7i ?r7j ?r7k ?r7l ?r7m ?r7n ?r7o ?r7p ?r7q ?r8 ?r8a ?r8b ?r8c ?r8d ?r8e ?r8f ?r8g ?r8h ?r8i ?r8j ?r8k ?r8l ?r8m ?r8n ?r8o ?r8p ?r8q ?r9 ?r9a ?r9b ?r9c ?r9d ?r9e ?r9f ?r9g ?r9h ?r9i ?r9j ?r9k ?r9l ?r9m ?r9n ?r9o ?r9p ?r9q ?r10 ?r10a ?r10b ?r10c ?r10d ?r10e ?r10f ?r10g ?r10h ?r10i ?r10j ?r10k ?r10l ?r10m ?r10n ?r10o ?r10p ?r10q ?r11 ?r11a ?r11b ?r11c ?r11d ?r11e ?r11f ?r11g ?r11h ?r11i ?r11j ?r11k ?r11l ?r11m ?r11n ?r11o ?r11p ?r11q ?r12 ?r12a ?r12b ?r12c ?r12d ?r12e ?r12f ?r12g ?r12h ?r12i ?r12j ?r12k ?r12l ?r12m ?r12n ?r12o ?r12p ?r12q ?r13 ?r13a ?r13b ?r13c ?r13d ?r13e ?r13f ?r13g ?r13h ?r13i ?r13j ?r13k ?r13l ?r13m ?r13n ?r13o ?r13p ?r13q ?r14 ?r14a ?r14b ?r14c ?r14d ?r14e ?r14f ?r14g ?r14h ?r14i ?r14j ?r14k ?r14l ?r14m ?r14n ?r14o ?r14p ?r14q ?r15 ?r15a ?r15b ?r15c ?r15d ?r15e ?r15f ?r15g ?r15h ?r15i ?r15j ?r15k ?r15l ?r15m ?r15n ?r15o ?r15p ?r15q ?r16 ?r16a ?r16b ?r16c ?r16d ?r16e ?r16f ?r16g ?r16h ?r16i ?r16j ?r16k ?r16l ?r16m ?r16n ?r16o ?r16p ?r16q ?r17 ?r17a ?r17b ?r17c ?r17d ?r17e ?r17f ?r17g ?r17h ?r17i ?r17j ?r17k ?r17l ?r17m ?r17n ?r17o ?r17p ?r17q ?r18 ?r18a ?r18b ?r18c ?r18d ?r18e ?r18f ?r18g ?r18h ?r18i ?r18j ?r18k ?r18l ?r18m ?r18n ?r18o ?r18p ?r18q ?r19 ?r19a ?r19b ?r19c ?r19d ?r19e ?r19f ?r19g ?r19h ?r19i ?r19j ?r19k ?r19l ?r19m ?r19n ?r19o ?r19p ?r19q ?r20 ?r20a ?r20b ?r20c ?r20d ?r20e ?r20f ?r20g ?r20h ?r20i ?r20j ?r20k ?r20l ?r20m ?r20n ?r20o ?r20p ?r20q ?r21 ?r21a ?r21b ?r21c ?r21d ?r21e ?r21f ?r21g ?r21h ?r21i ?r21j ?r21k ?r21l ?r21m ?r21n ?r21o ?r21p ?r21q ?r22 ?r22a ?r22b ?r22c ?r22d ?r22e ?r22f ?r22g ?r22h ?r22i ?r22j ?r22k ?r22l ?r22m ?r22n ?r22o ?r22p ?r22q ?r23 ?r23a ?r23b ?r23c ?r23d ?r23e ?r23f ?r23g ?r23h ?r23i ?r23j ?r23k ?r23l ?r23m ?r23n ?r23o ?r23p ?r23q ?r24 ?r24a ?r24b ?r24c ?r24d ?r24e ?r24f ?r24g ?r24h ?r24i ?r24j ?r24k ?r24l ?r24m ?r24n ?r24o ?r24p ?r24q ?nd ?z0 ?z1 ?z2 ?z3 ?z4 ?z5 ?z6 ?z7 ?z8 ?z9
    (case a0 => k_is)
    (case l0 => k_is)
    (case c0 => k_is)
    (case k0 => k_is)
    (case a1 => k_is)
    (case l1 => k_is)
    (case c1 => k_is)
    (case k1 => k_is)
    (case a2 => k_is)
    (case l2 => k_is)
    (case c2 => k_is)
    (case k2 => k_is)
    (case a3 => k_is)
    (case l3 => k_is)
    (case c3 => k_is)
    (case k3 => k_is)
    (case a4 => k_is)
    (case l4 => k_is)
    (case c4 => k_is)
    (case k4 => k_is)
    (case a5 => k_is)
    (case l5 => k_is)
    (case c5 => k_is)
    (case k5 => k_is)
    (case a6 => k_is)
    (case l6 => k_is)
    (case c6 => k_is)
    (case k6 => k_is)
    (case a7 => k_is)
    (case l7 => k_is)
    (case c7 => k_is)
    (case k7 => k_is)
    (case eb => k_is)
    (case ebi => k_is)
    (case ebt => k_is)
    (case ebn => k_is)
    (case ebk => k_is)
    (case r0 => k_is)
    (case r0a => k_is)
    (case r0b => k_is)
    (case r0c => k_is)
    (case r0d => k_is)
    (case r0e => k_is)
    (case r0f => k_is)
    (case r0g => k_is)
    (case r0h => k_is)
    (case r0i => k_is)
    (case r0j => k_is)
    (case r0k => k_is)
    (case r0l => k_is)
    (case r0m => k_is)
    (case r0n => k_is)
    (case r0o => k_is)
    (case r0p => k_is)
    (case r0q => k_is)
    (case r1 => k_is)
    (case r1a => k_is)
    (case r1b => k_is)
    (case r1c => k_is)
    (case r1d => k_is)
    (case r1e => k_is)
    (case r1f => k_is)
    (case r1g => k_is)
    (case r1h => k_is)
    (case r1i => k_is)
    (case r1j => k_is)
    (case r1k => k_is)
    (case r1l => k_is)
    (case r1m => k_is)
    (case r1n => k_is)
    (case r1o => k_is)
    (case r1p => k_is)
    (case r1q => k_is)
    (case r2 => k_is)
    (case r2a => k_is)
    (case r2b => k_is)
    (case r2c => k_is)
    (case r2d => k_is)
    (case r2e => k_is)
    (case r2f => k_is)
    (case r2g => k_is)
    (case r2h => k_is)
    (case r2i => k_is)
    (case r2j => k_is)
    (case r2k => k_is)
    (case r2l => k_is)
    (case r2m => k_is)
    (case r2n => k_is)
    (case r2o => k_is)
    (case r2p => k_is)
    (case r2q => k_is)
    (case r3 => k_is)
    (case r3a => k_is)
    (case r3b => k_is)
    (case r3c => k_is)
    (case r3d => k_is)
    (case r3e => k_is)
    (case r3f => k_is)
    (case r3g => k_is)
    (case r3h => k_is)
    (case r3i => k_is)
    (case r3j => k_is)
    (case r3k => k_is)
    (case r3l => k_is)
    (case r3m => k_is)
    (case r3n => k_is)
    (case r3o => k_is)
    (case r3p => k_is)
    (case r3q => k_is)
    (case r4 => k_is)
    (case r4a => k_is)
    (case r4b => k_is)
    (case r4c => k_is)
    (case r4d => k_is)
    (case r4e => k_is)
    (case r4f => k_is)
    (case r4g => k_is)
    (case r4h => k_is)
    (case r4i => k_is)
    (case r4j => k_is)
    (case r4k => k_is)
    (case r4l => k_is)
    (case r4m => k_is)
    (case r4n => k_is)
    (case r4o => k_is)
    (case r4p => k_is)
    (case r4q => k_is)
    (case r5 => k_is)
    (case r5a => k_is)
    (case r5b => k_is)
    (case r5c => k_is)
    (case r5d => k_is)
    (case r5e => k_is)
    (case r5f => k_is)
    (case r5g => k_is)
    (case r5h => k_is)
    (case r5i => k_is)
    (case r5j => k_is)
    (case r5k => k_is)
    (case r5l => k_is)
    (case r5m => k_is)
    (case r5n => k_is)
    (case r5o => k_is)
    (case r5p => k_is)
    (case r5q => k_is)
    (case r6 => k_is)
    (case r6a => k_is)
    (case r6b => k_is)
    (case r6c => k_is)
    (case r6d => k_is)
    (case r6e => k_is)
    (case r6f => k_is)
    (case r6g => k_is)
    (case r6h => k_is)
    (case r6i => k_is)
    (case r6j => k_is)
    (case r6k => k_is)
    (case r6l => k_is)
    (case r6m => k_is)
    (case r6n => k_is)
    (case r6o => k_is)
    (case r6p => k_is)
    (case r6q => k_is)
    (case r7 => k_is)
    (case r7a => k_is)
    (case r7b => k_is)
    (case r7c => k_is)
    (case r7d => k_is)
    (case r7e => k_is)
    (case r7f => k_is)
    (case r7g => k_is)
    (case r7h => k_is)
    (case r7i => k_is)
    (case r7j => k_is)
    (case r7k => k_is)
    (case r7l => k_is)
    (case r7m => k_is)
    (case r7n => k_is)
    (case r7o => k_is)
    (case r7p => k_is)
    (case r7q => k_is)
    (case r8 => k_is)
    (case r8a => k_is)
    (case r8b => k_is)
    (case r8c => k_is)
    (case r8d => k_is)
    (case r8e => k_is)
    (case r8f => k_is)
    (case r8g => k_is)
    (case r8h => k_is)
    (case r8i => k_is)
    (case r8j => k_is)
    (case r8k => k_is)
    (case r8l => k_is)
    (case r8m => k_is)
    (case r8n => k_is)
    (case r8o => k_is)
    (case r8p => k_is)
    (case r8q => k_is)
    (case r9 => k_is)
    (case r9a => k_is)
    (case r9b => k_is)
    (case r9c => k_is)
    (case r9d => k_is)
    (case r9e => k_is)
    (case r9f => k_is)
    (case r9g => k_is)
    (case r9h => k_is)
    (case r9i => k_is)
    (case r9j => k_is)
    (case r9k => k_is)
    (case r9l => k_is)
    (case r9m => k_is)
    (case r9n => k_is)
    (case r9o => k_is)
    (case r9p => k_is)
    (case r9q => k_is)
    (case r10 => k_is)
    (case r10a => k_is)
    (case r10b => k_is)
    (case r10c => k_is)
    (case r10d => k_is)
    (case r10e => k_is)
    (case r10f => k_is)
    (case r10g => k_is)
    (case r10h => k_is)
    (case r10i => k_is)
    (case r10j => k_is)
    (case r10k => k_is)
    (case r10l => k_is)
    (case r10m => k_is)
    (case r10n => k_is)
    (case r10o => k_is)
    (case r10p => k_is)
    (case r10q => k_is)
    (case r11 => k_is)
    (case r11a => k_is)
    (case r11b => k_is)
    (case r11c => k_is)
    (case r11d => k_is)
    (case r11e => k_is)
    (case r11f => k_is)
    (case r11g => k_is)
    (case r11h => k_is)
    (case r11i => k_is)
    (case r11j => k_is)
    (case r11k => k_is)
    (case r11l => k_is)
    (case r11m => k_is)
    (case r11n => k_is)
    (case r11o => k_is)
    (case r11p => k_is)
    (case r11q => k_is)
    (case r12 => k_is)
    (case r12a => k_is)
    (case r12b => k_is)
    (case r12c => k_is)
    (case r12d => k_is)
    (case r12e => k_is)
    (case r12f => k_is)
    (case r12g => k_is)
    (case r12h => k_is)
    (case r12i => k_is)
    (case r12j => k_is)
    (case r12k => k_is)
    (case r12l => k_is)
    (case r12m => k_is)
    (case r12n => k_is)
    (case r12o => k_is)
    (case r12p => k_is)
    (case r12q => k_is)
    (case r13 => k_is)
    (case r13a => k_is)
    (case r13b => k_is)
    (case r13c => k_is)
    (case r13d => k_is)
    (case r13e => k_is)
    (case r13f => k_is)
    (case r13g => k_is)
    (case r13h => k_is)
    (case r13i => k_is)
    (case r13j => k_is)
    (case r13k => k_is)
    (case r13l => k_is)
    (case r13m => k_is)
    (case r13n => k_is)
    (case r13o => k_is)
    (case r13p => k_is)
    (case r13q => k_is)
    (case r14 => k_is)
    (case r14a => k_is)
    (case r14b => k_is)
    (case r14c => k_is)
    (case r14d => k_is)
    (case r14e => k_is)
    (case r14f => k_is)
    (case r14g => k_is)
    (case r14h => k_is)
    (case r14i => k_is)
    (case r14j => k_is)
    (case r14k => k_is)
    (case r14l => k_is)
    (case r14m => k_is)
    (case r14n => k_is)
    (case r14o => k_is)
    (case r14p => k_is)
    (case r14q => k_is)
    (case r15 => k_is)
    (case r15a => k_is)
    (case r15b => k_is)
    (case r15c => k_is)
    (case r15d => k_is)
    (case r15e => k_is)
    (case r15f => k_is)
    (case r15g => k_is)
    (case r15h => k_is)
    (case r15i => k_is)
    (case r15j => k_is)
    (case r15k => k_is)
    (case r15l => k_is)
    (case r15m => k_is)
    (case r15n => k_is)
    (case r15o => k_is)
    (case r15p => k_is)
    (case r15q => k_is)
    (case r16 => k_is)
    (case r16a => k_is)
    (case r16b => k_is)
    (case r16c => k_is)
    (case r16d => k_is)
    (case r16e => k_is)
    (case r16f => k_is)
    (case r16g => k_is)
    (case r16h => k_is)
    (case r16i => k_is)
    (case r16j => k_is)
    (case r16k => k_is)
    (case r16l => k_is)
    (case r16m => k_is)
    (case r16n => k_is)
    (case r16o => k_is)
    (case r16p => k_is)
    (case r16q => k_is)
    (case r17 => k_is)
    (case r17a => k_is)
    (case r17b => k_is)
    (case r17c => k_is)
    (case r17d => k_is)
    (case r17e => k_is)
    (case r17f => k_is)
    (case r17g => k_is)
    (case r17h => k_is)
    (case r17i => k_is)
    (case r17j => k_is)
    (case r17k => k_is)
    (case r17l => k_is)
    (case r17m => k_is)
    (case r17n => k_is)
    (case r17o => k_is)
    (case r17p => k_is)
    (case r17q => k_is)
    (case r18 => k_is)
    (case r18a => k_is)
    (case r18b => k_is)
    (case r18c => k_is)
    (case r18d => k_is)
    (case r18e => k_is)
    (case r18f => k_is)
    (case r18g => k_is)
    (case r18h => k_is)
    (case r18i => k_is)
    (case r18j => k_is)
    (case r18k => k_is)
    (case r18l => k_is)
    (case r18m => k_is)
    (case r18n => k_is)
    (case r18o => k_is)
    (case r18p => k_is)
    (case r18q => k_is)
    (case r19 => k_is)
    (case r19a => k_is)
    (case r19b => k_is)
    (case r19c => k_is)
    (case r19d => k_is)
    (case r19e => k_is)
    (case r19f => k_is)
    (case r19g => k_is)
    (case r19h => k_is)
    (case r19i => k_is)
    (case r19j => k_is)
    (case r19k => k_is)
    (case r19l => k_is)
    (case r19m => k_is)
    (case r19n => k_is)
    (case r19o => k_is)
    (case r19p => k_is)
    (case r19q => k_is)
    (case r20 => k_is)
    (case r20a => k_is)
    (case r20b => k_is)
    (case r20c => k_is)
    (case r20d => k_is)
    (case r20e => k_is)
    (case r20f => k_is)
    (case r20g => k_is)
    (case r20h => k_is)
    (case r20i => k_is)
    (case r20j => k_is)
    (case r20k => k_is)
    (case r20l => k_is)
    (case r20m => k_is)
    (case r20n => k_is)
    (case r20o => k_is)
    (case r20p => k_is)
    (case r20q => k_is)
    (case r21 => k_is)
    (case r21a => k_is)
    (case r21b => k_is)
    (case r21c => k_is)
    (case r21d => k_is)
    (case r21e => k_is)
    (case r21f => k_is)
    (case r21g => k_is)
    (case r21h => k_is)
    (case r21i => k_is)
    (case r21j => k_is)
    (case r21k => k_is)
    (case r21l => k_is)
    (case r21m => k_is)
    (case r21n => k_is)
    (case r21o => k_is)
    (case r21p => k_is)
    (case r21q => k_is)
    (case r22 => k_is)
    (case r22a => k_is)
    (case r22b => k_is)
    (case r22c => k_is)
    (case r22d => k_is)
    (case r22e => k_is)
    (case r22f => k_is)
    (case r22g => k_is)
    (case r22h => k_is)
    (case r22i => k_is)
    (case r22j => k_is)
    (case r22k => k_is)
    (case r22l => k_is)
    (case r22m => k_is)
    (case r22n => k_is)
    (case r22o => k_is)
    (case r22p => k_is)
    (case r22q => k_is)
    (case r23 => k_is)
    (case r23a => k_is)
    (case r23b => k_is)
    (case r23c => k_is)
    (case r23d => k_is)
    (case r23e => k_is)
    (case r23f => k_is)
    (case r23g => k_is)
    (case r23h => k_is)
    (case r23i => k_is)
    (case r23j => k_is)
    (case r23k => k_is)
    (case r23l => k_is)
    (case r23m => k_is)
    (case r23n => k_is)
    (case r23o => k_is)
    (case r23p => k_is)
    (case r23q => k_is)
    (case r24 => k_is)
    (case r24a => k_is)
    (case r24b => k_is)
    (case r24c => k_is)
    (case r24d => k_is)
    (case r24e => k_is)
    (case r24f => k_is)
    (case r24g => k_is)
    (case r24h => k_is)
    (case r24i => k_is)
    (case r24j => k_is)
    (case r24k => k_is)
    (case r24l => k_is)
    (case r24m => k_is)
    (case r24n => k_is)
    (case r24o => k_is)
    (case r24p => k_is)
    (case r24q => k_is)
    (case nd => decide)
    (case z0 => k_is)
    (case z1 => k_is)
    (case z2 => k_is)
    (case z3 => k_is)
    (case z4 => k_is)
    (case z5 => k_is)
    (case z6 => k_is)
    (case z7 => k_is)
    (case z8 => k_is)
    (case z9 => k_is)
