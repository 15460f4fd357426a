import PyProof.Rows.All
import Wide.All
import OpenK.AllK
import Wide.FinOn
import HandS.ForExc
import HandS.ForMost
import HandS.TryOnly
import HandS.ExcField
import HandS.Wide
import HandS.Deep
import HandS.TupAny
import HandS.TupMul
import HandS.IsInst
import HandS.HeadHook4
import HandS.HeadEnd
import HandS.Head2
import HandS.SortInts
import HandS.Style
import HandS.Zip
import HandS.ExcOwn
import HandS.CallSlots
import HandS.More
import HandS.WordsExc
import HandS.Rev
import HandS.AnyAll
import HandS.ExcCtx
import KE.KExcSuper
import KE.KSuper
import KE.KExcInit
import HandS.ExcSuper
import HandS.ExcInit
import HandS.HeadWalk
import HandS.HeadNt
import HandS.MakeKw
import HandS.HotCalls
import KE.KExcIs
import PyProof.TupleOfSeq
import HandS.Star
import KE.KTup
import HandS.Flow
import PyProof.WalksMore
import PyProof.WalkInts
import HandS.Text
import HandS.Steps
import HandS.StrMore
import PySem.Challenge.RW_mendinghalls_k81_untold_refused
set_option Elab.async false
set_option linter.all false
set_option maxRecDepth 100000
/-! The ghost layer: values as plain data (tuples and kept lists are data, changing lists and objects stand in a heap of data), what a piece of the text does as a predicate over such data, and that it is so over the hand layer's readings. -/
namespace G
open PySem PySem.Spec PyProof.Rows L2
abbrev St := List (Option V)
/-- plain data: lst is a list that is never changed any more, frz one that was handed in -/
inductive D where
  | non | bl (b : Bool) | int (i : Int) | str (x : Str) | tup (ds : List D) | lst (ds : List D) | frz (ds : List D) | ref (a : Addr)
  deriving Inhabited
/-- what stands at an address -/
inductive DO where
  | lst (ds : List D)
  | ins (C : Str) (fs : List (Str × D))
  | dic (kvs : List (Key × D))
abbrev DH := Addr → Option DO
def updD (H : DH) (a : Addr) (o : DO) : DH := fun b => if b = a then some o else H b
theorem updD_same {H : DH} {a : Addr} {o : DO} : updD H a o a = some o := if_pos rfl
theorem updD_ne {H : DH} {a b : Addr} {o : DO} (h : b ≠ a) : updD H a o b = H b := if_neg h
theorem updD_updD {H : DH} {a : Addr} {o u : DO} : updD (updD H a o) a u = updD H a u := by
  funext b; unfold updD; split <;> rfl
theorem ne_of_noneD {H : DH} {a b : Addr} {o : DO} (h : H a = some o) (h' : H b = none) : a ≠ b := by
  intro e; subst e; rw [h] at h'; cases h'
abbrev DS := List (Option D)
abbrev DQ := D → DH → Prop
abbrev DX1 := Str → List (Str × D) → DH → Prop
abbrev DTE := DS → DH → DQ → DX1 → Prop
abbrev DTT := DS → DH → (Bool → DH → Prop) → DX1 → Prop
abbrev DTA := DS → DH → (List D → DH → Prop) → DX1 → Prop
/-- a def's promise over data -/
abbrev DSp := List D → DH → DQ → DX1 → Prop
/-! ### how data lie in the hand layer's heap -/
mutual
def Rep (K : PySem.W.Frag) (Z : Hp) : D → V → Prop
  | .non, v => v = .non
  | .bl b, v => v = .bl b
  | .int i, v => v = .int i
  | .str x, v => v = .str x
  | .ref a, v => v = .ref a
  | .tup ds, v => ∃ a xs, v = .ref a ∧ SqT K Z a xs ∧ Reps K Z ds xs
  | .lst ds, v => ∃ a xs, v = .ref a ∧ Z a = some (.lst xs) ∧ Reps K Z ds xs
  | .frz ds, v => ∃ a xs, v = .ref a ∧ SqL K Z a xs ∧ Reps K Z ds xs
def Reps (K : PySem.W.Frag) (Z : Hp) : List D → List V → Prop
  | [], vs => vs = []
  | d :: ds, vs => ∃ v r, vs = v :: r ∧ Rep K Z d v ∧ Reps K Z ds r
end
def Ext (Z Z' : Hp) : Prop := ∀ a o, Z a = some o → Z' a = some o
theorem Ext.refl (Z : Hp) : Ext Z Z := fun _ _ h => h
theorem Ext.trans {Z Z1 Z2 : Hp} (a : Ext Z Z1) (b : Ext Z1 Z2) : Ext Z Z2 := fun c o h => b c o (a c o h)
theorem Ext.upd {Z : Hp} {p : Addr} {o : HO} (h : Z p = none) : Ext Z (upd Z p o) := fun b x e => by
  rw [upd_ne (ne_of_none e h)]; exact e
theorem Ext.seqL {K : PySem.W.Frag} {Z Z' : Hp} {a : Addr} {xs : List V} (e : Ext Z Z') (h : SqL K Z a xs) : SqL K Z' a xs := by
  rcases h with (h | ⟨o, h⟩) | h
  · exact .inl (.inl (e _ _ h))
  · exact .inl (.inr ⟨o, e _ _ h⟩)
  · exact .inr h
theorem Ext.seqT {K : PySem.W.Frag} {Z Z' : Hp} {a : Addr} {xs : List V} (e : Ext Z Z') (h : SqT K Z a xs) : SqT K Z' a xs := by
  rcases h with (h | ⟨o, h⟩) | h
  · exact .inl (.inl (e _ _ h))
  · exact .inl (.inr ⟨o, e _ _ h⟩)
  · exact .inr h
mutual
theorem Rep.mono {K : PySem.W.Frag} {Z Z' : Hp} (e : Ext Z Z') : ∀ (d : D) (v : V), Rep K Z d v → Rep K Z' d v
  | .non, _, h => h
  | .bl _, _, h => h
  | .int _, _, h => h
  | .str _, _, h => h
  | .ref _, _, h => h
  | .tup ds, v, h => by
    obtain ⟨a, xs, e1, h1, h2⟩ := h
    exact ⟨a, xs, e1, e.seqT h1, Reps.mono e ds xs h2⟩
  | .lst ds, v, h => by
    obtain ⟨a, xs, e1, h1, h2⟩ := h
    exact ⟨a, xs, e1, e a _ h1, Reps.mono e ds xs h2⟩
  | .frz ds, v, h => by
    obtain ⟨a, xs, e1, h1, h2⟩ := h
    exact ⟨a, xs, e1, e.seqL h1, Reps.mono e ds xs h2⟩
theorem Reps.mono {K : PySem.W.Frag} {Z Z' : Hp} (e : Ext Z Z') : ∀ (ds : List D) (vs : List V), Reps K Z ds vs → Reps K Z' ds vs
  | [], _, h => h
  | d :: ds, vs, h => by
    obtain ⟨v, r, e1, h1, h2⟩ := h
    exact ⟨v, r, e1, Rep.mono e d v h1, Reps.mono e ds r h2⟩
end
section
variable {K : PySem.W.Frag} {Z Z' : Hp}
theorem Reps.length : ∀ {ds : List D} {vs : List V}, Reps K Z ds vs → vs.length = ds.length
  | [], _, h => by rw [show _ = [] from h]; rfl
  | d :: ds, vs, h => by
    obtain ⟨v, r, e1, _, h2⟩ := h
    rw [e1, List.length_cons, List.length_cons, Reps.length h2]
theorem Reps.nil : Reps K Z [] [] := rfl
theorem Reps.cons {d : D} {v : V} {ds : List D} {vs : List V} (h : Rep K Z d v) (t : Reps K Z ds vs) : Reps K Z (d :: ds) (v :: vs) := ⟨v, vs, rfl, h, t⟩
theorem Reps.append : ∀ {ds es : List D} {vs us : List V}, Reps K Z ds vs → Reps K Z es us → Reps K Z (ds ++ es) (vs ++ us)
  | [], _, _, _, h, t => by rw [show _ = [] from h]; exact t
  | d :: ds, es, vs, us, h, t => by
    obtain ⟨v, r, e1, h1, h2⟩ := h
    rw [e1]
    exact ⟨v, r ++ us, rfl, h1, Reps.append h2 t⟩
theorem Reps.get : ∀ {ds : List D} {vs : List V} {i : Nat} {d : D}, Reps K Z ds vs → ds[i]? = some d → ∃ v, vs[i]? = some v ∧ Rep K Z d v
  | [], _, _, _, _, e => by simp at e
  | d :: ds, vs, 0, _, h, e => by
    obtain ⟨v, r, e1, h1, h2⟩ := h
    rw [e1]
    have : d = _ := Option.some.inj e
    subst this
    exact ⟨v, rfl, h1⟩
  | d :: ds, vs, i + 1, _, h, e => by
    obtain ⟨v, r, e1, h1, h2⟩ := h
    rw [e1]
    exact Reps.get (i := i) h2 e
theorem Reps.set : ∀ {ds : List D} {vs : List V} (i : Nat) {d : D} {v : V}, Reps K Z ds vs → Rep K Z d v → Reps K Z (ds.set i d) (vs.set i v)
  | [], _, _, _, _, h, _ => by rw [show _ = [] from h]; rfl
  | d :: ds, vs, 0, _, _, h, q => by
    obtain ⟨v, r, e1, h1, h2⟩ := h
    rw [e1]
    exact ⟨_, r, rfl, q, h2⟩
  | d :: ds, vs, i + 1, _, _, h, q => by
    obtain ⟨v, r, e1, h1, h2⟩ := h
    rw [e1]
    exact ⟨_, _, rfl, h1, Reps.set i h2 q⟩
theorem Reps.take : ∀ {ds : List D} {vs : List V} (n : Nat), Reps K Z ds vs → Reps K Z (ds.take n) (vs.take n)
  | _, _, 0, _ => rfl
  | [], _, n + 1, h => by rw [show _ = [] from h]; rfl
  | d :: ds, vs, n + 1, h => by
    obtain ⟨v, r, e1, h1, h2⟩ := h
    rw [e1]
    exact ⟨_, _, rfl, h1, Reps.take n h2⟩
theorem Reps.drop : ∀ {ds : List D} {vs : List V} (n : Nat), Reps K Z ds vs → Reps K Z (ds.drop n) (vs.drop n)
  | _, _, 0, h => h
  | [], _, n + 1, h => by rw [show _ = [] from h]; rfl
  | d :: ds, vs, n + 1, h => by
    obtain ⟨v, r, e1, h1, h2⟩ := h
    rw [e1]
    exact Reps.drop n h2
theorem Reps.reverse : ∀ {ds : List D} {vs : List V}, Reps K Z ds vs → Reps K Z ds.reverse vs.reverse
  | [], _, h => by rw [show _ = [] from h]; rfl
  | d :: ds, vs, h => by
    obtain ⟨v, r, e1, h1, h2⟩ := h
    rw [e1, List.reverse_cons, List.reverse_cons]
    exact Reps.append (Reps.reverse h2) (Reps.cons h1 Reps.nil)
theorem Reps.eraseIdx : ∀ {ds : List D} {vs : List V} (n : Nat), Reps K Z ds vs → Reps K Z (ds.eraseIdx n) (vs.eraseIdx n)
  | [], _, n, h => by rw [show _ = [] from h]; rfl
  | d :: ds, vs, 0, h => by
    obtain ⟨v, r, e1, h1, h2⟩ := h
    rw [e1]
    exact h2
  | d :: ds, vs, n + 1, h => by
    obtain ⟨v, r, e1, h1, h2⟩ := h
    rw [e1]
    exact ⟨_, _, rfl, h1, Reps.eraseIdx n h2⟩
theorem Reps.ints : ∀ {ns : List Int} {vs : List V}, Reps K Z (ns.map D.int) vs → vs = ns.map V.int
  | [], _, h => h
  | n :: ns, vs, h => by
    obtain ⟨v, r, e1, h1, h2⟩ := h
    rw [e1, show v = V.int n from h1, Reps.ints h2]; rfl
theorem Reps.of_ints : ∀ (ns : List Int), Reps K Z (ns.map D.int) (ns.map V.int)
  | [] => rfl
  | n :: ns => ⟨_, _, rfl, rfl, Reps.of_ints ns⟩
theorem Reps.bls : ∀ {ns : List Bool} {vs : List V}, Reps K Z (ns.map D.bl) vs → vs = ns.map V.bl
  | [], _, h => h
  | n :: ns, vs, h => by
    obtain ⟨v, r, e1, h1, h2⟩ := h
    rw [e1, show v = V.bl n from h1, Reps.bls h2]; rfl
theorem Reps.strs : ∀ {ns : List Str} {vs : List V}, Reps K Z (ns.map D.str) vs → vs = ns.map V.str
  | [], _, h => h
  | n :: ns, vs, h => by
    obtain ⟨v, r, e1, h1, h2⟩ := h
    rw [e1, show v = V.str n from h1, Reps.strs h2]; rfl
end
def RepF (K : PySem.W.Frag) (Z : Hp) : List (Str × D) → List (Str × V) → Prop
  | [], vs => vs = []
  | (f, d) :: fs, vs => ∃ v r, vs = (f, v) :: r ∧ Rep K Z d v ∧ RepF K Z fs r
def RepK (K : PySem.W.Frag) (Z : Hp) : List (Key × D) → List (Key × V) → Prop
  | [], vs => vs = []
  | (f, d) :: fs, vs => ∃ v r, vs = (f, v) :: r ∧ Rep K Z d v ∧ RepK K Z fs r
theorem RepF.mono {K : PySem.W.Frag} {Z Z' : Hp} (e : Ext Z Z') : ∀ {fs : List (Str × D)} {vs : List (Str × V)}, RepF K Z fs vs → RepF K Z' fs vs
  | [], _, h => h
  | (f, d) :: fs, vs, h => by
    obtain ⟨v, r, e1, h1, h2⟩ := h
    exact ⟨v, r, e1, Rep.mono e d v h1, RepF.mono e h2⟩
theorem RepK.mono {K : PySem.W.Frag} {Z Z' : Hp} (e : Ext Z Z') : ∀ {fs : List (Key × D)} {vs : List (Key × V)}, RepK K Z fs vs → RepK K Z' fs vs
  | [], _, h => h
  | (f, d) :: fs, vs, h => by
    obtain ⟨v, r, e1, h1, h2⟩ := h
    exact ⟨v, r, e1, Rep.mono e d v h1, RepK.mono e h2⟩
theorem RepF.lookup {K : PySem.W.Frag} {Z : Hp} {f : Str} : ∀ {fs : List (Str × D)} {vs : List (Str × V)}, RepF K Z fs vs → match fs.lookup f with
    | some d => ∃ v, vs.lookup f = some v ∧ Rep K Z d v
    | none => vs.lookup f = none
  | [], _, h => by rw [show _ = [] from h]; rfl
  | (g, d) :: fs, vs, h => by
    obtain ⟨v, r, e1, h1, h2⟩ := h
    rw [e1]
    by_cases e : f = g
    · subst e
      simp only [List.lookup, beq_self_eq_true]
      exact ⟨v, rfl, h1⟩
    · have e2 : (f == g) = false := by simpa using e
      simp only [List.lookup, e2]
      exact RepF.lookup h2
theorem RepF.length {K : PySem.W.Frag} {Z : Hp} : ∀ {fs : List (Str × D)} {vs : List (Str × V)}, RepF K Z fs vs → vs.length = fs.length
  | [], _, h => by rw [show _ = [] from h]; rfl
  | (g, d) :: fs, vs, h => by
    obtain ⟨v, r, e1, h1, h2⟩ := h
    rw [e1, List.length_cons, List.length_cons, RepF.length h2]
/-- the address of a class of the text -/
def clsA (K : PySem.W.Frag) (x : Str) : Addr := He.ga K x
def ORep (K : PySem.W.Frag) (Z : Hp) : DO → Option HO → Prop
  | .lst ds, o => ∃ xs, o = some (.lst xs) ∧ Reps K Z ds xs
  | .ins C fs, o => ∃ dx vs, o = some (.ins (clsA K C) dx vs) ∧ RepF K Z fs vs
  | .dic kvs, o => ∃ vs, o = some (.dK vs) ∧ RepK K Z kvs vs
theorem ORep.mono {K : PySem.W.Frag} {Z Z' : Hp} (e : Ext Z Z') : ∀ {d : DO} {o : Option HO}, ORep K Z d o → ORep K Z' d o
  | .lst _, _, ⟨xs, h1, h2⟩ => ⟨xs, h1, Reps.mono e _ _ h2⟩
  | .ins _ _, _, ⟨dx, vs, h1, h2⟩ => ⟨dx, vs, h1, h2.mono e⟩
  | .dic _, _, ⟨vs, h1, h2⟩ => ⟨vs, h1, h2.mono e⟩
/-- the exception that an except suite holds: its address, its class's value, its dict; its class's name and its fields -/
structure Exc where
  a : Addr
  cls : Value
  dd : Addr
  cn : Str
  fs : List (Str × D)
/-- where one stands: the written part, the exception at hand -/
structure TC where
  K : PySem.W.Frag
  xi : Option Exc
def XiOk (C : TC) (Z : Hp) : Prop := match C.xi with
  | none => True
  | some e => e.cls = .ref (clsA C.K e.cn) ∧ ∃ vs, Z e.dd = some (.xd vs) ∧ RepF C.K Z e.fs vs
theorem XiOk.mono {C : TC} {Z Z' : Hp} (e : Ext Z Z') (h : XiOk C Z) : XiOk C Z' := by
  unfold XiOk at *
  split
  · trivial
  · rename_i x hx
    rw [hx] at h
    obtain ⟨h1, vs, h2, h3⟩ := h
    exact ⟨h1, vs, e _ _ h2, h3.mono e⟩
/-- the heap of data and the hand layer's heap: Z is what never changes any more -/
structure Sim (C : TC) (Z : Hp) (HD : DH) (H : Hp) : Prop where
  fz : ∀ a o, Z a = some o → H a = some o
  hd : ∀ a o, HD a = some o → Z a = none ∧ ORep C.K Z o (H a)
  xi : XiOk C Z
section
variable {C : TC} {Z Z' : Hp} {HD HD' : DH} {H : Hp} {a p : Addr} {xs : List V}
theorem Sim.seqL (s : Sim C Z HD H) (h : SqL C.K Z a xs) : SqL C.K H a xs := by
  rcases h with (h | ⟨o, h⟩) | h
  · exact .inl (.inl (s.fz _ _ h))
  · exact .inl (.inr ⟨o, s.fz _ _ h⟩)
  · exact .inr h
theorem Sim.seqT (s : Sim C Z HD H) (h : SqT C.K Z a xs) : SqT C.K H a xs := by
  rcases h with (h | ⟨o, h⟩) | h
  · exact .inl (.inl (s.fz _ _ h))
  · exact .inl (.inr ⟨o, s.fz _ _ h⟩)
  · exact .inr h
theorem Sim.free (s : Sim C Z HD H) (h : H p = none) : Z p = none ∧ HD p = none := by
  constructor
  · cases q : Z p with
    | none => rfl
    | some o => rw [s.fz _ _ q] at h; cases h
  · cases q : HD p with
    | none => rfl
    | some o =>
      obtain ⟨_, r⟩ := s.hd _ _ q
      rw [h] at r
      cases o <;> obtain ⟨_, r⟩ := r
      · obtain ⟨r, _⟩ := r; cases r
      · obtain ⟨_, r, _⟩ := r; cases r
      · obtain ⟨r, _⟩ := r; cases r
/-- a new thing that never changes -/
theorem Sim.newZ (s : Sim C Z HD H) (h : H p = none) (o : HO) : Sim C (upd Z p o) HD (upd H p o) := by
  obtain ⟨hz, hd⟩ := s.free h
  refine ⟨fun a u e => ?_, fun a u e => ?_, s.xi.mono (.upd hz)⟩
  · by_cases q : a = p
    · subst q; rw [upd_same] at e ⊢; exact e
    · rw [upd_ne q] at e ⊢; exact s.fz _ _ e
  · have q : a ≠ p := fun z => by subst z; rw [hd] at e; cases e
    obtain ⟨e1, e2⟩ := s.hd _ _ e
    rw [upd_ne q, upd_ne q]
    exact ⟨e1, e2.mono (.upd hz)⟩
/-- a new thing that may change -/
theorem Sim.newM (s : Sim C Z HD H) (h : H p = none) {o : HO} {u : DO} (r : ORep C.K Z u (some o)) : Sim C Z (updD HD p u) (upd H p o) := by
  obtain ⟨hz, hd⟩ := s.free h
  refine ⟨fun a v e => ?_, fun a v e => ?_, s.xi⟩
  · rw [upd_ne (ne_of_none e hz)]; exact s.fz _ _ e
  · by_cases q : a = p
    · subst q; rw [updD_same] at e; cases e; rw [upd_same]; exact ⟨hz, r⟩
    · rw [updD_ne q] at e; rw [upd_ne q]; exact s.hd _ _ e
/-- it changes -/
theorem Sim.write (s : Sim C Z HD H) {o' : DO} (h : HD p = some o') {o : HO} {u : DO} (r : ORep C.K Z u (some o)) : Sim C Z (updD HD p u) (upd H p o) := by
  obtain ⟨hz, _⟩ := s.hd _ _ h
  refine ⟨fun a v e => ?_, fun a v e => ?_, s.xi⟩
  · rw [upd_ne (ne_of_none e hz)]; exact s.fz _ _ e
  · by_cases q : a = p
    · subst q; rw [updD_same] at e; cases e; rw [upd_same]; exact ⟨hz, r⟩
    · rw [updD_ne q] at e; rw [upd_ne q]; exact s.hd _ _ e
/-- less may be known -/
theorem Sim.less (s : Sim C Z HD H) (h : ∀ a o, HD' a = some o → HD a = some o) : Sim C Z HD' H := ⟨s.fz, fun a o e => s.hd a o (h a o e), s.xi⟩
end
/-- the slots -/
structure SlR (K : PySem.W.Frag) (Z : Hp) (σD : DS) (σ : St) : Prop where
  len : σ.length = σD.length
  at_ : ∀ (i : Nat) (d : D), σD[i]? = some (some d) → ∃ v : V, σ[i]? = some (some v) ∧ Rep K Z d v
theorem SlR.mono {K : PySem.W.Frag} {Z Z' : Hp} {σD : DS} {σ : St} (s : SlR K Z σD σ) (e : Ext Z Z') : SlR K Z' σD σ :=
  ⟨s.len, fun i d h => let ⟨v, h1, h2⟩ := s.at_ i d h; ⟨v, h1, Rep.mono e _ _ h2⟩⟩
theorem SlR.set {K : PySem.W.Frag} {Z : Hp} {σD : DS} {σ : St} (s : SlR K Z σD σ) {d : D} {v : V} (r : Rep K Z d v) (i : Nat) : SlR K Z (σD.set i (some d)) (σ.set i (some v)) := by
  refine ⟨by rw [List.length_set, List.length_set, s.len], fun j e h => ?_⟩
  by_cases q : i = j
  · subst q
    have hl : i < σD.length := by
      have := (List.getElem?_eq_some_iff.mp h).1
      rwa [List.length_set] at this
    rw [List.getElem?_set_self hl] at h
    cases h
    rw [List.getElem?_set_self (by rw [s.len]; exact hl)]
    exact ⟨v, rfl, r⟩
  · rw [List.getElem?_set_ne q] at h ⊢
    exact s.at_ j e h
theorem SlR.drop {K : PySem.W.Frag} {Z : Hp} {σD : DS} {σ : St} (s : SlR K Z σD σ) (i : Nat) : SlR K Z (σD.set i none) (σ.set i none) := by
  refine ⟨by rw [List.length_set, List.length_set, s.len], fun j e h => ?_⟩
  by_cases q : i = j
  · subst q
    have hl : i < σD.length := by
      have := (List.getElem?_eq_some_iff.mp h).1
      rwa [List.length_set] at this
    rw [List.getElem?_set_self hl] at h
    cases h
  · rw [List.getElem?_set_ne q] at h ⊢
    exact s.at_ j e h
/-- from here to there: what never changes stays, what is not known to the data is not touched -/
structure Step (C : TC) (Z : Hp) (HD : DH) (H : Hp) (Z' : Hp) (HD' : DH) (H' : Hp) : Prop where
  ext : Ext Z Z'
  sim : Sim C Z' HD' H'
  fr : ∀ a o, H a = some o → HD a = none → H' a = some o ∧ HD' a = none ∧ Z' a = Z a
section
variable {C : TC} {Z Z1 Z2 : Hp} {HD HD1 HD2 : DH} {H H1 H2 : Hp}
theorem Step.trans (a : Step C Z HD H Z1 HD1 H1) (b : Step C Z1 HD1 H1 Z2 HD2 H2) : Step C Z HD H Z2 HD2 H2 :=
  ⟨a.ext.trans b.ext, b.sim, fun c o h1 h2 => let ⟨h3, h4, h5⟩ := a.fr c o h1 h2; let ⟨h6, h7, h8⟩ := b.fr c o h3 h4; ⟨h6, h7, h8.trans h5⟩⟩
theorem Step.rfl (s : Sim C Z HD H) : Step C Z HD H Z HD H := ⟨.refl _, s, fun _ _ h1 h2 => ⟨h1, h2, Eq.refl _⟩⟩
theorem Step.newZ {p : Addr} (s : Sim C Z HD H) (h : H p = none) (o : HO) : Step C Z HD H (upd Z p o) HD (upd H p o) :=
  ⟨.upd (s.free h).1, s.newZ h o, fun a u h1 h2 => ⟨by rw [upd_ne (ne_of_none h1 h)]; exact h1, h2, upd_ne (ne_of_none h1 h)⟩⟩
theorem Step.newM {p : Addr} (s : Sim C Z HD H) (h : H p = none) {o : HO} {u : DO} (r : ORep C.K Z u (some o)) : Step C Z HD H Z (updD HD p u) (upd H p o) :=
  ⟨.refl _, s.newM h r, fun a v h1 h2 => ⟨by rw [upd_ne (ne_of_none h1 h)]; exact h1, by rw [updD_ne (ne_of_none h1 h)]; exact h2, Eq.refl _⟩⟩
theorem Step.write {p : Addr} (s : Sim C Z HD H) {o' : DO} (h : HD p = some o') {o : HO} {u : DO} (r : ORep C.K Z u (some o)) : Step C Z HD H Z (updD HD p u) (upd H p o) :=
  ⟨.refl _, s.write h r, fun a v h1 h2 => by
    have q : a ≠ p := fun z => by rw [z, h] at h2; cases h2
    exact ⟨by rw [upd_ne q]; exact h1, by rw [updD_ne q]; exact h2, Eq.refl _⟩⟩
theorem Step.less (s : Sim C Z HD H) (h : ∀ a o, HD1 a = some o → HD a = some o) : Step C Z HD H Z HD1 H :=
  ⟨.refl _, s.less h, fun a o h1 h2 => by
    have q : HD1 a = none := by
      cases q : HD1 a with
      | none => exact Eq.refl _
      | some u => rw [h _ _ q] at h2; cases h2
    exact ⟨h1, q, Eq.refl _⟩⟩
/-- a new thing that the data do not speak of -/
theorem Step.hid {p : Addr} (s : Sim C Z HD H) (h : H p = none) (o : HO) : Step C Z HD H Z HD (upd H p o) :=
  ⟨.refl _, ⟨fun a u e => by rw [upd_ne (ne_of_none (s.fz _ _ e) h)]; exact s.fz _ _ e, fun a u e => by
    have q : a ≠ p := fun z => by rw [z, (s.free h).2] at e; cases e
    rw [upd_ne q]; exact s.hd _ _ e, s.xi⟩, fun a u h1 h2 => ⟨by rw [upd_ne (ne_of_none h1 h)]; exact h1, h2, Eq.refl _⟩⟩
/-- such a thing changes -/
theorem Sim.hidW {p : Addr} (s : Sim C Z HD H) (h1 : HD p = none) (h2 : Z p = none) (o : HO) : Sim C Z HD (upd H p o) :=
  ⟨fun a u e => by rw [upd_ne (ne_of_none e h2)]; exact s.fz _ _ e, fun a u e => by rw [upd_ne (ne_of_noneD e h1)]; exact s.hd _ _ e, s.xi⟩
/-- it is told, as one that never changes -/
theorem Sim.hidZ {p : Addr} (s : Sim C Z HD H) (h1 : HD p = none) (h2 : Z p = none) {o : HO} (h3 : H p = some o) : Sim C (upd Z p o) HD H :=
  ⟨fun a u e => by
    by_cases q : a = p
    · subst q; rw [upd_same] at e; rw [h3]; exact e
    · rw [upd_ne q] at e; exact s.fz _ _ e, fun a u e => by
    have q : a ≠ p := ne_of_noneD e h1
    rw [upd_ne q]
    exact ⟨(s.hd _ _ e).1, (s.hd _ _ e).2.mono (.upd h2)⟩, s.xi.mono (.upd h2)⟩
/-- it is told, as one that may change -/
theorem Sim.hidM {p : Addr} (s : Sim C Z HD H) (h2 : Z p = none) {u : DO} (r : ORep C.K Z u (H p)) : Sim C Z (updD HD p u) H :=
  ⟨s.fz, fun a v e => by
    by_cases q : a = p
    · subst q; rw [updD_same] at e; cases e; exact ⟨h2, r⟩
    · rw [updD_ne q] at e; exact s.hd _ _ e, s.xi⟩
end
/-! ### what a reading must keep -/
def KQ (C : TC) (Z : Hp) (HD : DH) (H : Hp) (QD : DQ) (Q : VK) : Prop := ∀ Z' HD' H' d v, Step C Z HD H Z' HD' H' → Rep C.K Z' d v → QD d HD' → Q v H'
def KB (C : TC) (Z : Hp) (HD : DH) (H : Hp) (QD : Bool → DH → Prop) (Q : Bool → Hp → Prop) : Prop := ∀ Z' HD' H' b, Step C Z HD H Z' HD' H' → QD b HD' → Q b H'
def KA (C : TC) (Z : Hp) (HD : DH) (H : Hp) (QD : List D → DH → Prop) (Q : List V → Hp → Prop) : Prop := ∀ Z' HD' H' d v, Step C Z HD H Z' HD' H' → Reps C.K Z' d v → QD d HD' → Q v H'
def KX (C : TC) (Z : Hp) (HD : DH) (H : Hp) (ED : DX1) (E : XK) : Prop := ∀ Z' HD' H' cn fs dd vs, Step C Z HD H Z' HD' H' → Z' dd = some (.xd vs) → RepF C.K Z' fs vs → ED cn fs HD' → E (.ref (clsA C.K cn)) (some dd) H'
def KN (C : TC) (Z : Hp) (HD : DH) (H : Hp) (ND : DS → DH → Prop) (N : St → Hp → Prop) : Prop := ∀ Z' HD' H' σD σ, Step C Z HD H Z' HD' H' → SlR C.K Z' σD σ → ND σD HD' → N σ H'
def KXS (C : TC) (Z : Hp) (HD : DH) (H : Hp) (ED : Str → List (Str × D) → DS → DH → Prop) (W : WX) : Prop := ∀ Z' HD' H' σD σ cn fs dd vs, Step C Z HD H Z' HD' H' → SlR C.K Z' σD σ → Z' dd = some (.xd vs) → RepF C.K Z' fs vs → ED cn fs σD HD' → W (.ref (clsA C.K cn)) (some dd) σ H'
section
variable {C : TC} {Z Z1 Z2 : Hp} {HD HD1 HD2 : DH} {H H1 H2 : Hp}
theorem KQ.mono {QD : DQ} {Q : VK} (h : KQ C Z HD H QD Q) (e : Step C Z HD H Z1 HD1 H1) : KQ C Z1 HD1 H1 QD Q := fun Z2 HD' H' d v e2 => h Z2 HD' H' d v (e.trans e2)
theorem KB.mono {QD : Bool → DH → Prop} {Q : Bool → Hp → Prop} (h : KB C Z HD H QD Q) (e : Step C Z HD H Z1 HD1 H1) : KB C Z1 HD1 H1 QD Q := fun Z2 HD' H' b e2 => h Z2 HD' H' b (e.trans e2)
theorem KA.mono {QD : List D → DH → Prop} {Q : List V → Hp → Prop} (h : KA C Z HD H QD Q) (e : Step C Z HD H Z1 HD1 H1) : KA C Z1 HD1 H1 QD Q := fun Z2 HD' H' d v e2 => h Z2 HD' H' d v (e.trans e2)
theorem KX.mono {ED : DX1} {E : XK} (h : KX C Z HD H ED E) (e : Step C Z HD H Z1 HD1 H1) : KX C Z1 HD1 H1 ED E := fun Z2 HD' H' cn fs dd vs e2 => h Z2 HD' H' cn fs dd vs (e.trans e2)
theorem KN.mono {ND : DS → DH → Prop} {N : St → Hp → Prop} (h : KN C Z HD H ND N) (e : Step C Z HD H Z1 HD1 H1) : KN C Z1 HD1 H1 ND N := fun Z2 HD' H' σD σ e2 => h Z2 HD' H' σD σ (e.trans e2)
theorem KXS.mono {ED : Str → List (Str × D) → DS → DH → Prop} {W : WX} (h : KXS C Z HD H ED W) (e : Step C Z HD H Z1 HD1 H1) : KXS C Z1 HD1 H1 ED W := fun Z2 HD' H' σD σ cn fs dd vs e2 => h Z2 HD' H' σD σ cn fs dd vs (e.trans e2)
theorem KX.none {E : XK} : KX C Z HD H (fun _ _ _ => False) E := fun _ _ _ _ _ _ _ _ _ _ q => q.elim
theorem KXS.at {ED : Str → List (Str × D) → DS → DH → Prop} {W : WX} {σD : DS} {σ : St} (h : KXS C Z HD H ED W) (s : SlR C.K Z σD σ) : KX C Z HD H (fun c fs H => ED c fs σD H) (fun c d H' => W c d σ H') :=
  fun Z' HD' H' cn fs dd vs e hz hr q => h Z' HD' H' σD σ cn fs dd vs e (s.mono e.ext) hz hr q
end
theorem KQ.at {C : TC} {Z Z' : Hp} {HD HD' : DH} {H H' : Hp} {QD : DQ} {Q : VK} {d : D} {v : V} (k : KQ C Z HD H QD Q) (q : QD d HD') (st : Step C Z HD H Z' HD' H') (r : Rep C.K Z' d v) : Q v H' := k _ _ _ _ _ st r q
theorem KQ.here {C : TC} {Z : Hp} {HD : DH} {H : Hp} {QD : DQ} {Q : VK} {d : D} {v : V} (k : KQ C Z HD H QD Q) (q : QD d HD) (s : Sim C Z HD H) (r : Rep C.K Z d v) : Q v H := k _ _ _ _ _ (Step.rfl s) r q
def SE (C : TC) (W : WX) (t : TE) (w : DTE) : Prop := ∀ (Z : Hp) (HD : DH) (H : Hp) (σD : DS) (σ : St) (QD : DQ) (ED : DX1) (Q : VK),
  Sim C Z HD H → SlR C.K Z σD σ → w σD HD QD ED → KQ C Z HD H QD Q → KX C Z HD H ED (fun c d H' => W c d σ H') → t σ H Q
def SB (C : TC) (W : WX) (t : TT) (w : DTT) : Prop := ∀ (Z : Hp) (HD : DH) (H : Hp) (σD : DS) (σ : St) (QD : Bool → DH → Prop) (ED : DX1) (Q : Bool → Hp → Prop),
  Sim C Z HD H → SlR C.K Z σD σ → w σD HD QD ED → KB C Z HD H QD Q → KX C Z HD H ED (fun c d H' => W c d σ H') → t σ H Q
def SA (C : TC) (W : WX) (t : TA) (w : DTA) : Prop := ∀ (Z : Hp) (HD : DH) (H : Hp) (σD : DS) (σ : St) (QD : List D → DH → Prop) (ED : DX1) (Q : List V → Hp → Prop),
  Sim C Z HD H → SlR C.K Z σD σ → w σD HD QD ED → KA C Z HD H QD Q → KX C Z HD H ED (fun c d H' => W c d σ H') → t σ H Q
/-- bundles: the hand layer's reading, the reading over data, and that the one follows from the other -/
structure TW (C : TC) where
  t : WX → TE
  w : DTE
  ok : ∀ W, SE C W (t W) w
structure BW (C : TC) where
  t : WX → TT
  w : DTT
  ok : ∀ W, SB C W (t W) w
structure AW (C : TC) where
  t : WX → TA
  w : DTA
  ok : ∀ W, SA C W (t W) w
/-- what is wanted behind a statement -/
structure DEnds where
  nx : DS → DH → Prop
  rt : DQ
  bk : DS → DH → Prop := fun _ _ => False
  ct : DS → DH → Prop := fun _ _ => False
  ex : Str → List (Str × D) → DS → DH → Prop := fun _ _ _ _ => False
abbrev DTS := DEnds → DS → DH → Prop
structure KS (C : TC) (Z : Hp) (HD : DH) (H : Hp) (W : WX) (DD : DEnds) (Dn : Ends) : Prop where
  nx : KN C Z HD H DD.nx Dn.nx
  rt : KQ C Z HD H DD.rt Dn.rt
  bk : KN C Z HD H DD.bk Dn.bk
  ct : KN C Z HD H DD.ct Dn.ct
  ex : KXS C Z HD H DD.ex W
theorem KS.mono {C : TC} {Z Z1 : Hp} {HD HD1 : DH} {H H1 : Hp} {W : WX} {DD : DEnds} {Dn : Ends} (h : KS C Z HD H W DD Dn) (e : Step C Z HD H Z1 HD1 H1) : KS C Z1 HD1 H1 W DD Dn := ⟨h.nx.mono e, h.rt.mono e, h.bk.mono e, h.ct.mono e, h.ex.mono e⟩
def SS (C : TC) (W : WX) (t : TS) (w : DTS) : Prop := ∀ (Z : Hp) (HD : DH) (H : Hp) (σD : DS) (σ : St) (DD : DEnds) (Dn : Ends),
  Sim C Z HD H → SlR C.K Z σD σ → w DD σD HD → KS C Z HD H W DD Dn → t Dn σ H
structure SW (C : TC) where
  t : WX → TS
  w : DTS
  ok : ∀ W, SS C W (t W) w
/-- a target -/
abbrev DTG := D → DS → DH → (DS → DH → Prop) → Prop
def SG (C : TC) (W : WX) (t : TG) (w : DTG) : Prop := ∀ (Z : Hp) (HD : DH) (H : Hp) (σD : DS) (σ : St) (d : D) (v : V) (QD : DS → DH → Prop) (Q : St → Hp → Prop),
  Sim C Z HD H → SlR C.K Z σD σ → Rep C.K Z d v → w d σD HD QD → KN C Z HD H QD Q → t v σ H Q
structure GW (C : TC) where
  t : WX → TG
  w : DTG
  ok : ∀ W, SG C W (t W) w
end G
set_option Elab.async false
set_option linter.all false
set_option maxRecDepth 100000
/-! Expressions over data. -/
namespace G
open PySem PySem.Spec PyProof.Rows L2
section
variable {C : TC}
/-! ### names, constants -/
def wVar (i : Nat) : DTE := fun σ H Q _ => match σ[i]? with
  | some (some d) => Q d H
  | _ => False
def bVar (i : Nat) : TW C := ⟨fun _ => tVar i, wVar i, fun W Z HD H σD σ QD ED Q s sl h k kx => by
  unfold wVar at h
  split at h
  · rename_i d e
    obtain ⟨v, hv, r⟩ := sl.at_ i d e
    exact ⟨v, hv, k _ _ _ _ _ (Step.rfl s) r h⟩
  · exact h.elim⟩
/-- a value that always stands for the datum -/
def bC (d : D) (v : V) (h : ∀ Z, Rep C.K Z d v) : TW C := ⟨fun _ => tC v, fun _ H Q _ => Q d H, fun W Z HD H σD σ QD ED Q s sl q k kx => k _ _ _ _ _ (Step.rfl s) (h Z) q⟩
def bInt (i : Int) : TW C := bC (.int i) (.int i) fun _ => rfl
def bStr (x : Str) : TW C := bC (.str x) (.str x) fun _ => rfl
def bBl (b : Bool) : TW C := bC (.bl b) (.bl b) fun _ => rfl
def bNon : TW C := bC .non .non fun _ => rfl
/-! ### two values -/
/-- an operator: its reading, its reading over data -/
structure Op2 (C : TC) where
  r : R2
  w : D → D → DH → DQ → Prop
  ok : ∀ Z HD H d e x y QD Q, Sim C Z HD H → Rep C.K Z d x → Rep C.K Z e y → w d e HD QD → KQ C Z HD H QD Q → r x y H Q
def wOp (o : D → D → DH → DQ → Prop) (a b : DTE) : DTE := fun σ H Q E => a σ H (fun x H1 => b σ H1 (fun y H2 => o x y H2 Q) E) E
theorem two {a b : TW C} {W : WX} {Z : Hp} {HD : DH} {H : Hp} {σD : DS} {σ : St} {RD : D → D → DH → Prop} {ED : DX1} {R : V → V → Hp → Prop} (s : Sim C Z HD H) (sl : SlR C.K Z σD σ)
    (h : a.w σD HD (fun x H1 => b.w σD H1 (fun y H2 => RD x y H2) ED) ED) (kx : KX C Z HD H ED (fun c d H' => W c d σ H'))
    (k : ∀ Z' HD' H' d e x y, Step C Z HD H Z' HD' H' → Rep C.K Z' d x → Rep C.K Z' e y → RD d e HD' → R x y H') : a.t W σ H fun x H1 => b.t W σ H1 fun y H2 => R x y H2 :=
  a.ok W Z HD H σD σ _ ED _ s sl h (fun Z1 HD1 H1 d x st rx q => b.ok W Z1 HD1 H1 σD σ _ ED _ st.sim (sl.mono st.ext) q
    (fun Z2 HD2 H2 e y st2 ry q2 => k Z2 HD2 H2 d e x y (st.trans st2) (Rep.mono st2.ext _ _ rx) ry q2) (kx.mono st)) kx
def bOp (o : Op2 C) (a b : TW C) : TW C := ⟨fun W => tOp o.r (a.t W) (b.t W), wOp o.w a.w b.w, fun W Z HD H σD σ QD ED Q s sl h k kx =>
  two s sl h kx fun Z' HD' H' d e x y st rx ry q => o.ok Z' HD' H' d e x y _ _ st.sim rx ry q (k.mono st)⟩
/-- what ints give -/
def opI (P : Int → Int → Prop) (g : Int → Int → D) (gV : Int → Int → V) (h : ∀ i j K Z, Rep K Z (g i j) (gV i j)) : Op2 C := ⟨rI P gV, fun d e H Q => match d, e with
  | .int i, .int j => P i j ∧ Q (g i j) H
  | _, _ => False, fun Z HD H d e x y QD Q s rx ry q k => by
    split at q
    · obtain ⟨q1, q2⟩ := q
      exact ⟨_, _, rx, ry, q1, k _ _ _ _ _ (Step.rfl s) (h _ _ _ _) q2⟩
    · exact q.elim⟩
def opI0 (g : Int → Int → D) (gV : Int → Int → V) (h : ∀ i j K Z, Rep K Z (g i j) (gV i j)) : Op2 C := ⟨rI0 gV, fun d e H Q => match d, e with
  | .int i, .int j => Q (g i j) H
  | _, _ => False, fun Z HD H d e x y QD Q s rx ry q k => by
    split at q
    · exact ⟨_, _, rx, ry, k _ _ _ _ _ (Step.rfl s) (h _ _ _ _) q⟩
    · exact q.elim⟩
def opSub : Op2 C := opI0 (fun i j => .int (i - j)) (fun i j => .int (i - j)) fun _ _ _ _ => rfl
def opMod : Op2 C := opI (fun _ j => 0 < j) (fun i j => .int (i % j)) (fun i j => .int (i % j)) fun _ _ _ _ => rfl
def opFdiv : Op2 C := opI CDivW (fun i j => .int (i / j)) (fun i j => .int (i / j)) fun _ _ _ _ => rfl
def opPow : Op2 C := opI CPow (fun i j => .int (i ^ j.toNat)) (fun i j => .int (i ^ j.toNat)) fun _ _ _ _ => rfl
def opLt : Op2 C := opI0 (fun i j => .bl (decide (i < j))) (fun i j => .bl (decide (i < j))) fun _ _ _ _ => rfl
def opLe : Op2 C := opI0 (fun i j => .bl (decide (i ≤ j))) (fun i j => .bl (decide (i ≤ j))) fun _ _ _ _ => rfl
def opGt : Op2 C := opI0 (fun i j => .bl (decide (j < i))) (fun i j => .bl (decide (j < i))) fun _ _ _ _ => rfl
def opGe : Op2 C := opI0 (fun i j => .bl (decide (j ≤ i))) (fun i j => .bl (decide (j ≤ i))) fun _ _ _ _ => rfl
/-! ### + : ints, texts, tuples, lists -/
def rAddA (K : PySem.W.Frag) : R2 := fun x y H Q => (∃ i j, x = .int i ∧ y = .int j ∧ Q (.int (i + j)) H) ∨ (∃ i j, x = .str i ∧ y = .str j ∧ i.length + j.length ≤ sizeLine ∧ Q (.str (i ++ j)) H) ∨ rCatA K x y H Q ∨ rCat x y H Q
theorem op_addA {X : Cx} : OpR X (binaryOp .Add) (rAddA X.K) := op_add.or (op_add_str.or (op_catA.or op_cat))
/-- f: is a new list never to change? -/
def dAdd (f : Bool) : D → D → DH → DQ → Prop
  | .int i, .int j, H, Q => Q (.int (i + j)) H
  | .str i, .str j, H, Q => i.length + j.length ≤ sizeLine ∧ Q (.str (i ++ j)) H
  | .tup a, .tup b, H, Q => a.length + b.length ≤ sizeLine ∧ Q (.tup (a ++ b)) H
  | .lst a, .lst b, H, Q => a.length + b.length ≤ sizeLine ∧ if f = true then Q (.lst (a ++ b)) H else ∀ r, H r = none → Q (.ref r) (updD H r (.lst (a ++ b)))
  | .lst a, .ref q, H, Q => ∃ b, H q = some (.lst b) ∧ a.length + b.length ≤ sizeLine ∧ if f = true then Q (.lst (a ++ b)) H else ∀ r, H r = none → Q (.ref r) (updD H r (.lst (a ++ b)))
  | .ref p, .lst b, H, Q => ∃ a, H p = some (.lst a) ∧ a.length + b.length ≤ sizeLine ∧ if f = true then Q (.lst (a ++ b)) H else ∀ r, H r = none → Q (.ref r) (updD H r (.lst (a ++ b)))
  | .ref p, .ref q, H, Q => ∃ a b, H p = some (.lst a) ∧ H q = some (.lst b) ∧ a.length + b.length ≤ sizeLine ∧ if f = true then Q (.lst (a ++ b)) H else ∀ r, H r = none → Q (.ref r) (updD H r (.lst (a ++ b)))
  | _, _, _, _ => False
theorem new_list {f : Bool} {Z : Hp} {HD : DH} {H : Hp} {QD : DQ} {Q : VK} {ds : List D} {xs : List V} (s : Sim C Z HD H) (k : KQ C Z HD H QD Q) (r : Reps C.K Z ds xs)
    (q : if f = true then QD (.lst ds) HD else ∀ p, HD p = none → QD (.ref p) (updD HD p (.lst ds))) : ∀ p, H p = none → Q (.ref p) (upd H p (.lst xs)) := fun p hp => by
  cases f with
  | true =>
    refine k.at q (Step.newZ s hp (.lst xs)) ?_
    exact ⟨p, xs, rfl, upd_same, Reps.mono (.upd (s.free hp).1) _ _ r⟩
  | false => exact k.at (q p (s.free hp).2) (Step.newM s hp (o := .lst xs) (u := .lst ds) ⟨xs, rfl, r⟩) rfl
theorem new_tup {Z : Hp} {HD : DH} {H : Hp} {QD : DQ} {Q : VK} {ds : List D} {xs : List V} (s : Sim C Z HD H) (k : KQ C Z HD H QD Q) (r : Reps C.K Z ds xs) (q : QD (.tup ds) HD) : ∀ p, H p = none → Q (.ref p) (upd H p (.tup xs)) := fun p hp =>
  k.at q (Step.newZ s hp (.tup xs)) ⟨p, xs, rfl, .inl (.inl upd_same), Reps.mono (.upd (s.free hp).1) _ _ r⟩
def opAdd (f : Bool) : Op2 C := ⟨rAddA C.K, dAdd f, fun Z HD H d e x y QD Q s rx ry q k => by
  unfold dAdd at q
  split at q
  · exact .inl ⟨_, _, rx, ry, k.here q s rfl⟩
  · exact .inr (.inl ⟨_, _, rx, ry, q.1, k.here q.2 s rfl⟩)
  · rename_i a b
    obtain ⟨q1, q2⟩ := q
    obtain ⟨p, xs, rfl, h1, r1⟩ := rx
    obtain ⟨p', ys, rfl, h2, r2⟩ := ry
    have l1 := r1.length
    have l2 := r2.length
    refine .inr (.inr (.inl ⟨p, p', xs, ys, rfl, rfl, s.seqT h1, s.seqT h2, by omega, fun e => ?_, fun _ e => ?_, fun _ _ => new_tup s k (r1.append r2) q2⟩))
    · subst e
      have ea : a = [] := List.eq_nil_of_length_eq_zero l1.symm
      subst ea
      exact k.here q2 s ⟨p', ys, rfl, h2, r2⟩
    · subst e
      have eb : b = [] := List.eq_nil_of_length_eq_zero l2.symm
      subst eb
      rw [List.append_nil] at q2
      exact k.here q2 s ⟨p, xs, rfl, h1, r1⟩
  · obtain ⟨q1, q2⟩ := q
    obtain ⟨p, xs, rfl, o1, r1⟩ := rx
    obtain ⟨p', ys, rfl, o2, r2⟩ := ry
    have l1 := r1.length
    have l2 := r2.length
    exact .inr (.inr (.inr ⟨_, _, xs, ys, rfl, rfl, s.fz _ _ o1, s.fz _ _ o2, by omega, new_list s k (r1.append r2) q2⟩))
  · obtain ⟨b, e2, q1, q2⟩ := q
    obtain ⟨p, xs, rfl, o1, r1⟩ := rx
    obtain ⟨_, ys, o2, r2⟩ := s.hd _ _ e2
    have l1 := r1.length
    have l2 := r2.length
    exact .inr (.inr (.inr ⟨_, _, xs, ys, rfl, ry, s.fz _ _ o1, o2, by omega, new_list s k (r1.append r2) q2⟩))
  · obtain ⟨a, e1, q1, q2⟩ := q
    obtain ⟨_, xs, o1, r1⟩ := s.hd _ _ e1
    obtain ⟨p', ys, rfl, o2, r2⟩ := ry
    have l1 := r1.length
    have l2 := r2.length
    exact .inr (.inr (.inr ⟨_, _, xs, ys, rx, rfl, o1, s.fz _ _ o2, by omega, new_list s k (r1.append r2) q2⟩))
  · obtain ⟨a, b, e1, e2, q1, q2⟩ := q
    obtain ⟨_, xs, o1, r1⟩ := s.hd _ _ e1
    obtain ⟨_, ys, o2, r2⟩ := s.hd _ _ e2
    have l1 := r1.length
    have l2 := r2.length
    exact .inr (.inr (.inr ⟨_, _, xs, ys, rx, ry, o1, o2, by omega, new_list s k (r1.append r2) q2⟩))
  · exact q.elim⟩
/-! ### == : data of any depth -/
mutual
def D.py : D → PyData
  | .non => .none
  | .bl b => .bool b
  | .int i => .int i
  | .str x => .str x
  | .tup ds => .tuple (D.pys ds)
  | .lst ds => .list (D.pys ds)
  | .frz ds => .list (D.pys ds)
  | .ref _ => .none
def D.pys : List D → List PyData
  | [] => []
  | d :: ds => d.py :: D.pys ds
end
mutual
/-- no address within -/
def D.flat : D → Bool
  | .ref _ => false
  | .tup ds => D.flats ds
  | .lst ds => D.flats ds
  | .frz ds => D.flats ds
  | _ => true
def D.flats : List D → Bool
  | [] => true
  | d :: ds => d.flat && D.flats ds
end
mutual
theorem Rep.dp {K : PySem.W.Frag} {Z H : Hp} (fz : ∀ a o, Z a = some o → H a = some o) : ∀ (d : D) (v : V), d.flat = true → Rep K Z d v → Dp K H v d.py
  | .non, _, _, h => by rw [show _ = V.non from h]; exact .non
  | .bl b, _, _, h => by rw [show _ = V.bl b from h]; exact .bl b
  | .int i, _, _, h => by rw [show _ = V.int i from h]; exact .int i
  | .str x, _, _, h => by rw [show _ = V.str x from h]; exact .str x
  | .ref a, _, f, _ => by cases f
  | .tup ds, v, f, h => by
    obtain ⟨a, xs, e, h1, h2⟩ := h
    subst e
    refine .tup ?_ (Reps.dps fz ds xs f h2)
    rcases h1 with (h1 | ⟨o, h1⟩) | h1
    · exact .inl (.inl (fz _ _ h1))
    · exact .inl (.inr ⟨o, fz _ _ h1⟩)
    · exact .inr h1
  | .lst ds, v, f, h => by
    obtain ⟨a, xs, e, h1, h2⟩ := h
    subst e
    exact .lst (.inl (.inl (fz _ _ h1))) (Reps.dps fz ds xs f h2)
  | .frz ds, v, f, h => by
    obtain ⟨a, xs, e, h1, h2⟩ := h
    subst e
    refine .lst ?_ (Reps.dps fz ds xs f h2)
    rcases h1 with (h1 | ⟨o, h1⟩) | h1
    · exact .inl (.inl (fz _ _ h1))
    · exact .inl (.inr ⟨o, fz _ _ h1⟩)
    · exact .inr h1
theorem Reps.dps {K : PySem.W.Frag} {Z H : Hp} (fz : ∀ a o, Z a = some o → H a = some o) : ∀ (ds : List D) (vs : List V), D.flats ds = true → Reps K Z ds vs → DpAll K H vs (D.pys ds)
  | [], _, _, h => by rw [show _ = [] from h]; exact .nil
  | d :: ds, vs, f, h => by
    obtain ⟨v, r, e, h1, h2⟩ := h
    subst e
    have f' := Bool.and_eq_true_iff.mp (show (d.flat && D.flats ds) = true from f)
    exact .cons (Rep.dp fz d v f'.1 h1) (Reps.dps fz ds r f'.2 h2)
end
/-- may it be compared? -/
def D.shp (d : D) : Bool := d.flat && SeqAt.shaped d.py
def D.eq (d e : D) : Bool := PyData.eqv d.py e.py
def dEq (n : Bool) : D → D → DH → DQ → Prop := fun d e H Q => d.shp = true ∧ e.shp = true ∧ Q (.bl (d.eq e ^^ n)) H
theorem shp2 {d : D} (h : d.shp = true) : d.flat = true ∧ SeqAt.shaped d.py = true := Bool.and_eq_true_iff.mp h
def opEq : Op2 C := ⟨rEqD C.K, dEq false, fun Z HD H d e x y QD Q s rx ry q k => by
  obtain ⟨q1, q2, q3⟩ := q
  rw [Bool.xor_false] at q3
  exact ⟨_, _, rx.dp s.fz _ _ (shp2 q1).1, ry.dp s.fz _ _ (shp2 q2).1, (shp2 q1).2, (shp2 q2).2, k.here q3 s rfl⟩⟩
def opNe : Op2 C := ⟨rNeD C.K, dEq true, fun Z HD H d e x y QD Q s rx ry q k => by
  obtain ⟨q1, q2, q3⟩ := q
  rw [Bool.xor_true] at q3
  exact ⟨_, _, rx.dp s.fz _ _ (shp2 q1).1, ry.dp s.fz _ _ (shp2 q2).1, (shp2 q1).2, (shp2 q2).2, k.here q3 s rfl⟩⟩
end
end G
set_option Elab.async false
set_option linter.all false
set_option maxRecDepth 100000
/-! What the hand layer lacks: a tuple times 1, times 0 or less; iteration over anything; slices by kind. -/
namespace G
open PySem PySem.Spec PyProof.Rows L2
/-- a tuple with items, times 1: itself -/
theorem mul_one_tup (q : Addr) (vs : Array Value) (m : Nat) (od : Option Addr) (slo : Array (Option Value)) (tk : Tok) (hne : vs.isEmpty = false) :
    Meets (Builtin.«tuple.__mul__» ⟨[.ref q, .int 1 tk], []⟩) (fun _ R s => s.heap.get? q = some { cls := .type "tuple", dict := od, data := .seq vs m, slots := slo } ∧ R (.ok (.ret (Value.ref q))) s) :=
  .of_wp fun prog w A R s h => by
    obtain ⟨hp, gg, dd, tt, oo⟩ := s
    obtain ⟨at_, fin⟩ := h
    have ix := AutoSeq1.idx_int
    have b0 : (decide ((1 : Int) < -(2 ^ 63)) || decide ((1 : Int) ≥ 2 ^ 63)) = false := by decide
    have b1 : (vs.isEmpty || (1 : Int) == 1) = true := by simp
    wp_walk using wpAny_loadPart' at_
    repeat (first
      | (refine wpAny_ite_false (decide_eq_false (by rw [b0]; exact Bool.false_ne_true)) ?_; wp_walk using wpAny_loadPart' at_)
      | (refine wpAny_ite_true (decide_eq_true b1) ?_; wp_walk using wpAny_loadPart' at_))
    all_goals exact ⟨_, rfl, fin⟩
/-- a tuple with items, times 0 or less: a new empty one -/
theorem mul_nil_tup (q : Addr) (vs : Array Value) (m : Nat) (od : Option Addr) (slo : Array (Option Value)) (x : Int) (tk : Tok) (hne : vs.isEmpty = false) (h0 : x ≤ 0) (h1 : -1000 ≤ x) :
    Meets (Builtin.«tuple.__mul__» ⟨[.ref q, .int x tk], []⟩) (fun _ R s => s.heap.get? q = some { cls := .type "tuple", dict := od, data := .seq vs m, slots := slo } ∧
      R (.ok (.ret (Value.ref s.heap.objs.size))) { s with heap := s.heap.push { cls := Value.type "tuple", data := Data.seq #[] }, toks := s.toks }) :=
  .of_wp fun prog w A R s h => by
    obtain ⟨hp, gg, dd, tt, oo⟩ := s
    obtain ⟨at_, fin⟩ := h
    have ix := AutoSeq1.idx_int
    have b0 : (decide (x < -(2 ^ 63)) || decide (x ≥ 2 ^ 63)) = false := by
      rw [decide_eq_false (by omega), decide_eq_false (by omega)] <;> rfl
    have b1 : (vs.isEmpty || x == 1) = false := by
      rw [hne, Bool.false_or]
      exact beq_eq_false_iff_ne.mpr (by omega)
    have b2 : (decide (x ≤ 0) || vs.isEmpty) = true := by rw [decide_eq_true h0]; rfl
    wp_walk using wpAny_loadPart' at_
    repeat (first
      | (refine wpAny_ite_false (decide_eq_false (by rw [b0]; exact Bool.false_ne_true)) ?_; wp_walk using wpAny_loadPart' at_)
      | (refine wpAny_ite_false (decide_eq_false (by rw [b1]; exact Bool.false_ne_true)) ?_; wp_walk using wpAny_loadPart' at_)
      | (refine wpAny_ite_true (decide_eq_true b2) ?_; wp_walk using wpAny_loadPart' at_))
    all_goals exact ⟨_, rfl, fin⟩
section
variable {X : Cx}
/-- t * k, t a tuple with items: k = 1 the same one, k at most 0 an empty one -/
def rRepA (K : PySem.W.Frag) : R2 := fun x y H Q => ∃ l k xs, x = .ref l ∧ y = .int k ∧ SqT K H l xs ∧ xs ≠ [] ∧ -1000 ≤ k ∧ k ≤ 1000 ∧ xs.length ≤ 1000 ∧
  (k = 1 → Q (.ref l) H) ∧ (k ≠ 1 → ∀ p, H p = none → Q (.ref p) (upd H p (.tup (List.replicate k.toNat xs).flatten)))
theorem op_repA : OpR X (binaryOp .Mult) (rRepA X.K) := by
  intro pins s σ H x y v u Q I rx ry h
  obtain ⟨l, k, xs, rfl, rfl, hT, hne, hk0, hk1, hz, q1, q2⟩ := h
  by_cases h2 : 2 ≤ k
  · exact op_repT pins s σ H _ _ v u Q I rx ry ⟨l, k, xs, rfl, rfl, hT, hne, h2, hk1, hz, q2 (by omega)⟩
  · cases rx
    obtain ⟨t, rfl⟩ := ry
    obtain ⟨its, rr, ⟨⟨cl, od, dt, slo⟩, at_, hcl, m, hdt⟩, hsz⟩ := I.tuple hT
    simp only at hcl hdt
    subst hcl hdt
    have hemp : its.toArray.isEmpty = false := by
      cases its with
      | nil => exact absurd (List.eq_nil_of_length_eq_zero rr.length) hne
      | cons a b => rfl
    by_cases h1 : k = 1
    · subst h1
      exact wpAny_binaryOp_repeat_ref (T := "tuple") (U := "int") (by decide) ⟨_, at_, rfl⟩ (fun s' => typeIs_int s' 1 t) noFill_tuple_mul F.fills_int_mul F.slot_int_rmul repeat_tuple F.slot_int_index.lookup
        (call_meets F.slot_int_rmul (typeIs_int s 1 t) F.entry_int_rmul (F.args_int_rmul_2 _ _) (int_rmul_tuple 1 t l its.toArray m od slo)
          ⟨at_, rfl, ⟨_, at_, rfl⟩, call_meets F.slot_tuple_mul ⟨_, at_, rfl⟩ F.entry_tuple_mul (F.args_tuple_mul_2 _ _) (mul_one_tup l its.toArray m od slo t hemp) ⟨at_, .ref l, H, I, rfl, q1 rfl⟩⟩)
    · refine wpAny_binaryOp_repeat_ref (T := "tuple") (U := "int") (by decide) ⟨_, at_, rfl⟩ (fun s' => typeIs_int s' k t) noFill_tuple_mul F.fills_int_mul F.slot_int_rmul repeat_tuple F.slot_int_index.lookup
        (call_meets F.slot_int_rmul (typeIs_int s k t) F.entry_int_rmul (F.args_int_rmul_2 _ _) (int_rmul_tuple k t l its.toArray m od slo)
          ⟨at_, rfl, ⟨_, at_, rfl⟩, call_meets F.slot_tuple_mul ⟨_, at_, rfl⟩ F.entry_tuple_mul (F.args_tuple_mul_2 _ _) (mul_nil_tup l its.toArray m od slo k t hemp (by omega) hk0) ⟨at_, ?_⟩⟩)
      have e0 : (List.replicate k.toNat xs).flatten = [] := by
        rw [show k.toNat = 0 by omega]; rfl
      have q3 := q2 h1 s.heap.objs.size (I.hok.fresh (Nat.le_refl _))
      rw [e0] at q3
      exact ⟨.ref s.heap.objs.size, _, I.laid (t' := s.toks) (o := .tup []) (fun b ob q => Heap.get?_push_of_some _ q) (Nat.le_refl _) ⟨Nat.zero_le _, [], .nil, IsTup.new _ _⟩, rfl, q3⟩
def rMulA (K : PySem.W.Frag) : R2 := fun x y H Q => rI CMulW (fun i j => .int (i * j)) x y H Q ∨ rRepA K x y H Q ∨ rRep x y H Q
theorem op_mulA : OpR X (binaryOp .Mult) (rMulA X.K) := op_mulW.or (op_repA.or op_rep)
end
theorem Reps.rep {K : PySem.W.Frag} {Z : Hp} {ds : List D} {vs : List V} (r : Reps K Z ds vs) : ∀ n : Nat, Reps K Z (List.replicate n ds).flatten (List.replicate n vs).flatten
  | 0 => rfl
  | n + 1 => by
    rw [List.replicate_succ, List.replicate_succ, List.flatten_cons, List.flatten_cons]
    exact r.append (Reps.rep r n)
def dMul (f : Bool) : D → D → DH → DQ → Prop
  | .int i, .int j, H, Q => CMulW i j ∧ Q (.int (i * j)) H
  | .tup a, .int k, H, Q => a ≠ [] ∧ -1000 ≤ k ∧ k ≤ 1000 ∧ a.length ≤ 1000 ∧ Q (.tup (List.replicate k.toNat a).flatten) H
  | .lst a, .int k, H, Q => -(2 ^ 63) ≤ k ∧ k < 2 ^ 63 ∧ a.length * k.toNat ≤ sizeLine ∧ if f = true then Q (.lst (List.replicate k.toNat a).flatten) H else ∀ r, H r = none → Q (.ref r) (updD H r (.lst (List.replicate k.toNat a).flatten))
  | .ref p, .int k, H, Q => ∃ a, H p = some (.lst a) ∧ -(2 ^ 63) ≤ k ∧ k < 2 ^ 63 ∧ a.length * k.toNat ≤ sizeLine ∧ if f = true then Q (.lst (List.replicate k.toNat a).flatten) H else ∀ r, H r = none → Q (.ref r) (updD H r (.lst (List.replicate k.toNat a).flatten))
  | _, _, _, _ => False
def opMul {C : TC} (f : Bool) : Op2 C := ⟨rMulA C.K, dMul f, fun Z HD H d e x y QD Q s rx ry q k => by
  unfold dMul at q
  split at q
  · exact .inl ⟨_, _, rx, ry, q.1, k.here q.2 s rfl⟩
  · rename_i a j
    obtain ⟨q0, q1, q2, q3, q4⟩ := q
    obtain ⟨p, xs, rfl, h1, r1⟩ := rx
    have l1 := r1.length
    refine .inr (.inl ⟨p, j, xs, rfl, ry, s.seqT h1, fun e => ?_, q1, q2, by omega, fun e => ?_, fun _ => new_tup s k (r1.rep _) q4⟩)
    · subst e
      exact q0 (List.eq_nil_of_length_eq_zero l1.symm)
    · subst e
      have e2 : (List.replicate (1 : Int).toNat a).flatten = a := by simp
      rw [e2] at q4
      exact k.here q4 s ⟨p, xs, rfl, h1, r1⟩
  · obtain ⟨q1, q2, q3, q4⟩ := q
    obtain ⟨p, xs, rfl, o1, r1⟩ := rx
    have l1 := r1.length
    exact .inr (.inr ⟨_, _, xs, rfl, ry, s.fz _ _ o1, q1, q2, by rw [l1]; exact q3, new_list s k (r1.rep _) q4⟩)
  · obtain ⟨a, e1, q1, q2, q3, q4⟩ := q
    obtain ⟨_, xs, o1, r1⟩ := s.hd _ _ e1
    have l1 := r1.length
    exact .inr (.inr ⟨_, _, xs, rx, ry, o1, q1, q2, by rw [l1]; exact q3, new_list s k (r1.rep _) q4⟩)
  · exact q.elim⟩
end G
set_option Elab.async false
set_option linter.all false
set_option maxRecDepth 100000
/-! Tests, arguments, displays, subscripts, slices. -/
namespace G
open PySem PySem.Spec PyProof.Rows L2
section
variable {C : TC}
/-! ### a op b op' c -/
def wChain (o o' : D → D → DH → DQ → Prop) (a b c : DTE) : DTE := fun σ H Q E => a σ H (fun x H1 => b σ H1 (fun y H2 => o x y H2 fun z H3 => match z with
  | .bl k => if k = true then c σ H3 (fun u H4 => o' y u H4 Q) E else Q (.bl false) H3
  | _ => False) E) E
def bChain (o o' : Op2 C) (a b c : TW C) : TW C := ⟨fun W => tChain o.r o'.r (a.t W) (b.t W) (c.t W), wChain o.w o'.w a.w b.w c.w, fun W Z HD H σD σ QD ED Q s sl h k kx =>
  two (R := fun x y H2 => o.r x y H2 fun z H3 => ∃ k, z = .bl k ∧ (if k = true then c.t W σ H3 fun w' H4 => o'.r y w' H4 Q else Q (.bl false) H3)) s sl h kx fun Z1 HD1 H1 d e x y st rx ry q =>
    o.ok Z1 HD1 H1 d e x y _ _ st.sim rx ry q fun Z2 HD2 H2 f z st2 rz q2 => by
      have st3 := st.trans st2
      cases f with
      | bl b =>
        refine ⟨b, rz, ?_⟩
        cases b with
        | true => exact c.ok W Z2 HD2 H2 σD σ _ ED _ st2.sim (sl.mono st3.ext) q2 (fun Z4 HD4 H4 g u st4 ru q4 => o'.ok Z4 HD4 H4 e g y u _ _ st4.sim (Rep.mono (st2.trans st4).ext _ _ ry) ru q4 (k.mono (st3.trans st4))) (kx.mono st3)
        | false => exact k.at (show QD (.bl false) HD2 from q2) st3 rfl
      | _ => exact q2.elim⟩
/-! ### tests -/
def wTest (a : DTE) : DTT := fun σ H Q E => a σ H (fun x H1 => match x with
  | .bl k => Q k H1
  | _ => False) E
def bTest (a : TW C) : BW C := ⟨fun W => tTest (a.t W), wTest a.w, fun W Z HD H σD σ QD ED Q s sl h k kx => a.ok W Z HD H σD σ _ ED _ s sl h (fun Z1 HD1 H1 d x st rx q => by
  cases d with
  | bl b => exact ⟨b, rx, k _ _ _ b st q⟩
  | _ => exact q.elim) kx⟩
/-- a value's truth -/
def dTru : D → DH → (Bool → DH → Prop) → Prop
  | .non, H, Q => Q false H
  | .bl b, H, Q => Q b H
  | .int i, H, Q => Q (i != 0) H
  | .str y, H, Q => y.length ≤ sizeLine ∧ Q ((y.length : Int) != 0) H
  | .tup ds, H, Q => Q (!ds.isEmpty) H
  | .lst ds, H, Q => Q (!ds.isEmpty) H
  | .frz ds, H, Q => Q (!ds.isEmpty) H
  | .ref p, H, Q => ∃ o, H p = some o ∧ match o with
    | .lst ds => Q (!ds.isEmpty) H
    | .dic kvs => Q (!kvs.isEmpty) H
    | .ins _ _ => False
theorem Reps.emp {K : PySem.W.Frag} {Z : Hp} : ∀ {ds : List D} {xs : List V}, Reps K Z ds xs → xs.isEmpty = ds.isEmpty
  | [], _, h => by rw [show _ = [] from h]; rfl
  | d :: ds, xs, h => by
    obtain ⟨v, r, e, _, _⟩ := h
    rw [e]; rfl
theorem RepK.emp {K : PySem.W.Frag} {Z : Hp} : ∀ {ds : List (Key × D)} {xs : List (Key × V)}, RepK K Z ds xs → xs.isEmpty = ds.isEmpty
  | [], _, h => by rw [show _ = [] from h]; rfl
  | (f, d) :: ds, xs, h => by
    obtain ⟨v, r, e, _, _⟩ := h
    rw [e]; rfl
theorem tru_of {Z : Hp} {HD : DH} {H : Hp} {d : D} {x : V} {QD : Bool → DH → Prop} (s : Sim C Z HD H) (rx : Rep C.K Z d x) (q : dTru d HD QD) : ∃ b, TruV C.K x H b ∧ QD b HD := by
  cases d with
  | non => rw [show x = V.non from rx]; exact ⟨false, rfl, q⟩
  | bl b => rw [show x = V.bl b from rx]; exact ⟨b, rfl, q⟩
  | int i => rw [show x = V.int i from rx]; exact ⟨_, rfl, q⟩
  | str y => rw [show x = V.str y from rx]; exact ⟨_, ⟨q.1, rfl⟩, q.2⟩
  | tup ds =>
    obtain ⟨a, xs, rfl, h1, r1⟩ := rx
    exact ⟨_, .inr (.inl ⟨xs, s.seqT h1, by rw [r1.emp]⟩), q⟩
  | lst ds =>
    obtain ⟨a, xs, rfl, h1, r1⟩ := rx
    exact ⟨_, .inl ⟨xs, .of (s.fz _ _ h1), by rw [r1.emp]⟩, q⟩
  | frz ds =>
    obtain ⟨a, xs, rfl, h1, r1⟩ := rx
    exact ⟨_, .inl ⟨xs, s.seqL h1, by rw [r1.emp]⟩, q⟩
  | ref p =>
    rw [show x = V.ref p from rx]
    obtain ⟨o, e, q⟩ := q
    obtain ⟨_, r⟩ := s.hd _ _ e
    cases o with
    | lst ds =>
      obtain ⟨xs, ex, r1⟩ := r
      exact ⟨_, .inl ⟨xs, .of ex, by rw [r1.emp]⟩, q⟩
    | dic kvs =>
      obtain ⟨xs, ex, r1⟩ := r
      exact ⟨_, .inr (.inr ⟨xs, ex, by rw [r1.emp]⟩), q⟩
    | ins _ _ => exact q.elim
def wTru (a : DTE) : DTT := fun σ H Q E => a σ H (fun x H1 => dTru x H1 Q) E
def bTru (a : TW C) : BW C := ⟨fun W => fun σ H Q => a.t W σ H fun x H' => ∃ k, TruV C.K x H' k ∧ Q k H', wTru a.w, fun W Z HD H σD σ QD ED Q s sl h k kx => a.ok W Z HD H σD σ _ ED _ s sl h (fun Z1 HD1 H1 d x st rx q => by
  obtain ⟨b, h1, h2⟩ := tru_of st.sim rx q
  exact ⟨b, h1, k _ _ _ b st h2⟩) kx⟩
def wAnd (a b : DTT) : DTT := fun σ H Q E => a σ H (fun c H1 => if c = true then b σ H1 Q E else Q false H1) E
def wOr (a b : DTT) : DTT := fun σ H Q E => a σ H (fun c H1 => if c = true then Q true H1 else b σ H1 Q E) E
def wNot (a : DTT) : DTT := fun σ H Q E => a σ H (fun c H1 => Q (!c) H1) E
def bAnd (a b : BW C) : BW C := ⟨fun W => tAnd (a.t W) (b.t W), wAnd a.w b.w, fun W Z HD H σD σ QD ED Q s sl h k kx => a.ok W Z HD H σD σ _ ED _ s sl h (fun Z1 HD1 H1 c st q => by
  cases c with
  | true => exact b.ok W Z1 HD1 H1 σD σ _ ED _ st.sim (sl.mono st.ext) q (k.mono st) (kx.mono st)
  | false => exact k _ _ _ false st q) kx⟩
def bOr (a b : BW C) : BW C := ⟨fun W => tOr (a.t W) (b.t W), wOr a.w b.w, fun W Z HD H σD σ QD ED Q s sl h k kx => a.ok W Z HD H σD σ _ ED _ s sl h (fun Z1 HD1 H1 c st q => by
  cases c with
  | false => exact b.ok W Z1 HD1 H1 σD σ _ ED _ st.sim (sl.mono st.ext) q (k.mono st) (kx.mono st)
  | true => exact k _ _ _ true st q) kx⟩
def bNot (a : BW C) : BW C := ⟨fun W => tNot (a.t W), wNot a.w, fun W Z HD H σD σ QD ED Q s sl h k kx => a.ok W Z HD H σD σ _ ED _ s sl h (fun Z1 HD1 H1 c st q => k _ _ _ (!c) st q) kx⟩
/-! as values: all but the last True or False -/
def wAndV (a b : DTE) : DTE := fun σ H Q E => a σ H (fun x H1 => match x with
  | .bl c => if c = true then b σ H1 Q E else Q (.bl false) H1
  | _ => False) E
def wOrV (a b : DTE) : DTE := fun σ H Q E => a σ H (fun x H1 => match x with
  | .bl c => if c = true then Q (.bl true) H1 else b σ H1 Q E
  | _ => False) E
def wNotV (a : DTE) : DTE := fun σ H Q E => a σ H (fun x H1 => match x with
  | .bl c => Q (.bl (!c)) H1
  | _ => False) E
def bAndV (a b : TW C) : TW C := ⟨fun W => tAndV (a.t W) (b.t W), wAndV a.w b.w, fun W Z HD H σD σ QD ED Q s sl h k kx => a.ok W Z HD H σD σ _ ED _ s sl h (fun Z1 HD1 H1 d x st rx q => by
  cases d with
  | bl c =>
    refine ⟨c, rx, ?_⟩
    cases c with
    | true => exact b.ok W Z1 HD1 H1 σD σ _ ED _ st.sim (sl.mono st.ext) q (k.mono st) (kx.mono st)
    | false => exact k.at (show QD (.bl false) HD1 from q) st rfl
  | _ => exact q.elim) kx⟩
def bOrV (a b : TW C) : TW C := ⟨fun W => tOrV (a.t W) (b.t W), wOrV a.w b.w, fun W Z HD H σD σ QD ED Q s sl h k kx => a.ok W Z HD H σD σ _ ED _ s sl h (fun Z1 HD1 H1 d x st rx q => by
  cases d with
  | bl c =>
    refine ⟨c, rx, ?_⟩
    cases c with
    | false => exact b.ok W Z1 HD1 H1 σD σ _ ED _ st.sim (sl.mono st.ext) q (k.mono st) (kx.mono st)
    | true => exact k.at (show QD (.bl true) HD1 from q) st rfl
  | _ => exact q.elim) kx⟩
def bNotV (a : TW C) : TW C := ⟨fun W => tNotV (a.t W), wNotV a.w, fun W Z HD H σD σ QD ED Q s sl h k kx => a.ok W Z HD H σD σ _ ED _ s sl h (fun Z1 HD1 H1 d x st rx q => by
  cases d with
  | bl c => exact ⟨c, rx, k.at (show QD (.bl (!c)) HD1 from q) st rfl⟩
  | _ => exact q.elim) kx⟩
def wIf (c : DTT) (a b : DTE) : DTE := fun σ H Q E => c σ H (fun k H1 => if k = true then a σ H1 Q E else b σ H1 Q E) E
def bIf (c : BW C) (a b : TW C) : TW C := ⟨fun W => tIf (c.t W) (a.t W) (b.t W), wIf c.w a.w b.w, fun W Z HD H σD σ QD ED Q s sl h k kx => c.ok W Z HD H σD σ _ ED _ s sl h (fun Z1 HD1 H1 z st q => by
  cases z with
  | true => exact a.ok W Z1 HD1 H1 σD σ _ ED _ st.sim (sl.mono st.ext) q (k.mono st) (kx.mono st)
  | false => exact b.ok W Z1 HD1 H1 σD σ _ ED _ st.sim (sl.mono st.ext) q (k.mono st) (kx.mono st)) kx⟩
/-! ### arguments, displays -/
def wNil : DTA := fun _ H Q _ => Q [] H
def wCons (a : DTE) (r : DTA) : DTA := fun σ H Q E => a σ H (fun x H1 => r σ H1 (fun xs H2 => Q (x :: xs) H2) E) E
def aNil : AW C := ⟨fun _ => tNil, wNil, fun W Z HD H σD σ QD ED Q s sl h k kx => k _ _ _ [] [] (Step.rfl s) rfl h⟩
def aCons (a : TW C) (r : AW C) : AW C := ⟨fun W => tCons (a.t W) (r.t W), wCons a.w r.w, fun W Z HD H σD σ QD ED Q s sl h k kx => a.ok W Z HD H σD σ _ ED _ s sl h (fun Z1 HD1 H1 d x st rx q =>
  r.ok W Z1 HD1 H1 σD σ _ ED _ st.sim (sl.mono st.ext) q (fun Z2 HD2 H2 ds xs st2 rs q2 => k _ _ _ (d :: ds) (x :: xs) (st.trans st2) (Reps.cons (Rep.mono st2.ext _ _ rx) rs) q2) (kx.mono st)) kx⟩
def wTup (a : DTA) : DTE := fun σ H Q E => a σ H (fun ds H1 => ds.length ≤ sizeLine ∧ Q (.tup ds) H1) E
def bTup (a : AW C) : TW C := ⟨fun W => tTup (a.t W), wTup a.w, fun W Z HD H σD σ QD ED Q s sl h k kx => a.ok W Z HD H σD σ _ ED _ s sl h (fun Z1 HD1 H1 ds xs st rs q =>
  ⟨by rw [rs.length]; exact q.1, new_tup st.sim (k.mono st) rs q.2⟩) kx⟩
/-- f: is the new list never to change? -/
def newL (f : Bool) (ds : List D) (H : DH) (Q : DQ) : Prop := if f = true then Q (.lst ds) H else ∀ p, H p = none → Q (.ref p) (updD H p (.lst ds))
def wLst (f : Bool) (a : DTA) : DTE := fun σ H Q E => a σ H (fun ds H1 => ds.length ≤ sizeLine ∧ newL f ds H1 Q) E
def bLst (f : Bool) (a : AW C) : TW C := ⟨fun W => tLst (a.t W), wLst f a.w, fun W Z HD H σD σ QD ED Q s sl h k kx => a.ok W Z HD H σD σ _ ED _ s sl h (fun Z1 HD1 H1 ds xs st rs q =>
  ⟨by rw [rs.length]; exact q.1, new_list st.sim (k.mono st) rs q.2⟩) kx⟩
/-! ### a[i] -/
def rIxA (K : PySem.W.Frag) : R2 := fun x y H Q => rIx K x y H Q ∨ ∃ a v, x = .ref a ∧ DGet H a y (some v) ∧ Q v H
theorem ix_any {X : Cx} (hu : X.A.units + 1 < cLine) : IxR X (rIxA X.K) := ix_seq.or (by
  intro value slice pins s σ H x y v u Q I rx ry h hs
  obtain ⟨a, z, rfl, g, q⟩ := h
  cases rx
  exact tail_any (dict_typeIs I g) PySem.F.slot_dict_getitem.lookup (d_getItem hu I g ry fun w' s3 I3 rw' => ⟨z, H, I3, rw', q⟩) hs)
def keyD : D → Option Key
  | .int i => some (.inl i)
  | .str x => some (.inr x)
  | _ => none
def valD (kvs : List (Key × D)) (k : Key) : Option D := (kvs.find? fun kv => decide (kv.1 = k)).map (·.2)
theorem RepK.val {K : PySem.W.Frag} {Z : Hp} {k : Key} : ∀ {ds : List (Key × D)} {xs : List (Key × V)}, RepK K Z ds xs → match valD ds k with
    | some d => ∃ v, valV xs k = some v ∧ Rep K Z d v
    | none => valV xs k = none
  | [], _, h => by rw [show _ = [] from h]; rfl
  | (f, d) :: ds, xs, h => by
    obtain ⟨v, r, e, h1, h2⟩ := h
    rw [e]
    by_cases q : f = k
    · have e1 : valD ((f, d) :: ds) k = some d := by simp [valD, List.find?_cons, q]
      rw [e1]
      exact ⟨v, valV_pos q, h1⟩
    · have e1 : valD ((f, d) :: ds) k = valD ds k := by simp [valD, List.find?_cons, q]
      rw [e1, valV_neg q]
      exact RepK.val h2
/-- an item, its place counted from the front or from behind -/
def dIx : D → D → DH → DQ → Prop
  | .tup ds, .int i, H, Q => match atI ds i with
    | some d => Q d H
    | none => False
  | .lst ds, .int i, H, Q => match atI ds i with
    | some d => Q d H
    | none => False
  | .frz ds, .int i, H, Q => match atI ds i with
    | some d => Q d H
    | none => False
  | .str z, .int i, H, Q => z.length ≤ sizeLine ∧ match atI z.cps.toList i with
    | some c => Q (.str ⟨#[c]⟩) H
    | none => False
  | .ref p, y, H, Q => ∃ o, H p = some o ∧ match o with
    | .lst ds => (match y with
      | .int i => (match atI ds i with
        | some d => Q d H
        | none => False)
      | _ => False)
    | .dic kvs => (match keyD y with
      | some k => (match valD kvs k with
        | some d => Q d H
        | none => False)
      | none => False)
    | .ins _ _ => False
  | _, _, _, _ => False
theorem Reps.atI {K : PySem.W.Frag} {Z : Hp} {ds : List D} {xs : List V} {i : Int} {d : D} (r : Reps K Z ds xs) (h : L2.atI ds i = some d) : ∃ v, L2.atI xs i = some v ∧ Rep K Z d v := by
  unfold L2.atI at h ⊢
  rw [r.length]
  cases e : ixN ds.length i with
  | none => rw [e] at h; cases h
  | some j =>
    rw [e] at h
    exact r.get h
theorem keyD_rep {K : PySem.W.Frag} {Z : Hp} {d : D} {v : V} {k : Key} (r : Rep K Z d v) (h : keyD d = some k) : v = kV k := by
  cases d <;> first
    | (cases h; exact r)
    | cases h
def opIx : Op2 C := ⟨rIxA C.K, dIx, fun Z HD H d e x y QD Q s rx ry q k => by
  unfold dIx at q
  split at q
  · obtain ⟨p, xs, rfl, h1, r1⟩ := rx
    split at q
    · rename_i z hz
      obtain ⟨v, hv, rv⟩ := r1.atI hz
      exact .inl (.inr (.inl ⟨p, xs, _, v, rfl, ry, s.seqT h1, hv, k.here q s rv⟩))
    · exact q.elim
  · obtain ⟨p, xs, rfl, h1, r1⟩ := rx
    split at q
    · rename_i z hz
      obtain ⟨v, hv, rv⟩ := r1.atI hz
      exact .inl (.inl ⟨p, xs, _, v, rfl, ry, .of (s.fz _ _ h1), hv, k.here q s rv⟩)
    · exact q.elim
  · obtain ⟨p, xs, rfl, h1, r1⟩ := rx
    split at q
    · rename_i z hz
      obtain ⟨v, hv, rv⟩ := r1.atI hz
      exact .inl (.inl ⟨p, xs, _, v, rfl, ry, s.seqL h1, hv, k.here q s rv⟩)
    · exact q.elim
  · obtain ⟨q1, q⟩ := q
    split at q
    · rename_i z hz
      exact .inl (.inr (.inr ⟨_, _, z, rx, ry, q1, hz, k.here q s rfl⟩))
    · exact q.elim
  · obtain ⟨o, eo, q⟩ := q
    obtain ⟨_, ro⟩ := s.hd _ _ eo
    split at q
    · obtain ⟨xs, ex, r1⟩ := ro
      split at q
      · split at q
        · rename_i z hz
          obtain ⟨v, hv, rv⟩ := r1.atI hz
          exact .inl (.inl ⟨_, xs, _, v, rx, ry, .of ex, hv, k.here q s rv⟩)
        · exact q.elim
      · exact q.elim
    · obtain ⟨xs, ex, r1⟩ := ro
      split at q
      · rename_i kk hk
        split at q
        · rename_i z hz
          have w := RepK.val (k := kk) r1
          rw [hz] at w
          obtain ⟨v, hv, rv⟩ := w
          have ey := keyD_rep ry hk
          subst ey
          exact .inr ⟨_, v, rx, by rw [← hv]; exact DGet.k ex, k.here q s rv⟩
        · exact q.elim
      · exact q.elim
    · exact q.elim
  · exact q.elim⟩
/-! ### a[lo:hi] -/
abbrev DTO := DS → DH → (Option Int → DH → Prop) → DX1 → Prop
def SO (C : TC) (W : WX) (t : TO) (w : DTO) : Prop := ∀ (Z : Hp) (HD : DH) (H : Hp) (σD : DS) (σ : St) (QD : Option Int → DH → Prop) (ED : DX1) (Q : Option Int → Hp → Prop),
  Sim C Z HD H → SlR C.K Z σD σ → w σD HD QD ED → (∀ Z' HD' H' i, Step C Z HD H Z' HD' H' → QD i HD' → Q i H') → KX C Z HD H ED (fun c d H' => W c d σ H') → t σ H Q
structure OW (C : TC) where
  t : WX → TO
  w : DTO
  ok : ∀ W, SO C W (t W) w
def oNone : OW C := ⟨fun _ => tNoPart, fun _ H Q _ => Q none H, fun W Z HD H σD σ QD ED Q s sl h k kx => k _ _ _ none (Step.rfl s) h⟩
def oSome (a : TW C) : OW C := ⟨fun W => tPart (a.t W), fun σ H Q E => a.w σ H (fun x H1 => match x with
  | .int i => Q (some i) H1
  | _ => False) E, fun W Z HD H σD σ QD ED Q s sl h k kx => a.ok W Z HD H σD σ _ ED _ s sl h (fun Z1 HD1 H1 d x st rx q => by
    cases d with
    | int i => exact ⟨i, rx, k _ _ _ (some i) st q⟩
    | _ => exact q.elim) kx⟩
/-- the items of a slice -/
def cutL {α : Type} (xs : List α) (lo hi : Option Int) : List α := (xs.drop (HT.sIx xs.length 0 lo)).take (HT.sIx xs.length xs.length hi - HT.sIx xs.length 0 lo)
theorem Reps.cut {K : PySem.W.Frag} {Z : Hp} {ds : List D} {xs : List V} (r : Reps K Z ds xs) (lo hi : Option Int) : Reps K Z (cutL ds lo hi) (cutV xs lo hi) := by
  unfold cutL cutV
  rw [r.length]
  exact (r.drop _).take _
def rSlAny (K : PySem.W.Frag) : V → Option Int → Option Int → Hp → VK → Prop := fun x lo hi H Q => rSlA K x lo hi H Q ∨ rSlL K x lo hi H Q ∨ ∃ z, x = .str z ∧ z.length ≤ sizeLine ∧ Q (.str (cutS z lo hi)) H
def dSl (f : Bool) : D → Option Int → Option Int → DH → DQ → Prop
  | .tup ds, lo, hi, H, Q => Q (.tup (cutL ds lo hi)) H
  | .lst ds, lo, hi, H, Q => newL f (cutL ds lo hi) H Q
  | .frz ds, lo, hi, H, Q => newL f (cutL ds lo hi) H Q
  | .str z, lo, hi, H, Q => z.length ≤ sizeLine ∧ Q (.str (cutS z lo hi)) H
  | .ref p, lo, hi, H, Q => ∃ o, H p = some o ∧ match o with
    | .lst ds => newL f (cutL ds lo hi) H Q
    | _ => False
  | _, _, _, _, _ => False
end
end G
set_option Elab.async false
set_option linter.all false
set_option maxRecDepth 100000
/-! Slices, built-in functions and methods over data. -/
namespace G
open PySem PySem.Spec PyProof.Rows L2
section
variable {C : TC}
theorem cutL_all {α : Type} {xs : List α} {lo hi : Option Int} (h : HT.sIx xs.length 0 lo = 0 ∧ HT.sIx xs.length xs.length hi = xs.length) : cutL xs lo hi = xs := by
  unfold cutL
  rw [h.1, h.2]
  simp
theorem sl_ok {f : Bool} {Z : Hp} {HD : DH} {H : Hp} {d : D} {x : V} {lo hi : Option Int} {QD : DQ} {Q : VK} (s : Sim C Z HD H) (rx : Rep C.K Z d x) (q : dSl f d lo hi HD QD) (k : KQ C Z HD H QD Q) : rSlAny C.K x lo hi H Q := by
  unfold dSl at q
  split at q
  · obtain ⟨p, xs, rfl, h1, r1⟩ := rx
    refine .inl ⟨p, xs, rfl, s.seqT h1, fun e => ?_, fun _ => new_tup s k (r1.cut lo hi) q⟩
    rw [r1.length] at e
    rw [cutL_all e] at q
    exact k.here q s ⟨p, xs, rfl, h1, r1⟩
  · obtain ⟨p, xs, rfl, h1, r1⟩ := rx
    exact .inr (.inl ⟨p, xs, rfl, .of (s.fz _ _ h1), new_list s k (r1.cut lo hi) q⟩)
  · obtain ⟨p, xs, rfl, h1, r1⟩ := rx
    exact .inr (.inl ⟨p, xs, rfl, s.seqL h1, new_list s k (r1.cut lo hi) q⟩)
  · exact .inr (.inr ⟨_, rx, q.1, k.here q.2 s rfl⟩)
  · obtain ⟨o, eo, q⟩ := q
    obtain ⟨_, ro⟩ := s.hd _ _ eo
    split at q
    · obtain ⟨xs, ex, r1⟩ := ro
      exact .inr (.inl ⟨_, xs, rx, .of ex, new_list s k (r1.cut lo hi) q⟩)
    · exact q.elim
  · exact q.elim
def wSl (f : Bool) (a : DTE) (lo hi : DTO) : DTE := fun σ H Q E => a σ H (fun x H1 => lo σ H1 (fun i H2 => hi σ H2 (fun j H3 => dSl f x i j H3 Q) E) E) E
def bSl (f : Bool) (a : TW C) (lo hi : OW C) : TW C := ⟨fun W => tSl (rSlAny C.K) (a.t W) (lo.t W) (hi.t W), wSl f a.w lo.w hi.w, fun W Z HD H σD σ QD ED Q s sl h k kx => a.ok W Z HD H σD σ _ ED _ s sl h (fun Z1 HD1 H1 d x st rx q =>
  lo.ok W Z1 HD1 H1 σD σ _ ED _ st.sim (sl.mono st.ext) q (fun Z2 HD2 H2 i st2 q2 => hi.ok W Z2 HD2 H2 σD σ _ ED _ st2.sim (sl.mono (st.trans st2).ext) q2 (fun Z3 HD3 H3 j st3 q3 =>
    sl_ok st3.sim (Rep.mono (st2.trans st3).ext _ _ rx) q3 (k.mono ((st.trans st2).trans st3))) (kx.mono (st.trans st2))) (kx.mono st)) kx⟩
theorem sl_anyR {X : Cx} : L2.SlR X (rSlAny X.K) := sl_tupA.or (sl_list.or (by
  intro pins s σ H x v vl vu lo hi sl Q I rx hs pl pu h
  exact sl_str pins s σ H x v vl vu lo hi sl Q I rx hs pl pu h))
/-! ### built-in functions -/
structure Fn (C : TC) where
  r : List V → Hp → VK → Prop
  w : List D → DH → DQ → Prop
  ok : ∀ Z HD H ds xs QD Q, Sim C Z HD H → Reps C.K Z ds xs → w ds HD QD → KQ C Z HD H QD Q → r xs H Q
def wB (f : List D → DH → DQ → Prop) (a : DTA) : DTE := fun σ H Q E => a σ H (fun ds H1 => f ds H1 Q) E
def bB (f : Fn C) (a : AW C) : TW C := ⟨fun W => tCB f.r (a.t W), wB f.w a.w, fun W Z HD H σD σ QD ED Q s sl h k kx => a.ok W Z HD H σD σ _ ED _ s sl h (fun Z1 HD1 H1 ds xs st rs q =>
  f.ok Z1 HD1 H1 ds xs _ _ st.sim rs q (k.mono st)) kx⟩
theorem one_of {Z : Hp} {d : D} {xs : List V} (r : Reps C.K Z [d] xs) : ∃ v, xs = [v] ∧ Rep C.K Z d v := by
  obtain ⟨v, r', e, h1, h2⟩ := r
  rw [show r' = [] from h2] at e
  exact ⟨v, e, h1⟩
theorem two_of {Z : Hp} {d e : D} {xs : List V} (r : Reps C.K Z [d, e] xs) : ∃ v u, xs = [v, u] ∧ Rep C.K Z d v ∧ Rep C.K Z e u := by
  obtain ⟨v, r', e1, h1, h2⟩ := r
  obtain ⟨u, e2, h3⟩ := one_of h2
  rw [e2] at e1
  exact ⟨v, u, e1, h1, h3⟩
def dLen : List D → DH → DQ → Prop
  | [.str y], H, Q => y.length ≤ sizeLine ∧ Q (.int y.length) H
  | [.tup ds], H, Q => Q (.int ds.length) H
  | [.lst ds], H, Q => Q (.int ds.length) H
  | [.frz ds], H, Q => Q (.int ds.length) H
  | [.ref p], H, Q => ∃ o, H p = some o ∧ match o with
    | .lst ds => Q (.int ds.length) H
    | .dic kvs => Q (.int kvs.length) H
    | .ins _ _ => False
  | _, _, _ => False
theorem RepK.length {K : PySem.W.Frag} {Z : Hp} : ∀ {fs : List (Key × D)} {vs : List (Key × V)}, RepK K Z fs vs → vs.length = fs.length
  | [], _, h => by rw [show _ = [] from h]; rfl
  | (g, d) :: fs, vs, h => by
    obtain ⟨v, r, e1, h1, h2⟩ := h
    rw [e1, List.length_cons, List.length_cons, RepK.length h2]
def rLenA (K : PySem.W.Frag) : List V → Hp → VK → Prop := fun xs H Q => (∃ x n, xs = [x] ∧ LenV K x H n ∧ Q (.int n) H) ∨ ∃ a kvs, xs = [V.ref a] ∧ H a = some (.dK kvs) ∧ Q (.int kvs.length) H
theorem cr_len {X : Cx} : CallR X (.builtin "len") (rLenA X.K) := call_len.or call_lenD
def fLen : Fn C := ⟨rLenA C.K, dLen, fun Z HD H ds xs QD Q s rs q k => by
  unfold dLen at q
  split at q
  · obtain ⟨v, rfl, rv⟩ := one_of rs
    rw [show v = V.str _ from rv]
    exact .inl ⟨_, _, rfl, ⟨q.1, rfl⟩, k.here q.2 s rfl⟩
  · obtain ⟨v, rfl, a, xs, rfl, h1, r1⟩ := one_of rs
    rw [← r1.length] at q
    exact .inl ⟨_, _, rfl, .inr ⟨xs, s.seqT h1, rfl⟩, k.here q s rfl⟩
  · obtain ⟨v, rfl, a, xs, rfl, h1, r1⟩ := one_of rs
    rw [← r1.length] at q
    exact .inl ⟨_, _, rfl, .inl ⟨xs, .of (s.fz _ _ h1), rfl⟩, k.here q s rfl⟩
  · obtain ⟨v, rfl, a, xs, rfl, h1, r1⟩ := one_of rs
    rw [← r1.length] at q
    exact .inl ⟨_, _, rfl, .inl ⟨xs, s.seqL h1, rfl⟩, k.here q s rfl⟩
  · obtain ⟨v, rfl, rv⟩ := one_of rs
    rw [show v = V.ref _ from rv]
    obtain ⟨o, eo, q⟩ := q
    obtain ⟨_, ro⟩ := s.hd _ _ eo
    split at q
    · obtain ⟨xs, ex, r1⟩ := ro
      rw [← r1.length] at q
      exact .inl ⟨_, _, rfl, .inl ⟨xs, .of ex, rfl⟩, k.here q s rfl⟩
    · obtain ⟨xs, ex, r1⟩ := ro
      rw [← r1.length] at q
      exact .inr ⟨_, xs, rfl, ex, k.here q s rfl⟩
    · exact q.elim
  · exact q.elim⟩
def dAbs : List D → DH → DQ → Prop
  | [.int i], H, Q => Q (.int (if i < 0 then -i else i)) H
  | _, _, _ => False
def rAbs : List V → Hp → VK → Prop := fun xs H Q => ∃ i, xs = [.int i] ∧ Q (.int (if i < 0 then -i else i)) H
def fAbs : Fn C := ⟨rAbs, dAbs, fun Z HD H ds xs QD Q s rs q k => by
  unfold dAbs at q
  split at q
  · obtain ⟨v, rfl, rv⟩ := one_of rs
    rw [show v = V.int _ from rv]
    exact ⟨_, rfl, k.here q s rfl⟩
  · exact q.elim⟩
def dInt : List D → DH → DQ → Prop
  | [.int i], H, Q => Q (.int i) H
  | [.bl k], H, Q => Q (.int (if k then 1 else 0)) H
  | _, _, _ => False
def rInt1 : List V → Hp → VK → Prop := fun xs H Q => (∃ i, xs = [.int i] ∧ Q (.int i) H) ∨ ∃ k, xs = [.bl k] ∧ Q (.int (if k then 1 else 0)) H
def fInt : Fn C := ⟨rInt1, dInt, fun Z HD H ds xs QD Q s rs q k => by
  unfold dInt at q
  split at q
  · obtain ⟨v, rfl, rv⟩ := one_of rs
    rw [show v = V.int _ from rv]
    exact .inl ⟨_, rfl, k.here q s rfl⟩
  · obtain ⟨v, rfl, rv⟩ := one_of rs
    rw [show v = V.bl _ from rv]
    exact .inr ⟨_, rfl, k.here q s rfl⟩
  · exact q.elim⟩
/-- the ints of data that are ints -/
def intsOf : List D → Option (List Int)
  | [] => some []
  | .int i :: r => (intsOf r).map (i :: ·)
  | _ => none
theorem intsOf_map : ∀ ns : List Int, intsOf (ns.map D.int) = some ns
  | [] => rfl
  | n :: ns => by
    show (intsOf (ns.map D.int)).map (n :: ·) = _
    rw [intsOf_map ns]; rfl
theorem intsOf_eq : ∀ {ds : List D} {ns : List Int}, intsOf ds = some ns → ds = ns.map D.int
  | [], ns, h => by cases h; rfl
  | .int i :: r, ns, h => by
    obtain ⟨ms, h1, h2⟩ := Option.map_eq_some_iff.mp (show (intsOf r).map (i :: ·) = some ns from h)
    rw [← h2, List.map_cons, intsOf_eq h1]
  | .non :: _, _, h => nomatch h
  | .bl _ :: _, _, h => nomatch h
  | .str _ :: _, _, h => nomatch h
  | .tup _ :: _, _, h => nomatch h
  | .lst _ :: _, _, h => nomatch h
  | .frz _ :: _, _, h => nomatch h
  | .ref _ :: _, _, h => nomatch h
def blsOf : List D → Option (List Bool)
  | [] => some []
  | .bl i :: r => (blsOf r).map (i :: ·)
  | _ => none
theorem blsOf_map : ∀ ns : List Bool, blsOf (ns.map D.bl) = some ns
  | [] => rfl
  | n :: ns => by
    show (blsOf (ns.map D.bl)).map (n :: ·) = _
    rw [blsOf_map ns]; rfl
theorem blsOf_eq : ∀ {ds : List D} {ns : List Bool}, blsOf ds = some ns → ds = ns.map D.bl
  | [], ns, h => by cases h; rfl
  | .bl i :: r, ns, h => by
    obtain ⟨ms, h1, h2⟩ := Option.map_eq_some_iff.mp (show (blsOf r).map (i :: ·) = some ns from h)
    rw [← h2, List.map_cons, blsOf_eq h1]
  | .non :: _, _, h => nomatch h
  | .int _ :: _, _, h => nomatch h
  | .str _ :: _, _, h => nomatch h
  | .tup _ :: _, _, h => nomatch h
  | .lst _ :: _, _, h => nomatch h
  | .frz _ :: _, _, h => nomatch h
  | .ref _ :: _, _, h => nomatch h
/-- a list's items -/
def lstD (H : DH) : D → Option (List D)
  | .lst ds => some ds
  | .frz ds => some ds
  | .ref p => match H p with
    | some (.lst ds) => some ds
    | _ => none
  | _ => none
theorem lstD_ok {Z : Hp} {HD : DH} {H : Hp} {d : D} {v : V} {ds : List D} (s : Sim C Z HD H) (r : Rep C.K Z d v) (h : lstD HD d = some ds) : ∃ a xs, v = .ref a ∧ SqL C.K H a xs ∧ Reps C.K Z ds xs := by
  unfold lstD at h
  split at h
  · cases h
    obtain ⟨a, xs, rfl, h1, r1⟩ := r
    exact ⟨a, xs, rfl, .of (s.fz _ _ h1), r1⟩
  · cases h
    obtain ⟨a, xs, rfl, h1, r1⟩ := r
    exact ⟨a, xs, rfl, s.seqL h1, r1⟩
  · split at h
    · rename_i e
      cases h
      obtain ⟨_, xs, ex, r1⟩ := s.hd _ _ e
      exact ⟨_, xs, r, .of ex, r1⟩
    · cases h
  · cases h
/-- the items of a list or a tuple -/
def seqD (H : DH) : D → Option (List D)
  | .tup ds => some ds
  | d => lstD H d
theorem seqD_ok {Z : Hp} {HD : DH} {H : Hp} {d : D} {v : V} {ds : List D} (s : Sim C Z HD H) (r : Rep C.K Z d v) (h : seqD HD d = some ds) : ∃ a xs, v = .ref a ∧ (SqL C.K H a xs ∨ SqT C.K H a xs) ∧ Reps C.K Z ds xs := by
  unfold seqD at h
  split at h
  · cases h
    obtain ⟨a, xs, rfl, h1, r1⟩ := r
    exact ⟨a, xs, rfl, .inr (s.seqT h1), r1⟩
  · obtain ⟨a, xs, e, h1, r1⟩ := lstD_ok s r h
    exact ⟨a, xs, e, .inl h1, r1⟩
def optP {α : Type} (o : Option α) (p : α → Prop) : Prop := match o with
  | some a => p a
  | none => False
theorem optP_some {α : Type} {o : Option α} {p : α → Prop} (h : optP o p) : ∃ a, o = some a ∧ p a := by
  cases o with
  | none => exact h.elim
  | some a => exact ⟨a, rfl, h⟩
def dSum : List D → DH → DQ → Prop
  | [d], H, Q => optP (lstD H d) fun ds => optP (intsOf ds) fun ns => Q (.int ns.sum) H
  | _, _, _ => False
def fSum : Fn C := ⟨rSum C.K, dSum, fun Z HD H ds xs QD Q s rs q k => by
  unfold dSum at q
  split at q
  · obtain ⟨v, rfl, rv⟩ := one_of rs
    obtain ⟨ds, e1, q⟩ := optP_some q
    obtain ⟨ns, e2, q⟩ := optP_some q
    obtain ⟨a, xs, rfl, h1, r1⟩ := lstD_ok s rv e1
    rw [intsOf_eq e2] at r1
    rw [r1.ints] at h1
    exact ⟨a, ns, rfl, h1, k.here q s rfl⟩
  · exact q.elim⟩
def dAll : List D → DH → DQ → Prop
  | [d], H, Q => optP (lstD H d) fun ds => optP (blsOf ds) fun ns => Q (.bl (ns.all id)) H
  | _, _, _ => False
def fAll : Fn C := ⟨rAll C.K, dAll, fun Z HD H ds xs QD Q s rs q k => by
  unfold dAll at q
  split at q
  · obtain ⟨v, rfl, rv⟩ := one_of rs
    obtain ⟨ds, e1, q⟩ := optP_some q
    obtain ⟨ns, e2, q⟩ := optP_some q
    obtain ⟨a, xs, rfl, h1, r1⟩ := lstD_ok s rv e1
    rw [blsOf_eq e2] at r1
    rw [r1.bls] at h1
    exact ⟨a, ns, rfl, h1, k.here q s rfl⟩
  · exact q.elim⟩
def dAny : List D → DH → DQ → Prop
  | [d], H, Q => optP (lstD H d) fun ds => optP (blsOf ds) fun ns => Q (.bl (ns.any id)) H
  | _, _, _ => False
def fAny : Fn C := ⟨rAny C.K, dAny, fun Z HD H ds xs QD Q s rs q k => by
  unfold dAny at q
  split at q
  · obtain ⟨v, rfl, rv⟩ := one_of rs
    obtain ⟨ds, e1, q⟩ := optP_some q
    obtain ⟨ns, e2, q⟩ := optP_some q
    obtain ⟨a, xs, rfl, h1, r1⟩ := lstD_ok s rv e1
    rw [blsOf_eq e2] at r1
    rw [r1.bls] at h1
    exact ⟨a, ns, rfl, h1, k.here q s rfl⟩
  · exact q.elim⟩
def rListOf (K : PySem.W.Frag) : List V → Hp → VK → Prop := fun xs H Q => ∃ p ys, xs = [V.ref p] ∧ (SqL K H p ys ∨ SqT K H p ys) ∧ ∀ l, H l = none → Q (.ref l) (upd H l (.lst ys))
def dList (f : Bool) : List D → DH → DQ → Prop
  | [d], H, Q => optP (seqD H d) fun ds => newL f ds H Q
  | _, _, _ => False
def fList (f : Bool) : Fn C := ⟨rListOf C.K, dList f, fun Z HD H ds xs QD Q s rs q k => by
  unfold dList at q
  split at q
  · obtain ⟨v, rfl, rv⟩ := one_of rs
    obtain ⟨ds, e1, q⟩ := optP_some q
    obtain ⟨a, xs, rfl, h1, r1⟩ := seqD_ok s rv e1
    exact ⟨a, xs, rfl, h1, new_list s k r1 q⟩
  · exact q.elim⟩
def rTupOf (K : PySem.W.Frag) : List V → Hp → VK → Prop := fun xs H Q => ∃ p ys, xs = [V.ref p] ∧ ((SqL K H p ys ∧ ∀ l, H l = none → Q (.ref l) (upd H l (.tup ys))) ∨ (SqT K H p ys ∧ Q (.ref p) H))
def dTuple : List D → DH → DQ → Prop
  | [d], H, Q => optP (seqD H d) fun ds => Q (.tup ds) H
  | _, _, _ => False
def fTuple : Fn C := ⟨rTupOf C.K, dTuple, fun Z HD H ds xs QD Q s rs q k => by
  unfold dTuple at q
  split at q
  · obtain ⟨v, rfl, rv⟩ := one_of rs
    obtain ⟨ds, e1, q⟩ := optP_some q
    unfold seqD at e1
    split at e1
    · cases e1
      obtain ⟨a, xs, rfl, h1, r1⟩ := rv
      exact ⟨a, xs, rfl, .inr ⟨s.seqT h1, k.here q s ⟨a, xs, rfl, h1, r1⟩⟩⟩
    · obtain ⟨a, xs, rfl, h1, r1⟩ := lstD_ok s rv e1
      exact ⟨a, xs, rfl, .inl ⟨h1, new_tup s k r1 q⟩⟩
  · exact q.elim⟩
def dMin : List D → DH → DQ → Prop
  | [.int i, .int j], H, Q => Q (.int (if j < i then j else i)) H
  | _, _, _ => False
def rMin2 : List V → Hp → VK → Prop := fun xs H Q => ∃ i j, xs = [.int i, .int j] ∧ Q (.int (if j < i then j else i)) H
def fMin : Fn C := ⟨rMin2, dMin, fun Z HD H ds xs QD Q s rs q k => by
  unfold dMin at q
  split at q
  · obtain ⟨v, u, rfl, rv, ru⟩ := two_of rs
    rw [show v = V.int _ from rv, show u = V.int _ from ru]
    exact ⟨_, _, rfl, k.here q s rfl⟩
  · exact q.elim⟩
def dMax : List D → DH → DQ → Prop
  | [.int i, .int j], H, Q => Q (.int (if j > i then j else i)) H
  | _, _, _ => False
def rMax2 : List V → Hp → VK → Prop := fun xs H Q => ∃ i j, xs = [.int i, .int j] ∧ Q (.int (if j > i then j else i)) H
def fMax : Fn C := ⟨rMax2, dMax, fun Z HD H ds xs QD Q s rs q k => by
  unfold dMax at q
  split at q
  · obtain ⟨v, u, rfl, rv, ru⟩ := two_of rs
    rw [show v = V.int _ from rv, show u = V.int _ from ru]
    exact ⟨_, _, rfl, k.here q s rfl⟩
  · exact q.elim⟩
/-! ### isinstance(x, T) -/
inductive Ty where
  | non | bl | int | str | tup | lst | dic
def Ty.nm : Ty → String
  | .non => "NoneType"
  | .bl => "bool"
  | .int => "int"
  | .str => "str"
  | .tup => "tuple"
  | .lst => "list"
  | .dic => "dict"
/-- does the one stand under the other? -/
def Ty.sub : Ty → Ty → Bool
  | .bl, .int => true
  | .non, .non => true
  | .bl, .bl => true
  | .int, .int => true
  | .str, .str => true
  | .tup, .tup => true
  | .lst, .lst => true
  | .dic, .dic => true
  | _, _ => false
theorem Ty.kit (a b : Ty) : kitB a.nm b.nm = some (a.sub b) := by
  cases a <;> cases b <;> decide +kernel
/-- what an own class must say, so that isinstance asks its instances rightly -/
structure InsTy (K : PySem.W.Frag) (A : Addr) : Prop where
  cl : Cls K A
  ha : PySem.W.findIn K (.ref A) "__class__" = some (some (.builtin "object.__class__"))
  hn : PySem.W.specialIn K (.builtin "object.__class__") "__get__" = some (some (.builtin "getset_descriptor.__get__"))
  htk : PySem.W.takesIn K (.builtin "object.__class__") = some true
  hm : PySem.W.mroIn K A (.type "object") = some true
/-- a datum's type: a built-in one or an own class -/
def tyD (H : DH) : D → Option (Sum Ty Str)
  | .non => some (.inl .non)
  | .bl _ => some (.inl .bl)
  | .int _ => some (.inl .int)
  | .str _ => some (.inl .str)
  | .tup _ => some (.inl .tup)
  | .lst _ => some (.inl .lst)
  | .frz _ => some (.inl .lst)
  | .ref p => match H p with
    | some (.lst _) => some (.inl .lst)
    | some (.dic _) => some (.inl .dic)
    | some (.ins cn _) => some (.inr cn)
    | none => none
def tyVal (K : PySem.W.Frag) : Sum Ty Str → Value
  | .inl t => .type t.nm
  | .inr cn => .ref (clsA K cn)
theorem tyD_ok {Z : Hp} {HD : DH} {H : Hp} {d : D} {v : V} {t : Sum Ty Str} (s : Sim C Z HD H) (r : Rep C.K Z d v) (h : tyD HD d = some t) (hi : ∀ cn, t = .inr cn → InsTy C.K (clsA C.K cn)) : TyX C.K H v (tyVal C.K t) := by
  unfold tyD at h
  split at h
  · cases h; rw [show v = V.non from r]; exact .base .non
  · cases h; rw [show v = V.bl _ from r]; exact .base (.bl _)
  · cases h; rw [show v = V.int _ from r]; exact .base (.int _)
  · cases h; rw [show v = V.str _ from r]; exact .base (.str _)
  · cases h
    obtain ⟨a, xs, rfl, h1, _⟩ := r
    rcases s.seqT h1 with (h1 | ⟨o, h1⟩) | ⟨o, its, n, h1, h2, _⟩
    · exact .base (.tup h1)
    · exact .fTuple h1
    · exact .kTuple h1 h2
  · cases h
    obtain ⟨a, xs, rfl, h1, _⟩ := r
    exact .base (.lst (s.fz _ _ h1))
  · cases h
    obtain ⟨a, xs, rfl, h1, _⟩ := r
    rcases s.seqL h1 with (h1 | ⟨o, h1⟩) | ⟨o, its, n, h1, h2, _⟩
    · exact .base (.lst h1)
    · exact .base (.frz h1)
    · exact .kList h1 h2
  · rw [show v = V.ref _ from r]
    split at h
    · rename_i e
      cases h
      obtain ⟨_, xs, ex, _⟩ := s.hd _ _ e
      exact .base (.lst ex)
    · rename_i e
      cases h
      obtain ⟨_, xs, ex, _⟩ := s.hd _ _ e
      exact .base (.dK ex)
    · rename_i e
      cases h
      obtain ⟨_, dx, vs, ex, _⟩ := s.hd _ _ e
      have q := hi _ rfl
      exact .base (.ins ex q.cl q.ha q.hn q.htk q.hm)
    · cases h
/-- a class that is asked for: its value, its answers -/
structure Isi (C : TC) where
  u : V
  uv : Value
  cv : ClsV u uv
  tab : Sum Ty Str → Option Bool
  ok : ∀ t b, tab t = some b → PySem.W.kitOne C.K (tyVal C.K t) uv = some b ∧ ∀ cn, t = .inr cn → InsTy C.K (clsA C.K cn)
def wIsi (tab : Sum Ty Str → Option Bool) (a : DTE) : DTE := fun σ H Q E => a σ H (fun d H1 => optP (tyD H1 d) fun t => optP (tab t) fun b => Q (.bl b) H1) E
def bIsi (i : Isi C) (a : TW C) : TW C := ⟨fun W => tCB (rIsi C.K) (tCons (a.t W) (tCons (tC i.u) tNil)), wIsi i.tab a.w, fun W Z HD H σD σ QD ED Q s sl h k kx => a.ok W Z HD H σD σ _ ED _ s sl h (fun Z1 HD1 H1 d x st rx q => by
  obtain ⟨t, e1, q⟩ := optP_some q
  obtain ⟨b, e2, q⟩ := optP_some q
  obtain ⟨h1, h2⟩ := i.ok t b e2
  exact ⟨x, i.u, _, i.uv, b, rfl, i.cv, tyD_ok st.sim rx e1 h2, h1, k.at q st rfl⟩) kx⟩
def tabB (t : Ty) : Sum Ty Str → Option Bool
  | .inl a => some (a.sub t)
  | .inr _ => none
def isiB (t : Ty) : Isi C := ⟨.ty t.nm, .type t.nm, .ty _, tabB t, fun a b h => by
  cases a with
  | inl a =>
    cases h
    exact ⟨kit_ty (Ty.kit a t), fun cn e => nomatch e⟩
  | inr cn => cases h⟩
/-! ### x in xs -/
theorem pys_map : ∀ ds : List D, D.pys ds = ds.map D.py
  | [] => rfl
  | d :: ds => by rw [List.map_cons, ← pys_map ds]; rfl
def rInA (n : Bool) (K : PySem.W.Frag) : R2 := fun x y H Q => rIn K n x y H Q ∨ (∃ d ds, Dp K H x d ∧ Dp K H y (.list ds) ∧ SeqAt.shaped d = true ∧ SeqAt.shaped (.list ds) = true ∧ Q (.bl ((ds.any fun z => PyData.eqv z d) ^^ n)) H) ∨
  ∃ a o, y = .ref a ∧ DGet H a x o ∧ Q (.bl (o.isSome ^^ n)) H
/-- a scalar -/
def D.sc : D → Bool
  | .non => true
  | .bl _ => true
  | .int _ => true
  | .str _ => true
  | _ => false
def D.scV : D → V
  | .bl b => .bl b
  | .int i => .int i
  | .str x => .str x
  | _ => .non
theorem Rep.scal {K : PySem.W.Frag} {Z : Hp} : ∀ {d : D} {v : V}, d.sc = true → Rep K Z d v → v = d.scV
  | .non, _, _, h => h
  | .bl _, _, _, h => h
  | .int _, _, _, h => h
  | .str _, _, _, h => h
theorem Reps.scals {K : PySem.W.Frag} {Z : Hp} : ∀ {ds : List D} {vs : List V}, ds.all D.sc = true → Reps K Z ds vs → vs = ds.map D.scV
  | [], _, _, h => h
  | d :: ds, vs, f, h => by
    obtain ⟨v, r, e, h1, h2⟩ := h
    rw [List.all_cons, Bool.and_eq_true] at f
    rw [e, h1.scal f.1, Reps.scals f.2 h2]; rfl
theorem scV_eq : ∀ {d e : D}, d.sc = true → e.sc = true → eqV d.scV e.scV = d.eq e := by
  intro d e h1 h2
  cases d <;> first
    | exact absurd (show false = true from h1) Bool.false_ne_true
    | (cases e <;> first
      | exact absurd (show false = true from h2) Bool.false_ne_true
      | rfl)
theorem scV_flat : ∀ {d : D}, d.sc = true → flatV d.scV = true := by
  intro d h
  cases d <;> first
    | exact absurd (show false = true from h) Bool.false_ne_true
    | rfl
theorem scVs_flat : ∀ {ds : List D}, ds.all D.sc = true → (ds.map D.scV).all flatV = true
  | [], _ => rfl
  | d :: ds, h => by
    rw [List.all_cons, Bool.and_eq_true] at h
    rw [List.map_cons, List.all_cons, scV_flat h.1, scVs_flat h.2]; rfl
theorem inV_eq {d : D} (h : d.sc = true) : ∀ {ds : List D}, ds.all D.sc = true → inV d.scV (ds.map D.scV) = ds.any fun y => y.eq d
  | [], _ => rfl
  | e :: ds, f => by
    rw [List.all_cons, Bool.and_eq_true] at f
    unfold inV
    rw [List.map_cons, List.any_cons, List.any_cons, scV_eq f.1 h]
    exact congrArg _ (inV_eq h f.2)
/-- n: not in -/
def dIn (n : Bool) (x y : D) (H : DH) (Q : DQ) : Prop := match y with
  | .ref p => ∃ o, H p = some o ∧ match o with
    | .lst ds => x.sc = true ∧ ds.all D.sc = true ∧ Q (.bl ((ds.any fun z => z.eq x) ^^ n)) H
    | .dic kvs => (match keyD x with
      | some k => Q (.bl ((valD kvs k).isSome ^^ n)) H
      | none => False)
    | .ins _ _ => False
  | .tup ds => x.sc = true ∧ ds.all D.sc = true ∧ Q (.bl ((ds.any fun z => z.eq x) ^^ n)) H
  | .lst ds => (if (x.sc && ds.all D.sc) = true then Q (.bl ((ds.any fun z => z.eq x) ^^ n)) H else x.shp = true ∧ (D.lst ds).shp = true ∧ Q (.bl ((ds.any fun z => z.eq x) ^^ n)) H)
  | .frz ds => x.sc = true ∧ ds.all D.sc = true ∧ Q (.bl ((ds.any fun z => z.eq x) ^^ n)) H
  | _ => False
theorem in_flat {n : Bool} {Z : Hp} {HD : DH} {H : Hp} {d : D} {ds : List D} {x : V} {p : Addr} {xs : List V} {QD : DQ} {Q : VK} (s : Sim C Z HD H) (rx : Rep C.K Z d x) (rs : Reps C.K Z ds xs) (hq : SqL C.K H p xs ∨ SqT C.K H p xs)
    (q1 : d.sc = true) (q2 : ds.all D.sc = true) (q : QD (.bl ((ds.any fun z => z.eq d) ^^ n)) HD) (k : KQ C Z HD H QD Q) : rIn C.K n x (.ref p) H Q := by
  have ex := rx.scal q1
  have es := rs.scals q2
  subst ex es
  refine ⟨p, _, rfl, hq, scV_flat q1, scVs_flat q2, ?_⟩
  rw [inV_eq q1 q2]
  cases n with
  | false =>
    rw [if_neg Bool.false_ne_true]
    rw [Bool.xor_false] at q
    exact k.here q s rfl
  | true =>
    rw [if_pos rfl]
    rw [Bool.xor_true] at q
    exact k.here q s rfl
theorem in_of {n : Bool} {Z : Hp} {HD : DH} {H : Hp} {d e : D} {x y : V} {QD : DQ} {Q : VK} (s : Sim C Z HD H) (rx : Rep C.K Z d x) (ry : Rep C.K Z e y) (q : dIn n d e HD QD) (k : KQ C Z HD H QD Q) : rInA n C.K x y H Q := by
  unfold dIn at q
  split at q
  · obtain ⟨o, eo, q⟩ := q
    obtain ⟨_, ro⟩ := s.hd _ _ eo
    rw [show y = V.ref _ from ry]
    split at q
    · obtain ⟨xs, ex, r1⟩ := ro
      exact .inl (in_flat s rx r1 (.inl (.of ex)) q.1 q.2.1 q.2.2 k)
    · obtain ⟨xs, ex, r1⟩ := ro
      split at q
      · rename_i kk hk
        have w := RepK.val (k := kk) r1
        have ey := keyD_rep rx hk
        subst ey
        refine .inr (.inr ⟨_, _, rfl, DGet.k ex, ?_⟩)
        split at w
        · rename_i z hz
          obtain ⟨v, hv, _⟩ := w
          rw [hz] at q
          rw [hv]
          exact k.here q s rfl
        · rename_i hz
          rw [hz] at q
          rw [w]
          exact k.here q s rfl
      · exact q.elim
    · exact q.elim
  · obtain ⟨p, xs, rfl, h1, r1⟩ := ry
    exact .inl (in_flat s rx r1 (.inr (s.seqT h1)) q.1 q.2.1 q.2.2 k)
  · rename_i ds
    have ry0 := ry
    obtain ⟨p, xs, rfl, h1, r1⟩ := ry
    split at q
    · rename_i hb
      have hb2 := Bool.and_eq_true_iff.mp hb
      exact .inl (in_flat s rx r1 (.inl (.of (s.fz _ _ h1))) hb2.1 hb2.2 q k)
    · obtain ⟨q1, q2, q3⟩ := q
      refine .inr (.inl ⟨d.py, D.pys ds, rx.dp s.fz _ _ (shp2 q1).1, Rep.dp s.fz (.lst ds) _ (shp2 q2).1 ry0, (shp2 q1).2, (shp2 q2).2, ?_⟩)
      rw [pys_map, List.any_map]
      exact k.here q3 s rfl
  · obtain ⟨p, xs, rfl, h1, r1⟩ := ry
    exact .inl (in_flat s rx r1 (.inl (s.seqL h1)) q.1 q.2.1 q.2.2 k)
  · exact q.elim
def opIn : Op2 C := ⟨rInA false C.K, dIn false, fun Z HD H d e x y QD Q s rx ry q k => in_of s rx ry q k⟩
def opNotIn : Op2 C := ⟨rInA true C.K, dIn true, fun Z HD H d e x y QD Q s rx ry q k => in_of s rx ry q k⟩
end
section
variable {X : Cx}
theorem op_inA (hu : X.A.units + 65 < cLine) : OpR X (compareOp .In) (rInA false X.K) := op_in_seq.or (OpR.or (fun pins s σ H x y v u Q I rx ry h => by
  obtain ⟨d, ds, h1, h2, h3, h4, q⟩ := h
  rw [Bool.xor_false] at q
  exact op_inD hu pins s σ H x y v u Q I rx ry ⟨d, ds, h1, h2, h3, h4, q⟩) fun pins s σ H x y v u Q I rx ry h => by
  obtain ⟨a, o, rfl, g, q⟩ := h
  rw [Bool.xor_false] at q
  cases ry
  exact d_in (by omega) I g rx fun s' I' => ⟨.bl o.isSome, H, I', rfl, q⟩)
theorem op_notInA (hu : X.A.units + 65 < cLine) : OpR X (compareOp .NotIn) (rInA true X.K) := op_notIn_seq.or (OpR.or (fun pins s σ H x y v u Q I rx ry h => by
  obtain ⟨d, ds, h1, h2, h3, h4, q⟩ := h
  rw [Bool.xor_true] at q
  exact op_notInD hu pins s σ H x y v u Q I rx ry ⟨d, ds, h1, h2, h3, h4, q⟩) fun pins s σ H x y v u Q I rx ry h => by
  obtain ⟨a, o, rfl, g, q⟩ := h
  rw [Bool.xor_true] at q
  cases ry
  exact d_notIn (by omega) I g rx fun s' I' => ⟨.bl (!o.isSome), H, I', rfl, q⟩)
end
/-! ### is None, is True -/
section
variable {C : TC}
/-- x is y: one of them None, or both True or False; n: is not -/
def rIsA (n : Bool) : R2 := fun x y H Q => (y = .non ∧ Q (.bl (decide (x = .non) ^^ n)) H) ∨ ∃ a b : Bool, x = .bl a ∧ y = .bl b ∧ Q (.bl (decide (a = b) ^^ n)) H
theorem op_isA {X : Cx} : OpR X (compareOp .Is) (rIsA false) := OpR.or (fun pins s σ H x y v u Q I rx ry h => by
  obtain ⟨e, q⟩ := h
  rw [Bool.xor_false] at q
  exact op_isN pins s σ H x y v u Q I rx ry ⟨e, q⟩) fun pins s σ H x y v u Q I rx ry h => by
  obtain ⟨a, b, e1, e2, q⟩ := h
  rw [Bool.xor_false] at q
  exact op_isBl pins s σ H x y v u Q I rx ry ⟨a, b, e1, e2, q⟩
theorem op_isNotA {X : Cx} : OpR X (compareOp .IsNot) (rIsA true) := OpR.or (fun pins s σ H x y v u Q I rx ry h => by
  obtain ⟨e, q⟩ := h
  rw [Bool.xor_true] at q
  exact op_notN pins s σ H x y v u Q I rx ry ⟨e, q⟩) fun pins s σ H x y v u Q I rx ry h => by
  obtain ⟨a, b, e1, e2, q⟩ := h
  rw [Bool.xor_true] at q
  exact op_notBl pins s σ H x y v u Q I rx ry ⟨a, b, e1, e2, q⟩
def D.isNon : D → Bool
  | .non => true
  | _ => false
def dIs (n : Bool) : D → D → DH → DQ → Prop
  | d, .non, H, Q => Q (.bl (d.isNon ^^ n)) H
  | .bl a, .bl b, H, Q => Q (.bl ((a == b) ^^ n)) H
  | _, _, _, _ => False
theorem isNon_ok {Z : Hp} : ∀ {d : D} {v : V}, Rep C.K Z d v → decide (v = .non) = d.isNon
  | .non, _, h => by rw [show _ = V.non from h]; rfl
  | .bl _, _, h => by rw [show _ = V.bl _ from h]; rfl
  | .int _, _, h => by rw [show _ = V.int _ from h]; rfl
  | .str _, _, h => by rw [show _ = V.str _ from h]; rfl
  | .ref _, _, h => by rw [show _ = V.ref _ from h]; rfl
  | .tup _, _, h => by obtain ⟨a, xs, e, _⟩ := h; rw [e]; rfl
  | .lst _, _, h => by obtain ⟨a, xs, e, _⟩ := h; rw [e]; rfl
  | .frz _, _, h => by obtain ⟨a, xs, e, _⟩ := h; rw [e]; rfl
def opIs (n : Bool) : Op2 C := ⟨rIsA n, dIs n, fun Z HD H d e x y QD Q s rx ry q k => by
  unfold dIs at q
  split at q
  · refine .inl ⟨ry, ?_⟩
    rw [isNon_ok rx]
    exact k.here q s rfl
  · refine .inr ⟨_, _, rx, ry, ?_⟩
    rw [show ∀ a b : Bool, decide (a = b) = (a == b) from by decide]
    exact k.here q s rfl
  · exact q.elim⟩
end
end G
set_option Elab.async false
set_option linter.all false
set_option maxRecDepth 100000
/-! Targets, what is walked, statements, loops, comprehensions over data. -/
namespace G
open PySem PySem.Spec PyProof.Rows L2
section
variable {C : TC}
/-! ### what is walked -/
abbrev DTI := DS → DH → (List D → (DH → Prop) → DH → Prop) → DX1 → Prop
/-- the walk J yields the items ds, as long as gd holds -/
def JOk (C : TC) (Z0 : Hp) (J : It) (ds : List D) (gd : DH → Prop) : Prop := ∀ Z HD H i, Ext Z0 Z → Sim C Z HD H → gd HD →
  (ds.length ≤ i → J.stop i H) ∧ (i < ds.length → J.go i H) ∧ ∀ x H', J.yld i H x H' → ∀ d, ds[i]? = some d → ∃ Z', Step C Z HD H Z' HD H' ∧ Rep C.K Z' d x
theorem JOk.mono {Z0 Z1 : Hp} {J : It} {ds : List D} {gd : DH → Prop} (h : JOk C Z0 J ds gd) (e : Ext Z0 Z1) : JOk C Z1 J ds gd := fun Z HD H i e1 => h Z HD H i (e.trans e1)
def SI (C : TC) (W : WX) (t : TI) (w : DTI) : Prop := ∀ (Z : Hp) (HD : DH) (H : Hp) (σD : DS) (σ : St) (RD : List D → (DH → Prop) → DH → Prop) (ED : DX1) (R : It → Hp → Prop),
  Sim C Z HD H → SlR C.K Z σD σ → w σD HD RD ED → (∀ Z' HD' H' J ds gd, Step C Z HD H Z' HD' H' → JOk C Z' J ds gd → RD ds gd HD' → R J H') → KX C Z HD H ED (fun c d H' => W c d σ H') → t σ H R
structure IW (C : TC) where
  t : WX → TI
  w : DTI
  ok : ∀ W, SI C W (t W) w
/-- a list, a tuple, a text -/
def iAny (K : PySem.W.Frag) (tl : TE) : TI := fun σ H R => tl σ H fun x H1 => (∃ a, x = .ref a ∧ (((∃ xs, SqL K H1 a xs) ∧ R (Itl K a) H1) ∨ ((∃ xs, SqT K H1 a xs) ∧ R (Itt K a) H1))) ∨ ∃ z, x = .str z ∧ R (Its z) H1
theorem pi_any {X : Cx} {tg l : Expr} {tl : TE} (hl : PE X l tl) : PI X tg l (iAny X.K tl) := by
  refine ⟨fun pins s σ H R I h => ?_⟩
  refine thn (hl.run pins s σ H _ I h) fun v s1 ⟨x, H1, I1, r1, q1⟩ => ?_
  rcases q1 with ⟨a, e, q⟩ | ⟨z, e, q⟩
  · subst e
    cases r1
    rcases q with ⟨⟨xs, hq⟩, q⟩ | ⟨⟨xs, hq⟩, q⟩
    · obtain ⟨its, rv, p, hz⟩ := I1.list hq
      exact wpAny_pyIter_list p.isList (pi_one (tk := s1.toks) I1 _ (turn_list a _) ⟨_, Heap.get?_push_size _ rfl, rfl, rfl⟩ q)
    · obtain ⟨its, rv, p, hz⟩ := I1.tuple hq
      exact wpAny_pyIter_tuple (show s1.heap.IsTuple a its.toArray from p) (pi_one (tk := s1.toks) I1 _ (turn_tuple a _) ⟨_, Heap.get?_push_size _ rfl, rfl, rfl⟩ q)
  · subst e
    obtain ⟨t, rfl⟩ := r1
    cases ha : z.cps.all (· < 128)
    · exact wpAny_pyIter_wide ha (pi_one (tk := s1.toks) I1 _ (turn_str _ z t "str_iterator" (.inr rfl)) ⟨_, Heap.get?_push_size _ rfl, rfl, rfl⟩ q)
    · exact wpAny_pyIter_ascii ha (pi_one (tk := s1.toks) I1 _ (turn_str _ z t "str_ascii_iterator" (.inl rfl)) ⟨_, Heap.get?_push_size _ rfl, rfl, rfl⟩ q)
/-- the items and the guard of a walk over a value -/
def dIt (d : D) (H : DH) (R : List D → (DH → Prop) → DH → Prop) : Prop := match d with
  | .tup ds => R ds (fun _ => True) H
  | .lst ds => R ds (fun _ => True) H
  | .frz ds => R ds (fun _ => True) H
  | .str z => R (z.cps.toList.map fun c => D.str ⟨#[c]⟩) (fun _ => True) H
  | .ref p => ∃ o, H p = some o ∧ match o with
    | .lst ds => R ds (fun H' => H' p = some (.lst ds)) H
    | _ => False
  | _ => False
theorem jok_list {Z0 : Hp} {a : Addr} {ds : List D} {gd : DH → Prop} (h : ∀ Z HD H, Ext Z0 Z → Sim C Z HD H → gd HD → ∃ xs, SqL C.K H a xs ∧ Reps C.K Z ds xs) : JOk C Z0 (Itl C.K a) ds gd := fun Z HD H i e s g => by
  obtain ⟨xs, h1, r1⟩ := h Z HD H e s g
  have hl := r1.length
  refine ⟨fun hi => ⟨xs, h1, by omega⟩, fun hi => ⟨xs, xs[i]'(by omega), h1, List.getElem?_eq_getElem _⟩, fun x H' y d hd => ?_⟩
  obtain ⟨e1, y⟩ := y
  subst e1
  obtain ⟨v, hv, rv⟩ := r1.get hd
  have : v = x := Option.some.inj (hv.symm.trans (y xs h1))
  subst this
  exact ⟨Z, Step.rfl s, rv⟩
theorem jok_tup {Z0 : Hp} {a : Addr} {ds : List D} {gd : DH → Prop} (h : ∀ Z HD H, Ext Z0 Z → Sim C Z HD H → gd HD → ∃ xs, SqT C.K H a xs ∧ Reps C.K Z ds xs) : JOk C Z0 (Itt C.K a) ds gd := fun Z HD H i e s g => by
  obtain ⟨xs, h1, r1⟩ := h Z HD H e s g
  have hl := r1.length
  refine ⟨fun hi => ⟨xs, h1, by omega⟩, fun hi => ⟨xs, xs[i]'(by omega), h1, List.getElem?_eq_getElem _⟩, fun x H' y d hd => ?_⟩
  obtain ⟨e1, y⟩ := y
  subst e1
  obtain ⟨v, hv, rv⟩ := r1.get hd
  have : v = x := Option.some.inj (hv.symm.trans (y xs h1))
  subst this
  exact ⟨Z, Step.rfl s, rv⟩
theorem jok_str {Z0 : Hp} {z : Str} {gd : DH → Prop} : JOk C Z0 (Its z) (z.cps.toList.map fun c => D.str ⟨#[c]⟩) gd := fun Z HD H i e s g => by
  have hl : (z.cps.toList.map fun c => D.str ⟨#[c]⟩).length = z.cps.size := by rw [List.length_map, Array.length_toList]
  refine ⟨fun hi => by show z.cps.size ≤ i; omega, fun hi => by show i < z.cps.size; omega, fun x H' y d hd => ?_⟩
  obtain ⟨e1, c, hc, ev⟩ := y
  subst e1 ev
  rw [List.getElem?_map, Array.getElem?_toList, hc] at hd
  cases hd
  exact ⟨Z, Step.rfl s, rfl⟩
def jAny (a : TW C) : IW C := ⟨fun W => iAny C.K (a.t W), fun σ H R E => a.w σ H (fun x H1 => dIt x H1 R) E, fun W Z HD H σD σ RD ED R s sl h k kx => a.ok W Z HD H σD σ _ ED _ s sl h (fun Z1 HD1 H1 d x st rx q => by
  unfold dIt at q
  split at q
  · obtain ⟨p, xs, rfl, h1, r1⟩ := rx
    exact .inl ⟨p, rfl, .inr ⟨⟨xs, st.sim.seqT h1⟩, k _ _ _ _ _ _ st (jok_tup fun Z HD H e s _ => ⟨xs, s.seqT (e.seqT h1), Reps.mono e _ _ r1⟩) q⟩⟩
  · obtain ⟨p, xs, rfl, h1, r1⟩ := rx
    exact .inl ⟨p, rfl, .inl ⟨⟨xs, .of (st.sim.fz _ _ h1)⟩, k _ _ _ _ _ _ st (jok_list fun Z HD H e s _ => ⟨xs, .of (s.fz _ _ (e _ _ h1)), Reps.mono e _ _ r1⟩) q⟩⟩
  · obtain ⟨p, xs, rfl, h1, r1⟩ := rx
    exact .inl ⟨p, rfl, .inl ⟨⟨xs, st.sim.seqL h1⟩, k _ _ _ _ _ _ st (jok_list fun Z HD H e s _ => ⟨xs, s.seqL (e.seqL h1), Reps.mono e _ _ r1⟩) q⟩⟩
  · exact .inr ⟨_, rx, k _ _ _ _ _ _ st jok_str q⟩
  · obtain ⟨o, eo, q⟩ := q
    split at q
    · obtain ⟨_, xs, ex, r1⟩ := st.sim.hd _ _ eo
      refine .inl ⟨_, rx, .inl ⟨⟨xs, .of ex⟩, k _ _ _ _ _ _ st (jok_list fun Z HD H e s g => ?_) q⟩⟩
      obtain ⟨_, ys, ey, r2⟩ := s.hd _ _ g
      exact ⟨ys, .of ey, r2⟩
    · exact q.elim
  · exact q.elim) kx⟩
theorem jok_range {Z0 : Hp} {lo : Int} {n : Nat} {gd : DH → Prop} : JOk C Z0 (Itr lo n) ((List.range n).map fun i => D.int (lo + (i : Nat))) gd := fun Z HD H i e s g => by
  have hl : ((List.range n).map fun i => D.int (lo + (i : Nat))).length = n := by rw [List.length_map, List.length_range]
  refine ⟨fun hi => by show n ≤ i; omega, fun hi => by show i < n; omega, fun x H' y d hd => ?_⟩
  obtain ⟨e1, ev⟩ := y
  subst e1 ev
  rw [List.getElem?_map] at hd
  cases hr : (List.range n)[i]? with
  | none => rw [hr] at hd; cases hd
  | some j =>
    rw [hr] at hd
    cases hd
    have hj : j = i := by
      obtain ⟨h1, h2⟩ := List.getElem?_eq_some_iff.mp hr
      rw [List.getElem_range] at h2
      exact h2.symm
    subst hj
    exact ⟨Z, Step.rfl s, rfl⟩
def dRng1 (vs : List D) (H : DH) (R : List D → (DH → Prop) → DH → Prop) : Prop := match vs with
  | [.int j] => -(2 ^ 62) ≤ j ∧ j < 2 ^ 62 ∧ R ((List.range j.toNat).map fun i => D.int (i : Nat)) (fun _ => True) H
  | _ => False
def jRng1 (a : AW C) : IW C := ⟨fun W => iRng1 (a.t W), fun σ H R E => a.w σ H (fun vs H1 => dRng1 vs H1 R) E, fun W Z HD H σD σ RD ED R s sl h k kx => a.ok W Z HD H σD σ _ ED _ s sl h (fun Z1 HD1 H1 ds xs st rs q => by
  unfold dRng1 at q
  split at q
  · obtain ⟨v, rfl, rv⟩ := one_of rs
    rw [show v = V.int _ from rv]
    obtain ⟨q1, q2, q⟩ := q
    refine ⟨_, rfl, q1, q2, k _ _ _ _ _ _ st (jok_range (gd := fun _ => True)) ?_⟩
    simp only [Int.zero_add]
    exact q
  · exact q.elim) kx⟩
def dRng2 (vs : List D) (H : DH) (R : List D → (DH → Prop) → DH → Prop) : Prop := match vs with
  | [.int i, .int j] => (-(2 ^ 62) ≤ i ∧ i < 2 ^ 62 ∧ -(2 ^ 62) ≤ j ∧ j < 2 ^ 62) ∧ R ((List.range (j - i).toNat).map fun k => D.int (i + (k : Nat))) (fun _ => True) H
  | _ => False
def jRng2 (a : AW C) : IW C := ⟨fun W => iRng2 (a.t W), fun σ H R E => a.w σ H (fun vs H1 => dRng2 vs H1 R) E, fun W Z HD H σD σ RD ED R s sl h k kx => a.ok W Z HD H σD σ _ ED _ s sl h (fun Z1 HD1 H1 ds xs st rs q => by
  unfold dRng2 at q
  split at q
  · obtain ⟨v, u, rfl, rv, ru⟩ := two_of rs
    rw [show v = V.int _ from rv, show u = V.int _ from ru]
    exact ⟨_, _, rfl, q.1, k _ _ _ _ _ _ st jok_range q.2⟩
  · exact q.elim) kx⟩
/-- pairs, as far as both go -/
def zipD (as bs : List D) : List D := (as.zip bs).map fun p => .tup [p.1, p.2]
theorem zipD_length (as bs : List D) : (zipD as bs).length = min as.length bs.length := by unfold zipD; rw [List.length_map, List.length_zip]
def dZip (vs : List D) (H : DH) (R : List D → (DH → Prop) → DH → Prop) : Prop := match vs with
  | [.tup as, .tup bs] => R (zipD as bs) (fun _ => True) H
  | [.lst as, .lst bs] => R (zipD as bs) (fun _ => True) H
  | _ => False
theorem zip_get {as bs : List D} {i : Nat} {d : D} (h : (zipD as bs)[i]? = some d) : ∃ a b, as[i]? = some a ∧ bs[i]? = some b ∧ d = .tup [a, b] := by
  unfold zipD at h
  rw [List.getElem?_map] at h
  obtain ⟨p, h1, h2⟩ := Option.map_eq_some_iff.mp h
  obtain ⟨a, b⟩ := p
  rw [List.getElem?_zip_eq_some] at h1
  exact ⟨a, b, h1.1, h1.2, h2.symm⟩
theorem pair_step {Z : Hp} {HD : DH} {H : Hp} {T : Addr} {x y : V} {a b : D} (s : Sim C Z HD H) (nT : H T = none) (rx : Rep C.K Z a x) (ry : Rep C.K Z b y) : ∃ Z', Step C Z HD H Z' HD (upd H T (.tup [x, y])) ∧ Rep C.K Z' (.tup [a, b]) (.ref T) :=
  have e := Ext.upd (o := HO.tup [x, y]) (s.free nT).1
  ⟨_, Step.newZ s nT (.tup [x, y]), T, [x, y], rfl, .inl (.inl upd_same), Reps.cons (Rep.mono e _ _ rx) (Reps.cons (Rep.mono e _ _ ry) Reps.nil)⟩
def jZip (a : AW C) : IW C := ⟨fun W => RZ.iZipA C.K (a.t W), fun σ H R E => a.w σ H (fun vs H1 => dZip vs H1 R) E, fun W Z HD H σD σ RD ED R s sl h k kx => a.ok W Z HD H σD σ _ ED _ s sl h (fun Z1 HD1 H1 ds xs st rs q => by
  unfold dZip at q
  split at q
  · rename_i as bs
    obtain ⟨v, u, rfl, ⟨p1, xs, rfl, h1, r1⟩, ⟨p2, ys, rfl, h2, r2⟩⟩ := two_of rs
    refine ⟨p1, p2, xs, ys, rfl, .inr ⟨st.sim.seqT h1, st.sim.seqT h2, k _ _ _ _ _ _ st (fun Z HD H i e s g => ?_) q⟩⟩
    have l1 := r1.length
    have l2 := r2.length
    have lz := zipD_length as bs
    have a1 := s.seqT (e.seqT h1)
    have a2 := s.seqT (e.seqT h2)
    refine ⟨fun hi => ⟨xs, ys, a1, a2, by omega⟩, fun hi => ⟨xs, ys, xs[i]'(by omega), ys[i]'(by omega), a1, a2, List.getElem?_eq_getElem _, List.getElem?_eq_getElem _⟩, fun x H' y d hd => ?_⟩
    obtain ⟨T, x1, y1, rfl, nT, rfl, f1, f2⟩ := y
    obtain ⟨da, db, ha, hb, rfl⟩ := zip_get hd
    obtain ⟨v1, hv1, rv1⟩ := (Reps.mono e _ _ r1).get ha
    obtain ⟨v2, hv2, rv2⟩ := (Reps.mono e _ _ r2).get hb
    have e1 : v1 = x1 := Option.some.inj (hv1.symm.trans (f1 xs a1))
    have e2 : v2 = y1 := Option.some.inj (hv2.symm.trans (f2 ys a2))
    subst e1 e2
    exact pair_step s nT rv1 rv2
  · rename_i as bs
    obtain ⟨v, u, rfl, ⟨p1, xs, rfl, h1, r1⟩, ⟨p2, ys, rfl, h2, r2⟩⟩ := two_of rs
    refine ⟨p1, p2, xs, ys, rfl, .inl ⟨.of (st.sim.fz _ _ h1), .of (st.sim.fz _ _ h2), k _ _ _ _ _ _ st (fun Z HD H i e s g => ?_) q⟩⟩
    have l1 := r1.length
    have l2 := r2.length
    have lz := zipD_length as bs
    have a1 : SqL C.K H p1 xs := .of (s.fz _ _ (e _ _ h1))
    have a2 : SqL C.K H p2 ys := .of (s.fz _ _ (e _ _ h2))
    refine ⟨fun hi => ⟨xs, ys, a1, a2, by omega⟩, fun hi => ⟨xs, ys, xs[i]'(by omega), ys[i]'(by omega), a1, a2, List.getElem?_eq_getElem _, List.getElem?_eq_getElem _⟩, fun x H' y d hd => ?_⟩
    obtain ⟨T, x1, y1, rfl, nT, rfl, f1, f2⟩ := y
    obtain ⟨da, db, ha, hb, rfl⟩ := zip_get hd
    obtain ⟨v1, hv1, rv1⟩ := (Reps.mono e _ _ r1).get ha
    obtain ⟨v2, hv2, rv2⟩ := (Reps.mono e _ _ r2).get hb
    have e1 : v1 = x1 := Option.some.inj (hv1.symm.trans (f1 xs a1))
    have e2 : v2 = y1 := Option.some.inj (hv2.symm.trans (f2 ys a2))
    subst e1 e2
    exact pair_step s nT rv1 rv2
  · exact q.elim) kx⟩
/-! ### targets -/
def gwName (i : Nat) : GW C := ⟨fun _ => gName i, fun d σ H Q => Q (σ.set i (some d)) H, fun W Z HD H σD σ d v QD Q s sl r h k => k _ _ _ _ _ (Step.rfl s) (sl.set r i) h⟩
abbrev DTGs := List D → DS → DH → (DS → DH → Prop) → Prop
def SGs (C : TC) (W : WX) (t : TGs) (w : DTGs) : Prop := ∀ (Z : Hp) (HD : DH) (H : Hp) (σD : DS) (σ : St) (d : List D) (v : List V) (QD : DS → DH → Prop) (Q : St → Hp → Prop),
  Sim C Z HD H → SlR C.K Z σD σ → Reps C.K Z d v → w d σD HD QD → KN C Z HD H QD Q → t v σ H Q
structure GsW (C : TC) where
  t : WX → TGs
  w : DTGs
  ok : ∀ W, SGs C W (t W) w
def gsNil : GsW C := ⟨fun _ => gNil, fun ds σ H Q => ds = [] ∧ Q σ H, fun W Z HD H σD σ d v QD Q s sl r h k => by
  obtain ⟨e, h⟩ := h
  rw [e] at r
  exact ⟨r, k _ _ _ _ _ (Step.rfl s) sl h⟩⟩
def wGs (g : DTG) (r : DTGs) : DTGs := fun ds σ H Q => match ds with
  | d :: ds => g d σ H fun σ' H' => r ds σ' H' Q
  | [] => False
def gsCons (g : GW C) (r : GsW C) : GsW C := ⟨fun W => gCons (g.t W) (r.t W), wGs g.w r.w, fun W Z HD H σD σ d v QD Q s sl rr h k => by
  unfold wGs at h
  split at h
  · obtain ⟨x, xs, e, r1, r2⟩ := rr
    exact ⟨x, xs, e, g.ok W Z HD H σD σ _ x _ _ s sl r1 h fun Z1 HD1 H1 σD1 σ1 st sl1 q => r.ok W Z1 HD1 H1 σD1 σ1 _ xs _ _ st.sim sl1 (Reps.mono st.ext _ _ r2) q (k.mono st)⟩
  · exact h.elim⟩
/-- a, b, .. = a tuple or a list of that length -/
def gTupA (K : PySem.W.Frag) (n : Nat) (t : TGs) : TG := fun v σ H Q => gTup K n t v σ H Q ∨ gLst K n t v σ H Q
theorem pg_tupA {X : Cx} {es : List Expr} {k : Nat} {pos : Pos} {t : TGs} {n : Nat} (hc : X.calm = true) (h : PGs X es t)
    (hn : (assignEach es X.env).length = n := by rfl) (hst : (assignEach es X.env).findIdx? (·.1) = none := by rfl) : PG X (.Tuple es k pos) (gTupA X.K n t) :=
  ⟨fun pins s σ H v u Q I r q => q.elim (fun q => (pg_tup hc h hn hst).run pins s σ H v u Q I r q) fun q => (pg_lst hc h hn hst).run pins s σ H v u Q I r q⟩
def gwTup (n : Nat) (g : GsW C) : GW C := ⟨fun W => gTupA C.K n (g.t W), fun d σ H Q => optP (seqD H d) fun ds => ds.length = n ∧ g.w ds σ H Q, fun W Z HD H σD σ d v QD Q s sl r h k => by
  obtain ⟨ds, e, hn, q⟩ := optP_some h
  unfold seqD at e
  split at e
  · cases e
    obtain ⟨a, xs, rfl, h1, r1⟩ := r
    exact .inl ⟨a, xs, rfl, s.seqT h1, by rw [r1.length]; exact hn, g.ok W Z HD H σD σ _ xs _ _ s sl r1 q k⟩
  · obtain ⟨a, xs, rfl, h1, r1⟩ := lstD_ok s r e
    exact .inr ⟨a, xs, rfl, h1, by rw [r1.length]; exact hn, g.ok W Z HD H σD σ _ xs _ _ s sl r1 q k⟩⟩
/-- o[i] = v -/
def rSetA : TSet := fun o i v H Q => rSetL o i v H Q ∨ ∃ a H', o = .ref a ∧ DPut H a i v H' ∧ Q H'
theorem set_any {X : Cx} (hu : X.A.units + 1 < cLine) : PSet X rSetA := by
  intro pins s σ H o i v ov iv u Q I ro ri rv h
  rcases h with h | ⟨a, H', rfl, g, q⟩
  · exact set_list pins s σ H o i v ov iv u Q I ro ri rv h
  · cases ro
    exact d_setItem hu I g ri rv fun s' I' => ⟨H', I', q⟩
def putD (kvs : List (Key × D)) (k : Key) (v : D) : List (Key × D) := if kvs.any (fun kv => decide (kv.1 = k)) = true then kvs.map fun kv => if kv.1 = k then (kv.1, v) else kv else kvs ++ [(k, v)]
end
end G
set_option Elab.async false
set_option linter.all false
set_option maxRecDepth 100000
/-! Statements, loops, comprehensions over data. -/
namespace G
open PySem PySem.Spec PyProof.Rows L2
section
variable {C : TC}
def E0D : DX1 := fun _ _ _ => False
/-! ### o[i] = v -/
def dSet (o i v : D) (H : DH) (Q : DH → Prop) : Prop := match o with
  | .ref p => optP (H p) fun u => match u with
    | .lst ds => (match i with
      | .int k => optP (ixN ds.length k) fun j => Q (updD H p (.lst (ds.set j v)))
      | _ => False)
    | .dic kvs => optP (keyD i) fun k => kvs.length < sizeLine ∧ Q (updD H p (.dic (putD kvs k v)))
    | .ins _ _ => False
  | _ => False
theorem RepK.any {K : PySem.W.Frag} {Z : Hp} (p : Key → Bool) : ∀ {ds : List (Key × D)} {xs : List (Key × V)}, RepK K Z ds xs → (xs.any fun kv => p kv.1) = ds.any fun kv => p kv.1
  | [], _, h => by rw [show _ = [] from h]; rfl
  | (f, d) :: ds, xs, h => by
    obtain ⟨v, r, e, _, h2⟩ := h
    rw [e, List.any_cons, List.any_cons, RepK.any p h2]
theorem RepK.repl {K : PySem.W.Frag} {Z : Hp} {k : Key} {d0 : D} {v0 : V} (r0 : Rep K Z d0 v0) : ∀ {ds : List (Key × D)} {xs : List (Key × V)}, RepK K Z ds xs → RepK K Z (ds.map fun kv => if kv.1 = k then (kv.1, d0) else kv) (xs.map fun kv => if kv.1 = k then (kv.1, v0) else kv)
  | [], _, h => by rw [show _ = [] from h]; rfl
  | (f, d) :: ds, xs, h => by
    obtain ⟨v, r, e, h1, h2⟩ := h
    rw [e, List.map_cons, List.map_cons]
    by_cases q : f = k
    · rw [if_pos q, if_pos q]; exact ⟨v0, _, rfl, r0, RepK.repl r0 h2⟩
    · rw [if_neg q, if_neg q]; exact ⟨v, _, rfl, h1, RepK.repl r0 h2⟩
theorem RepK.snoc {K : PySem.W.Frag} {Z : Hp} {k : Key} {d0 : D} {v0 : V} (r0 : Rep K Z d0 v0) : ∀ {ds : List (Key × D)} {xs : List (Key × V)}, RepK K Z ds xs → RepK K Z (ds ++ [(k, d0)]) (xs ++ [(k, v0)])
  | [], _, h => by rw [show _ = [] from h]; exact ⟨v0, [], rfl, r0, rfl⟩
  | (f, d) :: ds, xs, h => by
    obtain ⟨v, r, e, h1, h2⟩ := h
    rw [e]
    exact ⟨v, _, rfl, h1, RepK.snoc r0 h2⟩
theorem RepK.put {K : PySem.W.Frag} {Z : Hp} {k : Key} {d0 : D} {v0 : V} {ds : List (Key × D)} {xs : List (Key × V)} (r : RepK K Z ds xs) (r0 : Rep K Z d0 v0) : RepK K Z (putD ds k d0) (putK xs k v0) := by
  unfold putD putK
  rw [RepK.any (fun j => decide (j = k)) r]
  split
  · exact r.repl r0
  · exact r.snoc r0
theorem set_of {Z : Hp} {HD : DH} {H : Hp} {o i d : D} {vo vi v : V} {QD : DH → Prop} {Q : Hp → Prop} (s : Sim C Z HD H) (ro : Rep C.K Z o vo) (ri : Rep C.K Z i vi) (rd : Rep C.K Z d v) (q : dSet o i d HD QD)
    (k : ∀ Z' HD' H', Step C Z HD H Z' HD' H' → QD HD' → Q H') : rSetA vo vi v H Q := by
  unfold dSet at q
  split at q
  · rename_i p
    obtain ⟨u, e, q⟩ := optP_some q
    rw [show vo = V.ref p from ro]
    obtain ⟨_, r⟩ := s.hd _ _ e
    split at q
    · obtain ⟨xs, ex, r1⟩ := r
      split at q
      · obtain ⟨j, ej, q⟩ := optP_some q
        exact .inl ⟨p, xs, _, j, rfl, ri, ex, by rw [r1.length]; exact ej, k _ _ _ (Step.write (u := .lst (List.set _ j d)) s e ⟨_, rfl, r1.set j rd⟩) q⟩
      · exact q.elim
    · obtain ⟨xs, ex, r1⟩ := r
      obtain ⟨kk, ek, hl, q⟩ := optP_some q
      have ey := keyD_rep ri ek
      subst ey
      exact .inr ⟨p, _, rfl, DPut.k ex (by rw [r1.length]; exact hl), k _ _ _ (Step.write (u := .dic (putD _ kk d)) s e ⟨_, rfl, r1.put rd⟩) q⟩
    · exact q.elim
  · exact q.elim
def gwSub (o i : TW C) : GW C := ⟨fun W => gSub (o.t W) (i.t W) rSetA, fun d σ H Q => o.w σ H (fun x H1 => i.w σ H1 (fun y H2 => dSet x y d H2 fun H3 => Q σ H3) E0D) E0D, fun W Z HD H σD σ d v QD Q s sl r h k =>
  two (R := fun x y H2 => rSetA x y v H2 fun H3 => Q σ H3) s sl h KX.none fun Z1 HD1 H1 a b x y st rx ry q => set_of st.sim rx ry (Rep.mono st.ext _ _ r) q fun Z2 HD2 H2 st2 q2 => k _ _ _ _ _ (st.trans st2) (sl.mono (st.trans st2).ext) q2⟩
/-! ### statements -/
def sNext : SW C := ⟨fun _ => tNext, fun DD σ H => DD.nx σ H, fun W Z HD H σD σ DD Dn s sl h k => k.nx _ _ _ _ _ (Step.rfl s) sl h⟩
def wSeq (a b : DTS) : DTS := fun DD σ H => a { DD with nx := b DD } σ H
def sSeq (a b : SW C) : SW C := ⟨fun W => tSeq (a.t W) (b.t W), wSeq a.w b.w, fun W Z HD H σD σ DD Dn s sl h k => a.ok W Z HD H σD σ _ _ s sl h
  ⟨fun Z1 HD1 H1 σD1 σ1 st sl1 q => b.ok W Z1 HD1 H1 σD1 σ1 _ _ st.sim sl1 q (k.mono st), k.rt, k.bk, k.ct, k.ex⟩⟩
def sBrk : SW C := ⟨fun _ => tBreak, fun DD σ H => DD.bk σ H, fun W Z HD H σD σ DD Dn s sl h k => k.bk _ _ _ _ _ (Step.rfl s) sl h⟩
def sCnt : SW C := ⟨fun _ => tCont, fun DD σ H => DD.ct σ H, fun W Z HD H σD σ DD Dn s sl h k => k.ct _ _ _ _ _ (Step.rfl s) sl h⟩
def wAsg (a : DTE) (g : DTG) : DTS := fun DD σ H => a σ H (fun x H1 => g x σ H1 DD.nx) fun c fs H => DD.ex c fs σ H
def sAsg (a : TW C) (g : GW C) : SW C := ⟨fun W => tAsg (a.t W) (g.t W), wAsg a.w g.w, fun W Z HD H σD σ DD Dn s sl h k => a.ok W Z HD H σD σ _ _ _ s sl h (fun Z1 HD1 H1 d x st rx q =>
  g.ok W Z1 HD1 H1 σD σ d x _ _ st.sim (sl.mono st.ext) rx q (k.nx.mono st)) (k.ex.at sl)⟩
def wDrop (a : DTE) : DTS := fun DD σ H => a σ H (fun _ H1 => DD.nx σ H1) fun c fs H => DD.ex c fs σ H
def sDrop (a : TW C) : SW C := ⟨fun W => tDrop (a.t W), wDrop a.w, fun W Z HD H σD σ DD Dn s sl h k => a.ok W Z HD H σD σ _ _ _ s sl h (fun Z1 HD1 H1 d x st rx q => k.nx _ _ _ _ _ st (sl.mono st.ext) q) (k.ex.at sl)⟩
def wRet (a : DTE) : DTS := fun DD σ H => a σ H DD.rt fun c fs H => DD.ex c fs σ H
def sRet (a : TW C) : SW C := ⟨fun W => tRet (a.t W), wRet a.w, fun W Z HD H σD σ DD Dn s sl h k => a.ok W Z HD H σD σ _ _ _ s sl h k.rt (k.ex.at sl)⟩
def sRetN : SW C := ⟨fun _ => tRetN, fun DD σ H => DD.rt .non H, fun W Z HD H σD σ DD Dn s sl h k => k.rt.at h (Step.rfl s) rfl⟩
def wIfS (c : DTT) (a b : DTS) : DTS := fun DD σ H => c σ H (fun k H1 => if k = true then a DD σ H1 else b DD σ H1) fun c fs H => DD.ex c fs σ H
def sIf (c : BW C) (a b : SW C) : SW C := ⟨fun W => tIfS (c.t W) (a.t W) (b.t W), wIfS c.w a.w b.w, fun W Z HD H σD σ DD Dn s sl h k => c.ok W Z HD H σD σ _ _ _ s sl h (fun Z1 HD1 H1 z st q => by
  cases z with
  | true => exact a.ok W Z1 HD1 H1 σD σ _ _ st.sim (sl.mono st.ext) q (k.mono st)
  | false => exact b.ok W Z1 HD1 H1 σD σ _ _ st.sim (sl.mono st.ext) q (k.mono st)) (k.ex.at sl)⟩
/-- a, b = x, y -/
def wPar (i j : Nat) (a : DTA) : DTS := fun DD σ H => a σ H (fun ds H1 => match ds with
  | [d, e] => DD.nx ((σ.set i (some d)).set j (some e)) H1
  | _ => False) fun c fs H => DD.ex c fs σ H
def sPar (i j : Nat) (a : AW C) : SW C := ⟨fun W => tPar i j (a.t W), wPar i j a.w, fun W Z HD H σD σ DD Dn s sl h k => a.ok W Z HD H σD σ _ _ _ s sl h (fun Z1 HD1 H1 ds xs st rs q => by
  split at q
  · obtain ⟨v, u, rfl, rv, ru⟩ := two_of rs
    exact ⟨v, u, rfl, k.nx _ _ _ _ _ st (((sl.mono st.ext).set rv i).set ru j) q⟩
  · exact q.elim) (k.ex.at sl)⟩
/-- x += e, of ints and texts -/
def tipAdd : TIp := fun x y H Q => ipI (fun i j => i + j) x y H Q ∨ ∃ i j, x = .str i ∧ y = .str j ∧ i.length + j.length ≤ sizeLine ∧ Q (.str (i ++ j)) H
theorem ip_addA {X : Cx} : PIp X .Add tipAdd := by
  intro pins s σ H x y v u Q I rx ry h
  rcases h with h | h
  · exact ip_add pins s σ H x y v u Q I rx ry h
  · exact iop_add_str pins s σ H x y v u Q I rx ry h
/-- an operator in place -/
structure Ip (C : TC) where
  r : TIp
  w : D → D → DH → DQ → Prop
  ok : ∀ Z HD H d e x y QD Q, Sim C Z HD H → Rep C.K Z d x → Rep C.K Z e y → w d e HD QD → KQ C Z HD H QD Q → r x y H Q
def dIpAdd : D → D → DH → DQ → Prop
  | .int i, .int j, H, Q => Q (.int (i + j)) H
  | .str i, .str j, H, Q => i.length + j.length ≤ sizeLine ∧ Q (.str (i ++ j)) H
  | _, _, _, _ => False
def ipAddD : Ip C := ⟨tipAdd, dIpAdd, fun Z HD H d e x y QD Q s rx ry q k => by
  unfold dIpAdd at q
  split at q
  · exact .inl ⟨_, _, rx, ry, k.here q s rfl⟩
  · exact .inr ⟨_, _, rx, ry, q.1, k.here q.2 s rfl⟩
  · exact q.elim⟩
def ipSubD : Ip C := ⟨ipI fun i j => i - j, fun d e H Q => match d, e with
  | .int i, .int j => Q (.int (i - j)) H
  | _, _ => False, fun Z HD H d e x y QD Q s rx ry q k => by
    split at q
    · exact ⟨_, _, rx, ry, k.here q s rfl⟩
    · exact q.elim⟩
def wAug (i : Nat) (o : D → D → DH → DQ → Prop) (a : DTE) : DTS := fun DD σ H => match σ[i]? with
  | some (some x) => a σ H (fun y H1 => o x y H1 fun z H2 => DD.nx (σ.set i (some z)) H2) fun c fs H => DD.ex c fs σ H
  | _ => False
def sAug (i : Nat) (o : Ip C) (a : TW C) : SW C := ⟨fun W => tAug i (a.t W) o.r, wAug i o.w a.w, fun W Z HD H σD σ DD Dn s sl h k => by
  unfold wAug at h
  split at h
  · rename_i d e
    obtain ⟨v, hv, rv⟩ := sl.at_ i d e
    exact ⟨v, hv, a.ok W Z HD H σD σ _ _ _ s sl h (fun Z1 HD1 H1 d' x st rx q => o.ok _ _ _ _ _ _ _ _ _ st.sim (Rep.mono st.ext _ _ rv) rx q fun Z2 HD2 H2 z y st2 ry q2 =>
      k.nx _ _ _ _ _ (st.trans st2) ((sl.mono (st.trans st2).ext).set ry i) q2) (k.ex.at sl)⟩
  · exact h.elim⟩
/-! ### for -/
def forD (gd : DH → Prop) (g : DTG) (b : DTS) : List D → DTS
  | [], DD, σ, H => gd H ∧ DD.nx σ H
  | d :: r, DD, σ, H => gd H ∧ g d σ H fun σ2 H2 => b { DD with nx := forD gd g b r DD, ct := forD gd g b r DD, bk := DD.nx } σ2 H2
theorem forD_gd {gd : DH → Prop} {g : DTG} {b : DTS} {ds : List D} {DD : DEnds} {σ : DS} {H : DH} (h : forD gd g b ds DD σ H) : gd H := by
  cases ds with
  | nil => exact h.1
  | cons d r => exact h.1
def wFor (i : DTI) (g : DTG) (b : DTS) : DTS := fun DD σ H => i σ H (fun ds gd H1 => forD gd g b ds DD σ H1) fun c fs H => DD.ex c fs σ H
def sFor (i : IW C) (g : GW C) (b : SW C) : SW C := ⟨fun W => tFor (i.t W) (g.t W) (b.t W), wFor i.w g.w b.w, fun W Z HD H σD σ DD Dn s sl h k => i.ok W Z HD H σD σ _ _ _ s sl h (fun Z1 HD1 H1 J ds gd st jok q => by
  refine ⟨fun n m σ' H' => m = ds.length - n ∧ n ≤ ds.length ∧ ∃ Z' HD' σD', Step C Z1 HD1 H1 Z' HD' H' ∧ SlR C.K Z' σD' σ' ∧ forD gd g.w b.w (ds.drop n) DD σD' HD',
    ⟨ds.length, by omega, Nat.zero_le _, Z1, HD1, σD, Step.rfl st.sim, sl.mono st.ext, q⟩, ?_⟩
  rintro n m σ' H' ⟨rfl, hn, Z', HD', σD', st', sl', q'⟩
  obtain ⟨j1, j2, j3⟩ := jok Z' HD' H' n st'.ext st'.sim (forD_gd q')
  by_cases hlt : n < ds.length
  · have e : ds.drop n = ds[n] :: ds.drop (n + 1) := by rw [List.drop_eq_getElem_cons hlt]
    rw [e] at q'
    obtain ⟨_, q'⟩ := q'
    refine .inr ⟨j2 hlt, fun σ2 H2 => n + 1 ≤ ds.length ∧ ∃ Z' HD' σD', Step C Z1 HD1 H1 Z' HD' H2 ∧ SlR C.K Z' σD' σ2 ∧ forD gd g.w b.w (ds.drop (n + 1)) DD σD' HD', fun σ2 H2 w => ⟨ds.length - (n + 1), by omega, rfl, w⟩, fun x H2 y => ?_⟩
    obtain ⟨Z2, st2, rx⟩ := j3 x H2 y ds[n] (List.getElem?_eq_getElem hlt)
    refine g.ok W Z2 HD' H2 σD' σ' ds[n] x _ _ st2.sim (sl'.mono st2.ext) rx q' fun Z3 HD3 H3 σD3 σ3 st3 sl3 q3 => ?_
    have st03 := (st'.trans st2).trans st3
    exact b.ok W Z3 HD3 H3 σD3 σ3 _ _ st3.sim sl3 q3 ⟨fun Z4 HD4 H4 σD4 σ4 st4 sl4 q4 => ⟨hlt, Z4, HD4, σD4, st03.trans st4, sl4, q4⟩, k.rt.mono (st.trans st03), k.nx.mono (st.trans st03), fun Z4 HD4 H4 σD4 σ4 st4 sl4 q4 => ⟨hlt, Z4, HD4, σD4, st03.trans st4, sl4, q4⟩, k.ex.mono (st.trans st03)⟩
  · have e : ds.drop n = [] := List.drop_eq_nil_of_le (by omega)
    rw [e] at q'
    exact .inl ⟨j1 (by omega), k.nx _ _ _ _ _ (st.trans st') sl' q'.2⟩) (k.ex.at sl)⟩
/-! ### while -/
def wWhile (c : DTT) (b : DTS) : DTS := fun DD σ H => ∃ Iv : Nat → DS → DH → Prop, (∃ m, Iv m σ H) ∧ ∀ m σ H, Iv m σ H → c σ H (fun k H1 => if k = true
  then b { DD with nx := fun σ' H' => ∃ m', m' < m ∧ Iv m' σ' H', ct := fun σ' H' => ∃ m', m' < m ∧ Iv m' σ' H', bk := DD.nx } σ H1 else DD.nx σ H1) fun c fs H => DD.ex c fs σ H
def sWhile (c : BW C) (b : SW C) : SW C := ⟨fun W => tWhile (c.t W) (b.t W), wWhile c.w b.w, fun W Z HD H σD σ DD Dn s sl h k => by
  obtain ⟨Iv, ⟨m0, i0⟩, turn⟩ := h
  refine ⟨fun m σ' H' => ∃ Z' HD' σD', Step C Z HD H Z' HD' H' ∧ SlR C.K Z' σD' σ' ∧ Iv m σD' HD', ⟨m0, Z, HD, σD, Step.rfl s, sl, i0⟩, ?_⟩
  rintro m σ' H' ⟨Z', HD', σD', st', sl', iv⟩
  refine c.ok W Z' HD' H' σD' σ' _ _ _ st'.sim sl' (turn m σD' HD' iv) (fun Z1 HD1 H1 z st q => ?_) ((k.ex.mono st').at sl')
  have st1 := st'.trans st
  cases z with
  | true =>
    rw [if_pos rfl] at q ⊢
    refine ⟨fun σ2 H2 => ∃ m', m' < m ∧ ∃ Z' HD' σD', Step C Z HD H Z' HD' H2 ∧ SlR C.K Z' σD' σ2 ∧ Iv m' σD' HD', fun σ2 H2 w => w, ?_⟩
    have nn : KN C Z1 HD1 H1 (fun σ' H' => ∃ m', m' < m ∧ Iv m' σ' H') (fun σ2 H2 => ∃ m', m' < m ∧ ∃ Z' HD' σD', Step C Z HD H Z' HD' H2 ∧ SlR C.K Z' σD' σ2 ∧ Iv m' σD' HD') := fun Z2 HD2 H2 σD2 σ2 st2 sl2 q2 => by
      obtain ⟨m', hm, iv2⟩ := q2
      exact ⟨m', hm, Z2, HD2, σD2, st1.trans st2, sl2, iv2⟩
    exact b.ok W Z1 HD1 H1 σD' σ' _ _ st.sim (sl'.mono st.ext) q ⟨nn, k.rt.mono st1, k.nx.mono st1, nn, k.ex.mono st1⟩
  | false =>
    rw [if_neg Bool.false_ne_true] at q ⊢
    exact k.nx _ _ _ _ _ st1 (sl'.mono st.ext) q⟩
/-! ### comprehensions -/
def W0 : WX := fun _ _ _ _ => False
def wipeD (σ : DS) : List Nat → DS
  | [] => σ
  | v :: vs => (wipeD σ vs).set v none
theorem SlR.wipe {K : PySem.W.Frag} {Z : Hp} {σD : DS} {σ : St} (s : SlR K Z σD σ) : ∀ vs : List Nat, SlR K Z (wipeD σD vs) (L2.wipe σ vs)
  | [] => s
  | v :: vs => (SlR.wipe s vs).drop v
/-- a target that stores at the places vs alone -/
structure GvW (C : TC) (vs : List Nat) extends GW C where
  only : ∀ W v (σ : St) H Q, t W v σ H Q → t W v σ H fun σ2 H2 => Q σ2 H2 ∧ wipe σ2 vs = wipe σ vs
  weak : ∀ W v (σ : St) H (Q Q' : St → Hp → Prop), t W v σ H Q → (∀ σ2 H2, Q σ2 H2 → Q' σ2 H2) → t W v σ H Q'
theorem wipe_at (σ : St) (i : Nat) : ∀ vs : List Nat, (wipe σ vs)[i]? = if i ∈ vs then (σ[i]?).map (fun _ => none) else σ[i]?
  | [] => by simp [wipe]
  | v :: vs => by
    unfold wipe
    by_cases h : v = i
    · subst h
      rw [List.getElem?_set, if_pos rfl, if_pos List.mem_cons_self, wipe_length]
      by_cases hl : v < σ.length
      · rw [if_pos hl, List.getElem?_eq_getElem hl]; rfl
      · rw [if_neg hl, List.getElem?_eq_none (by omega)]; rfl
    · rw [List.getElem?_set_ne h, wipe_at σ i vs]
      by_cases hm : i ∈ vs
      · rw [if_pos hm, if_pos (List.mem_cons_of_mem _ hm)]
      · rw [if_neg hm, if_neg (by simp only [List.mem_cons, not_or]; exact ⟨fun e => h e.symm, hm⟩)]
theorem wipe_set {i : Nat} {x : Option V} {vs : List Nat} {σ : St} (h : i ∈ vs) : wipe (σ.set i x) vs = wipe σ vs := by
  apply List.ext_getElem?
  intro j
  rw [wipe_at, wipe_at]
  by_cases e : i = j
  · subst e
    rw [if_pos h, if_pos h, List.getElem?_set, if_pos rfl]
    by_cases hl : i < σ.length
    · rw [if_pos hl, List.getElem?_eq_getElem hl]; rfl
    · rw [if_neg hl, List.getElem?_eq_none (by omega)]
  · rw [List.getElem?_set_ne e]
theorem wipe_wipe (σ : St) (vs : List Nat) : wipe (wipe σ vs) vs = wipe σ vs := by
  apply List.ext_getElem?
  intro j
  rw [wipe_at, wipe_at]
  by_cases h : j ∈ vs
  · rw [if_pos h, if_pos h]
    cases σ[j]? <;> rfl
  · rw [if_neg h, if_neg h]
def gvName (i : Nat) : GvW C [i] := { gwName i with only := fun W v σ H Q h => ⟨h, wipe_set (List.mem_cons_self)⟩, weak := fun W v σ H Q Q' h w => w _ _ h }
/-- one turn of a comprehension, and those behind it: acc what is made so far -/
def lcD (gd : DH → Prop) (g : DTG) (tt : DTT) (te : DTE) (σ : DS) (k : List D → DH → Prop) : List D → List D → DH → Prop
  | [], acc, H => gd H ∧ k acc H
  | d :: r, acc, H => gd H ∧ g d σ H fun σ2 H2 => tt σ2 H2 (fun b H3 => if b = true then te σ2 H3 (fun y H4 => acc.length < sizeLine ∧ lcD gd g tt te σ k r (acc ++ [y]) H4) E0D else lcD gd g tt te σ k r acc H3) E0D
theorem lcD_gd {gd : DH → Prop} {g : DTG} {tt : DTT} {te : DTE} {σ : DS} {k : List D → DH → Prop} {ds acc : List D} {H : DH} (h : lcD gd g tt te σ k ds acc H) : gd H := by
  cases ds with
  | nil => exact h.1
  | cons d r => exact h.1
def bYes : BW C := ⟨fun _ => tYes, fun _ H Q _ => Q true H, fun W Z HD H σD σ QD ED Q s sl h k kx => k _ _ _ true (Step.rfl s) h⟩
def wLc (f : Bool) (vs : List Nat) (i : DTI) (g : DTG) (tt : DTT) (te : DTE) : DTE := fun σ H Q E => i σ H (fun ds gd H1 => lcD gd g tt te (wipeD σ vs) (fun acc H2 => newL f acc H2 Q) ds [] H1) E
def bLc (f : Bool) (vs : List Nat) (i : IW C) (g : GvW C vs) (tt : BW C) (te : TW C) : TW C := ⟨fun W => tLc (i.t W) (g.t W0) (tt.t W0) (te.t W0) vs, wLc f vs i.w g.w tt.w te.w, fun W Z HD H σD σ QD ED Q s sl h k kx => i.ok W Z HD H σD σ _ ED _ s sl h (fun Z1 HD1 H1 J ds gd st jok q => by
  intro L hL
  have sh := Step.hid (o := .lst []) st.sim hL
  have nL : ∀ a o, H1 a = some o → a ≠ L := fun a o h => ne_of_none h hL
  -- what holds ahead of turn n
  let P : Nat → Hp → Prop := fun n H' => n ≤ ds.length ∧ ∃ Z' HD' acc xs, Step C Z1 HD1 H1 Z' HD' H' ∧ H' L = some (.lst xs) ∧ HD' L = none ∧ Z' L = none ∧ Reps C.K Z' acc xs ∧
      lcD gd g.w tt.w te.w (wipeD σD vs) (fun acc H2 => newL f acc H2 QD) (ds.drop n) acc HD'
  refine ⟨fun n m H' => m = ds.length - n ∧ P n H', ⟨ds.length, by omega, Nat.zero_le _, Z1, HD1, [], [], sh, upd_same, (st.sim.free hL).2, (st.sim.free hL).1, rfl, q⟩, ?_⟩
  rintro n m H' ⟨rfl, hn, Z', HD', acc, xs, st', hl', hd', hz', r', q'⟩
  obtain ⟨j1, j2, j3⟩ := jok Z' HD' H' n st'.ext st'.sim (lcD_gd q')
  by_cases hlt : n < ds.length
  · have e : ds.drop n = ds[n] :: ds.drop (n + 1) := by rw [List.drop_eq_getElem_cons hlt]
    rw [e] at q'
    obtain ⟨_, q'⟩ := q'
    refine .inr ⟨j2 hlt, P (n + 1), fun H2 w => ⟨ds.length - (n + 1), by omega, rfl, w⟩, fun x H2 y => ?_⟩
    obtain ⟨Z2, st2, rx⟩ := j3 x H2 y ds[n] (List.getElem?_eq_getElem hlt)
    have slw := (sl.mono (st.trans (st'.trans st2)).ext).wipe vs
    have run : g.t W0 x (wipe σ vs) H2 fun σ2 H3 => tt.t W0 σ2 H3 fun b H4 => if b = true then te.t W0 σ2 H4 fun y H5 => ∃ acc, H5 L = some (.lst acc) ∧ acc.length < sizeLine ∧ P (n + 1) (upd H5 L (.lst (acc ++ [y])))
        else P (n + 1) H4 := by
      refine g.ok W0 Z2 HD' H2 _ _ ds[n] x _ _ st2.sim slw rx q' fun Z3 HD3 H3 σD3 σ3 st3 sl3 q3 => ?_
      refine tt.ok W0 Z3 HD3 H3 σD3 σ3 _ _ _ st3.sim sl3 q3 (fun Z4 HD4 H4 b st4 q4 => ?_) KX.none
      have st24 := st2.trans (st3.trans st4)
      obtain ⟨f1, f2, f3⟩ := st24.fr L _ hl' hd'
      cases b with
      | false =>
        rw [if_neg Bool.false_ne_true] at q4 ⊢
        exact ⟨hlt, Z4, HD4, acc, xs, st'.trans st24, f1, f2, f3.trans hz', Reps.mono st24.ext _ _ r', q4⟩
      | true =>
        rw [if_pos rfl] at q4 ⊢
        refine te.ok W0 Z4 HD4 H4 σD3 σ3 _ _ _ st4.sim (sl3.mono st4.ext) q4 (fun Z5 HD5 H5 d5 y5 st5 ry q5 => ?_) KX.none
        have st25 := st24.trans st5
        obtain ⟨f1, f2, f3⟩ := st25.fr L _ hl' hd'
        have r5 := Reps.mono st25.ext _ _ r'
        have sa := st'.trans st25
        refine ⟨xs, f1, by rw [r5.length]; exact q5.1, hlt, Z5, HD5, acc ++ [d5], xs ++ [y5], ⟨sa.ext, st5.sim.hidW f2 (f3.trans hz') (.lst (xs ++ [y5])), fun a o h1 h2 => ?_⟩, upd_same, f2, f3.trans hz', r5.append (Reps.cons ry Reps.nil), q5.2⟩
        obtain ⟨g1, g2, g3⟩ := sa.fr a o h1 h2
        exact ⟨by rw [upd_ne (nL a o h1)]; exact g1, g2, g3⟩
    have w := g.only W0 x (wipe σ vs) H2 _ run
    exact g.weak W0 x (wipe σ vs) H2 _ _ w fun σ2 H3 z => ⟨z.2.trans (wipe_wipe σ vs), z.1⟩
  · have e : ds.drop n = [] := List.drop_eq_nil_of_le (by omega)
    rw [e] at q'
    have sa := st.trans st'
    have nH : ∀ a o, H a = some o → HD a = none → a ≠ L := fun a o h1 h2 => nL a o (st.fr a o h1 h2).1
    refine .inl ⟨j1 (by omega), ?_⟩
    have q2 : newL f acc HD' QD := q'.2
    cases f with
    | true =>
      refine k.at (show QD (.lst acc) HD' from q2) (Z' := upd Z' L (.lst xs)) ⟨sa.ext.trans (.upd hz'), st'.sim.hidZ hd' hz' hl', fun a o h1 h2 => ?_⟩ ⟨L, xs, rfl, upd_same, Reps.mono (.upd hz') _ _ r'⟩
      obtain ⟨g1, g2, g3⟩ := sa.fr a o h1 h2
      exact ⟨g1, g2, by rw [upd_ne (nH a o h1 h2)]; exact g3⟩
    | false =>
      refine k.at (show QD (.ref L) (updD HD' L (.lst acc)) from q2 L hd') (Z' := Z') ⟨sa.ext, st'.sim.hidM hz' ⟨xs, hl', r'⟩, fun a o h1 h2 => ?_⟩ rfl
      obtain ⟨g1, g2, g3⟩ := sa.fr a o h1 h2
      exact ⟨g1, by rw [updD_ne (nH a o h1 h2)]; exact g2, g3⟩) kx⟩
end
end G
set_option Elab.async false
set_option linter.all false
set_option maxRecDepth 100000
/-! Methods, fields, calls, new instances, exceptions, defs over data. -/
namespace G
open PySem PySem.Spec PyProof.Rows L2
section
variable {C : TC}
/-! ### methods of built-in types -/
structure Mt (C : TC) where
  T : String
  r : V → List V → Hp → VK → Prop
  w : D → List D → DH → DQ → Prop
  /-- what is asked of the receiver ahead of the arguments -/
  ty : D → DH → Prop
  tok : ∀ Z HD H d x, Sim C Z HD H → Rep C.K Z d x → ty d HD → tyV C.K T x H
  ok : ∀ Z HD H d ds x xs QD Q, Sim C Z HD H → Rep C.K Z d x → Reps C.K Z ds xs → w d ds HD QD → KQ C Z HD H QD Q → r x xs H Q
def wM (ty : D → DH → Prop) (m : D → List D → DH → DQ → Prop) (o : DTE) (a : DTA) : DTE := fun σ H Q E => o σ H (fun x H1 => ty x H1 ∧ a σ H1 (fun ds H2 => m x ds H2 Q) E) E
def bM (m : Mt C) (o : TW C) (a : AW C) : TW C := ⟨fun W => tBM C.K m.T m.r (o.t W) (a.t W), wM m.ty m.w o.w a.w, fun W Z HD H σD σ QD ED Q s sl h k kx => o.ok W Z HD H σD σ _ ED _ s sl h (fun Z1 HD1 H1 d x st rx q =>
  ⟨m.tok _ _ _ _ _ st.sim rx q.1, a.ok W Z1 HD1 H1 σD σ _ ED _ st.sim (sl.mono st.ext) q.2 (fun Z2 HD2 H2 ds xs st2 rs q2 => m.ok _ _ _ _ _ _ _ _ _ st2.sim (Rep.mono st2.ext _ _ rx) rs q2 (k.mono (st.trans st2))) (kx.mono st)⟩) kx⟩
def wM0 (ty : D → DH → Prop) (m : D → List D → DH → DQ → Prop) (o : DTE) : DTE := fun σ H Q E => o σ H (fun x H1 => ty x H1 ∧ m x [] H1 Q) E
def bM0 (m : Mt C) (o : TW C) : TW C := ⟨fun W => tBM0 C.K m.T m.r (o.t W), wM0 m.ty m.w o.w, fun W Z HD H σD σ QD ED Q s sl h k kx => o.ok W Z HD H σD σ _ ED _ s sl h (fun Z1 HD1 H1 d x st rx q =>
  ⟨m.tok _ _ _ _ _ st.sim rx q.1, m.ok _ _ _ _ [] _ [] _ _ st.sim rx rfl q.2 (k.mono st)⟩) kx⟩
def tyLst (d : D) (H : DH) : Prop := (lstD H d).isSome = true
theorem tyLst_ok {Z : Hp} {HD : DH} {H : Hp} {d : D} {x : V} (s : Sim C Z HD H) (r : Rep C.K Z d x) (h : tyLst d HD) : tyV C.K "list" x H := by
  obtain ⟨ds, e⟩ := Option.isSome_iff_exists.mp h
  obtain ⟨a, xs, e2, h1, _⟩ := lstD_ok s r e
  subst e2
  exact .inl ⟨rfl, xs, h1⟩
/-- the list that stands at the address -/
def onL (H : DH) (d : D) (p : Addr → List D → Prop) : Prop := match d with
  | .ref l => optP (H l) fun o => match o with
    | .lst ds => p l ds
    | _ => False
  | _ => False
theorem onL_ok {Z : Hp} {HD : DH} {H : Hp} {d : D} {x : V} {p : Addr → List D → Prop} (s : Sim C Z HD H) (r : Rep C.K Z d x) (h : onL HD d p) : ∃ l ds xs, d = .ref l ∧ x = .ref l ∧ HD l = some (.lst ds) ∧ H l = some (.lst xs) ∧ Reps C.K Z ds xs ∧ p l ds := by
  unfold onL at h
  split at h
  · rename_i l
    obtain ⟨o, e, h⟩ := optP_some h
    split at h
    · rename_i ds
      obtain ⟨_, xs, ex, r1⟩ := s.hd _ _ e
      exact ⟨l, ds, xs, rfl, r, e, ex, r1, h⟩
    · exact h.elim
  · exact h.elim
def mLst (r : V → List V → Hp → VK → Prop) (w : D → List D → DH → DQ → Prop) (ok : ∀ Z HD H d ds x xs QD Q, Sim C Z HD H → Rep C.K Z d x → Reps C.K Z ds xs → w d ds HD QD → KQ C Z HD H QD Q → r x xs H Q) : Mt C :=
  ⟨"list", r, w, tyLst, fun Z HD H d x s rx h => tyLst_ok s rx h, ok⟩
def dAppend (d : D) (as : List D) (H : DH) (Q : DQ) : Prop := match as with
  | [a] => onL H d fun l ds => ds.length < sizeLine ∧ Q .non (updD H l (.lst (ds ++ [a])))
  | _ => False
def mAppend : Mt C := mLst rAppend dAppend fun Z HD H d ds x xs QD Q s rx rs q k => by
  unfold dAppend at q
  split at q
  · obtain ⟨v, rfl, rv⟩ := one_of rs
    obtain ⟨l, ys, us, rfl, rfl, e, ex, r1, q1, q2⟩ := onL_ok s rx q
    exact ⟨l, us, v, rfl, rfl, ex, by rw [r1.length]; exact q1, k.at q2 (Step.write s e ⟨_, rfl, r1.append (Reps.cons rv Reps.nil)⟩) rfl⟩
  · exact q.elim
theorem Reps.dropLast {K : PySem.W.Frag} {Z : Hp} {ds : List D} {vs : List V} (r : Reps K Z ds vs) : Reps K Z ds.dropLast vs.dropLast := by
  rw [List.dropLast_eq_take, List.dropLast_eq_take, r.length]
  exact r.take _
def dPop (d : D) (as : List D) (H : DH) (Q : DQ) : Prop := match as with
  | [] => onL H d fun l ds => optP (ds[ds.length - 1]?) fun y => Q y (updD H l (.lst ds.dropLast))
  | _ => False
def mPop0 : Mt C := mLst rPop dPop fun Z HD H d ds x xs QD Q s rx rs q k => by
  unfold dPop at q
  split at q
  · obtain ⟨l, ys, us, rfl, rfl, e, ex, r1, q⟩ := onL_ok s rx q
    obtain ⟨y, ey, q⟩ := optP_some q
    obtain ⟨v, hv, rv⟩ := r1.get ey
    rw [← r1.length] at hv
    exact ⟨l, us, v, rfl, rs, ex, hv, k.at q (Step.write s e ⟨_, rfl, r1.dropLast⟩) rv⟩
  · exact q.elim
def dPopAt (d : D) (as : List D) (H : DH) (Q : DQ) : Prop := match as with
  | [.int i] => onL H d fun l ds => (-(2 ^ 63) ≤ i ∧ i < 2 ^ 63) ∧ optP (seqIndex? i ds.length) fun k => optP (ds[k]?) fun y => Q y (updD H l (.lst (ds.eraseIdx k)))
  | _ => False
def mPopAt : Mt C := mLst rPopAt dPopAt fun Z HD H d ds x xs QD Q s rx rs q k => by
  unfold dPopAt at q
  split at q
  · rename_i i
    obtain ⟨v, rfl, rv⟩ := one_of rs
    obtain ⟨l, ys, us, rfl, rfl, e, ex, r1, ⟨q1, q2⟩, q⟩ := onL_ok s rx q
    obtain ⟨j, ej, q⟩ := optP_some q
    obtain ⟨y, ey, q⟩ := optP_some q
    obtain ⟨u, hu, ru⟩ := r1.get ey
    rw [show v = V.int i from rv]
    exact ⟨l, us, i, j, u, rfl, rfl, ex, q1, q2, by rw [r1.length]; exact ej, hu, k.at q (Step.write s e ⟨_, rfl, r1.eraseIdx j⟩) ru⟩
  · exact q.elim
def dExtend (d : D) (as : List D) (H : DH) (Q : DQ) : Prop := match as with
  | [.lst es] => onL H d fun l ds => ds.length + es.length ≤ sizeLine ∧ Q .non (updD H l (.lst (ds ++ es)))
  | [.ref b] => onL H d fun l ds => onL H (.ref b) fun _ es => ds.length + es.length ≤ sizeLine ∧ Q .non (updD H l (.lst (ds ++ es)))
  | _ => False
def mExtend : Mt C := mLst rExtend dExtend fun Z HD H d ds x xs QD Q s rx rs q k => by
  unfold dExtend at q
  split at q
  · rename_i es
    obtain ⟨v, rfl, rv⟩ := one_of rs
    obtain ⟨b, zs, rfl, hb, rb⟩ := rv
    obtain ⟨l, ys, us, rfl, rfl, e, ex, r1, q1, q⟩ := onL_ok s rx q
    have l1 := r1.length
    have l2 := rb.length
    exact ⟨l, b, us, zs, rfl, rfl, ex, s.fz _ _ hb, by omega, k.at q (Step.write s e ⟨_, rfl, r1.append rb⟩) rfl⟩
  · rename_i b
    obtain ⟨v, rfl, rv⟩ := one_of rs
    obtain ⟨l, ys, us, rfl, rfl, e, ex, r1, q⟩ := onL_ok s rx q
    obtain ⟨b', es, zs, e1, e2, _, exb, rb, q1, q⟩ := onL_ok s (show Rep C.K Z (.ref b) v from rv) q
    subst e2
    have l1 := r1.length
    have l2 := rb.length
    exact ⟨l, b', us, zs, rfl, rfl, ex, exb, by omega, k.at q (Step.write s e ⟨_, rfl, r1.append rb⟩) rfl⟩
  · exact q.elim
def rInsert : V → List V → Hp → VK → Prop := fun x vs H Q => ∃ (l : Addr) (xs : List V) (i : Int) (y : V), x = .ref l ∧ vs = [.int i, y] ∧ H l = some (.lst xs) ∧ xs.length < sizeLine ∧ 0 ≤ i ∧ i < 2 ^ 63 ∧
    Q .non (upd H l (.lst (xs.take i.toNat ++ [y] ++ xs.drop i.toNat)))
def dInsert (d : D) (as : List D) (H : DH) (Q : DQ) : Prop := match as with
  | [.int i, y] => onL H d fun l ds => ds.length < sizeLine ∧ 0 ≤ i ∧ i < 2 ^ 63 ∧ Q .non (updD H l (.lst (ds.take i.toNat ++ [y] ++ ds.drop i.toNat)))
  | _ => False
def mInsert : Mt C := mLst rInsert dInsert fun Z HD H d ds x xs QD Q s rx rs q k => by
  unfold dInsert at q
  split at q
  · obtain ⟨v, u, rfl, rv, ru⟩ := two_of rs
    obtain ⟨l, ys, us, rfl, rfl, e, ex, r1, q1, q2, q3, q⟩ := onL_ok s rx q
    rw [show v = V.int _ from rv]
    exact ⟨l, us, _, u, rfl, rfl, ex, by rw [r1.length]; exact q1, q2, q3, k.at q (Step.write s e ⟨_, rfl, ((r1.take _).append (Reps.cons ru Reps.nil)).append (r1.drop _)⟩) rfl⟩
  · exact q.elim
/-! ### fields of instances -/
/-- what the class x must say, so that its instances' field f is read and stored plainly -/
structure ClsF (K : PySem.W.Frag) (x f : Str) : Prop where
  cl : Cls K (clsA K x)
  no : NoAttr K (clsA K x) f
/-- the instance at the address -/
def onI (H : DH) (d : D) (p : Addr → Str → List (Str × D) → Prop) : Prop := match d with
  | .ref l => optP (H l) fun o => match o with
    | .ins cn fs => p l cn fs
    | _ => False
  | _ => False
theorem onI_ok {Z : Hp} {HD : DH} {H : Hp} {d : D} {x : V} {p : Addr → Str → List (Str × D) → Prop} (s : Sim C Z HD H) (r : Rep C.K Z d x) (h : onI HD d p) : ∃ l cn fs dx vs, d = .ref l ∧ x = .ref l ∧ HD l = some (.ins cn fs) ∧ H l = some (.ins (clsA C.K cn) dx vs) ∧ RepF C.K Z fs vs ∧ p l cn fs := by
  unfold onI at h
  split at h
  · rename_i l
    obtain ⟨o, e, h⟩ := optP_some h
    split at h
    · rename_i cn fs
      obtain ⟨_, dx, vs, ex, r1⟩ := s.hd _ _ e
      exact ⟨l, cn, fs, dx, vs, rfl, r, e, ex, r1, h⟩
    · exact h.elim
  · exact h.elim
/-- cs: the classes that it may be -/
def wFld (cs : List Str) (f : Str) (o : DTE) : DTE := fun σ H Q E => o σ H (fun x H1 => onI H1 x fun _ cn fs => cn ∈ cs ∧ optP (fs.lookup f) fun d => Q d H1) E
def bFld (cs : List Str) (f : Str) (hc : ∀ c ∈ cs, ClsF C.K c f) (o : TW C) : TW C := ⟨fun W => tFld C.K (o.t W) f, wFld cs f o.w, fun W Z HD H σD σ QD ED Q s sl h k kx => o.ok W Z HD H σD σ _ ED _ s sl h (fun Z1 HD1 H1 d x st rx q => by
  obtain ⟨l, cn, fs, dx, vs, rfl, rfl, e, ex, r1, q1, q⟩ := onI_ok st.sim rx q
  obtain ⟨y, ey, q⟩ := optP_some q
  have w := RepF.lookup (f := f) r1
  rw [ey] at w
  obtain ⟨v, hv, rv⟩ := w
  exact ⟨l, _, dx, vs, v, rfl, ex, (hc cn q1).cl, (hc cn q1).no, hv, k.at q st rv⟩) kx⟩
def putFD (f : Str) (v : D) : List (Str × D) → List (Str × D)
  | [] => [(f, v)]
  | (g, x) :: r => if g = f then (g, v) :: r else (g, x) :: putFD f v r
theorem RepF.put {K : PySem.W.Frag} {Z : Hp} {f : Str} {d : D} {v : V} (rv : Rep K Z d v) : ∀ {fs : List (Str × D)} {vs : List (Str × V)}, RepF K Z fs vs → RepF K Z (putFD f d fs) (putF f v vs)
  | [], _, h => by rw [show _ = [] from h]; exact ⟨v, [], rfl, rv, rfl⟩
  | (g, x) :: r, vs, h => by
    obtain ⟨y, r', e, h1, h2⟩ := h
    rw [e]
    unfold putFD putF
    by_cases q : g = f
    · rw [if_pos q, if_pos q]; exact ⟨v, r', rfl, rv, h2⟩
    · rw [if_neg q, if_neg q]; exact ⟨y, _, rfl, h1, RepF.put rv h2⟩
def wSFld (cs : List Str) (f : Str) (o v : DTE) : DTS := fun DD σ H => v σ H (fun y H1 => o σ H1 (fun x H2 => onI H2 x fun l cn fs => cn ∈ cs ∧ fs.length < 1000 ∧ DD.nx σ (updD H2 l (.ins cn (putFD f y fs)))) fun c fs H => DD.ex c fs σ H) fun c fs H => DD.ex c fs σ H
def sSFld (cs : List Str) (f : Str) (hc : ∀ c ∈ cs, ClsF C.K c f) (o v : TW C) : SW C := ⟨fun W => sFld C.K (o.t W) (v.t W) f, wSFld cs f o.w v.w, fun W Z HD H σD σ DD Dn s sl h k =>
  two (R := fun y x H2 => ∃ a A dx fs, x = .ref a ∧ H2 a = some (.ins A dx fs) ∧ Cls C.K A ∧ NoAttr C.K A f ∧ fs.length < 1000 ∧ Dn.nx σ (upd H2 a (.ins A dx (putF f y fs)))) s sl h (k.ex.at sl) fun Z1 HD1 H1 d e y x st ry rx q => by
    obtain ⟨l, cn, fs, dx, vs, rfl, rfl, e, ex, r1, q1, q2, q⟩ := onI_ok st.sim rx q
    have st2 := Step.write (u := .ins cn (putFD f d fs)) (o := .ins (clsA C.K cn) dx (putF f y vs)) st.sim e ⟨dx, _, rfl, r1.put ry⟩
    exact ⟨l, _, dx, vs, rfl, ex, (hc cn q1).cl, (hc cn q1).no, by rw [r1.length]; exact q2, k.nx _ _ _ _ _ (st.trans st2) (sl.mono (st.trans st2).ext) q⟩⟩
/-! ### a def's promise, lifted; its call -/
abbrev plainC (K : PySem.W.Frag) : TC := ⟨K, none⟩
def lift (K : PySem.W.Frag) (n : Nat) (sp : DSp) : Sp := fun vs H Q E => ∃ Z HD ds QD ED, Sim (plainC K) Z HD H ∧ Reps K Z ds vs ∧ ds.length = n ∧ sp ds HD QD ED ∧ KQ (plainC K) Z HD H QD Q ∧ KX (plainC K) Z HD H ED E
theorem Sim.plain {Z : Hp} {HD : DH} {H : Hp} (s : Sim C Z HD H) : Sim (plainC C.K) Z HD H := ⟨s.fz, s.hd, trivial⟩
theorem Step.back {Z Z' : Hp} {HD HD' : DH} {H H' : Hp} (s : Sim C Z HD H) (st : Step (plainC C.K) Z HD H Z' HD' H') : Step C Z HD H Z' HD' H' := ⟨st.ext, ⟨st.sim.fz, st.sim.hd, s.xi.mono st.ext⟩, st.fr⟩
theorem Step.plain {Z Z' : Hp} {HD HD' : DH} {H H' : Hp} (st : Step C Z HD H Z' HD' H') : Step (plainC C.K) Z HD H Z' HD' H' := ⟨st.ext, st.sim.plain, st.fr⟩
def wCall (n : Nat) (sp : DSp) (a : DTA) : DTE := fun σ H Q E => a σ H (fun ds H1 => ds.length = n ∧ sp ds H1 Q E) E
def bCall (n : Nat) (sp : DSp) (a : AW C) : TW C := ⟨fun W => tCallS (lift C.K n sp) (WE W) (a.t W), wCall n sp a.w, fun W Z HD H σD σ QD ED Q s sl h k kx => a.ok W Z HD H σD σ _ ED _ s sl h (fun Z1 HD1 H1 ds xs st rs q =>
  ⟨Z1, HD1, ds, QD, ED, st.sim.plain, rs, q.1, q.2, fun Z2 HD2 H2 d v st2 rv q2 => k.at q2 (st.trans (Step.back st.sim st2)) rv, fun Z2 HD2 H2 cn fs dd vs st2 hz rf q2 => kx _ _ _ _ _ _ _ (st.trans (Step.back st.sim st2)) hz rf q2⟩) kx⟩
/-- with keywords: gD puts the positional values and the keywords' values in the parameters' order -/
def tCallKS (sp : Sp) (gV : List V → List V → List V) (E : St → XK) (t tk : TA) : TE := fun σ H Q => t σ H fun vs H1 => tk σ H1 fun zs H2 => sp (gV vs zs) H2 Q (E σ)
def wCallK (n : Nat) (sp : DSp) (gD : List D → List D → List D) (a b : DTA) : DTE := fun σ H Q E => a σ H (fun ds H1 => b σ H1 (fun es H2 => (gD ds es).length = n ∧ sp (gD ds es) H2 Q E) E) E
/-- an order of arguments: places in the positional ones (inl) and in the keywords' (inr) -/
def ordOf {α : Type} [Inhabited α] (o : List (Sum Nat Nat)) (us ws : List α) : List α := o.map fun p => match p with
  | .inl i => us.getD i default
  | .inr i => ws.getD i default
theorem getD_rep {K : PySem.W.Frag} {Z : Hp} {ds : List D} {vs : List V} (r : Reps K Z ds vs) (i : Nat) : Rep K Z (ds.getD i .non) (vs.getD i .non) := by
  rw [List.getD_eq_getElem?_getD, List.getD_eq_getElem?_getD]
  by_cases h : i < ds.length
  · have e := List.getElem?_eq_getElem h
    obtain ⟨v, hv, rv⟩ := r.get e
    rw [e, hv]; exact rv
  · rw [List.getElem?_eq_none (by omega), List.getElem?_eq_none (by rw [r.length]; omega)]; rfl
def ordD (o : List (Sum Nat Nat)) (us ws : List D) : List D := o.map fun p => match p with
  | .inl i => us.getD i .non
  | .inr i => ws.getD i .non
def ordV (o : List (Sum Nat Nat)) (us ws : List V) : List V := o.map fun p => match p with
  | .inl i => us.getD i .non
  | .inr i => ws.getD i .non
theorem ord_rep {K : PySem.W.Frag} {Z : Hp} {ds es : List D} {vs us : List V} (r : Reps K Z ds vs) (r' : Reps K Z es us) : ∀ o : List (Sum Nat Nat), Reps K Z (ordD o ds es) (ordV o vs us)
  | [] => rfl
  | .inl i :: o => Reps.cons (getD_rep r i) (ord_rep r r' o)
  | .inr i :: o => Reps.cons (getD_rep r' i) (ord_rep r r' o)
def bCallK (n : Nat) (sp : DSp) (o : List (Sum Nat Nat)) (a b : AW C) : TW C := ⟨fun W => tCallKS (lift C.K n sp) (ordV o) (WE W) (a.t W) (b.t W), wCallK n sp (ordD o) a.w b.w, fun W Z HD H σD σ QD ED Q s sl h k kx => a.ok W Z HD H σD σ _ ED _ s sl h (fun Z1 HD1 H1 ds xs st rs q =>
  b.ok W Z1 HD1 H1 σD σ _ ED _ st.sim (sl.mono st.ext) q (fun Z2 HD2 H2 es ys st2 rs2 q2 => ⟨Z2, HD2, _, QD, ED, st2.sim.plain, ord_rep (Reps.mono st2.ext _ _ rs) rs2 o, q2.1, q2.2,
    fun Z3 HD3 H3 d v st3 rv q3 => k.at q3 ((st.trans st2).trans (Step.back st2.sim st3)) rv, fun Z3 HD3 H3 cn fs dd vs st3 hz rf q3 => kx _ _ _ _ _ _ _ ((st.trans st2).trans (Step.back st2.sim st3)) hz rf q3⟩) (kx.mono st)) kx⟩
/-! ### a new instance of an own class -/
def tMakeS (A : Addr) (sp : Sp) (E : St → XK) (t : TA) : TE := fun σ H Q => t σ H fun vs H1 => ∀ x dx, H1 x = none → H1 dx = none → dx ≠ x →
  sp (.ref x :: vs) (upd (upd H1 dx (.own x)) x (.ins A dx [])) (fun v H2 => v = .non ∧ Q (.ref x) H2) (E σ)
def wMake (cn : Str) (n : Nat) (sp : DSp) (a : DTA) : DTE := fun σ H Q E => a σ H (fun ds H1 => ds.length + 1 = n ∧ ∀ x, H1 x = none → sp (.ref x :: ds) (updD H1 x (.ins cn [])) (fun d H2 => d = .non ∧ Q (.ref x) H2) E) E
theorem V.ref_none {Z : Hp} {v : V} (r : Rep C.K Z .non v) : v = .non := r
def bMake (cn : Str) (n : Nat) (sp : DSp) (a : AW C) : TW C := ⟨fun W => tMakeS (clsA C.K cn) (lift C.K n sp) (WE W) (a.t W), wMake cn n sp a.w, fun W Z HD H σD σ QD ED Q s sl h k kx => a.ok W Z HD H σD σ _ ED _ s sl h (fun Z1 HD1 H1 ds xs st rs q => by
  intro x dx hx hdx hne
  have st1 := Step.hid (o := .own x) st.sim hdx
  have hx1 : upd H1 dx (.own x) x = none := by rw [upd_ne (Ne.symm hne)]; exact hx
  have st2 := Step.newM (o := .ins (clsA C.K cn) dx []) (u := .ins cn []) st1.sim hx1 ⟨dx, [], rfl, rfl⟩
  have st3 := st.trans (st1.trans st2)
  refine ⟨Z1, _, .ref x :: ds, _, ED, st2.sim.plain, Reps.cons rfl (Reps.mono (st1.trans st2).ext _ _ rs), by rw [List.length_cons]; exact q.1, q.2 x (st.sim.free hx).2, fun Z4 HD4 H4 d v st4 rv q4 => ?_, fun Z4 HD4 H4 cn' fs dd vs st4 hz rf q4 => ?_⟩
  · obtain ⟨e, q4⟩ := q4
    subst e
    exact ⟨rv, k.at q4 (st3.trans (Step.back st2.sim st4)) rfl⟩
  · exact kx _ _ _ _ _ _ _ (st3.trans (Step.back st2.sim st4)) hz rf q4) kx⟩
/-! ### raise -/
/-- an exception of the class cn is made and raised: its fields fs get the arguments' values -/
def mkF {α : Type} (fs : List Str) (vs : List α) : List (Str × α) := fs.zip vs
theorem mkF_rep {K : PySem.W.Frag} {Z : Hp} : ∀ {fs : List Str} {ds : List D} {vs : List V}, Reps K Z ds vs → RepF K Z (mkF fs ds) (mkF fs vs)
  | [], _, _, _ => rfl
  | f :: fs, [], vs, h => by rw [show vs = [] from h]; rfl
  | f :: fs, d :: ds, vs, h => by
    obtain ⟨v, r, e, h1, h2⟩ := h
    rw [e]
    exact ⟨v, _, rfl, h1, mkF_rep h2⟩
/-- the reading of C(e, ..) as an exception, its fields in the order in which they are stored -/
def tMkX (A : Addr) (fs : List Str) (ta : TA) : L2.St → Hp → XK → Prop := fun σ H Q => ta σ H fun vs H1 => vs.length = fs.length ∧ ∀ d, H1 d = none → Q (.ref A) (some d) (upd H1 d (.xd (mkF fs vs)))
def wRaise (cn : Str) (fs : List Str) (a : DTA) : DTS := fun DD σ H => a σ H (fun ds H1 => ds.length = fs.length ∧ DD.ex cn (mkF fs ds) σ H1) fun c fs H => DD.ex c fs σ H
def sRaise (cn : Str) (fs : List Str) (a : AW C) : SW C := ⟨fun W => fun _ σ H => tMkX (clsA C.K cn) fs (a.t W) σ H fun cls d H' => W cls d σ H', wRaise cn fs a.w, fun W Z HD H σD σ DD Dn s sl h k => a.ok W Z HD H σD σ _ _ _ s sl h (fun Z1 HD1 H1 ds xs st rs q =>
  ⟨by rw [rs.length]; exact q.1, fun d hd => by
    have st1 := Step.newZ st.sim hd (.xd (mkF fs xs))
    exact k.ex _ _ _ _ _ cn (mkF fs ds) d (mkF fs xs) (st.trans st1) (sl.mono (st.trans st1).ext) upd_same (mkF_rep (Reps.mono st1.ext _ _ rs)) q.2⟩) (k.ex.at sl)⟩
/-! ### try .. except X [as n] -/
/-- an except suite: what its reading and what its reading over data hang on -/
structure XSW (K : PySem.W.Frag) where
  t : Addr → Value → Option Addr → TS
  w : Addr → Str → List (Str × D) → DTS
  ok : ∀ e : Exc, SS ⟨K, some e⟩ W0 (t e.a e.cls (some e.dd)) (w e.a e.cn e.fs)
/-- which exceptions the clause takes -/
structure Hit (K : PySem.W.Frag) where
  c : Value
  tab : Str → Option Bool
  ok : ∀ cn b, tab cn = some b → PySem.W.exmOne K (.ref (clsA K cn)) c = some b
def noEx : Str → List (Str × D) → DS → DH → Prop := fun _ _ _ _ => False
def wTry (tab : Str → Option Bool) (b : DTS) (h : Addr → Str → List (Str × D) → DTS) : DTS := fun DD σ H => b { DD with ex := fun cn fs σ' H' => optP (tab cn) fun k => if k = true then ∀ a, H' a = none → h a cn fs { DD with ex := noEx } σ' H' else DD.ex cn fs σ' H' } σ H
theorem KS.suite {K : PySem.W.Frag} {Z Z' : Hp} {HD HD' : DH} {H H' : Hp} {W : WX} {DD : DEnds} {Dn : Ends} {e : Exc} (k : KS (plainC K) Z HD H W DD Dn) (st : Step (plainC K) Z HD H Z' HD' H') : KS ⟨K, some e⟩ Z' HD' H' W0 { DD with ex := noEx } Dn :=
  ⟨fun Z2 HD2 H2 σD σ st2 sl q => k.nx _ _ _ _ _ (st.trans st2.plain) sl q, fun Z2 HD2 H2 d v st2 r q => k.rt.at q (st.trans st2.plain) r, fun Z2 HD2 H2 σD σ st2 sl q => k.bk _ _ _ _ _ (st.trans st2.plain) sl q,
    fun Z2 HD2 H2 σD σ st2 sl q => k.ct _ _ _ _ _ (st.trans st2.plain) sl q, fun Z2 HD2 H2 σD σ cn fs dd vs st2 sl hz rf q => q.elim⟩
def sTry {K : PySem.W.Frag} (h : Hit K) (b : SW (plainC K)) (su : XSW K) : SW (plainC K) := ⟨fun W => fun Dn σ H => b.t (wOnly K h.c su.t W Dn) Dn σ H, wTry h.tab b.w su.w, fun W Z HD H σD σ DD Dn s sl hh k =>
  b.ok _ Z HD H σD σ { DD with ex := fun cn fs σ' H' => optP (h.tab cn) fun k => if k = true then ∀ a, H' a = none → su.w a cn fs { DD with ex := noEx } σ' H' else DD.ex cn fs σ' H' } Dn s sl hh
    ⟨k.nx, k.rt, k.bk, k.ct, fun Z1 HD1 H1 σD1 σ1 cn fs dd vs st sl1 hz rf q => by
      obtain ⟨bb, eb, q⟩ := optP_some q
      refine ⟨bb, h.ok cn bb eb, fun e a ha => ?_, fun e => ?_⟩
      · subst e
        rw [if_pos rfl] at q
        exact su.ok ⟨a, .ref (clsA K cn), dd, cn, fs⟩ Z1 HD1 H1 σD1 σ1 _ _ ⟨st.sim.fz, st.sim.hd, rfl, vs, hz, rf⟩ sl1 (q a (st.sim.free ha).2) (k.suite st)
      · subst e
        rw [if_neg Bool.false_ne_true] at q
        exact k.ex _ _ _ _ _ cn fs dd vs st sl1 hz rf q⟩⟩
def wTryAs (i : Nat) (tab : Str → Option Bool) (b : DTS) (h : Addr → Str → List (Str × D) → DTS) : DTS := fun DD σ H => b { DD with ex := fun cn fs σ' H' => optP (tab cn) fun k => if k = true then ∀ a, H' a = none → h a cn fs { DD with ex := noEx, nx := fun σ H => DD.nx (σ.set i none) H, bk := fun σ H => DD.bk (σ.set i none) H, ct := fun σ H => DD.ct (σ.set i none) H } (σ'.set i (some (.ref a))) H' else DD.ex cn fs σ' H' } σ H
def sTryAs {K : PySem.W.Frag} (i : Nat) (h : Hit K) (b : SW (plainC K)) (su : XSW K) : SW (plainC K) := ⟨fun W => fun Dn σ H => b.t (wAs K h.c i su.t W Dn) Dn σ H, wTryAs i h.tab b.w su.w, fun W Z HD H σD σ DD Dn s sl hh k =>
  b.ok _ Z HD H σD σ { DD with ex := fun cn fs σ' H' => optP (h.tab cn) fun k => if k = true then ∀ a, H' a = none → su.w a cn fs { DD with ex := noEx, nx := fun σ H => DD.nx (σ.set i none) H, bk := fun σ H => DD.bk (σ.set i none) H, ct := fun σ H => DD.ct (σ.set i none) H } (σ'.set i (some (.ref a))) H' else DD.ex cn fs σ' H' } Dn s sl hh
    ⟨k.nx, k.rt, k.bk, k.ct, fun Z1 HD1 H1 σD1 σ1 cn fs dd vs st sl1 hz rf q => by
      obtain ⟨bb, eb, q⟩ := optP_some q
      refine ⟨bb, h.ok cn bb eb, fun e a ha => ?_, fun e => ?_⟩
      · subst e
        rw [if_pos rfl] at q
        refine su.ok ⟨a, .ref (clsA K cn), dd, cn, fs⟩ Z1 HD1 H1 _ _ _ _ ⟨st.sim.fz, st.sim.hd, rfl, vs, hz, rf⟩ (sl1.set (show Rep K Z1 (.ref a) (.ref a) from rfl) i) (q a (st.sim.free ha).2) ?_
        exact ⟨fun Z2 HD2 H2 σD σ st2 sl q => k.nx _ _ _ _ _ (st.trans st2.plain) (sl.drop i) q, fun Z2 HD2 H2 d v st2 r q => k.rt.at q (st.trans st2.plain) r, fun Z2 HD2 H2 σD σ st2 sl q => k.bk _ _ _ _ _ (st.trans st2.plain) (sl.drop i) q,
          fun Z2 HD2 H2 σD σ st2 sl q => k.ct _ _ _ _ _ (st.trans st2.plain) (sl.drop i) q, fun Z2 HD2 H2 σD σ cn fs dd vs st2 sl hz rf q => q.elim⟩
      · subst e
        rw [if_neg Bool.false_ne_true] at q
        exact k.ex _ _ _ _ _ cn fs dd vs st sl1 hz rf q⟩⟩
end
end G
set_option Elab.async false
set_option linter.all false
set_option maxRecDepth 100000
/-! The rules: the text has the readings of the bundles. -/
namespace G
open PySem PySem.Spec PyProof.Rows L2
/-! ### more bundles -/
section
variable {C : TC}
def wUn (r : D → DH → DQ → Prop) (a : DTE) : DTE := fun σ H Q E => a σ H (fun x H1 => r x H1 Q) E
def dNeg : D → DH → DQ → Prop
  | .int i, H, Q => Q (.int (-i)) H
  | _, _, _ => False
def bNeg (a : TW C) : TW C := ⟨fun W => tUn (rU fun i => .int (-i)) (a.t W), wUn dNeg a.w, fun W Z HD H σD σ QD ED Q s sl h k kx => a.ok W Z HD H σD σ _ ED _ s sl h (fun Z1 HD1 H1 d x st rx q => by
  unfold dNeg at q
  split at q
  · exact ⟨_, rx, k.at q st rfl⟩
  · exact q.elim) kx⟩
/-! a dict's display -/
def trsOf (ps : List (Key × TW C)) (W : WX) : List (TE × TE) := ps.map fun p => (tC (kV p.1), p.2.t W)
def wPairs : List (Key × TW C) → DS → DH → (List (Key × D) → DH → Prop) → DX1 → Prop
  | [], _, H, Q, _ => Q [] H
  | (k, b) :: r, σ, H, Q, E => b.w σ H (fun y H1 => wPairs r σ H1 (fun kvs H2 => Q ((k, y) :: kvs) H2) E) E
theorem RepK.cons {K : PySem.W.Frag} {Z : Hp} {k : Key} {d : D} {v : V} {ds : List (Key × D)} {vs : List (Key × V)} (r : Rep K Z d v) (rs : RepK K Z ds vs) : RepK K Z ((k, d) :: ds) ((k, v) :: vs) := ⟨v, vs, rfl, r, rs⟩
theorem pairs_ok {W : WX} : ∀ (ps : List (Key × TW C)) (Z : Hp) (HD : DH) (H : Hp) (σD : DS) (σ : L2.St) (RD : List (Key × D) → DH → Prop) (ED : DX1) (R : List (V × V) → Hp → Prop),
    Sim C Z HD H → SlR C.K Z σD σ → wPairs ps σD HD RD ED → KX C Z HD H ED (fun c d H' => W c d σ H') →
    (∀ Z' HD' H' kvs vs, Step C Z HD H Z' HD' H' → RepK C.K Z' kvs vs → kvs.length = ps.length → RD kvs HD' → R (vs.map fun kv => (kV kv.1, kv.2)) H') → tPairs (trsOf ps W) σ H R
  | [], Z, HD, H, σD, σ, RD, ED, R, s, sl, h, kx, k => k Z HD H [] [] (Step.rfl s) rfl rfl h
  | (kk, b) :: r, Z, HD, H, σD, σ, RD, ED, R, s, sl, h, kx, k => by
    show b.t W σ H _
    refine b.ok W Z HD H σD σ _ ED _ s sl h (fun Z1 HD1 H1 d x st rx q => ?_) kx
    refine pairs_ok r Z1 HD1 H1 σD σ _ ED _ st.sim (sl.mono st.ext) q (kx.mono st) fun Z2 HD2 H2 kvs vs st2 rs hl q2 => ?_
    exact k Z2 HD2 H2 ((kk, d) :: kvs) ((kk, x) :: vs) (st.trans st2) (RepK.cons (Rep.mono st2.ext _ _ rx) rs) (by rw [List.length_cons, List.length_cons, hl]) q2
def mergeD (kvs more : List (Key × D)) : List (Key × D) := more.foldl (fun acc kv => putD acc kv.1 kv.2) kvs
theorem RepK.merge {K : PySem.W.Frag} {Z : Hp} : ∀ {more : List (Key × D)} {mv : List (Key × V)} {ds : List (Key × D)} {vs : List (Key × V)}, RepK K Z more mv → RepK K Z ds vs → RepK K Z (mergeD ds more) (mergeK vs mv)
  | [], _, _, _, h, r => by rw [show _ = [] from h]; exact r
  | (f, d) :: more, mv, ds, vs, h, r => by
    obtain ⟨v, q, e, h1, h2⟩ := h
    rw [e]
    show RepK K Z (mergeD (putD ds f d) more) (mergeK (putK vs f v) q)
    exact RepK.merge h2 (r.put h1)
def wDic (ps : List (Key × TW C)) : DTE := fun σ H Q E => wPairs ps σ H (fun kvs H1 => ∀ p, H1 p = none → Q (.ref p) (updD H1 p (.dic (mergeD [] kvs)))) E
def bDic (ps : List (Key × TW C)) (hz : ps.length ≤ 15) : TW C := ⟨fun W => tDisp (trsOf ps W), wDic ps, fun W Z HD H σD σ QD ED Q s sl h k kx => by
  intro p hp
  have sh := Step.hid (o := .dK []) s hp
  refine pairs_ok ps Z HD _ σD σ _ ED _ sh.sim (sl.mono sh.ext) h (kx.mono sh) fun Z1 HD1 H1 kvs vs st rs hl q => ?_
  obtain ⟨g1, g2, g3⟩ := st.fr p _ upd_same (s.free hp).2
  refine ⟨g1, vs, rfl, by rw [rs.length, hl]; exact hz, ?_⟩
  have hz1 : Z1 p = none := g3.trans (s.free hp).1
  have r0 : RepK C.K Z1 (mergeD [] kvs) (mergeK [] vs) := RepK.merge rs rfl
  have st2 := sh.trans st
  have sm : Sim C Z1 (updD HD1 p (.dic (mergeD [] kvs))) (upd H1 p (.dK (mergeK [] vs))) := ((st.sim.hidW g2 hz1 (.dK (mergeK [] vs))).hidM hz1 (u := .dic (mergeD [] kvs)) (by rw [upd_same]; exact ⟨_, rfl, r0⟩))
  refine k.at (q p g2) ⟨st2.ext, sm, fun a o h1 h2 => ?_⟩ rfl
  obtain ⟨f1, f2, f3⟩ := st2.fr a o h1 h2
  have ne : a ≠ p := ne_of_none h1 hp
  exact ⟨by rw [upd_ne ne]; exact f1, by rw [updD_ne ne]; exact f2, f3⟩⟩
/-! ghosts: a list is not to change any more -/
def delD (H : DH) (p : Addr) : DH := fun a => if a = p then none else H a
def leD (H H' : DH) : Prop := ∀ a o, H a = some o → H' a = some o
theorem leD.rfl {H : DH} : leD H H := fun _ _ h => h
theorem leD.trans {H H1 H2 : DH} (a : leD H H1) (b : leD H1 H2) : leD H H2 := fun c o h => b c o (a c o h)
theorem leD.upd {H : DH} {p : Addr} {o : DO} (h : H p = none) : leD H (updD H p o) := fun a u e => by rw [updD_ne (ne_of_noneD e h)]; exact e
theorem leD.del {H : DH} {p : Addr} : leD (delD H p) H := fun a o e => by
  unfold delD at e
  split at e
  · cases e
  · exact e
theorem del_upd {H : DH} {p : Addr} {o : DO} (h : H p = none) : delD (updD H p o) p = H := by
  funext a
  unfold delD
  split
  · rename_i e; rw [e, h]
  · rename_i e; exact updD_ne e
theorem Sim.frz {Z : Hp} {HD : DH} {H : Hp} {p : Addr} {ds : List D} (s : Sim C Z HD H) (h : HD p = some (.lst ds)) : ∃ Z', Step C Z HD H Z' (delD HD p) H ∧ Rep C.K Z' (.lst ds) (.ref p) := by
  obtain ⟨hz, xs, ex, r⟩ := s.hd _ _ h
  have s1 : Sim C Z (delD HD p) H := s.less leD.del
  have d : delD HD p p = none := if_pos rfl
  refine ⟨upd Z p (.lst xs), ⟨.upd hz, s1.hidZ d hz ex, fun a o h1 h2 => ?_⟩, p, xs, rfl, upd_same, Reps.mono (.upd hz) _ _ r⟩
  have ne : a ≠ p := fun e => by subst e; rw [h] at h2; cases h2
  refine ⟨h1, ?_, upd_ne ne⟩
  unfold delD
  rw [if_neg ne]; exact h2
/-- the slot i holds a list's address: from here on the list does not change -/
def wFrz (i : Nat) (b : DTS) : DTS := fun DD σ H => match σ[i]? with
  | some (some (.ref p)) => optP (H p) fun o => match o with
    | .lst ds => b DD (σ.set i (some (.lst ds))) (delD H p)
    | _ => False
  | _ => False
theorem SlR.put {K : PySem.W.Frag} {Z : Hp} {σD : DS} {σ : L2.St} {i : Nat} {d : D} {v : V} (s : SlR K Z σD σ) (r : Rep K Z d v) (h : σ[i]? = some (some v)) : SlR K Z (σD.set i (some d)) σ := by
  refine ⟨by rw [List.length_set, s.len], fun j e hj => ?_⟩
  by_cases q : i = j
  · subst q
    have hl : i < σD.length := by
      have := (List.getElem?_eq_some_iff.mp hj).1
      rwa [List.length_set] at this
    rw [List.getElem?_set_self hl] at hj
    cases hj
    exact ⟨v, h, r⟩
  · rw [List.getElem?_set_ne q] at hj
    exact s.at_ j e hj
def sFrz (i : Nat) (b : SW C) : SW C := ⟨b.t, wFrz i b.w, fun W Z HD H σD σ DD Dn s sl h k => by
  unfold wFrz at h
  split at h
  · rename_i p e
    obtain ⟨o, eo, h⟩ := optP_some h
    split at h
    · obtain ⟨Z', st, r⟩ := s.frz eo
      obtain ⟨v, hv, rv⟩ := sl.at_ i _ e
      have rv : v = .ref p := rv
      subst rv
      exact b.ok W Z' _ H _ σ DD Dn st.sim ((sl.mono st.ext).put r hv) h (k.mono st)
    · exact h.elim
  · exact h.elim⟩
/-- return of a list that is not to change any more -/
def frzQ (Q : DQ) : DQ := fun d H => match d with
  | .ref p => optP (H p) fun o => match o with
    | .lst ds => Q (.lst ds) (delD H p)
    | _ => False
  | _ => False
def sRetF (a : TW C) : SW C := ⟨fun W => tRet (a.t W), fun DD σ H => a.w σ H (frzQ DD.rt) fun c fs H => DD.ex c fs σ H, fun W Z HD H σD σ DD Dn s sl h k => a.ok W Z HD H σD σ _ _ _ s sl h (fun Z1 HD1 H1 d x st rx q => by
  unfold frzQ at q
  split at q
  · obtain ⟨o, eo, q⟩ := optP_some q
    split at q
    · obtain ⟨Z', st2, r⟩ := st.sim.frz eo
      rw [show x = V.ref _ from rx]
      exact k.rt.at q (st.trans st2) r
    · exact q.elim
  · exact q.elim) (k.ex.at sl)⟩
/-- an expression's new list is not to change any more -/
def bFrz (a : TW C) : TW C := ⟨a.t, fun σ H Q E => a.w σ H (frzQ Q) E, fun W Z HD H σD σ QD ED Q s sl h k kx => a.ok W Z HD H σD σ _ ED _ s sl h (fun Z1 HD1 H1 d x st rx q => by
  unfold frzQ at q
  split at q
  · obtain ⟨o, eo, q⟩ := optP_some q
    split at q
    · obtain ⟨Z', st2, r⟩ := st.sim.frz eo
      rw [show x = V.ref _ from rx]
      exact k.at q (st.trans st2) r
    · exact q.elim
  · exact q.elim) kx⟩
/-- no reading: what is never reached -/
def sNever : SW C := ⟨fun _ => tNever, fun _ _ _ => False, fun W Z HD H σD σ DD Dn s sl h k => h.elim⟩
/-- a try whose body raises nothing -/
def sThru (b : SW C) : SW C := ⟨fun _ => b.t W0, fun DD σ H => b.w { DD with ex := noEx } σ H, fun W Z HD H σD σ DD Dn s sl h k => b.ok W0 Z HD H σD σ _ Dn s sl h ⟨k.nx, k.rt, k.bk, k.ct, fun _ _ _ _ _ _ _ _ _ _ _ _ _ q => q.elim⟩⟩
end
end G
set_option Elab.async false
set_option linter.all false
set_option maxRecDepth 100000
/-! The rules: the text has the readings of the bundles. -/
namespace G
open PySem PySem.Spec PyProof.Rows L2
/-- what holds where a def's text is read: room for calls, what is let out is wished for -/
structure CO (X : Cx) (W : WX) (k : Nat) : Prop where
  room : Room k X.A
  tk : L2N.Takes X W
  po : PassesOwn (model X.prog X.w) X.A X.env X.xe
  calm : X.calm = true
  nd : X.N.Nodup
theorem CO.hu {X : Cx} {W : WX} {k : Nat} (c : CO X W k) : X.A.units + 1 < cLine := hu_of c.room
theorem CO.hu2 {X : Cx} {W : WX} {k : Nat} (c : CO X W (k + 1)) : X.A.units + 65 < cLine := by
  have := c.room.un
  omega
theorem takes0N {X : Cx} : L2N.Takes X W0 := fun _ _ ⟨_, _, _, _, _, _, _, _, _, _, _, _, _, _, _, _, w⟩ => w.elim
theorem CO.blk {X : Cx} {W : WX} {k : Nat} (c : CO X W k) (s : Shared) (H : Hp) (scope : Scope) (env : Env) (fp : List Addr) : CO (X.blk s H scope env fp) W0 k := ⟨c.room, takes0N, PassesOwn.never, c.calm, c.nd⟩
section
variable {X : Cx} {xi : Option Exc} {W : WX} {k : Nat} {pos p p' : Pos} {e f g : Expr} {es : List Expr} {x : Str}
/-! ### names, constants -/
theorem r_var (i : Nat) (hN : X.N[i]? = some x := by rfl) (hv : Vis X.env.scope x := by first | exact Or.inl rfl | exact Or.inr (Or.inl rfl) | exact Or.inr (Or.inr rfl)) (hd : (x == ("__debug__" : Str)) = false := by decide)
    (hcd : (x == ("__classdict__" : Str)) = false := by decide) : PE X (.Name x pos) ((bVar (C := ⟨X.K, xi⟩) i).t W) := pe_var hN hv hd hcd
theorem r_int {i : Int} {j : Nat} : PE X (.Constant (.int i) j pos) ((bInt (C := ⟨X.K, xi⟩) i).t W) := pe_int
theorem r_str {i : Str} {j : Nat} : PE X (.Constant (.str i) j pos) ((bStr (C := ⟨X.K, xi⟩) i).t W) := pe_str
theorem r_bl {i : Bool} {j : Nat} : PE X (.Constant (.bool i) j pos) ((bBl (C := ⟨X.K, xi⟩) i).t W) := pe_bl
theorem r_non {j : Nat} : PE X (.Constant .none j pos) ((bNon (C := ⟨X.K, xi⟩)).t W) := pe_non
theorem r_glob {v : V} {u : Value} {d : D} {h : ∀ Z, Rep X.K Z d v} (hm : X.mg x = some u) (r : RelV v u) (hg : Gl X x := by rfl) (hd : (x == ("__debug__" : Str)) = false := by decide) : PE X (.Name x pos) ((bC (C := ⟨X.K, xi⟩) d v h).t W) := pe_glob hg hm r hd
/-! ### operators -/
theorem r_bin {op : Operator} {o : Op2 ⟨X.K, xi⟩} {a b : TW ⟨X.K, xi⟩} (ho : OpR X (binaryOp op) o.r) (ha : PE X e (a.t W)) (hb : PE X f (b.t W)) : PE X (.BinOp e op f pos) ((bOp o a b).t W) := pe_op ho ha hb
theorem r_cmp {op : CmpOp} {o : Op2 ⟨X.K, xi⟩} {a b : TW ⟨X.K, xi⟩} (ho : OpR X (compareOp op) o.r) (ha : PE X e (a.t W)) (hb : PE X f (b.t W)) (hm : behindInMarks op f = false) : PE X (.Compare e [op] [f] pos) ((bOp o a b).t W) := pe_cmpR ho ha hb hm
theorem t_cmp {op : CmpOp} {o : Op2 ⟨X.K, xi⟩} {a b : TW ⟨X.K, xi⟩} (ho : OpR X (compareOp op) o.r) (ha : PE X e (a.t W)) (hb : PE X f (b.t W)) (hm : behindInMarks op f = false) : PT X (.Compare e [op] [f] pos) ((bTest (bOp o a b)).t W) := pt_cmpR ho ha hb hm
theorem r_chain {op op' : CmpOp} {o o' : Op2 ⟨X.K, xi⟩} {a b c : TW ⟨X.K, xi⟩} (ho : OpR X (compareOp op) o.r) (ho' : OpR X (compareOp op') o'.r) (ha : PE X e (a.t W)) (hb : PE X f (b.t W)) (hc : PE X g (c.t W))
    (hm : lastMarks [op, op'] [f, g] = false := by with_unfolding_all rfl) : PE X (.Compare e [op, op'] [f, g] pos) ((bChain o o' a b c).t W) := pe_chain ho ho' ha hb hc hm
theorem t_chain {op op' : CmpOp} {o o' : Op2 ⟨X.K, xi⟩} {a b c : TW ⟨X.K, xi⟩} (ho : OpR X (compareOp op) o.r) (ho' : OpR X (compareOp op') o'.r) (ha : PE X e (a.t W)) (hb : PE X f (b.t W)) (hc : PE X g (c.t W))
    (hm : lastMarks [op, op'] [f, g] = false := by with_unfolding_all rfl) : PT X (.Compare e [op, op'] [f, g] pos) ((bTest (bChain o o' a b c)).t W) := pt_chain ho ho' ha hb hc hm
theorem r_neg {a : TW ⟨X.K, xi⟩} (ha : PE X e (a.t W)) : PE X (.UnaryOp .USub e pos) ((bNeg a).t W) := pe_un (r := rU fun i => .int (-i)) (ta := a.t W) un_neg ha
/-! ### tests -/
theorem t_tru {a : TW ⟨X.K, xi⟩} (ha : PE X e (a.t W)) (he : ∀ whole, isTrue e X.env whole = (do let v ← whole; standAt e.pos; holding [v] (truthy v)) := by intro _; rfl) : PT X e ((bTru a).t W) := pt_truth ha he
theorem t_and {a b : BW ⟨X.K, xi⟩} (ha : PT X e (a.t W)) (hb : PW X (.BoolOp .And (f :: es) pos) (b.t W)) : PW X (.BoolOp .And (e :: f :: es) pos) ((bAnd a b).t W) := pw_and ha hb
theorem t_or {a b : BW ⟨X.K, xi⟩} (ha : PT X e (a.t W)) (hb : PW X (.BoolOp .Or (f :: es) pos) (b.t W)) : PW X (.BoolOp .Or (e :: f :: es) pos) ((bOr a b).t W) := pw_or ha hb
theorem t_and1 {a : BW ⟨X.K, xi⟩} (ha : PT X e (a.t W)) : PW X (.BoolOp .And [e] pos) (a.t W) := pw_and1 ha
theorem t_or1 {a : BW ⟨X.K, xi⟩} (ha : PT X e (a.t W)) : PW X (.BoolOp .Or [e] pos) (a.t W) := pw_or1 ha
theorem t_not {a : BW ⟨X.K, xi⟩} (ha : PT X e (a.t W)) : PT X (.UnaryOp .Not e pos) ((bNot a).t W) := pt_not ha
theorem r_one {op : BoolOp} {a : TW ⟨X.K, xi⟩} (ha : PE X e (a.t W)) : PE X (.BoolOp op [e] pos) (a.t W) := pe_one ha
theorem r_and {a b : TW ⟨X.K, xi⟩} (ha : PE X e (a.t W)) (hb : PE X (.BoolOp .And (f :: es) pos) (b.t W)) : PE X (.BoolOp .And (e :: f :: es) pos) ((bAndV a b).t W) := pe_and ha hb
theorem r_or {a b : TW ⟨X.K, xi⟩} (ha : PE X e (a.t W)) (hb : PE X (.BoolOp .Or (f :: es) pos) (b.t W)) : PE X (.BoolOp .Or (e :: f :: es) pos) ((bOrV a b).t W) := pe_or ha hb
theorem r_not {a : TW ⟨X.K, xi⟩} (ha : PE X e (a.t W)) : PE X (.UnaryOp .Not e pos) ((bNotV a).t W) := pe_not ha
theorem r_if {c : BW ⟨X.K, xi⟩} {a b : TW ⟨X.K, xi⟩} (hc : PT X g (c.t W)) (ha : PE X e (a.t W)) (hb : PE X f (b.t W)) : PE X (.IfExp g e f pos) ((bIf c a b).t W) := pe_ifExp hc ha hb
/-! ### arguments, displays, items -/
theorem a_nil : PA X [] ((aNil (C := ⟨X.K, xi⟩)).t W) := pa_nil
theorem a_cons {a : TW ⟨X.K, xi⟩} {r : AW ⟨X.K, xi⟩} (ha : PE X e (a.t W)) (hr : PA X es (r.t W)) (hs : starEach (e :: es) X.env = (false, eval e X.env) :: starEach es X.env := by rfl) : PA X (e :: es) ((aCons a r).t W) := pa_cons ha hr hs
theorem r_tup {a : AW ⟨X.K, xi⟩} {n : Nat} (h : PA X es (a.t W)) : PE X (.Tuple es n pos) ((bTup a).t W) := pe_tup h
theorem r_lst {a : AW ⟨X.K, xi⟩} {b : Bool} (h : PA X es (a.t W)) : PE X (.List es pos) ((bLst b a).t W) := pe_lst h
theorem r_ix {a b : TW ⟨X.K, xi⟩} (c : CO X W' k) (ha : PE X e (a.t W)) (hb : PE X f (b.t W)) (hs : PlainIx f := by intro _ _; rfl) : PE X (.Subscript e f pos) ((bOp opIx a b).t W) := pe_ix (ix_any c.hu) ha hb hs
theorem o_none : PO X none ((oNone (C := ⟨X.K, xi⟩)).t W) := po_none
theorem o_some {a : TW ⟨X.K, xi⟩} (h : PE X e (a.t W)) : PO X (some e) ((oSome a).t W) := po_some h
theorem r_sl {a : TW ⟨X.K, xi⟩} {lo hi : OW ⟨X.K, xi⟩} {b : Bool} {l h : Option Expr} (ha : PE X e (a.t W)) (hl : PO X l (lo.t W)) (hh : PO X h (hi.t W)) : PE X (.Subscript e (.Slice l h none p) pos) ((bSl b a lo hi).t W) := pe_slice sl_anyR ha hl hh
/-! ### calls -/
theorem r_fn {n : Fn ⟨X.K, xi⟩} {a : AW ⟨X.K, xi⟩} {id : String} (hc : CallR X (.builtin id) n.r) (hv : bootBuiltins x = some (.builtin id)) (hm : X.mg x = none) (ha : PA X (e :: es) (a.t W)) (hg : Gl X x := by rfl) (hn : x ≠ "__name__" := by decide) (hdb : (x == ("__debug__" : Str)) = false := by decide)
    (he : starEach (e :: es) X.env = (false, eval e X.env) :: starEach es X.env := by rfl) (hpl : (backTo pos (starEach es X.env)).any (·.1) = false := by rfl) : PE X (.Call (.Name x p) (e :: es) [] pos) ((bB n a).t W) := pe_callB hc hg hm hv ha hn hdb he hpl
theorem r_ty {n : Fn ⟨X.K, xi⟩} {a : AW ⟨X.K, xi⟩} {id : String} (hc : CallR X (.type id) n.r) (hv : bootBuiltins x = some (.type id)) (hm : X.mg x = none) (ha : PA X (e :: es) (a.t W)) (hg : Gl X x := by rfl) (hn : x ≠ "__name__" := by decide) (hdb : (x == ("__debug__" : Str)) = false := by decide)
    (he : starEach (e :: es) X.env = (false, eval e X.env) :: starEach es X.env := by rfl) (hpl : (backTo pos (starEach es X.env)).any (·.1) = false := by rfl) : PE X (.Call (.Name x p) (e :: es) [] pos) ((bB n a).t W) := pe_callTy hc hg hm hv ha hn hdb he hpl
theorem bo_len : bootBuiltins "len" = some (.builtin "len") := by decide +kernel
theorem bo_abs : bootBuiltins "abs" = some (.builtin "abs") := by decide +kernel
theorem bo_sum : bootBuiltins "sum" = some (.builtin "sum") := by decide +kernel
theorem bo_all : bootBuiltins "all" = some (.builtin "all") := by decide +kernel
theorem bo_any : bootBuiltins "any" = some (.builtin "any") := by decide +kernel
theorem bo_min : bootBuiltins "min" = some (.builtin "min") := by decide +kernel
theorem bo_max : bootBuiltins "max" = some (.builtin "max") := by decide +kernel
theorem bo_isi : bootBuiltins "isinstance" = some (.builtin "isinstance") := by decide +kernel
theorem bo_int : bootBuiltins "int" = some (.type "int") := by decide +kernel
theorem bo_bool : bootBuiltins "bool" = some (.type "bool") := by decide +kernel
theorem bo_str : bootBuiltins "str" = some (.type "str") := by decide +kernel
theorem bo_list : bootBuiltins "list" = some (.type "list") := by decide +kernel
theorem bo_tuple : bootBuiltins "tuple" = some (.type "tuple") := by decide +kernel
theorem r_isi {i : Isi ⟨X.K, xi⟩} {a : TW ⟨X.K, xi⟩} (hm : X.mg "isinstance" = none) (ha : PE X e (a.t W)) (hc : PE X f (tC i.u)) (hg : Gl X "isinstance" := by rfl)
    (he : starEach [e, f] X.env = (false, eval e X.env) :: starEach [f] X.env := by rfl) (he2 : starEach [f] X.env = (false, eval f X.env) :: starEach [] X.env := by rfl) (hpl : (backTo pos (starEach [f] X.env)).any (·.1) = false := by rfl) : PE X (.Call (.Name "isinstance" p) [e, f] [] pos) ((bIsi i a).t W) :=
  pe_callB call_isi hg hm bo_isi (pa_cons ha (pa_cons hc pa_nil he2) he) (by decide) (by decide) he hpl
/-- a built-in type's name -/
theorem r_tyn {T : String} (hm : X.mg x = none) (hv : bootBuiltins x = some (.type T)) (hg : Gl X x := by rfl) (hn : x ≠ "__name__" := by decide) (hd : (x == ("__debug__" : Str)) = false := by decide) : PE X (.Name x pos) (tC (.ty T)) := pe_bltn hg hm hv rfl hn hd
/-! ### own defs -/
structure Kn (P : Program) (w : World) (K : PySem.W.Frag) (mg : Str → Option Value) (base : Heap) (k : Nat) (x : Str) (st : Stmt) (ps : List Str) (sp : DSp) : Prop where
  ex : ∃ f fd, mg x = some (.ref f) ∧ Fun K x x st f fd ∧ Binds K fd ps [] ∧ FnOk P w K mg base (L2N.CX P w) k f fd ps (lift K ps.length sp)
abbrev KnX (X : Cx) := Kn X.prog X.w X.K X.mg X.base
theorem r_call {j : Nat} {st : Stmt} {ps : List Str} {sp : DSp} {a : AW ⟨X.K, xi⟩} (c : CO X W k) (n : KnX X j x st ps sp) (ha : PA X (e :: es) (a.t W)) (hj : j ≤ k := by decide) (hg : Gl X x := by rfl)
    (hdb : (x == ("__debug__" : Str)) = false := by decide) (he : starEach (e :: es) X.env = (false, eval e X.env) :: starEach es X.env := by rfl) (hpl : (backTo pos (starEach es X.env)).any (·.1) = false := by rfl) :
    PE X (.Call (.Name x p) (e :: es) [] pos) ((bCall (C := ⟨X.K, xi⟩) ps.length sp a).t W) := by
  obtain ⟨f, fd, h1, h2, h3, h4⟩ := n.ex
  exact pe_callS h4 (c.room.mono hj) hg h1 h2.kp h3 (fun σ => L2N.passAt c.tk σ) ha hdb he hpl
/-! ### what is walked -/
theorem i_any {a : TW ⟨X.K, xi⟩} (h : PE X e (a.t W)) : PI X f e ((jAny a).t W) := pi_any h
theorem i_rng1 {a : AW ⟨X.K, xi⟩} (hm : X.mg "range" = none) (ha : PA X [e] (a.t W)) (hg : Gl X "range" := by rfl) (hs : starEach [e] X.env = [(false, eval e X.env)] := by rfl) : PI X f (.Call (.Name "range" p) [e] [] pos) ((jRng1 a).t W) := pi_range1 hg hm ha hs
theorem i_zip {a : AW ⟨X.K, xi⟩} {es : List Expr} {n : Nat} (hm : X.mg "zip" = none) (ha : PA X [e, g] (a.t W)) (hg : Gl X "zip" := by rfl)
    (hs : starEach [e, g] X.env = (false, eval e X.env) :: starEach [g] X.env := by rfl) (hpl : (backTo pos (starEach [g] X.env)).any (·.1) = false := by rfl) : PI X (.Tuple es n p') (.Call (.Name "zip" p) [e, g] [] pos) ((jZip a).t W) := RZ.pi_zipA hg hm ha hs hpl
theorem i_rng2 {a : AW ⟨X.K, xi⟩} (hm : X.mg "range" = none) (ha : PA X [e, g] (a.t W)) (hg : Gl X "range" := by rfl) (hs : starEach [e, g] X.env = [(false, eval e X.env), (false, eval g X.env)] := by rfl) (hs2 : starEach [g] X.env = [(false, eval g X.env)] := by rfl) :
    PI X f (.Call (.Name "range" p) [e, g] [] pos) ((jRng2 a).t W) := pi_range2 hg hm ha hs hs2
end
end G
set_option Elab.async false
set_option linter.all false
set_option maxRecDepth 100000
/-! The rules: comprehensions, methods, fields, statements, defs. -/
namespace G
open PySem PySem.Spec PyProof.Rows L2
section
variable {X : Cx} {xi : Option Exc} {W W' : WX} {k : Nat} {pos p p' : Pos} {e f g : Expr} {es : List Expr} {x : Str}
/-! ### comprehensions -/
theorem v_yes : PTs X [] ((bYes (C := ⟨X.K, xi⟩)).t W0) := pts_nil
theorem v_one {t : BW ⟨X.K, xi⟩} (h : PT X e (t.t W0)) : PTs X [e] (t.t W0) := pts_one h
theorem r_lc {b : Bool} {vs : List Nat} {i : IW ⟨X.K, xi⟩} {gv : GvW ⟨X.K, xi⟩ vs} {tt : BW ⟨X.K, xi⟩} {te : TW ⟨X.K, xi⟩} {tg iter elt : Expr} {ifs : List Expr} {scope : Scope} (c : CO X W' k) (own : List (Str × Nat)) (hv : own.map (·.2) = vs) (ok : blkC X.N X.env.scope scope own = true)
    (hi : PI X tg iter (i.t W)) (hg : ∀ (s : Shared) (H : Hp) (C : Addr) (cl : List (Str × Addr)) (fp : List Addr), PG (X.blk s H scope (compEnvC scope cl C X.env) fp) tg (gv.t W0))
    (ht : ∀ (s : Shared) (H : Hp) (C : Addr) (cl : List (Str × Addr)) (fp : List Addr), CO (X.blk s H scope (compEnvC scope cl C X.env) fp) W0 k → PTs (X.blk s H scope (compEnvC scope cl C X.env) fp) ifs (tt.t W0))
    (he : ∀ (s : Shared) (H : Hp) (C : Addr) (cl : List (Str × Addr)) (fp : List Addr), CO (X.blk s H scope (compEnvC scope cl C X.env) fp) W0 k → PE (X.blk s H scope (compEnvC scope cl C X.env) fp) elt (te.t W0)) (hs : ∀ x, foldedSetIterable iter X.env x = pure x := by intro _; rfl) :
    PE X (.ListComp elt [⟨tg, iter, ifs, 0⟩] scope pos) ((bLc b vs i gv tt te).t W) := by
  subst hv
  exact pe_lc c.calm c.nd hi (blkOk_by ok) hg (fun s H C cl fp => ht s H C cl fp (c.blk s H scope _ fp)) (fun s H C cl fp => he s H C cl fp (c.blk s H scope _ fp)) hs
/-! ### methods -/
theorem r_m0 {m : Mt ⟨X.K, xi⟩} {o : TW ⟨X.K, xi⟩} {name : Str} {id : String} {apos cpos : Pos} (pa : PlainAttrs m.T) (slot : Slot m.T name id) (hty : typeOf (.builtin id) = pure (.type "method_descriptor")) (hm : MtR X id m.r) (ho : PE X e (o.t W))
    (hbase : attributeBase e name X.env (eval e X.env) = eval e X.env := by rfl) (hline : (apos.endLine == cpos.line) = true := by rfl) : PE X (.Call (.Attribute e name apos) [] [] cpos) ((bM0 m o).t W) := pe_bm0 pa slot hty hm ho hbase hline
theorem r_m {m : Mt ⟨X.K, xi⟩} {o : TW ⟨X.K, xi⟩} {a : AW ⟨X.K, xi⟩} {name : Str} {id : String} {apos cpos : Pos} (pa : PlainAttrs m.T) (slot : Slot m.T name id) (hty : typeOf (.builtin id) = pure (.type "method_descriptor")) (hm : MtR X id m.r) (ho : PE X e (o.t W)) (ha : PA X (f :: es) (a.t W))
    (hbase : attributeBase e name X.env (eval e X.env) = eval e X.env := by rfl)
    (hfew : ((backTo cpos (starEach (f :: es) X.env)).all (fun x => !x.1) && (backToKw cpos (keywordEach [] X.env)).all (fun x => x.1.isSome)
      && decide ((f :: es).length + ([] : List Keyword).length + (if ([] : List Keyword).isEmpty then 0 else 1) < 30)) = true := by rfl)
    (hline : (apos.endLine == cpos.line) = true := by rfl) (hs : starEach (f :: es) X.env = (false, eval f X.env) :: starEach es X.env := by rfl) (hplain : (backTo cpos (starEach es X.env)).any (·.1) = false := by rfl) :
    PE X (.Call (.Attribute e name apos) (f :: es) [] cpos) ((bM m o a).t W) := pe_bm pa slot hty hm ho ha hbase hfew hline hs hplain
theorem m_append {o : TW ⟨X.K, xi⟩} {a : TW ⟨X.K, xi⟩} {apos cpos : Pos} (ho : PE X e (o.t W)) (ha : PE X f (a.t W)) (hbase : attributeBase e "append" X.env (eval e X.env) = eval e X.env := by rfl) (hline : (apos.endLine == cpos.line) = true := by rfl)
    (hs : starEach [f] X.env = (false, eval f X.env) :: starEach [] X.env := by rfl)
    (hfew : ((backTo cpos (starEach [f] X.env)).all (fun x => !x.1) && (backToKw cpos (keywordEach [] X.env)).all (fun x => x.1.isSome)
      && decide ([f].length + ([] : List Keyword).length + (if ([] : List Keyword).isEmpty then 0 else 1) < 30)) = true := by rfl) :
    PE X (.Call (.Attribute e "append" apos) [f] [] cpos) ((bM mAppend o (aCons a aNil)).t W) := r_m PySem.F.plainAttrs_list PySem.F.slot_list_append PySem.F.type_list_append mt_append ho (a_cons ha a_nil hs) hbase hfew hline hs
theorem m_pop0 {o : TW ⟨X.K, xi⟩} {apos cpos : Pos} (ho : PE X e (o.t W)) (hbase : attributeBase e "pop" X.env (eval e X.env) = eval e X.env := by rfl) (hline : (apos.endLine == cpos.line) = true := by rfl) :
    PE X (.Call (.Attribute e "pop" apos) [] [] cpos) ((bM0 mPop0 o).t W) := r_m0 PySem.F.plainAttrs_list PySem.F.slot_list_pop PySem.F.type_list_pop mt_pop ho hbase hline
theorem m_popAt {o : TW ⟨X.K, xi⟩} {a : TW ⟨X.K, xi⟩} {apos cpos : Pos} (ho : PE X e (o.t W)) (ha : PE X f (a.t W)) (hbase : attributeBase e "pop" X.env (eval e X.env) = eval e X.env := by rfl) (hline : (apos.endLine == cpos.line) = true := by rfl)
    (hs : starEach [f] X.env = (false, eval f X.env) :: starEach [] X.env := by rfl)
    (hfew : ((backTo cpos (starEach [f] X.env)).all (fun x => !x.1) && (backToKw cpos (keywordEach [] X.env)).all (fun x => x.1.isSome)
      && decide ([f].length + ([] : List Keyword).length + (if ([] : List Keyword).isEmpty then 0 else 1) < 30)) = true := by rfl) :
    PE X (.Call (.Attribute e "pop" apos) [f] [] cpos) ((bM mPopAt o (aCons a aNil)).t W) := r_m PySem.F.plainAttrs_list PySem.F.slot_list_pop PySem.F.type_list_pop mt_popAt ho (a_cons ha a_nil hs) hbase hfew hline hs
/-! ### fields -/
theorem r_fld {o : TW ⟨X.K, xi⟩} {cs : List Str} {n : Str} {hc : ∀ c ∈ cs, ClsF X.K c n} (ho : PE X e (o.t W)) (hb : attributeBase e n X.env (eval e X.env) = eval e X.env := by rfl) : PE X (.Attribute e n pos) ((bFld (C := ⟨X.K, xi⟩) cs n hc o).t W) := pe_fld ho hb
theorem s_fld {o v : TW ⟨X.K, xi⟩} {cs : List Str} {n : Str} {hc : ∀ c ∈ cs, ClsF X.K c n} (ho : PE X e (o.t W)) (hv : PE X f (v.t W)) (hs : swapsWith f (some (.Attribute e n p')) pos.line X.env = pure false := by rfl) : PS X (.Assign [.Attribute e n p'] f pos) ((sSFld (C := ⟨X.K, xi⟩) cs n hc o v).t W) := ps_fld ho hv hs
/-! ### dicts -/
theorem d_nil : PPs X pos [] [] (trsOf ([] : List (Key × TW ⟨X.K, xi⟩)) W) := pps_nil
theorem d_cons {kk : Key} {b : TW ⟨X.K, xi⟩} {ps : List (Key × TW ⟨X.K, xi⟩)} {ks : List (Option Expr)} (hk : PE X e (tC (kV kk))) (hv : PE X f (b.t W)) (hr : PPs X pos ks es (trsOf ps W)) : PPs X pos (some e :: ks) (f :: es) (trsOf ((kk, b) :: ps) W) := pps_cons hk hv hr
theorem r_dic {ps : List (Key × TW ⟨X.K, xi⟩)} {hz : ps.length ≤ 15} {ks : List (Option Expr)} (h : PPs X pos ks es (trsOf ps W)) (hall : ks.all (·.isSome) = true := by rfl) (hl : ks.length = es.length := by rfl) (h0 : ks ≠ [] := by intro h; cases h) (h15 : ks.length ≤ 15 := by decide) :
    PE X (.Dict ks es pos) ((bDic ps hz).t W) := pe_disp h hall hl h0 h15
/-! ### targets -/
theorem g_name {i : Nat} (c : CO X W' k) (hi : X.N[i]? = some x := by rfl) (hx : Loc X.env.scope x := by first | exact Or.inl rfl | exact Or.inr rfl) (hf : X.fn x = true ∨ X.env.scope.names.lookup x = some .local := by first | exact .inl rfl | exact .inr rfl | assumption) : PG X (.Name x pos) ((gwName (C := ⟨X.K, xi⟩) i).t W) := pg_name c.nd hi hx hf
theorem g_nm {i : Nat} (nd : X.N.Nodup) (hi : X.N[i]? = some x := by rfl) (hx : Loc X.env.scope x := by first | exact Or.inl rfl | exact Or.inr rfl) (hf : X.fn x = true ∨ X.env.scope.names.lookup x = some .local := by first | exact .inl rfl | exact .inr rfl | assumption) : PG X (.Name x pos) ((gvName (C := ⟨X.K, xi⟩) i).t W) := pg_name nd hi hx hf
theorem gs_nil : PGs X [] ((gsNil (C := ⟨X.K, xi⟩)).t W) := pgs_nil
theorem gs_cons {a : GW ⟨X.K, xi⟩} {r : GsW ⟨X.K, xi⟩} (h1 : PG X e (a.t W)) (h2 : PGs X es (r.t W)) (h : (assignEach (e :: es) X.env).map (·.2) = assign e X.env :: (assignEach es X.env).map (·.2) := by rfl) : PGs X (e :: es) ((gsCons a r).t W) := pgs_cons h1 h2 h
theorem g_tup {r : GsW ⟨X.K, xi⟩} {n j : Nat} (c : CO X W' k) (h : PGs X es (r.t W)) (hn : (assignEach es X.env).length = n := by rfl) (hst : (assignEach es X.env).findIdx? (·.1) = none := by rfl) : PG X (.Tuple es j pos) ((gwTup n r).t W) := pg_tupA c.calm h hn hst
theorem g_sub {o i : TW ⟨X.K, xi⟩} (c : CO X W' k) (ho : PE X e (o.t W)) (hi : PE X f (i.t W))
    (ha : ∀ v, assign (.Subscript e f pos) X.env v = (do
      let ov ← holding [v] (eval e X.env)
      let iv ← holding [v, ov] (eval f X.env)
      standAt pos
      holding [v, ov, iv] (setItem ov iv v)
      release [v, ov, iv] []) := by intro _; rfl) : PG X (.Subscript e f pos) ((gwSub o i).t W) := pg_sub ho hi (set_any c.hu) ha
end
end G
set_option Elab.async false
set_option linter.all false
set_option maxRecDepth 100000
/-! The rules: statements, defs. -/
namespace G
open PySem PySem.Spec PyProof.Rows L2
section
variable {X : Cx} {xi : Option Exc} {W W' : WX} {k : Nat} {pos p p' : Pos} {e f g : Expr} {es : List Expr} {x : Str} {st : Stmt} {sts : List Stmt}
theorem s_nil : PSs X [] ((sNext (C := ⟨X.K, xi⟩)).t W) := pss_nil
theorem s_cons {a b : SW ⟨X.K, xi⟩} (ha : PS X st (a.t W)) (hb : PSs X sts (b.t W)) : PSs X (st :: sts) ((sSeq a b).t W) := pss_cons (t := a.t W) (u := b.t W) ha hb
theorem s_one {a : SW ⟨X.K, xi⟩} (ha : PS X st (a.t W)) : PSs X [st] (a.t W) := pss_one ha
theorem s_pass : PS X (.Pass pos) ((sNext (C := ⟨X.K, xi⟩)).t W) := ps_pass
theorem s_brk : PS X (.Break pos) ((sBrk (C := ⟨X.K, xi⟩)).t W) := ps_break
theorem s_cnt : PS X (.Continue pos) ((sCnt (C := ⟨X.K, xi⟩)).t W) := ps_continue
theorem s_never : PS X st ((sNever (C := ⟨X.K, xi⟩)).t W) := ps_never
theorem s_nevers : PSs X sts ((sNever (C := ⟨X.K, xi⟩)).t W) := pss_never
theorem s_drop {a : TW ⟨X.K, xi⟩} (ha : PE X e (a.t W)) (hs : swapsWith e none pos.line X.env = pure false := by rfl) : PS X (.Expr e pos) ((sDrop a).t W) := ps_expr ha hs
theorem s_ret {a : TW ⟨X.K, xi⟩} (ha : PE X e (a.t W)) : PS X (.Return (some e) pos) ((sRet a).t W) := ps_ret ha
theorem s_retF {a : TW ⟨X.K, xi⟩} (ha : PE X e (a.t W)) : PS X (.Return (some e) pos) ((sRetF a).t W) := ps_ret ha
theorem s_retN : PS X (.Return none pos) ((sRetN (C := ⟨X.K, xi⟩)).t W) := ps_retN
theorem s_if {c : BW ⟨X.K, xi⟩} {a b : SW ⟨X.K, xi⟩} {ss ts : List Stmt} (hc : PT X e (c.t W)) (ha : PSs X ss (a.t W)) (hb : PSs X ts (b.t W)) : PS X (.If e ss ts pos) ((sIf c a b).t W) := ps_if hc ha hb
theorem s_set {a : TW ⟨X.K, xi⟩} {i : Nat} (c : CO X W' k) (ha : PE X e (a.t W)) (hi : X.N[i]? = some x := by rfl) (hx : Loc X.env.scope x := by first | exact Or.inl rfl | exact Or.inr rfl) (hs : swapsWith e (some (.Name x p')) pos.line X.env = pure false := by rfl)
    (hf : X.fn x = true ∨ X.env.scope.names.lookup x = some .local := by first | exact .inl rfl | exact .inr rfl | assumption) : PS X (.Assign [.Name x p'] e pos) ((sAsg a (gwName i)).t W) := ps_set c.nd hi hx ha hs hf
theorem s_asg {a : TW ⟨X.K, xi⟩} {gw : GW ⟨X.K, xi⟩} (ha : PE X e (a.t W)) (hg : PG X g (gw.t W)) (hs : swapsWithSole [g] e pos.line X.env = pure false := by rfl) (hw : swappedStores [g] e X.env = pure none := by rfl)
    (h1 : (assignEach [g] X.env).map (·.2) = [assign g X.env] := by rfl) : PS X (.Assign [g] e pos) ((sAsg a gw).t W) := ps_asg ha hg hs hw h1
theorem s_par {a : AW ⟨X.K, xi⟩} {i j : Nat} {y : Str} {px py pt pt2 : Pos} {kt k2 : Nat} (c : CO X W' k) (ha : PA X [e, f] (a.t W)) (hw : swappedStores [.Tuple [.Name x px, .Name y py] kt pt] (.Tuple [e, f] k2 pt2) X.env = pure (some [x, y]) := by rfl)
    (hi : X.N[i]? = some x := by rfl) (hj : X.N[j]? = some y := by rfl) (hij : i ≠ j := by decide)
    (hx : X.env.scope.names.lookup x = some .local := by rfl) (hy : X.env.scope.names.lookup y = some .local := by rfl)
    (hs : swapsWithSole [.Tuple [.Name x px, .Name y py] kt pt] (.Tuple [e, f] k2 pt2) pos.line X.env = pure false := by rfl) :
    PS X (.Assign [.Tuple [.Name x px, .Name y py] kt pt] (.Tuple [e, f] k2 pt2) pos) ((sPar i j a).t W) := ps_par c.calm c.nd hi hj hij hx hy ha hw hs
theorem s_aug {a : TW ⟨X.K, xi⟩} {o : Ip ⟨X.K, xi⟩} {op : Operator} {i : Nat} (c : CO X W' k) (ho : PIp X op o.r) (ha : PE X e (a.t W)) (hi : X.N[i]? = some x := by rfl) (hx : Loc X.env.scope x := by first | exact Or.inl rfl | exact Or.inr rfl)
    (hf : X.fn x = true ∨ X.env.scope.names.lookup x = some .local := by first | exact .inl rfl | exact .inr rfl | assumption) : PS X (.AugAssign (.Name x p') op e pos) ((sAug i o a).t W) := ps_aug c.nd hi hx ha ho hf
theorem s_for {i : IW ⟨X.K, xi⟩} {gw : GW ⟨X.K, xi⟩} {b : SW ⟨X.K, xi⟩} (c : CO X W' k) (hi : PI X g e (i.t W)) (hg : PG X g (gw.t W)) (hb : PSs X sts (b.t W)) (hs : ∀ x, foldedSetIterable e X.env x = pure x := by intro _; rfl) : PS X (.For g e sts [] pos) ((sFor i gw b).t W) := ps_for c.po c.calm hi hg hb hs
theorem s_while {t : BW ⟨X.K, xi⟩} {b : SW ⟨X.K, xi⟩} (c : CO X W' k) (hc : PT X e (t.t W)) (hb : PSs X sts (b.t W)) : PS X (.While e sts [] pos) ((sWhile t b).t W) := ps_while c.po hc hb
/-- name = [..] -/
theorem s_lc {b : Bool} {vs : List Nat} {i : IW ⟨X.K, xi⟩} {gv : GvW ⟨X.K, xi⟩ vs} {tt : BW ⟨X.K, xi⟩} {te : TW ⟨X.K, xi⟩} {tg iter elt : Expr} {ifs : List Expr} {scope : Scope} {n : Nat} {y : Str} {py spos : Pos} (c : CO X W' k) (own : List (Str × Nat)) (hv : own.map (·.2) = vs) (ok : blkC X.N X.env.scope scope own = true)
    (hi : PI X tg iter (i.t W)) (hg : ∀ (s : Shared) (H : Hp) (C : Addr) (cl : List (Str × Addr)) (fp : List Addr), PG (X.blk s H scope (compEnvC scope cl C X.env) fp) tg (gv.t W0))
    (ht : ∀ (s : Shared) (H : Hp) (C : Addr) (cl : List (Str × Addr)) (fp : List Addr), CO (X.blk s H scope (compEnvC scope cl C X.env) fp) W0 k → PTs (X.blk s H scope (compEnvC scope cl C X.env) fp) ifs (tt.t W0))
    (he : ∀ (s : Shared) (H : Hp) (C : Addr) (cl : List (Str × Addr)) (fp : List Addr), CO (X.blk s H scope (compEnvC scope cl C X.env) fp) W0 k → PE (X.blk s H scope (compEnvC scope cl C X.env) fp) elt (te.t W0)) (hy : X.N[n]? = some y := by rfl) (hyl : X.env.scope.names.lookup y = some .local := by rfl)
    (hk : X.env.scope.kind = .function := by rfl) (hl : (py.line == pos.line) = true := by rfl) (hb : (scope.names.any fun (n, k) => n == y && (k == .local || k == .cell)) = false := by rfl) (hs : ∀ x, foldedSetIterable iter X.env x = pure x := by intro _; rfl) :
    PS X (.Assign [.Name y py] (.ListComp elt [⟨tg, iter, ifs, 0⟩] scope pos) spos) ((sAsg (bLc b vs i gv tt te) (gwName n)).t W) := by
  subst hv
  exact ps_setLc c.calm c.nd hy hyl (sw_true hk hyl hl hb) hi (blkOk_by ok) hg (fun s H C cl fp => ht s H C cl fp (c.blk s H scope _ fp)) (fun s H C cl fp => he s H C cl fp (c.blk s H scope _ fp)) hs
theorem s_frz {a : SW ⟨X.K, xi⟩} (i : Nat) (h : PSs X sts (a.t W)) : PSs X sts ((sFrz i a).t W) := h
theorem CO.nox (c : CO X W' k) : CO X.nox W0 k := ⟨c.room, takes0N, PassesOwn.never, c.calm, c.nd⟩
/-- a try whose body raises nothing -/
theorem s_thru {a : SW ⟨X.K, xi⟩} {hh : ExceptHandler} {hs : List ExceptHandler} (c : CO X W' k) (h : CO X.nox W0 k → PSs X.nox sts (a.t W0)) : PS X (.Try sts (hh :: hs) [] [] pos) ((sThru a).t W) := ps_try_thru0 (h c.nox)
end
/-! ### a def keeps its promise -/
theorem slr_start {K : PySem.W.Frag} {Z : Hp} {N : List Str} {ds : List D} {vs : List V} (r : Reps K Z ds vs) (h : ds.length ≤ N.length) : SlR K Z (ds.map some ++ List.replicate (N.length - ds.length) none) (L2.start N vs) := by
  have hl := r.length
  unfold L2.start
  rw [hl]
  refine ⟨by simp [hl], fun i d e => ?_⟩
  by_cases hi : i < ds.length
  · rw [List.getElem?_append_left (by simpa using hi), List.getElem?_map] at e
    obtain ⟨d', e1, e2⟩ := Option.map_eq_some_iff.mp e
    cases e2
    obtain ⟨v, hv, rv⟩ := r.get e1
    refine ⟨v, ?_, rv⟩
    rw [List.getElem?_append_left (by simpa [hl] using hi), List.getElem?_map, hv]
    rfl
  · rw [List.getElem?_append_right (by simpa using hi), List.getElem?_replicate] at e
    split at e
    · cases e
    · cases e
def startD (N : List Str) (ds : List D) : DS := ds.map some ++ List.replicate (N.length - ds.length) none
/-- what is wanted behind a def's body: what the data know may be forgotten -/
def endsD (Q : DQ) (E : DX1) : DEnds := ⟨fun _ H => ∃ H', leD H' H ∧ Q .non H', fun d H => ∃ H', leD H' H ∧ Q d H', fun _ _ => False, fun _ _ => False, fun c fs _ H => ∃ H', leD H' H ∧ E c fs H'⟩
theorem fun_ok {P : Program} {w : World} {K : PySem.W.Frag} {mg : Str → Option Value} {base : Heap} {CX : CXT} {x qual : Str} {st : Stmt} {f : Addr} {fd : FuncData} {N ps : List Str} {k : Nat} {sp : Sp} (F : Fun K x qual st f fd) (S : FnScope N ps (defScope st)) (len : ∀ vs H Q E, sp vs H Q E → vs.length = ps.length)
    (hb : ∀ (cdv : Value) (A : Around) (outer : List Env) (s : Shared) (H : Hp) (vs : List V) (Q : VK) (E : XK), Room k (A.deeper (envOfC qual (defScope st) s.heap.objs.size f cdv)) → sp vs H Q E →
      ∃ t, PSs (cxOf CX P w K mg base N qual (defScope st) f cdv A outer s H E) (defBody st) t ∧ t { nx := fun _ H' => Q .non H', rt := Q } (L2.start N vs) H) : FnOk P w K mg base CX (k + 1) f fd ps sp := by
  obtain ⟨oc, od, kV, doc, pm, an, cdv, ct, osl, e, lk, hcd⟩ := F.ex
  subst e
  exact fn_of lk hcd S len (hb cdv)
theorem def_ok {P : Program} {w : World} {K : PySem.W.Frag} {mg : Str → Option Value} {base : Heap} {x q : Str} {st : Stmt} {f : Addr} {fd : FuncData} {N ps : List Str} {k : Nat} {sp : DSp} (F : Fun K x q st f fd) (S : FnScope N ps (defScope st)) (b : SW (plainC K))
    (hb : ∀ (cdv : Value) (A : Around) (outer : List Env) (s : Shared) (H : Hp) (E : XK), CO (cxOf (L2N.CX P w) P w K mg base N q (defScope st) f cdv A outer s H E) (fun c d _ H => E c d H) k →
      PSs (cxOf (L2N.CX P w) P w K mg base N q (defScope st) f cdv A outer s H E) (defBody st) (b.t fun c d _ H => E c d H))
    (hw : ∀ ds H Q E, ds.length = ps.length → sp ds H Q E → b.w (endsD Q E) (startD N ds) H) : FnOk P w K mg base (L2N.CX P w) (k + 1) f fd ps (lift K ps.length sp) := by
  have hN : ps.length ≤ N.length := by
    have := congrArg List.length S.pre
    rw [List.length_take] at this
    omega
  refine fun_ok F S (fun vs H Q E h => ?_) fun cdv A outer s H vs Q E hr h => ?_
  · obtain ⟨Z, HD, ds, QD, ED, _, r, hl, _⟩ := h
    rw [r.length, hl]
  · obtain ⟨Z, HD, ds, QD, ED, sm, r, hl, hsp, kq, kx⟩ := h
    refine ⟨_, hb cdv A outer s H E ⟨hr, L2N.takes_of rfl rfl rfl rfl, passes_of rfl, rfl, S.nd⟩, ?_⟩
    refine b.ok _ Z HD H (startD N ds) (L2.start N vs) _ _ sm (slr_start r (by omega)) (hw ds HD QD ED hl hsp) ⟨?_, ?_, ?_, ?_, ?_⟩
    · rintro Z' HD' H' σD σ stp sl ⟨H'', le, q⟩
      exact kq Z' _ H' .non .non (stp.trans (Step.less stp.sim le)) rfl q
    · rintro Z' HD' H' d v stp rv ⟨H'', le, q⟩
      exact kq _ _ _ _ _ (stp.trans (Step.less stp.sim le)) rv q
    · exact fun _ _ _ _ _ _ _ z => z.elim
    · exact fun _ _ _ _ _ _ _ z => z.elim
    · rintro Z' HD' H' σD σ cn fs dd vs stp sl hz rf ⟨H'', le, q⟩
      exact kx _ _ _ _ _ _ _ (stp.trans (Step.less stp.sim le)) hz rf q
theorem Kn.mono {P : Program} {w : World} {K : PySem.W.Frag} {mg : Str → Option Value} {base : Heap} {j k : Nat} {x : Str} {st : Stmt} {ps : List Str} {sp : DSp} (n : Kn P w K mg base j x st ps sp) (h : j ≤ k) : Kn P w K mg base k x st ps sp := by
  obtain ⟨f, fd, h1, h2, h3, h4⟩ := n.ex
  exact ⟨f, fd, h1, h2, h3, h4.mono h⟩
/-- what the head says of a def of the top: where it stands -/
structure At (K : PySem.W.Frag) (mg : Str → Option Value) (x : Str) (st : Stmt) (ps : List Str) : Prop where
  ex : ∃ f fd, mg x = some (.ref f) ∧ Fun K x x st f fd ∧ Binds K fd ps []
theorem kn_ok {P : Program} {w : World} {K : PySem.W.Frag} {mg : Str → Option Value} {base : Heap} {x : Str} {st : Stmt} {N ps : List Str} {k : Nat} {sp : DSp} (a : At K mg x st ps) (S : FnScope N ps (defScope st)) (b : SW (plainC K))
    (hb : ∀ (f : Addr) (cdv : Value) (A : Around) (outer : List Env) (s : Shared) (H : Hp) (E : XK), CO (cxOf (L2N.CX P w) P w K mg base N x (defScope st) f cdv A outer s H E) (fun c d _ H => E c d H) k →
      PSs (cxOf (L2N.CX P w) P w K mg base N x (defScope st) f cdv A outer s H E) (defBody st) (b.t fun c d _ H => E c d H))
    (hw : ∀ ds H Q E, ds.length = ps.length → sp ds H Q E → b.w (endsD Q E) (startD N ds) H) : Kn P w K mg base (k + 1) x st ps sp := by
  obtain ⟨f, fd, h1, h2, h3⟩ := a.ex
  exact ⟨f, fd, h1, h2, h3, def_ok h2 S b (hb f) hw⟩
end G
set_option Elab.async false
set_option linter.all false
set_option maxRecDepth 100000
set_option maxHeartbeats 2000000
/-! An own exception under an own class under ValueError, whose __init__ says super().__init__(text) and keeps its arguments. -/
namespace PySem
namespace XI
open PySem.W PySem.Calls PyProof.Rows
/-- what the written part says of the class and its __init__ -/
structure XIni (P : Program) (K : Frag) (C fI : Addr) (params : Arguments) (body : List Stmt) (scope : Scope) : Prop where
  fn : ∃ (nm q : Str) (oc : Value) (od : Option Addr) (osl : Array (Option Value)) (kV doc pm : Value) (an : Option Addr) (cda : Addr) (ct : Value) (cc : Addr), K.lookup fI = some ⟨oc, od, .func (ksFn nm q params body scope .none kV doc pm an (.ref cda) ct cc), osl⟩ ∧
    codeIn K (.ref cda) q = true ∧ (∃ (ccl : Value) (cdd : Option Addr) (vs : Array Value) (ccs : Array (Option Value)) (file : Str) (tf : Tok), K.lookup cda = some ⟨ccl, cdd, .fields vs, ccs⟩ ∧ vs[2]? = some (.str file tf) ∧ ((P.main.file : Str) == file) = true) ∧
    ∃ (cl : Value) (cld : Option Addr) (csl : Array (Option Value)), K.lookup cc = some ⟨cl, cld, .cell (some (.ref C)), csl⟩
  ini : findIn K (.ref C) "__init__" = some (some (.ref fI))
  tI : typeIn K (.ref fI) = some (.type "function")
  kC : keepIn K (.ref C) = true
  exc : excInitIn K C [.type "ValueError", .type "Exception", .type "BaseException", .type "object"] "ValueError.__new__" = true
  cd : ∃ cd, clsIn K C = some cd ∧ HandSPX.refsVE cd.mro = true ∧ cd.hasDict = true
  sa : findIn K (.ref C) "__setattr__" = some (some (.builtin "object.__setattr__"))
  sub : subIn K (.ref C) (.type "ValueError") = some true
  subC : mroIn K C (.ref C) = some true
  exB : subIn K (.ref C) (.type "BaseException") = some true
  ty : typeIn K (.ref C) = some (.type "type")
  sup : ks_superIn K C C "__init__" = some (some (.builtin "ValueError.__init__"))
  opq : nsIn K cStatics "thirdparty.any" = some none
section
variable {prog : Program} {w : World} {A : Around} {E : Value → Shared → Prop} {h : Heap} {g : Array GenState} {d : Drawn} {t : Nat} {os : OsState}
variable {nm q : Str} {C N : Addr} {bs bm : List Value} {hdct : Bool} {sn : List Str} {sub : List Value} {ab : Bool} {col : Option Bool} {dd : Option Addr} {k0 k1 k2 k3 k5 : Option Value}
theorem call_mw {u e t0 : Addr} {rest : List Value} {Q : Value → Shared → Prop}
    (hC : h.get? C = some (excClassObj nm q C N bs bm hdct sn sub ab col dd k0 k1 k2 k3 k5 "ValueError.__new__")) (he : h.get? e = some (HandSPX.excO C t0)) (hu : h.get? u = some (kxs_mw "ValueError.__init__" e)) (hrest : rest.length ≤ sizeLine)
    (hq : ∀ h' t1, (∀ b o, b ≠ e → h.get? b = some o → h'.get? b = some o) → h'.get? e = some (HandSPX.excO C t1) → Q .none ⟨h', g, d, t, os⟩) :
    wpAny (model prog w) A (call (.ref u) rest) Q E ⟨h, g, d, t, os⟩ := by
  refine wpAny_call (codeAny_of_tree ?_)
  show wpAny _ A.in1 (callAny (.ref u) ⟨rest, []⟩) _ _ _
  simp only [callAny]
  refine wpAny_bind (wpAny_load hu ?_)
  simp only [kxs_mw, show (Value.type "method-wrapper" == Value.type "method" || Value.type "method-wrapper" == Value.type "builtin_function_or_method" || Value.type "method-wrapper" == Value.type "method-wrapper") = true by decide, if_true]
  refine W.KFB.if_so (by decide) ?_
  refine wpAny_bind (ESX.check_bound F.excBase_ValueError hC he rfl ?_)
  refine wpAny_bind (wpAny_pure (wpAny_pure ?_))
  refine ⟨Code.quiet_builtin _ (by decide +kernel), codeAny_builtin F.excBase_ValueError.initEntry ?_⟩
  rw [Around.under_plainId F.excBase_ValueError.init.plain _]
  wp_walk
  refine hq _ h.objs.size (fun b o hb ho => ?_) ?_
  · rw [Heap.get?_update_other _ _ (Ne.symm hb)]
    exact Heap.get?_push_of_some _ ho
  · rw [Heap.get?_update_self _ (Heap.get?_push_of_some _ he) rfl]
    rfl
/-- super().__init__(text) -/
theorem super_stmt {K : Frag} {mg mb m : Str → Option Value} {e t0 L fI cda cc : Addr} {params : Arguments} {body : List Stmt} {scope : Scope} {z : Str} {j : Nat} {p0 p1 p2 p3 p4 p5 : Pos} {Q : Flow → Shared → Prop} {oc : Value} {od : Option Addr} {osl : Array (Option Value)}
    {kV doc pm : Value} {an : Option Addr} {ct : Value} {nf qf : Str} (X : K.In h) (T : XIni prog K C fI params body scope) (hfn : K.lookup fI = some ⟨oc, od, .func (ksFn nf qf params body scope .none kV doc pm an (.ref cda) ct cc), osl⟩)
    (hcd : ∃ (ccl : Value) (cdd : Option Addr) (vs : Array Value) (ccs : Array (Option Value)) (file : Str) (tf : Tok), K.lookup cda = some ⟨ccl, cdd, .fields vs, ccs⟩ ∧ vs[2]? = some (.str file tf) ∧ ((prog.main.file : Str) == file) = true)
    (hcc : ∃ (cl : Value) (cld : Option Addr) (csl : Array (Option Value)), K.lookup cc = some ⟨cl, cld, .cell (some (.ref C)), csl⟩)
    (G : h.Ns mainGlobals mg) (hsup : mg "super" = none) (B : h.Ns builtinsNs mb) (hb : mb "super" = bootBuiltins "super") (hn : h.Ns L m) (hself : m "self" = some (.ref e)) (he : h.get? e = some (HandSPX.excO C t0))
    (hp : (params.posonlyargs ++ params.args).head?.map (·.arg) = some "self") (hks : scope.names.lookup ("super" : Str) = some .globalImplicit) (hkc : scope.names.lookup ("__class__" : Str) = some .free) (hka : scope.names.lookup ("self" : Str) = some .local) (hk : scope.kind = .function)
    (hl : (p2.endLine == p4.line) = true) (htop : (prog.main.scope.names.lookup ("super" : Str)).isSome = false)
    (hq : ∀ h' t1 t', (∀ b o, b ≠ e → h.get? b = some o → h'.get? b = some o) → h'.get? e = some (HandSPX.excO C t1) → Q .next ⟨h', g, d, t', os⟩) :
    wpAt (model prog w) A (.func body (ksEnv qf scope L fI (.ref cda) cc)) (exec (.Expr (.Call (.Attribute (.Call (.Name "super" p0) [] [] p1) "__init__" p2) [.Constant (.str z) j p3] [] p4) p5) (ksEnv qf scope L fI (.ref cda) cc)) Q E ⟨h, g, d, t, os⟩ := by
  obtain ⟨ccl, cdd, vs, ccs, file, tf, hcode, hvs, hfile⟩ := hcd
  obtain ⟨cl, cld, csl, hcell⟩ := hcc
  obtain ⟨cd, hD, hmro, hdict⟩ := T.cd
  obtain ⟨oD, hD1, hD2⟩ : ∃ oD, h.get? C = some oD ∧ oD.data = .cls cd := by
    unfold clsIn at hD
    split at hD
    · rename_i c d cd' sl ho
      cases hD
      exact ⟨_, X _ _ ho, rfl⟩
    · cases hD
  obtain ⟨ar, har, har2⟩ := Option.map_eq_some_iff.mp hp
  have hxC : e ≠ C := by
    rintro rfl
    rw [hD1] at he
    cases he
    cases hD2
  refine ks_wpAt_Expr_any (ks_wpAt_MethodCall (pl := L2.plainOf (.Call (.Name "super" p0) [] [] p1) (ksEnv qf scope L fI (.ref cda) cc)) ?_ ?_) (by unfold interactive; rw [hk]; rfl) (by rfl)
  · refine ks_wpAt_super_base (env := ksEnv qf scope L fI (.ref cda) cc) hks hkc (by decide) rfl (X _ _ hfn) rfl har rfl (X _ _ hcode) rfl hvs hfile htop ?_
    refine ks_loadName_global hk hks (loadGlobal_builtin (env := ksEnv qf scope L fI (.ref cda) cc) G hsup B (hb.trans PyProof.Rows.Boot.«super») ⟨rfl, ?_⟩)
    refine wpAny_loadName_free hk hkc rfl ⟨_, X _ _ hcell, rfl⟩ ?_
    rw [har2]
    refine wpAny_loadName_local hk hka hn hself ?_
    refine ks_wpAny_isType_cls hD1 hD2 ⟨rfl, ?_⟩
    refine ks_wpAny_call_super hD1 hD2 he rfl (fun c e => nomatch e) (looks_mroIn X T.subC) (fun h1 hso k1 => ?_)
    have X1 : K.In h1 := X.keeps k1
    have he1 := k1 _ _ he
    have I1 : InstAt h1 e (HandSPX.excO C t0) C none := ⟨he1, rfl, rfl, trivial⟩
    refine kxs_getMethod kxs_ValueError hso (looks_opaque X1 T.opq) (l₀ := cd.mro) (fun A Q E s k q => wpAny_bind ((looks_clsIn X1 hD) A _ E s k (wpAny_pure q))) rfl X1 ?_ (I1.type.andThen (looks_subIn X1 T.sub)) hxC (by decide) ?_
    · have z := T.sup
      unfold ks_superIn at z
      rw [hD] at z
      exact z
    · have k2 : ∀ b o, h1.get? b = some o → (h1.push (kxs_mw "ValueError.__init__" e)).get? b = some o := fun b o y => Heap.get?_push_of_some _ y
      have hu : (h1.push (kxs_mw "ValueError.__init__" e)).get? h1.objs.size = some (kxs_mw "ValueError.__init__" e) := Heap.get?_push_at rfl rfl
      obtain ⟨nm, N', qn, bs, bm, hdct, sn, sub, ab, col, dd, k0, k1', k2', k3, k5, hC, hT⟩ := excInit_of (X1.keeps k2) T.exc
      refine kxs_callWith (i := "ValueError.__init__") (x := e) (by rfl) (evalArgs_plain (Calls.spliced_cons (Calls.Constant_str (pos := p3) (k := j) (Calls.spliced_nil ⟨hu, ?_⟩))))
      show wpAny (model prog w) A (call (.ref h1.objs.size) [.str z _]) _ _ _
      refine call_mw hC (k2 _ _ he1) hu (by show 1 ≤ sizeLine; decide) fun h3 t3 k4 he3 => ?_
      exact hq h3 t3 _ (fun b o hbe hb => k4 b o hbe (k2 b o (k1 b o hb))) he3
  · show (attributeBase _ _ _ _ >>= fun ov => standAt _ >>= fun _ => methodCall _ _ _ _ _ ov _ _ _) = _
    congr 1
    funext ov
    congr 1
    funext _
    exact L2.mcall_line (by rfl) hl
/-- self.f = v, the first one -/
theorem store_new {K : Frag} {m : Str → Option Value} {e t0 L fI cda cc : Addr} {body : List Stmt} {scope : Scope} {qf f v : Str} {u : Value} {q1 q2 q3 q4 : Pos} {Q : Flow → Shared → Prop} {cd : ClassData} (X : K.In h) (hn : h.Ns L m) (hself : m "self" = some (.ref e)) (hv : m v = some u) (he : h.get? e = some (HandSPX.excO C t0))
    (hcd : clsIn K C = some cd) (hm : HandSPX.refsVE cd.mro = true) (hh : cd.hasDict = true) (sa : findIn K (.ref C) "__setattr__" = some (some (.builtin "object.__setattr__"))) (hno : findIn K (.ref C) f = some none)
    (hk : scope.kind = .function) (hka : scope.names.lookup ("self" : Str) = some .local) (hkv : scope.names.lookup v = some .local) (hdv : (v == ("__debug__" : Str)) = false)
    (hq : ∀ h' tk' dx, (∀ b o, b ≠ e → h.get? b = some o → h'.get? b = some o) → h.objs.size ≤ dx → dx ≠ e → h'.get? e = some { cls := .ref C, dict := some dx, data := .fields #[.ref t0, .none, .none, .none, .bool false, .none] } →
      h'.Ns1 dx (fun y => if y = f then some u else none) → Q .next ⟨h', g, d, tk', os⟩) :
    wpAt (model prog w) A (.func body (ksEnv qf scope L fI (.ref cda) cc)) (exec (.Assign [.Attribute (.Name "self" q1) f q2] (.Name v q3) q4) (ksEnv qf scope L fI (.ref cda) cc)) Q E ⟨h, g, d, t, os⟩ := by
  refine ks_wpAt_Assign_Attr (wpAt_of_wpAny (wpAny_Name (wpAny_loadName_local hk hkv hn hv ?_) hdv)) (by rfl)
  refine wpAny_Name (wpAny_loadName_local hk hka hn hself ?_) (by decide)
  refine PySem.W.set_plain X (ox := { cls := .ref C, dict := none, data := .fields #[.ref t0, .none, .none, .none, .bool false, .none] }) (od := none) ⟨he, rfl, rfl, trivial⟩ sa ?_
  exact HandSPX.exc_osa X he hcd hm hh hno (fun h' tk' dx k dn dne hx hn => hq h' tk' dx k dn dne hx hn)
/-- self.f = v, a further one -/
theorem store_old {K : Frag} {m m0 : Str → Option Value} {ns : List Str} {e t0 dx L fI cda cc : Addr} {body : List Stmt} {scope : Scope} {qf f v : Str} {u : Value} {q1 q2 q3 q4 : Pos} {Q : Flow → Shared → Prop} {cd : ClassData} (X : K.In h) (hn : h.Ns L m) (hself : m "self" = some (.ref e)) (hv : m v = some u)
    (he : h.get? e = some { cls := .ref C, dict := some dx, data := .fields #[.ref t0, .none, .none, .none, .bool false, .none] }) (hd : h.Ns1 dx m0) (hw : Within m0 ns) (hz : ns.length ≤ 1000)
    (hcd : clsIn K C = some cd) (hm : HandSPX.refsVE cd.mro = true) (hh : cd.hasDict = true) (sa : findIn K (.ref C) "__setattr__" = some (some (.builtin "object.__setattr__"))) (hno : findIn K (.ref C) f = some none)
    (hk : scope.kind = .function) (hka : scope.names.lookup ("self" : Str) = some .local) (hkv : scope.names.lookup v = some .local) (hdv : (v == ("__debug__" : Str)) = false)
    (hq : ∀ h' tk', (∀ b o, b ≠ dx → h.get? b = some o → h'.get? b = some o) → h'.Ns1 dx (fun y => if y = f then some u else m0 y) → Q .next ⟨h', g, d, tk', os⟩) :
    wpAt (model prog w) A (.func body (ksEnv qf scope L fI (.ref cda) cc)) (exec (.Assign [.Attribute (.Name "self" q1) f q2] (.Name v q3) q4) (ksEnv qf scope L fI (.ref cda) cc)) Q E ⟨h, g, d, t, os⟩ := by
  refine ks_wpAt_Assign_Attr (wpAt_of_wpAny (wpAny_Name (wpAny_loadName_local hk hkv hn hv ?_) hdv)) (by rfl)
  refine wpAny_Name (wpAny_loadName_local hk hka hn hself ?_) (by decide)
  obtain ⟨oD, _, _, hoD, _, _⟩ := hd.count hw
  refine PySem.W.set_plain X (ox := { cls := .ref C, dict := some dx, data := .fields #[.ref t0, .none, .none, .none, .bool false, .none] }) (od := some oD) ⟨he, rfl, rfl, hoD⟩ sa ?_
  exact OEX.osa_old X he hd hw hz hcd hm hh hno (fun h' tk' k hn => hq h' tk' k hn)
theorem in_but {K : Frag} {h h' : Heap} {e : Addr} (X : K.In h) (hKe : K.lookup e = none) (k : ∀ b o, b ≠ e → h.get? b = some o → h'.get? b = some o) : K.In h' := fun b o q => k b o (fun z => by rw [z, hKe] at q; cases q) (X b o q)
theorem ns_but {h h' : Heap} {L e : Addr} {m : Str → Option Value} (n : h.Ns L m) (hL : L ≠ e) (k : ∀ b o, b ≠ e → h.get? b = some o → h'.get? b = some o) : h'.Ns L m := by
  obtain ⟨o, es, ep, ho, r⟩ := n
  exact ⟨o, es, ep, k _ _ hL ho, r⟩
/-- the scope of such a def -/
structure XSc (ps : List Str) (scope : Scope) : Prop where
  kind : scope.kind = .function
  co : scope.isCoroutine = false
  gen : scope.isGenerator = false
  cell : ∀ x ∈ scope.names, x.2 ≠ .cell
  sup : scope.names.lookup ("super" : Str) = some .globalImplicit
  cls : scope.names.lookup ("__class__" : Str) = some .free
  par : ∀ x ∈ ps, scope.names.lookup x = some .local
/-- .. with one argument, kept -/
theorem init1 {R : Result → Shared → Prop} {K : Frag} {mg mb : Str → Option Value} {e t0 fI : Addr} {params : Arguments} {body : List Stmt} {scope : Scope} {z : Str} {j : Nat} {p0 p1 p2 p3 p4 p5 : Pos} {f v : Str} {u : Value} {q1 q2 q3 q4 : Pos} (X : K.In h) (T : XIni prog K C fI params body scope) (S : XSc ["self", v] scope)
    (hbody : body = [.Expr (.Call (.Attribute (.Call (.Name "super" p0) [] [] p1) "__init__" p2) [.Constant (.str z) j p3] [] p4) p5, .Assign [.Attribute (.Name "self" q1) f q2] (.Name v q3) q4])
    (hbind : ∀ (nf qf : Str) (kV doc pm : Value) (an : Option Addr) (cdv ct : Value) (cc : Addr) (a b : Value), bindArgs (ksFn nf qf params body scope .none kV doc pm an cdv ct cc) ⟨[a, b], []⟩ = pure [(("self" : Str), a), (v, b)])
    (hp : (params.posonlyargs ++ params.args).head?.map (·.arg) = some "self") (hvs : (("self" : Str) == v) = false) (hdv : (v == ("__debug__" : Str)) = false) (hl : (p2.endLine == p4.line) = true) (hno : findIn K (.ref C) f = some none)
    (G : h.Ns mainGlobals mg) (hsup : mg "super" = none) (B : h.Ns builtinsNs mb) (hb : mb "super" = bootBuiltins "super") (lim : h.NoLimit) (hA : A.depth < recursionLimit) (he : h.get? e = some (HandSPX.excO C t0)) (hKe : K.lookup e = none)
    (htop : (prog.main.scope.names.lookup ("super" : Str)).isSome = false)
    (hq : ∀ h' t1 tk' dx, (∀ b o, b ≠ e → h.get? b = some o → h'.get? b = some o) → h.objs.size ≤ dx → dx ≠ e → h'.get? e = some { cls := .ref C, dict := some dx, data := .fields #[.ref t1, .none, .none, .none, .bool false, .none] } →
      h'.Ns1 dx (fun y => if y = f then some u else none) → R (.ok (.ret .none)) ⟨h', g, d, tk', os⟩) : codeAny (model prog w) A (.call (.ref fI) ⟨[.ref e, u], []⟩) R ⟨h, g, d, t, os⟩ := by
  obtain ⟨nf, qf, oc, od, osl, kV, doc, pm, an, cda, ct, cc, hfn, hcd, hco, hcc⟩ := T.fn
  obtain ⟨cd, hD, hmro, hdict⟩ := T.cd
  have lt : e < h.objs.size := Heap.lt_size he
  refine ks_codeAny_call_defAt (fd := ksFn nf qf params body scope .none kV doc pm an (.ref cda) ct cc) (body := body) (binds := [(("self" : Str), .ref e), (v, u)]) hA (X _ _ hfn) rfl lim (codeRec_of X hcd) rfl (.of_eq (hbind nf qf kV doc pm an (.ref cda) ct cc (.ref e) u)) S.cell
    (fun x hx => ?_) (fun h0 hns hk0 => ?_) S.co S.gen S.kind
  · rcases List.mem_cons.mp hx with rfl | hx
    · exact S.par "self" (by simp)
    · rcases List.mem_cons.mp hx with rfl | hx
      · exact S.par v (by simp)
      · cases hx
  · show wpAt (model prog w) _ (.func body (ksEnv qf scope h.objs.size fI (.ref cda) cc)) (execs body (ksEnv qf scope h.objs.size fI (.ref cda) cc)) _ _ _
    have hself : (fun x => List.lookup x [(("self" : Str), Value.ref e), (v, u)].reverse) ("self" : Str) = some (Value.ref e) := by
      show List.lookup ("self" : Str) [(v, u), (("self" : Str), Value.ref e)] = _
      simp only [List.lookup, hvs, beq_self_eq_true]
    have hval : (fun x => List.lookup x [(("self" : Str), Value.ref e), (v, u)].reverse) v = some u := by
      show List.lookup v [(v, u), (("self" : Str), Value.ref e)] = _
      simp only [List.lookup, beq_self_eq_true]
    have X0 : K.In h0 := X.keeps hk0
    have ks : ∀ (st : Stmt) (rest : List Stmt), body = st :: rest → execs body (ksEnv qf scope h.objs.size fI (.ref cda) cc) = execs (st :: rest) (ksEnv qf scope h.objs.size fI (.ref cda) cc) := fun st rest e => by rw [e]
    rw [ks _ _ hbody]
    refine ks_wpAt_execs_cons (super_stmt X0 T hfn hco hcc (G.keeps hk0) hsup (B.keeps hk0) hb hns hself (hk0 _ _ he) hp S.sup S.cls (S.par "self" (by simp)) S.kind hl htop fun h1 t1 k1 kk1 he1 => ?_)
    have X1 : K.In h1 := in_but X0 hKe kk1
    have n1 := ns_but hns (Nat.ne_of_gt lt) kk1
    refine ks_wpAt_execs_cons (store_new X1 n1 hself hval he1 hD hmro hdict T.sa hno S.kind (S.par "self" (by simp)) (S.par v (by simp)) hdv fun h2 tk2 dx kk2 hdx hne he2 hd2 => ?_)
    refine wpAt_of_wpAny (wpAny_execs_nil ?_)
    refine hq h2 t1 tk2 dx (fun b o hbe hb => kk2 b o hbe (kk1 b o hbe (hk0 b o hb))) (Nat.le_trans (Nat.le_of_lt n1.lt) hdx) hne he2 hd2
end
end XI
end PySem
set_option Elab.async false
set_option linter.all false
set_option maxRecDepth 100000
set_option maxHeartbeats 2000000
/-! raise X(v), X an own exception that keeps its argument. -/
namespace G
open PySem PySem.Spec PyProof.Rows L2
/-- what is told of such a class: its name, its __init__'s parts, the field and the parameter, in order -/
structure XCl (P : Program) (K : PySem.W.Frag) (mg : Str → Option Value) (x : Str) (params : Arguments) (body : List Stmt) (scope : Scope) (fs : List Str) : Prop where
  ini : ∃ fI, XI.XIni P K (clsA K x) fI params body scope
  gl : mg x = some (.ref (clsA K x))
  no : ∀ f ∈ fs, PySem.W.findIn K (.ref (clsA K x)) f = some none
/-- what the def's text says, one argument -/
structure X1T (params : Arguments) (body : List Stmt) (scope : Scope) (f v : Str) : Prop where
  sc : XI.XSc ["self", v] scope
  shape : ∃ (z : Str) (j : Nat) (p0 p1 p2 p3 p4 p5 q1 q2 q3 q4 : Pos), body = [.Expr (.Call (.Attribute (.Call (.Name "super" p0) [] [] p1) "__init__" p2) [.Constant (.str z) j p3] [] p4) p5, .Assign [.Attribute (.Name "self" q1) f q2] (.Name v q3) q4] ∧ (p2.endLine == p4.line) = true
  bind : ∀ (nf qf : Str) (kV doc pm : Value) (an : Option Addr) (cdv ct : Value) (cc : Addr) (a b : Value), bindArgs (PySem.W.ksFn nf qf params body scope .none kV doc pm an cdv ct cc) ⟨[a, b], []⟩ = pure [(("self" : Str), a), (v, b)]
  hp : (params.posonlyargs ++ params.args).head?.map (·.arg) = some "self"
  hvs : (("self" : Str) == v) = false
  hdv : (v == ("__debug__" : Str)) = false
section
variable {X : Cx} {xi : Option Exc} {W : WX} {k : Nat} {pos p p' : Pos} {e : Expr} {x f v : Str} {params : Arguments} {body : List Stmt} {scope : Scope}
theorem pmk_x1 {ta : TA} (T : XCl X.prog X.K X.mg x params body scope [f]) (S : X1T params body scope f v) (hsup : X.mg "super" = none) (htop : (X.prog.main.scope.names.lookup ("super" : Str)).isSome = false) (hr : Room (k + 1) X.A) (ha : PA X [e] ta) (hg : Gl X x := by rfl)
    (hdb : (x == ("__debug__" : Str)) = false := by decide) (he : starEach [e] X.env = (false, eval e X.env) :: starEach [] X.env := by rfl)  : L2N.PMk X (.Call (.Name x p) [e] [] pos) (tMkX (clsA X.K x) [f] ta) := by
  intro pins s σ H Q I h
  obtain ⟨fI, Ti⟩ := T.ini
  obtain ⟨z, j, p0, p1, p2, p3, p4, p5, q1, q2, q3, q4, hbody, hl⟩ := S.shape
  refine wpAny_Call_Name_kw (ld_glob I hg T.gl ?_ hdb)
  refine PySem.W.callWith_K (h₀ := X.base) I.ok.mod.kin Ti.kC (thn (ha.run pos pins s σ H _ I h) fun us s1 ⟨vs, H1, I1, r1, hz, q1⟩ => ⟨I1.kIn, ?_⟩) he (by rfl)
  show wpAny _ _ (call (.ref (clsA X.K x)) us) _ _ _
  obtain ⟨y, rfl⟩ : ∃ y, vs = [y] := by
    match vs, hz with
    | [y], _ => exact ⟨y, rfl⟩
  obtain ⟨u, rfl, ry⟩ := vals1 r1
  have nl := I1.nolimit
  have bk := I1.bk
  have glob := I1.mod.glob
  obtain ⟨mb, hB, hb⟩ := I1.mod.blt
  obtain ⟨hp, g, dr, tk, os⟩ := s1
  have kk : ∀ b o, hp.get? b = some o → ((hp.push (PySem.W.kdv_tup [u])).push (PySem.HandSPX.excO (clsA X.K x) hp.objs.size)).get? b = some o := fun b o e => Heap.get?_push_of_some _ (Heap.get?_push_of_some _ e)
  have hget : ((hp.push (PySem.W.kdv_tup [u])).push (PySem.HandSPX.excO (clsA X.K x) hp.objs.size)).get? (hp.objs.size + 1) = some (PySem.HandSPX.excO (clsA X.K x) hp.objs.size) := by heap_get
  have hsz : hp.objs.size ≤ hp.objs.size + 1 := Nat.le_succ _
  have hn : H1 (hp.objs.size + 1) = none := I1.hok.fresh hsz
  have hKe : X.K.lookup (hp.objs.size + 1) = none := by
    cases q : X.K.lookup (hp.objs.size + 1) with
    | none => rfl
    | some o =>
      have := Heap.lt_size (I1.kIn _ _ q)
      exact absurd this (by show ¬ hp.objs.size + 1 < hp.objs.size; omega)
  obtain ⟨nm, N', qn, bs, bm, hdct, sn, sub, ab, col, dd, k0, k1, k2, k3, k5, hC, hT⟩ := PySem.W.excInit_of I1.kIn Ti.exc
  refine wpAny_call (PySem.HandSPX.call_own F.excBase_ValueError hT hC (PySem.W.looks_findIn I1.kIn Ti.ini) (fun self => PySem.W.bind_fn I1.kIn self Ti.tI) (by show 1 ≤ sizeLine; decide) ?_)
  refine XI.init1 (R := PySem.W.InitBack (hp.objs.size + 1) _) (I1.kIn.keeps kk) Ti S.sc hbody S.bind S.hp S.hvs S.hdv hl (T.no f (by simp)) ((glob.keeps bk).keeps kk) hsup ((hB.keeps bk).keeps kk) (hb _ (by decide)) (nl.keeps kk) (hr.make _ _ _).depth hget hKe htop fun h2 t1 tk2 dx kp hdx hne he2 hd2 => ?_
  refine ⟨rfl, ?_⟩
  obtain ⟨G, g1, g2⟩ := restrict h2 fun b => decide (b ≠ hp.objs.size + 1)
  have gk : ∀ b, b ≠ hp.objs.size + 1 → G.get? b = h2.get? b := fun b hb => g1 b (decide_eq_true hb)
  have ge : G.get? (hp.objs.size + 1) = none := g2 _ (by simp)
  have lt : ∀ b o, hp.get? b = some o → b ≠ hp.objs.size + 1 := fun b o q => Nat.ne_of_lt (Nat.lt_of_lt_of_le (Heap.lt_size q) hsz)
  have kG : ∀ b o, hp.get? b = some o → G.get? b = some o := fun b o q => by
    rw [gk b (lt b o q)]
    exact kp b o (lt b o q) (kk b o q)
  have hdx2 : hp.objs.size ≤ dx := Nat.le_trans (by rw [Heap.size_push, Heap.size_push]; omega) hdx
  have hd1 : H1 dx = none := I1.hok.fresh hdx2
  have J := I1.laid (h' := G) (a := dx) (o := .xd (mkF [f] [y])) (t' := tk2) kG hdx2 (by
    refine ⟨_, hd2.at fun o q => by rw [gk dx hne]; exact q, fun f' => ?_⟩
    exact relO_put (fs := []) (mA := fun _ => none) ry (fun g => True.intro) f')
  refine ⟨hp.objs.size + 1, _, _, _, _, .ref (clsA X.K x), some dx, rfl, J, fun b o q => ?_, ge, he2, ⟨rfl, rfl, fun vs e => by cases e; rfl⟩, rfl, rfl, ?_, rfl, I1.bare, raises_own Ti.exB Ti.ty, q1 dx hd1⟩
  · by_cases hba : b = hp.objs.size + 1
    · rw [hba, show Heap.get? _ _ = _ from ge] at q
      cases q
    · exact (gk b hba).symm.trans q
  · rw [upd_ne (Ne.symm hne)]
    exact hn
end
end G
set_option Elab.async false
set_option linter.all false
set_option maxRecDepth 100000
/-! The rules: raise, new instances, methods, keyword calls, try. -/
namespace G
open PySem PySem.Spec PyProof.Rows L2
section
variable {X : Cx} {xi : Option Exc} {W W' : WX} {k : Nat} {pos p p' : Pos} {e f g : Expr} {es : List Expr} {x : Str} {st : Stmt} {sts : List Stmt}
theorem s_raise1 {a : AW ⟨X.K, xi⟩} {fl v : Str} {params : Arguments} {body : List Stmt} {scope : Scope} (c : CO X W (k + 1)) (T : XCl X.prog X.K X.mg x params body scope [fl]) (S : X1T params body scope fl v) (hsup : X.mg "super" = none) (htop : (X.prog.main.scope.names.lookup ("super" : Str)).isSome = false)
    (ha : PA X [e] (a.t W)) (hg : Gl X x := by rfl) (hdb : (x == ("__debug__" : Str)) = false := by decide) (he : starEach [e] X.env = (false, eval e X.env) :: starEach [] X.env := by rfl) :
    PS X (.Raise (some (.Call (.Name x p) [e] [] pos)) none p') ((sRaise (C := ⟨X.K, xi⟩) x [fl] a).t W) := L2N.ps_raise c.calm c.tk (pmk_x1 T S hsup htop c.room ha hg hdb he)
/-! ### a new instance -/
theorem run_makeS {CX : CXT} {C fa : Addr} {fd : FuncData} {ps : List Str} {sp : Sp} {E : L2.St → XK} {pins : List (Addr × Obj)} {σ : L2.St} {H : Hp} {s : Shared} {Q : VK} {us : List Value} {vs : List V} (M : Mk X.K C fa) (F : FnOk X.prog X.w X.K X.mg X.base CX k fa fd ps sp) (hr : Room (k + 1) X.A) (hb : Binds X.K fd ps [])
    (hx : PassesAt CX X σ (E σ)) (I : Inv X pins σ H s) (r : Vals vs us) (h : ∀ x dx, H x = none → H dx = none → dx ≠ x → sp (.ref x :: vs) (upd (upd H dx (.own x)) x (.ins C dx [])) (fun v H2 => v = .non ∧ Q (.ref x) H2) (E σ)) :
    wpAny (model X.prog X.w) X.A (call (.ref C) us) (EP X pins σ Q) X.xe s := by
  have hq := h (s.heap.objs.size + 1) s.heap.objs.size (I.hok.fresh (Nat.le_succ _)) (I.hok.fresh (Nat.le_refl _)) (Nat.ne_of_lt (Nat.lt_succ_self _))
  have I2 := Inv.made (C := C) I
  have r2 : Vals (V.ref (s.heap.objs.size + 1) :: vs) (Value.ref (s.heap.objs.size + 1) :: us) := .cons rfl r
  have hl : (Value.ref (s.heap.objs.size + 1) :: us ++ []).length = ps.length := by rw [List.append_nil, ← r2.length]; exact F.len _ _ _ _ hq
  have b2 := hb _ (Value.ref (s.heap.objs.size + 1) :: us) I2.kIn hl
  rw [List.append_nil] at b2
  refine wpAny_call (make_map I.kIn M.makes M.init (beq_iff_eq.mp M.fn) (codeAny_mono (F.run _ X.stack _ _ _ _ _ _ (E σ) (hr.make C us []) (I2.env0.make C us []) b2 r2 hq) fun r s' z => ?_))
  match r, z with
  | .error er, z => exact hx pins _ _ er s' I2 z
  | .ok (.ret u), z =>
    obtain ⟨v, H', I3, rv, ev, q3⟩ := I2.after z
    subst ev
    exact ⟨rv, ⟨V.ref (s.heap.objs.size + 1), H', I3, rfl, q3⟩⟩
  | .ok .next, z => exact False.elim z
  | .ok .brk, z => exact False.elim z
  | .ok .cont, z => exact False.elim z
/-- what the head says of a method -/
structure KnM (P : Program) (w : World) (K : PySem.W.Frag) (mg : Str → Option Value) (base : Heap) (k : Nat) (cn m : Str) (ps : List Str) (sp : DSp) : Prop where
  ex : ∃ fd, Binds K fd ps [] ∧ FnOk P w K mg base (L2N.CX P w) k (He.ma K (clsA K cn) m) fd ps (lift K ps.length sp)
abbrev KnMX (X : Cx) := KnM X.prog X.w X.K X.mg X.base
theorem r_make {j : Nat} {ps : List Str} {sp : DSp} {a : AW ⟨X.K, xi⟩} (c : CO X W k) (M : Mk X.K (clsA X.K x) (He.ma X.K (clsA X.K x) "__init__")) (n : KnMX X j x "__init__" ps sp) (hm : X.mg x = some (.ref (clsA X.K x))) (ha : PA X (e :: es) (a.t W)) (hj : j + 1 ≤ k := by decide) (hg : Gl X x := by rfl)
    (hdb : (x == ("__debug__" : Str)) = false := by decide) (he : starEach (e :: es) X.env = (false, eval e X.env) :: starEach es X.env := by rfl) (hpl : (backTo pos (starEach es X.env)).any (·.1) = false := by rfl) :
    PE X (.Call (.Name x p) (e :: es) [] pos) ((bMake (C := ⟨X.K, xi⟩) x ps.length sp a).t W) := by
  obtain ⟨fd, h3, h4⟩ := n.ex
  refine ⟨fun pins s σ H Q I h => ?_⟩
  refine wpAny_Call_Name_kw (ld_glob I hg hm ?_ hdb)
  refine PySem.W.callWith_K (h₀ := X.base) I.ok.mod.kin M.kp (thn (ha.run pos pins s σ H _ I h) fun us s1 ⟨vs, H1, I1, r, q⟩ => ⟨I1.kIn, ?_⟩) he hpl
  exact run_makeS (E := WE W) M h4 (c.room.mono hj) h3 (L2N.passAt c.tk σ) I1 r q
/-! ### keyword calls -/
theorem run_fnkS {CX : CXT} {fa : Addr} {fd : FuncData} {ps : List Str} {kw : List (Str × Value)} {sp : Sp} {E : L2.St → XK} {pins : List (Addr × Obj)} {σ : L2.St} {H : Hp} {s : Shared} {Q : VK} {us : List Value} {vs : List V}
    (F : FnOk X.prog X.w X.K X.mg X.base CX k fa fd ps sp) (hr : Room k X.A) (hb : BindsTo s fd ⟨[], kw⟩ (ps.zip us)) (hx : PassesAt CX X σ (E σ)) (I : Inv X pins σ H s) (r : Vals vs us) (h : sp vs H Q (E σ)) : wpAny (model X.prog X.w) X.A (call (.ref fa) [] kw) (EP X pins σ Q) X.xe s := by
  refine wpAny_call (codeAny_mono (F.run _ X.stack _ _ _ _ _ _ (E σ) hr I.env0 hb r h) fun r s' z => ?_)
  match r, z with
  | .error er, z => exact hx pins _ _ er s' I z
  | .ok (.ret u), z => exact I.after z
  | .ok .next, z => exact False.elim z
  | .ok .brk, z => exact False.elim z
  | .ok .cont, z => exact False.elim z
def ordW (o : List (Sum Nat Nat)) (us ws : List Value) : List Value := o.map fun p => match p with
  | .inl i => us.getD i .none
  | .inr i => ws.getD i .none
theorem getD_rel {vs : List V} {us : List Value} (r : Vals vs us) (i : Nat) : RelV (vs.getD i .non) (us.getD i .none) := by
  rw [List.getD_eq_getElem?_getD, List.getD_eq_getElem?_getD]
  cases e : vs[i]? with
  | none => rw [r.none_of e]; rfl
  | some v =>
    obtain ⟨u, hu, ru⟩ := r.get e
    rw [hu]; exact ru
theorem ord_rel {vs zs : List V} {us ws : List Value} (r : Vals vs us) (rz : Vals zs ws) : ∀ o : List (Sum Nat Nat), Vals (ordV o vs zs) (ordW o us ws)
  | [] => .nil
  | .inl i :: o => .cons (getD_rel r i) (ord_rel r rz o)
  | .inr i :: o => .cons (getD_rel rz i) (ord_rel r rz o)
def tCallN (m : Nat) (o : List (Sum Nat Nat)) (sp : Sp) (E : L2.St → XK) (t : TA) : TE := fun σ H Q => t σ H fun zs H2 => zs.length = m ∧ sp (ordV o [] zs) H2 Q (E σ)
def wCallN (n m : Nat) (o : List (Sum Nat Nat)) (sp : DSp) (b : DTA) : DTE := fun σ H Q E => b σ H (fun es H2 => es.length = m ∧ (ordD o [] es).length = n ∧ sp (ordD o [] es) H2 Q E) E
def bCallN {C : TC} (n m : Nat) (o : List (Sum Nat Nat)) (sp : DSp) (b : AW C) : TW C := ⟨fun W => tCallN m o (lift C.K n sp) (WE W) (b.t W), wCallN n m o sp b.w, fun W Z HD H σD σ QD ED Q s sl h k kx => b.ok W Z HD H σD σ _ ED _ s sl h (fun Z2 HD2 H2 es ys st2 rs2 q2 =>
  ⟨by rw [rs2.length]; exact q2.1, Z2, HD2, _, QD, ED, st2.sim.plain, ord_rep (ds := []) (vs := []) rfl rs2 o, q2.2.1, q2.2.2, fun Z3 HD3 H3 d v st3 rv q3 => k.at q3 (st2.trans (Step.back st2.sim st3)) rv, fun Z3 HD3 H3 cn fs dd vs st3 hz rf q3 => kx _ _ _ _ _ _ _ (st2.trans (Step.back st2.sim st3)) hz rf q3⟩) kx⟩
/-- f(k = v, ..): no positional arguments -/
theorem r_callN {j m : Nat} {ps ks : List Str} {sp : DSp} {b : AW ⟨X.K, xi⟩} {kws : List Keyword} (c : CO X W k) (o : List (Sum Nat Nat)) (n : KnX X j x st ps sp)
    (hbind : ∀ (kV doc pm : Value) (an : Option Addr) (cdv ct : Value) (ws : List Value), ws.length = m → bindArgs (PySem.W.fnOf x x (defArgs st) (defBody st) (defScope st) .none kV doc pm an cdv ct) ⟨[], ks.zip ws⟩ = pure (ps.zip (ordW o [] ws)))
    (hkw : PK X kws (b.t W)) (hj : j ≤ k := by decide) (hall : (backToKw pos (keywordEach kws X.env)).all (·.1.isSome) = true := by rfl) (hks : (backToKw pos (keywordEach kws X.env)).filterMap (·.1) = ks := by rfl) (hg : Gl X x := by rfl)
    (hdb : (x == ("__debug__" : Str)) = false := by decide) (hpl : ((backTo pos (starEach [] X.env)).any (·.1) || (backToKw pos (keywordEach kws X.env)).any (·.1.isNone)) = false := by rfl) :
    PE X (.Call (.Name x p) [] kws pos) ((bCallN (C := ⟨X.K, xi⟩) ps.length m o sp b).t W) := by
  obtain ⟨fa, fd, h1, h2, h3, h4⟩ := n.ex
  refine ⟨fun pins s σ H Q I h => ?_⟩
  refine wpAny_Call_Name_kw (ld_glob I hg h1 ?_ hdb)
  refine PySem.W.callWith_KW0 (h₀ := X.base) I.ok.mod.kin h2.kp hall (thn (hkw.run pos pins s σ H _ I h) fun ws s2 ⟨zs, H2, I2, rz, hl, q2⟩ => ⟨I2.kIn, ?_⟩) hpl
  rw [hks]
  obtain ⟨oc, od, kV, doc, pm, an, cdv, ct, osl, e, _⟩ := h2.ex
  refine run_fnkS (E := WE W) h4 (c.room.mono hj) ?_ (L2N.passAt c.tk σ) I2 (ord_rel (vs := []) (us := []) .nil rz o) q2
  rw [e]
  exact .of_eq (hbind kV doc pm an cdv ct ws (by rw [← rz.length]; exact hl))
theorem k_nil : PK X [] ((aNil (C := ⟨X.K, xi⟩)).t W) := pk_nil
theorem k_cons {a : TW ⟨X.K, xi⟩} {r : AW ⟨X.K, xi⟩} {nm : Option Str} {kws : List Keyword} (ha : PE X e (a.t W)) (hr : PK X kws (r.t W)) : PK X (⟨nm, e, p⟩ :: kws) ((aCons a r).t W) := pk_cons ha hr
end
end G
set_option Elab.async false
set_option linter.all false
set_option maxRecDepth 100000
set_option maxHeartbeats 1000000
/-! Within an except suite: calls of own defs, their bodies, comprehensions over a range. -/
namespace G
open PySem PySem.Spec PyProof.Rows L2
open L2H (RoomH HotC Hot1 PinOk FnH cxH TurnH PIH PIEH)
/-- a comprehension's block while the exception p is handled -/
abbrev hotBlk (X : Cx) (p : Addr × Obj) (s : Shared) (H : Hp) (scope : Scope) (env : Env) (fp : List Addr) : Cx := (X.blk s H scope env fp).tr ([] ++ [p]) (fun _ _ => False)
section
variable {X : Cx}
theorem pin_here {p : Addr × Obj} {pins : List (Addr × Obj)} {σ : L2.St} {H : Hp} {s : Shared} (I : Inv X pins σ H s) (hp : p ∈ X.pn) : s.heap.get? p.1 = some p.2 ∧ H p.1 = none ∧ p.1 ≠ X.env.locals ∧ p.1 ∉ frs X.stack ∧ ∀ v, p.2.data ≠ .cell v := by
  obtain ⟨a1, a2, a3, a4, a5⟩ := I.pin p (List.mem_append_left _ hp)
  refine ⟨a1, a2, a3, fun z => ?_, a5⟩
  rcases List.mem_cons.mp (I.stkSub p.1 z) with z | z
  · exact a3 z
  · exact a4 z
theorem lc_hot {elt tg iter : Expr} {ifs : List Expr} {scope : Scope} {own : List (Str × Nat)} {pos : Pos} {wi : TI} {g : TG} {tt : TT} {te : TE} {p : Addr × Obj} (hp : p ∈ X.pn) (hot : Hot1 X.A p) (nd : X.N.Nodup) (hi : PIH X tg iter wi) (ok : BlkOk X.N X.env.scope scope own)
    (hg : ∀ s H C cl fp, PG (hotBlk X p s H scope (compEnvC scope cl C X.env) fp) tg g) (ht : ∀ s H C cl fp, PTs (hotBlk X p s H scope (compEnvC scope cl C X.env) fp) ifs tt) (he : ∀ s H C cl fp, PE (hotBlk X p s H scope (compEnvC scope cl C X.env) fp) elt te)
    (hs : ∀ x, foldedSetIterable iter X.env x = pure x) : PE X (.ListComp elt [⟨tg, iter, ifs, 0⟩] scope pos) (tLc wi g tt te (own.map (·.2))) := by
  refine ⟨fun pins s σ H Q I h => ?_⟩
  rw [eval_ListComp]
  have cells : ∀ y ∈ scope.names, y.2 = .free → ∃ c, X.env.cells.lookup y.1 = some c := fun y hy e => (ok.free y hy e).elim (fun z => I.ok.has _ (.inl z)) fun z => I.ok.has _ (.inr z)
  refine wpAny_comprehension_free rfl hs (closure_ok cells) ok.kind (fun y hy e => by rw [ok.uniq y hy, e]) (thn (hi.run pins s σ H _ I h) fun v sa ha => thn ha fun iv sb hb => ?_)
  obtain ⟨it, fp, tn, J, Hb, rfl, Ib, T, tb, fb, q⟩ := hb
  refine wpAny_newObj_type (newEnv_comp ?_) (by show 0 ≤ sizeLine; decide)
  have nD : Hb sb.heap.objs.size = none := Ib.hok.fresh (Nat.le_refl _)
  obtain ⟨Wm, ⟨m0, w0⟩, turn⟩ := q _ nD
  -- the new list
  let o0 : Obj := { cls := .type "list", data := .seq ([] : List Value).toArray }
  have Ic : Inv X pins σ (upd Hb sb.heap.objs.size (.lst [])) { sb with heap := sb.heap.push o0 } := Ib.laid (t' := sb.toks) (fun b o e => Heap.get?_push_of_some _ e) (Nat.le_refl _) ⟨Nat.zero_le _, [], 0, .nil, Heap.get?_push_size _ rfl⟩
  have lt : ∀ b ∈ fp, b < sb.heap.objs.size := fun b hb => (T.obj _ _ tb b hb).elim fun o e => Heap.lt_size e.1
  have fc : ∀ b ∈ fp, FpOk X pins (upd Hb sb.heap.objs.size (.lst [])) b ∧ b < (sb.heap.push o0).objs.size := fun b hb =>
    ⟨⟨by rw [upd_ne (Nat.ne_of_lt (lt b hb))]; exact (fb b hb).1, (fb b hb).2⟩, by rw [Heap.size_push]; exact Nat.lt_succ_of_lt (lt b hb)⟩
  have tc : tn 0 (sb.heap.push o0) := T.keep _ _ _ tb fun b _ o e => Heap.get?_push_of_some _ e
  have Id := block_start Ic ok nd fc
  obtain ⟨p1, p2, p3, p4, p5⟩ := pin_here Ic hp
  generalize hsc : ({ sb with heap := sb.heap.push o0 } : Shared) = sc at Ic fc tc Id p1 p2 p3 p4 p5
  have sz : sc.heap = sb.heap.push o0 := by rw [← hsc]
  have tc' : tn 0 sc.heap := by rw [sz]; exact tc
  have fc' : ∀ b ∈ fp, FpOk X pins (upd Hb sb.heap.objs.size (.lst [])) b ∧ b < sc.heap.objs.size := fun b hb => by rw [sz]; exact fc b hb
  generalize hL : sb.heap.objs.size = L at nD w0 turn Ic fc' Id p2 ⊢
  let cl := cellsFrom (sc.heap.objs.size + 1) scope.names (cloFrom X.env.cells scope.names [])
  let ce := compEnvC scope cl sc.heap.objs.size X.env
  let He := upd Hb L (.lst [])
  let se : Shared := { sc with heap := pushCells (sc.heap.push { cls := .type "dict", data := .dict #[] }) scope.names }
  have up : ∀ b o, sc.heap.get? b = some o → se.heap.get? b = some o := fun b o e => pushCells_keeps _ _ _ _ (Heap.get?_push_of_some _ e)
  have pg := hg sc He sc.heap.objs.size cl fp
  have pt := ht sc He sc.heap.objs.size cl fp
  have pe := he sc He sc.heap.objs.size cl fp
  have plt : p.1 < sc.heap.objs.size := Heap.lt_size p1
  -- the block's state, the handled exception pinned
  have Ie : Inv (hotBlk X p sc He scope ce fp) [] (wipe σ (own.map (·.2))) He se := Inv.toTry (X := X.blk sc He scope ce fp) (Id.pins_of fun q hq => by
    obtain rfl : q = p := by simpa using hq
    exact ⟨up _ _ p1, p2, Nat.ne_of_lt plt, p4, p5⟩) _
  have te0 : tn 0 se.heap := T.keep _ _ _ tc' fun b _ o e => up b o e
  have hc : HotC (hotBlk X p sc He scope ce fp) := ⟨p, hot, by simp⟩
  have nfp : ∀ b ∈ fp, He b = none := fun b hb => (fc' b hb).1.1
  have stat : ∀ {σ' : L2.St} {H' : Hp} {s' : Shared}, Inv (hotBlk X p sc He scope ce fp) [] σ' H' s' → (∀ b ∈ fp, H' b = none) → ∀ b ∈ fp, FpOk (hotBlk X p sc He scope ce fp) [] H' b := fun {σ' H' s'} J n b hb =>
    ⟨n b hb, (J.ok.exf b hb).1, J.ok.exfs b hb, .inl hb, fun x c e => (J.ok.exf b hb).2 x c e, fun q hq => by
      obtain rfl : q = p := by simpa using hq
      intro z
      have := (fc' b hb).1.2.2.2.2.2 q (List.mem_append_left _ hp)
      exact this z⟩
  let Rr := compPost (model X.prog X.w) X.A X.xe (none : Option (Value → Sem Unit)) (EP X pins σ Q) (.ref L) sc.heap.objs.size
  have loop : codeAny (model X.prog X.w) X.A (.compLoop (.ListComp elt [⟨tg, iter, ifs, 0⟩] scope pos) 0 (.ref it) (.ref L) ce) Rr se := by
    refine compLoop_any (fun n s' => ∃ i H', Inv (hotBlk X p sc He scope ce fp) [] (wipe σ (own.map (·.2))) H' s' ∧ tn i s'.heap ∧ (∀ b ∈ fp, H' b = none) ∧ Wm i n H') ?_ m0 ⟨0, He, Ie, te0, nfp, w0⟩
    rintro n s5 ⟨i, H5, I5, t5, n5, w5⟩
    rcases turn i n H5 w5 with ⟨stop, qq⟩ | ⟨go, Nx, hNx, step⟩
    · refine thnF (T.done (hotBlk X p sc He scope ce fp) rfl rfl rfl hc i [] s5 _ H5 (fun _ _ => False) I5 (stat I5 n5) t5 stop) fun r s6 hr => ?_
      obtain ⟨rfl, I6⟩ := hr
      have I7 : Inv X pins σ H5 s6 := Ic.call' (ch := fp) I6.os I6.base I6.hok I6.bare fun b hb => ⟨(fc' b hb).1.2.2.2.1, (fc' b hb).1.2.1, (fc' b hb).1.2.2.2.2.1, (fc' b hb).1.2.2.2.2.2⟩
      obtain ⟨m, hn, _⟩ := I6.loc
      obtain ⟨f0, f1, f2, f3, f4, f5⟩ := Ic.fpOk (Nat.le_refl sc.heap.objs.size) (show H5 sc.heap.objs.size = none from I6.free)
      exact ⟨m, hn, fun h'' sb => ⟨.ref L, H5, I7.turned (t' := s6.toks) (fun b o hb e => (sb.2 b hb).trans e) f0 f1 f3 f4 f5, rfl, qq⟩⟩
    · refine thnF (T.item (hotBlk X p sc He scope ce fp) rfl rfl rfl hc i [] s5 _ H5 (fun _ _ => False) I5 (stat I5 n5) t5 go) fun r s6 hr => ?_
      obtain ⟨u, rfl, h6⟩ := hr
      refine thnF h6 fun _ s7 ⟨x, H7, I7, r7, y7, t7, n7⟩ => ?_
      refine thnF (pg.run _ s7 _ H7 x u _ (I7.pinned (stat I7 n7) (T.obj _ _ t7)) r7 (step x H7 y7)) fun _ s8 ⟨σ8, H8, I8, hw8, q8⟩ => ?_
      refine thnF (pt.run _ s8 σ8 H8 _ I8 q8) fun b s9 ⟨H9, I9, q9⟩ => ?_
      have fin : ∀ {s' : Shared} {H' : Hp}, Inv (hotBlk X p sc He scope ce fp) ([] ++ pinsAt fp s7.heap) σ8 H' s' → Nx H' → ∃ m, m < n ∧ ∃ i H', Inv (hotBlk X p sc He scope ce fp) [] (wipe σ (own.map (·.2))) H' s' ∧ tn i s'.heap ∧ (∀ b ∈ fp, H' b = none) ∧ Wm i m H' := fun {s' H'} J nx => by
        obtain ⟨m', hm, w'⟩ := hNx H' nx
        have pin : ∀ b ∈ fp, ∀ o, s7.heap.get? b = some o → s'.heap.get? b = some o ∧ H' b = none := fun b hb o e => by
          have z := J.pin (b, o) (List.mem_append_right _ (List.mem_append_right _ (mem_pinsAt hb e)))
          exact ⟨z.1, z.2.1⟩
        refine ⟨m', hm, i + 1, H', (J.unpinned (pins := [])).weak (by rw [← hw8, wipe_length]) (fun j v e => by rw [← hw8] at e; exact (wipe_some e).1), T.keep _ _ _ t7 fun b hb o e => (pin b hb o e).1, fun b hb => ?_, w'⟩
        obtain ⟨o, e, _⟩ := T.obj _ _ t7 b hb
        exact (pin b hb o e).2
      cases b with
      | false => exact fin I9 q9
      | true =>
        refine thnF (pe.run _ s9 σ8 H9 _ I9 q9) fun z s10 ⟨yv, H10, I10, r10, acc, hD, hz, nx⟩ => ?_
        exact app_ok (X := hotBlk X p sc He scope ce fp) I10 hD hz r10 fun s11 I11 => fin I11 nx
  exact codeAny_compStart_list loop (T.self X.A 0 _ _ _ te0 loop)
end
/-- what holds where a text is read within an except suite -/
structure CH (X : Cx) (W : WX) (k : Nat) : Prop where
  room : RoomH k X.A
  tk : L2N.Takes X W
  po : PassesOwn (model X.prog X.w) X.A X.env X.xe
  hot : HotC X
  nd : X.N.Nodup
theorem _root_.L2H.RoomH.units {k : Nat} {A : Around} (r : RoomH k A) : A.units + 64 < cLine := by have := r.un; omega
theorem CH.hu {X : Cx} {W : WX} {k : Nat} (c : CH X W k) : X.A.units + 1 < cLine := by have := c.room.un; omega
theorem CH.hu2 {X : Cx} {W : WX} {k : Nat} (c : CH X W k) : X.A.units + 65 < cLine := by have := c.room.un; omega
structure KnH (P : Program) (w : World) (K : PySem.W.Frag) (mg : Str → Option Value) (base : Heap) (k : Nat) (x : Str) (st : Stmt) (ps : List Str) (sp : DSp) : Prop where
  ex : ∃ f fd, mg x = some (.ref f) ∧ Fun K x x st f fd ∧ Binds K fd ps [] ∧ FnH P w K mg base (L2N.CX P w) k f fd ps (lift K ps.length sp)
abbrev KnHX (X : Cx) := KnH X.prog X.w X.K X.mg X.base
section
variable {X : Cx} {xi : Option Exc} {W W' : WX} {k : Nat} {pos p p' : Pos} {e f g : Expr} {es : List Expr} {x : Str} {st : Stmt} {sts : List Stmt}
theorem r_callH {j : Nat} {ps : List Str} {sp : DSp} {a : AW ⟨X.K, xi⟩} (c : CH X W k) (n : KnHX X j x st ps sp) (ha : PA X (e :: es) (a.t W)) (hj : j ≤ k := by decide) (hg : Gl X x := by rfl)
    (hdb : (x == ("__debug__" : Str)) = false := by decide) (he : starEach (e :: es) X.env = (false, eval e X.env) :: starEach es X.env := by rfl) (hpl : (backTo pos (starEach es X.env)).any (·.1) = false := by rfl) :
    PE X (.Call (.Name x p) (e :: es) [] pos) ((bCall (C := ⟨X.K, xi⟩) ps.length sp a).t W) := by
  obtain ⟨f, fd, h1, h2, h3, h4⟩ := n.ex
  exact L2H.pe_callH h4 (c.room.mono hj) c.hot hg h1 h2.kp h3 (fun σ => L2N.passAt c.tk σ) ha hdb he hpl
theorem r_ixH {a b : TW ⟨X.K, xi⟩} (c : CH X W' k) (ha : PE X e (a.t W)) (hb : PE X f (b.t W)) (hs : PlainIx f := by intro _ _; rfl) : PE X (.Subscript e f pos) ((bOp opIx a b).t W) := pe_ix (ix_any c.hu) ha hb hs
theorem i_rng1H {a : AW ⟨X.K, xi⟩} (hm : X.mg "range" = none) (ha : PA X [e] (a.t W)) (hg : Gl X "range" := by rfl) (hs : starEach [e] X.env = [(false, eval e X.env)] := by rfl) : PIH X f (.Call (.Name "range" p) [e] [] pos) ((jRng1 a).t W) := L2H.pi_range1H hg hm ha hs
theorem r_lcH {b : Bool} {vs : List Nat} {i : IW ⟨X.K, xi⟩} {gv : GvW ⟨X.K, xi⟩ vs} {tt : BW ⟨X.K, xi⟩} {te : TW ⟨X.K, xi⟩} {tg iter elt : Expr} {ifs : List Expr} {scope : Scope} (c : CH X W' k) (own : List (Str × Nat)) (hv : own.map (·.2) = vs) (ok : blkC X.N X.env.scope scope own = true)
    (hi : PIH X tg iter (i.t W)) (hg : ∀ q s H C cl fp, PG (hotBlk X q s H scope (compEnvC scope cl C X.env) fp) tg (gv.t W0)) (ht : ∀ q s H C cl fp, CH (hotBlk X q s H scope (compEnvC scope cl C X.env) fp) W0 k → PTs (hotBlk X q s H scope (compEnvC scope cl C X.env) fp) ifs (tt.t W0))
    (he : ∀ q s H C cl fp, CH (hotBlk X q s H scope (compEnvC scope cl C X.env) fp) W0 k → PE (hotBlk X q s H scope (compEnvC scope cl C X.env) fp) elt (te.t W0)) (hs : ∀ x, foldedSetIterable iter X.env x = pure x := by intro _; rfl) :
    PE X (.ListComp elt [⟨tg, iter, ifs, 0⟩] scope pos) ((bLc b vs i gv tt te).t W) := by
  subst hv
  obtain ⟨q, hq1, hq2⟩ := c.hot
  have cb : ∀ s H C cl fp, CH (hotBlk X q s H scope (compEnvC scope cl C X.env) fp) W0 k := fun s H C cl fp => ⟨c.room, takes0N, PassesOwn.never, ⟨q, hq1, by simp⟩, c.nd⟩
  exact lc_hot hq2 hq1 c.nd hi (blkOk_by ok) (hg q) (fun s H C cl fp => ht q s H C cl fp (cb s H C cl fp)) (fun s H C cl fp => he q s H C cl fp (cb s H C cl fp)) hs
theorem s_setH {a : TW ⟨X.K, xi⟩} {i : Nat} (c : CH X W' k) (ha : PE X e (a.t W)) (hi : X.N[i]? = some x := by rfl) (hx : Loc X.env.scope x := by first | exact Or.inl rfl | exact Or.inr rfl) (hs : swapsWith e (some (.Name x p')) pos.line X.env = pure false := by rfl)
    (hf : X.fn x = true ∨ X.env.scope.names.lookup x = some .local := by first | exact .inl rfl | exact .inr rfl | assumption) : PS X (.Assign [.Name x p'] e pos) ((sAsg a (gwName i)).t W) := ps_set c.nd hi hx ha hs hf
theorem g_nameH {i : Nat} (c : CH X W' k) (hi : X.N[i]? = some x := by rfl) (hx : Loc X.env.scope x := by first | exact Or.inl rfl | exact Or.inr rfl) (hf : X.fn x = true ∨ X.env.scope.names.lookup x = some .local := by first | exact .inl rfl | exact .inr rfl | assumption) : PG X (.Name x pos) ((gwName (C := ⟨X.K, xi⟩) i).t W) := pg_name c.nd hi hx hf
theorem s_forH {i : IW ⟨X.K, xi⟩} {gw : GW ⟨X.K, xi⟩} {b : SW ⟨X.K, xi⟩} (c : CH X W' k) (hi : PIH X g e (i.t W)) (hg : PG X g (gw.t W)) (hb : PSs X sts (b.t W)) (hs : ∀ x, foldedSetIterable e X.env x = pure x := by intro _; rfl) : PS X (.For g e sts [] pos) ((sFor i gw b).t W) := L2H.ps_forH c.po c.hot hi hg hb hs
end
/-- a def keeps its promise within an except suite too -/
theorem knH_ok {P : Program} {w : World} {K : PySem.W.Frag} {mg : Str → Option Value} {base : Heap} {x : Str} {st : Stmt} {N ps : List Str} {k : Nat} {sp : DSp} (a : At K mg x st ps) (S : FnScope N ps (defScope st)) (b : SW (plainC K))
    (hb : ∀ (f : Addr) (cdv : Value) (A : Around) (outer : List Env) (s : Shared) (H : Hp) (E : XK) (q : Addr × Obj), CH (cxH (L2N.CX P w) P w K mg base N x (defScope st) f cdv A outer s H E q) (fun c d _ H => E c d H) k →
      PSs (cxH (L2N.CX P w) P w K mg base N x (defScope st) f cdv A outer s H E q) (defBody st) (b.t fun c d _ H => E c d H))
    (hw : ∀ ds H Q E, ds.length = ps.length → sp ds H Q E → b.w (endsD Q E) (startD N ds) H) : KnH P w K mg base (k + 1) x st ps sp := by
  obtain ⟨f, fd, h1, F, h3⟩ := a.ex
  refine ⟨f, fd, h1, F, h3, ?_⟩
  have hN : ps.length ≤ N.length := by
    have := congrArg List.length S.pre
    rw [List.length_take] at this
    omega
  obtain ⟨oc, od, kV, doc, pm, an, cdv, ct, osl, e, lk, hcd⟩ := F.ex
  subst e
  refine L2H.fn_ofH lk hcd S (fun vs H Q E h => ?_) fun A outer s H vs Q E q hot hr h => ?_
  · obtain ⟨Z, HD, ds, QD, ED, _, r, hl, _⟩ := h
    rw [r.length, hl]
  · obtain ⟨Z, HD, ds, QD, ED, sm, r, hl, hsp, kq, kx⟩ := h
    refine ⟨_, hb f cdv A outer s H E q ⟨hr, L2N.takes_of rfl rfl rfl rfl, passes_of rfl, ⟨q, hot, List.mem_cons_self⟩, S.nd⟩, ?_⟩
    refine b.ok _ Z HD H (startD N ds) (L2.start N vs) _ _ sm (slr_start r (by omega)) (hw ds HD QD ED hl hsp) ⟨?_, ?_, ?_, ?_, ?_⟩
    · rintro Z' HD' H' σD σ stp sl ⟨H'', le, q⟩
      exact kq Z' _ H' .non .non (stp.trans (Step.less stp.sim le)) rfl q
    · rintro Z' HD' H' d v stp rv ⟨H'', le, q⟩
      exact kq _ _ _ _ _ (stp.trans (Step.less stp.sim le)) rv q
    · exact fun _ _ _ _ _ _ _ z => z.elim
    · exact fun _ _ _ _ _ _ _ z => z.elim
    · rintro Z' HD' H' σD σ cn fs dd vs stp sl hz rf ⟨H'', le, q⟩
      exact kx _ _ _ _ _ _ _ (stp.trans (Step.less stp.sim le)) hz rf q
end G
set_option Elab.async false
set_option linter.all false
set_option maxRecDepth 100000
/-! The head's hook: defs, facts, own exceptions with their __init__. -/
namespace G
open PySem PySem.Spec PyProof.Rows L2
/-- an own exception with an __init__ of its own: the class's name, the def's parts -/
structure XD where
  cn : Str
  params : Arguments
  body : List Stmt
  scope : Scope
abbrev XOb : Type := Option (Arguments × FuncBody × Scope × Addr × List Str × Addr)
def XD.fI (K : PySem.W.Frag) (d : XD) : Addr := He.ma K (He.ga K d.cn) "__init__"
def XD.obs (K : PySem.W.Frag) (d : XD) : XOb := match K.lookup (d.fI K) with
  | some ⟨_, _, .func fd, _⟩ => some (fd.params, fd.body, fd.scope, fd.globals, fd.closure.map (·.1), fd.builtins)
  | _ => none
def XD.val (d : XD) : XOb := some (d.params, .stmts d.body, d.scope, mainGlobals, ["__class__"], builtinsNs)
def XD.okF (P : Program) (K : PySem.W.Frag) (d : XD) : Bool := match K.lookup (d.fI K) with
  | some ⟨_, _, .func fd, _⟩ => (match fd.defaults with | .none => true | _ => false) && (PySem.W.codeIn K fd.code fd.qualname && ((match fd.code with
      | .ref cda => (match K.lookup cda with
        | some ⟨_, _, .fields vs, _⟩ => (match (vs[2]? : Option Value) with
          | some (Value.str file _) => ((P.main.file : Str) == file)
          | _ => false)
        | _ => false)
      | _ => false) && (match fd.closure with
      | [(_, cc)] => (match K.lookup cc with
        | some ⟨_, _, .cell (some (.ref D)), _⟩ => decide (D = He.ga K d.cn)
        | _ => false)
      | _ => false)))
  | _ => false
def XD.ok (P : Program) (K : PySem.W.Frag) (d : XD) : Bool := d.okF P K && (He.eqO (PySem.W.findIn K (.ref (He.ga K d.cn)) "__init__") (some (some (.ref (d.fI K)))) && (decide (PySem.W.typeIn K (.ref (d.fI K)) = some (.type "function")) && (PySem.W.keepIn K (.ref (He.ga K d.cn)) &&
  (PySem.W.excInitIn K (He.ga K d.cn) [.type "ValueError", .type "Exception", .type "BaseException", .type "object"] "ValueError.__new__" && ((PySem.W.clsIn K (He.ga K d.cn)).any (fun cd => HandSPX.refsVE cd.mro && cd.hasDict) && (He.eqO (PySem.W.findIn K (.ref (He.ga K d.cn)) "__setattr__") (some (some (.builtin "object.__setattr__"))) &&
  (decide (PySem.W.subIn K (.ref (He.ga K d.cn)) (.type "ValueError") = some true) && (decide (PySem.W.mroIn K (He.ga K d.cn) (.ref (He.ga K d.cn)) = some true) && (decide (PySem.W.subIn K (.ref (He.ga K d.cn)) (.type "BaseException") = some true) && (decide (PySem.W.typeIn K (.ref (He.ga K d.cn)) = some (.type "type")) &&
  (He.eqO (PySem.W.ks_superIn K (He.ga K d.cn) (He.ga K d.cn) "__init__") (some (some (.builtin "ValueError.__init__"))) && He.eqO (PySem.W.nsIn K cStatics "thirdparty.any") (some none))))))))))))
theorem XD.ini {P : Program} {K : PySem.W.Frag} {d : XD} (e : d.obs K = d.val) (c : d.ok P K = true) : XI.XIni P K (He.ga K d.cn) (d.fI K) d.params d.body d.scope := by
  unfold XD.ok at c
  simp only [Bool.and_eq_true, decide_eq_true_eq] at c
  obtain ⟨c1, c2, c3, c4, c5, c6, c7, c8, c9, c10, c11, c12, c13⟩ := c
  refine ⟨?_, He.eqO_ok c2, c3, c4, c5, ?_, He.eqO_ok c7, c8, c9, c10, c11, He.eqO_ok c12, He.eqO_ok c13⟩
  · unfold XD.obs at e
    unfold XD.okF at c1
    cases q : K.lookup (d.fI K) with
    | none => rw [q] at c1; cases c1
    | some o =>
      obtain ⟨oc, od, dt, osl⟩ := o
      rw [q] at c1 e
      cases dt with
      | func fd =>
        obtain ⟨n1, n2, n3, n4, n5, n6, n7, n8, n9, n10, n11, n12, n13, n14, n15⟩ := fd
        have e2 : (some (n3, n4, n5, n6, n7.map (·.1), n15) : XOb) = some (d.params, FuncBody.stmts d.body, d.scope, mainGlobals, [("__class__" : Str)], builtinsNs) := e
        simp only [Option.some.injEq, Prod.mk.injEq] at e2
        obtain ⟨h3, h4, h5, h6, h7, h8⟩ := e2
        subst h3 h4 h5 h6 h8
        simp only [Bool.and_eq_true] at c1
        obtain ⟨a1, a2, a3, a4⟩ := c1
        obtain rfl : n8 = .none := by
          cases n8 <;> first | rfl | cases a1
        cases n7 with
        | nil => cases a4
        | cons pr r =>
          cases r with
          | cons _ _ => cases a4
          | nil =>
            obtain ⟨nm, cc⟩ := pr
            obtain rfl : nm = "__class__" := by simpa using h7
            cases n13 with
            | ref cda =>
              refine ⟨n1, n2, oc, od, osl, n9, n10, n11, n12, cda, n14, cc, rfl, a2, ?_, ?_⟩
              · cases q2 : K.lookup cda with
                | none => simp only [q2] at a3; cases a3
                | some o =>
                  obtain ⟨oc2, od2, dt2, osl2⟩ := o
                  simp only [q2] at a3
                  cases dt2 with
                  | fields vs =>
                    refine ⟨oc2, od2, vs, osl2, ?_⟩
                    cases q3 : vs[2]? with
                    | none => simp only [q3] at a3; cases a3
                    | some u =>
                      simp only [q3] at a3
                      cases u with
                      | str file tf => exact ⟨file, tf, rfl, rfl, a3⟩
                      | _ => cases a3
                  | _ => cases a3
              · cases q2 : K.lookup cc with
                | none => simp only [q2] at a4; cases a4
                | some o =>
                  obtain ⟨oc2, od2, dt2, osl2⟩ := o
                  simp only [q2] at a4
                  cases dt2 with
                  | cell v =>
                    cases v with
                    | none => cases a4
                    | some v =>
                      cases v with
                      | ref D =>
                        obtain rfl := of_decide_eq_true a4
                        exact ⟨_, _, _, rfl⟩
                      | _ => cases a4
                  | _ => cases a4
            | _ => cases a3
      | _ => cases c1
  · cases q : PySem.W.clsIn K (He.ga K d.cn) with
    | none => rw [q] at c6; cases c6
    | some cd =>
      rw [q] at c6
      have c6 : (HandSPX.refsVE cd.mro && cd.hasDict) = true := c6
      rw [Bool.and_eq_true] at c6
      exact ⟨cd, rfl, c6.1, c6.2⟩
/-! ### the hook -/
abbrev AlG : Type := He.AlD × List XOb × Bool
structure SaysG (P : Program) (fa : List He.Fa) (fn : List He.DefD) (xs : List XD) (ex : PySem.W.Frag → Bool) (K : PySem.W.Frag) : Prop where
  d : He.SaysD fa fn K
  x : xs.map (XD.obs K) = xs.map XD.val
  b : (ex K && xs.all (XD.ok P K)) = true
/-- what an address names -/
def rfA (g : Addr → Option Obj) (a : Addr) : List Addr := match g a with
  | some o => He.refsD o
  | none => []
/-- a class's names -/
def nsA (g : Addr → Option Obj) (a : Addr) : List Addr := match g a with
  | some o => match o.data with
    | .cls cd => [cd.ns]
    | _ => []
  | none => []
/-- the module's names, what they name, the classes' methods, and what those name: each without a search for what came before -/
def asE (g : Addr → Option Obj) : List Addr :=
  (fun f1 : List Addr => (fun f3 : List Addr => mainGlobals :: (f1 ++ (f1.flatMap (rfA g) ++ (f3 ++ f3.flatMap (rfA g))))) ((f1.flatMap (nsA g)).flatMap (rfA g))) (rfA g mainGlobals)
def frA (_ : Nat) (g : Addr → Option Obj) : PySem.W.Frag := He.frG g (asE g ++ [cStatics])
def obsG (P : Program) (n : Nat) (fa : List He.Fa) (fn : List He.DefD) (xs : List XD) (ex : PySem.W.Frag → Bool) (g : Addr → Option Obj) : AlG := (fun K => (He.obsD fa fn K, xs.map (XD.obs K), ex K && xs.all (XD.ok P K))) (frA n g)
def valG (fn : List He.DefD) (xs : List XD) : AlG := (He.valD fn, xs.map XD.val, true)
def hookG (P : Program) (n : Nat) (fa : List He.Fa) (fn : List He.DefD) (xs : List XD) (ex : PySem.W.Frag → Bool) : PySem.W.Hook where
  α := AlG
  obs := fun s => obsG P n fa fn xs ex s.heap.get?
  val := fun _ => valG fn xs
  says := fun _ h => ∃ K : PySem.W.Frag, K.In h ∧ SaysG P fa fn xs ex K
  of := fun _ _ e => ⟨_, He.frG_in, ⟨congrArg (fun z : AlG => z.1) e, congrArg (fun z : AlG => z.2.1) e, congrArg (fun z : AlG => z.2.2) e⟩⟩
  keeps := fun _ _ _ ⟨K, hK, c⟩ k => ⟨K, PySem.W.Frag.In.keeps hK k, c⟩
theorem obsG_eq {P : Program} {n : Nat} {fa : List He.Fa} {fn : List He.DefD} {xs : List XD} {ex : PySem.W.Frag → Bool} {g : Addr → Option Obj} {s : Shared} (h : ∀ a, g a = s.heap.get? a) : obsG P n fa fn xs ex g = (hookG P n fa fn xs ex).obs s := by
  have e : g = s.heap.get? := funext h
  rw [e] <;> rfl
section
variable {P : Program} {fa : List He.Fa} {fn : List He.DefD} {xs : List XD} {ex : PySem.W.Frag → Bool} {K : PySem.W.Frag} {h : Heap} {mg : Str → Option Value}
theorem SaysG.ini (c : SaysG P fa fn xs ex K) {d : XD} (hd : d ∈ xs) : XI.XIni P K (He.ga K d.cn) (d.fI K) d.params d.body d.scope := by
  have b := (Bool.and_eq_true_iff.mp c.b).2
  refine XD.ini ?_ (List.all_eq_true.mp b d hd)
  have e := c.x
  obtain ⟨i, hi, hg⟩ := List.mem_iff_getElem.mp hd
  have := congrArg (fun l : List XOb => l[i]?) e
  simp only [List.getElem?_map, List.getElem?_eq_getElem hi, hg, Option.map_some] at this
  exact Option.some.inj this
theorem SaysG.xcl (c : SaysG P fa fn xs ex K) (X : K.In h) (G : h.Ns mainGlobals mg) {d : XD} (hd : d ∈ xs) (hg : He.Fa.glo d.cn ∈ fa) {fs : List Str} (hn : ∀ f ∈ fs, He.Fa.noat d.cn f ∈ fa) : XCl P K mg d.cn d.params d.body d.scope fs :=
  ⟨⟨_, c.ini hd⟩, He.glo_ok X G (c.d.facts hg), fun f hf => He.noat_ok (c.d.facts (hn f hf))⟩
theorem SaysG.at_ (c : SaysG P fa fn xs ex K) (X : K.In h) (G : h.Ns mainGlobals mg) {x : Str} {st : Stmt} {ps : List Str} (hd : (⟨(x, none), x, x, defArgs st, defBody st, defScope st, [], []⟩ : He.DefD) ∈ fn) (hg : He.Fa.glo x ∈ fa)
    (hb : ∀ (kV doc pm : Value) (an : Option Addr) (cdv ct : Value) (us : List Value), us.length = ps.length → bindArgs (PySem.W.fnOf x x (defArgs st) (defBody st) (defScope st) .none kV doc pm an cdv ct) ⟨us, []⟩ = pure (ps.zip us)) : At K mg x st ps := by
  obtain ⟨fd, F⟩ := c.d.defs hd
  have F2 : Fun K x x st (He.ga K x) fd := He5.fun_of F
  exact ⟨He.ga K x, fd, He.glo_ok X G (c.d.facts hg), F2, F2.binds hb⟩
theorem SaysG.free (c : SaysG P fa fn xs ex K) (X : K.In h) (G : h.Ns mainGlobals mg) {x : Str} (hg : He.Fa.free x ∈ fa) : mg x = none := He.free_ok X G (c.d.facts hg)
theorem SaysG.glo (c : SaysG P fa fn xs ex K) (X : K.In h) (G : h.Ns mainGlobals mg) {x : Str} (hg : He.Fa.glo x ∈ fa) : mg x = some (.ref (He.ga K x)) := He.glo_ok X G (c.d.facts hg)
theorem SaysG.clsF (c : SaysG P fa fn xs ex K) {x f : Str} (h1 : He.Fa.cls x ∈ fa) (h2 : He.Fa.noat x f ∈ fa) : ClsF K x f := ⟨He.cls_ok (c.d.facts h1), He.noat_ok (c.d.facts h2)⟩
theorem SaysG.mkC (c : SaysG P fa fn xs ex K) {x : Str} (h1 : He.Fa.mkr x ∈ fa) : Mk K (clsA K x) (He.ma K (clsA K x) "__init__") := He.mkr_ok (c.d.facts h1)
/-- a method of a class -/
structure AtM (K : PySem.W.Frag) (cn m : Str) (q : Str) (st : Stmt) (ps : List Str) : Prop where
  ex : ∃ fd, Fun K m q st (He.ma K (clsA K cn) m) fd ∧ Binds K fd ps []
theorem SaysG.atM (c : SaysG P fa fn xs ex K) {cn m q : Str} {st : Stmt} {ps : List Str} (hd : (⟨(cn, some m), m, q, defArgs st, defBody st, defScope st, [], []⟩ : He.DefD) ∈ fn)
    (hb : ∀ (kV doc pm : Value) (an : Option Addr) (cdv ct : Value) (us : List Value), us.length = ps.length → bindArgs (PySem.W.fnOf m q (defArgs st) (defBody st) (defScope st) .none kV doc pm an cdv ct) ⟨us, []⟩ = pure (ps.zip us)) : AtM K cn m q st ps := by
  obtain ⟨fd, F⟩ := c.d.defs hd
  have F2 : Fun K m q st (He.ma K (clsA K cn) m) fd := He5.fun_of F
  exact ⟨fd, F2, F2.binds hb⟩
theorem SaysG.tup {x : Str} {vs : List He.Dv} (ht : He.tupB K x vs = true) {ds : List D} (hr : Reps K (fun _ => none) ds (vs.map (He.Dv.v K))) (Z : Hp) : Rep K Z (.tup ds) (.ref (He.ga K x)) :=
  ⟨_, _, rfl, He.tupB_ok ht Z, Reps.mono (fun _ _ e => by cases e) _ _ hr⟩
end
/-! ### isinstance(x, C), C an own class -/
structure IsiF (K : PySem.W.Frag) (cn : Str) : Prop where
  no : ∀ t : Ty, PySem.W.kitOne K (.type t.nm) (.ref (clsA K cn)) = some false
  yes : PySem.W.kitOne K (.ref (clsA K cn)) (.ref (clsA K cn)) = some true
  ty : InsTy K (clsA K cn)
def tabC (cn : Str) : Sum Ty Str → Option Bool
  | .inl _ => some false
  | .inr x => if x = cn then some true else none
theorem isiC_ok {K : PySem.W.Frag} {cn : Str} (q : IsiF K cn) : ∀ (t : Sum Ty Str) (b : Bool), tabC cn t = some b → PySem.W.kitOne K (tyVal K t) (.ref (clsA K cn)) = some b ∧ ∀ x, t = .inr x → InsTy K (clsA K x)
  | .inl t, b, h => by
    have h : some false = some b := h
    cases h
    exact ⟨q.no t, fun cn e => by cases e⟩
  | .inr x, b, h => by
    have h : (if x = cn then some true else none) = some b := h
    split at h
    · rename_i e
      cases h
      subst e
      exact ⟨q.yes, fun cn e => by cases e; exact q.ty⟩
    · cases h
def isiC {C : TC} (cn : Str) (q : IsiF C.K cn) : Isi C := ⟨.ref (clsA C.K cn), .ref (clsA C.K cn), .own _, tabC cn, isiC_ok q⟩
theorem r_cls {X : Cx} {x : Str} {a : Addr} {pos : Pos} (hm : X.mg x = some (.ref a)) (hg : Gl X x := by rfl) (hd : (x == ("__debug__" : Str)) = false := by decide) : PE X (.Name x pos) (tC (.ref a)) := pe_glob hg hm rfl hd
def isiB_ok (K : PySem.W.Frag) (cn : Str) : Bool := ["NoneType", "bool", "int", "str", "tuple", "list", "dict"].all (fun t => decide (PySem.W.kitOne K (.type t) (.ref (He.ga K cn)) = some false)) && (decide (PySem.W.kitOne K (.ref (He.ga K cn)) (.ref (He.ga K cn)) = some true) &&
  ((He.Fa.cls cn).ok K && (He.eqO (PySem.W.findIn K (.ref (He.ga K cn)) "__class__") (some (some (.builtin "object.__class__"))) && (He.eqO (PySem.W.specialIn K (.builtin "object.__class__") "__get__") (some (some (.builtin "getset_descriptor.__get__"))) &&
  (decide (PySem.W.takesIn K (.builtin "object.__class__") = some true) && decide (PySem.W.mroIn K (He.ga K cn) (.type "object") = some true))))))
theorem isiF_of {K : PySem.W.Frag} {cn : Str} (c : isiB_ok K cn = true) : IsiF K cn := by
  unfold isiB_ok at c
  simp only [Bool.and_eq_true, decide_eq_true_eq, List.all_eq_true] at c
  obtain ⟨c1, c2, c3, c4, c5, c6, c7⟩ := c
  exact ⟨fun t => c1 t.nm (by cases t <;> simp [Ty.nm]), c2, ⟨He.cls_ok c3, He.eqO_ok c4, He.eqO_ok c5, c6, c7⟩⟩
end G
set_option Elab.async false
set_option linter.all false
set_option maxRecDepth 100000
/-! Except suites: the exception's class, its fields, try .. except X as n. -/
namespace G
open PySem PySem.Spec PyProof.Rows L2
open L2H (RoomH HotC Hot1)
/-- what is told of an exception's class, for isinstance -/
structure XisC (K : PySem.W.Frag) (D : Addr) : Prop where
  cl : (PySem.W.clsIn K D).isSome = true
  hg : PySem.W.findIn K (.ref D) "__getattribute__" = some (some (.builtin "BaseException.__getattribute__"))
  hk : PySem.W.findIn K (.ref D) "__getattr__" = some none
  hs : PySem.W.subIn K (.ref D) (.type "BaseException") = some true
  hd : PySem.W.hasDictIn K D = true
  ha : PySem.W.findIn K (.ref D) "__class__" = some (some (.builtin "object.__class__"))
  hn : PySem.W.specialIn K (.builtin "object.__class__") "__get__" = some (some (.builtin "getset_descriptor.__get__"))
  ht : PySem.W.takesIn K (.builtin "object.__class__") = some true
  hm : PySem.W.mroIn K D (.type "object") = some true
def xisB (K : PySem.W.Frag) (D : Addr) : Bool := (PySem.W.clsIn K D).isSome && (He.eqO (PySem.W.findIn K (.ref D) "__getattribute__") (some (some (.builtin "BaseException.__getattribute__"))) && (He.eqO (PySem.W.findIn K (.ref D) "__getattr__") (some none) && (decide (PySem.W.subIn K (.ref D) (.type "BaseException") = some true) && (PySem.W.hasDictIn K D &&
  (He.eqO (PySem.W.findIn K (.ref D) "__class__") (some (some (.builtin "object.__class__"))) && (He.eqO (PySem.W.specialIn K (.builtin "object.__class__") "__get__") (some (some (.builtin "getset_descriptor.__get__"))) && (decide (PySem.W.takesIn K (.builtin "object.__class__") = some true) && decide (PySem.W.mroIn K D (.type "object") = some true))))))))
theorem xis_of {K : PySem.W.Frag} {D : Addr} (c : xisB K D = true) : XisC K D := by
  unfold xisB at c
  simp only [Bool.and_eq_true, decide_eq_true_eq] at c
  obtain ⟨c1, c2, c3, c4, c5, c6, c7, c8, c9⟩ := c
  exact ⟨c1, He.eqO_ok c2, He.eqO_ok c3, c4, c5, He.eqO_ok c6, He.eqO_ok c7, c8, c9⟩
theorem XisC.xf {K : PySem.W.Frag} {D : Addr} (c : XisC K D) : XfC K D := ⟨c.hg, c.hk, c.hs, c.hd⟩
/-- the classes that are asked for, as values -/
inductive Cl where
  | ty (n : String) | own (x : Str)
def Cl.v (K : PySem.W.Frag) : Cl → V
  | .ty n => .ty n
  | .own x => .ref (clsA K x)
def Cl.u (K : PySem.W.Frag) : Cl → Value
  | .ty n => .type n
  | .own x => .ref (clsA K x)
theorem Cl.cv (K : PySem.W.Frag) : ∀ c : Cl, ClsV (c.v K) (c.u K)
  | .ty n => .ty n
  | .own x => .own _
theorem Cl.cvs (K : PySem.W.Frag) : ∀ cs : List Cl, Paired ClsV (cs.map (Cl.v K)) (cs.map (Cl.u K))
  | [] => .nil
  | c :: cs => .cons (c.cv K) (Cl.cvs K cs)
/-- isinstance(e, (A, ..)) -/
def rIsXT (K : PySem.W.Frag) (a : Addr) (cls : Value) (dd : Addr) (cs : List Cl) : List V → Hp → VK → Prop := fun xs H Q => ∃ (D tp : Addr) (b : Bool) (fs : List (Str × V)), xs = [.ref a, .ref tp] ∧ H tp = some (.tup (cs.map (Cl.v K))) ∧ cls = .ref D ∧ XisC K D ∧ H dd = some (.xd fs) ∧ PySem.W.kitAny K (.ref D) (cs.map (Cl.u K)) = some b ∧ Q (.bl b) H
def rIsX1 (K : PySem.W.Frag) (a : Addr) (cls : Value) (dd : Addr) (c : Cl) : List V → Hp → VK → Prop := fun xs H Q => ∃ (D : Addr) (b : Bool) (fs : List (Str × V)), xs = [.ref a, c.v K] ∧ cls = .ref D ∧ XisC K D ∧ H dd = some (.xd fs) ∧ PySem.W.kitOne K (.ref D) (c.u K) = some b ∧ Q (.bl b) H
section
variable {X : Cx} {a dd D : Addr} {oe : Obj} {cls : Value} {pn : List (Addr × Obj)}
theorem inst_here {pins : List (Addr × Obj)} {σ : L2.St} {H : Hp} {s : Shared} {fs : List (Str × V)} (I : Inv (X.suite a ((a, oe) :: pn)) pins σ H s) (hz : L2N.Zn (.ref D) (some dd) oe) (hf : ∃ vs, oe.data = .fields vs) (hd : H dd = some (.xd fs)) : ∃ od, PySem.W.InstAt s.heap a oe D (some od) := by
  obtain ⟨hget, _⟩ := I.pin (a, oe) (List.mem_append.mpr (.inl List.mem_cons_self))
  obtain ⟨vs, hv⟩ := hf
  obtain ⟨mA, hns, hr⟩ := (show ObjOk X.prog X.w H s.heap dd (.xd fs) from I.hok dd _ hd)
  obtain ⟨od, ho, hl⟩ := lookIn_ns hns
  exact ⟨od, hget, hz.1, by unfold PySem.W.notCls; rw [hv] <;> rfl, by rw [hz.2.1]; exact ho⟩
theorem call_isX1 {c : Cl} (hz : L2N.Zn cls (some dd) oe) (hf : ∃ vs, oe.data = .fields vs) : CallR (X.suite a ((a, oe) :: pn)) (.builtin "isinstance") (rIsX1 X.K a cls dd c) := by
  intro pins s σ H xs us Q I r h
  obtain ⟨D, b, fs, rfl, rfl, C, hd, e, q⟩ := h
  obtain ⟨u1, u2, rfl, r1, r2⟩ := vals2 r
  cases (show u1 = Value.ref a from r1)
  have e2 := (c.cv X.K).eq r2
  subst e2
  obtain ⟨od, J⟩ := inst_here I hz hf hd
  exact PySem.W.kia_one (PySem.W.kitx_exc C.cl C.hg C.hk C.hs C.ha C.hn C.ht C.hm) I.kIn J e (fun z => nomatch z) fun tk => ⟨.bl b, H, I.tok tk, rfl, q⟩
theorem call_isXT {cs : List Cl} (hz : L2N.Zn cls (some dd) oe) (hf : ∃ vs, oe.data = .fields vs) : CallR (X.suite a ((a, oe) :: pn)) (.builtin "isinstance") (rIsXT X.K a cls dd cs) := by
  intro pins s σ H xs us Q I r h
  obtain ⟨D, tp, b, fs, rfl, hT, rfl, C, hd, e, q⟩ := h
  obtain ⟨u1, u2, rfl, r1, r2⟩ := vals2 r
  cases (show u1 = Value.ref a from r1)
  cases (show u2 = Value.ref tp from r2)
  obtain ⟨od, J⟩ := inst_here I hz hf hd
  obtain ⟨_, its, rv, o, h1, h2, n, h3⟩ := (show ObjOk X.prog X.w H s.heap tp (.tup (cs.map (Cl.v X.K))) from I.hok tp _ hT)
  have e3 := ClsV.all (Cl.cvs X.K cs) rv
  subst e3
  obtain ⟨oc, od', dt, sl⟩ := o
  simp only at h2 h3
  subst h2 h3
  exact PySem.W.kia_tup (PySem.W.kitx_exc C.cl C.hg C.hk C.hs C.ha C.hn C.ht C.hm) I.kIn J h1 e (fun z => nomatch z) fun tk => ⟨.bl b, H, I.tok tk, rfl, q⟩
end
/-! ### bundles -/
section
variable {K : PySem.W.Frag}
/-- the answers by the exception's class -/
structure XTab (K : PySem.W.Frag) (cs : List Cl) where
  tab : Str → Option Bool
  ok : ∀ cn b, tab cn = some b → XisC K (clsA K cn) ∧ PySem.W.kitAny K (.ref (clsA K cn)) (cs.map (Cl.u K)) = some b
structure XTab1 (K : PySem.W.Frag) (c : Cl) where
  tab : Str → Option Bool
  ok : ∀ cn b, tab cn = some b → XisC K (clsA K cn) ∧ PySem.W.kitOne K (.ref (clsA K cn)) (c.u K) = some b
def tCls (K : PySem.W.Frag) : List Cl → TA
  | [] => tNil
  | c :: cs => tCons (tC (c.v K)) (tCls K cs)
theorem tCls_ok {H : Hp} {σ : L2.St} : ∀ {cs : List Cl} {Q : List V → Hp → Prop}, Q (cs.map (Cl.v K)) H → tCls K cs σ H Q
  | [], _, h => h
  | c :: cs, Q, h => tCls_ok (cs := cs) (Q := fun xs H2 => Q (c.v K :: xs) H2) h
variable (e : Exc)
def wIsX (e : Exc) (tab : Str → Option Bool) (a : DTE) : DTE := fun σ H Q E => a σ H (fun x H1 => match x with
  | .ref p => p = e.a ∧ optP (tab e.cn) fun b => Q (.bl b) H1
  | _ => False) E
def bIsX1 {c : Cl} (T : XTab1 K c) (a : TW ⟨K, some e⟩) : TW ⟨K, some e⟩ := ⟨fun W => tCB (rIsX1 K e.a e.cls e.dd c) (tCons (a.t W) (tCons (tC (c.v K)) tNil)), wIsX e T.tab a.w, fun W Z HD H σD σ QD ED Q s sl h k kx => a.ok W Z HD H σD σ _ ED _ s sl h (fun Z1 HD1 H1 d x st rx q => by
  split at q
  · obtain ⟨rfl, q⟩ := q
    obtain ⟨b, e1, q⟩ := optP_some q
    obtain ⟨h1, h2⟩ := T.ok _ _ e1
    obtain ⟨hc, vs, hz, _⟩ := st.sim.xi
    rw [show x = V.ref _ from rx]
    exact ⟨_, b, vs, rfl, hc, h1, st.sim.fz _ _ hz, h2, k.at q st rfl⟩
  · exact q.elim) kx⟩
def bIsXT {cs : List Cl} (T : XTab K cs) (hl : cs.length ≤ 100) (a : TW ⟨K, some e⟩) : TW ⟨K, some e⟩ := ⟨fun W => tCB (rIsXT K e.a e.cls e.dd cs) (tCons (a.t W) (tCons (tTup (tCls K cs)) tNil)), wIsX e T.tab a.w, fun W Z HD H σD σ QD ED Q s sl h k kx => a.ok W Z HD H σD σ _ ED _ s sl h (fun Z1 HD1 H1 d x st rx q => by
  split at q
  · obtain ⟨rfl, q⟩ := q
    obtain ⟨b, e1, q⟩ := optP_some q
    obtain ⟨h1, h2⟩ := T.ok _ _ e1
    rw [show x = V.ref _ from rx]
    show tTup (tCls K cs) σ H1 fun y H2 => rIsXT K e.a e.cls e.dd cs [V.ref e.a, y] H2 Q
    refine tCls_ok ⟨by rw [List.length_map]; exact Nat.le_trans hl (by decide), fun p hp => ?_⟩
    have sp := Step.newZ st.sim hp (.tup (cs.map (Cl.v K)))
    obtain ⟨hc, vs, hz, _⟩ := sp.sim.xi
    exact ⟨_, p, b, vs, rfl, upd_same, hc, h1, sp.sim.fz _ _ hz, h2, k.at q (st.trans sp) rfl⟩
  · exact q.elim) kx⟩
/-- e.f, e of the class cn -/
def wXf (e : Exc) (cn f : Str) (a : DTE) : DTE := fun σ H Q E => a σ H (fun x H1 => match x with
  | .ref p => p = e.a ∧ e.cn = cn ∧ optP (e.fs.lookup f) fun d => Q d H1
  | _ => False) E
def bXf (cn f : Str) (a : TW ⟨K, some e⟩) : TW ⟨K, some e⟩ := ⟨fun W => tXf e.a e.cls (some e.dd) (clsA K cn) f (a.t W), wXf e cn f a.w, fun W Z HD H σD σ QD ED Q s sl h k kx => a.ok W Z HD H σD σ _ ED _ s sl h (fun Z1 HD1 H1 d x st rx q => by
  split at q
  · obtain ⟨rfl, e2, q⟩ := q
    obtain ⟨y, e1, q⟩ := optP_some q
    obtain ⟨hc, vs, hz, rf⟩ := st.sim.xi
    have w := RepF.lookup (f := f) rf
    rw [e1] at w
    obtain ⟨v, hv, rv⟩ := w
    exact ⟨rx, by rw [hc, e2], e.dd, vs, v, rfl, st.sim.fz _ _ hz, hv, k.at q st rv⟩
  · exact q.elim) kx⟩
end
/-- a suite, from its reading for each exception -/
def suX {K : PySem.W.Frag} (b : ∀ e : Exc, SW ⟨K, some e⟩) : XSW K :=
  ⟨fun a cls d => match d with
    | some dd => fun Dn σ H => ∃ cn fs, (b ⟨a, cls, dd, cn, fs⟩).t W0 Dn σ H
    | none => fun _ _ _ => False, fun a cn fs DD σ H => ∀ cls dd, (b ⟨a, cls, dd, cn, fs⟩).w DD σ H, fun e Z HD H σD σ DD Dn s sl h k => ⟨e.cn, e.fs, (b e).ok W0 Z HD H σD σ DD Dn s sl (h e.cls e.dd) k⟩⟩
section
variable {X : Cx} {W : WX} {k : Nat} {pos p np p' : Pos} {e f g : Expr} {x n : Str} {sts suite : List Stmt} {b0 : Stmt}
theorem r_isX1 {oe : Obj} {pn : List (Addr × Obj)} {ex : Exc} {c : Cl} {T : XTab1 X.K c} {y : TW ⟨X.K, some ex⟩} (hz : L2N.Zn ex.cls (some ex.dd) oe) (hf : ∃ vs, oe.data = .fields vs) (hm : X.mg "isinstance" = none) (ha : PE (X.suite ex.a ((ex.a, oe) :: pn)) e (y.t W))
    (hc : PE (X.suite ex.a ((ex.a, oe) :: pn)) f (tC (c.v X.K))) (hg : Gl X "isinstance" := by rfl) (he : starEach [e, f] X.env = (false, eval e X.env) :: starEach [f] X.env := by rfl) (he2 : starEach [f] X.env = (false, eval f X.env) :: starEach [] X.env := by rfl)
    (hpl : (backTo pos (starEach [f] X.env)).any (·.1) = false := by rfl) : PE (X.suite ex.a ((ex.a, oe) :: pn)) (.Call (.Name "isinstance" p) [e, f] [] pos) ((bIsX1 ex T y).t W) :=
  pe_callB (call_isX1 hz hf) hg hm bo_isi (pa_cons ha (pa_cons hc pa_nil he2) he) (by decide) (by decide) he hpl
theorem r_isXT {oe : Obj} {pn : List (Addr × Obj)} {ex : Exc} {cs : List Cl} {T : XTab X.K cs} {hl : cs.length ≤ 100} {y : TW ⟨X.K, some ex⟩} {es : List Expr} {m : Nat} (hz : L2N.Zn ex.cls (some ex.dd) oe) (hf : ∃ vs, oe.data = .fields vs) (hm : X.mg "isinstance" = none) (ha : PE (X.suite ex.a ((ex.a, oe) :: pn)) e (y.t W))
    (hc : PA (X.suite ex.a ((ex.a, oe) :: pn)) es (tCls X.K cs)) (hg : Gl X "isinstance" := by rfl) (he : starEach [e, .Tuple es m p'] X.env = (false, eval e X.env) :: starEach [.Tuple es m p'] X.env := by rfl) (he2 : starEach [.Tuple es m p'] X.env = (false, eval (.Tuple es m p') X.env) :: starEach [] X.env := by rfl)
    (hpl : (backTo pos (starEach [.Tuple es m p'] X.env)).any (·.1) = false := by rfl) : PE (X.suite ex.a ((ex.a, oe) :: pn)) (.Call (.Name "isinstance" p) [e, .Tuple es m p'] [] pos) ((bIsXT ex T hl y).t W) :=
  pe_callB (call_isXT hz hf) hg hm bo_isi (pa_cons ha (pa_cons (pe_tup hc) pa_nil he2) he) (by decide) (by decide) he hpl
theorem c_nil : PA X [] (tCls X.K []) := pa_nil
theorem c_cons {c : Cl} {cs : List Cl} {es : List Expr} (h : PE X e (tC (c.v X.K))) (r : PA X es (tCls X.K cs)) (hs : starEach (e :: es) X.env = (false, eval e X.env) :: starEach es X.env := by rfl) : PA X (e :: es) (tCls X.K (c :: cs)) := pa_cons h r hs
theorem r_xf {oe : Obj} {pn : List (Addr × Obj)} {ex : Exc} {cn : Str} {y : TW ⟨X.K, some ex⟩} (C : XisC X.K (clsA X.K cn)) (hno : PySem.W.findIn X.K (.ref (clsA X.K cn)) n = some none) (hz : L2N.Zn ex.cls (some ex.dd) oe) (hf : ∃ vs, oe.data = .fields vs) (he : PE (X.suite ex.a ((ex.a, oe) :: pn)) e (y.t W))
    (hb : attributeBase e n X.env (eval e X.env) = eval e X.env := by rfl) : PE (X.suite ex.a ((ex.a, oe) :: pn)) (.Attribute e n pos) ((bXf ex cn n y).t W) := pe_xf C.xf hno hz.zc hf he hb
theorem s_tryAs {h : Hit X.K} {b : SW (plainC X.K)} {bs : ∀ e : Exc, SW ⟨X.K, some e⟩} {i : Nat} (c : CO X W k) (hc : Names X x h.c)
    (hb : ∀ (W' : WX) (pn : List (Addr × Obj)) (xe : Value → Shared → Prop), CO (X.tr pn xe) W' k → PSs (X.tr pn xe) sts (b.t W'))
    (hsu : ∀ (ex : Exc) (oe : Obj) (pn : List (Addr × Obj)), L2N.Zn ex.cls (some ex.dd) oe → (∃ vs, oe.data = .fields vs) → CH (X.suite ex.a ((ex.a, oe) :: pn)) W0 k → PSs (X.suite ex.a ((ex.a, oe) :: pn)) (b0 :: suite) ((bs ex).t W0))
    (hs : X.stack = X.env :: X.outer := by rfl) (hf : X.env.frame = some X.env.locals := by rfl) (hi : X.N[i]? = some n := by rfl) (hln : X.env.kindOf n = some .local := by rfl) :
    PS X (.Try sts [.ExceptHandler (some (.Name x np)) (some n) (b0 :: suite) p'] [] [] pos) ((sTryAs i h b (suX bs)).t W) := by
  refine L2N.ps_try_as hs hf c.nd hi hln hc c.tk (tb := fun W' => b.t W') (ts := (suX bs).t) (fun W' pn xe tk po => hb W' pn xe ⟨c.room, tk, po, c.calm, c.nd⟩) fun a oe cls d pn hz hv => ?_
  cases d with
  | none => exact ⟨fun _ _ _ _ _ _ h => h.elim⟩
  | some dd =>
    refine ⟨fun pins s σ H D I q => ?_⟩
    obtain ⟨cn, fs, q⟩ := q
    refine (hsu ⟨a, cls, dd, cn, fs⟩ oe pn hz hv ⟨⟨c.room.dp, c.room.un⟩, takes0N, PassesOwn.never, ⟨(a, oe), ⟨rfl, ?_⟩, List.mem_cons_self⟩, c.nd⟩).run pins s σ H D I q
    obtain ⟨vs, e⟩ := hv
    exact ⟨vs, e, hz.2.2 vs e⟩
end
theorem bo_ValueError : bootBuiltins "ValueError" = some (.type "ValueError") := by decide +kernel
/-! ### tables of answers -/
def XTab.nil {K : PySem.W.Frag} {cs : List Cl} : XTab K cs := ⟨fun _ => none, fun _ _ h => nomatch h⟩
def XTab1.nil {K : PySem.W.Frag} {c : Cl} : XTab1 K c := ⟨fun _ => none, fun _ _ h => nomatch h⟩
def Hit.nil {K : PySem.W.Frag} (cn : Str) : Hit K := ⟨.ref (clsA K cn), fun _ => none, fun _ _ h => nomatch h⟩
theorem add_ok {P : Str → Bool → Prop} {t : Str → Option Bool} {cn : Str} {b : Bool} (h : P cn b) (r : ∀ x b, t x = some b → P x b) : ∀ x b', (if x = cn then some b else t x) = some b' → P x b' := fun x b' e => by
  split at e
  · rename_i q
    cases e
    rw [q]; exact h
  · exact r x b' e
def XTab.add {K : PySem.W.Frag} {cs : List Cl} (cn : Str) (b : Bool) (h1 : XisC K (clsA K cn)) (h2 : PySem.W.kitAny K (.ref (clsA K cn)) (cs.map (Cl.u K)) = some b) (T : XTab K cs) : XTab K cs :=
  ⟨fun y => if y = cn then some b else T.tab y, add_ok (P := fun x b => XisC K (clsA K x) ∧ PySem.W.kitAny K (.ref (clsA K x)) (cs.map (Cl.u K)) = some b) ⟨h1, h2⟩ T.ok⟩
def XTab1.add {K : PySem.W.Frag} {c : Cl} (cn : Str) (b : Bool) (h1 : XisC K (clsA K cn)) (h2 : PySem.W.kitOne K (.ref (clsA K cn)) (c.u K) = some b) (T : XTab1 K c) : XTab1 K c :=
  ⟨fun y => if y = cn then some b else T.tab y, add_ok (P := fun x b => XisC K (clsA K x) ∧ PySem.W.kitOne K (.ref (clsA K x)) (c.u K) = some b) ⟨h1, h2⟩ T.ok⟩
def Hit.add {K : PySem.W.Frag} (hn cn : Str) (b : Bool) (h : PySem.W.exmOne K (.ref (clsA K cn)) (.ref (clsA K hn)) = some b) (T : Hit K) (e : T.c = .ref (clsA K hn)) : Hit K :=
  ⟨.ref (clsA K hn), fun y => if y = cn then some b else T.tab y, add_ok (P := fun x b => PySem.W.exmOne K (.ref (clsA K x)) (.ref (clsA K hn)) = some b) h fun x b q => by rw [← e]; exact T.ok x b q⟩
end G
set_option Elab.async false
set_option linter.all false
set_option maxRecDepth 100000
set_option maxHeartbeats 0
namespace G
open PySem PySem.Spec PyProof.Rows L2
def top (i : Nat) : Stmt := PySem.Challenge.pw_mendinghalls_k81_untold_refused.main.body.getD i (.Pass ⟨0, 0, 0, 0⟩)
abbrev t_is_figure : Stmt := top 2
abbrev t_figures_end : Stmt := top 3
abbrev t_are_figures : Stmt := top 4
abbrev t_number_of : Stmt := top 5
abbrev t_atom_text : Stmt := top 15
abbrev t_text_of : Stmt := top 16
abbrev t_is_letter : Stmt := top 17
abbrev t_string_at : Stmt := top 18
abbrev t_number_at : Stmt := top 19
abbrev t_atom_at : Stmt := top 20
abbrev t_value_of : Stmt := top 21
abbrev t_told : Stmt := top 23
abbrev t_untold : Stmt := top 24
abbrev t__law_box : Stmt := top 26
abbrev t__law_draw : Stmt := top 27
abbrev t__law_same : Stmt := top 28
abbrev t__law_reads : Stmt := top 29
abbrev t__law_text : Stmt := top 30
abbrev t__law_bent : Stmt := top 31
abbrev t__law_right : Stmt := top 32
abbrev t__law_all : Stmt := top 33
abbrev t_law : Stmt := top 34
abbrev t_InvalidText___init__ : Stmt := inClass (top 8) 0
def d_is_figure : He.DefD := ⟨("is_figure", none), "is_figure", "is_figure", defArgs t_is_figure, defBody t_is_figure, defScope t_is_figure, [], []⟩
def d_figures_end : He.DefD := ⟨("figures_end", none), "figures_end", "figures_end", defArgs t_figures_end, defBody t_figures_end, defScope t_figures_end, [], []⟩
def d_are_figures : He.DefD := ⟨("are_figures", none), "are_figures", "are_figures", defArgs t_are_figures, defBody t_are_figures, defScope t_are_figures, [], []⟩
def d_number_of : He.DefD := ⟨("number_of", none), "number_of", "number_of", defArgs t_number_of, defBody t_number_of, defScope t_number_of, [], []⟩
def d_atom_text : He.DefD := ⟨("atom_text", none), "atom_text", "atom_text", defArgs t_atom_text, defBody t_atom_text, defScope t_atom_text, [], []⟩
def d_text_of : He.DefD := ⟨("text_of", none), "text_of", "text_of", defArgs t_text_of, defBody t_text_of, defScope t_text_of, [], []⟩
def d_is_letter : He.DefD := ⟨("is_letter", none), "is_letter", "is_letter", defArgs t_is_letter, defBody t_is_letter, defScope t_is_letter, [], []⟩
def d_string_at : He.DefD := ⟨("string_at", none), "string_at", "string_at", defArgs t_string_at, defBody t_string_at, defScope t_string_at, [], []⟩
def d_number_at : He.DefD := ⟨("number_at", none), "number_at", "number_at", defArgs t_number_at, defBody t_number_at, defScope t_number_at, [], []⟩
def d_atom_at : He.DefD := ⟨("atom_at", none), "atom_at", "atom_at", defArgs t_atom_at, defBody t_atom_at, defScope t_atom_at, [], []⟩
def d_value_of : He.DefD := ⟨("value_of", none), "value_of", "value_of", defArgs t_value_of, defBody t_value_of, defScope t_value_of, [], []⟩
def d_told : He.DefD := ⟨("told", none), "told", "told", defArgs t_told, defBody t_told, defScope t_told, [], []⟩
def d_untold : He.DefD := ⟨("untold", none), "untold", "untold", defArgs t_untold, defBody t_untold, defScope t_untold, [], []⟩
def d__law_box : He.DefD := ⟨("_law_box", none), "_law_box", "_law_box", defArgs t__law_box, defBody t__law_box, defScope t__law_box, [], []⟩
def d__law_draw : He.DefD := ⟨("_law_draw", none), "_law_draw", "_law_draw", defArgs t__law_draw, defBody t__law_draw, defScope t__law_draw, [], []⟩
def d__law_same : He.DefD := ⟨("_law_same", none), "_law_same", "_law_same", defArgs t__law_same, defBody t__law_same, defScope t__law_same, [], []⟩
def d__law_reads : He.DefD := ⟨("_law_reads", none), "_law_reads", "_law_reads", defArgs t__law_reads, defBody t__law_reads, defScope t__law_reads, [], []⟩
def d__law_text : He.DefD := ⟨("_law_text", none), "_law_text", "_law_text", defArgs t__law_text, defBody t__law_text, defScope t__law_text, [], []⟩
def d__law_bent : He.DefD := ⟨("_law_bent", none), "_law_bent", "_law_bent", defArgs t__law_bent, defBody t__law_bent, defScope t__law_bent, [], []⟩
def d__law_right : He.DefD := ⟨("_law_right", none), "_law_right", "_law_right", defArgs t__law_right, defBody t__law_right, defScope t__law_right, [], []⟩
def d__law_all : He.DefD := ⟨("_law_all", none), "_law_all", "_law_all", defArgs t__law_all, defBody t__law_all, defScope t__law_all, [], []⟩
def d_law : He.DefD := ⟨("law", none), "law", "law", defArgs t_law, defBody t_law, defScope t_law, [], []⟩
def e_InvalidText : XD := ⟨"InvalidText", defArgs t_InvalidText___init__, defBody t_InvalidText___init__, defScope t_InvalidText___init__⟩
def fn1 : List He.DefD := [d_is_figure, d_figures_end, d_are_figures, d_number_of, d_atom_text, d_text_of, d_is_letter, d_string_at, d_number_at, d_atom_at, d_value_of]
def fn2 : List He.DefD := [d_told, d_untold, d__law_box, d__law_draw, d__law_same, d__law_reads, d__law_text, d__law_bent, d__law_right, d__law_all, d_law]
def fn : List He.DefD := fn1 ++ fn2
def xs : List XD := [e_InvalidText]
def fa1 : List He.Fa := [.free "ValueError", .free "abs", .free "bool", .free "int", .free "isinstance", .free "len", .free "list", .free "max", .free "min", .free "range", .free "repr", .free "reversed", .free "str", .free "super", .free "tuple", .glo "is_figure", .glo "figures_end", .glo "are_figures", .glo "number_of", .glo "atom_text", .glo "text_of", .glo "is_letter", .glo "string_at"]
def fa2 : List He.Fa := [.glo "number_at", .glo "atom_at", .glo "value_of", .glo "told", .glo "untold", .glo "_law_box", .glo "_law_draw", .glo "_law_same", .glo "_law_reads", .glo "_law_text", .glo "_law_bent", .glo "_law_right", .glo "_law_all", .glo "law", .glo "HallError", .glo "InvalidText", .str "FIGURES" "0123456789", .str "LETTERS" "abcdefghijklmnopqrstuvwxyz", .str "QUOTE" "\"", .str "NOTHING" "-", .int "DEEPEST" 60, .int "MOST_FIGURES" 40, .noat "InvalidText" "text", .noat "InvalidText" "at"]
def fa : List He.Fa := fa1 ++ fa2
def exb (K : PySem.W.Frag) : Bool := (xisB K (clsA K "InvalidText")) && (decide (PySem.W.exmOne K (.ref (clsA K "InvalidText")) (.ref (clsA K "InvalidText")) = some true))
abbrev R : PySem.W.OpenRow := PySem.W.OpenLaw.row PySem.Challenge.rw_mendinghalls_k81_untold_refused
abbrev hk : PySem.W.Hook := hookG R.prog 4 fa fn xs exb
def ob (s : PySem.W.SharedT) : AlG := obsG R.prog 4 fa fn xs exb (HandSHeadRun.getT s)
theorem ob_eq (s : PySem.W.SharedT) : ob s = hk.obs s.abs := obsG_eq (HandSHeadRun.getT_eq s)
def loose : List PySem.Str := ["FIGURES", "is_figure", "figures_end", "are_figures", "number_of", "HallError", "InvalidText", "LETTERS", "QUOTE", "NOTHING", "DEEPEST", "MOST_FIGURES", "atom_text", "text_of", "is_letter", "string_at", "number_at", "atom_at", "value_of", "told", "untold", "_law_box", "_law_draw", "_law_same", "_law_reads", "_law_text", "_law_bent", "_law_right", "_law_all"]
theorem om2 {α β γ : Type} {o : Option α} {f : α → β} {g : α → γ} {a : β} {b : γ} (h1 : o.map f = some a) (h2 : o.map g = some b) : o.map (fun s => (f s, g s)) = some (a, b) := by
  cases o with
  | none => cases h1
  | some s =>
    injection h1 with h1
    injection h2 with h2
    show some (f s, g s) = _
    rw [h1, h2]
theorem om4 {α β γ δ ε : Type} {o : Option α} {f : α → β} {g : α → γ × δ} {h : α → ε} {a : β} {b : γ} {c : δ} {d : ε} (h1 : o.map f = some a) (h2 : o.map g = some (b, c)) (h3 : o.map h = some d) : o.map (fun s => ((f s, (g s).1), (g s).2, h s)) = some ((a, b), c, d) := by
  cases o with
  | none => cases h1
  | some s =>
    injection h1 with h1
    injection h2 with h2
    injection h3 with h3
    show some ((f s, (g s).1), (g s).2, h s) = _
    rw [h1, h2, h3]
theorem omL {α β : Type} {o : Option α} {p : α → β → Bool} {l m : List β} (h1 : o.map (fun s => l.all (p s)) = some true) (h2 : o.map (fun s => m.all (p s)) = some true) : o.map (fun s => (l ++ m).all (p s)) = some true := by
  cases o with
  | none => cases h1
  | some s =>
    injection h1 with h1
    injection h2 with h2
    have h1 : l.all (p s) = true := h1
    have h2 : m.all (p s) = true := h2
    show some ((l ++ m).all (p s)) = _
    rw [List.all_append, h1, h2]; rfl
theorem omM {α β γ : Type} {o : Option α} {p : α → β → γ} {v : β → γ} {l m : List β} (h1 : o.map (fun s => l.map (p s)) = some (l.map v)) (h2 : o.map (fun s => m.map (p s)) = some (m.map v)) : o.map (fun s => (l ++ m).map (p s)) = some ((l ++ m).map v) := by
  cases o with
  | none => cases h1
  | some s =>
    injection h1 with h1
    injection h2 with h2
    have h1 : l.map (p s) = l.map v := h1
    have h2 : m.map (p s) = m.map v := h2
    show some ((l ++ m).map (p s)) = _
    rw [List.map_append, List.map_append, h1, h2]
theorem omA {α : Type} {o : Option α} {f g : α → Bool} (h1 : o.map f = some true) (h2 : o.map g = some true) : o.map (fun s => f s && g s) = some true := by
  cases o with
  | none => cases h1
  | some s =>
    injection h1 with h1
    injection h2 with h2
    show some (f s && g s) = _
    rw [h1, h2]; rfl
section
open PySem.W PySem.Calls HandSHeadRun
theorem run1 (w : World) (os : OsState) : (endF (stepQ (denQ tabQ) R.prog w) 20000 R.prog w os).map (fun s => (looksF R.prog (boot_heap w.params) s.abs)) = some true := by kernel_rfl
theorem run2 (w : World) (os : OsState) : (endF (stepQ (denQ tabQ) R.prog w) 20000 R.prog w os).map (fun s => (seenQ (PySem.W.view R.prog [34]) loose (importedModules R.prog.main.body) (fun s => xlAt (PySem.W.view R.prog [34]) [] s && recOk R.toRowW.records s) s.abs)) = some (openGood (PySem.W.view R.prog [34]) loose) := by kernel_rfl
theorem run3a1 (w : World) (os : OsState) : (endF (stepQ (denQ tabQ) R.prog w) 20000 R.prog w os).map (fun s => (fa1.all fun f => f.ok (frA 4 (HandSHeadRun.getT s)))) = some true := by kernel_rfl
theorem run3a2 (w : World) (os : OsState) : (endF (stepQ (denQ tabQ) R.prog w) 20000 R.prog w os).map (fun s => (fa2.all fun f => f.ok (frA 4 (HandSHeadRun.getT s)))) = some true := by kernel_rfl
theorem run3b1 (w : World) (os : OsState) : (endF (stepQ (denQ tabQ) R.prog w) 20000 R.prog w os).map (fun s => (fn1.all fun d => d.ok (frA 4 (HandSHeadRun.getT s)))) = some true := by kernel_rfl
theorem run3b2 (w : World) (os : OsState) : (endF (stepQ (denQ tabQ) R.prog w) 20000 R.prog w os).map (fun s => (fn2.all fun d => d.ok (frA 4 (HandSHeadRun.getT s)))) = some true := by kernel_rfl
theorem run5a1 (w : World) (os : OsState) : (endF (stepQ (denQ tabQ) R.prog w) 20000 R.prog w os).map (fun s => (fn1.map fun d => He.fnW (frA 4 (HandSHeadRun.getT s)) d.at_)) = some (fn1.map He.DefD.val) := by kernel_rfl
theorem run5a2 (w : World) (os : OsState) : (endF (stepQ (denQ tabQ) R.prog w) 20000 R.prog w os).map (fun s => (fn2.map fun d => He.fnW (frA 4 (HandSHeadRun.getT s)) d.at_)) = some (fn2.map He.DefD.val) := by kernel_rfl
theorem run5b (w : World) (os : OsState) : (endF (stepQ (denQ tabQ) R.prog w) 20000 R.prog w os).map (fun s => (xs.map (XD.obs (frA 4 (HandSHeadRun.getT s))))) = some (xs.map XD.val) := by kernel_rfl
theorem run7a (w : World) (os : OsState) : (endF (stepQ (denQ tabQ) R.prog w) 20000 R.prog w os).map (fun s => (exb (frA 4 (HandSHeadRun.getT s)))) = some true := by kernel_rfl
theorem run7b (w : World) (os : OsState) : (endF (stepQ (denQ tabQ) R.prog w) 20000 R.prog w os).map (fun s => (xs.all (XD.ok R.prog (frA 4 (HandSHeadRun.getT s))))) = some true := by kernel_rfl
end
theorem run (w : World) : HandSHeadRun.RunEq R (PySem.W.view R.prog [34]) hk ob 20000 loose w := fun os => by
  have h3a := omL (run3a1 w os) (run3a2 w os)
  have h3b := omL (run3b1 w os) (run3b2 w os)
  have h3 := omA h3a h3b
  have h5a := omM (run5a1 w os) (run5a2 w os)
  have h5 := om2 h5a (run5b w os)
  have h7 := omA (run7a w os) (run7b w os)
  have h4 := om4 h3 h5 h7
  have h1 := om2 (run1 w os) (om2 (run2 w os) h4)
  exact h1
end G
set_option Elab.async false
set_option linter.all false
set_option maxRecDepth 100000
/-! sorted of ints out of a list or a tuple; starred members of a display; a caught exception's field, of several classes. -/
namespace G
open PySem PySem.Spec PyProof.Rows L2
section
variable {prog : Program} {w : World} {A : Around} {E : Value → Shared → Prop} {s : Shared}
/-- what is collected of a list or a tuple, the heap told -/
theorem gather {Q : List Value → Shared → Prop} {it : Addr} {T : String} {o : Obj} {vs : List Value} {n : Nat} (hT : T = "list" ∨ T = "tuple") (ho : s.heap.get? it = some o) (hc : o.cls = .type T) (hd : o.data = .seq vs.toArray n) (hz : vs.length ≤ sizeLine)
    (hQ : Q vs { s with heap := (s.heap.push (seqObj "list" #[] 0)).update s.heap.objs.size (Obj.mapSeq (· ++ vs.toArray)) }) : wpAny (model prog w) A (collect (.ref it)) Q E s := by
  unfold collect
  refine wpAny_bind (wpAny_runValue (codeAny_builtin F.entry_proto_collect ?_))
  rw [Around.under_plainId F.plain_proto_collect _]
  show wpAny _ A.in1 (newList [] >>= fun z => again (.builtin "list.__iadd__" ⟨[z, .ref it], []⟩)) _ _ s
  refine wpAny_bind (wpAny_newObj_type (wpAny_pure ⟨plainId_quiet F.plain_list_iadd _, codeAny_builtin F.entry_list_iadd ?_⟩))
  rw [Around.under_plainId F.plain_list_iadd _]
  show wpAny _ A.in1 (Builtin.List.listExtendWith (.ref s.heap.objs.size) (.ref it) (.ref s.heap.objs.size)) _ _ { s with heap := s.heap.push (seqObj "list" #[] 0) }
  have h0 : (s.heap.push (seqObj "list" #[] 0)).get? s.heap.objs.size = some (seqObj "list" #[] 0) := Heap.get?_push_size _ rfl
  have h1 := Heap.get?_update_self (Obj.mapSeq (· ++ vs.toArray)) h0 rfl
  have back : wpAny (model prog w) A (match Value.ref s.heap.objs.size with
      | Value.ref b => do
        match (← load b).data with
          | Data.seq ys _ => pure ys.toList
          | _ => unsupported "internal:collect"
      | _ => unsupported "internal:collect") Q E { s with heap := (s.heap.push (seqObj "list" #[] 0)).update s.heap.objs.size (Obj.mapSeq (· ++ vs.toArray)) } := by
    show wpAny _ A (load s.heap.objs.size >>= _) _ _ _
    refine wpAny_bind (wpAny_load h1 (wpAny_pure ?_))
    have e : ((#[] : Array Value) ++ vs.toArray).toList = vs := by simp
    show Q ((#[] : Array Value) ++ vs.toArray).toList _
    rw [e]
    exact hQ
  refine wpAny_mono (wpAny_extend_seq (hsz := by rw [List.size_toArray]; exact hz) (A := A) (R := fun r z => r = .ok (.ret (.ref s.heap.objs.size)) ∧ z = { s with heap := (s.heap.push (seqObj "list" #[] 0)).update s.heap.objs.size (Obj.mapSeq (· ++ vs.toArray)) })
    (s := { s with heap := s.heap.push (seqObj "list" #[] 0) }) _ it _ 0 hT h0 (Heap.get?_push_of_some _ ho) hc hd ⟨rfl, rfl⟩) (fun fin z h => ?_) (fun e z h => ?_)
  · cases fin with
    | done f =>
      obtain ⟨e, rfl⟩ := h
      cases e
      exact back
    | again c =>
      refine ⟨h.1, codeAny_mono h.2 fun r y hr => ?_⟩
      obtain ⟨rfl, rfl⟩ := hr
      exact back
  · exact absurd h.1 (by simp)
/-- sorted of a list or a tuple -/
theorem sorted_sq {l : Addr} {T : String} {o : Obj} {n : Nat} {vs : List Value} {lt : Value → Value → Bool} {Q : Value → Shared → Prop} (hT : T = "list" ∨ T = "tuple") (ho : s.heap.get? l = some o) (hc : o.cls = .type T) (hd : o.data = .seq vs.toArray n) (O : SrtO.Swo lt) (hz : vs.length ≤ sizeLine)
    (can : 2 ≤ vs.length → ∀ (g : Heap) (a : Addr), g.get? a = some (seqObj "list" vs.toArray 0) → (∀ b u, s.heap.get? b = some u → b ≠ a ∧ g.get? b = some u) → SrtO.SortableO prog w A.in1.in1 { s with heap := g } a vs lt)
    (fin : ∀ out : List Value, SrtO.Srtd lt out → SrtO.Stb lt out vs → Q (.ref (s.heap.objs.size + 1)) { s with heap := sortedAll s.heap vs out.toArray }) : wpAny (model prog w) A (call (.builtin "sorted") [.ref l]) Q E s := by
  refine Calls.call_function_entry kind_sorted plain_sorted entry_sorted (args_sorted1 _) ?_
  unfold Builtin.«sorted»
  refine wpAny_bind (m := checkCount "sorted" 1 1 _) (wpAny_pure (wpAny_bind (gather hT ho hc hd hz (wpAny_bind (wpAny_newList ?_ hz)))))
  generalize hg : (s.heap.push (seqObj "list" #[] 0)).update s.heap.objs.size (Obj.mapSeq (· ++ vs.toArray)) = g
  have sz : g.objs.size = s.heap.objs.size + 1 := by rw [← hg, Heap.size_update, size_push']
  have at1 : (g.push (seqObj "list" vs.toArray 0)).get? (s.heap.objs.size + 1) = some (seqObj "list" vs.toArray 0) := by
    rw [← sz]
    exact Heap.get?_push_size _ rfl
  have keep : ∀ b u, s.heap.get? b = some u → b ≠ s.heap.objs.size + 1 ∧ (g.push (seqObj "list" vs.toArray 0)).get? b = some u := fun b u q => by
    have lt := Heap.lt_size q
    refine ⟨Nat.ne_of_lt (Nat.lt_succ_of_lt lt), Heap.get?_push_of_some _ ?_⟩
    rw [← hg, Heap.get?_update_ne _ _ _ _ (Nat.ne_of_lt lt)]
    exact Heap.get?_push_of_some _ q
  show wpAny _ _ _ _ _ { s with heap := g.push (seqObj "list" vs.toArray 0) }
  rw [show (Value.ref ({ s with heap := g } : Shared).heap.objs.size) = .ref (s.heap.objs.size + 1) from congrArg _ sz]
  refine wpAny_bind (wpAny_holding (wpAny_call_entry slot_list_sort ⟨_, at1, rfl⟩ entry_list_sort (SrtO.list_sort_ord O at1 hz (fun h2 => can h2 _ _ at1 keep) fun out a b => ⟨_, rfl, ?_⟩) (args_list_sort _)))
  have z := fin out a b
  unfold sortedAll at z
  rw [hg] at z
  exact wpAny_pure ⟨_, rfl, z⟩
end
section
variable {X : Cx}
def rSortA (K : PySem.W.Frag) : List V → Hp → VK → Prop := fun vs H Q => ∃ (a : Addr) (ns : List Int), vs = [V.ref a] ∧ (SqL K H a (ns.map V.int) ∨ SqT K H a (ns.map V.int)) ∧ ∀ (ms : List Int) (p : Addr), ms.Perm ns → ms.Pairwise (· ≤ ·) → H p = none → Q (.ref p) (upd H p (.lst (ms.map V.int)))
theorem cr_sortA : CallR X (.builtin "sorted") (rSortA X.K) := by
  intro pins s σ H vs us Q I r h
  obtain ⟨a, ns, rfl, hs, q⟩ := h
  have got : ∃ (its : List Value) (T : String) (o : Obj) (n : Nat), Vals (ns.map V.int) its ∧ (T = "list" ∨ T = "tuple") ∧ s.heap.get? a = some o ∧ o.cls = .type T ∧ o.data = .seq its.toArray n ∧ (ns.map V.int).length ≤ sizeLine := by
    rcases hs with hs | hs
    · obtain ⟨its, rv, ⟨o, n, e, c, _, d⟩, hz⟩ := I.list hs
      exact ⟨its, "list", o, n, rv, .inl rfl, e, c, d, hz⟩
    · obtain ⟨its, rv, ⟨o, e, c, n, d⟩, hz⟩ := I.tuple hs
      exact ⟨its, "tuple", o, n, rv, .inr rfl, e, c, d, hz⟩
  obtain ⟨its, T, o, n, rv, hT, ho, hc, hd, hz⟩ := got
  rw [Vals.ref1 r]
  have hi := rv.ints
  refine sorted_sq hT ho hc hd SrtO.swo_int (by rw [← rv.length]; exact hz) (fun h2 g a' _ _ => SrtO.ints_sortable hi h2) fun out h1 h2 => ?_
  obtain ⟨k1, k2, k3⟩ := SrtO.ints_out hi h1 h2
  obtain ⟨ep, he⟩ := sortedAll_at s.heap its out.toArray
  have hlen : ((out.map SrtO.iv).map V.int).length ≤ sizeLine := by
    rw [List.length_map] at hz ⊢
    rw [k2.length_eq]
    exact hz
  exact ⟨.ref _, upd H (s.heap.objs.size + 1) (.lst ((out.map SrtO.iv).map V.int)), I.laid (t' := s.toks) (fun _ _ => sortedAll_old) (Nat.le_succ _) ⟨hlen, out, ep, vals_of_ints k1, he⟩, rfl, q _ _ k2 k3 (I.hok.fresh (Nat.le_succ _))⟩
theorem bo_sorted : bootBuiltins "sorted" = some (.builtin "sorted") := by decide +kernel
section
variable {C : TC}
def dSorted (f : Bool) : List D → DH → DQ → Prop
  | [d], H, Q => optP (seqD H d) fun ds => ∃ ns : List Int, ds = ns.map .int ∧ ∀ ms : List Int, ms.Perm ns → ms.Pairwise (· ≤ ·) → newL f (ms.map .int) H Q
  | _, _, _ => False
def fSorted (f : Bool) : Fn C := ⟨rSortA C.K, dSorted f, fun Z HD H ds xs QD Q s rs q k => by
  unfold dSorted at q
  split at q
  · obtain ⟨v, rfl, rv⟩ := one_of rs
    obtain ⟨ds, e1, ns, rfl, q⟩ := optP_some q
    obtain ⟨a, xs, rfl, h1, r1⟩ := seqD_ok s rv e1
    obtain rfl := r1.ints
    exact ⟨a, ns, rfl, h1, fun ms p h2 h3 hp => new_list s k (Reps.of_ints ms) (q ms h2 h3) p hp⟩
  · exact q.elim⟩
/-- *a, .. in a display -/
def wStar (a : DTE) (r : DTA) : DTA := fun σ H Q E => a σ H (fun d H1 => optP (seqD H1 d) fun ds => r σ H1 (fun es H2 => Q (ds ++ es) H2) E) E
def aStar (a : TW C) (r : AW C) : AW C := ⟨fun W => StX.tStar C.K (a.t W) (r.t W), wStar a.w r.w, fun W Z HD H σD σ QD ED Q s sl h k kx => a.ok W Z HD H σD σ _ ED _ s sl h (fun Z1 HD1 H1 d x st rx q => by
  obtain ⟨ds, e1, q⟩ := optP_some q
  obtain ⟨b, xs, rfl, h1, r1⟩ := seqD_ok st.sim rx e1
  exact ⟨b, xs, rfl, h1.symm, r.ok W Z1 HD1 H1 σD σ _ ED _ st.sim (sl.mono st.ext) q (fun Z2 HD2 H2 es ys st2 rs q2 => k _ _ _ (ds ++ es) (xs ++ ys) (st.trans st2) ((Reps.mono st2.ext _ _ r1).append rs) q2) (kx.mono st)⟩) kx⟩
end
theorem a_star {xi : Option Exc} {W : WX} {e : Expr} {es : List Expr} {p : Pos} {a : TW ⟨X.K, xi⟩} {r : AW ⟨X.K, xi⟩} (ha : PE X e (a.t W)) (hr : PA X es (r.t W)) (hs : starEach (.Starred e p :: es) X.env = (true, eval e X.env) :: starEach es X.env := by rfl) : PA X (.Starred e p :: es) ((aStar a r).t W) := StX.pa_star ha hr hs
theorem w_star {C : TC} {a : TW C} {r : AW C} {σ : DS} {H : DH} {Q : List D → DH → Prop} {E : DX1} : (aStar a r).w σ H Q E = a.w σ H (fun d H1 => optP (seqD H1 d) fun ds => r.w σ H1 (fun es H2 => Q (ds ++ es) H2) E) E := rfl
end
/-! ### a caught exception's field, of several classes -/
section
variable {K : PySem.W.Frag} {e : Exc}
def wXfs (e : Exc) (cs : List Str) (f : Str) (a : TW ⟨K, some e⟩) : DTE := fun σ H Q E => e.cn ∈ cs ∧ (bXf e e.cn f a).w σ H Q E
def tAny (cs : List Str) (t : Str → TE) : TE := fun σ H Q => ∃ cn, cn ∈ cs ∧ t cn σ H Q
def bXfs (e : Exc) (cs : List Str) (f : Str) (a : TW ⟨K, some e⟩) : TW ⟨K, some e⟩ := ⟨fun W => tAny cs fun cn => (bXf e cn f a).t W, wXfs e cs f a, fun W Z HD H σD σ QD ED Q s sl h k kx => ⟨e.cn, h.1, (bXf e e.cn f a).ok W Z HD H σD σ QD ED Q s sl h.2 k kx⟩⟩
theorem w_xfs {cs : List Str} {f : Str} {a : TW ⟨K, some e⟩} {σ : DS} {H : DH} {Q : DQ} {E : DX1} : (bXfs e cs f a).w σ H Q E = (e.cn ∈ cs ∧ (bXf e e.cn f a).w σ H Q E) := rfl
theorem pe_any {X : Cx} {e : Expr} {cs : List Str} {t : Str → TE} (h : ∀ cn, cn ∈ cs → PE X e (t cn)) : PE X e (tAny cs t) := ⟨fun pins s σ H Q I z => by
  obtain ⟨cn, hc, z⟩ := z
  exact (h cn hc).run pins s σ H Q I z⟩
end
section
variable {X : Cx} {W : WX} {pos : Pos} {n : Str}
theorem r_xfs {oe : Obj} {pn : List (Addr × Obj)} {ex : Exc} {e : Expr} {cs : List Str} {y : TW ⟨X.K, some ex⟩} (hc : ∀ cn, cn ∈ cs → XisC X.K (clsA X.K cn) ∧ PySem.W.findIn X.K (.ref (clsA X.K cn)) n = some none) (hz : L2N.Zn ex.cls (some ex.dd) oe) (hf : ∃ vs, oe.data = .fields vs) (he : PE (X.suite ex.a ((ex.a, oe) :: pn)) e (y.t W))
    (hb : attributeBase e n X.env (eval e X.env) = eval e X.env := by rfl) : PE (X.suite ex.a ((ex.a, oe) :: pn)) (.Attribute e n pos) ((bXfs ex cs n y).t W) := pe_any fun cn h => r_xf (hc cn h).1 (hc cn h).2 hz hf he hb
theorem r_frz {xi : Option Exc} {e : Expr} {a : TW ⟨X.K, xi⟩} (h : PE X e (a.t W)) : PE X e ((bFrz a).t W) := h
end
end G
set_option Elab.async false
set_option linter.all false
set_option maxRecDepth 100000
/-! extend by a tuple; methods of an instance; str of an int. -/
namespace G
open PySem PySem.Spec PyProof.Rows L2
theorem list_extend_tupO (l : Addr) (items : Array Value) (n : Nat) (b : Addr) (items2 : Array Value) (n2 : Nat) (od : Option Addr) (os2 : Array (Option Value)) (hs0 : ¬(!items.isEmpty && Builtin.List.listTooLong (items.size + items2.size)) = true) (hs1 : items.size ≤ sizeLine) (hs2 : items.size + items2.size ≤ sizeLine + 1) :
    Meets (Builtin.«list.extend» ⟨[.ref l, .ref b], []⟩) (fun _ R s => s.heap.get? l = some { cls := .type "list", dict := none, data := .seq items n, slots := #[] } ∧ s.heap.get? b = some { cls := .type "tuple", dict := od, data := .seq items2 n2, slots := os2 } ∧ R (.ok (.ret Value.none)) { s with heap := s.heap.update l (Obj.mapSeq fun x => x ++ items2), toks := s.toks }) :=
  .of_wp fun prog w A R s h => by
    obtain ⟨hp, g, d, tk, os⟩ := s; obtain ⟨hl, hb, h⟩ := h
    have f1 := AutoSeq1.idx_int; have f2 := AutoSeq1.sub_tuple_tuple; have f3 := AutoSeq1.sub_list_list; have f4 := AutoSeq1.sub_tuple_list; have f5 := AutoSeq1.sub_list_tuple
    have hz' : (items ++ items2).size ≤ sizeLine + 1 := by rw [Array.size_append]; exact hs2
    wp_walk using (wpAny_updateSeq hl rfl (hz := hs1) (_hz' := hz')), AutoSeq1.wpAny_loadPart' hl, AutoSeq1.wpAny_loadPart' hb
    exact ⟨_, rfl, h⟩
section
variable {X : Cx}
def rExtendT (K : PySem.W.Frag) : V → List V → Hp → VK → Prop := fun x vs H Q => ∃ l b xs zs, x = .ref l ∧ vs = [.ref b] ∧ H l = some (.lst xs) ∧ SqT K H b zs ∧ xs.length + zs.length ≤ sizeLine ∧ Q .non (upd H l (.lst (xs ++ zs)))
theorem mt_extendT : MtM X "list.extend" (rExtendT X.K) := by
  intro pins s σ H x vs v us Q I rx rv h
  obtain ⟨l, b, xs, zs, rfl, rfl, hH, hB, hz, q⟩ := h
  cases rx
  obtain ⟨u, rfl, ru⟩ := rv.one
  cases ru
  obtain ⟨z, its, n, r, hl, e⟩ := I.lstM hH
  obtain ⟨its2, r2, pl, hz2⟩ := I.tuple hB
  obtain ⟨⟨oc, od, odt, osl⟩, ho, hc, n2, hd⟩ := pl
  have hc : oc = .type "tuple" := hc
  have hd : odt = .seq its2.toArray n2 := hd
  subst hc hd
  have hl2 := r2.length
  have hsz : its.toArray.size + its2.toArray.size ≤ sizeLine := by rw [List.size_toArray, List.size_toArray]; omega
  have hlong : ¬ (!its.toArray.isEmpty && Builtin.List.listTooLong (its.toArray.size + its2.toArray.size)) = true := by
    rw [notLongL hsz, Bool.and_false]
    exact Bool.false_ne_true
  refine call_meets F.slot_list_extend ⟨_, e, rfl⟩ F.entry_list_extend (F.args_list_extend_2 _ _)
    (list_extend_tupO l its.toArray n b its2.toArray n2 od osl hlong (by rw [List.size_toArray]; omega) (by omega)) ⟨e, ho, ?_⟩
  refine ⟨.non, _, I.lset (its' := its ++ its2) hH e (by simp) (r.append r2) ?_, rfl, q⟩
  rw [List.length_append]
  omega
end
section
variable {C : TC}
def dExtendT (d : D) (as : List D) (H : DH) (Q : DQ) : Prop := match as with
  | [.tup es] => onL H d fun l ds => ds.length + es.length ≤ sizeLine ∧ Q .non (updD H l (.lst (ds ++ es)))
  | _ => False
/-- xs.extend(t), t a tuple -/
def mExtendT : Mt C := mLst (rExtendT C.K) dExtendT fun Z HD H d ds x xs QD Q s rx rs q k => by
  unfold dExtendT at q
  split at q
  · rename_i es
    obtain ⟨v, rfl, rv⟩ := one_of rs
    obtain ⟨b, zs, rfl, hb, rb⟩ := rv
    obtain ⟨l, ys, us, rfl, rfl, e, ex, r1, q1, q⟩ := onL_ok s rx q
    have l1 := r1.length
    have l2 := rb.length
    exact ⟨l, b, us, zs, rfl, rfl, ex, s.seqT hb, by omega, k.at q (Step.write s e ⟨_, rfl, r1.append rb⟩) rfl⟩
  · exact q.elim
/-- a call of an own method -/
def tMethO (cn m : Str) (sp : Sp) (E : St → XK) (ta : TE) (t : TA) : TE := fun σ H Q => ta σ H fun x H1 => ∃ a dx fs, x = .ref a ∧ H1 a = some (.ins (clsA C.K cn) dx fs) ∧ fs.lookup m = none ∧ t σ H1 fun vs H2 => sp (x :: vs) H2 Q (E σ)
def wMethO (cn m : Str) (n : Nat) (sp : DSp) (o : DTE) (a : DTA) : DTE := fun σ H Q E => o σ H (fun x H1 => onI H1 x (fun _ c fs => c = cn ∧ fs.lookup m = none) ∧ a σ H1 (fun ds H2 => (x :: ds).length = n ∧ sp (x :: ds) H2 Q E) E) E
def bMethO (cn m : Str) (n : Nat) (sp : DSp) (o : TW C) (a : AW C) : TW C := ⟨fun W => tMethO (C := C) cn m (lift C.K n sp) (WE W) (o.t W) (a.t W), wMethO cn m n sp o.w a.w, fun W Z HD H σD σ QD ED Q s sl h k kx => o.ok W Z HD H σD σ _ ED _ s sl h (fun Z1 HD1 H1 d x st rx q => by
  obtain ⟨l, c, fs, dx, vs, rfl, rfl, e, ex, r1, rfl, q1⟩ := onI_ok st.sim rx q.1
  have w := RepF.lookup (f := m) r1
  rw [q1] at w
  refine ⟨l, dx, vs, rfl, ex, w, a.ok W Z1 HD1 H1 σD σ _ ED _ st.sim (sl.mono st.ext) q.2 (fun Z2 HD2 H2 ds xs st2 rs q2 => ?_) (kx.mono st)⟩
  have st12 := st.trans st2
  exact ⟨Z2, HD2, .ref l :: ds, QD, ED, st2.sim.plain, Reps.cons rfl rs, q2.1, q2.2, fun Z3 HD3 H3 d v st3 rv q3 => k.at q3 (st12.trans (Step.back st2.sim st3)) rv, fun Z3 HD3 H3 cn fs dd vs st3 hz rf q3 => kx _ _ _ _ _ _ _ (st12.trans (Step.back st2.sim st3)) hz rf q3⟩) kx⟩
def wNotT (a : DTE) : DTE := fun σ H Q E => a σ H (fun x H1 => dTru x H1 fun c H2 => Q (.bl (!c)) H2) E
/-- not e as a value, by truth -/
def bNotT (a : TW C) : TW C := ⟨fun W => tNotT C.K (a.t W), wNotT a.w, fun W Z HD H σD σ QD ED Q s sl h k kx => a.ok W Z HD H σD σ _ ED _ s sl h (fun Z1 HD1 H1 d x st rx q => by
  obtain ⟨b, h1, h2⟩ := tru_of st.sim rx q
  exact ⟨b, h1, k.at h2 st rfl⟩) kx⟩
theorem w_notT {a : TW C} {σ : DS} {H : DH} {Q : DQ} {E : DX1} : (bNotT a).w σ H Q E = a.w σ H (fun x H1 => dTru x H1 fun c H2 => Q (.bl (!c)) H2) E := rfl
theorem w_methO {cn m : Str} {n : Nat} {sp : DSp} {o : TW C} {a : AW C} {σ : DS} {H : DH} {Q : DQ} {E : DX1} : (bMethO cn m n sp o a).w σ H Q E = o.w σ H (fun x H1 => onI H1 x (fun _ c fs => c = cn ∧ fs.lookup m = none) ∧ a.w σ H1 (fun ds H2 => (x :: ds).length = n ∧ sp (x :: ds) H2 Q E) E) E := rfl
def dStrI : List D → DH → DQ → Prop
  | [.int i], H, Q => i.natAbs.log2 < 1920 ∧ Q (.str (toString i : PySem.Str)) H
  | _, _, _ => False
/-- str(n) -/
def fStrI : Fn C := ⟨fun xs H Q => ∃ i, xs = [.int i] ∧ i.natAbs.log2 < 1920 ∧ Q (.str (toString i)) H, dStrI, fun Z HD H ds xs QD Q s rs q k => by
  unfold dStrI at q
  split at q
  · obtain ⟨v, rfl, rv⟩ := one_of rs
    rw [show v = V.int _ from rv]
    exact ⟨_, rfl, q.1, k.here q.2 s rfl⟩
  · exact q.elim⟩
end
section
variable {X : Cx} {xi : Option Exc} {W : WX} {k : Nat} {pos p p' : Pos} {e f g : Expr} {es : List Expr} {x : Str}
theorem m_extend {o : TW ⟨X.K, xi⟩} {a : TW ⟨X.K, xi⟩} {apos cpos : Pos} (ho : PE X e (o.t W)) (ha : PE X f (a.t W)) (hbase : attributeBase e "extend" X.env (eval e X.env) = eval e X.env := by rfl) (hline : (apos.endLine == cpos.line) = true := by rfl)
    (hs : starEach [f] X.env = (false, eval f X.env) :: starEach [] X.env := by rfl)
    (hfew : ((backTo cpos (starEach [f] X.env)).all (fun x => !x.1) && (backToKw cpos (keywordEach [] X.env)).all (fun x => x.1.isSome)
      && decide ([f].length + ([] : List Keyword).length + (if ([] : List Keyword).isEmpty then 0 else 1) < 30)) = true := by rfl) :
    PE X (.Call (.Attribute e "extend" apos) [f] [] cpos) ((bM mExtend o (aCons a aNil)).t W) := r_m PySem.F.plainAttrs_list PySem.F.slot_list_extend PySem.F.type_list_extend mt_extend ho (a_cons ha a_nil hs) hbase hfew hline hs
theorem m_extendT {o : TW ⟨X.K, xi⟩} {a : TW ⟨X.K, xi⟩} {apos cpos : Pos} (ho : PE X e (o.t W)) (ha : PE X f (a.t W)) (hbase : attributeBase e "extend" X.env (eval e X.env) = eval e X.env := by rfl) (hline : (apos.endLine == cpos.line) = true := by rfl)
    (hs : starEach [f] X.env = (false, eval f X.env) :: starEach [] X.env := by rfl)
    (hfew : ((backTo cpos (starEach [f] X.env)).all (fun x => !x.1) && (backToKw cpos (keywordEach [] X.env)).all (fun x => x.1.isSome)
      && decide ([f].length + ([] : List Keyword).length + (if ([] : List Keyword).isEmpty then 0 else 1) < 30)) = true := by rfl) :
    PE X (.Call (.Attribute e "extend" apos) [f] [] cpos) ((bM mExtendT o (aCons a aNil)).t W) := r_m PySem.F.plainAttrs_list PySem.F.slot_list_extend PySem.F.type_list_extend mt_extendT ho (a_cons ha a_nil hs) hbase hfew hline hs
theorem m_insert {o : TW ⟨X.K, xi⟩} {a b : TW ⟨X.K, xi⟩} {apos cpos : Pos} (ho : PE X e (o.t W)) (ha : PE X f (a.t W)) (hb : PE X g (b.t W)) (hbase : attributeBase e "insert" X.env (eval e X.env) = eval e X.env := by rfl) (hline : (apos.endLine == cpos.line) = true := by rfl)
    (hs : starEach [f, g] X.env = (false, eval f X.env) :: starEach [g] X.env := by rfl) (hs2 : starEach [g] X.env = (false, eval g X.env) :: starEach [] X.env := by rfl)
    (hfew : ((backTo cpos (starEach [f, g] X.env)).all (fun x => !x.1) && (backToKw cpos (keywordEach [] X.env)).all (fun x => x.1.isSome)
      && decide ([f, g].length + ([] : List Keyword).length + (if ([] : List Keyword).isEmpty then 0 else 1) < 30)) = true := by rfl)
    (hplain : (backTo cpos (starEach [g] X.env)).any (·.1) = false := by rfl) :
    PE X (.Call (.Attribute e "insert" apos) [f, g] [] cpos) ((bM mInsert o (aCons a (aCons b aNil))).t W) := r_m PySem.F.plainAttrs_list PySem.F.slot_list_insert PySem.F.type_list_insert mt_insert ho (a_cons ha (a_cons hb a_nil hs2) hs) hbase hfew hline hs hplain
/-- o.m(e, ..): an own method -/
theorem r_meth {j : Nat} {cn m : Str} {ps : List Str} {sp : DSp} {pl : Sem Bool} {o : TW ⟨X.K, xi⟩} {a : AW ⟨X.K, xi⟩} {apos : Pos} {ob : Expr} (c : CO X W k) (cl : Cls X.K (clsA X.K cn)) (hm : Meth X.K (clsA X.K cn) m (He.ma X.K (clsA X.K cn) m)) (n : KnMX X j cn m ps sp) (ho : PE X ob (o.t W)) (ha : PA X (e :: es) (a.t W)) (hj : j ≤ k := by decide)
    (hst : starEach (e :: es) X.env = (false, eval e X.env) :: starEach es X.env := by rfl) (hpl : (backTo pos (starEach es X.env)).any (·.1) = false := by rfl)
    (ht : eval (.Call (.Attribute ob m apos) (e :: es) [] pos) X.env = (do
      let ov ← eval ob X.env
      standAt apos.atName
      let (f, first) ← holding [ov] (getMethod ov m pl)
      callWith pos f first (backTo pos (starEach (e :: es) X.env)) (backToKw pos (keywordEach [] X.env))) := by rfl) :
    PE X (.Call (.Attribute ob m apos) (e :: es) [] pos) ((bMethO (C := ⟨X.K, xi⟩) cn m ps.length sp o a).t W) := by
  obtain ⟨fd, h3, h4⟩ := n.ex
  refine ⟨fun pins s σ H Q I h => ?_⟩
  refine PySem.W.methodCall_KW (pl := pl) (thn (ho.run pins s σ H _ I h) fun u s1 ⟨x, H1, I1, rx, a, dx, fs, ex, ea, l, q⟩ => ?_) ht
  subst ex
  obtain rfl : u = Value.ref a := rx
  refine getmeth_ok I1 ea cl hm l ?_
  refine PySem.W.callWith_K (first := [.ref a]) (h₀ := X.base) I.ok.mod.kin hm.kp (thn (ha.run pos pins s1 σ H1 _ I1 q) fun us s2 ⟨vs, H2, I2, r, q2⟩ => ⟨I2.kIn, ?_⟩) hst hpl
  exact run_fnS (us := .ref a :: us) (vs := .ref a :: vs) h4 (c.room.mono hj) h3 (L2N.passAt c.tk σ) I2 (.cons rfl r) q2
theorem r_notT {a : TW ⟨X.K, xi⟩} (ha : PE X e (a.t W)) : PE X (.UnaryOp .Not e pos) ((bNotT a).t W) := pe_notT ha
theorem r_strI {a : TW ⟨X.K, xi⟩} (hm : X.mg "str" = none) (ha : PE X e (a.t W)) (hg : Gl X "str" := by rfl) (he : starEach [e] X.env = (false, eval e X.env) :: starEach [] X.env := by rfl) (hpl : (backTo pos (starEach ([] : List Expr) X.env)).any (·.1) = false := by rfl) :
    PE X (.Call (.Name "str" p) [e] [] pos) ((bB fStrI (aCons a aNil)).t W) := r_ty (n := fStrI) call_str_int (by decide +kernel) hm (a_cons ha a_nil he) hg (by decide) (by decide) he hpl
end
end G
set_option Elab.async false
set_option linter.all false
set_option maxRecDepth 100000
/-! any(t), t a tuple of ints. -/
namespace G
open PySem PySem.Spec PyProof.Rows L2
theorem iter_anyT {prog : Program} {w : World} {A : Around} {E : Value → Shared → Prop} {s : Shared} {l : Addr} {items : Array Value} {Q : Value → Shared → Prop} (hl : s.heap.IsTuple l items)
    (h : ∀ s₂ : Shared, s₂ = { s with heap := s.heap.push { cls := .type "tuple_iterator", data := .fields #[.ref l, .int 0 0] } } →
      (s₂.heap.IsTupleIter s.heap.objs.size l 0 ∧ s₂.heap.IsTuple l items) → l ≠ s.heap.objs.size → Q (.ref s.heap.objs.size) s₂) : wpAny (model prog w) A (pyIter (.ref l)) Q E s := by
  have hlt : l < s.heap.objs.size := by obtain ⟨_, e, _⟩ := hl; exact Heap.lt_size e
  exact wpAny_pyIter_tuple hl (h _ rfl ⟨⟨_, Heap.get?_push_size _ rfl, rfl, rfl⟩, hl.push _⟩ (Nat.ne_of_lt hlt))
theorem intsAre_at : ∀ {us : List Value} {ns : List Int}, IntsAre us ns → ∀ (i : Nat) (v : Value), us[i]? = some v → ∃ t, v = .int (ns.getD i 0) t
  | _, _, .nil, i, v, h => by simp at h
  | _, _, .cons n t r, 0, v, h => ⟨t, by simpa using h.symm⟩
  | _, _, .cons n t r, i + 1, v, h => by
    obtain ⟨t2, e⟩ := intsAre_at r i v (by simpa using h)
    exact ⟨t2, by simpa using e⟩
theorem truth_ints {prog : Program} {w : World} {A : Around} {ns : List Int} {its : List Value} (e : IntsAre its ns) :
    TruthOf prog w A (fun i v => its.toArray[i]? = some v) (fun i => ns.getD i 0 != 0) := fun i v s Q E hv hq => by
  obtain ⟨t, rfl⟩ := intsAre_at e i v (by simpa using hv)
  exact PySem.P.truthy_int hq
theorem any_rangeI : ∀ ns : List Int, (List.range ns.length).any (fun i => ns.getD i 0 != 0) = ns.any (· != 0)
  | [] => rfl
  | b :: bs => by
    rw [List.length_cons, List.range_succ_eq_map, List.any_cons, List.any_map, List.any_cons, ← any_rangeI bs]
    all_goals rfl
section
variable {X : Cx}
def rAnyI (K : PySem.W.Frag) : List V → Hp → VK → Prop := fun vs H Q => ∃ (a : Addr) (ns : List Int), vs = [V.ref a] ∧ SqT K H a (ns.map V.int) ∧ Q (.bl (ns.any (· != 0))) H
theorem cr_anyI (hc : X.calm = true) : CallR X (.builtin "any") (rAnyI X.K) := by
  intro pins s σ H vs us Q I r h
  obtain ⟨a, ns, rfl, hs, q⟩ := h
  obtain ⟨its, rv, hl, _⟩ := I.tuple hs
  rw [Vals.ref1 r]
  have hb := rv.ints
  have hlen : its.length = ns.length := by have := rv.length; simpa using this.symm
  refine call_any_walk (iter_anyT hl fun s₂ e2 st hne => ?_)
  subst e2
  refine ⟨_, _, _, _, _, _, _, rfl, Walks.tuple (A := X.A.in1) (I.ok.hd hc) _ a hne its.toArray, st, truth_ints hb, fun h' tk hk => ?_⟩
  refine ⟨.bl _, H, I.kept fun b o eo => hk b o (fun hmem => ?_) (Heap.get?_push_of_some _ eo), ?_, q⟩
  · rcases List.mem_cons.mp hmem with e1 | hmem
    · exact absurd (e1 ▸ Heap.lt_size eo) (Nat.lt_irrefl _)
    · cases hmem
  · show Value.bool _ = Value.bool _
    rw [← any_rangeI, List.size_toArray, hlen]
end
section
variable {X : Cx}
/-- max(t), t a tuple of ints: one of them -/
def rMaxT (K : PySem.W.Frag) : List V → Hp → VK → Prop := fun vs H Q => ∃ (a : Addr) (ns : List Int), vs = [V.ref a] ∧ SqT K H a (ns.map V.int) ∧ 0 < ns.length ∧ ∀ m, m ∈ ns → Q (.int m) H
theorem intsAre_len : ∀ {us : List Value} {ns : List Int}, IntsAre us ns → us.length = ns.length
  | _, _, .nil => rfl
  | _, _, .cons n t r => congrArg (· + 1) (intsAre_len r)
theorem cr_maxT (hc : X.calm = true) : CallR X (.builtin "max") (rMaxT X.K) := by
  intro pins s σ H vs us Q I r h
  obtain ⟨a, ns, rfl, hs, hne, q⟩ := h
  obtain ⟨its, rv, hl, _⟩ := I.tuple hs
  rw [Vals.ref1 r]
  have hb := rv.ints
  have hlen := intsAre_len hb
  have hlt : a < s.heap.objs.size := by obtain ⟨_, e, _⟩ := hl; exact Heap.lt_size e
  refine call_max_walk (iter_anyT hl fun s₂ e2 st hne2 => ?_)
  subst e2
  refine ⟨_, _, _, _, _, _, _, rfl, Walks.tuple (A := X.A.in1) (I.ok.hd hc) _ a hne2 its.toArray, st, (fun b hb => ?_), (by rw [List.size_toArray]; omega), CmpOf.ints_gt (fun i => ns.getD i 0) (fun i v h => intsAre_at hb i v (by simpa using h)), fun v h' tk hP hk => ?_⟩
  · show b < (s.heap.push _).objs.size
    rw [Heap.size_push]
    rcases List.mem_cons.mp hb with rfl | hb
    · exact Nat.lt_succ_self _
    · rcases List.mem_cons.mp hb with rfl | hb
      · exact Nat.lt_succ_of_lt hlt
      · cases hb
  · have hP2 : ∃ j : Nat, its[j]? = some v := ⟨_, by simpa using hP⟩
    obtain ⟨j, hP2⟩ := hP2
    obtain ⟨t, rfl⟩ := intsAre_at hb j v hP2
    have hi := (List.getElem?_eq_some_iff.mp hP2).1
    refine ⟨.int _, H, I.kept fun b o eo => hk b o (fun hmem => ?_) (Heap.get?_push_of_some _ eo), ⟨t, rfl⟩, q _ ?_⟩
    · rcases List.mem_cons.mp hmem with e1 | hmem
      · exact absurd (e1 ▸ Heap.lt_size eo) (Nat.lt_irrefl _)
      · cases hmem
    · rw [List.getD_eq_getElem?_getD, List.getElem?_eq_getElem (by rw [← hlen]; exact hi)]
      exact List.getElem_mem _
end
section
variable {C : TC}
def dMaxT : List D → DH → DQ → Prop
  | [.tup ds], H, Q => optP (intsOf ds) fun ns => 0 < ns.length ∧ ∀ m, m ∈ ns → Q (.int m) H
  | _, _, _ => False
def fMaxT : Fn C := ⟨rMaxT C.K, dMaxT, fun Z HD H ds xs QD Q s rs q k => by
  unfold dMaxT at q
  split at q
  · obtain ⟨v, rfl, rv⟩ := one_of rs
    obtain ⟨ns, e2, hn, q⟩ := optP_some q
    obtain ⟨a, xs, rfl, h1, r1⟩ := rv
    rw [intsOf_eq e2] at r1
    rw [r1.ints] at h1
    exact ⟨a, ns, rfl, s.seqT h1, hn, fun m hm => k.here (q m hm) s rfl⟩
  · exact q.elim⟩
def dAnyI : List D → DH → DQ → Prop
  | [.tup ds], H, Q => optP (intsOf ds) fun ns => Q (.bl (ns.any (· != 0))) H
  | _, _, _ => False
/-- any(t), t a tuple of ints -/
def fAnyI : Fn C := ⟨rAnyI C.K, dAnyI, fun Z HD H ds xs QD Q s rs q k => by
  unfold dAnyI at q
  split at q
  · obtain ⟨v, rfl, rv⟩ := one_of rs
    obtain ⟨ns, e2, q⟩ := optP_some q
    obtain ⟨a, xs, rfl, h1, r1⟩ := rv
    rw [intsOf_eq e2] at r1
    rw [r1.ints] at h1
    exact ⟨a, ns, rfl, s.seqT h1, k.here q s rfl⟩
  · exact q.elim⟩
theorem f_anyI {es : List D} {H : DH} {Q : DQ} : (fAnyI : Fn C).w [.tup es] H Q = optP (intsOf es) fun ns => Q (.bl (ns.any (· != 0))) H := rfl
def tabBC (t : Ty) (cn : Str) : Sum Ty Str → Option Bool
  | .inl a => some (a.sub t)
  | .inr x => if x = cn then some false else none
/-- isinstance(x, T), x of a type or an instance of the class cn -/
def isiBC {C : TC} (t : Ty) (cn : Str) (q : IsiF C.K cn) (q2 : PySem.W.kitOne C.K (.ref (clsA C.K cn)) (.type t.nm) = some false) : Isi C := ⟨.ty t.nm, .type t.nm, .ty _, tabBC t cn, fun a b h => by
  cases a with
  | inl a =>
    cases h
    exact ⟨kit_ty (Ty.kit a t), fun cn e => nomatch e⟩
  | inr x =>
    have h : (if x = cn then some false else none) = some b := h
    split at h
    · rename_i e
      cases h
      subst e
      exact ⟨q2, fun cn e => by cases e; exact q.ty⟩
    · cases h⟩
theorem w_isiBC {C : TC} {t : Ty} {cn : Str} {q : IsiF C.K cn} {q2} {a : TW C} {σ : DS} {H : DH} {Q : DQ} {E : DX1} : (bIsi (isiBC t cn q q2) a).w σ H Q E = a.w σ H (fun d H1 => optP (tyD H1 d) fun ty => optP (tabBC t cn ty) fun b => Q (.bl b) H1) E := rfl
end
end G
set_option Elab.async false
set_option linter.all false
set_option maxRecDepth 100000
/-! max of a tuple of ints, told exactly. -/
namespace G
open PySem PySem.Spec PyProof.Rows L2
section
variable {X : Cx}
def rMaxB (K : PySem.W.Frag) : List V → Hp → VK → Prop := fun vs H Q => ∃ (a : Addr) (ns : List Int), vs = [V.ref a] ∧ SqT K H a (ns.map V.int) ∧ 0 < ns.length ∧ ∀ m, m ∈ ns → (∀ y ∈ ns, y ≤ m) → Q (.int m) H
theorem cr_maxB (hc : X.calm = true) : CallR X (.builtin "max") (rMaxB X.K) := by
  intro pins s σ H vs us Q I r h
  obtain ⟨a, ns, rfl, hs, hne, q⟩ := h
  obtain ⟨its, rv, hl, _⟩ := I.tuple hs
  rw [Vals.ref1 r]
  have hb := rv.ints
  have hlen := intsAre_len hb
  have hlt : a < s.heap.objs.size := by obtain ⟨_, e, _⟩ := hl; exact Heap.lt_size e
  have best := argBest_gt (fun i => ns.getD i 0) (its.toArray.size - 1)
  refine call_max_walk (iter_anyT hl fun s₂ e2 st hne2 => ?_)
  subst e2
  refine ⟨_, _, _, _, _, _, fun i j => decide (ns.getD i 0 > ns.getD j 0), rfl, Walks.tuple (A := X.A.in1) (I.ok.hd hc) _ a hne2 its.toArray, st, (fun b hb => ?_), (by rw [List.size_toArray]; omega), CmpOf.ints_gt (fun i => ns.getD i 0) (fun i v h => intsAre_at hb i v (by simpa using h)), fun v h' tk hP hk => ?_⟩
  · show b < (s.heap.push _).objs.size
    rw [Heap.size_push]
    rcases List.mem_cons.mp hb with rfl | hb
    · exact Nat.lt_succ_self _
    · rcases List.mem_cons.mp hb with rfl | hb
      · exact Nat.lt_succ_of_lt hlt
      · cases hb
  · generalize argBest (fun i j => decide (ns.getD i 0 > ns.getD j 0)) (its.toArray.size - 1) = j at hP best
    have hP2 : its[j]? = some v := by simpa using hP
    obtain ⟨t, rfl⟩ := intsAre_at hb j v hP2
    have hi := (List.getElem?_eq_some_iff.mp hP2).1
    refine ⟨.int _, H, I.kept fun b o eo => hk b o (fun hmem => ?_) (Heap.get?_push_of_some _ eo), ⟨t, rfl⟩, q _ ?_ fun y hy => ?_⟩
    · rcases List.mem_cons.mp hmem with e1 | hmem
      · exact absurd (e1 ▸ Heap.lt_size eo) (Nat.lt_irrefl _)
      · cases hmem
    · rw [List.getD_eq_getElem?_getD, List.getElem?_eq_getElem (by rw [← hlen]; exact hi)]
      exact List.getElem_mem _
    · obtain ⟨i, hi2, rfl⟩ := List.mem_iff_getElem.mp hy
      have hz := best.2 i (by rw [List.size_toArray]; omega)
      have e : ns.getD i 0 = ns[i] := by rw [List.getD_eq_getElem?_getD, List.getElem?_eq_getElem hi2]; rfl
      rw [← e]
      exact hz
end
section
variable {C : TC}
def dMaxB : List D → DH → DQ → Prop
  | [.tup ds], H, Q => optP (intsOf ds) fun ns => 0 < ns.length ∧ ∀ m, m ∈ ns → (∀ y ∈ ns, y ≤ m) → Q (.int m) H
  | _, _, _ => False
def fMaxB : Fn C := ⟨rMaxB C.K, dMaxB, fun Z HD H ds xs QD Q s rs q k => by
  unfold dMaxB at q
  split at q
  · obtain ⟨v, rfl, rv⟩ := one_of rs
    obtain ⟨ns, e2, hn, q⟩ := optP_some q
    obtain ⟨a, xs, rfl, h1, r1⟩ := rv
    rw [intsOf_eq e2] at r1
    rw [r1.ints] at h1
    exact ⟨a, ns, rfl, s.seqT h1, hn, fun m hm hb => k.here (q m hm hb) s rfl⟩
  · exact q.elim⟩
theorem f_maxB {H : DH} {Q : DQ} {xs : List Int} : (fMaxB : Fn C).w [.tup (xs.map .int)] H Q = (0 < xs.length ∧ ∀ m, m ∈ xs → (∀ y ∈ xs, y ≤ m) → Q (.int m) H) := by
  show optP (intsOf (xs.map D.int)) _ = _
  rw [intsOf_map]; rfl
end
end G
set_option Elab.async false
set_option linter.all false
set_option maxRecDepth 100000
/-! A comprehension's target of two names. -/
namespace G
open PySem PySem.Spec PyProof.Rows L2
section
variable {C : TC}
def gsTwo (i j : Nat) : GsW C := gsCons (gwName i) (gsCons (gwName j) gsNil)
theorem gsTwo_at {i j : Nat} {W : WX} {xs : List V} {σ : St} {H : Hp} {Q : St → Hp → Prop} (h : (gsTwo (C := C) i j).t W xs σ H Q) : ∃ x y, xs = [x, y] ∧ Q ((σ.set i (some x)).set j (some y)) H := by
  obtain ⟨x, r, rfl, y, r2, rfl, e, q⟩ := h
  subst e
  exact ⟨x, y, rfl, q⟩
theorem gsTwo_of {i j : Nat} {W : WX} {x y : V} {σ : St} {H : Hp} {Q : St → Hp → Prop} (h : Q ((σ.set i (some x)).set j (some y)) H) : (gsTwo (C := C) i j).t W [x, y] σ H Q := ⟨x, _, rfl, y, _, rfl, rfl, h⟩
def gvTup2 (i j : Nat) : GvW C [i, j] := { gwTup 2 (gsTwo i j) with
  only := fun W v σ H Q h => by
    have wp : ∀ x y, wipe ((σ.set i (some x)).set j (some y)) [i, j] = wipe σ [i, j] := fun x y => by
      rw [wipe_set (List.mem_cons_of_mem _ List.mem_cons_self), wipe_set List.mem_cons_self]
    rcases h with ⟨a, xs, e, s, l, h⟩ | ⟨a, xs, e, s, l, h⟩
    · obtain ⟨x, y, rfl, q⟩ := gsTwo_at h
      exact .inl ⟨a, _, e, s, l, gsTwo_of ⟨q, wp x y⟩⟩
    · obtain ⟨x, y, rfl, q⟩ := gsTwo_at h
      exact .inr ⟨a, _, e, s, l, gsTwo_of ⟨q, wp x y⟩⟩
  weak := fun W v σ H Q Q' h w => by
    rcases h with ⟨a, xs, e, s, l, h⟩ | ⟨a, xs, e, s, l, h⟩
    · obtain ⟨x, y, rfl, q⟩ := gsTwo_at h
      exact .inl ⟨a, _, e, s, l, gsTwo_of (w _ _ q)⟩
    · obtain ⟨x, y, rfl, q⟩ := gsTwo_at h
      exact .inr ⟨a, _, e, s, l, gsTwo_of (w _ _ q)⟩ }
theorem w_gvTup2 {i j : Nat} {d : D} {σ : DS} {H : DH} {Q : DS → DH → Prop} : (gvTup2 (C := C) i j).w d σ H Q = optP (seqD H d) fun ds => ds.length = 2 ∧ (gsTwo (C := C) i j).w ds σ H Q := rfl
end
section
variable {X : Cx} {W W' : WX} {k : Nat} {xi : Option Exc} {pos : Pos} {e1 e2 : Expr} {n : Nat}
theorem gv_tup2 {i j : Nat} (hc : X.calm = true) (h1 : PG X e1 ((gvName (C := ⟨X.K, xi⟩) i).t W)) (h2 : PG X e2 ((gvName (C := ⟨X.K, xi⟩) j).t W))
    (ha : (assignEach [e1, e2] X.env).map (·.2) = assign e1 X.env :: (assignEach [e2] X.env).map (·.2) := by rfl) (hb : (assignEach [e2] X.env).map (·.2) = assign e2 X.env :: (assignEach [] X.env).map (·.2) := by rfl)
    (hn : (assignEach [e1, e2] X.env).length = 2 := by rfl) (hst : (assignEach [e1, e2] X.env).findIdx? (·.1) = none := by rfl) : PG X (.Tuple [e1, e2] n pos) ((gvTup2 (C := ⟨X.K, xi⟩) i j).t W) :=
  pg_tupA hc (gs_cons (xi := xi) (a := gwName i) h1 (gs_cons (xi := xi) (a := gwName j) h2 (gs_nil (xi := xi)) hb) ha) hn hst
end
end G
set_option Elab.async false
set_option linter.all false
set_option maxRecDepth 100000
/-! Defs that keep their promise where no repr is under way. -/
namespace G
open PySem PySem.Spec PyProof.Rows L2
structure FnQ (P : Program) (w : World) (K : PySem.W.Frag) (mg : Str → Option Value) (base : Heap) (cx : CXT) (k : Nat) (f : Addr) (fd : FuncData) (ps : List Str) (sp : Sp) : Prop where
  len : ∀ vs H Q E, sp vs H Q E → vs.length = ps.length
  run : ∀ (A : Around) (outer : List Env) (s : Shared) (H : Hp) (args : Args) (us : List Value) (vs : List V) (Q : VK) (E : XK), A.guards = some [] → Room k A → Env0 P w K mg base A outer s H → BindsTo s fd args (ps.zip us) → Vals vs us → sp vs H Q E →
    codeAny (model P w) A (.call (.ref f) args) (CR cx outer P w H s Q E) s
section
variable {P : Program} {w : World} {K : PySem.W.Frag} {mg : Str → Option Value} {base : Heap}
theorem FnQ.of {cx : CXT} {k : Nat} {f : Addr} {fd : FuncData} {ps : List Str} {sp : Sp} (F : FnOk P w K mg base cx k f fd ps sp) : FnQ P w K mg base cx k f fd ps sp := ⟨F.len, fun A outer s H args us vs Q E _ => F.run A outer s H args us vs Q E⟩
theorem FnQ.mono {cx : CXT} {j k : Nat} {f : Addr} {fd : FuncData} {ps : List Str} {sp : Sp} (F : FnQ P w K mg base cx j f fd ps sp) (h : j ≤ k) : FnQ P w K mg base cx k f fd ps sp := ⟨F.len, fun A outer s H args us vs Q E hg hr => F.run A outer s H args us vs Q E hg (hr.mono h)⟩
theorem fnQ_of {cx : CXT} {k : Nat} {f : Addr} {nm qual : Str} {params : Arguments} {body : List Stmt} {scope : Scope} {dV kV doc pm cdv ct oc : Value} {an od : Option Addr} {osl : Array (Option Value)} {N ps : List Str} {sp : Sp}
    (at_ : K.lookup f = some ⟨oc, od, .func (PySem.W.fnOf nm qual params body scope dV kV doc pm an cdv ct), osl⟩) (code : PySem.W.codeIn K cdv qual = true) (S : FnScope N ps scope) (len : ∀ vs H Q E, sp vs H Q E → vs.length = ps.length)
    (hbody : ∀ (A : Around) (outer : List Env) (s : Shared) (H : Hp) (vs : List V) (Q : VK) (E : XK), A.guards = some [] → Room k (A.deeper (envOfC qual scope s.heap.objs.size f cdv)) → sp vs H Q E → ∃ t, PSs (cxOf cx P w K mg base N qual scope f cdv A outer s H E) body t ∧ t { nx := fun _ H' => Q .non H', rt := Q } (start N vs) H) :
    FnQ P w K mg base cx (k + 1) f (PySem.W.fnOf nm qual params body scope dV kV doc pm an cdv ct) ps sp := ⟨len, fun A outer s H args us vs Q E hg room en bnd vals hsp => by
  have vl := len _ _ _ _ hsp
  have kx : K.In s.heap := en.mod.kin.keeps fun b o e => (en.bs b o e).1
  have nolim : s.heap.NoLimit := en.mod.nolimit.keeps fun b o e => (en.bs b o e).1
  have kinds : ∀ z ∈ ps.zip us, scope.names.lookup z.1 = some .local ∨ (scope.names.lookup z.1 = some .cell ∧ ((cellsFrom (s.heap.objs.size + 1) scope.names []).lookup z.1).isSome = true) := fun ⟨n, _⟩ hz => (S.par n (List.of_mem_zip hz).1).imp id fun q => ⟨q, PySem.W.cellsFrom_some _ _ _ (.inl q)⟩
  refine codeAny_call_function room.depth (kx _ _ at_) rfl S.co S.gen rfl (PySem.W.codeRec_of kx code) (bnd _ _ _ _ (wpAny_newFunctionEnv_cells S.kind kinds fun env he s1 laid => ?_))
  subst he
  refine ⟨nolim.keeps laid.toInCall.keep, codeAny_func ?_⟩
  obtain ⟨t, ht, hq⟩ := hbody A outer s H vs Q E hg (room.deeper _) hsp
  have inv0 : Inv (cxOf cx P w K mg base N qual scope f cdv A outer s H E) [] (start N vs) H s1 := inv_start S room.hd en vl vals laid
  have done : ∀ {σ' : St} {H' : Hp} {v : V} {u : Value} {s' : Shared}, Inv (cxOf cx P w K mg base N qual scope f cdv A outer s H E) [] σ' H' s' → RelV v u → Q v H' → CE outer P w H s Q u s' := fun {σ' H' v u s'} J rv q => ⟨v, H', J.os, J.bare, J.base, J.hok, rv, q⟩
  refine wpAny_mono (ht.run [] s1 (start N vs) H _ inv0 hq) (fun fl s' hs => ?_) fun _ _ z => z
  match fl, hs with
  | .ret u, ⟨v, σ', H', J, rv, q⟩ => exact done J rv q
  | .next, ⟨σ', H', J, q⟩ => exact done (v := V.non) (u := Value.none) J rfl q
  | .brk, ⟨_, _, _, q⟩ => exact False.elim q
  | .cont, ⟨_, _, _, q⟩ => exact False.elim q⟩
end
section
variable {X : Cx} {cx : CXT} {k : Nat} {f : Addr} {fd : FuncData} {ps : List Str} {sp : Sp} {E : St → XK} {x : Str} {p pos : Pos} {e : Expr} {es : List Expr} {t : TA}
theorem pe_callQ (F : FnQ X.prog X.w X.K X.mg X.base cx k f fd ps sp) (gd : X.A.guards = some []) (room : Room k X.A) (hg : Gl X x) (hm : X.mg x = some (.ref f)) (hk : PySem.W.keepIn X.K (.ref f) = true) (hb : Binds X.K fd ps []) (hx : ∀ σ, PassesAt cx X σ (E σ)) (ha : PA X (e :: es) t)
    (hdb : (x == ("__debug__" : Str)) = false := by decide) (he : starEach (e :: es) X.env = (false, eval e X.env) :: starEach es X.env := by rfl) (hpl : (backTo pos (starEach es X.env)).any (·.1) = false := by rfl) : PE X (.Call (.Name x p) (e :: es) [] pos) (tCallS sp E t) := ⟨fun pins s σ H Q I h => by
  refine wpAny_Call_Name_kw (ld_glob I hg hm (PySem.W.callWith_K (h₀ := X.base) I.ok.mod.kin hk (thn (ha.run pos pins s σ H _ I h) fun us s1 ⟨vs, H1, I1, r, q⟩ => ⟨I1.kIn, ?_⟩) he hpl) hdb)
  have ul : us.length = ps.length := r.length.symm.trans (F.len _ _ _ _ q)
  have b := hb s1 us I1.kIn (by rw [List.append_nil]; exact ul)
  rw [List.append_nil] at b
  refine wpAny_call (codeAny_mono (F.run X.A X.stack s1 H1 ⟨us, []⟩ us vs Q (E σ) gd room I1.env0 b r q) fun r s' hq => ?_)
  match r, hq with
  | .error e, hq => exact hx σ pins H1 s1 e s' I1 hq
  | .ok (.ret u), hq => exact I1.after hq
  | .ok .next, hq => exact False.elim hq
  | .ok .brk, hq => exact False.elim hq
  | .ok .cont, hq => exact False.elim hq⟩
end
structure KnQ (P : Program) (w : World) (K : PySem.W.Frag) (mg : Str → Option Value) (base : Heap) (k : Nat) (x : Str) (st : Stmt) (ps : List Str) (sp : DSp) : Prop where
  ex : ∃ f fd, mg x = some (.ref f) ∧ Fun K x x st f fd ∧ Binds K fd ps [] ∧ FnQ P w K mg base (L2N.CX P w) k f fd ps (lift K ps.length sp)
abbrev KnQX (X : Cx) := KnQ X.prog X.w X.K X.mg X.base
theorem KnQ.of {P : Program} {w : World} {K : PySem.W.Frag} {mg : Str → Option Value} {base : Heap} {k : Nat} {x : Str} {st : Stmt} {ps : List Str} {sp : DSp} (n : Kn P w K mg base k x st ps sp) : KnQ P w K mg base k x st ps sp := by
  obtain ⟨f, fd, h1, h2, h3, h4⟩ := n.ex
  exact ⟨f, fd, h1, h2, h3, .of h4⟩
section
variable {X : Cx} {xi : Option Exc} {W : WX} {k : Nat} {pos p : Pos} {e : Expr} {es : List Expr} {x : Str}
theorem r_callQ {j : Nat} {st : Stmt} {ps : List Str} {sp : DSp} {a : AW ⟨X.K, xi⟩} (c : CO X W k) (gd : X.A.guards = some []) (n : KnQX X j x st ps sp) (ha : PA X (e :: es) (a.t W)) (hj : j ≤ k := by decide) (hg : Gl X x := by rfl)
    (hdb : (x == ("__debug__" : Str)) = false := by decide) (he : starEach (e :: es) X.env = (false, eval e X.env) :: starEach es X.env := by rfl) (hpl : (backTo pos (starEach es X.env)).any (·.1) = false := by rfl) :
    PE X (.Call (.Name x p) (e :: es) [] pos) ((bCall (C := ⟨X.K, xi⟩) ps.length sp a).t W) := by
  obtain ⟨f, fd, h1, h2, h3, h4⟩ := n.ex
  exact pe_callQ h4 gd (c.room.mono hj) hg h1 h2.kp h3 (fun σ => L2N.passAt c.tk σ) ha hdb he hpl
end
theorem defQ_ok {P : Program} {w : World} {K : PySem.W.Frag} {mg : Str → Option Value} {base : Heap} {x q : Str} {st : Stmt} {f : Addr} {fd : FuncData} {N ps : List Str} {k : Nat} {sp : DSp} (F : Fun K x q st f fd) (S : FnScope N ps (defScope st)) (b : SW (plainC K))
    (hb : ∀ (cdv : Value) (A : Around) (outer : List Env) (s : Shared) (H : Hp) (E : XK), A.guards = some [] → CO (cxOf (L2N.CX P w) P w K mg base N q (defScope st) f cdv A outer s H E) (fun c d _ H => E c d H) k →
      PSs (cxOf (L2N.CX P w) P w K mg base N q (defScope st) f cdv A outer s H E) (defBody st) (b.t fun c d _ H => E c d H))
    (hw : ∀ ds H Q E, ds.length = ps.length → sp ds H Q E → b.w (endsD Q E) (startD N ds) H) : FnQ P w K mg base (L2N.CX P w) (k + 1) f fd ps (lift K ps.length sp) := by
  have hN : ps.length ≤ N.length := by
    have := congrArg List.length S.pre
    rw [List.length_take] at this
    omega
  obtain ⟨oc, od, kV, doc, pm, an, cdv, ct, osl, e, lk, hcd⟩ := F.ex
  subst e
  refine fnQ_of lk hcd S (fun vs H Q E h => ?_) fun A outer s H vs Q E hg hr h => ?_
  · obtain ⟨Z, HD, ds, QD, ED, _, r, hl, _⟩ := h
    rw [r.length, hl]
  · obtain ⟨Z, HD, ds, QD, ED, sm, r, hl, hsp, kq, kx⟩ := h
    refine ⟨_, hb cdv A outer s H E hg ⟨hr, L2N.takes_of rfl rfl rfl rfl, passes_of rfl, rfl, S.nd⟩, ?_⟩
    refine b.ok _ Z HD H (startD N ds) (L2.start N vs) _ _ sm (slr_start r (by omega)) (hw ds HD QD ED hl hsp) ⟨?_, ?_, ?_, ?_, ?_⟩
    · rintro Z' HD' H' σD σ stp sl ⟨H'', le, q⟩
      exact kq Z' _ H' .non .non (stp.trans (Step.less stp.sim le)) rfl q
    · rintro Z' HD' H' d v stp rv ⟨H'', le, q⟩
      exact kq _ _ _ _ _ (stp.trans (Step.less stp.sim le)) rv q
    · exact fun _ _ _ _ _ _ _ z => z.elim
    · exact fun _ _ _ _ _ _ _ z => z.elim
    · rintro Z' HD' H' σD σ cn fs dd vs stp sl hz rf ⟨H'', le, q⟩
      exact kx _ _ _ _ _ _ _ (stp.trans (Step.less stp.sim le)) hz rf q
theorem knQ_ok {P : Program} {w : World} {K : PySem.W.Frag} {mg : Str → Option Value} {base : Heap} {x : Str} {st : Stmt} {N ps : List Str} {k : Nat} {sp : DSp} (a : At K mg x st ps) (S : FnScope N ps (defScope st)) (b : SW (plainC K))
    (hb : ∀ (f : Addr) (cdv : Value) (A : Around) (outer : List Env) (s : Shared) (H : Hp) (E : XK), A.guards = some [] → CO (cxOf (L2N.CX P w) P w K mg base N x (defScope st) f cdv A outer s H E) (fun c d _ H => E c d H) k →
      PSs (cxOf (L2N.CX P w) P w K mg base N x (defScope st) f cdv A outer s H E) (defBody st) (b.t fun c d _ H => E c d H))
    (hw : ∀ ds H Q E, ds.length = ps.length → sp ds H Q E → b.w (endsD Q E) (startD N ds) H) : KnQ P w K mg base (k + 1) x st ps sp := by
  obtain ⟨f, fd, h1, h2, h3⟩ := a.ex
  exact ⟨f, fd, h1, h2, h3, defQ_ok h2 S b (hb f) hw⟩
theorem guards_of {cx : CXT} {P : Program} {w : World} {K : PySem.W.Frag} {mg : Str → Option Value} {base : Heap} {N : List Str} {qual : Str} {scope : Scope} {f : Addr} {cdv : Value} {A : Around} {outer : List Env} {s : Shared} {H : Hp} {E : XK} (h : A.guards = some []) :
    (cxOf cx P w K mg base N qual scope f cdv A outer s H E).A.guards = some [] := h
end G
set_option Elab.async false
set_option linter.all false
set_option maxRecDepth 100000
/-! repr of data at any depth, where no repr is under way. -/
namespace G
open PySem PySem.Spec PyProof.Rows L2
/-- repr's text stands for d -/
def okR (d : PyData) : Prop := d.showable = true ∧ d.hasDict = false ∧ d.depth ≤ 62 ∧ d.shown.length ≤ sizeLine
def rRepr (K : PySem.W.Frag) : List V → Hp → VK → Prop := fun vs H Q => ∃ (v : V) (d : PyData), vs = [v] ∧ Dp K H v d ∧ okR d ∧ Q (.str d.shown) H
section
variable {X : Cx}
theorem cr_repr (hu : X.A.units + 65 < cLine) (hg : X.A.guards = some []) : CallR X (.builtin "repr") (rRepr X.K) := by
  intro pins s σ H xs us Q I r h
  obtain ⟨v, d, rfl, dp, ⟨hs, hd, hdp, hz⟩, q⟩ := h
  obtain ⟨u, rfl, rv⟩ := vals1 r
  obtain ⟨as, rd⟩ := Dp.reads I d v u dp rv
  have far : ∀ (a : Addr), Reads s.heap (.ref a) d as → wpAny (model X.prog X.w) X.A (call (.builtin "repr") [.ref a]) (EP X pins σ Q) X.xe s := fun a rd => repr_of_reads' rd hs (fun e => by rw [hd] at e; cases e) hg (by omega) (fun _ _ e => e) (fun h' u tk kp => ⟨.str d.shown, H, I.kept kp, ⟨_, rfl⟩, q⟩) hz
  cases rd with
  | none => exact PySem.P.repr_of_none ⟨.str "None", H, I.tok _, ⟨_, rfl⟩, q⟩
  | bool b => exact PySem.P.repr_of_bool ⟨.str (if b then "True" else "False"), H, I.tok _, ⟨_, rfl⟩, q⟩
  | int i t => exact PySem.P.repr_of_int (of_decide_eq_true hs) ⟨.str (toString i), H, I.tok _, ⟨_, rfl⟩, q⟩
  | str x t => exact PySem.P.repr_of_str ⟨.str (reprText x), H, I.tok _, ⟨_, rfl⟩, q⟩ hz
  | list ha hc hd2 hr => exact far _ (.list ha hc hd2 hr)
  | tuple ha hc hd2 hr => exact far _ (.tuple ha hc hd2 hr)
  | dict => cases hd
end
section
variable {C : TC}
def dRepr : List D → DH → DQ → Prop
  | [d], H, Q => d.flat = true ∧ okR d.py ∧ Q (.str d.py.shown) H
  | _, _, _ => False
def fRepr : Fn C := ⟨rRepr C.K, dRepr, fun Z HD H ds xs QD Q s rs q k => by
  unfold dRepr at q
  split at q
  · obtain ⟨v, rfl, rv⟩ := one_of rs
    exact ⟨v, _, rfl, rv.dp s.fz _ _ q.1, q.2.1, k.here q.2.2 s rfl⟩
  · exact q.elim⟩
theorem f_repr {H : DH} {Q : DQ} {d : D} : (fRepr : Fn C).w [d] H Q = (d.flat = true ∧ okR d.py ∧ Q (.str d.py.shown) H) := rfl
end
theorem bo_repr : bootBuiltins "repr" = some (.builtin "repr") := by decide +kernel
end G
set_option Elab.async false
set_option linter.all false
set_option maxRecDepth 100000
/-! The head for a law whose promise stands where no repr is under way. -/
namespace G
open PySem PySem.Spec PyProof.Rows L2
section
variable {P : Program} {w : World} {K : PySem.W.Frag} {mg mb : Str → Option Value} {a : Addr} {t1 : Shared} {vs : List Value} {ns : List Int}
/-- what is tracked when the law is asked: at most the script -/
structure Begun (P : Program) (w : World) (K : PySem.W.Frag) (a : Addr) (ns : List Int) (t1 : Shared) (H : Hp) : Prop where
  only : Only H
  sq : SqL K H a (ns.map V.int)
  ok : HOk P w H t1.heap
  at_ : ∀ b, H b ≠ none → b = a
  own : H a ≠ none → K.lookup a = none
theorem begun_of (kin : K.In t1.heap) (ha : t1.heap.get? a = some { cls := .type "list", data := .seq vs.toArray }) (hi : IntsAre vs ns) (hl : ns.length ≤ sizeLine) : ∃ H, Begun P w K a ns t1 H := by
  have ll := hi.length
  cases q : K.lookup a with
  | some o =>
    have e := kin a o q
    rw [ha] at e
    cases e
    exact ⟨fun _ => none, fun _ => .inl rfl, .inr ⟨_, vs.toArray, _, q, rfl, rfl, rfl, by rw [List.size_toArray, ll]; exact hl, by simpa using vals_ints hi⟩, fun b u z => (by cases (show (none : Option HO) = some u from z)), fun b z => absurd rfl z, fun z => absurd rfl z⟩
  | none =>
    have at1 : (fun b => if b = a then some (HO.frz { cls := .type "list", data := .seq vs.toArray } (.lst (ns.map V.int))) else none) a = some (.frz { cls := .type "list", data := .seq vs.toArray } (.lst (ns.map V.int))) := if_pos rfl
    refine ⟨fun b => if b = a then some (.frz { cls := .type "list", data := .seq vs.toArray } (.lst (ns.map V.int))) else none, fun b => ?_, .inl (.inr ⟨_, at1⟩), fun b u z => ?_, fun b z => Decidable.byContradiction fun hb => z (if_neg hb), fun _ => q⟩
    · by_cases hb : b = a
      · exact .inr ⟨_, _, if_pos hb⟩
      · exact .inl (if_neg hb)
    · by_cases hb : b = a
      · subst hb
        cases at1.symm.trans z
        exact ⟨ha, by rw [List.length_map]; exact hl, vs, _, vals_ints hi, ha⟩
      · cases (if_neg hb).symm.trans z
variable {H : Hp}
theorem Begun.free (B : Begun P w K a ns t1 H) (ha : t1.heap.get? a = some { cls := .type "list", data := .seq vs.toArray }) {b : Addr} {o : Obj} {es : Array DictEntry} {ep : Nat} (e : t1.heap.get? b = some o) (d : o.data = .dict es ep) : H b = none := by
  cases q : H b with
  | none => rfl
  | some u =>
    obtain rfl := B.at_ b (by rw [q]; simp)
    rw [ha] at e
    cases e
    cases (show Data.seq vs.toArray _ = Data.dict es ep from d)
theorem Begun.nms (B : Begun P w K a ns t1 H) (ha : t1.heap.get? a = some { cls := .type "list", data := .seq vs.toArray }) {b : Addr} {m : Str → Option Value} (h : t1.heap.Ns b m) : (hidT t1.heap H).Ns b m := by
  obtain ⟨o, es, ep, e, d, r⟩ := h
  exact ⟨o, es, ep, hidT_get e (B.free ha e d), d, r⟩
theorem Begun.kin (B : Begun P w K a ns t1 H) (kin : K.In t1.heap) : K.In (hidT t1.heap H) := fun b o e => hidT_get (kin b o e) (by
  cases q : H b with
  | none => rfl
  | some u =>
    obtain rfl := B.at_ b (by rw [q]; simp)
    rw [B.own (by rw [q]; simp)] at e
    cases e)
theorem law_callQ {cx : CXT} {k : Nat} {fa : Addr} {fd : FuncData} {x : Str} {sp : Sp} (kin : K.In t1.heap) (hns : t1.heap.Ns mainGlobals mg) (hb : t1.heap.Ns builtinsNs mb) (hbb : ∀ x : Str, x ≠ "__name__" → mb x = bootBuiltins x) (hlim : t1.heap.NoLimit) (hg : t1.gens = #[])
    (ha : t1.heap.get? a = some { cls := .type "list", data := .seq vs.toArray }) (hi : IntsAre vs ns) (hl : ns.length ≤ sizeLine) (hr : Room k callerA) (F : ∀ base : Heap, FnQ P w K mg base cx k fa fd [x] sp) (hbind : ∀ (s : Shared) (u : Value), BindsTo s fd ⟨[u], []⟩ [(x, u)])
    (hsp : ∀ H : Hp, SqL K H a (ns.map V.int) → sp [.ref a] H (fun v _ => v = .bl true) fun _ _ _ => False) (hCX : ∀ H e s', cx [] H t1 (fun _ _ _ => False) e s' → False) :
    codeAny (model P w) callerA (.call (.ref fa) ⟨[.ref a], []⟩) (fun r s' => r = .ok (.ret (.bool true)) ∧ OldK t1.heap s'.heap ∧ s'.os = t1.os ∧ AllBare s'.gens) t1 := by
  obtain ⟨H, B⟩ := begun_of (P := P) (w := w) kin ha hi hl
  obtain ⟨mc, l1, l2⟩ := hlim
  have en : Env0 P w K mg (hidT t1.heap H) callerA [] t1 H := ⟨rfl, ⟨B.kin kin, B.nms ha hns, ⟨mb, B.nms ha hb, hbb⟩, ⟨mc, B.nms ha l1, l2⟩⟩, fun b o e => of_hidT e, Nat.le_of_eq (hidT_size _ _), trivial, fun b hb => absurd (show b ∈ ([] : List Addr) from hb) (by simp), B.ok, .of_eq hg⟩
  refine codeAny_mono ((F _).run callerA [] t1 H ⟨[.ref a], []⟩ [.ref a] [.ref a] _ _ rfl hr en (hbind t1 (.ref a)) (.cons rfl .nil) (hsp H B.sq)) fun r s' h => ?_
  match r, h with
  | .error e, h => exact (hCX H e s' h).elim
  | .ok .next, h => exact False.elim h
  | .ok .brk, h => exact False.elim h
  | .ok .cont, h => exact False.elim h
  | .ok (.ret u), ⟨v, H', os, bare, un, okH, rv, q⟩ =>
    have q : v = .bl true := q
    subst q
    obtain rfl : u = Value.bool true := rv
    refine ⟨rfl, OldK.of_keep fun b o e => ?_, os, bare⟩
    cases q : H b with
    | none => exact un.keep b o e q (fun z => absurd (show b ∈ ([] : List Addr) from z) (by simp)) (by simp)
    | some u =>
      rcases B.only b with z | ⟨ob, xs, z⟩
      · rw [q] at z
        cases z
      · obtain ⟨e1, _⟩ := B.ok b _ z
        obtain ⟨e2, _⟩ := okH b _ (un.frzs b ob _ z)
        rw [e] at e1
        cases e1
        exact e2
end
end G
set_option Elab.async false
set_option linter.all false
set_option maxRecDepth 100000
/-! list(reversed(a list)). -/
namespace G
open PySem PySem.Spec PyProof.Rows L2 RT
section
variable {prog : Program} {w : World} {A : Around} {E : Value → Shared → Prop} {s : Shared}
/-- what a list holds behind the walk of a reverse iterator -/
abbrev BackOf (items : Array Value) : Nat → Value → Prop := fun i v => items[items.size - 1 - i]? = some v
theorem extend_rev {R : Result → Shared → Prop} (hh : A.handled = none) {it l S : Addr} {items : Array Value} (hit : s.heap.IsRevIter it l ((items.size : Int) - 1)) (hl : s.heap.IsList l items) (hne : l ≠ it) (hn : items.size ≤ sizeLine) (res : Value) (c0 : Nat)
    (hS : s.heap.get? S = some { cls := .type "list", data := .seq #[] c0 }) (hSi : S ≠ it) (hSl : S ≠ l)
    (hR : ∀ h' tk acc c', (∀ b o, b ≠ S → b ≠ it → s.heap.get? b = some o → h'.get? b = some o) → h'.get? S = some { cls := .type "list", dict := none, data := .seq acc c', slots := #[] } → ItemsOf (BackOf items) acc items.size → R (.ok (.ret res)) { s with heap := h', toks := tk }) :
    wpAny (model prog w) A.in1 (Builtin.List.listExtendWith (.ref S) (.ref it) res) (fun fin s' => match fin with | .done f => R (.ok f) s' | .again c' => c'.quiet = true ∧ codeAny (model prog w) A c' R s') (fun e s' => R (.error e) s') s := by
  have out : S ∉ [it, l] := by simp only [List.mem_cons, List.not_mem_nil, or_false, not_or]; exact ⟨hSi, hSl⟩
  have ty : s.TypeIs (.ref it) "list_reverseiterator" := hit.typeIs
  have other : Builtin.List.listSameRef (.ref S) (.ref it) = false := by simp [Builtin.List.listSameRef, hSi]
  unfold Builtin.List.listExtendWith
  refine wpAny_bind (wpAny_typeOf ty ?_)
  rw [if_neg (by rw [other]; decide)]
  refine wpAny_bind (wpAny_pyIter_revIter hit (wpAny_bind (wpAny_holding ?_)))
  unfold Builtin.List.listLengthHint
  refine wpAny_bind (wpAny_specialOf ty nolen_lri ?_)
  refine (show wpAny _ A.in1 (specialOf (Value.ref it) (Str.ofString "__length_hint__") >>= _) _ _ _ from wpAny_bind (wpAny_specialOf ty hint_lri ?_))
  generalize named : ("list_reverseiterator.__length_hint__" : String) = nm
  wp_delta
  have parts : splitId nm = some ("list_reverseiterator", "__length_hint__") := by subst named; decide +kernel
  rw [parts]
  subst named
  refine wpAny_bind (wpAny_isInstance (b := true) ty (by rw [isSubtype_type]; kernel_rfl) (wpAny_pure ?_))
  rw [if_neg (by decide)]
  have start0 : ((items.size : Nat) : Int) - 1 - ((0 : Nat) : Int) = (items.size : Int) - 1 := by omega
  refine wpAny_pure ⟨plainId_quiet F.plain_extend_loop _, codeAny_extend_loopS (Walks.listRev (prog := prog) (w := w) (A := A.in1) hh it l hne items).toS hn _ out _ items.size 0 _ _ _ rfl (Nat.zero_le _) ⟨Nat.zero_le _, by rw [start0]; exact hit, hl⟩ hS (ItemsOf.nil _) fun s' acc c' hm hS' hacc => ?_⟩
  rw [Moved.eq_with hm]
  exact hR s'.heap s'.toks acc c' (fun b ob h1 h2 e => hm.heap b ob (fun z => (List.mem_cons.mp z).elim h1 fun z => h2 (List.mem_singleton.mp z)) e) hS' hacc
theorem call_list_rev (hh : A.handled = none) {it l : Addr} {items : Array Value} {Q : Value → Shared → Prop} (hit : s.heap.IsRevIter it l ((items.size : Int) - 1)) (hl : s.heap.IsList l items) (hne : l ≠ it) (hn : items.size ≤ sizeLine)
    (hQ : ∀ h' tk acc c', (∀ b o, b ≠ it → s.heap.get? b = some o → h'.get? b = some o) → h'.get? s.heap.objs.size = some { cls := .type "list", dict := none, data := .seq acc c', slots := #[] } → ItemsOf (BackOf items) acc items.size → Q (.ref s.heap.objs.size) { s with heap := h', toks := tk }) :
    wpAny (model prog w) A (call (.type "list") [.ref it]) Q E s := by
  refine callType_codes (Q₁ := fun obj t => obj = .ref s.heap.objs.size ∧ t = { s with heap := s.heap.push { cls := .type "list", data := .seq #[] } }) F.called_list (F.typeCall_list_1 _) F.entry_list_init (code_list_new _ ⟨rfl, rfl⟩) fun obj t ht => ?_
  obtain ⟨rfl, rfl⟩ := ht
  obtain ⟨oi, hoi, _⟩ := id hit
  obtain ⟨ol, hol, _⟩ := id hl
  have n1 : s.heap.objs.size ≠ it := Nat.ne_of_gt (Heap.lt_size hoi)
  have n2 : s.heap.objs.size ≠ l := Nat.ne_of_gt (Heap.lt_size hol)
  have new : (s.heap.push { cls := .type "list", data := .seq #[] }).get? s.heap.objs.size = some { cls := .type "list", data := .seq #[] } := Heap.get?_push_size _ rfl
  refine ⟨⟨_, new, rfl⟩, F.args_list_init_2 _ _, ?_⟩
  show wpAny _ _ (do let old ← Builtin.List.listItems (.ref s.heap.objs.size); Builtin.List.listUpdate (.ref s.heap.objs.size) (fun _ => #[]); letGo old.toList.reverse; Builtin.List.listExtendWith (.ref s.heap.objs.size) (.ref it) .none) _ _ _
  unfold Builtin.List.listItems
  refine wpAny_bind (wpAny_bind (wpAny_seqItems new rfl (wpAny_pure ?_)))
  show wpAny _ _ (updateSeq s.heap.objs.size (fun _ => #[]) >>= fun _ => letGo (#[] : Array Value).toList.reverse >>= fun _ => Builtin.List.listExtendWith (.ref s.heap.objs.size) (.ref it) .none) _ _ _
  refine wpAny_bind (wpAny_updateSeq new rfl (wpAny_bind (wpAny_letGo ?_)))
  have at_ : ∀ {b o}, b ≠ s.heap.objs.size → s.heap.get? b = some o → ((s.heap.push { cls := .type "list", data := .seq #[] }).update s.heap.objs.size (Obj.mapSeq (fun _ => (#[] : Array Value)))).get? b = some o := fun hb e => (Heap.get?_update_other _ _ (Ne.symm hb)).trans (Heap.get?_push_of_some _ e)
  refine extend_rev (A := A.in1) hh (hit.at fun o e => at_ n1.symm e) (hl.at fun o e => at_ n2.symm e) hne hn .none _ (Heap.get?_update_self (Obj.mapSeq (fun _ => (#[] : Array Value))) new rfl) n1 n2 fun h' tk acc c' hk hS' hacc => ⟨rfl, hQ h' tk acc c' (fun b o hb e => hk b o (Nat.ne_of_lt (Heap.lt_size e)) hb (at_ (Nat.ne_of_lt (Heap.lt_size e)) e)) hS' hacc⟩
end
end G
set_option Elab.async false
set_option linter.all false
set_option maxRecDepth 100000
/-! reversed, join, a sign in a text, int(text). -/
namespace G
open PySem PySem.Spec PyProof.Rows L2 RT
section
variable {C : TC}
/-! ### walks backwards -/
theorem rev_at {α : Type} {l : List α} {i : Nat} {d : α} (h : l.reverse[i]? = some d) : i < l.length ∧ l[l.length - 1 - i]? = some d := by
  have hi := (List.getElem?_eq_some_iff.mp h).1
  rw [List.length_reverse] at hi
  rw [List.getElem?_reverse hi] at h
  exact ⟨hi, h⟩
theorem jok_revL {Z0 : Hp} {a : Addr} {ds : List D} {gd : DH → Prop} (h : ∀ Z HD H, Ext Z0 Z → Sim C Z HD H → gd HD → ∃ xs, SqL C.K H a xs ∧ Reps C.K Z ds xs) : JOk C Z0 (Itv C.K a ds.length) ds.reverse gd := fun Z HD H i e s g => by
  obtain ⟨xs, h1, r1⟩ := h Z HD H e s g
  have hl := r1.length
  refine ⟨fun hi => by rw [List.length_reverse] at hi; exact hi, fun hi => ?_, fun x H' y d hd => ?_⟩
  · rw [List.length_reverse] at hi
    exact ⟨hi, xs, xs[ds.length - 1 - i]'(by omega), h1, List.getElem?_eq_getElem _⟩
  · obtain ⟨e1, y⟩ := y
    subst e1
    obtain ⟨v, hv, rv⟩ := r1.get (rev_at hd).2
    obtain rfl : v = x := Option.some.inj (hv.symm.trans (y xs h1))
    exact ⟨Z, Step.rfl s, rv⟩
theorem jok_revT {Z0 : Hp} {a : Addr} {ds : List D} {gd : DH → Prop} (h : ∀ Z HD H, Ext Z0 Z → Sim C Z HD H → gd HD → ∃ xs, SqT C.K H a xs ∧ Reps C.K Z ds xs) : JOk C Z0 (ItvT C.K a ds.length) ds.reverse gd := fun Z HD H i e s g => by
  obtain ⟨xs, h1, r1⟩ := h Z HD H e s g
  have hl := r1.length
  refine ⟨fun hi => by rw [List.length_reverse] at hi; exact hi, fun hi => ?_, fun x H' y d hd => ?_⟩
  · rw [List.length_reverse] at hi
    exact ⟨hi, xs, xs[ds.length - 1 - i]'(by omega), h1, List.getElem?_eq_getElem _⟩
  · obtain ⟨e1, y⟩ := y
    subst e1
    obtain ⟨v, hv, rv⟩ := r1.get (rev_at hd).2
    obtain rfl : v = x := Option.some.inj (hv.symm.trans (y xs h1))
    exact ⟨Z, Step.rfl s, rv⟩
def dRevIt (d : D) (H : DH) (R : List D → (DH → Prop) → DH → Prop) : Prop := match d with
  | .tup ds => R ds.reverse (fun _ => True) H
  | .lst ds => R ds.reverse (fun _ => True) H
  | _ => False
/-- for x in reversed(a tuple or a kept list) -/
def jRev (a : TW C) : IW C := ⟨fun W => iRevA C.K (a.t W), fun σ H R E => a.w σ H (fun x H1 => dRevIt x H1 R) E, fun W Z HD H σD σ RD ED R s sl h k kx => a.ok W Z HD H σD σ _ ED _ s sl h (fun Z1 HD1 H1 d x st rx q => by
  unfold dRevIt at q
  split at q
  · obtain ⟨p, xs, rfl, h1, r1⟩ := rx
    refine ⟨p, xs, rfl, .inr ⟨st.sim.seqT h1, ?_⟩⟩
    rw [r1.length]
    exact k _ _ _ _ _ _ st (jok_revT fun Z HD H e s _ => ⟨xs, s.seqT (e.seqT h1), Reps.mono e _ _ r1⟩) q
  · obtain ⟨p, xs, rfl, h1, r1⟩ := rx
    refine ⟨p, xs, rfl, .inl ⟨.of (st.sim.fz _ _ h1), ?_⟩⟩
    rw [r1.length]
    exact k _ _ _ _ _ _ st (jok_revL fun Z HD H e s _ => ⟨xs, .of (s.fz _ _ (e _ _ h1)), Reps.mono e _ _ r1⟩) q
  · exact q.elim) kx⟩
theorem w_rev {a : TW C} {σ : DS} {H : DH} {R : List D → (DH → Prop) → DH → Prop} {E : DX1} : (jRev a).w σ H R E = a.w σ H (fun x H1 => dRevIt x H1 R) E := rfl
/-! ### list(reversed(..)) -/
def tListRev (K : PySem.W.Frag) (te : TE) : TE := fun σ H Q => te σ H fun v H1 => ∃ (a : Addr) (xs : List V), v = .ref a ∧ SqL K H1 a xs ∧ ∀ q, H1 q = none → Q (.ref q) (upd H1 q (.lst xs.reverse))
theorem Reps.rev {K : PySem.W.Frag} {Z : Hp} : ∀ {ds : List D} {vs : List V}, Reps K Z ds vs → Reps K Z ds.reverse vs.reverse
  | [], _, h => by
    rw [show _ = [] from h]
    exact Reps.nil
  | d :: ds, vs, h => by
    obtain ⟨v, r, rfl, h1, h2⟩ := h
    rw [List.reverse_cons, List.reverse_cons]
    exact (Reps.rev h2).append (Reps.cons h1 Reps.nil)
def bListRev (f : Bool) (a : TW C) : TW C := ⟨fun W => tListRev C.K (a.t W), fun σ H Q E => a.w σ H (fun d H1 => optP (lstD H1 d) fun ds => newL f ds.reverse H1 Q) E, fun W Z HD H σD σ QD ED Q s sl h k kx => a.ok W Z HD H σD σ _ ED _ s sl h (fun Z1 HD1 H1 d x st rx q => by
  obtain ⟨ds, e1, q⟩ := optP_some q
  obtain ⟨b, xs, rfl, h1, r1⟩ := lstD_ok st.sim rx e1
  exact ⟨b, xs, rfl, h1, new_list st.sim (k.mono st) (Reps.rev r1) q⟩) kx⟩
theorem w_listRev {f : Bool} {a : TW C} {σ : DS} {H : DH} {Q : DQ} {E : DX1} : (bListRev f a).w σ H Q E = a.w σ H (fun d H1 => optP (lstD H1 d) fun ds => newL f ds.reverse H1 Q) E := rfl
/-! ### texts -/
def dJoin : D → List D → DH → DQ → Prop
  | .str a, [d], H, Q => optP (seqD H d) fun ds => ∃ ys : List Str, ds = ys.map .str ∧ (ys.map (·.length)).sum + ys.length * a.length ≤ 16777216 ∧ Q (.str (Txt.join a ys)) H
  | _, _, _, _ => False
theorem reps_str {K : PySem.W.Frag} {Z : Hp} : ∀ {ys : List Str} {xs : List V}, Reps K Z (ys.map .str) xs → xs = ys.map V.str
  | [], _, h => h
  | y :: ys, _, h => by
    obtain ⟨v, r, rfl, h1, h2⟩ := h
    rw [List.map_cons, reps_str h2, show v = V.str y from h1]
def mJoin : Mt C where
  T := "str"
  r := fun x xs H Q => ∃ a p, ∃ ys : List Str, x = .str a ∧ xs = [.ref p] ∧ (SqL C.K H p (ys.map V.str) ∨ SqT C.K H p (ys.map V.str)) ∧ (ys.map (·.length)).sum + ys.length * a.length ≤ 16777216 ∧ Q (.str (Txt.join a ys)) H
  w := dJoin
  ty := fun d _ => ∃ a, d = .str a
  tok := fun Z HD H d x s r h => by
    obtain ⟨a, rfl⟩ := h
    rw [show x = V.str a from r]
    rfl
  ok := fun Z HD H d ds x xs QD Q s rx rs q k => by
    unfold dJoin at q
    split at q
    · obtain ⟨v, rfl, rv⟩ := one_of rs
      obtain ⟨es, e1, ys, rfl, hz, q⟩ := optP_some q
      obtain ⟨b, zs, rfl, h1, r1⟩ := seqD_ok s rv e1
      rw [reps_str r1] at h1
      exact ⟨_, b, ys, rx, rfl, h1, hz, k.here q s rfl⟩
    · exact q.elim
def dInS : D → D → DH → DQ → Prop
  | .str x, .str z, H, Q => ∃ c : Nat, x = ⟨#[c]⟩ ∧ Q (.bl (decide (c ∈ z.cps.toList))) H
  | _, _, _, _ => False
def opInS : Op2 C := ⟨rInS, dInS, fun Z HD H d e x y QD Q s rx ry q k => by
  unfold dInS at q
  split at q
  · obtain ⟨c, rfl, q⟩ := q
    exact ⟨c, _, rx, ry, k.here q s rfl⟩
  · exact q.elim⟩
theorem o_inS {c : Nat} {z : Str} {H : DH} {Q : DQ} : (opInS : Op2 C).w (.str ⟨#[c]⟩) (.str z) H Q = Q (.bl (decide (c ∈ z.cps.toList))) H := by
  show (∃ c' : Nat, (⟨#[c]⟩ : Str) = ⟨#[c']⟩ ∧ Q (.bl (decide (c' ∈ z.cps.toList))) H) = _
  refine propext ⟨fun ⟨c', e, q⟩ => ?_, fun q => ⟨c, rfl, q⟩⟩
  have : c = c' := by
    injection e with e
    injection e with e
    injection e
  rw [this]; exact q
def dIntS : List D → DH → DQ → Prop
  | [.str a], H, Q => ∃ n, PySem.intText? a = some n ∧ a.length ≤ 640 ∧ Q (.int n) H
  | _, _, _ => False
def fIntS : Fn C := ⟨fun xs H Q => ∃ a n, xs = [.str a] ∧ PySem.intText? a = some n ∧ a.length ≤ 640 ∧ Q (.int n) H, dIntS, fun Z HD H ds xs QD Q s rs q k => by
  unfold dIntS at q
  split at q
  · obtain ⟨v, rfl, rv⟩ := one_of rs
    rw [show v = V.str _ from rv]
    obtain ⟨n, h1, h2, q⟩ := q
    exact ⟨_, n, rfl, h1, h2, k.here q s rfl⟩
  · exact q.elim⟩
end
section
variable {X : Cx} {xi : Option Exc} {W : WX} {k : Nat} {pos p p' p2 : Pos} {e f g : Expr} {es : List Expr} {x : Str}
theorem i_rev {a : TW ⟨X.K, xi⟩} (hm : X.mg "reversed" = none) (ha : PE X e (a.t W)) (hg : Gl X "reversed" := by rfl) (hs : starEach [e] X.env = (false, eval e X.env) :: starEach [] X.env := by rfl) : PI X f (.Call (.Name "reversed" p) [e] [] pos) ((jRev a).t W) := pi_revA hg hm ha hs
theorem pe_listRev {te : TE} {pos2 : Pos} (hc : X.calm = true) (hg : Gl X "list") (hm : X.mg "list" = none) (hg2 : Gl X "reversed") (hm2 : X.mg "reversed" = none) (he : PE X e te) (hs : starEach [e] X.env = (false, eval e X.env) :: starEach [] X.env := by rfl)
    (hs2 : starEach [.Call (.Name "reversed" p2) [e] [] pos2] X.env = (false, eval (.Call (.Name "reversed" p2) [e] [] pos2) X.env) :: starEach [] X.env := by rfl) : PE X (.Call (.Name "list" p) [.Call (.Name "reversed" p2) [e] [] pos2] [] pos) (tListRev X.K te) := ⟨fun pins s σ H Q I h => by
  refine Call_ (ld_blt I hg hm boot_list (PyProof.Rows.callWith_type1 (args_cons (Call_ (ld_blt I hg2 hm2 PyProof.Rows.boot_reversed (PyProof.Rows.callWith_type1 (args_cons (thn (he.run pins s σ H _ I h) fun u s1 ⟨v, H1, I1, r1, q1⟩ => args_nil ?_) hs) hs rfl))) hs2) hs2 rfl))
  obtain ⟨a, xs, rfl, hq, q⟩ := q1
  obtain rfl : u = Value.ref a := r1
  obtain ⟨its, rv, isl, hz⟩ := I1.list hq
  have hl := isl.isList
  obtain ⟨ol, hol, _⟩ := id hl
  refine call_reversed_list hl (args_nil ?_)
  have grown : ∀ b o, s1.heap.get? b = some o → (s1.heap.push (revObj a ((its.toArray.size : Int) - 1))).get? b = some o := fun b o e => Heap.get?_push_of_some _ e
  have fits : its.toArray.size ≤ sizeLine := by rw [List.size_toArray, ← rv.length]; exact hz
  refine call_list_rev (s := { s1 with heap := s1.heap.push (revObj a ((its.toArray.size : Int) - 1)) }) (I1.ok.hd hc) ⟨_, Heap.get?_push_size _ rfl, rfl, rfl⟩ (hl.push _) (Nat.ne_of_lt (Heap.lt_size hol)) fits fun h' tk acc c' hk hnew hi => ?_
  have le : s1.heap.objs.size ≤ (s1.heap.push (revObj a ((its.toArray.size : Int) - 1))).objs.size := by
    show s1.heap.objs.size ≤ (s1.heap.objs.push _).size
    rw [Array.size_push]
    exact Nat.le_succ _
  have nn : H1 (s1.heap.push (revObj a ((its.toArray.size : Int) - 1))).objs.size = none := I1.hok.fresh le
  have back : Inv X pins σ (upd H1 (s1.heap.push (revObj a ((its.toArray.size : Int) - 1))).objs.size (.lst xs.reverse)) { s1 with heap := h', toks := tk } := I1.laid (t' := tk) (fun b o e => hk b o (Nat.ne_of_lt (Heap.lt_size e)) (grown b o e)) le (show ObjOk X.prog X.w _ _ _ (.lst xs.reverse) from ⟨by rw [List.length_reverse]; exact hz, acc.toList, c', vals_rev rv hi, by rw [Array.toArray_toList]; exact hnew⟩)
  exact ⟨.ref _, _, back, rfl, q _ nn⟩⟩
theorem r_listRev {a : TW ⟨X.K, xi⟩} {b : Bool} {pos2 : Pos} (c : CO X W k) (hm : X.mg "list" = none) (hm2 : X.mg "reversed" = none) (ha : PE X e (a.t W)) (hg : Gl X "list" := by rfl) (hg2 : Gl X "reversed" := by rfl) (hs : starEach [e] X.env = (false, eval e X.env) :: starEach [] X.env := by rfl)
    (hs2 : starEach [.Call (.Name "reversed" p2) [e] [] pos2] X.env = (false, eval (.Call (.Name "reversed" p2) [e] [] pos2) X.env) :: starEach [] X.env := by rfl) : PE X (.Call (.Name "list" p) [.Call (.Name "reversed" p2) [e] [] pos2] [] pos) ((bListRev b a).t W) := pe_listRev c.calm hg hm hg2 hm2 ha hs hs2
theorem m_join {o : TW ⟨X.K, xi⟩} {a : TW ⟨X.K, xi⟩} {apos cpos : Pos} (ho : PE X e (o.t W)) (ha : PE X f (a.t W)) (hbase : attributeBase e "join" X.env (eval e X.env) = eval e X.env := by rfl) (hline : (apos.endLine == cpos.line) = true := by rfl)
    (hs : starEach [f] X.env = (false, eval f X.env) :: starEach [] X.env := by rfl)
    (hfew : ((backTo cpos (starEach [f] X.env)).all (fun x => !x.1) && (backToKw cpos (keywordEach [] X.env)).all (fun x => x.1.isSome)
      && decide ([f].length + ([] : List Keyword).length + (if ([] : List Keyword).isEmpty then 0 else 1) < 30)) = true := by rfl) :
    PE X (.Call (.Attribute e "join" apos) [f] [] cpos) ((bM mJoin o (aCons a aNil)).t W) := r_m PySem.F.plainAttrs_str PySem.F.slot_str_join PySem.F.type_str_join mt_join ho (a_cons ha a_nil hs) hbase hfew hline hs
theorem r_intS {a : TW ⟨X.K, xi⟩} (hm : X.mg "int" = none) (ha : PE X e (a.t W)) (hg : Gl X "int" := by rfl) (he : starEach [e] X.env = (false, eval e X.env) :: starEach [] X.env := by rfl) (hpl : (backTo pos (starEach ([] : List Expr) X.env)).any (·.1) = false := by rfl) :
    PE X (.Call (.Name "int" p) [e] [] pos) ((bB fIntS (aCons a aNil)).t W) := r_ty (n := fIntS) call_int_str bo_int hm (a_cons ha a_nil he) hg (by decide) (by decide) he hpl
theorem r_repr {a : TW ⟨X.K, xi⟩} (c : CO X W (k + 1)) (gd : X.A.guards = some []) (hm : X.mg "repr" = none) (ha : PE X e (a.t W)) (hg : Gl X "repr" := by rfl) (he : starEach [e] X.env = (false, eval e X.env) :: starEach [] X.env := by rfl) (hpl : (backTo pos (starEach ([] : List Expr) X.env)).any (·.1) = false := by rfl) :
    PE X (.Call (.Name "repr" p) [e] [] pos) ((bB fRepr (aCons a aNil)).t W) := r_fn (n := fRepr) (cr_repr c.hu2 gd) bo_repr hm (a_cons ha a_nil he) hg (by decide) (by decide) he hpl
end
end G
set_option Elab.async false
set_option linter.all false
set_option maxRecDepth 100000
set_option maxHeartbeats 2000000
/-! raise X(v, u), X an own exception that keeps its two arguments. -/
namespace PySem
namespace XI
open PySem.W PySem.Calls PyProof.Rows
section
variable {prog : Program} {w : World} {A : Around} {E : Value → Shared → Prop} {h : Heap} {g : Array GenState} {d : Drawn} {t : Nat} {os : OsState}
variable {nm q : Str} {C N : Addr} {bs bm : List Value} {hdct : Bool} {sn : List Str} {sub : List Value} {ab : Bool} {col : Option Bool} {dd : Option Addr} {k0 k1 k2 k3 k5 : Option Value}
/-- .. with two arguments, kept -/
theorem init2 {R : Result → Shared → Prop} {K : Frag} {mg mb : Str → Option Value} {e t0 fI : Addr} {params : Arguments} {body : List Stmt} {scope : Scope} {z : Str} {j : Nat} {p0 p1 p2 p3 p4 p5 : Pos} {f v f2 v2 : Str} {u u2 : Value} {q1 q2 q3 q4 s1 s2 s3 s4 : Pos} (X : K.In h) (T : XIni prog K C fI params body scope) (S : XSc ["self", v, v2] scope)
    (hbody : body = [.Expr (.Call (.Attribute (.Call (.Name "super" p0) [] [] p1) "__init__" p2) [.Constant (.str z) j p3] [] p4) p5, .Assign [.Attribute (.Name "self" q1) f q2] (.Name v q3) q4, .Assign [.Attribute (.Name "self" s1) f2 s2] (.Name v2 s3) s4])
    (hbind : ∀ (nf qf : Str) (kV doc pm : Value) (an : Option Addr) (cdv ct : Value) (cc : Addr) (a b b2 : Value), bindArgs (ksFn nf qf params body scope .none kV doc pm an cdv ct cc) ⟨[a, b, b2], []⟩ = pure [(("self" : Str), a), (v, b), (v2, b2)])
    (hp : (params.posonlyargs ++ params.args).head?.map (·.arg) = some "self") (hvs : (("self" : Str) == v) = false) (hvs2 : (("self" : Str) == v2) = false) (hvv : (v == v2) = false) (hdv : (v == ("__debug__" : Str)) = false) (hdv2 : (v2 == ("__debug__" : Str)) = false) (hl : (p2.endLine == p4.line) = true) (hno : findIn K (.ref C) f = some none) (hno2 : findIn K (.ref C) f2 = some none)
    (G : h.Ns mainGlobals mg) (hsup : mg "super" = none) (B : h.Ns builtinsNs mb) (hb : mb "super" = bootBuiltins "super") (lim : h.NoLimit) (hA : A.depth < recursionLimit) (he : h.get? e = some (HandSPX.excO C t0)) (hKe : K.lookup e = none)
    (htop : (prog.main.scope.names.lookup ("super" : Str)).isSome = false)
    (hq : ∀ h' t1 tk' dx, (∀ b o, b ≠ e → h.get? b = some o → h'.get? b = some o) → h.objs.size ≤ dx → dx ≠ e → h'.get? e = some { cls := .ref C, dict := some dx, data := .fields #[.ref t1, .none, .none, .none, .bool false, .none] } →
      h'.Ns1 dx (fun y => if y = f2 then some u2 else if y = f then some u else none) → R (.ok (.ret .none)) ⟨h', g, d, tk', os⟩) : codeAny (model prog w) A (.call (.ref fI) ⟨[.ref e, u, u2], []⟩) R ⟨h, g, d, t, os⟩ := by
  obtain ⟨nf, qf, oc, od, osl, kV, doc, pm, an, cda, ct, cc, hfn, hcd, hco, hcc⟩ := T.fn
  obtain ⟨cd, hD, hmro, hdict⟩ := T.cd
  have lt : e < h.objs.size := Heap.lt_size he
  refine ks_codeAny_call_defAt (fd := ksFn nf qf params body scope .none kV doc pm an (.ref cda) ct cc) (body := body) (binds := [(("self" : Str), .ref e), (v, u), (v2, u2)]) hA (X _ _ hfn) rfl lim (codeRec_of X hcd) rfl (.of_eq (hbind nf qf kV doc pm an (.ref cda) ct cc (.ref e) u u2)) S.cell
    (fun x hx => ?_) (fun h0 hns hk0 => ?_) S.co S.gen S.kind
  · rcases List.mem_cons.mp hx with rfl | hx
    · exact S.par "self" (by simp)
    · rcases List.mem_cons.mp hx with rfl | hx
      · exact S.par v (by simp)
      · rcases List.mem_cons.mp hx with rfl | hx
        · exact S.par v2 (by simp)
        · cases hx
  · show wpAt (model prog w) _ (.func body (ksEnv qf scope h.objs.size fI (.ref cda) cc)) (execs body (ksEnv qf scope h.objs.size fI (.ref cda) cc)) _ _ _
    have hself : (fun x => List.lookup x [(("self" : Str), Value.ref e), (v, u), (v2, u2)].reverse) ("self" : Str) = some (Value.ref e) := by
      show List.lookup ("self" : Str) [(v2, u2), (v, u), (("self" : Str), Value.ref e)] = _
      simp only [List.lookup, hvs, hvs2, beq_self_eq_true]
    have hval : (fun x => List.lookup x [(("self" : Str), Value.ref e), (v, u), (v2, u2)].reverse) v = some u := by
      show List.lookup v [(v2, u2), (v, u), (("self" : Str), Value.ref e)] = _
      simp only [List.lookup, hvv, beq_self_eq_true]
    have hval2 : (fun x => List.lookup x [(("self" : Str), Value.ref e), (v, u), (v2, u2)].reverse) v2 = some u2 := by
      show List.lookup v2 [(v2, u2), (v, u), (("self" : Str), Value.ref e)] = _
      simp only [List.lookup, beq_self_eq_true]
    have X0 : K.In h0 := X.keeps hk0
    have ks : ∀ (st : Stmt) (rest : List Stmt), body = st :: rest → execs body (ksEnv qf scope h.objs.size fI (.ref cda) cc) = execs (st :: rest) (ksEnv qf scope h.objs.size fI (.ref cda) cc) := fun st rest e => by rw [e]
    rw [ks _ _ hbody]
    refine ks_wpAt_execs_cons (super_stmt X0 T hfn hco hcc (G.keeps hk0) hsup (B.keeps hk0) hb hns hself (hk0 _ _ he) hp S.sup S.cls (S.par "self" (by simp)) S.kind hl htop fun h1 t1 k1 kk1 he1 => ?_)
    have X1 : K.In h1 := in_but X0 hKe kk1
    have n1 := ns_but hns (Nat.ne_of_gt lt) kk1
    refine ks_wpAt_execs_cons (store_new X1 n1 hself hval he1 hD hmro hdict T.sa hno S.kind (S.par "self" (by simp)) (S.par v (by simp)) hdv fun h2 tk2 dx kk2 hdx hne he2 hd2 => ?_)
    have X2 : K.In h2 := in_but X1 hKe kk2
    have n2 := ns_but n1 (Nat.ne_of_gt lt) kk2
    have hdl : h.objs.size ≠ dx := Nat.ne_of_lt (Nat.lt_of_lt_of_le n1.lt hdx)
    refine ks_wpAt_execs_cons (store_old (ns := [f]) X2 n2 hself hval2 he2 hd2 (fun y hy => ?_) (show 1 ≤ 1000 by decide) hD hmro hdict T.sa hno2 S.kind (S.par "self" (by simp)) (S.par v2 (by simp)) hdv2 fun h3 tk3 kk3 hd3 => ?_)
    · by_cases hyf : y = f
      · rw [hyf]; exact List.mem_cons_self
      · simp only [if_neg hyf] at hy
        exact absurd rfl hy
    refine wpAt_of_wpAny (wpAny_execs_nil ?_)
    have hsd : h.objs.size ≤ dx := Nat.le_trans (Nat.le_of_lt n1.lt) hdx
    refine hq h3 t1 tk3 dx (fun b o hbe hb => kk3 b o (Nat.ne_of_lt (Nat.lt_of_lt_of_le (Heap.lt_size hb) hsd)) (kk2 b o hbe (kk1 b o hbe (hk0 b o hb)))) hsd hne (kk3 _ _ (Ne.symm hne) he2) hd3
end
end XI
end PySem
namespace G
open PySem PySem.Spec PyProof.Rows L2
/-- what the def's text says, two arguments -/
structure X2T (params : Arguments) (body : List Stmt) (scope : Scope) (f v f2 v2 : Str) : Prop where
  sc : XI.XSc ["self", v, v2] scope
  shape : ∃ (z : Str) (j : Nat) (p0 p1 p2 p3 p4 p5 q1 q2 q3 q4 s1 s2 s3 s4 : Pos), body = [.Expr (.Call (.Attribute (.Call (.Name "super" p0) [] [] p1) "__init__" p2) [.Constant (.str z) j p3] [] p4) p5, .Assign [.Attribute (.Name "self" q1) f q2] (.Name v q3) q4, .Assign [.Attribute (.Name "self" s1) f2 s2] (.Name v2 s3) s4] ∧ (p2.endLine == p4.line) = true
  bind : ∀ (nf qf : Str) (kV doc pm : Value) (an : Option Addr) (cdv ct : Value) (cc : Addr) (a b b2 : Value), bindArgs (PySem.W.ksFn nf qf params body scope .none kV doc pm an cdv ct cc) ⟨[a, b, b2], []⟩ = pure [(("self" : Str), a), (v, b), (v2, b2)]
  hp : (params.posonlyargs ++ params.args).head?.map (·.arg) = some "self"
  hvs : (("self" : Str) == v) = false
  hvs2 : (("self" : Str) == v2) = false
  hvv : (v == v2) = false
  hff : f ≠ f2
  hdv2 : (v2 == ("__debug__" : Str)) = false
  hdv : (v == ("__debug__" : Str)) = false
section
variable {X : Cx} {xi : Option Exc} {W : WX} {k : Nat} {pos p p' : Pos} {e e2 : Expr} {x f v f2 v2 : Str} {params : Arguments} {body : List Stmt} {scope : Scope}
theorem pmk_x2 {ta : TA} (T : XCl X.prog X.K X.mg x params body scope [f, f2]) (S : X2T params body scope f v f2 v2) (hsup : X.mg "super" = none) (htop : (X.prog.main.scope.names.lookup ("super" : Str)).isSome = false) (hr : Room (k + 1) X.A) (ha : PA X [e, e2] ta) (hg : Gl X x := by rfl)
    (hdb : (x == ("__debug__" : Str)) = false := by decide) (he : starEach [e, e2] X.env = (false, eval e X.env) :: starEach [e2] X.env := by rfl) (hpl : (backTo pos (starEach [e2] X.env)).any (·.1) = false := by rfl) : L2N.PMk X (.Call (.Name x p) [e, e2] [] pos) (tMkX (clsA X.K x) [f, f2] ta) := by
  intro pins s σ H Q I h
  obtain ⟨fI, Ti⟩ := T.ini
  obtain ⟨z, j, p0, p1, p2, p3, p4, p5, q1, q2, q3, q4, s1, s2, s3, s4, hbody, hl⟩ := S.shape
  refine wpAny_Call_Name_kw (ld_glob I hg T.gl ?_ hdb)
  refine PySem.W.callWith_K (h₀ := X.base) I.ok.mod.kin Ti.kC (thn (ha.run pos pins s σ H _ I h) fun us s1 ⟨vs, H1, I1, r1, hz, q1⟩ => ⟨I1.kIn, ?_⟩) he hpl
  show wpAny _ _ (call (.ref (clsA X.K x)) us) _ _ _
  obtain ⟨y, y2, rfl⟩ : ∃ y y2, vs = [y, y2] := by
    match vs, hz with
    | [y, y2], _ => exact ⟨y, y2, rfl⟩
  obtain ⟨u, u2, rfl, ry, ry2⟩ := vals2 r1
  have nl := I1.nolimit
  have bk := I1.bk
  have glob := I1.mod.glob
  obtain ⟨mb, hB, hb⟩ := I1.mod.blt
  obtain ⟨hp, g, dr, tk, os⟩ := s1
  have kk : ∀ b o, hp.get? b = some o → ((hp.push (PySem.W.kdv_tup [u, u2])).push (PySem.HandSPX.excO (clsA X.K x) hp.objs.size)).get? b = some o := fun b o e => Heap.get?_push_of_some _ (Heap.get?_push_of_some _ e)
  have hget : ((hp.push (PySem.W.kdv_tup [u, u2])).push (PySem.HandSPX.excO (clsA X.K x) hp.objs.size)).get? (hp.objs.size + 1) = some (PySem.HandSPX.excO (clsA X.K x) hp.objs.size) := by heap_get
  have hsz : hp.objs.size ≤ hp.objs.size + 1 := Nat.le_succ _
  have hn : H1 (hp.objs.size + 1) = none := I1.hok.fresh hsz
  have hKe : X.K.lookup (hp.objs.size + 1) = none := by
    cases q : X.K.lookup (hp.objs.size + 1) with
    | none => rfl
    | some o =>
      have := Heap.lt_size (I1.kIn _ _ q)
      exact absurd this (by show ¬ hp.objs.size + 1 < hp.objs.size; omega)
  obtain ⟨nm, N', qn, bs, bm, hdct, sn, sub, ab, col, dd, k0, k1, k2, k3, k5, hC, hT⟩ := PySem.W.excInit_of I1.kIn Ti.exc
  refine wpAny_call (PySem.HandSPX.call_own F.excBase_ValueError hT hC (PySem.W.looks_findIn I1.kIn Ti.ini) (fun self => PySem.W.bind_fn I1.kIn self Ti.tI) (by show 2 ≤ sizeLine; decide) ?_)
  refine XI.init2 (R := PySem.W.InitBack (hp.objs.size + 1) _) (I1.kIn.keeps kk) Ti S.sc hbody S.bind S.hp S.hvs S.hvs2 S.hvv S.hdv S.hdv2 hl (T.no f (by simp)) (T.no f2 (by simp)) ((glob.keeps bk).keeps kk) hsup ((hB.keeps bk).keeps kk) (hb _ (by decide)) (nl.keeps kk) (hr.make _ _ _).depth hget hKe htop fun h2 t1 tk2 dx kp hdx hne he2 hd2 => ?_
  refine ⟨rfl, ?_⟩
  obtain ⟨G, g1, g2⟩ := restrict h2 fun b => decide (b ≠ hp.objs.size + 1)
  have gk : ∀ b, b ≠ hp.objs.size + 1 → G.get? b = h2.get? b := fun b hb => g1 b (decide_eq_true hb)
  have ge : G.get? (hp.objs.size + 1) = none := g2 _ (by simp)
  have lt : ∀ b o, hp.get? b = some o → b ≠ hp.objs.size + 1 := fun b o q => Nat.ne_of_lt (Nat.lt_of_lt_of_le (Heap.lt_size q) hsz)
  have kG : ∀ b o, hp.get? b = some o → G.get? b = some o := fun b o q => by
    rw [gk b (lt b o q)]
    exact kp b o (lt b o q) (kk b o q)
  have hdx2 : hp.objs.size ≤ dx := Nat.le_trans (by rw [Heap.size_push, Heap.size_push]; omega) hdx
  have hd1 : H1 dx = none := I1.hok.fresh hdx2
  have J := I1.laid (h' := G) (a := dx) (o := .xd (mkF [f, f2] [y, y2])) (t' := tk2) kG hdx2 (by
    refine ⟨_, hd2.at fun o q => by rw [gk dx hne]; exact q, fun f' => ?_⟩
    have r2 := relO_put (f := f) (fs := [(f2, y2)]) (mA := fun y => if y = f2 then some u2 else none) ry (relO_put (fs := []) (mA := fun _ => none) ry2 (fun g => True.intro)) f'
    have e : (if f' = f then some u else if f' = f2 then some u2 else none) = (if f' = f2 then some u2 else if f' = f then some u else none) := by
      by_cases h1 : f' = f
      · rw [if_pos h1, if_neg (fun h2 => S.hff (h1.symm.trans h2)), if_pos h1]
      · rw [if_neg h1, if_neg h1]
    have r3 : RelO ((mkF [f, f2] [y, y2]).lookup f') (if f' = f then some u else if f' = f2 then some u2 else none) := r2
    rw [e] at r3
    exact r3)
  refine ⟨hp.objs.size + 1, _, _, _, _, .ref (clsA X.K x), some dx, rfl, J, fun b o q => ?_, ge, he2, ⟨rfl, rfl, fun vs e => by cases e; rfl⟩, rfl, rfl, ?_, rfl, I1.bare, raises_own Ti.exB Ti.ty, q1 dx hd1⟩
  · by_cases hba : b = hp.objs.size + 1
    · rw [hba, show Heap.get? _ _ = _ from ge] at q
      cases q
    · exact (gk b hba).symm.trans q
  · rw [upd_ne (Ne.symm hne)]
    exact hn
theorem s_raise2 {a : AW ⟨X.K, xi⟩} {fl v fl2 v2 : Str} {params : Arguments} {body : List Stmt} {scope : Scope} (c : CO X W (k + 1)) (T : XCl X.prog X.K X.mg x params body scope [fl, fl2]) (S : X2T params body scope fl v fl2 v2) (hsup : X.mg "super" = none) (htop : (X.prog.main.scope.names.lookup ("super" : Str)).isSome = false)
    (ha : PA X [e, e2] (a.t W)) (hg : Gl X x := by rfl) (hdb : (x == ("__debug__" : Str)) = false := by decide) (he : starEach [e, e2] X.env = (false, eval e X.env) :: starEach [e2] X.env := by rfl) (hpl : (backTo pos (starEach [e2] X.env)).any (·.1) = false := by rfl) :
    PS X (.Raise (some (.Call (.Name x p) [e, e2] [] pos)) none p') ((sRaise (C := ⟨X.K, xi⟩) x [fl, fl2] a).t W) := L2N.ps_raise c.calm c.tk (pmk_x2 T S hsup htop c.room ha hg hdb he hpl)
end
end G
set_option Elab.async false
set_option linter.all false
set_option maxRecDepth 100000
/-! More of texts: repeated, a sign not in a text, find from a place, lstrip of signs, repr of what is no list. -/
namespace L2
open PySem PySem.Spec PyProof.Rows
section
variable {X : Cx}
def rMulS : R2 := fun x y H Q => ∃ (i : Str) (n : Nat), x = .str i ∧ y = .int (n : Int) ∧ i.length ≤ 1000 ∧ n ≤ 1000 ∧ Q (.str ⟨(List.replicate n i.cps.toList).flatten.toArray⟩) H
theorem fold_rep (a : Array Nat) : ∀ (n : Nat) (acc : Array Nat), ((List.replicate n a).foldl (· ++ ·) acc).toList = acc.toList ++ (List.replicate n a.toList).flatten
  | 0, acc => by simp
  | n + 1, acc => by
    rw [List.replicate_succ, List.foldl_cons, fold_rep a n, List.replicate_succ, List.flatten_cons, Array.toList_append, List.append_assoc]
theorem op_mulS : OpR X (binaryOp .Mult) rMulS := by
  intro pins s σ H x y v u Q I rx ry h
  obtain ⟨i, n, rfl, rfl, hi, hn, q⟩ := h
  obtain ⟨t, rfl⟩ := rx
  obtain ⟨t', rfl⟩ := ry
  have hz : i.length * n ≤ 1000000 := Nat.le_trans (Nat.mul_le_mul hi hn) (by decide)
  have hs : sizeLine = 16777216 := sizeLine_eq
  have hlen : ((List.replicate n i.cps.toList).flatten).length = i.length * n := by
    rw [List.length_flatten, List.map_replicate, List.sum_replicate_nat, Array.length_toList, Nat.mul_comm]; rfl
  refine PySem.P.mul_str ?_ (fun h1 h2 h3 => ?_) (fun h1 h2 => ?_) ?_
  · rw [decide_eq_false (by omega), decide_eq_false (by omega)]; rfl
  · have hn1 : 1 ≤ n := by omega
    have h4 : (1 : Int) ≤ ((2 ^ 63 - 1) / (n : Int)) := by
      refine Int.le_ediv_of_mul_le (by omega) (by omega)
    have h5 : ((2 ^ 63 - 1) / 1000 : Int) ≤ (2 ^ 63 - 1) / (n : Int) := by
      refine Int.le_ediv_of_mul_le (by omega) ?_
      have : ((2 ^ 63 - 1) / 1000 : Int) * (n : Int) ≤ ((2 ^ 63 - 1) / 1000 : Int) * 1000 := Int.mul_le_mul_of_nonneg_left (by omega) (by decide)
      exact Int.le_trans this (by decide)
    have h6 : (1000 : Int) ≤ (2 ^ 63 - 1) / 1000 := by decide
    omega
  · show decide (i.length * ((n : Int)).toNat > sizeLine) = false
    rw [Int.toNat_natCast]
    exact decide_eq_false (by omega)
  · by_cases h1 : (n : Int) < 1
    · rw [if_pos h1]
      have e : n = 0 := by omega
      subst e
      exact ⟨by decide, .str ⟨#[]⟩, H, I.tok _, ⟨_, rfl⟩, q⟩
    · rw [if_neg h1]
      by_cases h2 : ((n : Int) == 1 || i.length == 0) = true
      · rw [if_pos h2]
        have e : (⟨(List.replicate n i.cps.toList).flatten.toArray⟩ : Str) = i := by
          rw [Bool.or_eq_true, beq_iff_eq, beq_iff_eq] at h2
          cases i with
          | mk a =>
            congr 1
            rcases h2 with h2 | h2
            · have e1 : n = 1 := by omega
              subst e1
              simp
            · have e1 : a = #[] := Array.eq_empty_of_size_eq_zero h2
              subst e1
              simp
        rw [e] at q
        exact ⟨.str i, H, I, ⟨t, rfl⟩, q⟩
      · rw [if_neg h2]
        have e : (⟨(List.replicate ((n : Int)).toNat i.cps).foldl (· ++ ·) #[]⟩ : Str) = ⟨(List.replicate n i.cps.toList).flatten.toArray⟩ := by
          rw [Int.toNat_natCast]
          have := fold_rep i.cps n #[]
          congr 1
          apply Array.toList_inj.mp
          rw [this]
          simp
        rw [e]
        refine ⟨?_, .str _, H, I.tok _, ⟨_, rfl⟩, q⟩
        show (List.replicate n i.cps.toList).flatten.toArray.size ≤ sizeLine
        rw [List.size_toArray, hlen]
        omega
end
end L2
namespace G
open PySem PySem.Spec PyProof.Rows L2 RT
section
variable {C : TC}
def dMulS : D → D → DH → DQ → Prop
  | .str i, .int k, H, Q => ∃ n : Nat, k = (n : Int) ∧ i.length ≤ 1000 ∧ n ≤ 1000 ∧ Q (.str ⟨(List.replicate n i.cps.toList).flatten.toArray⟩) H
  | _, _, _, _ => False
def opMulS : Op2 C := ⟨rMulS, dMulS, fun Z HD H d e x y QD Q s rx ry q k => by
  unfold dMulS at q
  split at q
  · obtain ⟨n, rfl, q1, q2, q⟩ := q
    exact ⟨_, n, rx, ry, q1, q2, k.here q s rfl⟩
  · exact q.elim⟩
def dNotInS : D → D → DH → DQ → Prop
  | .str x, .str z, H, Q => ∃ c : Nat, x = ⟨#[c]⟩ ∧ Q (.bl (!decide (c ∈ z.cps.toList))) H
  | _, _, _, _ => False
def opNotInS : Op2 C := ⟨rNotInS, dNotInS, fun Z HD H d e x y QD Q s rx ry q k => by
  unfold dNotInS at q
  split at q
  · obtain ⟨c, rfl, q⟩ := q
    exact ⟨c, _, rx, ry, k.here q s rfl⟩
  · exact q.elim⟩
/-- a method of texts, one argument or two -/
def mStr (r : V → List V → Hp → VK → Prop) (w : D → List D → DH → DQ → Prop) (ok : ∀ Z HD H d ds x xs QD Q, Sim C Z HD H → Rep C.K Z d x → Reps C.K Z ds xs → w d ds HD QD → KQ C Z HD H QD Q → r x xs H Q) : Mt C where
  T := "str"
  r := r
  w := w
  ty := fun d _ => ∃ a, d = .str a
  tok := fun Z HD H d x s r h => by
    obtain ⟨a, rfl⟩ := h
    rw [show x = V.str a from r]
    rfl
  ok := ok
def dFind3 : D → List D → DH → DQ → Prop
  | .str a, [.str b, .int i], H, Q => Q (.int (Txt.find3 a b i)) H
  | _, _, _, _ => False
def mFind3 : Mt C := mStr (fun x xs H Q => ∃ (a b : Str) (i : Int), x = .str a ∧ xs = [.str b, .int i] ∧ Q (.int (Txt.find3 a b i)) H) dFind3 fun Z HD H d ds x xs QD Q s rx rs q k => by
  unfold dFind3 at q
  split at q
  · obtain ⟨v, u, rfl, rv, ru⟩ := two_of rs
    rw [show v = V.str _ from rv, show u = V.int _ from ru]
    exact ⟨_, _, _, rx, rfl, k.here q s rfl⟩
  · exact q.elim
def dLstrip : D → List D → DH → DQ → Prop
  | .str a, [.str b], H, Q => a.length ≤ sizeLine ∧ Q (.str (Txt.lstripChars a b)) H
  | _, _, _, _ => False
def mLstrip : Mt C := mStr (fun x xs H Q => ∃ a b, x = .str a ∧ xs = [.str b] ∧ a.length ≤ sizeLine ∧ Q (.str (Txt.lstripChars a b)) H) dLstrip fun Z HD H d ds x xs QD Q s rx rs q k => by
  unfold dLstrip at q
  split at q
  · obtain ⟨v, rfl, rv⟩ := one_of rs
    rw [show v = V.str _ from rv]
    exact ⟨_, _, rx, rfl, q.1, k.here q.2 s rfl⟩
  · exact q.elim
/-! ### repr of what is no list, no tuple -/
def rReprS (K : PySem.W.Frag) : List V → Hp → VK → Prop := fun vs H Q => ∃ (d : D), d.sc = true ∧ vs = [d.scV] ∧ okR d.py ∧ Q (.str d.py.shown) H
def dReprS : List D → DH → DQ → Prop
  | [d], H, Q => d.sc = true ∧ okR d.py ∧ Q (.str d.py.shown) H
  | _, _, _ => False
def fReprS : Fn C := ⟨rReprS C.K, dReprS, fun Z HD H ds xs QD Q s rs q k => by
  unfold dReprS at q
  split at q
  · obtain ⟨v, rfl, rv⟩ := one_of rs
    exact ⟨_, q.1, by rw [rv.scal q.1], q.2.1, k.here q.2.2 s rfl⟩
  · exact q.elim⟩
theorem f_reprS {H : DH} {Q : DQ} {d : D} : (fReprS : Fn C).w [d] H Q = (d.sc = true ∧ okR d.py ∧ Q (.str d.py.shown) H) := rfl
end
section
variable {X : Cx}
theorem cr_reprS : CallR X (.builtin "repr") (rReprS X.K) := by
  intro pins s σ H xs us Q I r h
  obtain ⟨d, hd, rfl, ⟨hs, _, _, hz⟩, q⟩ := h
  obtain ⟨u, rfl, rv⟩ := vals1 r
  cases d with
  | non =>
    obtain rfl : u = .none := rv
    exact PySem.P.repr_of_none ⟨.str "None", H, I.tok _, ⟨_, rfl⟩, q⟩
  | bl b =>
    obtain rfl : u = .bool b := rv
    exact PySem.P.repr_of_bool ⟨.str (if b then "True" else "False"), H, I.tok _, ⟨_, rfl⟩, q⟩
  | int i =>
    obtain ⟨t, rfl⟩ := rv
    exact PySem.P.repr_of_int (of_decide_eq_true hs) ⟨.str (toString i), H, I.tok _, ⟨_, rfl⟩, q⟩
  | str x =>
    obtain ⟨t, rfl⟩ := rv
    exact PySem.P.repr_of_str ⟨.str (reprText x), H, I.tok _, ⟨_, rfl⟩, q⟩ hz
  | _ => cases hd
end
section
variable {X : Cx} {xi : Option Exc} {W : WX} {k : Nat} {pos p p' p2 : Pos} {e f g : Expr} {es : List Expr} {x : Str}
theorem r_reprS {a : TW ⟨X.K, xi⟩} (hm : X.mg "repr" = none) (ha : PE X e (a.t W)) (hg : Gl X "repr" := by rfl) (he : starEach [e] X.env = (false, eval e X.env) :: starEach [] X.env := by rfl) (hpl : (backTo pos (starEach ([] : List Expr) X.env)).any (·.1) = false := by rfl) :
    PE X (.Call (.Name "repr" p) [e] [] pos) ((bB fReprS (aCons a aNil)).t W) := r_fn (n := fReprS) cr_reprS bo_repr hm (a_cons ha a_nil he) hg (by decide) (by decide) he hpl
theorem m_find3 {o a b : TW ⟨X.K, xi⟩} {apos cpos : Pos} (ho : PE X e (o.t W)) (ha : PE X f (a.t W)) (hb : PE X g (b.t W)) (hbase : attributeBase e "find" X.env (eval e X.env) = eval e X.env := by rfl) (hline : (apos.endLine == cpos.line) = true := by rfl)
    (hs : starEach [f, g] X.env = (false, eval f X.env) :: starEach [g] X.env := by rfl) (hs2 : starEach [g] X.env = (false, eval g X.env) :: starEach [] X.env := by rfl)
    (hfew : ((backTo cpos (starEach [f, g] X.env)).all (fun x => !x.1) && (backToKw cpos (keywordEach [] X.env)).all (fun x => x.1.isSome)
      && decide ([f, g].length + ([] : List Keyword).length + (if ([] : List Keyword).isEmpty then 0 else 1) < 30)) = true := by rfl)
    (hplain : (backTo cpos (starEach [g] X.env)).any (·.1) = false := by rfl) :
    PE X (.Call (.Attribute e "find" apos) [f, g] [] cpos) ((bM mFind3 o (aCons a (aCons b aNil))).t W) := r_m (m := mFind3) PySem.F.plainAttrs_str PySem.F.slot_str_find PySem.F.type_str_find mt_find3 ho (a_cons ha (a_cons hb a_nil hs2) hs) hbase hfew hline hs hplain
theorem m_lstrip {o a : TW ⟨X.K, xi⟩} {apos cpos : Pos} (ho : PE X e (o.t W)) (ha : PE X f (a.t W)) (hbase : attributeBase e "lstrip" X.env (eval e X.env) = eval e X.env := by rfl) (hline : (apos.endLine == cpos.line) = true := by rfl)
    (hs : starEach [f] X.env = (false, eval f X.env) :: starEach [] X.env := by rfl)
    (hfew : ((backTo cpos (starEach [f] X.env)).all (fun x => !x.1) && (backToKw cpos (keywordEach [] X.env)).all (fun x => x.1.isSome)
      && decide ([f].length + ([] : List Keyword).length + (if ([] : List Keyword).isEmpty then 0 else 1) < 30)) = true := by rfl) :
    PE X (.Call (.Attribute e "lstrip" apos) [f] [] cpos) ((bM mLstrip o (aCons a aNil)).t W) := r_m (m := mLstrip) PySem.F.plainAttrs_str PySem.F.slot_str_lstrip PySem.F.type_str_lstrip mt_lstripChars ho (a_cons ha a_nil hs) hbase hfew hline hs
end
end G
set_option Elab.async false
set_option linter.all false
set_option maxRecDepth 100000
set_option maxHeartbeats 2000000
/-! A walk over a text, also within an except suite. -/
namespace HotX
open PySem PySem.Spec PyProof.Rows
section
variable {prog : Program} {w : World} {A : Around} {E : Value → Shared → Prop} {s : Shared}
theorem pyNext_ascii_end_hot {it x1 : Addr} {x : Str} {t : Tok} {i : Nat} {Q : Option Value → Shared → Prop} (hot : HotAt A x1 s.heap) (hne : x1 ≠ it)
    (hit : s.heap.IsStrIter it "str_ascii_iterator" x t i) (hx : x.cps[i]? = none)
    (hQ : ∀ h', (∀ b o, b ≠ it → s.heap.get? b = some o → h'.get? b = some o) → Q none { s with heap := h' }) : wpAny (model prog w) A (pyNext (.ref it)) Q E s := by
  obtain ⟨hh, o1, vs1, h1, d1, c1⟩ := hot
  obtain ⟨o, ho, hc, hd⟩ := id hit
  unfold pyNext
  refine wpAny_bind (wpAny_attempt (wpAny_callSpecial?_slot (name := Str.ofString "__next__") hit.typeIs F.slot_str_ascii_iterator_next
    (wpAny_call_entry F.slot_str_ascii_iterator_next hit.typeIs F.entry_str_ascii_iterator_next ?_ (F.args_str_ascii_iterator_next_1 _))))
  show wpAny _ _ (field (.ref it) 0 >>= _) _ _ s
  refine wpAny_bind (wpAny_field ho hd (x := .str x t) rfl ?_)
  show wpAny _ _ (field (.ref it) 1 >>= _) _ _ s
  refine wpAny_bind (wpAny_field ho hd (x := .int i 0) rfl ?_)
  simp only [Int.toNat_natCast, hx]
  refine wpAny_bind (wpAny_rule (wpAny_bind (wpAny_setField ho hd (by simp) (wpAny_bind (wpAny_letGo ?_)))))
  show wpAny _ _ (newExc (.type "StopIteration") [] >>= _) _ _ _
  refine wpAny_bind ?_
  simp only [newExc, newTuple]
  refine wpAny_bind (wpAny_newObj_type ?_ (by size_fits))
  refine wpAny_bind (m := firstArgMember _ _) (wpAny_of_eq (a := Value.none) (by first | rfl | (simp only [firstArgMember]; rfl)) ?_)
  refine wpAny_newObj_type ?_ (by size_fits)
  have h1u : ∀ f, (s.heap.update it f).get? x1 = some o1 := fun f => by rw [Heap.get?_update_other _ _ (Ne.symm hne)]; exact h1
  refine raiseNew_hot ⟨hh, o1, vs1, Heap.get?_push_of_some _ (Heap.get?_push_of_some _ (h1u _)), d1, c1⟩ (Nat.ne_of_lt (Heap.lt_size (Heap.get?_push_of_some _ (h1u _)))) (Heap.get?_push_size _ rfl) rfl (by first | (simp; done) | (simp; omega) | (simp only [Array.size_append]; simp; omega)) ?_
  refine wpAny_bind (wpAny_isInstance (T := "StopIteration") (b := true) ⟨_, Heap.get?_update_self _ (Heap.get?_push_size _ rfl) rfl, rfl⟩ isSubtype_stop ?_)
  refine wpAny_pure (hQ _ fun b o hb e => ?_)
  have eu : ∀ f, (s.heap.update it f).get? b = some o := fun f => by rw [Heap.get?_update_other _ _ (Ne.symm hb)]; exact e
  rw [Heap.get?_update_other _ _ (Nat.ne_of_gt (Heap.lt_size (Heap.get?_push_of_some _ (eu _))))]
  exact Heap.get?_push_of_some _ (Heap.get?_push_of_some _ (eu _))
theorem pyNext_wide_end_hot {it x1 : Addr} {x : Str} {t : Tok} {i : Nat} {Q : Option Value → Shared → Prop} (hot : HotAt A x1 s.heap) (hne : x1 ≠ it)
    (hit : s.heap.IsStrIter it "str_iterator" x t i) (hx : x.cps[i]? = none)
    (hQ : ∀ h', (∀ b o, b ≠ it → s.heap.get? b = some o → h'.get? b = some o) → Q none { s with heap := h' }) : wpAny (model prog w) A (pyNext (.ref it)) Q E s := by
  obtain ⟨hh, o1, vs1, h1, d1, c1⟩ := hot
  obtain ⟨o, ho, hc, hd⟩ := id hit
  unfold pyNext
  refine wpAny_bind (wpAny_attempt (wpAny_callSpecial?_slot (name := Str.ofString "__next__") hit.typeIs F.slot_str_iterator_next
    (wpAny_call_entry F.slot_str_iterator_next hit.typeIs F.entry_str_iterator_next ?_ (F.args_str_iterator_next_1 _))))
  show wpAny _ _ (field (.ref it) 0 >>= _) _ _ s
  refine wpAny_bind (wpAny_field ho hd (x := .str x t) rfl ?_)
  show wpAny _ _ (field (.ref it) 1 >>= _) _ _ s
  refine wpAny_bind (wpAny_field ho hd (x := .int i 0) rfl ?_)
  simp only [Int.toNat_natCast, hx]
  refine wpAny_bind (wpAny_rule (wpAny_bind (wpAny_setField ho hd (by simp) (wpAny_bind (wpAny_letGo ?_)))))
  show wpAny _ _ (newExc (.type "StopIteration") [] >>= _) _ _ _
  refine wpAny_bind ?_
  simp only [newExc, newTuple]
  refine wpAny_bind (wpAny_newObj_type ?_ (by size_fits))
  refine wpAny_bind (m := firstArgMember _ _) (wpAny_of_eq (a := Value.none) (by first | rfl | (simp only [firstArgMember]; rfl)) ?_)
  refine wpAny_newObj_type ?_ (by size_fits)
  have h1u : ∀ f, (s.heap.update it f).get? x1 = some o1 := fun f => by rw [Heap.get?_update_other _ _ (Ne.symm hne)]; exact h1
  refine raiseNew_hot ⟨hh, o1, vs1, Heap.get?_push_of_some _ (Heap.get?_push_of_some _ (h1u _)), d1, c1⟩ (Nat.ne_of_lt (Heap.lt_size (Heap.get?_push_of_some _ (h1u _)))) (Heap.get?_push_size _ rfl) rfl (by first | (simp; done) | (simp; omega) | (simp only [Array.size_append]; simp; omega)) ?_
  refine wpAny_bind (wpAny_isInstance (T := "StopIteration") (b := true) ⟨_, Heap.get?_update_self _ (Heap.get?_push_size _ rfl) rfl, rfl⟩ isSubtype_stop ?_)
  refine wpAny_pure (hQ _ fun b o hb e => ?_)
  have eu : ∀ f, (s.heap.update it f).get? b = some o := fun f => by rw [Heap.get?_update_other _ _ (Ne.symm hb)]; exact e
  rw [Heap.get?_update_other _ _ (Nat.ne_of_gt (Heap.lt_size (Heap.get?_push_of_some _ (eu _))))]
  exact Heap.get?_push_of_some _ (Heap.get?_push_of_some _ (eu _))
end
end HotX
namespace L2
open PySem PySem.Spec PyProof.Rows HotX
open L2H (RoomH HotC Hot1 PinOk FnH cxH TurnH PIH PIEH)
theorem turn_strH {P : Program} {w : World} {K : PySem.W.Frag} {tg : Expr} (it : Addr) (x : Str) (t : Tok) (ty : String) (hty : ty = "str_ascii_iterator" ∨ ty = "str_iterator") :
    TurnH P w K tg (Its x) [it] it (fun i h => h.IsStrIter it ty x t i) where
  mem := by simp
  obj := fun i h st b hb => by
    have e : b = it := by simpa using hb
    subst e
    obtain ⟨o, e, c, d⟩ := st
    exact ⟨o, e, fun v z => by rw [d] at z; cases z⟩
  keep := fun i h h' st k => let ⟨o, ho, r⟩ := st; ⟨o, k it (by simp) o ho, r⟩
  item := by
    intro X hP hw hK hc i pins s σ H E I hf st hg
    subst hP hw hK
    obtain ⟨f0, f1, f2, f3, f4, f5⟩ := hf it (by simp)
    have hno : ["enumerate", "zip", "dict_itemiterator", "dict_reverseitemiterator", "odict_iterator", "itertools.zip_longest", "itertools.pairwise"].contains ty = false := by
      rcases hty with e | e
      · rw [e]; decide
      · rw [e]; decide
    have hx : x.cps[i]? = some x.cps[i] := Array.getElem?_eq_getElem hg
    have fin : ∀ h', h'.IsStrIter it ty x t (i + 1) → Heap.SameBut it s.heap h' → ∃ u, some (Value.str ⟨#[x.cps[i]]⟩ s.toks) = some u ∧
        wpAny (model X.prog X.w) X.A (letOwnedTupleGo tg (.ref it) u) (fun _ s2 => ∃ x' H', Inv X pins σ H' s2 ∧ RelV x' u ∧ (Its x).yld i H x' H' ∧ s2.heap.IsStrIter it ty x t (i + 1) ∧ ∀ b ∈ [it], H' b = none) E { s with heap := h', toks := s.toks + 1 } := fun h' st' sb => by
      have I1 : Inv X pins σ H { s with heap := h', toks := s.toks + 1 } := I.turned (fun b o hb e => (sb.2 b hb).trans e) f0 f1 f3 f4 f5
      obtain ⟨oi, e, cc, dd⟩ := id st'
      exact ⟨_, rfl, go_of (s := { s with heap := h', toks := s.toks + 1 }) e cc dd hno ⟨.str ⟨#[x.cps[i]]⟩, H, I1, ⟨_, rfl⟩, ⟨rfl, _, hx, rfl⟩, st', fun b hb => (hf b hb).1⟩⟩
    rcases hty with e | e
    · subst e
      exact wpAny_pyNext_ascii_item st hx fin
    · subst e
      exact wpAny_pyNext_wide_item st hx fin
  done := by
    intro X hP hw hK hc i pins s σ H E I hf st hg
    subst hP hw hK
    obtain ⟨f0, f1, f2, f3, f4, f5⟩ := hf it (by simp)
    obtain ⟨p, ⟨hh, v1, e1, c1⟩, hp⟩ := hc
    have hpin := I.pin p (List.mem_append_left _ hp)
    have hot : HotAt X.A p.1 s.heap := ⟨hh, p.2, v1, hpin.1, e1, c1⟩
    have hne : p.1 ≠ it := f5 p (List.mem_append_left _ hp)
    have hx : x.cps[i]? = none := Array.getElem?_eq_none hg
    rcases hty with e | e
    · subst e
      exact pyNext_ascii_end_hot hot hne st hx fun h' eb => ⟨rfl, I.turned (t' := s.toks) (fun b o hb e => eb b o hb e) f0 f1 f3 f4 f5⟩
    · subst e
      exact pyNext_wide_end_hot hot hne st hx fun h' eb => ⟨rfl, I.turned (t' := s.toks) (fun b o hb e => eb b o hb e) f0 f1 f3 f4 f5⟩
  self := fun A i s Q E st h => by
    rcases hty with e | e
    · rw [e] at st; exact wpAny_pyIter_striter_ascii st h
    · rw [e] at st; exact wpAny_pyIter_striter_wide st h
theorem pi_oneH {X : Cx} {tg : Expr} {pins : List (Addr × Obj)} {σ : St} {H : Hp} {s : Shared} {R : It → Hp → Prop} {J : It} {tn : Nat → Heap → Prop} {tk : Nat} (I : Inv X pins σ H s) (o : Obj)
    (T : TurnH X.prog X.w X.K tg J [s.heap.objs.size] s.heap.objs.size tn) (st : tn 0 (s.heap.push o)) (q : R J H) : PIEH X pins σ tg R (.ref s.heap.objs.size) { s with heap := s.heap.push o, toks := tk } := by
  refine ⟨s.heap.objs.size, [s.heap.objs.size], tn, J, H, rfl, I.kept fun b ob e => Heap.get?_push_of_some _ e, T, st, fun b hb => ?_, q⟩
  have e : b = s.heap.objs.size := by simpa using hb
  subst e
  exact I.fpOk (Nat.le_refl _) (I.hok.fresh (Nat.le_refl _))
theorem pi_strH {X : Cx} {tg e : Expr} {te : TE} (he : PE X e te) : PIH X tg e (iStr te) := by
  refine ⟨fun pins s σ H R I h => ?_⟩
  refine thn (he.run pins s σ H _ I h) fun v s1 ⟨y, H1, I1, r1, x, ex, q⟩ => ?_
  subst ex
  obtain ⟨t, rfl⟩ := r1
  cases ha : x.cps.all (· < 128)
  · exact wpAny_pyIter_wide ha (pi_oneH (tk := s1.toks) I1 _ (turn_strH _ x t "str_iterator" (.inr rfl)) ⟨_, Heap.get?_push_size _ rfl, rfl, rfl⟩ q)
  · exact wpAny_pyIter_ascii ha (pi_oneH (tk := s1.toks) I1 _ (turn_strH _ x t "str_ascii_iterator" (.inl rfl)) ⟨_, Heap.get?_push_size _ rfl, rfl, rfl⟩ q)
end L2
namespace G
open PySem PySem.Spec PyProof.Rows L2
open L2H (PIH)
section
variable {C : TC}
def dStrIt (d : D) (H : DH) (R : List D → (DH → Prop) → DH → Prop) : Prop := match d with
  | .str z => R (z.cps.toList.map fun c => D.str ⟨#[c]⟩) (fun _ => True) H
  | _ => False
/-- for x in a text -/
def jStr (a : TW C) : IW C := ⟨fun W => iStr (a.t W), fun σ H R E => a.w σ H (fun x H1 => dStrIt x H1 R) E, fun W Z HD H σD σ RD ED R s sl h k kx => a.ok W Z HD H σD σ _ ED _ s sl h (fun Z1 HD1 H1 d x st rx q => by
  unfold dStrIt at q
  split at q
  · exact ⟨_, rx, k _ _ _ _ _ _ st jok_str q⟩
  · exact q.elim) kx⟩
theorem w_jStr {a : TW C} {σ : DS} {H : DH} {R : List D → (DH → Prop) → DH → Prop} {E : DX1} : (jStr a).w σ H R E = a.w σ H (fun x H1 => dStrIt x H1 R) E := rfl
end
section
variable {X : Cx} {xi : Option Exc} {W : WX} {e f : Expr}
theorem i_str {a : TW ⟨X.K, xi⟩} (h : PE X e (a.t W)) : PI X f e ((jStr a).t W) := pi_str h
theorem i_strH {a : TW ⟨X.K, xi⟩} (h : PE X e (a.t W)) : PIH X f e ((jStr a).t W) := pi_strH h
end
end G
set_option Elab.async false
set_option linter.all false
set_option maxRecDepth 100000
set_option maxHeartbeats 2000000
/-! max of two ints, within an except suite. -/
namespace HotX
open PySem PySem.Spec PyProof.Rows
section
variable {prog : Program} {w : World} {A : Around} {E : Value → Shared → Prop} {s : Shared}
theorem pyNext_tuple_end_hot {it x1 tp : Addr} {i : Nat} {items : Array Value} {Q : Option Value → Shared → Prop} (hot : HotAt A x1 s.heap) (hne : x1 ≠ it)
    (hit : s.heap.IsTupleIter it tp i) (ht : s.heap.IsTuple tp items) (hx : items[i]? = none)
    (hQ : ∀ h', (∀ b o, b ≠ it → s.heap.get? b = some o → h'.get? b = some o) → Q none { s with heap := h' }) : wpAny (model prog w) A (pyNext (.ref it)) Q E s := by
  obtain ⟨hh, o1, vs1, h1, d1, c1⟩ := hot
  obtain ⟨o, ho, hc, hd⟩ := id hit
  obtain ⟨ol, hol, _, nl, hdl⟩ := ht
  unfold pyNext
  refine wpAny_bind (wpAny_attempt (wpAny_callSpecial?_slot (name := Str.ofString "__next__") hit.typeIs F.slot_tuple_iterator_next
    (wpAny_call_entry F.slot_tuple_iterator_next hit.typeIs F.entry_tuple_iterator_next ?_ (F.args_tuple_iterator_next_1 _))))
  show wpAny _ _ (field (.ref it) 0 >>= _) _ _ s
  refine wpAny_bind (wpAny_field ho hd (x := .ref tp) rfl ?_)
  show wpAny _ _ (if (Value.ref tp == Value.none) = true then _ else _) _ _ s
  rw [if_neg (show ¬ ((Value.ref tp == Value.none) = true) from Bool.false_ne_true)]
  show wpAny _ _ (field (.ref it) 1 >>= _) _ _ s
  refine wpAny_bind (wpAny_field ho hd (x := .int i 0) rfl ?_)
  show wpAny _ _ (seqItems? (.ref tp) >>= _) _ _ s
  refine wpAny_bind (wpAny_seqItems hol hdl ?_)
  simp only [Int.toNat_natCast, hx]
  refine wpAny_bind (wpAny_rule (wpAny_bind (wpAny_setField ho hd (by simp) ?_)))
  show wpAny _ _ (newExc (.type "StopIteration") [] >>= _) _ _ _
  refine wpAny_bind ?_
  simp only [newExc, newTuple]
  refine wpAny_bind (wpAny_newObj_type ?_ (by size_fits))
  refine wpAny_bind (m := firstArgMember _ _) (wpAny_of_eq (a := Value.none) (by first | rfl | (simp only [firstArgMember]; rfl)) ?_)
  refine wpAny_newObj_type ?_ (by size_fits)
  have h1u : ∀ f, (s.heap.update it f).get? x1 = some o1 := fun f => by rw [Heap.get?_update_other _ _ (Ne.symm hne)]; exact h1
  refine raiseNew_hot ⟨hh, o1, vs1, Heap.get?_push_of_some _ (Heap.get?_push_of_some _ (h1u _)), d1, c1⟩ (Nat.ne_of_lt (Heap.lt_size (Heap.get?_push_of_some _ (h1u _)))) (Heap.get?_push_size _ rfl) rfl (by first | (simp; done) | (simp; omega) | (simp only [Array.size_append]; simp; omega)) ?_
  refine wpAny_bind (wpAny_isInstance (T := "StopIteration") (b := true) ⟨_, Heap.get?_update_self _ (Heap.get?_push_size _ rfl) rfl, rfl⟩ isSubtype_stop ?_)
  refine wpAny_pure (hQ _ fun b o hb e => ?_)
  have eu : ∀ f, (s.heap.update it f).get? b = some o := fun f => by rw [Heap.get?_update_other _ _ (Ne.symm hb)]; exact e
  rw [Heap.get?_update_other _ _ (Nat.ne_of_gt (Heap.lt_size (Heap.get?_push_of_some _ (eu _))))]
  exact Heap.get?_push_of_some _ (Heap.get?_push_of_some _ (eu _))
theorem walks_tupleH {A : Around} {x1 : Addr} {o1 : Obj} {vs1 : Array Value} (hh : A.handled = some (.ref x1)) (d1 : o1.data = .fields vs1) (c1 : vs1[2]? = some .none) (I ax : Addr) (hne : ax ≠ I) (hx1 : x1 ≠ I) (items : Array Value) :
    Walks prog w A I [I, ax, x1] [I] items.size (fun i v => items[i]? = some v) (fun i h => (h.IsTupleIter I ax i ∧ h.IsTuple ax items) ∧ h.get? x1 = some o1) where
  sub := fun b hb => by simp at hb; simp [hb]
  frame := fun _ _ _ st hk => ⟨⟨st.1.1.at fun o e => hk I (by simp) o e, st.1.2.at fun o e => hk ax (by simp) o e⟩, hk x1 (by simp) _ st.2⟩
  item := fun i s Q E hi st hQ => by
    refine wpAny_pyNext_tuple_item st.1.1 st.1.2 (x := items[i]) (by simp [hi]) fun h' hit' hs' => ?_
    exact hQ _ h' s.toks (by simp [hi]) ⟨⟨hit', st.1.2.extBut hs'.extBut hne⟩, hs'.extBut x1 o1 hx1 st.2⟩ fun b o hb e => hs'.extBut b o (fun h => hb (by simp [h])) e
  done := fun s Q E st hQ => pyNext_tuple_end_hot ⟨hh, o1, vs1, st.2, d1, c1⟩ hx1 st.1.1 st.1.2 (by simp) fun h' he' => hQ h' s.toks fun b o hb e => he' b o (fun h => hb (by simp [h])) e
  self := fun _ _ _ _ st hQ => wpAny_pyIter_tupleiter st.1.1 hQ
theorem max_two_intsH {x1 : Addr} {a b : Int} {t u : Tok} {Q : Value → Shared → Prop} (hot : HotAt A x1 s.heap)
    (h : ∀ h' tk, (∀ c o, s.heap.get? c = some o → h'.get? c = some o) → Q (if b > a then .int b u else .int a t) { s with heap := h', toks := tk }) :
    wpAny (model prog w) A (call (.builtin "max") [.int a t, .int b u]) Q E s := by
  obtain ⟨hh, o1, vs1, h1, d1, c1⟩ := hot
  have hT : (s.heap.push { cls := .type "tuple", data := .seq #[.int a t, .int b u] }).IsTuple s.heap.objs.size (intItems #[(a, t), (b, u)]) := ⟨_, Heap.get?_push_size _ rfl, rfl, 0, by simp [intItems]⟩
  refine call_max_two (wpAny_pyIter_tuple hT ?_)
  have hsz : (s.heap.push { cls := .type "tuple", data := .seq #[.int a t, .int b u] }).objs.size = s.heap.objs.size + 1 := Heap.size_push ..
  have l1 := Heap.lt_size h1
  refine ⟨_, [_, s.heap.objs.size, x1], [_], _, _, _, _, rfl, walks_tupleH (A := A.in1) hh d1 c1 _ s.heap.objs.size (by rw [hsz]; exact Nat.ne_of_lt (Nat.lt_succ_self _)) (by rw [hsz]; exact Nat.ne_of_lt (Nat.lt_succ_of_lt l1)) (intItems #[(a, t), (b, u)]),
    ⟨⟨⟨_, Heap.get?_push_size _ rfl, rfl, rfl⟩, hT.push _⟩, Heap.get?_push_of_some _ (Heap.get?_push_of_some _ h1)⟩, fun c hc => ?_, by simp [intItems], CmpOf.ints_gt (numAt #[(a, t), (b, u)]) (fun _ _ => intItems_at), fun v h' tk hP hk => ?_⟩
  · show c < ((s.heap.push _).push _).objs.size
    rw [Heap.size_push, hsz]
    rcases List.mem_cons.mp hc with rfl | hc
    · rw [hsz]; exact Nat.lt_succ_self _
    · rcases List.mem_cons.mp hc with rfl | hc
      · exact Nat.lt_succ_of_lt (Nat.lt_succ_self _)
      · rcases List.mem_cons.mp hc with rfl | hc
        · exact Nat.lt_succ_of_lt (Nat.lt_succ_of_lt l1)
        · cases hc
  · have hold : ∀ c o, s.heap.get? c = some o → h'.get? c = some o := fun c o e => by
      refine hk c o (fun hm => ?_) (Heap.get?_push_of_some _ (Heap.get?_push_of_some _ e))
      rcases List.mem_cons.mp hm with e1 | hm
      · have := Heap.lt_size e; rw [e1, hsz] at this; exact Nat.lt_irrefl _ (Nat.lt_of_succ_lt this)
      · cases hm
    have := h h' tk hold
    have hv : v = if b > a then Value.int b u else Value.int a t := by
      have hP' : (intItems #[(a, t), (b, u)])[argBest (fun i j => decide (numAt #[(a, t), (b, u)] i > numAt #[(a, t), (b, u)] j)) 1]? = some v := by
        have hsz2 : (intItems #[(a, t), (b, u)]).size - 1 = 1 := by simp [intItems]
        rw [← hsz2]; exact hP
      by_cases hba : b > a
      · have e : argBest (fun i j => decide (numAt #[(a, t), (b, u)] i > numAt #[(a, t), (b, u)] j)) 1 = 1 := by simp [argBest, numAt, hba]
        rw [e] at hP'
        simpa [intItems, hba] using hP'.symm
      · have e : argBest (fun i j => decide (numAt #[(a, t), (b, u)] i > numAt #[(a, t), (b, u)] j)) 1 = 0 := by simp [argBest, numAt, hba]
        rw [e] at hP'
        simpa [intItems, hba] using hP'.symm
    rw [hv]; exact this
end
end HotX
namespace L2
open PySem PySem.Spec PyProof.Rows HotX
open L2H (HotC)
theorem call_max2H {X : Cx} (c : HotC X) : CallR X (.builtin "max") (fun xs H Q => ∃ i j, xs = [.int i, .int j] ∧ Q (.int (if j > i then j else i)) H) := by
  intro pins s σ H xs us Q I r h
  obtain ⟨i, j, rfl, q⟩ := h
  obtain ⟨u, w', rfl, ⟨t, rfl⟩, ⟨t', rfl⟩⟩ := vals2 r
  obtain ⟨x1, hot⟩ := c.at I
  refine max_two_intsH hot fun h' tk k => ⟨_, H, I.kept k, ?_, q⟩
  by_cases hj : j > i
  · rw [if_pos hj, if_pos hj]; exact ⟨_, rfl⟩
  · rw [if_neg hj, if_neg hj]; exact ⟨_, rfl⟩
end L2
set_option Elab.async false
set_option linter.all false
set_option maxRecDepth 100000
set_option maxHeartbeats 0
namespace G
open PySem PySem.Spec PyProof.Rows L2
structure Fc (P : Program) (K : PySem.W.Frag) (mg : Str → Option Value) : Prop where
  n_ValueError : mg "ValueError" = none
  n_abs : mg "abs" = none
  n_bool : mg "bool" = none
  n_int : mg "int" = none
  n_isinstance : mg "isinstance" = none
  n_len : mg "len" = none
  n_list : mg "list" = none
  n_max : mg "max" = none
  n_min : mg "min" = none
  n_range : mg "range" = none
  n_repr : mg "repr" = none
  n_reversed : mg "reversed" = none
  n_str : mg "str" = none
  n_super : mg "super" = none
  n_tuple : mg "tuple" = none
  a_is_figure : At K mg "is_figure" t_is_figure ["sign"]
  a_figures_end : At K mg "figures_end" t_figures_end ["text", "at"]
  a_are_figures : At K mg "are_figures" t_are_figures ["word"]
  a_number_of : At K mg "number_of" t_number_of ["word", "most"]
  a_atom_text : At K mg "atom_text" t_atom_text ["value"]
  a_text_of : At K mg "text_of" t_text_of ["value"]
  a_is_letter : At K mg "is_letter" t_is_letter ["sign"]
  a_string_at : At K mg "string_at" t_string_at ["text", "at"]
  a_number_at : At K mg "number_at" t_number_at ["text", "at"]
  a_atom_at : At K mg "atom_at" t_atom_at ["text", "at"]
  a_value_of : At K mg "value_of" t_value_of ["text"]
  a_told : At K mg "told" t_told ["value"]
  a_untold : At K mg "untold" t_untold ["text"]
  a__law_box : At K mg "_law_box" t__law_box ["script"]
  a__law_draw : At K mg "_law_draw" t__law_draw ["box", "limit"]
  a__law_same : At K mg "_law_same" t__law_same ["due", "got"]
  a__law_reads : At K mg "_law_reads" t__law_reads ["text"]
  a__law_text : At K mg "_law_text" t__law_text ["box"]
  a__law_bent : At K mg "_law_bent" t__law_bent ["box", "text"]
  a__law_right : At K mg "_law_right" t__law_right ["text"]
  a__law_all : At K mg "_law_all" t__law_all ["script"]
  a_law : At K mg "law" t_law ["script"]
  g_FIGURES : ∃ t, mg "FIGURES" = some (.str "0123456789" t)
  g_LETTERS : ∃ t, mg "LETTERS" = some (.str "abcdefghijklmnopqrstuvwxyz" t)
  g_QUOTE : ∃ t, mg "QUOTE" = some (.str "\"" t)
  g_NOTHING : ∃ t, mg "NOTHING" = some (.str "-" t)
  g_DEEPEST : ∃ t, mg "DEEPEST" = some (.int 60 t)
  g_MOST_FIGURES : ∃ t, mg "MOST_FIGURES" = some (.int 40 t)
  g_HallError : mg "HallError" = some (.ref (clsA K "HallError"))
  x_InvalidText : XCl P K mg "InvalidText" (defArgs t_InvalidText___init__) (defBody t_InvalidText___init__) (defScope t_InvalidText___init__) ["text", "at"]
  g_InvalidText : mg "InvalidText" = some (.ref (clsA K "InvalidText"))
  xs_InvalidText : XisC K (clsA K "InvalidText")
  ex__law_right_InvalidText : PySem.W.exmOne K (.ref (clsA K "InvalidText")) (.ref (clsA K "InvalidText")) = some true
  htop : (P.main.scope.names.lookup ("super" : Str)).isSome = false
theorem xt_InvalidText : X2T (defArgs t_InvalidText___init__) (defBody t_InvalidText___init__) (defScope t_InvalidText___init__) "text" "text" "at" "at" := ⟨⟨rfl, rfl, rfl, by decide +kernel, rfl, rfl, by decide +kernel⟩, ⟨_, _, _, _, _, _, _, _, _, _, _, _, _, _, _, _, rfl, rfl⟩, fun _ _ _ _ _ _ _ _ _ _ _ _ => rfl, rfl, by decide, by decide, by decide, by decide, by decide, by decide⟩
section
variable {P : Program} {w : World} {K : PySem.W.Frag} {mg : Str → Option Value} {base : Heap}
/-! is_figure: slots 0 sign -/
def b_is_figure (K : PySem.W.Frag) : SW (plainC K) := (sRet (bAndV (bOp opNe (bVar 0) (bStr "")) (bOp opInS (bVar 0) (bStr "0123456789"))))
theorem sc_is_figure : FnScope ["sign"] ["sign"] (defScope t_is_figure) := ⟨rfl, rfl, rfl, by decide +kernel, rfl, by decide +kernel, by decide +kernel⟩
theorem x_is_figure (G : Fc P K mg) (f : Addr) (cdv : Value) (A : Around) (outer : List Env) (s : Shared) (H : Hp) (E : XK) (c : CO (cxOf (L2N.CX P w) P w K mg base ["sign"] "is_figure" (defScope t_is_figure) f cdv A outer s H E) (fun c d _ H => E c d H) 0) :
    PSs (cxOf (L2N.CX P w) P w K mg base ["sign"] "is_figure" (defScope t_is_figure) f cdv A outer s H E) (defBody t_is_figure) ((b_is_figure K).t fun c d _ H => E c d H) := by
  obtain ⟨t_FIGURES, c_FIGURES⟩ := G.g_FIGURES
  exact (s_one (s_ret (r_and (r_cmp (op_neD c.room.units) (r_var 0) r_str (nomark _)) (r_one (r_cmp op_inS (r_var 0) (r_glob (v := .str "0123456789") c_FIGURES ⟨_, rfl⟩) (by with_unfolding_all rfl))))))
/-! figures_end: slots 0 text 1 at 2 end -/
def b_figures_end (K : PySem.W.Frag) (s_is_figure : DSp) : SW (plainC K) := (sSeq (sAsg (bVar 1) (gwName 2)) (sSeq (sWhile (bTru (bCall 1 s_is_figure (aCons (bSl true (bVar 0) (oSome (bVar 2)) (oSome (bOp (opAdd true) (bVar 2) (bInt 1)))) aNil))) (sAug 2 ipAddD (bInt 1))) (sRet (bVar 2))))
theorem sc_figures_end : FnScope ["text", "at", "end"] ["text", "at"] (defScope t_figures_end) := ⟨rfl, rfl, rfl, by decide +kernel, rfl, by decide +kernel, by decide +kernel⟩
theorem x_figures_end (G : Fc P K mg) {s_is_figure : DSp} (k_is_figure : Kn P w K mg base 1 "is_figure" t_is_figure ["sign"] s_is_figure) (f : Addr) (cdv : Value) (A : Around) (outer : List Env) (s : Shared) (H : Hp) (E : XK) (c : CO (cxOf (L2N.CX P w) P w K mg base ["text", "at", "end"] "figures_end" (defScope t_figures_end) f cdv A outer s H E) (fun c d _ H => E c d H) 1) :
    PSs (cxOf (L2N.CX P w) P w K mg base ["text", "at", "end"] "figures_end" (defScope t_figures_end) f cdv A outer s H E) (defBody t_figures_end) ((b_figures_end K s_is_figure).t fun c d _ H => E c d H) := by
  exact (s_cons (s_set c (r_var 1)) (s_cons (s_while c (t_tru (r_call c k_is_figure (a_cons (r_sl (r_var 0) (o_some (r_var 2)) (o_some (r_bin op_addA (r_var 2) r_int))) a_nil))) (s_one (s_aug c ip_addA r_int))) (s_one (s_ret (r_var 2)))))
/-! are_figures: slots 0 word -/
def b_are_figures (K : PySem.W.Frag) (s_figures_end : DSp) : SW (plainC K) := (sSeq (sIf (bOr (bTest (bOp opEq (bVar 0) (bStr ""))) (bTest (bOp opNe (bCall 2 s_figures_end (aCons (bVar 0) (aCons (bInt 0) aNil))) (bB fLen (aCons (bVar 0) aNil))))) (sRet (bBl false)) sNext) (sRet (bOrV (bOp opEq (bVar 0) (bStr "0")) (bOp opNe (bOp opIx (bVar 0) (bInt 0)) (bStr "0")))))
theorem sc_are_figures : FnScope ["word"] ["word"] (defScope t_are_figures) := ⟨rfl, rfl, rfl, by decide +kernel, rfl, by decide +kernel, by decide +kernel⟩
theorem x_are_figures (G : Fc P K mg) {s_figures_end : DSp} (k_figures_end : Kn P w K mg base 2 "figures_end" t_figures_end ["text", "at"] s_figures_end) (f : Addr) (cdv : Value) (A : Around) (outer : List Env) (s : Shared) (H : Hp) (E : XK) (c : CO (cxOf (L2N.CX P w) P w K mg base ["word"] "are_figures" (defScope t_are_figures) f cdv A outer s H E) (fun c d _ H => E c d H) 2) :
    PSs (cxOf (L2N.CX P w) P w K mg base ["word"] "are_figures" (defScope t_are_figures) f cdv A outer s H E) (defBody t_are_figures) ((b_are_figures K s_figures_end).t fun c d _ H => E c d H) := by
  exact (s_cons (s_if (PW.pt (t_or (t_cmp (op_eqD c.room.units) (r_var 0) r_str (nomark _)) (t_or1 (t_cmp (op_neD c.room.units) (r_call c k_figures_end (a_cons (r_var 0) (a_cons r_int a_nil))) (r_fn cr_len bo_len G.n_len (a_cons (r_var 0) a_nil)) (nomark _))))) (s_one (s_ret r_bl)) s_nil) (s_one (s_ret (r_or (r_cmp (op_eqD c.room.units) (r_var 0) r_str (nomark _)) (r_one (r_cmp (op_neD c.room.units) (r_ix c (r_var 0) r_int) r_str (nomark _)))))))
/-! number_of: slots 0 word 1 most -/
def b_number_of (K : PySem.W.Frag) (s_are_figures : DSp) : SW (plainC K) := (sSeq (sIf (bOr (bTest (bOp opGt (bB fLen (aCons (bVar 0) aNil)) (bVar 1))) (bNot (bTru (bCall 1 s_are_figures (aCons (bVar 0) aNil))))) (sRet bNon) sNext) (sRet (bB fIntS (aCons (bVar 0) aNil))))
theorem sc_number_of : FnScope ["word", "most"] ["word", "most"] (defScope t_number_of) := ⟨rfl, rfl, rfl, by decide +kernel, rfl, by decide +kernel, by decide +kernel⟩
theorem x_number_of (G : Fc P K mg) {s_are_figures : DSp} (k_are_figures : Kn P w K mg base 3 "are_figures" t_are_figures ["word"] s_are_figures) (f : Addr) (cdv : Value) (A : Around) (outer : List Env) (s : Shared) (H : Hp) (E : XK) (c : CO (cxOf (L2N.CX P w) P w K mg base ["word", "most"] "number_of" (defScope t_number_of) f cdv A outer s H E) (fun c d _ H => E c d H) 3) :
    PSs (cxOf (L2N.CX P w) P w K mg base ["word", "most"] "number_of" (defScope t_number_of) f cdv A outer s H E) (defBody t_number_of) ((b_number_of K s_are_figures).t fun c d _ H => E c d H) := by
  exact (s_cons (s_if (PW.pt (t_or (t_cmp op_gt (r_fn cr_len bo_len G.n_len (a_cons (r_var 0) a_nil)) (r_var 1) (nomark _)) (t_or1 (t_not (t_tru (r_call c k_are_figures (a_cons (r_var 0) a_nil))))))) (s_one (s_ret r_non)) s_nil) (s_one (s_ret (r_intS G.n_int (r_var 0)))))
/-! atom_text: slots 0 value -/
def b_atom_text (K : PySem.W.Frag) : SW (plainC K) := (sSeq (sIf (bTest (bOp (opIs false) (bVar 0) bNon)) (sRet (bStr "-")) sNext) (sSeq (sIf (bTru (bIsi (isiB .str) (bVar 0))) (sRet (bOp (opAdd true) (bOp (opAdd true) (bStr "\"") (bVar 0)) (bStr "\""))) sNext) (sRet (bB fStrI (aCons (bVar 0) aNil)))))
theorem sc_atom_text : FnScope ["value"] ["value"] (defScope t_atom_text) := ⟨rfl, rfl, rfl, by decide +kernel, rfl, by decide +kernel, by decide +kernel⟩
theorem x_atom_text (G : Fc P K mg) (f : Addr) (cdv : Value) (A : Around) (outer : List Env) (s : Shared) (H : Hp) (E : XK) (c : CO (cxOf (L2N.CX P w) P w K mg base ["value"] "atom_text" (defScope t_atom_text) f cdv A outer s H E) (fun c d _ H => E c d H) 0) :
    PSs (cxOf (L2N.CX P w) P w K mg base ["value"] "atom_text" (defScope t_atom_text) f cdv A outer s H E) (defBody t_atom_text) ((b_atom_text K).t fun c d _ H => E c d H) := by
  obtain ⟨t_NOTHING, c_NOTHING⟩ := G.g_NOTHING
  obtain ⟨t_QUOTE, c_QUOTE⟩ := G.g_QUOTE
  exact (s_cons (s_if (t_cmp op_isA (r_var 0) r_non (nomark _)) (s_one (s_ret (r_glob (v := .str "-") c_NOTHING ⟨_, rfl⟩))) s_nil) (s_cons (s_if (t_tru (r_isi G.n_isinstance (r_var 0) (r_tyn G.n_str bo_str))) (s_one (s_ret (r_bin op_addA (r_bin op_addA (r_glob (v := .str "\"") c_QUOTE ⟨_, rfl⟩) (r_var 0)) (r_glob (v := .str "\"") c_QUOTE ⟨_, rfl⟩)))) s_nil) (s_one (s_ret (r_strI G.n_str (r_var 0))))))
/-! text_of: slots 0 value 1 pieces 2 waiting 3 is_value 4 one 5 member -/
def b_text_of (K : PySem.W.Frag) (s_atom_text : DSp) : SW (plainC K) := (sSeq (sAsg (bLst false aNil) (gwName 1)) (sSeq (sAsg (bLst false (aCons (bTup (aCons (bBl true) (aCons (bVar 0) aNil))) aNil)) (gwName 2)) (sSeq (sWhile (bTru (bVar 2)) (sSeq (sAsg (bM0 mPop0 (bVar 2)) (gwTup 2 (gsCons (gwName 3) (gsCons (gwName 4) gsNil)))) (sIf (bNot (bTru (bVar 3))) (sDrop (bM mAppend (bVar 1) (aCons (bVar 4) aNil))) (sIf (bTru (bIsi (isiB .tup) (bVar 4))) (sSeq (sDrop (bM mAppend (bVar 1) (aCons (bStr "(") aNil))) (sSeq (sDrop (bM mAppend (bVar 2) (aCons (bTup (aCons (bBl false) (aCons (bStr ")") aNil))) aNil))) (sFor (jRev (bVar 4)) (gwName 5) (sSeq (sDrop (bM mAppend (bVar 2) (aCons (bTup (aCons (bBl false) (aCons (bStr ",") aNil))) aNil))) (sDrop (bM mAppend (bVar 2) (aCons (bTup (aCons (bBl true) (aCons (bVar 5) aNil))) aNil))))))) (sDrop (bM mAppend (bVar 1) (aCons (bCall 1 s_atom_text (aCons (bVar 4) aNil)) aNil))))))) (sRet (bM mJoin (bStr "") (aCons (bVar 1) aNil))))))
theorem sc_text_of : FnScope ["value", "pieces", "waiting", "is_value", "one", "member"] ["value"] (defScope t_text_of) := ⟨rfl, rfl, rfl, by decide +kernel, rfl, by decide +kernel, by decide +kernel⟩
theorem x_text_of (G : Fc P K mg) {s_atom_text : DSp} (k_atom_text : Kn P w K mg base 1 "atom_text" t_atom_text ["value"] s_atom_text) (f : Addr) (cdv : Value) (A : Around) (outer : List Env) (s : Shared) (H : Hp) (E : XK) (c : CO (cxOf (L2N.CX P w) P w K mg base ["value", "pieces", "waiting", "is_value", "one", "member"] "text_of" (defScope t_text_of) f cdv A outer s H E) (fun c d _ H => E c d H) 1) :
    PSs (cxOf (L2N.CX P w) P w K mg base ["value", "pieces", "waiting", "is_value", "one", "member"] "text_of" (defScope t_text_of) f cdv A outer s H E) (defBody t_text_of) ((b_text_of K s_atom_text).t fun c d _ H => E c d H) := by
  exact (s_cons (s_set c (r_lst a_nil)) (s_cons (s_set c (r_lst (a_cons (r_tup (a_cons r_bl (a_cons (r_var 0) a_nil))) a_nil))) (s_cons (s_while c (t_tru (r_var 2)) (s_cons (s_asg (m_pop0 (r_var 2)) (g_tup c (gs_cons (g_name c) (gs_cons (g_name c) gs_nil)))) (s_one (s_if (t_not (t_tru (r_var 3))) (s_one (s_drop (m_append (r_var 1) (r_var 4)))) (s_one (s_if (t_tru (r_isi G.n_isinstance (r_var 4) (r_tyn G.n_tuple bo_tuple))) (s_cons (s_drop (m_append (r_var 1) r_str)) (s_cons (s_drop (m_append (r_var 2) (r_tup (a_cons r_bl (a_cons r_str a_nil))))) (s_one (s_for c (i_rev G.n_reversed (r_var 4)) (g_name c) (s_cons (s_drop (m_append (r_var 2) (r_tup (a_cons r_bl (a_cons r_str a_nil))))) (s_one (s_drop (m_append (r_var 2) (r_tup (a_cons r_bl (a_cons (r_var 5) a_nil))))))))))) (s_one (s_drop (m_append (r_var 1) (r_call c k_atom_text (a_cons (r_var 4) a_nil))))))))))) (s_one (s_ret (m_join r_str (r_var 1)))))))
/-! is_letter: slots 0 sign -/
def b_is_letter (K : PySem.W.Frag) : SW (plainC K) := (sRet (bAndV (bOp opNe (bVar 0) (bStr "")) (bOp opInS (bVar 0) (bStr "abcdefghijklmnopqrstuvwxyz"))))
theorem sc_is_letter : FnScope ["sign"] ["sign"] (defScope t_is_letter) := ⟨rfl, rfl, rfl, by decide +kernel, rfl, by decide +kernel, by decide +kernel⟩
theorem x_is_letter (G : Fc P K mg) (f : Addr) (cdv : Value) (A : Around) (outer : List Env) (s : Shared) (H : Hp) (E : XK) (c : CO (cxOf (L2N.CX P w) P w K mg base ["sign"] "is_letter" (defScope t_is_letter) f cdv A outer s H E) (fun c d _ H => E c d H) 0) :
    PSs (cxOf (L2N.CX P w) P w K mg base ["sign"] "is_letter" (defScope t_is_letter) f cdv A outer s H E) (defBody t_is_letter) ((b_is_letter K).t fun c d _ H => E c d H) := by
  obtain ⟨t_LETTERS, c_LETTERS⟩ := G.g_LETTERS
  exact (s_one (s_ret (r_and (r_cmp (op_neD c.room.units) (r_var 0) r_str (nomark _)) (r_one (r_cmp op_inS (r_var 0) (r_glob (v := .str "abcdefghijklmnopqrstuvwxyz") c_LETTERS ⟨_, rfl⟩) (by with_unfolding_all rfl))))))
/-! string_at: slots 0 text 1 at 2 end -/
def b_string_at (K : PySem.W.Frag) (s_is_letter : DSp) : SW (plainC K) := (sSeq (sAsg (bVar 1) (gwName 2)) (sSeq (sWhile (bTru (bCall 1 s_is_letter (aCons (bSl true (bVar 0) (oSome (bVar 2)) (oSome (bOp (opAdd true) (bVar 2) (bInt 1)))) aNil))) (sAug 2 ipAddD (bInt 1))) (sSeq (sIf (bTest (bOp opNe (bSl true (bVar 0) (oSome (bVar 2)) (oSome (bOp (opAdd true) (bVar 2) (bInt 1)))) (bStr "\""))) (sRaise "InvalidText" ["text", "at"] (aCons (bVar 0) (aCons (bVar 2) aNil))) sNext) (sRet (bTup (aCons (bSl true (bVar 0) (oSome (bVar 1)) (oSome (bVar 2))) (aCons (bOp (opAdd true) (bVar 2) (bInt 1)) aNil)))))))
theorem sc_string_at : FnScope ["text", "at", "end"] ["text", "at"] (defScope t_string_at) := ⟨rfl, rfl, rfl, by decide +kernel, rfl, by decide +kernel, by decide +kernel⟩
theorem x_string_at (G : Fc P K mg) {s_is_letter : DSp} (k_is_letter : Kn P w K mg base 1 "is_letter" t_is_letter ["sign"] s_is_letter) (f : Addr) (cdv : Value) (A : Around) (outer : List Env) (s : Shared) (H : Hp) (E : XK) (c : CO (cxOf (L2N.CX P w) P w K mg base ["text", "at", "end"] "string_at" (defScope t_string_at) f cdv A outer s H E) (fun c d _ H => E c d H) 1) :
    PSs (cxOf (L2N.CX P w) P w K mg base ["text", "at", "end"] "string_at" (defScope t_string_at) f cdv A outer s H E) (defBody t_string_at) ((b_string_at K s_is_letter).t fun c d _ H => E c d H) := by
  obtain ⟨t_QUOTE, c_QUOTE⟩ := G.g_QUOTE
  exact (s_cons (s_set c (r_var 1)) (s_cons (s_while c (t_tru (r_call c k_is_letter (a_cons (r_sl (r_var 0) (o_some (r_var 2)) (o_some (r_bin op_addA (r_var 2) r_int))) a_nil))) (s_one (s_aug c ip_addA r_int))) (s_cons (s_if (t_cmp (op_neD c.room.units) (r_sl (r_var 0) (o_some (r_var 2)) (o_some (r_bin op_addA (r_var 2) r_int))) (r_glob (v := .str "\"") c_QUOTE ⟨_, rfl⟩) (nomark _)) (s_one (s_raise2 c G.x_InvalidText xt_InvalidText G.n_super G.htop (a_cons (r_var 0) (a_cons (r_var 2) a_nil)))) s_nil) (s_one (s_ret (r_tup (a_cons (r_sl (r_var 0) (o_some (r_var 1)) (o_some (r_var 2))) (a_cons (r_bin op_addA (r_var 2) r_int) a_nil))))))))
/-! number_at: slots 0 text 1 at 2 end 3 number -/
def b_number_at (K : PySem.W.Frag) (s_figures_end : DSp) (s_number_of : DSp) : SW (plainC K) := (sSeq (sAsg (bCall 2 s_figures_end (aCons (bVar 0) (aCons (bVar 1) aNil))) (gwName 2)) (sSeq (sAsg (bCall 2 s_number_of (aCons (bSl true (bVar 0) (oSome (bVar 1)) (oSome (bVar 2))) (aCons (bInt 40) aNil))) (gwName 3)) (sSeq (sIf (bTest (bOp (opIs false) (bVar 3) bNon)) (sRaise "InvalidText" ["text", "at"] (aCons (bVar 0) (aCons (bVar 1) aNil))) sNext) (sRet (bTup (aCons (bVar 3) (aCons (bVar 2) aNil)))))))
theorem sc_number_at : FnScope ["text", "at", "end", "number"] ["text", "at"] (defScope t_number_at) := ⟨rfl, rfl, rfl, by decide +kernel, rfl, by decide +kernel, by decide +kernel⟩
theorem x_number_at (G : Fc P K mg) {s_figures_end : DSp} {s_number_of : DSp} (k_figures_end : Kn P w K mg base 2 "figures_end" t_figures_end ["text", "at"] s_figures_end) (k_number_of : Kn P w K mg base 4 "number_of" t_number_of ["word", "most"] s_number_of) (f : Addr) (cdv : Value) (A : Around) (outer : List Env) (s : Shared) (H : Hp) (E : XK) (c : CO (cxOf (L2N.CX P w) P w K mg base ["text", "at", "end", "number"] "number_at" (defScope t_number_at) f cdv A outer s H E) (fun c d _ H => E c d H) 4) :
    PSs (cxOf (L2N.CX P w) P w K mg base ["text", "at", "end", "number"] "number_at" (defScope t_number_at) f cdv A outer s H E) (defBody t_number_at) ((b_number_at K s_figures_end s_number_of).t fun c d _ H => E c d H) := by
  obtain ⟨t_MOST_FIGURES, c_MOST_FIGURES⟩ := G.g_MOST_FIGURES
  exact (s_cons (s_set c (r_call c k_figures_end (a_cons (r_var 0) (a_cons (r_var 1) a_nil)))) (s_cons (s_set c (r_call c k_number_of (a_cons (r_sl (r_var 0) (o_some (r_var 1)) (o_some (r_var 2))) (a_cons (r_glob (v := .int 40) c_MOST_FIGURES ⟨_, rfl⟩) a_nil)))) (s_cons (s_if (t_cmp op_isA (r_var 3) r_non (nomark _)) (s_one (s_raise2 c G.x_InvalidText xt_InvalidText G.n_super G.htop (a_cons (r_var 0) (a_cons (r_var 1) a_nil)))) s_nil) (s_one (s_ret (r_tup (a_cons (r_var 3) (a_cons (r_var 2) a_nil))))))))
/-! atom_at: slots 0 text 1 at 2 sign -/
def b_atom_at (K : PySem.W.Frag) (s_string_at : DSp) (s_is_figure : DSp) (s_number_at : DSp) : SW (plainC K) := (sSeq (sAsg (bSl true (bVar 0) (oSome (bVar 1)) (oSome (bOp (opAdd true) (bVar 1) (bInt 1)))) (gwName 2)) (sSeq (sIf (bTest (bOp opEq (bVar 2) (bStr "-"))) (sRet (bTup (aCons bNon (aCons (bOp (opAdd true) (bVar 1) (bInt 1)) aNil)))) sNext) (sSeq (sIf (bTest (bOp opEq (bVar 2) (bStr "\""))) (sRet (bCall 2 s_string_at (aCons (bVar 0) (aCons (bOp (opAdd true) (bVar 1) (bInt 1)) aNil)))) sNext) (sSeq (sIf (bTru (bCall 1 s_is_figure (aCons (bVar 2) aNil))) (sRet (bCall 2 s_number_at (aCons (bVar 0) (aCons (bVar 1) aNil)))) sNext) (sRaise "InvalidText" ["text", "at"] (aCons (bVar 0) (aCons (bVar 1) aNil)))))))
theorem sc_atom_at : FnScope ["text", "at", "sign"] ["text", "at"] (defScope t_atom_at) := ⟨rfl, rfl, rfl, by decide +kernel, rfl, by decide +kernel, by decide +kernel⟩
theorem x_atom_at (G : Fc P K mg) {s_string_at : DSp} {s_is_figure : DSp} {s_number_at : DSp} (k_string_at : Kn P w K mg base 2 "string_at" t_string_at ["text", "at"] s_string_at) (k_is_figure : Kn P w K mg base 1 "is_figure" t_is_figure ["sign"] s_is_figure) (k_number_at : Kn P w K mg base 5 "number_at" t_number_at ["text", "at"] s_number_at) (f : Addr) (cdv : Value) (A : Around) (outer : List Env) (s : Shared) (H : Hp) (E : XK) (c : CO (cxOf (L2N.CX P w) P w K mg base ["text", "at", "sign"] "atom_at" (defScope t_atom_at) f cdv A outer s H E) (fun c d _ H => E c d H) 5) :
    PSs (cxOf (L2N.CX P w) P w K mg base ["text", "at", "sign"] "atom_at" (defScope t_atom_at) f cdv A outer s H E) (defBody t_atom_at) ((b_atom_at K s_string_at s_is_figure s_number_at).t fun c d _ H => E c d H) := by
  obtain ⟨t_NOTHING, c_NOTHING⟩ := G.g_NOTHING
  obtain ⟨t_QUOTE, c_QUOTE⟩ := G.g_QUOTE
  exact (s_cons (s_set c (r_sl (r_var 0) (o_some (r_var 1)) (o_some (r_bin op_addA (r_var 1) r_int)))) (s_cons (s_if (t_cmp (op_eqD c.room.units) (r_var 2) (r_glob (v := .str "-") c_NOTHING ⟨_, rfl⟩) (nomark _)) (s_one (s_ret (r_tup (a_cons r_non (a_cons (r_bin op_addA (r_var 1) r_int) a_nil))))) s_nil) (s_cons (s_if (t_cmp (op_eqD c.room.units) (r_var 2) (r_glob (v := .str "\"") c_QUOTE ⟨_, rfl⟩) (nomark _)) (s_one (s_ret (r_call c k_string_at (a_cons (r_var 0) (a_cons (r_bin op_addA (r_var 1) r_int) a_nil))))) s_nil) (s_cons (s_if (t_tru (r_call c k_is_figure (a_cons (r_var 2) a_nil))) (s_one (s_ret (r_call c k_number_at (a_cons (r_var 0) (a_cons (r_var 1) a_nil))))) s_nil) (s_one (s_raise2 c G.x_InvalidText xt_InvalidText G.n_super G.htop (a_cons (r_var 0) (a_cons (r_var 1) a_nil))))))))
/-! value_of: slots 0 text 1 rows 2 at 3 sign 4 value -/
def b_value_of (K : PySem.W.Frag) (s_atom_at : DSp) : SW (plainC K) := (sSeq (sAsg (bLst false aNil) (gwName 1)) (sSeq (sAsg (bInt 0) (gwName 2)) (sSeq (sWhile (bTru (bBl true)) (sSeq (sAsg (bSl true (bVar 0) (oSome (bVar 2)) (oSome (bOp (opAdd true) (bVar 2) (bInt 1)))) (gwName 3)) (sSeq (sIf (bTest (bOp opEq (bVar 3) (bStr "("))) (sSeq (sIf (bTest (bOp opEq (bB fLen (aCons (bVar 1) aNil)) (bInt 60))) (sRaise "InvalidText" ["text", "at"] (aCons (bVar 0) (aCons (bVar 2) aNil))) sNext) (sSeq (sDrop (bM mAppend (bVar 1) (aCons (bLst false aNil) aNil))) (sSeq (sAug 2 ipAddD (bInt 1)) sCnt))) sNext) (sSeq (sIf (bAnd (bTest (bOp opEq (bVar 3) (bStr ")"))) (bTru (bVar 1))) (sSeq (sAsg (bB fTuple (aCons (bM0 mPop0 (bVar 1)) aNil)) (gwName 4)) (sAug 2 ipAddD (bInt 1))) (sAsg (bCall 2 s_atom_at (aCons (bVar 0) (aCons (bVar 2) aNil))) (gwTup 2 (gsCons (gwName 4) (gsCons (gwName 2) gsNil))))) (sSeq (sIf (bNot (bTru (bVar 1))) sBrk sNext) (sSeq (sIf (bTest (bOp opNe (bSl true (bVar 0) (oSome (bVar 2)) (oSome (bOp (opAdd true) (bVar 2) (bInt 1)))) (bStr ","))) (sRaise "InvalidText" ["text", "at"] (aCons (bVar 0) (aCons (bVar 2) aNil))) sNext) (sSeq (sDrop (bM mAppend (bOp opIx (bVar 1) (bNeg (bInt 1))) (aCons (bVar 4) aNil))) (sAug 2 ipAddD (bInt 1))))))))) (sSeq (sIf (bTest (bOp opNe (bVar 2) (bB fLen (aCons (bVar 0) aNil)))) (sRaise "InvalidText" ["text", "at"] (aCons (bVar 0) (aCons (bVar 2) aNil))) sNext) (sRet (bVar 4))))))
theorem sc_value_of : FnScope ["text", "rows", "at", "sign", "value"] ["text"] (defScope t_value_of) := ⟨rfl, rfl, rfl, by decide +kernel, rfl, by decide +kernel, by decide +kernel⟩
theorem x_value_of (G : Fc P K mg) {s_atom_at : DSp} (k_atom_at : Kn P w K mg base 6 "atom_at" t_atom_at ["text", "at"] s_atom_at) (f : Addr) (cdv : Value) (A : Around) (outer : List Env) (s : Shared) (H : Hp) (E : XK) (c : CO (cxOf (L2N.CX P w) P w K mg base ["text", "rows", "at", "sign", "value"] "value_of" (defScope t_value_of) f cdv A outer s H E) (fun c d _ H => E c d H) 6) :
    PSs (cxOf (L2N.CX P w) P w K mg base ["text", "rows", "at", "sign", "value"] "value_of" (defScope t_value_of) f cdv A outer s H E) (defBody t_value_of) ((b_value_of K s_atom_at).t fun c d _ H => E c d H) := by
  obtain ⟨t_DEEPEST, c_DEEPEST⟩ := G.g_DEEPEST
  exact (s_cons (s_set c (r_lst a_nil)) (s_cons (s_set c r_int) (s_cons (s_while c (t_tru r_bl) (s_cons (s_set c (r_sl (r_var 0) (o_some (r_var 2)) (o_some (r_bin op_addA (r_var 2) r_int)))) (s_cons (s_if (t_cmp (op_eqD c.room.units) (r_var 3) r_str (nomark _)) (s_cons (s_if (t_cmp (op_eqD c.room.units) (r_fn cr_len bo_len G.n_len (a_cons (r_var 1) a_nil)) (r_glob (v := .int 60) c_DEEPEST ⟨_, rfl⟩) (nomark _)) (s_one (s_raise2 c G.x_InvalidText xt_InvalidText G.n_super G.htop (a_cons (r_var 0) (a_cons (r_var 2) a_nil)))) s_nil) (s_cons (s_drop (m_append (r_var 1) (r_lst a_nil))) (s_cons (s_aug c ip_addA r_int) (s_one s_cnt)))) s_nil) (s_cons (s_if (PW.pt (t_and (t_cmp (op_eqD c.room.units) (r_var 3) r_str (nomark _)) (t_and1 (t_tru (r_var 1))))) (s_cons (s_set c (r_ty call_tuple_of bo_tuple G.n_tuple (a_cons (m_pop0 (r_var 1)) a_nil))) (s_one (s_aug c ip_addA r_int))) (s_one (s_asg (r_call c k_atom_at (a_cons (r_var 0) (a_cons (r_var 2) a_nil))) (g_tup c (gs_cons (g_name c) (gs_cons (g_name c) gs_nil)))))) (s_cons (s_if (t_not (t_tru (r_var 1))) (s_one s_brk) s_nil) (s_cons (s_if (t_cmp (op_neD c.room.units) (r_sl (r_var 0) (o_some (r_var 2)) (o_some (r_bin op_addA (r_var 2) r_int))) r_str (nomark _)) (s_one (s_raise2 c G.x_InvalidText xt_InvalidText G.n_super G.htop (a_cons (r_var 0) (a_cons (r_var 2) a_nil)))) s_nil) (s_cons (s_drop (m_append (r_ix c (r_var 1) (r_neg r_int)) (r_var 4))) (s_one (s_aug c ip_addA r_int))))))))) (s_cons (s_if (t_cmp (op_neD c.room.units) (r_var 2) (r_fn cr_len bo_len G.n_len (a_cons (r_var 0) a_nil)) (nomark _)) (s_one (s_raise2 c G.x_InvalidText xt_InvalidText G.n_super G.htop (a_cons (r_var 0) (a_cons (r_var 2) a_nil)))) s_nil) (s_one (s_ret (r_var 4)))))))
/-! told: slots 0 value -/
def b_told (K : PySem.W.Frag) (s_text_of : DSp) : SW (plainC K) := (sRet (bCall 1 s_text_of (aCons (bVar 0) aNil)))
theorem sc_told : FnScope ["value"] ["value"] (defScope t_told) := ⟨rfl, rfl, rfl, by decide +kernel, rfl, by decide +kernel, by decide +kernel⟩
theorem x_told (G : Fc P K mg) {s_text_of : DSp} (k_text_of : Kn P w K mg base 2 "text_of" t_text_of ["value"] s_text_of) (f : Addr) (cdv : Value) (A : Around) (outer : List Env) (s : Shared) (H : Hp) (E : XK) (c : CO (cxOf (L2N.CX P w) P w K mg base ["value"] "told" (defScope t_told) f cdv A outer s H E) (fun c d _ H => E c d H) 2) :
    PSs (cxOf (L2N.CX P w) P w K mg base ["value"] "told" (defScope t_told) f cdv A outer s H E) (defBody t_told) ((b_told K s_text_of).t fun c d _ H => E c d H) := by
  exact (s_one (s_ret (r_call c k_text_of (a_cons (r_var 0) a_nil))))
/-! untold: slots 0 text -/
def b_untold (K : PySem.W.Frag) (s_value_of : DSp) : SW (plainC K) := (sRet (bCall 1 s_value_of (aCons (bVar 0) aNil)))
theorem sc_untold : FnScope ["text"] ["text"] (defScope t_untold) := ⟨rfl, rfl, rfl, by decide +kernel, rfl, by decide +kernel, by decide +kernel⟩
theorem x_untold (G : Fc P K mg) {s_value_of : DSp} (k_value_of : Kn P w K mg base 7 "value_of" t_value_of ["text"] s_value_of) (f : Addr) (cdv : Value) (A : Around) (outer : List Env) (s : Shared) (H : Hp) (E : XK) (c : CO (cxOf (L2N.CX P w) P w K mg base ["text"] "untold" (defScope t_untold) f cdv A outer s H E) (fun c d _ H => E c d H) 7) :
    PSs (cxOf (L2N.CX P w) P w K mg base ["text"] "untold" (defScope t_untold) f cdv A outer s H E) (defBody t_untold) ((b_untold K s_value_of).t fun c d _ H => E c d H) := by
  exact (s_one (s_ret (r_call c k_value_of (a_cons (r_var 0) a_nil))))
/-! _law_box: slots 0 script 1 cells 2 cell 3 great -/
def b__law_box (K : PySem.W.Frag) : SW (plainC K) := (sSeq (sAsg (bLc true [2] (jAny (bSl true (bVar 0) oNone (oSome (bInt 63)))) (gvName 2) bYes (bB fAbs (aCons (bB fInt (aCons (bVar 2) aNil)) aNil))) (gwName 1)) (sSeq (sAsg (bLc true [2] (jAny (bVar 1)) (gvName 2) (bTest (bOp opGe (bVar 2) (bOp (opPow) (bInt 10) (bInt 18)))) (bVar 2)) (gwName 3)) (sRet (bLst false (aCons (bListRev false (bVar 3)) (aCons (bOp (opAdd true) (bLc true [2] (jAny (bVar 1)) (gvName 2) bYes (bOp (opMod) (bB fInt (aCons (bVar 2) aNil)) (bInt 1000000007))) (bLst true (aCons (bInt 7) aNil))) (aCons (bInt 0) aNil)))))))
theorem sc__law_box : FnScope ["script", "cells", "cell", "great"] ["script"] (defScope t__law_box) := ⟨rfl, rfl, rfl, by decide +kernel, rfl, by decide +kernel, by decide +kernel⟩
theorem x__law_box (G : Fc P K mg) (f : Addr) (cdv : Value) (A : Around) (outer : List Env) (s : Shared) (H : Hp) (E : XK) (c : CO (cxOf (L2N.CX P w) P w K mg base ["script", "cells", "cell", "great"] "_law_box" (defScope t__law_box) f cdv A outer s H E) (fun c d _ H => E c d H) 0) :
    PSs (cxOf (L2N.CX P w) P w K mg base ["script", "cells", "cell", "great"] "_law_box" (defScope t__law_box) f cdv A outer s H E) (defBody t__law_box) ((b__law_box K).t fun c d _ H => E c d H) := by
  exact (s_cons (s_lc c [("cell", 2)] rfl (by rfl) (i_any (r_sl (r_var 0) o_none (o_some r_int))) (fun _ _ _ _ _ => g_nm c.nd) (fun _ _ _ _ _ c => v_yes) (fun _ _ _ _ _ c => (r_fn call_abs bo_abs G.n_abs (a_cons (r_ty call_int1 bo_int G.n_int (a_cons (r_var 2) a_nil)) a_nil)))) (s_cons (s_lc c [("cell", 2)] rfl (by rfl) (i_any (r_var 1)) (fun _ _ _ _ _ => g_nm c.nd) (fun _ _ _ _ _ c => v_one (t_cmp op_ge (r_var 2) (r_bin op_pow r_int r_int) (nomark _))) (fun _ _ _ _ _ c => (r_var 2))) (s_one (s_ret (r_lst (a_cons (r_listRev c G.n_list G.n_reversed (r_var 3)) (a_cons (r_bin op_addA (r_lc c [("cell", 2)] rfl (by rfl) (i_any (r_var 1)) (fun _ _ _ _ _ => g_nm c.nd) (fun _ _ _ _ _ c => v_yes) (fun _ _ _ _ _ c => (r_bin op_mod (r_ty call_int1 bo_int G.n_int (a_cons (r_var 2) a_nil)) r_int))) (r_lst (a_cons r_int a_nil))) (a_cons r_int a_nil))))))))
/-! _law_draw: slots 0 box 1 limit 2 great 3 digit 4 cell 5 mixed -/
def b__law_draw (K : PySem.W.Frag) : SW (plainC K) := (sSeq (sAsg (bOp opIx (bVar 0) (bInt 0)) (gwName 2)) (sSeq (sAsg (bOp (opAdd true) (bOp opIx (bVar 0) (bInt 2)) (bInt 1)) (gwSub (bVar 0) (bInt 2))) (sSeq (sWhile (bAnd (bTest (bOp opGt (bB fLen (aCons (bVar 2) aNil)) (bInt 0))) (bTest (bOp opEq (bOp opIx (bVar 2) (bNeg (bInt 1))) (bInt 0)))) (sDrop (bM0 mPop0 (bVar 2)))) (sSeq (sIf (bTest (bOp opGt (bB fLen (aCons (bVar 2) aNil)) (bInt 0))) (sSeq (sAsg (bOp (opMod) (bB fInt (aCons (bOp opIx (bVar 2) (bNeg (bInt 1))) aNil)) (bVar 1)) (gwName 3)) (sSeq (sAsg (bOp (opFdiv) (bOp opIx (bVar 2) (bNeg (bInt 1))) (bVar 1)) (gwSub (bVar 2) (bNeg (bInt 1)))) (sRet (bVar 3)))) sNext) (sSeq (sAsg (bOp opIx (bOp opIx (bVar 0) (bInt 1)) (bOp (opMod) (bB fInt (aCons (bOp opIx (bVar 0) (bInt 2)) aNil)) (bB fLen (aCons (bOp opIx (bVar 0) (bInt 1)) aNil)))) (gwName 4)) (sSeq (sAsg (bOp (opMod) (bB fInt (aCons (bOp (opAdd true) (bOp (opAdd true) (bOp (opMul true) (bVar 4) (bInt 40692)) (bOp (opMul true) (bOp opIx (bVar 0) (bInt 2)) (bInt 52774))) (bInt 3791)) aNil)) (bInt 2147483399)) (gwName 5)) (sSeq (sAsg (bOp (opMod) (bB fInt (aCons (bOp (opAdd true) (bOp (opAdd true) (bOp (opMul true) (bVar 5) (bVar 5)) (bOp (opMul true) (bOp opIx (bVar 0) (bInt 2)) (bInt 9973))) (bOp (opFdiv) (bVar 4) (bInt 11))) aNil)) (bInt 1999993)) (gwName 5)) (sSeq (sAsg (bOp (opMod) (bB fInt (aCons (bOp (opAdd true) (bOp (opAdd true) (bOp (opMul true) (bOp (opMul true) (bVar 5) (bVar 5)) (bInt 39373)) (bVar 4)) (bInt 101)) aNil)) (bInt 999999937)) (gwName 5)) (sRet (bOp (opMod) (bB fInt (aCons (bOp (opFdiv) (bVar 5) (bInt 7)) aNil)) (bVar 1)))))))))))
theorem sc__law_draw : FnScope ["box", "limit", "great", "digit", "cell", "mixed"] ["box", "limit"] (defScope t__law_draw) := ⟨rfl, rfl, rfl, by decide +kernel, rfl, by decide +kernel, by decide +kernel⟩
theorem x__law_draw (G : Fc P K mg) (f : Addr) (cdv : Value) (A : Around) (outer : List Env) (s : Shared) (H : Hp) (E : XK) (c : CO (cxOf (L2N.CX P w) P w K mg base ["box", "limit", "great", "digit", "cell", "mixed"] "_law_draw" (defScope t__law_draw) f cdv A outer s H E) (fun c d _ H => E c d H) 0) :
    PSs (cxOf (L2N.CX P w) P w K mg base ["box", "limit", "great", "digit", "cell", "mixed"] "_law_draw" (defScope t__law_draw) f cdv A outer s H E) (defBody t__law_draw) ((b__law_draw K).t fun c d _ H => E c d H) := by
  exact (s_cons (s_set c (r_ix c (r_var 0) r_int)) (s_cons (s_asg (r_bin op_addA (r_ix c (r_var 0) r_int) r_int) (g_sub c (r_var 0) r_int)) (s_cons (s_while c (PW.pt (t_and (t_cmp op_gt (r_fn cr_len bo_len G.n_len (a_cons (r_var 2) a_nil)) r_int (nomark _)) (t_and1 (t_cmp (op_eqD c.room.units) (r_ix c (r_var 2) (r_neg r_int)) r_int (nomark _))))) (s_one (s_drop (m_pop0 (r_var 2))))) (s_cons (s_if (t_cmp op_gt (r_fn cr_len bo_len G.n_len (a_cons (r_var 2) a_nil)) r_int (nomark _)) (s_cons (s_set c (r_bin op_mod (r_ty call_int1 bo_int G.n_int (a_cons (r_ix c (r_var 2) (r_neg r_int)) a_nil)) (r_var 1))) (s_cons (s_asg (r_bin op_fdivW (r_ix c (r_var 2) (r_neg r_int)) (r_var 1)) (g_sub c (r_var 2) (r_neg r_int))) (s_one (s_ret (r_var 3))))) s_nil) (s_cons (s_set c (r_ix c (r_ix c (r_var 0) r_int) (r_bin op_mod (r_ty call_int1 bo_int G.n_int (a_cons (r_ix c (r_var 0) r_int) a_nil)) (r_fn cr_len bo_len G.n_len (a_cons (r_ix c (r_var 0) r_int) a_nil))))) (s_cons (s_set c (r_bin op_mod (r_ty call_int1 bo_int G.n_int (a_cons (r_bin op_addA (r_bin op_addA (r_bin op_mulA (r_var 4) r_int) (r_bin op_mulA (r_ix c (r_var 0) r_int) r_int)) r_int) a_nil)) r_int)) (s_cons (s_set c (r_bin op_mod (r_ty call_int1 bo_int G.n_int (a_cons (r_bin op_addA (r_bin op_addA (r_bin op_mulA (r_var 5) (r_var 5)) (r_bin op_mulA (r_ix c (r_var 0) r_int) r_int)) (r_bin op_fdivW (r_var 4) r_int)) a_nil)) r_int)) (s_cons (s_set c (r_bin op_mod (r_ty call_int1 bo_int G.n_int (a_cons (r_bin op_addA (r_bin op_addA (r_bin op_mulA (r_bin op_mulA (r_var 5) (r_var 5)) r_int) (r_var 4)) r_int) a_nil)) r_int)) (s_one (s_ret (r_bin op_mod (r_ty call_int1 bo_int G.n_int (a_cons (r_bin op_fdivW (r_var 5) r_int) a_nil)) (r_var 1))))))))))))
/-! _law_same: slots 0 due 1 got -/
def b__law_same (K : PySem.W.Frag) : SW (plainC K) := (sRet (bAndV (bOp opEq (bVar 0) (bVar 1)) (bOp opEq (bB fReprS (aCons (bVar 0) aNil)) (bB fReprS (aCons (bVar 1) aNil)))))
theorem sc__law_same : FnScope ["due", "got"] ["due", "got"] (defScope t__law_same) := ⟨rfl, rfl, rfl, by decide +kernel, rfl, by decide +kernel, by decide +kernel⟩
theorem x__law_same (G : Fc P K mg) (f : Addr) (cdv : Value) (A : Around) (outer : List Env) (s : Shared) (H : Hp) (E : XK) (c : CO (cxOf (L2N.CX P w) P w K mg base ["due", "got"] "_law_same" (defScope t__law_same) f cdv A outer s H E) (fun c d _ H => E c d H) 0) :
    PSs (cxOf (L2N.CX P w) P w K mg base ["due", "got"] "_law_same" (defScope t__law_same) f cdv A outer s H E) (defBody t__law_same) ((b__law_same K).t fun c d _ H => E c d H) := by
  exact (s_one (s_ret (r_and (r_cmp (op_eqD c.room.units) (r_var 0) (r_var 1) (nomark _)) (r_one (r_cmp (op_eqD c.room.units) (r_reprS G.n_repr (r_var 0)) (r_reprS G.n_repr (r_var 1)) (nomark _))))))
theorem xh__law_same (G : Fc P K mg) (f : Addr) (cdv : Value) (A : Around) (outer : List Env) (s : Shared) (H : Hp) (E : XK) (q : Addr × Obj) (c : CH (L2H.cxH (L2N.CX P w) P w K mg base ["due", "got"] "_law_same" (defScope t__law_same) f cdv A outer s H E q) (fun c d _ H => E c d H) 0) :
    PSs (L2H.cxH (L2N.CX P w) P w K mg base ["due", "got"] "_law_same" (defScope t__law_same) f cdv A outer s H E q) (defBody t__law_same) ((b__law_same K).t fun c d _ H => E c d H) := by
  exact (s_one (s_ret (r_and (r_cmp (op_eqD c.room.units) (r_var 0) (r_var 1) (nomark _)) (r_one (r_cmp (op_eqD c.room.units) (r_reprS G.n_repr (r_var 0)) (r_reprS G.n_repr (r_var 1)) (nomark _))))))
/-! _law_reads: slots 0 text 1 depth 2 at 3 ended 4 turn 5 sign 6 end 7 word 8 one -/
def b__law_reads (K : PySem.W.Frag) : SW (plainC K) := (sSeq (sAsg (bInt 0) (gwName 1)) (sSeq (sAsg (bInt 0) (gwName 2)) (sSeq (sAsg (bBl false) (gwName 3)) (sSeq (sFor (jRng1 (aCons (bB fLen (aCons (bVar 0) aNil)) aNil)) (gwName 4) (sSeq (sIf (bTest (bOp opEq (bVar 2) (bB fLen (aCons (bVar 0) aNil)))) sBrk sNext) (sSeq (sAsg (bOp opIx (bVar 0) (bVar 2)) (gwName 5)) (sSeq (sAsg (bOp (opAdd true) (bVar 2) (bInt 1)) (gwName 6)) (sSeq (sIf (bTru (bVar 3)) (sSeq (sIf (bOr (bTest (bOp opEq (bVar 1) (bInt 0))) (bTest (bOp opNe (bVar 5) (bStr ",")))) (sRet (bBl false)) sNext) (sAsg (bBl false) (gwName 3))) (sIf (bTest (bOp opEq (bVar 5) (bStr "("))) (sSeq (sAsg (bOp (opAdd true) (bVar 1) (bInt 1)) (gwName 1)) (sIf (bTest (bOp opGt (bVar 1) (bInt 60))) (sRet (bBl false)) sNext)) (sSeq (sAsg (bBl true) (gwName 3)) (sIf (bTest (bOp opEq (bVar 5) (bStr ")"))) (sSeq (sAsg (bOp (opSub) (bVar 1) (bInt 1)) (gwName 1)) (sIf (bTest (bOp opLt (bVar 1) (bInt 0))) (sRet (bBl false)) sNext)) (sIf (bTest (bOp opEq (bVar 5) (bStr "\""))) (sSeq (sAsg (bOp (opAdd true) (bM mFind3 (bVar 0) (aCons (bStr "\"") (aCons (bOp (opAdd true) (bVar 2) (bInt 1)) aNil))) (bInt 1)) (gwName 6)) (sSeq (sAsg (bSl true (bVar 0) (oSome (bOp (opAdd true) (bVar 2) (bInt 1))) (oSome (bB fMax (aCons (bOp (opSub) (bVar 6) (bInt 1)) (aCons (bOp (opAdd true) (bVar 2) (bInt 1)) aNil))))) (gwName 7)) (sIf (bOr (bTest (bOp opEq (bVar 6) (bInt 0))) (bTest (bOp opGt (bB fLen (aCons (bLc true [8] (jStr (bVar 7)) (gvName 8) (bTest (bOp opNotInS (bVar 8) (bStr "abcdefghijklmnopqrstuvwxyz"))) (bVar 8)) aNil)) (bInt 0)))) (sRet (bBl false)) sNext))) (sIf (bTest (bOp opInS (bVar 5) (bStr "0123456789"))) (sSeq (sAsg (bOp (opSub) (bOp (opAdd true) (bVar 2) (bB fLen (aCons (bSl true (bVar 0) (oSome (bVar 2)) oNone) aNil))) (bB fLen (aCons (bM mLstrip (bSl true (bVar 0) (oSome (bVar 2)) oNone) (aCons (bStr "0123456789") aNil)) aNil))) (gwName 6)) (sIf (bOr (bTest (bOp opGt (bOp (opSub) (bVar 6) (bVar 2)) (bInt 40))) (bAnd (bTest (bOp opGt (bOp (opSub) (bVar 6) (bVar 2)) (bInt 1))) (bTest (bOp opEq (bVar 5) (bStr "0"))))) (sRet (bBl false)) sNext)) (sIf (bTest (bOp opNe (bVar 5) (bStr "-"))) (sRet (bBl false)) sNext))))))) (sAsg (bVar 6) (gwName 2))))))) (sRet (bAndV (bVar 3) (bAndV (bOp opEq (bVar 1) (bInt 0)) (bOp opEq (bVar 2) (bB fLen (aCons (bVar 0) aNil))))))))))
theorem sc__law_reads : FnScope ["text", "depth", "at", "ended", "turn", "sign", "end", "word", "one"] ["text"] (defScope t__law_reads) := ⟨rfl, rfl, rfl, by decide +kernel, rfl, by decide +kernel, by decide +kernel⟩
theorem x__law_reads (G : Fc P K mg) (f : Addr) (cdv : Value) (A : Around) (outer : List Env) (s : Shared) (H : Hp) (E : XK) (c : CO (cxOf (L2N.CX P w) P w K mg base ["text", "depth", "at", "ended", "turn", "sign", "end", "word", "one"] "_law_reads" (defScope t__law_reads) f cdv A outer s H E) (fun c d _ H => E c d H) 0) :
    PSs (cxOf (L2N.CX P w) P w K mg base ["text", "depth", "at", "ended", "turn", "sign", "end", "word", "one"] "_law_reads" (defScope t__law_reads) f cdv A outer s H E) (defBody t__law_reads) ((b__law_reads K).t fun c d _ H => E c d H) := by
  exact (s_cons (s_set c r_int) (s_cons (s_set c r_int) (s_cons (s_set c r_bl) (s_cons (s_for c (i_rng1 G.n_range (a_cons (r_fn cr_len bo_len G.n_len (a_cons (r_var 0) a_nil)) a_nil)) (g_name c) (s_cons (s_if (t_cmp (op_eqD c.room.units) (r_var 2) (r_fn cr_len bo_len G.n_len (a_cons (r_var 0) a_nil)) (nomark _)) (s_one s_brk) s_nil) (s_cons (s_set c (r_ix c (r_var 0) (r_var 2))) (s_cons (s_set c (r_bin op_addA (r_var 2) r_int)) (s_cons (s_if (t_tru (r_var 3)) (s_cons (s_if (PW.pt (t_or (t_cmp (op_eqD c.room.units) (r_var 1) r_int (nomark _)) (t_or1 (t_cmp (op_neD c.room.units) (r_var 5) r_str (nomark _))))) (s_one (s_ret r_bl)) s_nil) (s_one (s_set c r_bl))) (s_one (s_if (t_cmp (op_eqD c.room.units) (r_var 5) r_str (nomark _)) (s_cons (s_set c (r_bin op_addA (r_var 1) r_int)) (s_one (s_if (t_cmp op_gt (r_var 1) r_int (nomark _)) (s_one (s_ret r_bl)) s_nil))) (s_cons (s_set c r_bl) (s_one (s_if (t_cmp (op_eqD c.room.units) (r_var 5) r_str (nomark _)) (s_cons (s_set c (r_bin op_sub (r_var 1) r_int)) (s_one (s_if (t_cmp op_lt (r_var 1) r_int (nomark _)) (s_one (s_ret r_bl)) s_nil))) (s_one (s_if (t_cmp (op_eqD c.room.units) (r_var 5) r_str (nomark _)) (s_cons (s_set c (r_bin op_addA (m_find3 (r_var 0) r_str (r_bin op_addA (r_var 2) r_int)) r_int)) (s_cons (s_set c (r_sl (r_var 0) (o_some (r_bin op_addA (r_var 2) r_int)) (o_some (r_fn (call_max2 c.calm) bo_max G.n_max (a_cons (r_bin op_sub (r_var 6) r_int) (a_cons (r_bin op_addA (r_var 2) r_int) a_nil)))))) (s_one (s_if (PW.pt (t_or (t_cmp (op_eqD c.room.units) (r_var 6) r_int (nomark _)) (t_or1 (t_cmp op_gt (r_fn cr_len bo_len G.n_len (a_cons (r_lc c [("one", 8)] rfl (by rfl) (i_str (r_var 7)) (fun _ _ _ _ _ => g_nm c.nd) (fun _ _ _ _ _ c => v_one (t_cmp op_notInS (r_var 8) r_str (by with_unfolding_all rfl))) (fun _ _ _ _ _ c => (r_var 8))) a_nil)) r_int (nomark _))))) (s_one (s_ret r_bl)) s_nil)))) (s_one (s_if (t_cmp op_inS (r_var 5) r_str (by with_unfolding_all rfl)) (s_cons (s_set c (r_bin op_sub (r_bin op_addA (r_var 2) (r_fn cr_len bo_len G.n_len (a_cons (r_sl (r_var 0) (o_some (r_var 2)) o_none) a_nil))) (r_fn cr_len bo_len G.n_len (a_cons (m_lstrip (r_sl (r_var 0) (o_some (r_var 2)) o_none) r_str) a_nil)))) (s_one (s_if (PW.pt (t_or (t_cmp op_gt (r_bin op_sub (r_var 6) (r_var 2)) r_int (nomark _)) (t_or1 (PW.pt (t_and (t_cmp op_gt (r_bin op_sub (r_var 6) (r_var 2)) r_int (nomark _)) (t_and1 (t_cmp (op_eqD c.room.units) (r_var 5) r_str (nomark _)))))))) (s_one (s_ret r_bl)) s_nil))) (s_one (s_if (t_cmp (op_neD c.room.units) (r_var 5) r_str (nomark _)) (s_one (s_ret r_bl)) s_nil)))))))))))) (s_one (s_set c (r_var 6)))))))) (s_one (s_ret (r_and (r_var 3) (r_and (r_cmp (op_eqD c.room.units) (r_var 1) r_int (nomark _)) (r_one (r_cmp (op_eqD c.room.units) (r_var 2) (r_fn cr_len bo_len G.n_len (a_cons (r_var 0) a_nil)) (nomark _)))))))))))
theorem xh__law_reads (G : Fc P K mg) (f : Addr) (cdv : Value) (A : Around) (outer : List Env) (s : Shared) (H : Hp) (E : XK) (q : Addr × Obj) (c : CH (L2H.cxH (L2N.CX P w) P w K mg base ["text", "depth", "at", "ended", "turn", "sign", "end", "word", "one"] "_law_reads" (defScope t__law_reads) f cdv A outer s H E q) (fun c d _ H => E c d H) 0) :
    PSs (L2H.cxH (L2N.CX P w) P w K mg base ["text", "depth", "at", "ended", "turn", "sign", "end", "word", "one"] "_law_reads" (defScope t__law_reads) f cdv A outer s H E q) (defBody t__law_reads) ((b__law_reads K).t fun c d _ H => E c d H) := by
  exact (s_cons (s_setH c r_int) (s_cons (s_setH c r_int) (s_cons (s_setH c r_bl) (s_cons (s_forH c (i_rng1H G.n_range (a_cons (r_fn cr_len bo_len G.n_len (a_cons (r_var 0) a_nil)) a_nil)) (g_nameH c) (s_cons (s_if (t_cmp (op_eqD c.room.units) (r_var 2) (r_fn cr_len bo_len G.n_len (a_cons (r_var 0) a_nil)) (nomark _)) (s_one s_brk) s_nil) (s_cons (s_setH c (r_ixH c (r_var 0) (r_var 2))) (s_cons (s_setH c (r_bin op_addA (r_var 2) r_int)) (s_cons (s_if (t_tru (r_var 3)) (s_cons (s_if (PW.pt (t_or (t_cmp (op_eqD c.room.units) (r_var 1) r_int (nomark _)) (t_or1 (t_cmp (op_neD c.room.units) (r_var 5) r_str (nomark _))))) (s_one (s_ret r_bl)) s_nil) (s_one (s_setH c r_bl))) (s_one (s_if (t_cmp (op_eqD c.room.units) (r_var 5) r_str (nomark _)) (s_cons (s_setH c (r_bin op_addA (r_var 1) r_int)) (s_one (s_if (t_cmp op_gt (r_var 1) r_int (nomark _)) (s_one (s_ret r_bl)) s_nil))) (s_cons (s_setH c r_bl) (s_one (s_if (t_cmp (op_eqD c.room.units) (r_var 5) r_str (nomark _)) (s_cons (s_setH c (r_bin op_sub (r_var 1) r_int)) (s_one (s_if (t_cmp op_lt (r_var 1) r_int (nomark _)) (s_one (s_ret r_bl)) s_nil))) (s_one (s_if (t_cmp (op_eqD c.room.units) (r_var 5) r_str (nomark _)) (s_cons (s_setH c (r_bin op_addA (m_find3 (r_var 0) r_str (r_bin op_addA (r_var 2) r_int)) r_int)) (s_cons (s_setH c (r_sl (r_var 0) (o_some (r_bin op_addA (r_var 2) r_int)) (o_some (r_fn (call_max2H c.hot) bo_max G.n_max (a_cons (r_bin op_sub (r_var 6) r_int) (a_cons (r_bin op_addA (r_var 2) r_int) a_nil)))))) (s_one (s_if (PW.pt (t_or (t_cmp (op_eqD c.room.units) (r_var 6) r_int (nomark _)) (t_or1 (t_cmp op_gt (r_fn cr_len bo_len G.n_len (a_cons (r_lcH c [("one", 8)] rfl (by rfl) (i_strH (r_var 7)) (fun _ _ _ _ _ _ => g_nm c.nd) (fun _ _ _ _ _ _ c => v_one (t_cmp op_notInS (r_var 8) r_str (by with_unfolding_all rfl))) (fun _ _ _ _ _ _ c => (r_var 8))) a_nil)) r_int (nomark _))))) (s_one (s_ret r_bl)) s_nil)))) (s_one (s_if (t_cmp op_inS (r_var 5) r_str (by with_unfolding_all rfl)) (s_cons (s_setH c (r_bin op_sub (r_bin op_addA (r_var 2) (r_fn cr_len bo_len G.n_len (a_cons (r_sl (r_var 0) (o_some (r_var 2)) o_none) a_nil))) (r_fn cr_len bo_len G.n_len (a_cons (m_lstrip (r_sl (r_var 0) (o_some (r_var 2)) o_none) r_str) a_nil)))) (s_one (s_if (PW.pt (t_or (t_cmp op_gt (r_bin op_sub (r_var 6) (r_var 2)) r_int (nomark _)) (t_or1 (PW.pt (t_and (t_cmp op_gt (r_bin op_sub (r_var 6) (r_var 2)) r_int (nomark _)) (t_and1 (t_cmp (op_eqD c.room.units) (r_var 5) r_str (nomark _)))))))) (s_one (s_ret r_bl)) s_nil))) (s_one (s_if (t_cmp (op_neD c.room.units) (r_var 5) r_str (nomark _)) (s_one (s_ret r_bl)) s_nil)))))))))))) (s_one (s_setH c (r_var 6)))))))) (s_one (s_ret (r_and (r_var 3) (r_and (r_cmp (op_eqD c.room.units) (r_var 1) r_int (nomark _)) (r_one (r_cmp (op_eqD c.room.units) (r_var 2) (r_fn cr_len bo_len G.n_len (a_cons (r_var 0) a_nil)) (nomark _)))))))))))
/-! _law_text: slots 0 box 1 parts 2 step 3 shape 4 many 5 inner 6 part -/
def b__law_text (K : PySem.W.Frag) (s__law_draw : DSp) : SW (plainC K) := (sSeq (sAsg (bLst false aNil) (gwName 1)) (sSeq (sFor (jRng1 (aCons (bOp (opAdd true) (bInt 1) (bCall 2 s__law_draw (aCons (bVar 0) (aCons (bInt 12) aNil)))) aNil)) (gwName 2) (sSeq (sAsg (bCall 2 s__law_draw (aCons (bVar 0) (aCons (bInt 8) aNil))) (gwName 3)) (sIf (bTest (bOp opLt (bVar 3) (bInt 3))) (sDrop (bM mAppend (bVar 1) (aCons (bOp opIx (bLst true (aCons (bStr "0") (aCons (bStr "7") (aCons (bStr "31") (aCons (bStr "100") (aCons (bStr "1234567890") aNil)))))) (bCall 2 s__law_draw (aCons (bVar 0) (aCons (bInt 5) aNil)))) aNil))) (sIf (bTest (bOp opEq (bVar 3) (bInt 3))) (sDrop (bM mAppend (bVar 1) (aCons (bStr "-") aNil))) (sIf (bTest (bOp opEq (bVar 3) (bInt 4))) (sDrop (bM mAppend (bVar 1) (aCons (bOp (opAdd true) (bOp (opAdd true) (bStr "\"") (bOp opIx (bLst true (aCons (bStr "") (aCons (bStr "a") (aCons (bStr "lay") (aCons (bStr "mend") (aCons (bStr "zz") aNil)))))) (bCall 2 s__law_draw (aCons (bVar 0) (aCons (bInt 5) aNil))))) (bStr "\"")) aNil))) (sSeq (sAsg (bB fMin (aCons (bCall 2 s__law_draw (aCons (bVar 0) (aCons (bInt 4) aNil))) (aCons (bB fLen (aCons (bVar 1) aNil)) aNil))) (gwName 4)) (sSeq (sAsg (bM mJoin (bStr "") (aCons (bLc true [6] (jAny (bSl true (bVar 1) (oSome (bOp (opSub) (bB fLen (aCons (bVar 1) aNil)) (bVar 4))) oNone)) (gvName 6) bYes (bOp (opAdd true) (bVar 6) (bStr ","))) aNil)) (gwName 5)) (sAsg (bOp (opAdd false) (bSl true (bVar 1) oNone (oSome (bOp (opSub) (bB fLen (aCons (bVar 1) aNil)) (bVar 4)))) (bLst true (aCons (bOp (opAdd true) (bOp (opAdd true) (bStr "(") (bVar 5)) (bStr ")")) aNil))) (gwName 1))))))))) (sSeq (sIf (bTest (bOp opEq (bB fLen (aCons (bVar 1) aNil)) (bInt 1))) (sRet (bOp opIx (bVar 1) (bInt 0))) sNext) (sRet (bOp (opAdd true) (bOp (opAdd true) (bStr "(") (bM mJoin (bStr "") (aCons (bLc true [6] (jAny (bVar 1)) (gvName 6) bYes (bOp (opAdd true) (bVar 6) (bStr ","))) aNil))) (bStr ")"))))))
theorem sc__law_text : FnScope ["box", "parts", "step", "shape", "many", "inner", "part"] ["box"] (defScope t__law_text) := ⟨rfl, rfl, rfl, by decide +kernel, rfl, by decide +kernel, by decide +kernel⟩
theorem x__law_text (G : Fc P K mg) {s__law_draw : DSp} (k__law_draw : Kn P w K mg base 1 "_law_draw" t__law_draw ["box", "limit"] s__law_draw) (f : Addr) (cdv : Value) (A : Around) (outer : List Env) (s : Shared) (H : Hp) (E : XK) (c : CO (cxOf (L2N.CX P w) P w K mg base ["box", "parts", "step", "shape", "many", "inner", "part"] "_law_text" (defScope t__law_text) f cdv A outer s H E) (fun c d _ H => E c d H) 1) :
    PSs (cxOf (L2N.CX P w) P w K mg base ["box", "parts", "step", "shape", "many", "inner", "part"] "_law_text" (defScope t__law_text) f cdv A outer s H E) (defBody t__law_text) ((b__law_text K s__law_draw).t fun c d _ H => E c d H) := by
  exact (s_cons (s_set c (r_lst a_nil)) (s_cons (s_for c (i_rng1 G.n_range (a_cons (r_bin op_addA r_int (r_call c k__law_draw (a_cons (r_var 0) (a_cons r_int a_nil)))) a_nil)) (g_name c) (s_cons (s_set c (r_call c k__law_draw (a_cons (r_var 0) (a_cons r_int a_nil)))) (s_one (s_if (t_cmp op_lt (r_var 3) r_int (nomark _)) (s_one (s_drop (m_append (r_var 1) (r_ix c (r_lst (a_cons r_str (a_cons r_str (a_cons r_str (a_cons r_str (a_cons r_str a_nil)))))) (r_call c k__law_draw (a_cons (r_var 0) (a_cons r_int a_nil))))))) (s_one (s_if (t_cmp (op_eqD c.room.units) (r_var 3) r_int (nomark _)) (s_one (s_drop (m_append (r_var 1) r_str))) (s_one (s_if (t_cmp (op_eqD c.room.units) (r_var 3) r_int (nomark _)) (s_one (s_drop (m_append (r_var 1) (r_bin op_addA (r_bin op_addA r_str (r_ix c (r_lst (a_cons r_str (a_cons r_str (a_cons r_str (a_cons r_str (a_cons r_str a_nil)))))) (r_call c k__law_draw (a_cons (r_var 0) (a_cons r_int a_nil))))) r_str)))) (s_cons (s_set c (r_fn (call_min2 c.calm) bo_min G.n_min (a_cons (r_call c k__law_draw (a_cons (r_var 0) (a_cons r_int a_nil))) (a_cons (r_fn cr_len bo_len G.n_len (a_cons (r_var 1) a_nil)) a_nil)))) (s_cons (s_set c (m_join r_str (r_lc c [("part", 6)] rfl (by rfl) (i_any (r_sl (r_var 1) (o_some (r_bin op_sub (r_fn cr_len bo_len G.n_len (a_cons (r_var 1) a_nil)) (r_var 4))) o_none)) (fun _ _ _ _ _ => g_nm c.nd) (fun _ _ _ _ _ c => v_yes) (fun _ _ _ _ _ c => (r_bin op_addA (r_var 6) r_str))))) (s_one (s_set c (r_bin op_addA (r_sl (r_var 1) o_none (o_some (r_bin op_sub (r_fn cr_len bo_len G.n_len (a_cons (r_var 1) a_nil)) (r_var 4)))) (r_lst (a_cons (r_bin op_addA (r_bin op_addA r_str (r_var 5)) r_str) a_nil))))))))))))))) (s_cons (s_if (t_cmp (op_eqD c.room.units) (r_fn cr_len bo_len G.n_len (a_cons (r_var 1) a_nil)) r_int (nomark _)) (s_one (s_ret (r_ix c (r_var 1) r_int))) s_nil) (s_one (s_ret (r_bin op_addA (r_bin op_addA r_str (m_join r_str (r_lc c [("part", 6)] rfl (by rfl) (i_any (r_var 1)) (fun _ _ _ _ _ => g_nm c.nd) (fun _ _ _ _ _ c => v_yes) (fun _ _ _ _ _ c => (r_bin op_addA (r_var 6) r_str))))) r_str))))))
/-! _law_bent: slots 0 box 1 text 2 turn 3 at 4 signs 5 sign 6 shape -/
def b__law_bent (K : PySem.W.Frag) (s__law_draw : DSp) : SW (plainC K) := (sSeq (sFor (jRng1 (aCons (bOp (opAdd true) (bInt 1) (bCall 2 s__law_draw (aCons (bVar 0) (aCons (bInt 2) aNil)))) aNil)) (gwName 2) (sSeq (sAsg (bCall 2 s__law_draw (aCons (bVar 0) (aCons (bOp (opAdd true) (bB fLen (aCons (bVar 1) aNil)) (bInt 1)) aNil))) (gwName 3)) (sSeq (sAsg (bLst true (aCons (bStr "(") (aCons (bStr ")") (aCons (bStr ",") (aCons (bStr "-") (aCons (bStr "\"") (aCons (bStr "0") (aCons (bStr "1") (aCons (bStr "a") (aCons (bStr "A") (aCons (bStr " ") (aCons (bStr ".") (aCons (bStr "+") (aCons (bStr "[") (aCons (bStr "'") (aCons (bStr "\n") (aCons (bStr "_") aNil))))))))))))))))) (gwName 4)) (sSeq (sAsg (bOp opIx (bVar 4) (bCall 2 s__law_draw (aCons (bVar 0) (aCons (bInt 16) aNil)))) (gwName 5)) (sSeq (sAsg (bCall 2 s__law_draw (aCons (bVar 0) (aCons (bInt 3) aNil))) (gwName 6)) (sIf (bTest (bOp opEq (bVar 6) (bInt 0))) (sAsg (bOp (opAdd true) (bSl true (bVar 1) oNone (oSome (bVar 3))) (bSl true (bVar 1) (oSome (bOp (opAdd true) (bVar 3) (bInt 1))) oNone)) (gwName 1)) (sIf (bTest (bOp opEq (bVar 6) (bInt 1))) (sAsg (bOp (opAdd true) (bOp (opAdd true) (bSl true (bVar 1) oNone (oSome (bVar 3))) (bVar 5)) (bSl true (bVar 1) (oSome (bVar 3)) oNone)) (gwName 1)) (sAsg (bOp (opAdd true) (bOp (opAdd true) (bSl true (bVar 1) oNone (oSome (bVar 3))) (bVar 5)) (bSl true (bVar 1) (oSome (bOp (opAdd true) (bVar 3) (bInt 1))) oNone)) (gwName 1))))))))) (sRet (bVar 1)))
theorem sc__law_bent : FnScope ["box", "text", "turn", "at", "signs", "sign", "shape"] ["box", "text"] (defScope t__law_bent) := ⟨rfl, rfl, rfl, by decide +kernel, rfl, by decide +kernel, by decide +kernel⟩
theorem x__law_bent (G : Fc P K mg) {s__law_draw : DSp} (k__law_draw : Kn P w K mg base 1 "_law_draw" t__law_draw ["box", "limit"] s__law_draw) (f : Addr) (cdv : Value) (A : Around) (outer : List Env) (s : Shared) (H : Hp) (E : XK) (c : CO (cxOf (L2N.CX P w) P w K mg base ["box", "text", "turn", "at", "signs", "sign", "shape"] "_law_bent" (defScope t__law_bent) f cdv A outer s H E) (fun c d _ H => E c d H) 1) :
    PSs (cxOf (L2N.CX P w) P w K mg base ["box", "text", "turn", "at", "signs", "sign", "shape"] "_law_bent" (defScope t__law_bent) f cdv A outer s H E) (defBody t__law_bent) ((b__law_bent K s__law_draw).t fun c d _ H => E c d H) := by
  exact (s_cons (s_for c (i_rng1 G.n_range (a_cons (r_bin op_addA r_int (r_call c k__law_draw (a_cons (r_var 0) (a_cons r_int a_nil)))) a_nil)) (g_name c) (s_cons (s_set c (r_call c k__law_draw (a_cons (r_var 0) (a_cons (r_bin op_addA (r_fn cr_len bo_len G.n_len (a_cons (r_var 1) a_nil)) r_int) a_nil)))) (s_cons (s_set c (r_lst (a_cons r_str (a_cons r_str (a_cons r_str (a_cons r_str (a_cons r_str (a_cons r_str (a_cons r_str (a_cons r_str (a_cons r_str (a_cons r_str (a_cons r_str (a_cons r_str (a_cons r_str (a_cons r_str (a_cons r_str (a_cons r_str a_nil)))))))))))))))))) (s_cons (s_set c (r_ix c (r_var 4) (r_call c k__law_draw (a_cons (r_var 0) (a_cons r_int a_nil))))) (s_cons (s_set c (r_call c k__law_draw (a_cons (r_var 0) (a_cons r_int a_nil)))) (s_one (s_if (t_cmp (op_eqD c.room.units) (r_var 6) r_int (nomark _)) (s_one (s_set c (r_bin op_addA (r_sl (r_var 1) o_none (o_some (r_var 3))) (r_sl (r_var 1) (o_some (r_bin op_addA (r_var 3) r_int)) o_none)))) (s_one (s_if (t_cmp (op_eqD c.room.units) (r_var 6) r_int (nomark _)) (s_one (s_set c (r_bin op_addA (r_bin op_addA (r_sl (r_var 1) o_none (o_some (r_var 3))) (r_var 5)) (r_sl (r_var 1) (o_some (r_var 3)) o_none)))) (s_one (s_set c (r_bin op_addA (r_bin op_addA (r_sl (r_var 1) o_none (o_some (r_var 3))) (r_var 5)) (r_sl (r_var 1) (o_some (r_bin op_addA (r_var 3) r_int)) o_none))))))))))))) (s_one (s_ret (r_var 1))))
/-! _law_right: slots 0 text 1 e 2 value -/
def b__law_right (K : PySem.W.Frag) (s_untold : DSp) (s__law_reads : DSp) (s__law_same : DSp) (s_told : DSp) (hit : Hit K) : SW (plainC K) := (sSeq (sTryAs 1 hit (sAsg (bCall 1 s_untold (aCons (bVar 0) aNil)) (gwName 2)) (suX (fun ex => (sSeq (sIf (bOr (bTru (bCall 1 s__law_reads (aCons (bVar 0) aNil))) (bNot (bTru (bCall 2 s__law_same (aCons (bVar 0) (aCons (bXf ex "InvalidText" "text" (bVar 1)) aNil)))))) (sRet (bBl false)) sNext) (sRet (bAndV (bIsi (isiB .int) (bXf ex "InvalidText" "at" (bVar 1))) (bAndV (bNotV (bIsi (isiB .bl) (bXf ex "InvalidText" "at" (bVar 1)))) (bChain opLe opLe (bInt 0) (bXf ex "InvalidText" "at" (bVar 1)) (bB fLen (aCons (bVar 0) aNil)))))))))) (sRet (bAndV (bCall 1 s__law_reads (aCons (bVar 0) aNil)) (bCall 2 s__law_same (aCons (bVar 0) (aCons (bCall 1 s_told (aCons (bVar 2) aNil)) aNil))))))
theorem sc__law_right : FnScope ["text", "e", "value"] ["text"] (defScope t__law_right) := ⟨rfl, rfl, rfl, by decide +kernel, rfl, by decide +kernel, by decide +kernel⟩
theorem x__law_right (G : Fc P K mg) {s_untold : DSp} {s__law_reads : DSp} {s__law_same : DSp} {s_told : DSp} (k_untold : Kn P w K mg base 8 "untold" t_untold ["text"] s_untold) (k__law_reads : Kn P w K mg base 1 "_law_reads" t__law_reads ["text"] s__law_reads) (k__law_same : Kn P w K mg base 1 "_law_same" t__law_same ["due", "got"] s__law_same) (k_told : Kn P w K mg base 3 "told" t_told ["value"] s_told) (kh__law_reads : KnH P w K mg base 1 "_law_reads" t__law_reads ["text"] s__law_reads) (kh__law_same : KnH P w K mg base 1 "_law_same" t__law_same ["due", "got"] s__law_same) (hit : Hit K) (hhit : hit.c = .ref (clsA K "InvalidText")) (f : Addr) (cdv : Value) (A : Around) (outer : List Env) (s : Shared) (H : Hp) (E : XK) (c : CO (cxOf (L2N.CX P w) P w K mg base ["text", "e", "value"] "_law_right" (defScope t__law_right) f cdv A outer s H E) (fun c d _ H => E c d H) 8) :
    PSs (cxOf (L2N.CX P w) P w K mg base ["text", "e", "value"] "_law_right" (defScope t__law_right) f cdv A outer s H E) (defBody t__law_right) ((b__law_right K s_untold s__law_reads s__law_same s_told hit).t fun c d _ H => E c d H) := by
  exact (s_cons (s_tryAs c ⟨rfl, by decide, .inl (by rw [hhit]; exact G.g_InvalidText)⟩ (fun _ _ _ c => (s_one (s_set c (r_call c k_untold (a_cons (r_var 0) a_nil))))) (fun ex oe pn hz hv c => (s_cons (s_if (PW.pt (t_or (t_tru (r_callH c kh__law_reads (a_cons (r_var 0) a_nil))) (t_or1 (t_not (t_tru (r_callH c kh__law_same (a_cons (r_var 0) (a_cons (r_xf G.xs_InvalidText (G.x_InvalidText.no "text" (by simp)) hz hv (r_var 1)) a_nil)))))))) (s_one (s_ret r_bl)) s_nil) (s_one (s_ret (r_and (r_isi G.n_isinstance (r_xf G.xs_InvalidText (G.x_InvalidText.no "at" (by simp)) hz hv (r_var 1)) (r_tyn G.n_int bo_int)) (r_and (r_not (r_isi G.n_isinstance (r_xf G.xs_InvalidText (G.x_InvalidText.no "at" (by simp)) hz hv (r_var 1)) (r_tyn G.n_bool bo_bool))) (r_one (r_chain op_le op_le r_int (r_xf G.xs_InvalidText (G.x_InvalidText.no "at" (by simp)) hz hv (r_var 1)) (r_fn cr_len bo_len G.n_len (a_cons (r_var 0) a_nil))))))))))) (s_one (s_ret (r_and (r_call c k__law_reads (a_cons (r_var 0) a_nil)) (r_one (r_call c k__law_same (a_cons (r_var 0) (a_cons (r_call c k_told (a_cons (r_var 2) a_nil)) a_nil))))))))
/-! _law_all: slots 0 script 1 box 2 turn 3 text 4 leaf 5 many 6 figure -/
def b__law_all (K : PySem.W.Frag) (s__law_box : DSp) (s__law_text : DSp) (s__law_reads : DSp) (s__law_right : DSp) (s__law_bent : DSp) (s__law_draw : DSp) : SW (plainC K) := (sSeq (sAsg (bCall 1 s__law_box (aCons (bVar 0) aNil)) (gwName 1)) (sSeq (sFor (jRng1 (aCons (bInt 8) aNil)) (gwName 2) (sSeq (sAsg (bCall 1 s__law_text (aCons (bVar 1) aNil)) (gwName 3)) (sIf (bOr (bNot (bTru (bCall 1 s__law_reads (aCons (bVar 3) aNil)))) (bOr (bNot (bTru (bCall 1 s__law_right (aCons (bVar 3) aNil)))) (bNot (bTru (bCall 1 s__law_right (aCons (bCall 2 s__law_bent (aCons (bVar 1) (aCons (bVar 3) aNil))) aNil)))))) (sRet (bBl false)) sNext))) (sSeq (sAsg (bOp opIx (bLst true (aCons (bStr "-") (aCons (bStr "0") (aCons (bStr "\"a\"") (aCons (bStr "()") aNil))))) (bCall 2 s__law_draw (aCons (bVar 1) (aCons (bInt 4) aNil)))) (gwName 4)) (sSeq (sFor (jAny (bLst true (aCons (bInt 58) (aCons (bInt 59) (aCons (bInt 60) (aCons (bInt 61) aNil)))))) (gwName 5) (sIf (bNot (bTru (bCall 1 s__law_right (aCons (bOp (opAdd true) (bOp (opAdd true) (bOp (opMulS) (bStr "(") (bVar 5)) (bVar 4)) (bOp (opMulS) (bStr ",)") (bVar 5))) aNil)))) (sRet (bBl false)) sNext)) (sSeq (sAsg (bOp opIx (bStr "123456789") (bCall 2 s__law_draw (aCons (bVar 1) (aCons (bInt 9) aNil)))) (gwName 6)) (sSeq (sFor (jAny (bLst true (aCons (bInt 39) (aCons (bInt 40) (aCons (bInt 41) aNil))))) (gwName 5) (sIf (bOr (bNot (bTru (bCall 1 s__law_right (aCons (bOp (opMulS) (bVar 6) (bVar 5)) aNil)))) (bNot (bTru (bCall 1 s__law_right (aCons (bOp (opAdd true) (bOp (opAdd true) (bStr "(") (bOp (opMulS) (bVar 6) (bVar 5))) (bStr ",)")) aNil))))) (sRet (bBl false)) sNext)) (sRet (bAndV (bCall 1 s__law_right (aCons (bStr "") aNil)) (bAndV (bCall 1 s__law_right (aCons (bOp (opAdd true) (bStr "0") (bVar 6)) aNil)) (bAndV (bCall 1 s__law_right (aCons (bOp (opAdd true) (bVar 3) (bStr ",")) aNil)) (bCall 1 s__law_right (aCons (bOp (opAdd true) (bStr " ") (bVar 3)) aNil))))))))))))
theorem sc__law_all : FnScope ["script", "box", "turn", "text", "leaf", "many", "figure"] ["script"] (defScope t__law_all) := ⟨rfl, rfl, rfl, by decide +kernel, rfl, by decide +kernel, by decide +kernel⟩
theorem x__law_all (G : Fc P K mg) {s__law_box : DSp} {s__law_text : DSp} {s__law_reads : DSp} {s__law_right : DSp} {s__law_bent : DSp} {s__law_draw : DSp} (k__law_box : Kn P w K mg base 1 "_law_box" t__law_box ["script"] s__law_box) (k__law_text : Kn P w K mg base 2 "_law_text" t__law_text ["box"] s__law_text) (k__law_reads : Kn P w K mg base 1 "_law_reads" t__law_reads ["text"] s__law_reads) (k__law_right : Kn P w K mg base 9 "_law_right" t__law_right ["text"] s__law_right) (k__law_bent : Kn P w K mg base 2 "_law_bent" t__law_bent ["box", "text"] s__law_bent) (k__law_draw : Kn P w K mg base 1 "_law_draw" t__law_draw ["box", "limit"] s__law_draw) (f : Addr) (cdv : Value) (A : Around) (outer : List Env) (s : Shared) (H : Hp) (E : XK) (c : CO (cxOf (L2N.CX P w) P w K mg base ["script", "box", "turn", "text", "leaf", "many", "figure"] "_law_all" (defScope t__law_all) f cdv A outer s H E) (fun c d _ H => E c d H) 9) :
    PSs (cxOf (L2N.CX P w) P w K mg base ["script", "box", "turn", "text", "leaf", "many", "figure"] "_law_all" (defScope t__law_all) f cdv A outer s H E) (defBody t__law_all) ((b__law_all K s__law_box s__law_text s__law_reads s__law_right s__law_bent s__law_draw).t fun c d _ H => E c d H) := by
  exact (s_cons (s_set c (r_call c k__law_box (a_cons (r_var 0) a_nil))) (s_cons (s_for c (i_rng1 G.n_range (a_cons r_int a_nil)) (g_name c) (s_cons (s_set c (r_call c k__law_text (a_cons (r_var 1) a_nil))) (s_one (s_if (PW.pt (t_or (t_not (t_tru (r_call c k__law_reads (a_cons (r_var 3) a_nil)))) (t_or (t_not (t_tru (r_call c k__law_right (a_cons (r_var 3) a_nil)))) (t_or1 (t_not (t_tru (r_call c k__law_right (a_cons (r_call c k__law_bent (a_cons (r_var 1) (a_cons (r_var 3) a_nil))) a_nil)))))))) (s_one (s_ret r_bl)) s_nil)))) (s_cons (s_set c (r_ix c (r_lst (a_cons r_str (a_cons r_str (a_cons r_str (a_cons r_str a_nil))))) (r_call c k__law_draw (a_cons (r_var 1) (a_cons r_int a_nil))))) (s_cons (s_for c (i_any (r_lst (a_cons r_int (a_cons r_int (a_cons r_int (a_cons r_int a_nil)))))) (g_name c) (s_one (s_if (t_not (t_tru (r_call c k__law_right (a_cons (r_bin op_addA (r_bin op_addA (r_bin op_mulS r_str (r_var 5)) (r_var 4)) (r_bin op_mulS r_str (r_var 5))) a_nil)))) (s_one (s_ret r_bl)) s_nil))) (s_cons (s_set c (r_ix c r_str (r_call c k__law_draw (a_cons (r_var 1) (a_cons r_int a_nil))))) (s_cons (s_for c (i_any (r_lst (a_cons r_int (a_cons r_int (a_cons r_int a_nil))))) (g_name c) (s_one (s_if (PW.pt (t_or (t_not (t_tru (r_call c k__law_right (a_cons (r_bin op_mulS (r_var 6) (r_var 5)) a_nil)))) (t_or1 (t_not (t_tru (r_call c k__law_right (a_cons (r_bin op_addA (r_bin op_addA r_str (r_bin op_mulS (r_var 6) (r_var 5))) r_str) a_nil))))))) (s_one (s_ret r_bl)) s_nil))) (s_one (s_ret (r_and (r_call c k__law_right (a_cons r_str a_nil)) (r_and (r_call c k__law_right (a_cons (r_bin op_addA r_str (r_var 6)) a_nil)) (r_and (r_call c k__law_right (a_cons (r_bin op_addA (r_var 3) r_str) a_nil)) (r_one (r_call c k__law_right (a_cons (r_bin op_addA r_str (r_var 3)) a_nil))))))))))))))
/-! law: slots 0 script -/
def b_law (K : PySem.W.Frag) (s__law_all : DSp) : SW (plainC K) := (sThru (sRet (bCall 1 s__law_all (aCons (bVar 0) aNil))))
theorem sc_law : FnScope ["script"] ["script"] (defScope t_law) := ⟨rfl, rfl, rfl, by decide +kernel, rfl, by decide +kernel, by decide +kernel⟩
theorem x_law (G : Fc P K mg) {s__law_all : DSp} (k__law_all : Kn P w K mg base 10 "_law_all" t__law_all ["script"] s__law_all) (f : Addr) (cdv : Value) (A : Around) (outer : List Env) (s : Shared) (H : Hp) (E : XK) (c : CO (cxOf (L2N.CX P w) P w K mg base ["script"] "law" (defScope t_law) f cdv A outer s H E) (fun c d _ H => E c d H) 10) :
    PSs (cxOf (L2N.CX P w) P w K mg base ["script"] "law" (defScope t_law) f cdv A outer s H E) (defBody t_law) ((b_law K s__law_all).t fun c d _ H => E c d H) := by
  exact (s_one (s_thru c fun c => (s_one (s_ret (r_call c k__law_all (a_cons (r_var 0) a_nil))))))
end
end G
set_option Elab.async false
set_option linter.all false
set_option maxRecDepth 100000
set_option maxHeartbeats 0
namespace G
open PySem PySem.Spec PyProof.Rows L2
theorem mem_is_figure : d_is_figure ∈ fn := List.mem_of_getElem? (i := 0) rfl
theorem mem_figures_end : d_figures_end ∈ fn := List.mem_of_getElem? (i := 1) rfl
theorem mem_are_figures : d_are_figures ∈ fn := List.mem_of_getElem? (i := 2) rfl
theorem mem_number_of : d_number_of ∈ fn := List.mem_of_getElem? (i := 3) rfl
theorem mem_atom_text : d_atom_text ∈ fn := List.mem_of_getElem? (i := 4) rfl
theorem mem_text_of : d_text_of ∈ fn := List.mem_of_getElem? (i := 5) rfl
theorem mem_is_letter : d_is_letter ∈ fn := List.mem_of_getElem? (i := 6) rfl
theorem mem_string_at : d_string_at ∈ fn := List.mem_of_getElem? (i := 7) rfl
theorem mem_number_at : d_number_at ∈ fn := List.mem_of_getElem? (i := 8) rfl
theorem mem_atom_at : d_atom_at ∈ fn := List.mem_of_getElem? (i := 9) rfl
theorem mem_value_of : d_value_of ∈ fn := List.mem_of_getElem? (i := 10) rfl
theorem mem_told : d_told ∈ fn := List.mem_of_getElem? (i := 11) rfl
theorem mem_untold : d_untold ∈ fn := List.mem_of_getElem? (i := 12) rfl
theorem mem__law_box : d__law_box ∈ fn := List.mem_of_getElem? (i := 13) rfl
theorem mem__law_draw : d__law_draw ∈ fn := List.mem_of_getElem? (i := 14) rfl
theorem mem__law_same : d__law_same ∈ fn := List.mem_of_getElem? (i := 15) rfl
theorem mem__law_reads : d__law_reads ∈ fn := List.mem_of_getElem? (i := 16) rfl
theorem mem__law_text : d__law_text ∈ fn := List.mem_of_getElem? (i := 17) rfl
theorem mem__law_bent : d__law_bent ∈ fn := List.mem_of_getElem? (i := 18) rfl
theorem mem__law_right : d__law_right ∈ fn := List.mem_of_getElem? (i := 19) rfl
theorem mem__law_all : d__law_all ∈ fn := List.mem_of_getElem? (i := 20) rfl
theorem mem_law : d_law ∈ fn := List.mem_of_getElem? (i := 21) rfl
theorem mem_InvalidText : e_InvalidText ∈ xs := List.mem_of_getElem? (i := 0) rfl
theorem fc_of {K : PySem.W.Frag} {h : Heap} {mg : Str → Option Value} (X : K.In h) (G : h.Ns mainGlobals mg) (c : SaysG R.prog fa fn xs exb K) : Fc R.prog K mg := by
  have b := (Bool.and_eq_true_iff.mp c.b).1
  unfold exb at b
  simp only [Bool.and_eq_true] at b
  obtain ⟨b0, b1⟩ := b
  constructor
  · exact c.free X G (List.mem_of_getElem? (i := 0) rfl)
  · exact c.free X G (List.mem_of_getElem? (i := 1) rfl)
  · exact c.free X G (List.mem_of_getElem? (i := 2) rfl)
  · exact c.free X G (List.mem_of_getElem? (i := 3) rfl)
  · exact c.free X G (List.mem_of_getElem? (i := 4) rfl)
  · exact c.free X G (List.mem_of_getElem? (i := 5) rfl)
  · exact c.free X G (List.mem_of_getElem? (i := 6) rfl)
  · exact c.free X G (List.mem_of_getElem? (i := 7) rfl)
  · exact c.free X G (List.mem_of_getElem? (i := 8) rfl)
  · exact c.free X G (List.mem_of_getElem? (i := 9) rfl)
  · exact c.free X G (List.mem_of_getElem? (i := 10) rfl)
  · exact c.free X G (List.mem_of_getElem? (i := 11) rfl)
  · exact c.free X G (List.mem_of_getElem? (i := 12) rfl)
  · exact c.free X G (List.mem_of_getElem? (i := 13) rfl)
  · exact c.free X G (List.mem_of_getElem? (i := 14) rfl)
  · exact c.at_ X G mem_is_figure (List.mem_of_getElem? (i := 15) rfl) (fun _ _ _ _ _ _ us hl => match us, hl with | [_], _ => rfl)
  · exact c.at_ X G mem_figures_end (List.mem_of_getElem? (i := 16) rfl) (fun _ _ _ _ _ _ us hl => match us, hl with | [_, _], _ => rfl)
  · exact c.at_ X G mem_are_figures (List.mem_of_getElem? (i := 17) rfl) (fun _ _ _ _ _ _ us hl => match us, hl with | [_], _ => rfl)
  · exact c.at_ X G mem_number_of (List.mem_of_getElem? (i := 18) rfl) (fun _ _ _ _ _ _ us hl => match us, hl with | [_, _], _ => rfl)
  · exact c.at_ X G mem_atom_text (List.mem_of_getElem? (i := 19) rfl) (fun _ _ _ _ _ _ us hl => match us, hl with | [_], _ => rfl)
  · exact c.at_ X G mem_text_of (List.mem_of_getElem? (i := 20) rfl) (fun _ _ _ _ _ _ us hl => match us, hl with | [_], _ => rfl)
  · exact c.at_ X G mem_is_letter (List.mem_of_getElem? (i := 21) rfl) (fun _ _ _ _ _ _ us hl => match us, hl with | [_], _ => rfl)
  · exact c.at_ X G mem_string_at (List.mem_of_getElem? (i := 22) rfl) (fun _ _ _ _ _ _ us hl => match us, hl with | [_, _], _ => rfl)
  · exact c.at_ X G mem_number_at (List.mem_of_getElem? (i := 23) rfl) (fun _ _ _ _ _ _ us hl => match us, hl with | [_, _], _ => rfl)
  · exact c.at_ X G mem_atom_at (List.mem_of_getElem? (i := 24) rfl) (fun _ _ _ _ _ _ us hl => match us, hl with | [_, _], _ => rfl)
  · exact c.at_ X G mem_value_of (List.mem_of_getElem? (i := 25) rfl) (fun _ _ _ _ _ _ us hl => match us, hl with | [_], _ => rfl)
  · exact c.at_ X G mem_told (List.mem_of_getElem? (i := 26) rfl) (fun _ _ _ _ _ _ us hl => match us, hl with | [_], _ => rfl)
  · exact c.at_ X G mem_untold (List.mem_of_getElem? (i := 27) rfl) (fun _ _ _ _ _ _ us hl => match us, hl with | [_], _ => rfl)
  · exact c.at_ X G mem__law_box (List.mem_of_getElem? (i := 28) rfl) (fun _ _ _ _ _ _ us hl => match us, hl with | [_], _ => rfl)
  · exact c.at_ X G mem__law_draw (List.mem_of_getElem? (i := 29) rfl) (fun _ _ _ _ _ _ us hl => match us, hl with | [_, _], _ => rfl)
  · exact c.at_ X G mem__law_same (List.mem_of_getElem? (i := 30) rfl) (fun _ _ _ _ _ _ us hl => match us, hl with | [_, _], _ => rfl)
  · exact c.at_ X G mem__law_reads (List.mem_of_getElem? (i := 31) rfl) (fun _ _ _ _ _ _ us hl => match us, hl with | [_], _ => rfl)
  · exact c.at_ X G mem__law_text (List.mem_of_getElem? (i := 32) rfl) (fun _ _ _ _ _ _ us hl => match us, hl with | [_], _ => rfl)
  · exact c.at_ X G mem__law_bent (List.mem_of_getElem? (i := 33) rfl) (fun _ _ _ _ _ _ us hl => match us, hl with | [_, _], _ => rfl)
  · exact c.at_ X G mem__law_right (List.mem_of_getElem? (i := 34) rfl) (fun _ _ _ _ _ _ us hl => match us, hl with | [_], _ => rfl)
  · exact c.at_ X G mem__law_all (List.mem_of_getElem? (i := 35) rfl) (fun _ _ _ _ _ _ us hl => match us, hl with | [_], _ => rfl)
  · exact c.at_ X G mem_law (List.mem_of_getElem? (i := 36) rfl) (fun _ _ _ _ _ _ us hl => match us, hl with | [_], _ => rfl)
  · exact He.str_ok X G (c.d.facts (List.mem_of_getElem? (i := 39) rfl))
  · exact He.str_ok X G (c.d.facts (List.mem_of_getElem? (i := 40) rfl))
  · exact He.str_ok X G (c.d.facts (List.mem_of_getElem? (i := 41) rfl))
  · exact He.str_ok X G (c.d.facts (List.mem_of_getElem? (i := 42) rfl))
  · exact He.int_ok X G (c.d.facts (List.mem_of_getElem? (i := 43) rfl))
  · exact He.int_ok X G (c.d.facts (List.mem_of_getElem? (i := 44) rfl))
  · exact c.glo X G (List.mem_of_getElem? (i := 37) rfl)
  · exact c.xcl X G mem_InvalidText (List.mem_of_getElem? (i := 38) rfl) (fun f hf => by
      simp only [List.mem_cons, List.mem_nil_iff, or_false] at hf
      rcases hf with rfl | rfl
      · exact List.mem_of_getElem? (i := 45) rfl
      · exact List.mem_of_getElem? (i := 46) rfl)
  · exact c.glo X G (List.mem_of_getElem? (i := 38) rfl)
  · exact xis_of b0
  · exact of_decide_eq_true b1
  · decide +kernel
end G
set_option Elab.async false
set_option linter.all false
set_option maxRecDepth 100000
/-! The readings over data, for simp: each bundle's reading at its arguments. -/
namespace G
open PySem PySem.Spec PyProof.Rows L2
section
variable {C : TC} {σ : DS} {H : DH} {Q : DQ} {E : DX1} {DD : DEnds} {a b c : TW C} {t u : BW C} {as : AW C} {s r : SW C}
theorem w_var {i : Nat} : (bVar i : TW C).w σ H Q E = (match σ[i]? with
  | some (some d) => Q d H
  | _ => False) := rfl
theorem w_C {d : D} {v : V} {h : ∀ Z, Rep C.K Z d v} : (bC d v h : TW C).w σ H Q E = Q d H := rfl
theorem w_int {i : Int} : (bInt i : TW C).w σ H Q E = Q (.int i) H := rfl
theorem w_str {i : Str} : (bStr i : TW C).w σ H Q E = Q (.str i) H := rfl
theorem w_bl {i : Bool} : (bBl i : TW C).w σ H Q E = Q (.bl i) H := rfl
theorem w_non : (bNon : TW C).w σ H Q E = Q .non H := rfl
theorem w_op {o : Op2 C} : (bOp o a b).w σ H Q E = a.w σ H (fun x H1 => b.w σ H1 (fun y H2 => o.w x y H2 Q) E) E := rfl
theorem w_chain {o o' : Op2 C} : (bChain o o' a b c).w σ H Q E = a.w σ H (fun x H1 => b.w σ H1 (fun y H2 => o.w x y H2 fun z H3 => match z with
  | .bl k => if k = true then c.w σ H3 (fun u H4 => o'.w y u H4 Q) E else Q (.bl false) H3
  | _ => False) E) E := rfl
theorem w_neg : (bNeg a).w σ H Q E = a.w σ H (fun x H1 => dNeg x H1 Q) E := rfl
theorem w_test {Q : Bool → DH → Prop} : (bTest a).w σ H Q E = a.w σ H (fun x H1 => match x with
  | .bl k => Q k H1
  | _ => False) E := rfl
theorem w_tru {Q : Bool → DH → Prop} : (bTru a).w σ H Q E = a.w σ H (fun x H1 => dTru x H1 Q) E := rfl
theorem w_and {Q : Bool → DH → Prop} : (bAnd t u).w σ H Q E = t.w σ H (fun c H1 => if c = true then u.w σ H1 Q E else Q false H1) E := rfl
theorem w_or {Q : Bool → DH → Prop} : (bOr t u).w σ H Q E = t.w σ H (fun c H1 => if c = true then Q true H1 else u.w σ H1 Q E) E := rfl
theorem w_not {Q : Bool → DH → Prop} : (bNot t).w σ H Q E = t.w σ H (fun c H1 => Q (!c) H1) E := rfl
theorem w_andV : (bAndV a b).w σ H Q E = a.w σ H (fun x H1 => match x with
  | .bl c => if c = true then b.w σ H1 Q E else Q (.bl false) H1
  | _ => False) E := rfl
theorem w_orV : (bOrV a b).w σ H Q E = a.w σ H (fun x H1 => match x with
  | .bl c => if c = true then Q (.bl true) H1 else b.w σ H1 Q E
  | _ => False) E := rfl
theorem w_notV : (bNotV a).w σ H Q E = a.w σ H (fun x H1 => match x with
  | .bl c => Q (.bl (!c)) H1
  | _ => False) E := rfl
theorem w_if : (bIf t a b).w σ H Q E = t.w σ H (fun k H1 => if k = true then a.w σ H1 Q E else b.w σ H1 Q E) E := rfl
theorem w_nil {Q : List D → DH → Prop} : (aNil : AW C).w σ H Q E = Q [] H := rfl
theorem w_cons {Q : List D → DH → Prop} : (aCons a as).w σ H Q E = a.w σ H (fun x H1 => as.w σ H1 (fun xs H2 => Q (x :: xs) H2) E) E := rfl
theorem w_tup : (bTup as).w σ H Q E = as.w σ H (fun ds H1 => ds.length ≤ sizeLine ∧ Q (.tup ds) H1) E := rfl
theorem w_lst {f : Bool} : (bLst f as).w σ H Q E = as.w σ H (fun ds H1 => ds.length ≤ sizeLine ∧ newL f ds H1 Q) E := rfl
theorem w_newT {ds : List D} : newL true ds H Q = Q (.lst ds) H := rfl
theorem w_newF {ds : List D} : newL false ds H Q = ∀ p, H p = none → Q (.ref p) (updD H p (.lst ds)) := rfl
theorem w_sl {f : Bool} {lo hi : OW C} : (bSl f a lo hi).w σ H Q E = a.w σ H (fun x H1 => lo.w σ H1 (fun i H2 => hi.w σ H2 (fun j H3 => dSl f x i j H3 Q) E) E) E := rfl
theorem w_oN {Q : Option Int → DH → Prop} : (oNone : OW C).w σ H Q E = Q none H := rfl
theorem w_oS {Q : Option Int → DH → Prop} : (oSome a).w σ H Q E = a.w σ H (fun x H1 => match x with
  | .int i => Q (some i) H1
  | _ => False) E := rfl
theorem w_B {f : Fn C} : (bB f as).w σ H Q E = as.w σ H (fun ds H1 => f.w ds H1 Q) E := rfl
theorem w_isi {i : Isi C} : (bIsi i a).w σ H Q E = a.w σ H (fun d H1 => optP (tyD H1 d) fun t => optP (i.tab t) fun b => Q (.bl b) H1) E := rfl
theorem w_call {n : Nat} {sp : DSp} : (bCall n sp as).w σ H Q E = as.w σ H (fun ds H1 => ds.length = n ∧ sp ds H1 Q E) E := rfl
theorem w_callN {n m : Nat} {o : List (Sum Nat Nat)} {sp : DSp} : (bCallN n m o sp as).w σ H Q E = as.w σ H (fun es H2 => es.length = m ∧ (ordD o [] es).length = n ∧ sp (ordD o [] es) H2 Q E) E := rfl
theorem w_make {n : Nat} {cn : Str} {sp : DSp} : (bMake cn n sp as).w σ H Q E = as.w σ H (fun ds H1 => ds.length + 1 = n ∧ ∀ x, H1 x = none → sp (.ref x :: ds) (updD H1 x (.ins cn [])) (fun d H2 => d = .non ∧ Q (.ref x) H2) E) E := rfl
theorem w_fld {cs : List Str} {f : Str} {hc : ∀ c ∈ cs, ClsF C.K c f} : (bFld cs f hc a).w σ H Q E = a.w σ H (fun x H1 => onI H1 x fun _ cn fs => cn ∈ cs ∧ optP (fs.lookup f) fun d => Q d H1) E := rfl
theorem w_m {m : Mt C} : (bM m a as).w σ H Q E = a.w σ H (fun x H1 => m.ty x H1 ∧ as.w σ H1 (fun ds H2 => m.w x ds H2 Q) E) E := rfl
theorem w_m0 {m : Mt C} : (bM0 m a).w σ H Q E = a.w σ H (fun x H1 => m.ty x H1 ∧ m.w x [] H1 Q) E := rfl
theorem w_dic {ps : List (Key × TW C)} {hz : ps.length ≤ 15} : (bDic ps hz).w σ H Q E = wPairs ps σ H (fun kvs H1 => ∀ p, H1 p = none → Q (.ref p) (updD H1 p (.dic (mergeD [] kvs)))) E := rfl
theorem w_lc {f : Bool} {vs : List Nat} {i : IW C} {g : GvW C vs} : (bLc f vs i g t a).w σ H Q E = i.w σ H (fun ds gd H1 => lcD gd g.w t.w a.w (wipeD σ vs) (fun acc H2 => newL f acc H2 Q) ds [] H1) E := rfl
theorem w_yes {Q : Bool → DH → Prop} : (bYes : BW C).w σ H Q E = Q true H := rfl
theorem w_frz : (bFrz a).w σ H Q E = a.w σ H (frzQ Q) E := rfl
theorem w_jAny {R : List D → (DH → Prop) → DH → Prop} : (jAny a).w σ H R E = a.w σ H (fun x H1 => dIt x H1 R) E := rfl
theorem w_rng1 {R : List D → (DH → Prop) → DH → Prop} : (jRng1 as).w σ H R E = as.w σ H (fun vs H1 => dRng1 vs H1 R) E := rfl
theorem w_rng2 {R : List D → (DH → Prop) → DH → Prop} : (jRng2 as).w σ H R E = as.w σ H (fun vs H1 => dRng2 vs H1 R) E := rfl
theorem w_zip {R : List D → (DH → Prop) → DH → Prop} : (jZip as).w σ H R E = as.w σ H (fun vs H1 => dZip vs H1 R) E := rfl
theorem w_gNm {i : Nat} {d : D} {Q : DS → DH → Prop} : (gwName i : GW C).w d σ H Q = Q (σ.set i (some d)) H := rfl
theorem w_gvNm {i : Nat} {d : D} {Q : DS → DH → Prop} : (gvName i : GvW C [i]).w d σ H Q = Q (σ.set i (some d)) H := rfl
theorem w_gTup {n : Nat} {g : GsW C} {d : D} {Q : DS → DH → Prop} : (gwTup n g).w d σ H Q = optP (seqD H d) fun ds => ds.length = n ∧ g.w ds σ H Q := rfl
theorem w_gsN {ds : List D} {Q : DS → DH → Prop} : (gsNil : GsW C).w ds σ H Q = (ds = [] ∧ Q σ H) := rfl
theorem w_gsC {g : GW C} {r : GsW C} {d : D} {ds : List D} {Q : DS → DH → Prop} : (gsCons g r).w (d :: ds) σ H Q = g.w d σ H fun σ' H' => r.w ds σ' H' Q := rfl
theorem w_gSub {d : D} {Q : DS → DH → Prop} : (gwSub a b).w d σ H Q = a.w σ H (fun x H1 => b.w σ H1 (fun y H2 => dSet x y d H2 fun H3 => Q σ H3) E0D) E0D := rfl
theorem w_next : (sNext : SW C).w DD σ H = DD.nx σ H := rfl
theorem w_seq : (sSeq s r).w DD σ H = s.w { DD with nx := r.w DD } σ H := rfl
theorem w_brk : (sBrk : SW C).w DD σ H = DD.bk σ H := rfl
theorem w_cnt : (sCnt : SW C).w DD σ H = DD.ct σ H := rfl
theorem w_asg {g : GW C} : (sAsg a g).w DD σ H = a.w σ H (fun x H1 => g.w x σ H1 DD.nx) fun c fs H => DD.ex c fs σ H := rfl
theorem w_drop : (sDrop a).w DD σ H = a.w σ H (fun _ H1 => DD.nx σ H1) fun c fs H => DD.ex c fs σ H := rfl
theorem w_ret : (sRet a).w DD σ H = a.w σ H DD.rt fun c fs H => DD.ex c fs σ H := rfl
theorem w_retF : (sRetF a).w DD σ H = a.w σ H (frzQ DD.rt) fun c fs H => DD.ex c fs σ H := rfl
theorem w_retN : (sRetN : SW C).w DD σ H = DD.rt .non H := rfl
theorem w_sif : (sIf t s r).w DD σ H = t.w σ H (fun k H1 => if k = true then s.w DD σ H1 else r.w DD σ H1) fun c fs H => DD.ex c fs σ H := rfl
theorem w_par {i j : Nat} : (sPar i j as).w DD σ H = as.w σ H (fun ds H1 => match ds with
  | [d, e] => DD.nx ((σ.set i (some d)).set j (some e)) H1
  | _ => False) fun c fs H => DD.ex c fs σ H := rfl
theorem w_aug {i : Nat} {o : Ip C} : (sAug i o a).w DD σ H = (match σ[i]? with
  | some (some x) => a.w σ H (fun y H1 => o.w x y H1 fun z H2 => DD.nx (σ.set i (some z)) H2) fun c fs H => DD.ex c fs σ H
  | _ => False) := rfl
theorem w_for {i : IW C} {g : GW C} : (sFor i g s).w DD σ H = i.w σ H (fun ds gd H1 => forD gd g.w s.w ds DD σ H1) fun c fs H => DD.ex c fs σ H := rfl
theorem w_while : (sWhile t s).w DD σ H = wWhile t.w s.w DD σ H := rfl
theorem w_raise {cn : Str} {fs : List Str} : (sRaise cn fs as).w DD σ H = as.w σ H (fun ds H1 => ds.length = fs.length ∧ DD.ex cn (mkF fs ds) σ H1) fun c fs H => DD.ex c fs σ H := rfl
theorem w_sfld {cs : List Str} {f : Str} {hc : ∀ c ∈ cs, ClsF C.K c f} : (sSFld cs f hc a b).w DD σ H = b.w σ H (fun y H1 => a.w σ H1 (fun x H2 => onI H2 x fun l cn fs => cn ∈ cs ∧ fs.length < 1000 ∧ DD.nx σ (updD H2 l (.ins cn (putFD f y fs)))) fun c fs H => DD.ex c fs σ H) fun c fs H => DD.ex c fs σ H := rfl
theorem w_thru : (sThru s).w DD σ H = s.w { DD with ex := noEx } σ H := rfl
theorem w_sfrz {i : Nat} : (sFrz i s).w DD σ H = wFrz i s.w DD σ H := rfl
end
end G
set_option Elab.async false
set_option linter.all false
set_option maxRecDepth 100000
/-! Plain data: rows, lists of rows; comprehensions and loops over data, in short. -/
namespace G
open PySem PySem.Spec PyProof.Rows L2
theorem szl : sizeLine = 16777216 := sizeLine_eq
/-! ### encodings -/
def row (ns : List Int) : D := .tup (ns.map .int)
def mat (rs : List (List Int)) : D := .tup (rs.map row)
def cub (rs : List (List (List Int))) : D := .tup (rs.map mat)
theorem ints_flat : ∀ ns : List Int, D.flats (ns.map .int) = true
  | [] => rfl
  | n :: ns => by
    show (D.flat (.int n) && D.flats (ns.map .int)) = true
    rw [ints_flat ns]; rfl
theorem flats_map {α : Type} {f : α → D} (h : ∀ a, (f a).flat = true) : ∀ l : List α, D.flats (l.map f) = true
  | [] => rfl
  | a :: l => by
    show ((f a).flat && D.flats (l.map f)) = true
    rw [h a, flats_map h l]; rfl
theorem row_flat (ns : List Int) : (row ns).flat = true := ints_flat ns
theorem mat_flat (rs : List (List Int)) : (mat rs).flat = true := flats_map row_flat rs
theorem cub_flat (rs : List (List (List Int))) : (cub rs).flat = true := flats_map mat_flat rs
theorem flats_all : ∀ ds : List D, D.flats ds = ds.all D.flat
  | [] => rfl
  | d :: ds => by
    show (d.flat && D.flats ds) = _
    rw [flats_all ds]; rfl
theorem flat_mem {ds : List D} (h : D.flats ds = true) {d : D} (hd : d ∈ ds) : d.flat = true := by
  rw [flats_all] at h
  exact List.all_eq_true.mp h d hd
/-! ### comprehensions -/
section
variable {C : TC}
/-- every item by f, the heap as it is -/
theorem lc_map {g : DTG} {te : DTE} {σ : DS} {gd : DH → Prop} {H : DH} {k : List D → DH → Prop} (f : D → D) (hg : gd H) : ∀ (ds acc : List D), acc.length + ds.length ≤ sizeLine →
    (∀ d ∈ ds, ∀ k' : DQ, k' (f d) H → g d σ H fun σ2 H2 => te σ2 H2 k' E0D) → k (acc ++ ds.map f) H → lcD gd g (bYes : BW C).w te σ k ds acc H
  | [], acc, _, _, q => ⟨hg, by rwa [List.map_nil, List.append_nil] at q⟩
  | d :: ds, acc, hz, h, q => by
    refine ⟨hg, ?_⟩
    have h1 := h d List.mem_cons_self (fun y H4 => acc.length < sizeLine ∧ lcD gd g (bYes : BW C).w te σ k ds (acc ++ [y]) H4) ⟨by rw [List.length_cons] at hz; omega, ?_⟩
    · exact h1
    · refine lc_map f hg ds _ (by rw [List.length_append, List.length_cons, List.length_nil]; rw [List.length_cons] at hz; omega) (fun e he => h e (List.mem_cons_of_mem _ he)) ?_
      rw [List.append_assoc]
      exact q
/-- those that the test takes, by f -/
theorem lc_filter {g : DTG} {tt : DTT} {te : DTE} {σ : DS} {gd : DH → Prop} {H : DH} {k : List D → DH → Prop} (p : D → Bool) (f : D → D) (hg : gd H) : ∀ (ds acc : List D), acc.length + ds.length ≤ sizeLine →
    (∀ d ∈ ds, ∀ (k1 : DQ) (k2 : DH → Prop), (p d = true → k1 (f d) H) → (p d = false → k2 H) → g d σ H fun σ2 H2 => tt σ2 H2 (fun b H3 => if b = true then te σ2 H3 k1 E0D else k2 H3) E0D) →
    k (acc ++ (ds.filter p).map f) H → lcD gd g tt te σ k ds acc H
  | [], acc, _, _, q => ⟨hg, by rwa [List.filter_nil, List.map_nil, List.append_nil] at q⟩
  | d :: ds, acc, hz, h, q => by
    refine ⟨hg, ?_⟩
    rw [List.length_cons] at hz
    refine h d List.mem_cons_self _ _ (fun hp => ⟨by omega, ?_⟩) fun hp => ?_
    · refine lc_filter p f hg ds _ (by rw [List.length_append, List.length_cons, List.length_nil]; omega) (fun e he => h e (List.mem_cons_of_mem _ he)) ?_
      rw [List.filter_cons, if_pos hp] at q
      rw [List.append_assoc]
      exact q
    · refine lc_filter p f hg ds _ (by omega) (fun e he => h e (List.mem_cons_of_mem _ he)) ?_
      rwa [List.filter_cons, if_neg (by rw [hp]; exact Bool.false_ne_true)] at q
/-- with a heap that changes: P what holds of the items done, the list so far and the heap -/
theorem lc_inv {g : DTG} {te : DTE} {σ : DS} {gd : DH → Prop} {k : List D → DH → Prop} (ds : List D) (P : Nat → List D → DH → Prop) (hg : ∀ i acc H, P i acc H → gd H)
    (hs : ∀ i d acc H, ds[i]? = some d → P i acc H → acc.length < sizeLine ∧ ∀ k' : DQ, (∀ y H', P (i + 1) (acc ++ [y]) H' → k' y H') → g d σ H fun σ2 H2 => te σ2 H2 k' E0D) (hk : ∀ acc H, P ds.length acc H → k acc H) :
    ∀ (n i : Nat) (acc : List D) (H : DH), i + n = ds.length → P i acc H → lcD gd g (bYes : BW C).w te σ k (ds.drop i) acc H
  | 0, i, acc, H, e, p => by
    rw [List.drop_eq_nil_of_le (by omega)]
    have : i = ds.length := by omega
    subst this
    exact ⟨hg _ _ _ p, hk _ _ p⟩
  | n + 1, i, acc, H, e, p => by
    have hi : i < ds.length := by omega
    rw [List.drop_eq_getElem_cons hi]
    refine ⟨hg _ _ _ p, ?_⟩
    obtain ⟨hz, h⟩ := hs i ds[i] acc H (List.getElem?_eq_getElem hi) p
    exact h (fun y H4 => acc.length < sizeLine ∧ lcD gd g (bYes : BW C).w te σ k (ds.drop (i + 1)) (acc ++ [y]) H4) fun y H' p' => ⟨hz, lc_inv ds P hg hs hk n (i + 1) _ H' (by omega) p'⟩
end
/-! ### loops -/
/-- P: what holds ahead of turn i; a turn ends by the next one, by break, by return or an exception -/
theorem for_inv {gd : DH → Prop} {g : DTG} {b : DTS} {DD : DEnds} (ds : List D) (P : Nat → DS → DH → Prop) (hg : ∀ i σ H, P i σ H → gd H)
    (hs : ∀ i d σ H, ds[i]? = some d → P i σ H → ∀ nx : DS → DH → Prop, (∀ σ' H', P (i + 1) σ' H' → nx σ' H') → g d σ H fun σ2 H2 => b { DD with nx := nx, ct := nx, bk := DD.nx } σ2 H2) (hk : ∀ σ H, P ds.length σ H → DD.nx σ H) :
    ∀ (n i : Nat) (σ : DS) (H : DH), i + n = ds.length → P i σ H → forD gd g b (ds.drop i) DD σ H
  | 0, i, σ, H, e, p => by
    rw [List.drop_eq_nil_of_le (by omega)]
    have : i = ds.length := by omega
    subst this
    exact ⟨hg _ _ _ p, hk _ _ p⟩
  | n + 1, i, σ, H, e, p => by
    have hi : i < ds.length := by omega
    rw [List.drop_eq_getElem_cons hi]
    refine ⟨hg _ _ _ p, ?_⟩
    exact hs i ds[i] σ H (List.getElem?_eq_getElem hi) p (forD gd g b (ds.drop (i + 1)) DD) fun σ' H' p' => for_inv ds P hg hs hk n (i + 1) σ' H' (by omega) p'
theorem for_all {gd : DH → Prop} {g : DTG} {b : DTS} {DD : DEnds} {σ : DS} {H : DH} (ds : List D) (P : Nat → DS → DH → Prop) (h0 : P 0 σ H) (hg : ∀ i σ H, P i σ H → gd H)
    (hs : ∀ i d σ H, ds[i]? = some d → P i σ H → ∀ nx : DS → DH → Prop, (∀ σ' H', P (i + 1) σ' H' → nx σ' H') → g d σ H fun σ2 H2 => b { DD with nx := nx, ct := nx, bk := DD.nx } σ2 H2) (hk : ∀ σ H, P ds.length σ H → DD.nx σ H) : forD gd g b ds DD σ H := by
  have := for_inv (gd := gd) (g := g) (b := b) (DD := DD) ds P hg hs hk ds.length 0 σ H (by omega) h0
  rwa [List.drop_zero] at this
/-! ### ends of a def -/
theorem endsD_rt {Q : DQ} {E : DX1} {d : D} {H : DH} (h : Q d H) : (endsD Q E).rt d H := ⟨H, leD.rfl, h⟩
theorem endsD_nx {Q : DQ} {E : DX1} {σ : DS} {H : DH} (h : Q .non H) : (endsD Q E).nx σ H := ⟨H, leD.rfl, h⟩
theorem endsD_ex {Q : DQ} {E : DX1} {σ : DS} {H : DH} {c : Str} {fs : List (Str × D)} (h : E c fs H) : (endsD Q E).ex c fs σ H := ⟨H, leD.rfl, h⟩
theorem rt_eq {Q : DQ} {E : DX1} : (endsD Q E).rt = fun d H => ∃ H', leD H' H ∧ Q d H' := rfl
/-! ### types -/
def D.ty : D → Ty
  | .non => .non
  | .bl _ => .bl
  | .int _ => .int
  | .str _ => .str
  | .tup _ => .tup
  | .lst _ => .lst
  | .frz _ => .lst
  | .ref _ => .dic
def D.nr : D → Bool
  | .ref _ => false
  | _ => true
theorem D.flat.nr : ∀ {v : D}, v.flat = true → v.nr = true
  | .non, _ => rfl
  | .bl _, _ => rfl
  | .int _, _ => rfl
  | .str _, _ => rfl
  | .tup _, _ => rfl
  | .lst _, _ => rfl
  | .frz _, _ => rfl
  | .ref _, h => h
theorem ty_nr {H : DH} : ∀ {v : D}, v.nr = true → tyD H v = some (.inl v.ty)
  | .non, _ => rfl
  | .bl _, _ => rfl
  | .int _, _ => rfl
  | .str _, _ => rfl
  | .tup _, _ => rfl
  | .lst _, _ => rfl
  | .frz _, _ => rfl
  | .ref _, h => by cases h
def D.isT (v : D) (t : Ty) : Bool := v.ty.sub t
theorem w_isiB {C : TC} {t : Ty} {a : TW C} {σ : DS} {H : DH} {Q : DQ} {E : DX1} : (bIsi (isiB t) a).w σ H Q E = a.w σ H (fun d H1 => optP (tyD H1 d) fun ty => optP (tabB t ty) fun b => Q (.bl b) H1) E := rfl
theorem isi_nr {H : DH} {v : D} {t : Ty} {Q : Bool → Prop} (h : v.nr = true) : (optP (tyD H v) fun ty => optP (tabB t ty) fun b => Q b) = Q (v.isT t) := by
  rw [ty_nr h]; rfl
def D.isI : D → Bool
  | .int _ => true
  | _ => false
theorem isI_eq : ∀ v : D, (v.isT .int && !v.isT .bl) = v.isI
  | .non => rfl
  | .bl _ => rfl
  | .int _ => rfl
  | .str _ => rfl
  | .tup _ => rfl
  | .lst _ => rfl
  | .frz _ => rfl
  | .ref _ => rfl
/-! ### operators, functions at data -/
section
variable {C : TC} {H : DH} {Q : DQ} {i j : Int}
theorem o_sub : (opSub : Op2 C).w (.int i) (.int j) H Q = Q (.int (i - j)) H := rfl
theorem o_mod : (opMod : Op2 C).w (.int i) (.int j) H Q = (0 < j ∧ Q (.int (i % j)) H) := rfl
theorem o_fdiv : (opFdiv : Op2 C).w (.int i) (.int j) H Q = (CDivW i j ∧ Q (.int (i / j)) H) := rfl
theorem o_pow : (opPow : Op2 C).w (.int i) (.int j) H Q = (CPow i j ∧ Q (.int (i ^ j.toNat)) H) := rfl
theorem o_lt : (opLt : Op2 C).w (.int i) (.int j) H Q = Q (.bl (decide (i < j))) H := rfl
theorem o_le : (opLe : Op2 C).w (.int i) (.int j) H Q = Q (.bl (decide (i ≤ j))) H := rfl
theorem o_gt : (opGt : Op2 C).w (.int i) (.int j) H Q = Q (.bl (decide (j < i))) H := rfl
theorem o_ge : (opGe : Op2 C).w (.int i) (.int j) H Q = Q (.bl (decide (j ≤ i))) H := rfl
theorem o_add {f : Bool} : (opAdd f : Op2 C).w (.int i) (.int j) H Q = Q (.int (i + j)) H := rfl
theorem o_addT {f : Bool} {a b : List D} : (opAdd f : Op2 C).w (.tup a) (.tup b) H Q = (a.length + b.length ≤ sizeLine ∧ Q (.tup (a ++ b)) H) := rfl
theorem o_addL {a b : List D} : (opAdd true : Op2 C).w (.lst a) (.lst b) H Q = (a.length + b.length ≤ sizeLine ∧ Q (.lst (a ++ b)) H) := by
  show (_ ∧ if true = true then _ else _) = _
  rw [if_pos rfl]
theorem o_mul {f : Bool} : (opMul f : Op2 C).w (.int i) (.int j) H Q = (CMulW i j ∧ Q (.int (i * j)) H) := rfl
theorem o_mulT {f : Bool} {a : List D} : (opMul f : Op2 C).w (.tup a) (.int j) H Q = (a ≠ [] ∧ -1000 ≤ j ∧ j ≤ 1000 ∧ a.length ≤ 1000 ∧ Q (.tup (List.replicate j.toNat a).flatten) H) := rfl
theorem o_ixT {ds : List D} : (opIx : Op2 C).w (.tup ds) (.int i) H Q = optP (atI ds i) fun d => Q d H := by
  show (match atI ds i with | some d => Q d H | none => False) = _
  cases atI ds i <;> rfl
theorem o_ixL {ds : List D} : (opIx : Op2 C).w (.lst ds) (.int i) H Q = optP (atI ds i) fun d => Q d H := by
  show (match atI ds i with | some d => Q d H | none => False) = _
  cases atI ds i <;> rfl
theorem o_ixF {ds : List D} : (opIx : Op2 C).w (.frz ds) (.int i) H Q = optP (atI ds i) fun d => Q d H := by
  show (match atI ds i with | some d => Q d H | none => False) = _
  cases atI ds i <;> rfl
theorem o_eq {d e : D} : (opEq : Op2 C).w d e H Q = (d.shp = true ∧ e.shp = true ∧ Q (.bl (d.eq e)) H) := by
  show (_ ∧ _ ∧ Q (.bl (d.eq e ^^ false)) H) = _
  rw [Bool.xor_false]
theorem o_ne {d e : D} : (opNe : Op2 C).w d e H Q = (d.shp = true ∧ e.shp = true ∧ Q (.bl (!d.eq e)) H) := by
  show (_ ∧ _ ∧ Q (.bl (d.eq e ^^ true)) H) = _
  rw [Bool.xor_true]
theorem o_isN {d : D} : (opIs false : Op2 C).w d .non H Q = Q (.bl d.isNon) H := by
  show dIs false d .non H Q = _
  unfold dIs
  cases d <;> simp
theorem o_isNotN {d : D} : (opIs true : Op2 C).w d .non H Q = Q (.bl (!d.isNon)) H := by
  show dIs true d .non H Q = _
  unfold dIs
  cases d <;> simp
theorem o_isB {n a b : Bool} : (opIs n : Op2 C).w (.bl a) (.bl b) H Q = Q (.bl ((a == b) ^^ n)) H := rfl
theorem eqI : (D.int i).eq (.int j) = decide (i = j) := by
  show PyData.eqv (.int i) (.int j) = _
  rw [PyData.eqv, Bool.beq_eq_decide_eq]
theorem o_eqI : (opEq : Op2 C).w (.int i) (.int j) H Q = Q (.bl (decide (i = j))) H := by
  rw [o_eq, eqI, show (D.int i).shp = true from rfl, show (D.int j).shp = true from rfl]
  simp only [true_and]
theorem o_neI : (opNe : Op2 C).w (.int i) (.int j) H Q = Q (.bl (!decide (i = j))) H := by
  rw [o_ne, eqI, show (D.int i).shp = true from rfl, show (D.int j).shp = true from rfl]
  simp only [true_and]
theorem f_all {ds : List D} : (fAll : Fn C).w ds H Q = dAll ds H Q := rfl
theorem f_any {ds : List D} : (fAny : Fn C).w ds H Q = dAny ds H Q := rfl
theorem f_lenT {ds : List D} : (fLen : Fn C).w [.tup ds] H Q = Q (.int ds.length) H := rfl
theorem f_lenL {ds : List D} : (fLen : Fn C).w [.lst ds] H Q = Q (.int ds.length) H := rfl
theorem f_lenF {ds : List D} : (fLen : Fn C).w [.frz ds] H Q = Q (.int ds.length) H := rfl
theorem f_abs : (fAbs : Fn C).w [.int i] H Q = Q (.int (if i < 0 then -i else i)) H := rfl
theorem f_int : (fInt : Fn C).w [.int i] H Q = Q (.int i) H := rfl
theorem f_tupL {ds : List D} : (fTuple : Fn C).w [.lst ds] H Q = Q (.tup ds) H := rfl
theorem f_tupT {ds : List D} : (fTuple : Fn C).w [.tup ds] H Q = Q (.tup ds) H := rfl
theorem f_listT {ds : List D} {f : Bool} : (fList f : Fn C).w [.tup ds] H Q = newL f ds H Q := rfl
theorem f_sumL {ns : List Int} : (fSum : Fn C).w [.lst (ns.map .int)] H Q = Q (.int ns.sum) H := by
  show optP (some (ns.map D.int)) (fun ds => optP (intsOf ds) fun ns => Q (.int ns.sum) H) = _
  show optP (intsOf (ns.map D.int)) _ = _
  rw [intsOf_map]; rfl
theorem i_tup {ds : List D} {R : List D → (DH → Prop) → DH → Prop} : dIt (.tup ds) H R = R ds (fun _ => True) H := rfl
theorem i_lst {ds : List D} {R : List D → (DH → Prop) → DH → Prop} : dIt (.lst ds) H R = R ds (fun _ => True) H := rfl
theorem i_frz {ds : List D} {R : List D → (DH → Prop) → DH → Prop} : dIt (.frz ds) H R = R ds (fun _ => True) H := rfl
theorem i_rng {R : List D → (DH → Prop) → DH → Prop} : dRng1 [.int i] H R = (-(2 ^ 62) ≤ i ∧ i < 2 ^ 62 ∧ R ((List.range i.toNat).map fun k => D.int (k : Nat)) (fun _ => True) H) := rfl
theorem i_zipT {a b : List D} {R : List D → (DH → Prop) → DH → Prop} : dZip [.tup a, .tup b] H R = R (zipD a b) (fun _ => True) H := rfl
theorem i_zipL {a b : List D} {R : List D → (DH → Prop) → DH → Prop} : dZip [.lst a, .lst b] H R = R (zipD a b) (fun _ => True) H := rfl
theorem s_tup {ds : List D} : seqD H (.tup ds) = some ds := rfl
theorem s_lst {ds : List D} : seqD H (.lst ds) = some ds := rfl
theorem p_some {α : Type} {a : α} {p : α → Prop} : optP (some a) p = p a := rfl
theorem u_bl {b : Bool} {Q : Bool → DH → Prop} : dTru (.bl b) H Q = Q b H := rfl
theorem u_int {Q : Bool → DH → Prop} : dTru (.int i) H Q = Q (i != 0) H := rfl
theorem u_tup {ds : List D} {Q : Bool → DH → Prop} : dTru (.tup ds) H Q = Q (!ds.isEmpty) H := rfl
theorem u_lst {ds : List D} {Q : Bool → DH → Prop} : dTru (.lst ds) H Q = Q (!ds.isEmpty) H := rfl
/-- a and b, of two answers -/
theorem if_and {a b : Bool} : (if a = true then Q (.bl b) H else Q (.bl false) H) = Q (.bl (a && b)) H := by
  cases a <;> rfl
theorem if_or {a b : Bool} : (if a = true then Q (.bl true) H else Q (.bl b) H) = Q (.bl (a || b)) H := by
  cases a <;> rfl
end
/-- all([p(x) for x in xs]) -/
theorem lc_all {C : TC} {g : DTG} {te : DTE} {σ : DS} {gd : DH → Prop} {H : DH} {Q : DQ} {ds : List D} (p : D → Bool) (hg : gd H) (hz : ds.length ≤ sizeLine)
    (h : ∀ d ∈ ds, ∀ k' : DQ, k' (.bl (p d)) H → g d σ H fun σ2 H2 => te σ2 H2 k' E0D) (q : Q (.bl (ds.all p)) H) : lcD gd g (bYes : BW C).w te σ (fun acc H2 => dAll [.lst acc] H2 Q) ds [] H := by
  refine lc_map (fun d => .bl (p d)) hg ds [] (by simpa using hz) h ?_
  show optP (blsOf (ds.map fun d => .bl (p d))) _
  have e : ds.map (fun d => D.bl (p d)) = (ds.map p).map D.bl := by rw [List.map_map]; rfl
  rw [e, blsOf_map]
  show Q (.bl ((ds.map p).all id)) H
  rw [List.all_map]
  exact q
/-- [out(i) for i in range(n)] -/
theorem lc_rng {C : TC} {g : DTG} {te : DTE} {σ : DS} {gd : DH → Prop} {H : DH} {k : List D → DH → Prop} {n : Nat} (out : Nat → D) (hg : gd H) (hz : n ≤ sizeLine)
    (h : ∀ i, i < n → ∀ k' : DQ, k' (out i) H → g (.int (i : Nat)) σ H fun σ2 H2 => te σ2 H2 k' E0D) (q : k ((List.range n).map out) H) : lcD gd g (bYes : BW C).w te σ k ((List.range n).map fun i => D.int (i : Nat)) [] H := by
  refine lc_map (fun d => match d with | .int i => out i.toNat | _ => .non) hg _ [] (by rw [List.length_map, List.length_range]; simpa using hz) (fun d hd k' hk => ?_) ?_
  · obtain ⟨i, hi, rfl⟩ := List.mem_map.mp hd
    exact h i (List.mem_range.mp hi) k' (by simpa using hk)
  · rw [List.nil_append, List.map_map]
    exact q
/-- [out(x) for x in xs], xs by a list of any kind -/
theorem lc_of {C : TC} {g : DTG} {te : DTE} {σ : DS} {gd : DH → Prop} {H : DH} {k : List D → DH → Prop} {α : Type} {e : α → D} {out : α → D} (xs : List α) (hg : gd H) (hz : xs.length ≤ sizeLine)
    (h : ∀ x ∈ xs, ∀ k' : DQ, k' (out x) H → g (e x) σ H fun σ2 H2 => te σ2 H2 k' E0D) (q : k (xs.map out) H) : lcD gd g (bYes : BW C).w te σ k (xs.map e) [] H := by
  have key : ∀ (xs : List α) (acc : List D), acc.length + xs.length ≤ sizeLine → (∀ x ∈ xs, ∀ k' : DQ, k' (out x) H → g (e x) σ H fun σ2 H2 => te σ2 H2 k' E0D) → k (acc ++ xs.map out) H → lcD gd g (bYes : BW C).w te σ k (xs.map e) acc H := by
    intro xs
    induction xs with
    | nil => exact fun acc _ _ q => ⟨hg, by rwa [List.map_nil, List.append_nil] at q⟩
    | cons x xs ih =>
      intro acc hz h q
      rw [List.length_cons] at hz
      refine ⟨hg, h x List.mem_cons_self (fun y H4 => acc.length < sizeLine ∧ lcD gd g (bYes : BW C).w te σ k (xs.map e) (acc ++ [y]) H4) ⟨by omega, ?_⟩⟩
      refine ih _ (by rw [List.length_append, List.length_cons, List.length_nil]; omega) (fun y hy => h y (List.mem_cons_of_mem _ hy)) ?_
      rw [List.append_assoc]
      exact q
  exact key xs [] (by simpa using hz) h q
theorem mulW {i j : Int} (hi : i.natAbs < 2 ^ 100) (hj : j.natAbs < 2 ^ 100) : CMulW i j := wide_mul hi hj (by decide) (by decide) (by decide)
theorem mulW0 {i j : Int} (hi : 0 ≤ i) (hi2 : i < 2 ^ 100) (hj : 0 ≤ j) (hj2 : j < 2 ^ 100) : CMulW i j := mulW (by omega) (by omega)
end G
set_option Elab.async false
set_option linter.all false
set_option maxRecDepth 100000
/-! Lists that stand at an address. -/
namespace G
open PySem PySem.Spec PyProof.Rows L2
theorem atI_nat {α : Type} {xs : List α} {i : Nat} {v : α} (h : xs[i]? = some v) : atI xs (i : Int) = some v := by
  have hl := (List.getElem?_eq_some_iff.mp h).1
  have e : ixN xs.length (i : Int) = some i := by
    unfold ixN
    rw [if_pos (by omega)]
    simp [hl]
  unfold atI
  rw [e]
  exact h
theorem atI_last {α : Type} {xs : List α} {v : α} : atI (xs ++ [v]) (-1) = some v := by
  have e : ixN (xs ++ [v]).length (-1) = some xs.length := by
    unfold ixN
    rw [if_neg (by omega), List.length_append, List.length_cons, List.length_nil]
    simp
    omega
  unfold atI
  rw [e]
  simp
theorem row_at {r : List Int} {i : Nat} (h : i < r.length) : atI (r.map D.int) (i : Int) = some (.int r[i]) := atI_nat (by rw [List.getElem?_map, List.getElem?_eq_getElem h]; rfl)
theorem le_szl {n : Nat} (h : n ≤ 1000) : n ≤ sizeLine := by rw [szl]; omega
section
variable {C : TC} {H : DH} {Q : DQ} {l : Addr} {ds : List D} {d : D}
theorem onL_at {P : Addr → List D → Prop} (h : H l = some (.lst ds)) : onL H (.ref l) P = P l ds := by
  show optP (H l) _ = _
  rw [h]; rfl
theorem lstD_at (h : H l = some (.lst ds)) : lstD H (.ref l) = some ds := by
  show (match H l with
    | some (.lst ds) => some ds
    | _ => none) = some ds
  rw [h]
theorem seqD_at (h : H l = some (.lst ds)) : seqD H (.ref l) = some ds := lstD_at h
theorem ty_at (h : H l = some (.lst ds)) : (mAppend : Mt C).ty (.ref l) H := by
  show (lstD H (.ref l)).isSome = true
  rw [lstD_at h]; rfl
theorem ty_atP (h : H l = some (.lst ds)) : (mPop0 : Mt C).ty (.ref l) H := by
  show (lstD H (.ref l)).isSome = true
  rw [lstD_at h]; rfl
theorem ap_at {a : D} (h : H l = some (.lst ds)) (hz : ds.length < sizeLine) (q : Q .non (updD H l (.lst (ds ++ [a])))) : (mAppend : Mt C).w (.ref l) [a] H Q := by
  show onL H (.ref l) (fun l ds => ds.length < sizeLine ∧ Q .non (updD H l (.lst (ds ++ [a]))))
  rw [onL_at h]
  exact ⟨hz, q⟩
theorem pop_last (h : H l = some (.lst (ds ++ [d]))) (q : Q d (updD H l (.lst ds))) : (mPop0 : Mt C).w (.ref l) [] H Q := by
  show onL H (.ref l) fun l ds => optP (ds[ds.length - 1]?) fun y => Q y (updD H l (.lst ds.dropLast))
  rw [onL_at h, List.dropLast_concat]
  have e : (ds ++ [d])[(ds ++ [d]).length - 1]? = some d := by simp
  rw [e]
  exact q
theorem u_ref {Q : Bool → DH → Prop} (h : H l = some (.lst ds)) : dTru (.ref l) H Q = Q (!ds.isEmpty) H := by
  refine propext ⟨fun ⟨o, e, q⟩ => ?_, fun q => ⟨_, h, q⟩⟩
  rw [h] at e
  cases e
  exact q
theorem f_lenR (h : H l = some (.lst ds)) : (fLen : Fn C).w [.ref l] H Q = Q (.int ds.length) H := by
  refine propext ⟨fun ⟨o, e, q⟩ => ?_, fun q => ⟨_, h, q⟩⟩
  rw [h] at e
  cases e
  exact q
theorem f_tupR (h : H l = some (.lst ds)) : (fTuple : Fn C).w [.ref l] H Q = Q (.tup ds) H := by
  show optP (seqD H (.ref l)) _ = _
  rw [seqD_at h]; rfl
theorem it_ref {R : List D → (DH → Prop) → DH → Prop} {ds : List D} (h : H l = some (.lst ds)) : dIt (.ref l) H R = R ds (fun H' => H' l = some (.lst ds)) H := by
  refine propext ⟨fun ⟨o, e, q⟩ => ?_, fun q => ⟨_, h, q⟩⟩
  rw [h] at e
  cases e
  exact q
theorem ix_l {i : Int} (h : H l = some (.lst ds)) : (opIx : Op2 C).w (.ref l) (.int i) H Q = optP (atI ds i) fun d => Q d H := by
  refine propext ⟨fun ⟨o, e, q⟩ => ?_, fun q => ⟨_, h, ?_⟩⟩
  · rw [h] at e
    cases e
    have q : (match atI ds i with
      | some d => Q d H
      | none => False) := q
    cases ha : atI ds i with
    | none => rw [ha] at q; exact q
    | some d => rw [ha] at q; exact q
  · show (match atI ds i with
      | some d => Q d H
      | none => False)
    cases ha : atI ds i with
    | none => rw [ha] at q; exact q
    | some d => rw [ha] at q; exact q
theorem set_l {i : Nat} {v : D} {Q : DH → Prop} (h : H l = some (.lst ds)) (hi : i < ds.length) : dSet (.ref l) (.int (i : Int)) v H Q = Q (updD H l (.lst (ds.set i v))) := by
  show optP (H l) _ = _
  rw [h]
  show optP (ixN ds.length (i : Int)) _ = _
  have e : ixN ds.length (i : Int) = some i := by
    unfold ixN
    rw [if_pos (by omega)]
    simp [hi]
  rw [e]; rfl
theorem set_last {v : D} {Q : DH → Prop} (h : H l = some (.lst (ds ++ [d]))) : dSet (.ref l) (.int (-1)) v H Q = Q (updD H l (.lst (ds ++ [v]))) := by
  show optP (H l) _ = _
  rw [h]
  show optP (ixN (ds ++ [d]).length (-1)) _ = _
  have e : ixN (ds ++ [d]).length (-1) = some ds.length := by
    unfold ixN
    rw [if_neg (by omega), List.length_append, List.length_cons, List.length_nil]
    simp
    omega
  rw [e]
  show Q (updD H l (.lst ((ds ++ [d]).set ds.length v))) = _
  rw [List.set_append_right _ _ (Nat.le_refl _), Nat.sub_self]
  rfl
end
/-- what is new or was changed stands at addresses that H did not know -/
theorem leD.updR {H H' : DH} {p : Addr} {o : DO} (h : leD H H') (hp : H p = none) : leD H (updD H' p o) := fun a u e => by
  rw [updD_ne (ne_of_noneD e hp)]
  exact h a u e
theorem leD.none {H H' : DH} {p : Addr} (h : leD H H') (hp : H' p = none) : H p = none := by
  cases e : H p with
  | none => rfl
  | some o => rw [h p o e] at hp; cases hp
theorem endsD_le {Q : DQ} {E : DX1} {d : D} {H H' : DH} (h : Q d H') (l : leD H' H) : (endsD Q E).rt d H := ⟨H', l, h⟩
end G
set_option Elab.async false
set_option linter.all false
set_option maxRecDepth 100000
namespace G
open PySem PySem.Spec PyProof.Rows L2
/-! Texts as lists of signs. -/
/-- the text of these signs -/
abbrev S (l : List Nat) : PySem.Str := ⟨l.toArray⟩
def okl (l : List Nat) : Bool := l.all fun c => decide (c < 1114112)
section
variable {C : TC} {H : DH} {Q : DQ}
theorem S_app (a b : List Nat) : S a ++ S b = S (a ++ b) := by
  show PySem.Str.mk (a.toArray ++ b.toArray) = PySem.Str.mk (a ++ b).toArray
  rw [List.append_toArray]
theorem S_len (a : List Nat) : (S a).length = a.length := by
  show a.toArray.size = _
  rw [List.size_toArray]
theorem S_inj {a b : List Nat} : S a = S b ↔ a = b := ⟨fun h => by
  have h1 : a.toArray = b.toArray := congrArg PySem.Str.cps h
  have := congrArg Array.toList h1
  simpa using this, fun h => by rw [h]⟩
theorem S_of (x : PySem.Str) : x = S x.cps.toList := by
  cases x with
  | mk a => show PySem.Str.mk a = PySem.Str.mk a.toList.toArray; rw [Array.toArray_toList]
theorem okl_app {a b : List Nat} : okl (a ++ b) = (okl a && okl b) := List.all_append
theorem okl_drop {a : List Nat} {n : Nat} (h : okl a = true) : okl (a.drop n) = true := List.all_eq_true.mpr fun c hc => List.all_eq_true.mp h c (List.mem_of_mem_drop hc)
theorem okl_take {a : List Nat} {n : Nat} (h : okl a = true) : okl (a.take n) = true := List.all_eq_true.mpr fun c hc => List.all_eq_true.mp h c (List.mem_of_mem_take hc)
theorem shpS {a : List Nat} : (D.str (S a)).shp = okl a := by
  show (true && (PySem.PyData.canLay0 (.str (S a)) && decide ((PySem.PyData.str (S a)).depth ≤ 64))) = _
  rw [Bool.true_and, show (PySem.PyData.str (S a)).depth = 0 from rfl, show decide (0 ≤ 64) = true from rfl, Bool.and_true]
  show PySem.PyData.strOk (S a) = _
  unfold PySem.PyData.strOk okl
  rw [← Array.all_toList]
theorem eqS {a b : List Nat} : (D.str (S a)).eq (.str (S b)) = decide (a = b) := by
  show (S a == S b) = _
  by_cases h : a = b
  · rw [h, decide_eq_true rfl]; exact beq_self_eq_true _
  · rw [decide_eq_false h]
    exact beq_eq_false_iff_ne.mpr fun e => h (S_inj.mp e)
theorem o_eqS {a b : List Nat} : (opEq : Op2 C).w (.str (S a)) (.str (S b)) H Q = (okl a = true ∧ okl b = true ∧ Q (.bl (decide (a = b))) H) := by
  rw [o_eq, shpS, shpS, eqS]
theorem o_neS {a b : List Nat} : (opNe : Op2 C).w (.str (S a)) (.str (S b)) H Q = (okl a = true ∧ okl b = true ∧ Q (.bl (!decide (a = b))) H) := by
  rw [o_ne, shpS, shpS, eqS]
theorem o_addS {f : Bool} {a b : List Nat} : (opAdd f : Op2 C).w (.str (S a)) (.str (S b)) H Q = (a.length + b.length ≤ sizeLine ∧ Q (.str (S (a ++ b))) H) := by
  rw [← S_app, ← S_len a, ← S_len b]; rfl
theorem f_lenS {a : List Nat} : (fLen : Fn C).w [.str (S a)] H Q = (a.length ≤ sizeLine ∧ Q (.int (a.length : Nat)) H) := by
  rw [← S_len a]; rfl
theorem sl_S {f : Bool} {a : List Nat} {lo hi : Option Int} : dSl f (.str (S a)) lo hi H Q = (a.length ≤ sizeLine ∧ Q (.str (cutS (S a) lo hi)) H) := by
  rw [← S_len a]; rfl
theorem cut2 {T : List Nat} {a b : Nat} : cutS (S T) (some (a : Int)) (some (b : Int)) = S ((T.drop a).take (b - a)) := by
  unfold cutS
  rw [HT.sIx_nat, HT.sIx_nat, S_len]
  show S _ = S _
  rw [S_inj]
  show (T.toArray.toList.drop _).take _ = _
  rw [List.toList_toArray]
  by_cases h : a ≤ T.length
  · rw [Nat.min_eq_left h]
    by_cases h2 : b ≤ T.length
    · rw [Nat.min_eq_left h2]
    · rw [Nat.min_eq_right (by omega), List.take_of_length_le (by rw [List.length_drop]; omega), List.take_of_length_le (by rw [List.length_drop]; omega)]
  · rw [Nat.min_eq_right (show T.length ≤ a by omega), List.drop_of_length_le (Nat.le_refl _), List.drop_of_length_le (by omega), List.take_nil, List.take_nil]
theorem cut1 {T : List Nat} {a : Nat} : cutS (S T) (some (a : Int)) (some ((a : Int) + 1)) = S ((T.drop a).take 1) := by
  have := cut2 (T := T) (a := a) (b := a + 1)
  rw [Nat.add_sub_cancel_left] at this
  exact this
theorem ixS {a : List Nat} {i c : Nat} (h : a[i]? = some c) : (opIx : Op2 C).w (.str (S a)) (.int (i : Int)) H Q = (a.length ≤ sizeLine ∧ Q (.str (S [c])) H) := by
  have e : atI (S a).cps.toList (i : Int) = some c := by
    show atI a.toArray.toList _ = _
    rw [List.toList_toArray]
    have hl := (List.getElem?_eq_some_iff.mp h).1
    have e : ixN a.length (i : Int) = some i := by
      unfold ixN
      rw [if_pos (by omega)]
      simp [hl]
    unfold atI
    rw [e]
    exact h
  show ((S a).length ≤ sizeLine ∧ match atI (S a).cps.toList (i : Int) with
      | some c => Q (.str ⟨#[c]⟩) H
      | none => False) = _
  rw [e, S_len]
theorem o_inL {c : Nat} {z : List Nat} : (opInS : Op2 C).w (.str (S [c])) (.str (S z)) H Q = Q (.bl (decide (c ∈ z))) H := by
  rw [show S [c] = ⟨#[c]⟩ from rfl, o_inS]
theorem w_M {m : Mt C} {a : TW C} {as : AW C} {σ : DS} {E : DX1} : (bM m a as).w σ H Q E = a.w σ H (fun x H1 => m.ty x H1 ∧ as.w σ H1 (fun ds H2 => m.w x ds H2 Q) E) E := rfl
/-- joined with nothing between -/
theorem join0 : ∀ ys : List (List Nat), Txt.join (S []) (ys.map S) = S ys.flatten := fun ys => by
  rw [TL.join_eq]
  induction ys with
  | nil => rfl
  | cons y ys ih =>
    cases ys with
    | nil =>
      show S y = S [y].flatten
      rw [List.flatten_cons, List.flatten_nil, List.append_nil]
    | cons z r =>
      show S y ++ S [] ++ PySem.Str.join (S []) ((z :: r).map S) = _
      rw [ih, S_app y [], List.append_nil, S_app y]
      rfl
theorem m_joinT {ys : List (List Nat)} : (mJoin : Mt C).w (.str (S [])) [.lst (ys.map fun y => .str (S y))] H Q = (ys.flatten.length ≤ 16777216 ∧ Q (.str (S ys.flatten)) H) := by
  have e0 : ((ys.map S).map (·.length)).sum = ys.flatten.length := by
    rw [List.map_map, List.length_flatten]
    exact congrArg List.sum (List.map_congr_left fun y _ => S_len y)
  have em : (ys.map fun y => D.str (S y)) = (ys.map S).map .str := by rw [List.map_map]; rfl
  show optP (some (ys.map fun y => D.str (S y))) (fun ds => ∃ zs : List PySem.Str, ds = zs.map .str ∧ (zs.map (·.length)).sum + zs.length * (S []).length ≤ 16777216 ∧ Q (.str (Txt.join (S []) zs)) H) = _
  refine propext ⟨fun ⟨zs, h1, h2, h3⟩ => ?_, fun ⟨h1, h2⟩ => ⟨ys.map S, em, ?_, ?_⟩⟩
  · rw [em] at h1
    have : zs = ys.map S := (List.map_inj_right (fun _ _ h => D.str.inj h)).mp h1.symm
    subst this
    rw [e0, S_len, List.length_nil, Nat.mul_zero, Nat.add_zero] at h2
    rw [join0] at h3
    exact ⟨h2, h3⟩
  · rw [e0, S_len, List.length_nil, Nat.mul_zero]
    exact h1
  · rw [join0]; exact h2
theorem seq_ref {l : Addr} {ds : List D} (h : H l = some (.lst ds)) : seqD H (.ref l) = some ds := by
  show (match H l with
    | some (.lst ds) => some ds
    | _ => none) = _
  rw [h]
theorem m_joinR {l : Addr} {ys : List (List Nat)} (h : H l = some (.lst (ys.map fun y => .str (S y)))) : (mJoin : Mt C).w (.str (S [])) [.ref l] H Q = (ys.flatten.length ≤ 16777216 ∧ Q (.str (S ys.flatten)) H) := by
  refine Eq.trans ?_ (m_joinT (C := C) (H := H) (Q := Q))
  show optP (seqD H (.ref l)) (fun ds => ∃ zs : List PySem.Str, ds = zs.map .str ∧ (zs.map (·.length)).sum + zs.length * (S []).length ≤ 16777216 ∧ Q (.str (Txt.join (S []) zs)) H) = optP (some (ys.map fun y => D.str (S y))) (fun ds => ∃ zs : List PySem.Str, ds = zs.map .str ∧ (zs.map (·.length)).sum + zs.length * (S []).length ≤ 16777216 ∧ Q (.str (Txt.join (S []) zs)) H)
  rw [seq_ref h]
theorem ty_joinS {x : PySem.Str} : (mJoin : Mt C).ty (.str x) H := ⟨x, rfl⟩
end
/-! ### longest prefix -/
theorem tw_yes {p : Nat → Bool} {T : List Nat} {e : Nat} (h : ((T.drop e).take 1).any p = true) : e < T.length ∧ ((T.drop e).takeWhile p).length = ((T.drop (e + 1)).takeWhile p).length + 1 := by
  by_cases he : e < T.length
  · rw [List.drop_eq_getElem_cons he, List.take_succ_cons, List.take_zero, List.any_cons, List.any_nil, Bool.or_false] at h
    refine ⟨he, ?_⟩
    rw [List.drop_eq_getElem_cons he, List.takeWhile_cons, if_pos h, List.length_cons]
  · rw [List.drop_of_length_le (by omega)] at h
    cases h
theorem tw_no {p : Nat → Bool} {T : List Nat} {e : Nat} (h : ((T.drop e).take 1).any p = false) : ((T.drop e).takeWhile p).length = 0 := by
  cases h2 : T.drop e with
  | nil => rfl
  | cons c r =>
    rw [h2, List.take_succ_cons, List.take_zero, List.any_cons, List.any_nil, Bool.or_false] at h
    rw [List.takeWhile_cons, h]
    rfl
end G
set_option Elab.async false
set_option linter.all false
set_option maxRecDepth 100000
namespace G
open PySem PySem.Spec PyProof.Rows L2
section
variable {K : PySem.W.Frag}
theorem lit_nil : ("" : PySem.Str) = S [] := by decide +kernel
theorem lit_figs : ("0123456789" : PySem.Str) = S [48, 49, 50, 51, 52, 53, 54, 55, 56, 57] := by decide +kernel
theorem lit_lets : ("abcdefghijklmnopqrstuvwxyz" : PySem.Str) = S [97, 98, 99, 100, 101, 102, 103, 104, 105, 106, 107, 108, 109, 110, 111, 112, 113, 114, 115, 116, 117, 118, 119, 120, 121, 122] := by decide +kernel
theorem lit_0 : ("0" : PySem.Str) = S [48] := by decide +kernel
theorem lit_dash : ("-" : PySem.Str) = S [45] := by decide +kernel
theorem lit_quote : ("\"" : PySem.Str) = S [34] := by decide +kernel
theorem lit_open : ("(" : PySem.Str) = S [40] := by decide +kernel
theorem lit_close : (")" : PySem.Str) = S [41] := by decide +kernel
theorem lit_comma : ("," : PySem.Str) = S [44] := by decide +kernel
def isD (c : Nat) : Bool := decide (48 ≤ c) && decide (c ≤ 57)
def isL (c : Nat) : Bool := decide (97 ≤ c) && decide (c ≤ 122)
theorem isD_mem (c : Nat) : decide (c ∈ [48, 49, 50, 51, 52, 53, 54, 55, 56, 57]) = isD c := by
  unfold isD
  rw [← Bool.decide_and]
  refine decide_eq_decide.mpr ⟨fun h => ?_, fun h => ?_⟩
  · simp only [List.mem_cons, List.not_mem_nil, or_false] at h
    omega
  · simp only [List.mem_cons, List.not_mem_nil, or_false]
    omega
theorem isL_mem (c : Nat) : decide (c ∈ [97, 98, 99, 100, 101, 102, 103, 104, 105, 106, 107, 108, 109, 110, 111, 112, 113, 114, 115, 116, 117, 118, 119, 120, 121, 122]) = isL c := by
  unfold isL
  rw [← Bool.decide_and]
  refine decide_eq_decide.mpr ⟨fun h => ?_, fun h => ?_⟩
  · simp only [List.mem_cons, List.not_mem_nil, or_false] at h
    omega
  · simp only [List.mem_cons, List.not_mem_nil, or_false]
    omega
theorem one_sign {l : List Nat} (h : l.length ≤ 1) : l = [] ∨ ∃ c, l = [c] := by
  cases l with
  | nil => exact .inl rfl
  | cons c r =>
    cases r with
    | nil => exact .inr ⟨c, rfl⟩
    | cons d r => rw [List.length_cons, List.length_cons] at h; omega
def sp_sign (p : Nat → Bool) : DSp := fun ds H Q _ => ∃ l, ds = [.str (S l)] ∧ l.length ≤ 1 ∧ okl l = true ∧ Q (.bl (l.any p)) H
abbrev sp_is_figure : DSp := sp_sign isD
abbrev sp_is_letter : DSp := sp_sign isL
theorem w_is_figure : ∀ ds H Q E, ds.length = 1 → sp_is_figure ds H Q E → (b_is_figure K).w (endsD Q E) (startD ["sign"] ds) H := by
  rintro _ H Q E - ⟨l, rfl, hl, hk, q⟩
  simp only [b_is_figure, show startD ["sign"] [.str (S l)] = [some (.str (S l))] from rfl, lit_nil, lit_figs, o_neS, w_notT, w_isiBC, w_ret, w_retF, w_retN, w_sif, w_seq, w_asg, w_drop, w_par, w_aug, w_for, w_next, w_brk, w_cnt, w_sfld, w_raise, w_thru, w_andV, w_orV, w_notV, w_and, w_or, w_not, w_if, w_test, w_tru, w_isiB, w_var, w_int, w_str, w_bl, w_non, w_op, w_chain, w_neg, w_cons, w_nil, w_tup, w_lst, w_newT, w_sl, w_oN, w_oS, w_B, w_call, w_fld, w_lc, w_yes, w_jAny, w_rng1, w_rng2, w_zip, w_gNm, w_gvNm, w_gTup, w_gsN, w_gsC, o_sub, o_mod, o_lt, o_le, o_gt, o_ge, o_add, o_addT, o_addL, o_mul, o_ixT, o_ixL, o_ixF, o_eqI, o_neI, o_isN, o_isNotN, o_isB, f_all, f_lenT, f_lenL, f_lenF, f_int, f_tupL, f_tupT, i_tup, i_lst, i_frz, i_rng, i_zipT, i_zipL, s_tup, s_lst, p_some, u_bl, u_int, u_tup, u_lst, wipeD, List.getElem?_cons_zero, List.getElem?_cons_succ, List.set_cons_zero, List.set_cons_succ, List.length_cons, List.length_nil, true_and, and_true, if_and, if_or, Bool.false_eq_true, if_false, if_true, ite_true, ite_false, Bool.not_true, Bool.not_false]
  refine ⟨hk, rfl, ?_⟩
  obtain rfl | ⟨c, rfl⟩ := one_sign hl
  · exact endsD_rt q
  · simp only [show decide ([c] = ([] : List Nat)) = false from decide_eq_false (by simp), o_inL, isD_mem, w_notT, w_isiBC, w_ret, w_retF, w_retN, w_sif, w_seq, w_asg, w_drop, w_par, w_aug, w_for, w_next, w_brk, w_cnt, w_sfld, w_raise, w_thru, w_andV, w_orV, w_notV, w_and, w_or, w_not, w_if, w_test, w_tru, w_isiB, w_var, w_int, w_str, w_bl, w_non, w_op, w_chain, w_neg, w_cons, w_nil, w_tup, w_lst, w_newT, w_sl, w_oN, w_oS, w_B, w_call, w_fld, w_lc, w_yes, w_jAny, w_rng1, w_rng2, w_zip, w_gNm, w_gvNm, w_gTup, w_gsN, w_gsC, o_sub, o_mod, o_lt, o_le, o_gt, o_ge, o_add, o_addT, o_addL, o_mul, o_ixT, o_ixL, o_ixF, o_eqI, o_neI, o_isN, o_isNotN, o_isB, f_all, f_lenT, f_lenL, f_lenF, f_int, f_tupL, f_tupT, i_tup, i_lst, i_frz, i_rng, i_zipT, i_zipL, s_tup, s_lst, p_some, u_bl, u_int, u_tup, u_lst, wipeD, List.getElem?_cons_zero, List.getElem?_cons_succ, List.set_cons_zero, List.set_cons_succ, List.length_cons, List.length_nil, true_and, and_true, if_and, if_or, Bool.false_eq_true, if_false, if_true, ite_true, ite_false, Bool.not_true, Bool.not_false]
    rw [List.any_cons, List.any_nil, Bool.or_false] at q
    exact endsD_rt q
theorem w_is_letter : ∀ ds H Q E, ds.length = 1 → sp_is_letter ds H Q E → (b_is_letter K).w (endsD Q E) (startD ["sign"] ds) H := by
  rintro _ H Q E - ⟨l, rfl, hl, hk, q⟩
  simp only [b_is_letter, show startD ["sign"] [.str (S l)] = [some (.str (S l))] from rfl, lit_nil, lit_lets, o_neS, w_notT, w_isiBC, w_ret, w_retF, w_retN, w_sif, w_seq, w_asg, w_drop, w_par, w_aug, w_for, w_next, w_brk, w_cnt, w_sfld, w_raise, w_thru, w_andV, w_orV, w_notV, w_and, w_or, w_not, w_if, w_test, w_tru, w_isiB, w_var, w_int, w_str, w_bl, w_non, w_op, w_chain, w_neg, w_cons, w_nil, w_tup, w_lst, w_newT, w_sl, w_oN, w_oS, w_B, w_call, w_fld, w_lc, w_yes, w_jAny, w_rng1, w_rng2, w_zip, w_gNm, w_gvNm, w_gTup, w_gsN, w_gsC, o_sub, o_mod, o_lt, o_le, o_gt, o_ge, o_add, o_addT, o_addL, o_mul, o_ixT, o_ixL, o_ixF, o_eqI, o_neI, o_isN, o_isNotN, o_isB, f_all, f_lenT, f_lenL, f_lenF, f_int, f_tupL, f_tupT, i_tup, i_lst, i_frz, i_rng, i_zipT, i_zipL, s_tup, s_lst, p_some, u_bl, u_int, u_tup, u_lst, wipeD, List.getElem?_cons_zero, List.getElem?_cons_succ, List.set_cons_zero, List.set_cons_succ, List.length_cons, List.length_nil, true_and, and_true, if_and, if_or, Bool.false_eq_true, if_false, if_true, ite_true, ite_false, Bool.not_true, Bool.not_false]
  refine ⟨hk, rfl, ?_⟩
  obtain rfl | ⟨c, rfl⟩ := one_sign hl
  · exact endsD_rt q
  · simp only [show decide ([c] = ([] : List Nat)) = false from decide_eq_false (by simp), o_inL, isL_mem, w_notT, w_isiBC, w_ret, w_retF, w_retN, w_sif, w_seq, w_asg, w_drop, w_par, w_aug, w_for, w_next, w_brk, w_cnt, w_sfld, w_raise, w_thru, w_andV, w_orV, w_notV, w_and, w_or, w_not, w_if, w_test, w_tru, w_isiB, w_var, w_int, w_str, w_bl, w_non, w_op, w_chain, w_neg, w_cons, w_nil, w_tup, w_lst, w_newT, w_sl, w_oN, w_oS, w_B, w_call, w_fld, w_lc, w_yes, w_jAny, w_rng1, w_rng2, w_zip, w_gNm, w_gvNm, w_gTup, w_gsN, w_gsC, o_sub, o_mod, o_lt, o_le, o_gt, o_ge, o_add, o_addT, o_addL, o_mul, o_ixT, o_ixL, o_ixF, o_eqI, o_neI, o_isN, o_isNotN, o_isB, f_all, f_lenT, f_lenL, f_lenF, f_int, f_tupL, f_tupT, i_tup, i_lst, i_frz, i_rng, i_zipT, i_zipL, s_tup, s_lst, p_some, u_bl, u_int, u_tup, u_lst, wipeD, List.getElem?_cons_zero, List.getElem?_cons_succ, List.set_cons_zero, List.set_cons_succ, List.length_cons, List.length_nil, true_and, and_true, if_and, if_or, Bool.false_eq_true, if_false, if_true, ite_true, ite_false, Bool.not_true, Bool.not_false]
    rw [List.any_cons, List.any_nil, Bool.or_false] at q
    exact endsD_rt q
/-- a text of signs, not too long -/
def TxOk (T : List Nat) : Prop := okl T = true ∧ T.length ≤ 1000000
theorem TxOk.sz {T : List Nat} (h : TxOk T) : T.length ≤ sizeLine := by
  have := h.2
  rw [szl]; omega
theorem TxOk.sub {T : List Nat} (h : TxOk T) (a b : Nat) : TxOk ((T.drop a).take b) := ⟨okl_take (okl_drop h.1), by
  rw [List.length_take, List.length_drop]
  have := h.2
  omega⟩
theorem len_take1 {l : List Nat} : (l.take 1).length ≤ 1 := by rw [List.length_take]; omega
def sp_figures_end : DSp := fun ds H Q _ => ∃ (T : List Nat) (a : Nat), ds = [.str (S T), .int (a : Int)] ∧ TxOk T ∧ Q (.int ((a + ((T.drop a).takeWhile isD).length : Nat) : Int)) H
theorem w_figures_end : ∀ ds H Q E, ds.length = 2 → sp_figures_end ds H Q E → (b_figures_end K sp_is_figure).w (endsD Q E) (startD ["text", "at", "end"] ds) H := by
  rintro _ H Q E - ⟨T, a, rfl, hT, q⟩
  simp only [b_figures_end, show startD ["text", "at", "end"] [.str (S T), .int (a : Int)] = [some (.str (S T)), some (.int (a : Int)), none] from rfl, w_while, w_notT, w_isiBC, w_ret, w_retF, w_retN, w_sif, w_seq, w_asg, w_drop, w_par, w_aug, w_for, w_next, w_brk, w_cnt, w_sfld, w_raise, w_thru, w_andV, w_orV, w_notV, w_and, w_or, w_not, w_if, w_test, w_tru, w_isiB, w_var, w_int, w_str, w_bl, w_non, w_op, w_chain, w_neg, w_cons, w_nil, w_tup, w_lst, w_newT, w_sl, w_oN, w_oS, w_B, w_call, w_fld, w_lc, w_yes, w_jAny, w_rng1, w_rng2, w_zip, w_gNm, w_gvNm, w_gTup, w_gsN, w_gsC, o_sub, o_mod, o_lt, o_le, o_gt, o_ge, o_add, o_addT, o_addL, o_mul, o_ixT, o_ixL, o_ixF, o_eqI, o_neI, o_isN, o_isNotN, o_isB, f_all, f_lenT, f_lenL, f_lenF, f_int, f_tupL, f_tupT, i_tup, i_lst, i_frz, i_rng, i_zipT, i_zipL, s_tup, s_lst, p_some, u_bl, u_int, u_tup, u_lst, wipeD, List.getElem?_cons_zero, List.getElem?_cons_succ, List.set_cons_zero, List.set_cons_succ, List.length_cons, List.length_nil, true_and, and_true, if_and, if_or, Bool.false_eq_true, if_false, if_true, ite_true, ite_false, Bool.not_true, Bool.not_false]
  refine ⟨fun m σ H' => ∃ e : Nat, σ = [some (.str (S T)), some (.int (a : Int)), some (.int (e : Int))] ∧ H' = H ∧ m = T.length - e ∧ e + ((T.drop e).takeWhile isD).length = a + ((T.drop a).takeWhile isD).length, ⟨_, a, rfl, rfl, rfl, rfl⟩, ?_⟩
  rintro m _ _ ⟨e, rfl, rfl, rfl, he⟩
  simp only [sl_S, cut1, w_notT, w_isiBC, w_ret, w_retF, w_retN, w_sif, w_seq, w_asg, w_drop, w_par, w_aug, w_for, w_next, w_brk, w_cnt, w_sfld, w_raise, w_thru, w_andV, w_orV, w_notV, w_and, w_or, w_not, w_if, w_test, w_tru, w_isiB, w_var, w_int, w_str, w_bl, w_non, w_op, w_chain, w_neg, w_cons, w_nil, w_tup, w_lst, w_newT, w_sl, w_oN, w_oS, w_B, w_call, w_fld, w_lc, w_yes, w_jAny, w_rng1, w_rng2, w_zip, w_gNm, w_gvNm, w_gTup, w_gsN, w_gsC, o_sub, o_mod, o_lt, o_le, o_gt, o_ge, o_add, o_addT, o_addL, o_mul, o_ixT, o_ixL, o_ixF, o_eqI, o_neI, o_isN, o_isNotN, o_isB, f_all, f_lenT, f_lenL, f_lenF, f_int, f_tupL, f_tupT, i_tup, i_lst, i_frz, i_rng, i_zipT, i_zipL, s_tup, s_lst, p_some, u_bl, u_int, u_tup, u_lst, wipeD, List.getElem?_cons_zero, List.getElem?_cons_succ, List.set_cons_zero, List.set_cons_succ, List.length_cons, List.length_nil, true_and, and_true, if_and, if_or, Bool.false_eq_true, if_false, if_true, ite_true, ite_false, Bool.not_true, Bool.not_false]
  refine ⟨hT.sz, _, rfl, len_take1, (hT.sub e 1).1, ?_⟩
  simp only [w_notT, w_isiBC, w_ret, w_retF, w_retN, w_sif, w_seq, w_asg, w_drop, w_par, w_aug, w_for, w_next, w_brk, w_cnt, w_sfld, w_raise, w_thru, w_andV, w_orV, w_notV, w_and, w_or, w_not, w_if, w_test, w_tru, w_isiB, w_var, w_int, w_str, w_bl, w_non, w_op, w_chain, w_neg, w_cons, w_nil, w_tup, w_lst, w_newT, w_sl, w_oN, w_oS, w_B, w_call, w_fld, w_lc, w_yes, w_jAny, w_rng1, w_rng2, w_zip, w_gNm, w_gvNm, w_gTup, w_gsN, w_gsC, o_sub, o_mod, o_lt, o_le, o_gt, o_ge, o_add, o_addT, o_addL, o_mul, o_ixT, o_ixL, o_ixF, o_eqI, o_neI, o_isN, o_isNotN, o_isB, f_all, f_lenT, f_lenL, f_lenF, f_int, f_tupL, f_tupT, i_tup, i_lst, i_frz, i_rng, i_zipT, i_zipL, s_tup, s_lst, p_some, u_bl, u_int, u_tup, u_lst, wipeD, List.getElem?_cons_zero, List.getElem?_cons_succ, List.set_cons_zero, List.set_cons_succ, List.length_cons, List.length_nil, true_and, and_true, if_and, if_or, Bool.false_eq_true, if_false, if_true, ite_true, ite_false, Bool.not_true, Bool.not_false]
  cases hb : ((T.drop e).take 1).any isD with
  | true =>
    obtain ⟨h1, h2⟩ := tw_yes hb
    simp only [w_notT, w_isiBC, w_ret, w_retF, w_retN, w_sif, w_seq, w_asg, w_drop, w_par, w_aug, w_for, w_next, w_brk, w_cnt, w_sfld, w_raise, w_thru, w_andV, w_orV, w_notV, w_and, w_or, w_not, w_if, w_test, w_tru, w_isiB, w_var, w_int, w_str, w_bl, w_non, w_op, w_chain, w_neg, w_cons, w_nil, w_tup, w_lst, w_newT, w_sl, w_oN, w_oS, w_B, w_call, w_fld, w_lc, w_yes, w_jAny, w_rng1, w_rng2, w_zip, w_gNm, w_gvNm, w_gTup, w_gsN, w_gsC, o_sub, o_mod, o_lt, o_le, o_gt, o_ge, o_add, o_addT, o_addL, o_mul, o_ixT, o_ixL, o_ixF, o_eqI, o_neI, o_isN, o_isNotN, o_isB, f_all, f_lenT, f_lenL, f_lenF, f_int, f_tupL, f_tupT, i_tup, i_lst, i_frz, i_rng, i_zipT, i_zipL, s_tup, s_lst, p_some, u_bl, u_int, u_tup, u_lst, wipeD, List.getElem?_cons_zero, List.getElem?_cons_succ, List.set_cons_zero, List.set_cons_succ, List.length_cons, List.length_nil, true_and, and_true, if_and, if_or, Bool.false_eq_true, if_false, if_true, ite_true, ite_false, Bool.not_true, Bool.not_false]
    exact ⟨_, by omega, e + 1, rfl, rfl, rfl, by omega⟩
  | false =>
    have h2 := tw_no hb
    simp only [w_notT, w_isiBC, w_ret, w_retF, w_retN, w_sif, w_seq, w_asg, w_drop, w_par, w_aug, w_for, w_next, w_brk, w_cnt, w_sfld, w_raise, w_thru, w_andV, w_orV, w_notV, w_and, w_or, w_not, w_if, w_test, w_tru, w_isiB, w_var, w_int, w_str, w_bl, w_non, w_op, w_chain, w_neg, w_cons, w_nil, w_tup, w_lst, w_newT, w_sl, w_oN, w_oS, w_B, w_call, w_fld, w_lc, w_yes, w_jAny, w_rng1, w_rng2, w_zip, w_gNm, w_gvNm, w_gTup, w_gsN, w_gsC, o_sub, o_mod, o_lt, o_le, o_gt, o_ge, o_add, o_addT, o_addL, o_mul, o_ixT, o_ixL, o_ixF, o_eqI, o_neI, o_isN, o_isNotN, o_isB, f_all, f_lenT, f_lenL, f_lenF, f_int, f_tupL, f_tupT, i_tup, i_lst, i_frz, i_rng, i_zipT, i_zipL, s_tup, s_lst, p_some, u_bl, u_int, u_tup, u_lst, wipeD, List.getElem?_cons_zero, List.getElem?_cons_succ, List.set_cons_zero, List.set_cons_succ, List.length_cons, List.length_nil, true_and, and_true, if_and, if_or, Bool.false_eq_true, if_false, if_true, ite_true, ite_false, Bool.not_true, Bool.not_false]
    rw [← he, h2] at q
    exact endsD_rt q
/-- figures without a needless 0 -/
def figs (l : List Nat) : Bool := !decide (l = []) && (l.all isD && (decide (l = [48]) || !decide (l.take 1 = [48])))
theorem tw_all {p : Nat → Bool} : ∀ {l : List Nat}, (l.takeWhile p).length = l.length ↔ l.all p = true
  | [] => by simp
  | c :: l => by
    rw [List.takeWhile_cons, List.all_cons, List.length_cons]
    cases h : p c with
    | false => simp
    | true =>
      rw [if_pos rfl, List.length_cons, Nat.add_right_cancel_iff, Bool.true_and]
      exact tw_all
def sp_are_figures : DSp := fun ds H Q _ => ∃ l, ds = [.str (S l)] ∧ TxOk l ∧ Q (.bl (figs l)) H
theorem w_are_figures : ∀ ds H Q E, ds.length = 1 → sp_are_figures ds H Q E → (b_are_figures K sp_figures_end).w (endsD Q E) (startD ["word"] ds) H := by
  rintro _ H Q E - ⟨l, rfl, hT, q⟩
  simp only [b_are_figures, show startD ["word"] [.str (S l)] = [some (.str (S l))] from rfl, lit_nil, lit_0, o_eqS, w_notT, w_isiBC, w_ret, w_retF, w_retN, w_sif, w_seq, w_asg, w_drop, w_par, w_aug, w_for, w_next, w_brk, w_cnt, w_sfld, w_raise, w_thru, w_andV, w_orV, w_notV, w_and, w_or, w_not, w_if, w_test, w_tru, w_isiB, w_var, w_int, w_str, w_bl, w_non, w_op, w_chain, w_neg, w_cons, w_nil, w_tup, w_lst, w_newT, w_sl, w_oN, w_oS, w_B, w_call, w_fld, w_lc, w_yes, w_jAny, w_rng1, w_rng2, w_zip, w_gNm, w_gvNm, w_gTup, w_gsN, w_gsC, o_sub, o_mod, o_lt, o_le, o_gt, o_ge, o_add, o_addT, o_addL, o_mul, o_ixT, o_ixL, o_ixF, o_eqI, o_neI, o_isN, o_isNotN, o_isB, f_all, f_lenT, f_lenL, f_lenF, f_int, f_tupL, f_tupT, i_tup, i_lst, i_frz, i_rng, i_zipT, i_zipL, s_tup, s_lst, p_some, u_bl, u_int, u_tup, u_lst, wipeD, List.getElem?_cons_zero, List.getElem?_cons_succ, List.set_cons_zero, List.set_cons_succ, List.length_cons, List.length_nil, true_and, and_true, if_and, if_or, Bool.false_eq_true, if_false, if_true, ite_true, ite_false, Bool.not_true, Bool.not_false]
  refine ⟨hT.1, rfl, ?_⟩
  unfold figs at q
  by_cases h0 : l = []
  · rw [decide_eq_true h0] at q ⊢
    simp only [w_notT, w_isiBC, w_ret, w_retF, w_retN, w_sif, w_seq, w_asg, w_drop, w_par, w_aug, w_for, w_next, w_brk, w_cnt, w_sfld, w_raise, w_thru, w_andV, w_orV, w_notV, w_and, w_or, w_not, w_if, w_test, w_tru, w_isiB, w_var, w_int, w_str, w_bl, w_non, w_op, w_chain, w_neg, w_cons, w_nil, w_tup, w_lst, w_newT, w_sl, w_oN, w_oS, w_B, w_call, w_fld, w_lc, w_yes, w_jAny, w_rng1, w_rng2, w_zip, w_gNm, w_gvNm, w_gTup, w_gsN, w_gsC, o_sub, o_mod, o_lt, o_le, o_gt, o_ge, o_add, o_addT, o_addL, o_mul, o_ixT, o_ixL, o_ixF, o_eqI, o_neI, o_isN, o_isNotN, o_isB, f_all, f_lenT, f_lenL, f_lenF, f_int, f_tupL, f_tupT, i_tup, i_lst, i_frz, i_rng, i_zipT, i_zipL, s_tup, s_lst, p_some, u_bl, u_int, u_tup, u_lst, wipeD, List.getElem?_cons_zero, List.getElem?_cons_succ, List.set_cons_zero, List.set_cons_succ, List.length_cons, List.length_nil, true_and, and_true, if_and, if_or, Bool.false_eq_true, if_false, if_true, ite_true, ite_false, Bool.not_true, Bool.not_false]
    exact endsD_rt q
  · rw [decide_eq_false h0] at q ⊢
    simp only [w_notT, w_isiBC, w_ret, w_retF, w_retN, w_sif, w_seq, w_asg, w_drop, w_par, w_aug, w_for, w_next, w_brk, w_cnt, w_sfld, w_raise, w_thru, w_andV, w_orV, w_notV, w_and, w_or, w_not, w_if, w_test, w_tru, w_isiB, w_var, w_int, w_str, w_bl, w_non, w_op, w_chain, w_neg, w_cons, w_nil, w_tup, w_lst, w_newT, w_sl, w_oN, w_oS, w_B, w_call, w_fld, w_lc, w_yes, w_jAny, w_rng1, w_rng2, w_zip, w_gNm, w_gvNm, w_gTup, w_gsN, w_gsC, o_sub, o_mod, o_lt, o_le, o_gt, o_ge, o_add, o_addT, o_addL, o_mul, o_ixT, o_ixL, o_ixF, o_eqI, o_neI, o_isN, o_isNotN, o_isB, f_all, f_lenT, f_lenL, f_lenF, f_int, f_tupL, f_tupT, i_tup, i_lst, i_frz, i_rng, i_zipT, i_zipL, s_tup, s_lst, p_some, u_bl, u_int, u_tup, u_lst, wipeD, List.getElem?_cons_zero, List.getElem?_cons_succ, List.set_cons_zero, List.set_cons_succ, List.length_cons, List.length_nil, true_and, and_true, if_and, if_or, Bool.false_eq_true, if_false, if_true, ite_true, ite_false, Bool.not_true, Bool.not_false]
    refine ⟨l, 0, rfl, hT, ?_⟩
    rw [List.drop_zero, Nat.zero_add]
    simp only [f_lenS, w_notT, w_isiBC, w_ret, w_retF, w_retN, w_sif, w_seq, w_asg, w_drop, w_par, w_aug, w_for, w_next, w_brk, w_cnt, w_sfld, w_raise, w_thru, w_andV, w_orV, w_notV, w_and, w_or, w_not, w_if, w_test, w_tru, w_isiB, w_var, w_int, w_str, w_bl, w_non, w_op, w_chain, w_neg, w_cons, w_nil, w_tup, w_lst, w_newT, w_sl, w_oN, w_oS, w_B, w_call, w_fld, w_lc, w_yes, w_jAny, w_rng1, w_rng2, w_zip, w_gNm, w_gvNm, w_gTup, w_gsN, w_gsC, o_sub, o_mod, o_lt, o_le, o_gt, o_ge, o_add, o_addT, o_addL, o_mul, o_ixT, o_ixL, o_ixF, o_eqI, o_neI, o_isN, o_isNotN, o_isB, f_all, f_lenT, f_lenL, f_lenF, f_int, f_tupL, f_tupT, i_tup, i_lst, i_frz, i_rng, i_zipT, i_zipL, s_tup, s_lst, p_some, u_bl, u_int, u_tup, u_lst, wipeD, List.getElem?_cons_zero, List.getElem?_cons_succ, List.set_cons_zero, List.set_cons_succ, List.length_cons, List.length_nil, true_and, and_true, if_and, if_or, Bool.false_eq_true, if_false, if_true, ite_true, ite_false, Bool.not_true, Bool.not_false]
    refine ⟨hT.sz, ?_⟩
    cases h1 : l.all isD with
    | false =>
      rw [h1] at q
      have e : decide ((((l.takeWhile isD).length : Nat) : Int) = ((l.length : Nat) : Int)) = false := decide_eq_false fun e => by
        have := tw_all.mp (Int.ofNat_inj.mp e)
        rw [h1] at this; cases this
      rw [e]
      simp only [w_notT, w_isiBC, w_ret, w_retF, w_retN, w_sif, w_seq, w_asg, w_drop, w_par, w_aug, w_for, w_next, w_brk, w_cnt, w_sfld, w_raise, w_thru, w_andV, w_orV, w_notV, w_and, w_or, w_not, w_if, w_test, w_tru, w_isiB, w_var, w_int, w_str, w_bl, w_non, w_op, w_chain, w_neg, w_cons, w_nil, w_tup, w_lst, w_newT, w_sl, w_oN, w_oS, w_B, w_call, w_fld, w_lc, w_yes, w_jAny, w_rng1, w_rng2, w_zip, w_gNm, w_gvNm, w_gTup, w_gsN, w_gsC, o_sub, o_mod, o_lt, o_le, o_gt, o_ge, o_add, o_addT, o_addL, o_mul, o_ixT, o_ixL, o_ixF, o_eqI, o_neI, o_isN, o_isNotN, o_isB, f_all, f_lenT, f_lenL, f_lenF, f_int, f_tupL, f_tupT, i_tup, i_lst, i_frz, i_rng, i_zipT, i_zipL, s_tup, s_lst, p_some, u_bl, u_int, u_tup, u_lst, wipeD, List.getElem?_cons_zero, List.getElem?_cons_succ, List.set_cons_zero, List.set_cons_succ, List.length_cons, List.length_nil, true_and, and_true, if_and, if_or, Bool.false_eq_true, if_false, if_true, ite_true, ite_false, Bool.not_true, Bool.not_false]
      exact endsD_rt q
    | true =>
      rw [h1] at q
      rw [tw_all.mpr h1, decide_eq_true rfl]
      simp only [w_notT, w_isiBC, w_ret, w_retF, w_retN, w_sif, w_seq, w_asg, w_drop, w_par, w_aug, w_for, w_next, w_brk, w_cnt, w_sfld, w_raise, w_thru, w_andV, w_orV, w_notV, w_and, w_or, w_not, w_if, w_test, w_tru, w_isiB, w_var, w_int, w_str, w_bl, w_non, w_op, w_chain, w_neg, w_cons, w_nil, w_tup, w_lst, w_newT, w_sl, w_oN, w_oS, w_B, w_call, w_fld, w_lc, w_yes, w_jAny, w_rng1, w_rng2, w_zip, w_gNm, w_gvNm, w_gTup, w_gsN, w_gsC, o_sub, o_mod, o_lt, o_le, o_gt, o_ge, o_add, o_addT, o_addL, o_mul, o_ixT, o_ixL, o_ixF, o_eqI, o_neI, o_isN, o_isNotN, o_isB, f_all, f_lenT, f_lenL, f_lenF, f_int, f_tupL, f_tupT, i_tup, i_lst, i_frz, i_rng, i_zipT, i_zipL, s_tup, s_lst, p_some, u_bl, u_int, u_tup, u_lst, wipeD, List.getElem?_cons_zero, List.getElem?_cons_succ, List.set_cons_zero, List.set_cons_succ, List.length_cons, List.length_nil, true_and, and_true, if_and, if_or, Bool.false_eq_true, if_false, if_true, ite_true, ite_false, Bool.not_true, Bool.not_false]
      refine ⟨hT.1, rfl, ?_⟩
      cases l with
      | nil => exact absurd rfl h0
      | cons c r =>
        by_cases h2 : c :: r = [48]
        · rw [decide_eq_true h2] at q ⊢
          simp only [w_notT, w_isiBC, w_ret, w_retF, w_retN, w_sif, w_seq, w_asg, w_drop, w_par, w_aug, w_for, w_next, w_brk, w_cnt, w_sfld, w_raise, w_thru, w_andV, w_orV, w_notV, w_and, w_or, w_not, w_if, w_test, w_tru, w_isiB, w_var, w_int, w_str, w_bl, w_non, w_op, w_chain, w_neg, w_cons, w_nil, w_tup, w_lst, w_newT, w_sl, w_oN, w_oS, w_B, w_call, w_fld, w_lc, w_yes, w_jAny, w_rng1, w_rng2, w_zip, w_gNm, w_gvNm, w_gTup, w_gsN, w_gsC, o_sub, o_mod, o_lt, o_le, o_gt, o_ge, o_add, o_addT, o_addL, o_mul, o_ixT, o_ixL, o_ixF, o_eqI, o_neI, o_isN, o_isNotN, o_isB, f_all, f_lenT, f_lenL, f_lenF, f_int, f_tupL, f_tupT, i_tup, i_lst, i_frz, i_rng, i_zipT, i_zipL, s_tup, s_lst, p_some, u_bl, u_int, u_tup, u_lst, wipeD, List.getElem?_cons_zero, List.getElem?_cons_succ, List.set_cons_zero, List.set_cons_succ, List.length_cons, List.length_nil, true_and, and_true, if_and, if_or, Bool.false_eq_true, if_false, if_true, ite_true, ite_false, Bool.not_true, Bool.not_false]
          exact endsD_rt q
        · rw [decide_eq_false h2] at q ⊢
          have ix0 := fun (Q : DQ) => ixS (C := plainC K) (H := H) (Q := Q) (a := c :: r) (i := 0) (c := c) rfl
          simp only [show ((0 : Nat) : Int) = 0 from rfl] at ix0
          simp only [ix0, o_neS, w_notT, w_isiBC, w_ret, w_retF, w_retN, w_sif, w_seq, w_asg, w_drop, w_par, w_aug, w_for, w_next, w_brk, w_cnt, w_sfld, w_raise, w_thru, w_andV, w_orV, w_notV, w_and, w_or, w_not, w_if, w_test, w_tru, w_isiB, w_var, w_int, w_str, w_bl, w_non, w_op, w_chain, w_neg, w_cons, w_nil, w_tup, w_lst, w_newT, w_sl, w_oN, w_oS, w_B, w_call, w_fld, w_lc, w_yes, w_jAny, w_rng1, w_rng2, w_zip, w_gNm, w_gvNm, w_gTup, w_gsN, w_gsC, o_sub, o_mod, o_lt, o_le, o_gt, o_ge, o_add, o_addT, o_addL, o_mul, o_ixT, o_ixL, o_ixF, o_eqI, o_neI, o_isN, o_isNotN, o_isB, f_all, f_lenT, f_lenL, f_lenF, f_int, f_tupL, f_tupT, i_tup, i_lst, i_frz, i_rng, i_zipT, i_zipL, s_tup, s_lst, p_some, u_bl, u_int, u_tup, u_lst, wipeD, List.getElem?_cons_zero, List.getElem?_cons_succ, List.set_cons_zero, List.set_cons_succ, List.length_cons, List.length_nil, true_and, and_true, if_and, if_or, Bool.false_eq_true, if_false, if_true, ite_true, ite_false, Bool.not_true, Bool.not_false]
          refine ⟨hT.sz, ?_, rfl, ?_⟩
          · have := hT.1
            unfold okl at this ⊢
            rw [List.all_cons, Bool.and_eq_true] at this
            rw [List.all_cons, this.1]; rfl
          · exact endsD_rt q
theorem digs_of {l : List Nat} (h : l.all isD = true) : NumText.AllDigits l := fun c hc => by
  have := List.all_eq_true.mp h c hc
  unfold isD at this
  rw [Bool.and_eq_true, decide_eq_true_eq, decide_eq_true_eq] at this
  exact this
theorem f_intS {C : TC} {H : DH} {Q : DQ} {l : List Nat} (h : figs l = true) (hz : l.length ≤ 640) (q : Q (.int (NumText.digitsVal l : Nat)) H) : (fIntS : Fn C).w [.str (S l)] H Q := by
  unfold figs at h
  rw [Bool.and_eq_true, Bool.and_eq_true] at h
  refine ⟨_, ?_, by rw [S_len]; exact hz, q⟩
  have e : (S l).cps.toList = l := List.toList_toArray
  have := intText_digits (x := S l) (by rw [e]; exact digs_of h.2.1) (by rw [e]; intro e0; rw [e0] at h; cases h.1) (by rw [S_len]; omega)
  rw [this, e]
def sp_number_of : DSp := fun ds H Q _ => ∃ (l : List Nat) (m : Int), ds = [.str (S l), .int m] ∧ TxOk l ∧ m ≤ 640 ∧ Q (if (decide (m < (l.length : Nat)) || !figs l) = true then .non else .int (NumText.digitsVal l : Nat)) H
theorem w_number_of : ∀ ds H Q E, ds.length = 2 → sp_number_of ds H Q E → (b_number_of K sp_are_figures).w (endsD Q E) (startD ["word", "most"] ds) H := by
  rintro _ H Q E - ⟨l, m, rfl, hT, hm, q⟩
  simp only [b_number_of, show startD ["word", "most"] [.str (S l), .int m] = [some (.str (S l)), some (.int m)] from rfl, f_lenS, w_notT, w_isiBC, w_ret, w_retF, w_retN, w_sif, w_seq, w_asg, w_drop, w_par, w_aug, w_for, w_next, w_brk, w_cnt, w_sfld, w_raise, w_thru, w_andV, w_orV, w_notV, w_and, w_or, w_not, w_if, w_test, w_tru, w_isiB, w_var, w_int, w_str, w_bl, w_non, w_op, w_chain, w_neg, w_cons, w_nil, w_tup, w_lst, w_newT, w_sl, w_oN, w_oS, w_B, w_call, w_fld, w_lc, w_yes, w_jAny, w_rng1, w_rng2, w_zip, w_gNm, w_gvNm, w_gTup, w_gsN, w_gsC, o_sub, o_mod, o_lt, o_le, o_gt, o_ge, o_add, o_addT, o_addL, o_mul, o_ixT, o_ixL, o_ixF, o_eqI, o_neI, o_isN, o_isNotN, o_isB, f_all, f_lenT, f_lenL, f_lenF, f_int, f_tupL, f_tupT, i_tup, i_lst, i_frz, i_rng, i_zipT, i_zipL, s_tup, s_lst, p_some, u_bl, u_int, u_tup, u_lst, wipeD, List.getElem?_cons_zero, List.getElem?_cons_succ, List.set_cons_zero, List.set_cons_succ, List.length_cons, List.length_nil, true_and, and_true, if_and, if_or, Bool.false_eq_true, if_false, if_true, ite_true, ite_false, Bool.not_true, Bool.not_false]
  refine ⟨hT.sz, ?_⟩
  by_cases h : m < (l.length : Nat)
  · rw [decide_eq_true h] at q ⊢
    simp only [w_notT, w_isiBC, w_ret, w_retF, w_retN, w_sif, w_seq, w_asg, w_drop, w_par, w_aug, w_for, w_next, w_brk, w_cnt, w_sfld, w_raise, w_thru, w_andV, w_orV, w_notV, w_and, w_or, w_not, w_if, w_test, w_tru, w_isiB, w_var, w_int, w_str, w_bl, w_non, w_op, w_chain, w_neg, w_cons, w_nil, w_tup, w_lst, w_newT, w_sl, w_oN, w_oS, w_B, w_call, w_fld, w_lc, w_yes, w_jAny, w_rng1, w_rng2, w_zip, w_gNm, w_gvNm, w_gTup, w_gsN, w_gsC, o_sub, o_mod, o_lt, o_le, o_gt, o_ge, o_add, o_addT, o_addL, o_mul, o_ixT, o_ixL, o_ixF, o_eqI, o_neI, o_isN, o_isNotN, o_isB, f_all, f_lenT, f_lenL, f_lenF, f_int, f_tupL, f_tupT, i_tup, i_lst, i_frz, i_rng, i_zipT, i_zipL, s_tup, s_lst, p_some, u_bl, u_int, u_tup, u_lst, wipeD, List.getElem?_cons_zero, List.getElem?_cons_succ, List.set_cons_zero, List.set_cons_succ, List.length_cons, List.length_nil, true_and, and_true, if_and, if_or, Bool.false_eq_true, if_false, if_true, ite_true, ite_false, Bool.not_true, Bool.not_false]
    exact endsD_rt q
  · rw [decide_eq_false h] at q ⊢
    simp only [w_notT, w_isiBC, w_ret, w_retF, w_retN, w_sif, w_seq, w_asg, w_drop, w_par, w_aug, w_for, w_next, w_brk, w_cnt, w_sfld, w_raise, w_thru, w_andV, w_orV, w_notV, w_and, w_or, w_not, w_if, w_test, w_tru, w_isiB, w_var, w_int, w_str, w_bl, w_non, w_op, w_chain, w_neg, w_cons, w_nil, w_tup, w_lst, w_newT, w_sl, w_oN, w_oS, w_B, w_call, w_fld, w_lc, w_yes, w_jAny, w_rng1, w_rng2, w_zip, w_gNm, w_gvNm, w_gTup, w_gsN, w_gsC, o_sub, o_mod, o_lt, o_le, o_gt, o_ge, o_add, o_addT, o_addL, o_mul, o_ixT, o_ixL, o_ixF, o_eqI, o_neI, o_isN, o_isNotN, o_isB, f_all, f_lenT, f_lenL, f_lenF, f_int, f_tupL, f_tupT, i_tup, i_lst, i_frz, i_rng, i_zipT, i_zipL, s_tup, s_lst, p_some, u_bl, u_int, u_tup, u_lst, wipeD, List.getElem?_cons_zero, List.getElem?_cons_succ, List.set_cons_zero, List.set_cons_succ, List.length_cons, List.length_nil, true_and, and_true, if_and, if_or, Bool.false_eq_true, if_false, if_true, ite_true, ite_false, Bool.not_true, Bool.not_false]
    refine ⟨l, rfl, hT, ?_⟩
    cases hf : figs l with
    | false =>
      rw [hf] at q
      simp only [w_notT, w_isiBC, w_ret, w_retF, w_retN, w_sif, w_seq, w_asg, w_drop, w_par, w_aug, w_for, w_next, w_brk, w_cnt, w_sfld, w_raise, w_thru, w_andV, w_orV, w_notV, w_and, w_or, w_not, w_if, w_test, w_tru, w_isiB, w_var, w_int, w_str, w_bl, w_non, w_op, w_chain, w_neg, w_cons, w_nil, w_tup, w_lst, w_newT, w_sl, w_oN, w_oS, w_B, w_call, w_fld, w_lc, w_yes, w_jAny, w_rng1, w_rng2, w_zip, w_gNm, w_gvNm, w_gTup, w_gsN, w_gsC, o_sub, o_mod, o_lt, o_le, o_gt, o_ge, o_add, o_addT, o_addL, o_mul, o_ixT, o_ixL, o_ixF, o_eqI, o_neI, o_isN, o_isNotN, o_isB, f_all, f_lenT, f_lenL, f_lenF, f_int, f_tupL, f_tupT, i_tup, i_lst, i_frz, i_rng, i_zipT, i_zipL, s_tup, s_lst, p_some, u_bl, u_int, u_tup, u_lst, wipeD, List.getElem?_cons_zero, List.getElem?_cons_succ, List.set_cons_zero, List.set_cons_succ, List.length_cons, List.length_nil, true_and, and_true, if_and, if_or, Bool.false_eq_true, if_false, if_true, ite_true, ite_false, Bool.not_true, Bool.not_false]
      exact endsD_rt q
    | true =>
      rw [hf] at q
      simp only [w_notT, w_isiBC, w_ret, w_retF, w_retN, w_sif, w_seq, w_asg, w_drop, w_par, w_aug, w_for, w_next, w_brk, w_cnt, w_sfld, w_raise, w_thru, w_andV, w_orV, w_notV, w_and, w_or, w_not, w_if, w_test, w_tru, w_isiB, w_var, w_int, w_str, w_bl, w_non, w_op, w_chain, w_neg, w_cons, w_nil, w_tup, w_lst, w_newT, w_sl, w_oN, w_oS, w_B, w_call, w_fld, w_lc, w_yes, w_jAny, w_rng1, w_rng2, w_zip, w_gNm, w_gvNm, w_gTup, w_gsN, w_gsC, o_sub, o_mod, o_lt, o_le, o_gt, o_ge, o_add, o_addT, o_addL, o_mul, o_ixT, o_ixL, o_ixF, o_eqI, o_neI, o_isN, o_isNotN, o_isB, f_all, f_lenT, f_lenL, f_lenF, f_int, f_tupL, f_tupT, i_tup, i_lst, i_frz, i_rng, i_zipT, i_zipL, s_tup, s_lst, p_some, u_bl, u_int, u_tup, u_lst, wipeD, List.getElem?_cons_zero, List.getElem?_cons_succ, List.set_cons_zero, List.set_cons_succ, List.length_cons, List.length_nil, true_and, and_true, if_and, if_or, Bool.false_eq_true, if_false, if_true, ite_true, ite_false, Bool.not_true, Bool.not_false]
      exact f_intS hf (by omega) (endsD_rt q)
end
end G
set_option Elab.async false
set_option linter.all false
set_option maxRecDepth 100000
namespace G
open PySem PySem.Spec PyProof.Rows L2
/-! What a value's text is. -/
def figsOf (i : Int) : List Nat := (PySem.Str.ofString (toString i)).cps.toList
mutual
/-- the text of a value -/
def D.tx : D → List Nat
  | .non => [45]
  | .str x => 34 :: (x.cps.toList ++ [34])
  | .int i => figsOf i
  | .tup ds => 40 :: (D.txs ds ++ [41])
  | _ => []
def D.txs : List D → List Nat
  | [] => []
  | d :: ds => d.tx ++ 44 :: D.txs ds
end
mutual
/-- may it be told? -/
def D.tv : D → Bool
  | .non => true
  | .str x => x.cps.toList.all isL
  | .int i => decide (0 ≤ i) && decide (i < 10 ^ 40)
  | .tup ds => D.tvs ds
  | _ => false
def D.tvs : List D → Bool
  | [] => true
  | d :: ds => d.tv && D.tvs ds
end
theorem tvs_mem {ds : List D} (h : D.tvs ds = true) {d : D} (hd : d ∈ ds) : d.tv = true := by
  induction ds with
  | nil => cases hd
  | cons e ds ih =>
    have h : (e.tv && D.tvs ds) = true := h
    rw [Bool.and_eq_true] at h
    rcases List.mem_cons.mp hd with rfl | hd
    · exact h.1
    · exact ih h.2 hd
theorem tvs_of {ds : List D} (h : ∀ d ∈ ds, d.tv = true) : D.tvs ds = true := by
  induction ds with
  | nil => rfl
  | cons e ds ih =>
    show (e.tv && D.tvs ds) = true
    rw [h e List.mem_cons_self, ih fun d hd => h d (List.mem_cons_of_mem _ hd)]
    rfl
theorem txs_app {a b : List D} : D.txs (a ++ b) = D.txs a ++ D.txs b := by
  induction a with
  | nil => rfl
  | cons d a ih =>
    show d.tx ++ 44 :: D.txs (a ++ b) = (d.tx ++ 44 :: D.txs a) ++ D.txs b
    rw [ih, List.append_assoc, List.cons_append]
/-! ### figures -/
theorem head_ne0 (m : Nat) (h : 0 < m) : ∃ c r, (Nat.toDigits 10 m).map Char.toNat = c :: r ∧ c ≠ 48 := by
  induction m using Nat.strongRecOn with
  | _ m ih =>
    by_cases h1 : m < 10
    · rw [Nat.toDigits_of_lt_base h1]
      refine ⟨_, [], rfl, ?_⟩
      have : ∀ d : Nat, d < 10 → 0 < d → (Nat.digitChar d).toNat ≠ 48 := by decide
      exact this m h1 h
    · have hm : m % 10 < 10 := Nat.mod_lt m (by decide)
      have t : Nat.toDigits 10 (m / 10) ++ Nat.toDigits 10 (m % 10) = Nat.toDigits 10 (10 * (m / 10) + m % 10) := Nat.toDigits_append_toDigits (by decide) (by omega) hm
      rw [Nat.div_add_mod] at t
      obtain ⟨c, r, e, hc⟩ := ih (m / 10) (by omega) (by omega)
      rw [← t, List.map_append, e]
      exact ⟨c, _, rfl, hc⟩
theorem figs_num {i : Int} (h0 : 0 ≤ i) : figs (figsOf i) = true ∧ (NumText.digitsVal (figsOf i) : Int) = i ∧ (figsOf i).all isD = true ∧ figsOf i ≠ [] := by
  obtain ⟨m, rfl⟩ := Int.eq_ofNat_of_zero_le h0
  have e : figsOf (m : Int) = (Nat.toDigits 10 m).map Char.toNat := PySem.W.KIN.signs_num m
  have hd : (figsOf (m : Int)).all isD = true := List.all_eq_true.mpr fun c hc => by
    rw [e] at hc
    obtain ⟨ch, hch, rfl⟩ := List.mem_map.mp hc
    have r := digit_range (Nat.isDigit_of_mem_toDigits (by decide) (by decide) hch)
    unfold isD
    rw [decide_eq_true r.1, decide_eq_true r.2]
    rfl
  have hne : figsOf (m : Int) ≠ [] := by
    rw [e]
    intro e2
    have h := toDigits_len_ge 10 m
    rw [List.map_eq_nil_iff.mp e2] at h
    exact absurd h (by decide)
  refine ⟨?_, ?_, hd, hne⟩
  · unfold figs
    rw [decide_eq_false hne, hd]
    by_cases hm : m = 0
    · subst hm
      decide +kernel
    · obtain ⟨c, r, e2, hc⟩ := head_ne0 m (by omega)
      rw [e, e2, List.take_succ_cons, List.take_zero, decide_eq_false (show ¬ [c] = [48] from fun z => hc (List.cons.inj z).1), Bool.not_false, Bool.or_true]
      rfl
  · rw [e, PySem.W.KIN.val_back]
theorem figs_len {i : Int} (h0 : 0 ≤ i) (h1 : i < 10 ^ 40) : (figsOf i).length ≤ 40 := by
  have := toString_length_le h0 (k := 40) (by decide) h1
  unfold figsOf
  rw [Array.length_toList]
  exact this
/-! ### the text's signs, its length -/
mutual
theorem tx_okl : ∀ v : D, v.tv = true → okl v.tx = true
  | .non, _ => by decide
  | .str x, h => by
    have h : x.cps.toList.all isL = true := h
    show okl (34 :: (x.cps.toList ++ [34])) = true
    unfold okl
    rw [List.all_cons, List.all_append, Bool.and_eq_true, Bool.and_eq_true]
    refine ⟨rfl, List.all_eq_true.mpr fun c hc => ?_, rfl⟩
    have := List.all_eq_true.mp h c hc
    unfold isL at this
    rw [Bool.and_eq_true, decide_eq_true_eq, decide_eq_true_eq] at this
    exact decide_eq_true (by omega)
  | .int i, h => by
    have h : (decide (0 ≤ i) && decide (i < 10 ^ 40)) = true := h
    rw [Bool.and_eq_true, decide_eq_true_eq] at h
    have hd := (figs_num h.1).2.2.1
    exact List.all_eq_true.mpr fun c hc => by
      have := List.all_eq_true.mp hd c hc
      unfold isD at this
      rw [Bool.and_eq_true, decide_eq_true_eq, decide_eq_true_eq] at this
      exact decide_eq_true (by omega)
  | .tup ds, h => by
    have := txs_okl ds h
    show okl (40 :: (D.txs ds ++ [41])) = true
    unfold okl at this ⊢
    rw [List.all_cons, List.all_append, this]
    rfl
  | .bl _, h => by cases h
  | .lst _, h => by cases h
  | .frz _, h => by cases h
  | .ref _, h => by cases h
theorem txs_okl : ∀ ds : List D, D.tvs ds = true → okl (D.txs ds) = true
  | [], _ => rfl
  | d :: ds, h => by
    have h : (d.tv && D.tvs ds) = true := h
    rw [Bool.and_eq_true] at h
    show okl (d.tx ++ 44 :: D.txs ds) = true
    rw [okl_app, tx_okl d h.1, Bool.true_and]
    have := txs_okl ds h.2
    unfold okl at this ⊢
    rw [List.all_cons, this]
    rfl
end
/-- the text's first sign tells the kind -/
theorem tx_ne {v : D} (h : v.tv = true) : ∃ c r, v.tx = c :: r ∧ c ≠ 41 ∧ ((∃ ds, v = .tup ds ∧ c = 40) ∨ (c ≠ 40 ∧ ∀ ds, v ≠ .tup ds)) := by
  cases v with
  | non => exact ⟨45, [], rfl, by decide, .inr ⟨by decide, fun _ => by simp⟩⟩
  | str x => exact ⟨34, _, rfl, by decide, .inr ⟨by decide, fun _ => by simp⟩⟩
  | int i =>
    have h : (decide (0 ≤ i) && decide (i < 10 ^ 40)) = true := h
    rw [Bool.and_eq_true, decide_eq_true_eq] at h
    obtain ⟨_, _, hd, hne⟩ := figs_num h.1
    show ∃ c r, figsOf i = c :: r ∧ _
    cases e : figsOf i with
    | nil => exact absurd e hne
    | cons c r =>
      rw [e, List.all_cons, Bool.and_eq_true] at hd
      have hd := hd.1
      unfold isD at hd
      rw [Bool.and_eq_true, decide_eq_true_eq, decide_eq_true_eq] at hd
      exact ⟨c, r, rfl, by omega, .inr ⟨by omega, fun _ => by simp⟩⟩
  | tup ds => exact ⟨40, _, rfl, by decide, .inl ⟨ds, rfl, rfl⟩⟩
  | bl _ => cases h
  | lst _ => cases h
  | frz _ => cases h
  | ref _ => cases h
mutual
theorem tx_flat : ∀ v : D, v.tv = true → v.flat = true
  | .non, _ => rfl
  | .str _, _ => rfl
  | .int _, _ => rfl
  | .tup ds, h => txs_flat ds h
  | .bl _, h => by cases h
  | .lst _, h => by cases h
  | .frz _, h => by cases h
  | .ref _, h => by cases h
theorem txs_flat : ∀ ds : List D, D.tvs ds = true → D.flats ds = true
  | [], _ => rfl
  | d :: ds, h => by
    have h : (d.tv && D.tvs ds) = true := h
    rw [Bool.and_eq_true] at h
    show (d.flat && D.flats ds) = true
    rw [tx_flat d h.1, txs_flat ds h.2]; rfl
end
mutual
theorem tx_lay : ∀ v : D, v.tv = true → v.py.canLay0 = true
  | .non, _ => rfl
  | .str x, h => by
    have := tx_okl (.str x) h
    show PySem.PyData.strOk x = true
    unfold PySem.PyData.strOk
    rw [← Array.all_toList]
    have e : okl (34 :: (x.cps.toList ++ [34])) = true := this
    unfold okl at e
    rw [List.all_cons, List.all_append, Bool.and_eq_true, Bool.and_eq_true] at e
    exact e.2.1
  | .int _, _ => rfl
  | .tup ds, h => txs_lay ds h
  | .bl _, h => by cases h
  | .lst _, h => by cases h
  | .frz _, h => by cases h
  | .ref _, h => by cases h
theorem txs_lay : ∀ ds : List D, D.tvs ds = true → PySem.PyData.canLayAll0 (D.pys ds) = true
  | [], _ => rfl
  | d :: ds, h => by
    have h : (d.tv && D.tvs ds) = true := h
    rw [Bool.and_eq_true] at h
    show (PySem.PyData.canLay0 d.py && PySem.PyData.canLayAll0 (D.pys ds)) = true
    rw [tx_lay d h.1, txs_lay ds h.2]; rfl
end
def D.dp (v : D) : Nat := v.py.depth
theorem dp_mem {ds : List D} {d : D} (h : d ∈ ds) : d.dp + 1 ≤ (D.tup ds).dp := by
  show d.py.depth + 1 ≤ PySem.PyData.depthAll (D.pys ds) + 1
  induction ds with
  | nil => cases h
  | cons e ds ih =>
    show _ ≤ max e.py.depth (PySem.PyData.depthAll (D.pys ds)) + 1
    rcases List.mem_cons.mp h with rfl | h
    · omega
    · have := ih h; omega
theorem dp_le {ds : List D} {n : Nat} (h : ∀ d ∈ ds, d.dp ≤ n) : (D.tup ds).dp ≤ n + 1 := by
  show PySem.PyData.depthAll (D.pys ds) + 1 ≤ n + 1
  induction ds with
  | nil => show 0 + 1 ≤ _; omega
  | cons e ds ih =>
    show max e.py.depth (PySem.PyData.depthAll (D.pys ds)) + 1 ≤ n + 1
    have h1 : e.py.depth ≤ n := h e List.mem_cons_self
    have := ih fun d hd => h d (List.mem_cons_of_mem _ hd)
    omega
theorem tx_shp {v : D} (h : v.tv = true) (hd : v.dp ≤ 60) : v.shp = true := by
  unfold D.shp
  rw [tx_flat v h, Bool.true_and]
  show (v.py.canLay0 && decide (v.py.depth ≤ 64)) = true
  rw [tx_lay v h, Bool.true_and]
  have : v.py.depth ≤ 60 := hd
  exact decide_eq_true (by omega)
/-! ### a value is equal to itself, its repr -/
mutual
theorem eqv_self : ∀ v : PySem.PyData, v.hasDict = false → PySem.PyData.eqv v v = true
  | .none, _ => rfl
  | .bool _, _ => beq_self_eq_true _
  | .int _, _ => beq_self_eq_true _
  | .str _, _ => beq_self_eq_true _
  | .list xs, h => eqvs_self xs h
  | .tuple xs, h => eqvs_self xs h
  | .dict _, h => by cases h
theorem eqvs_self : ∀ vs : List PySem.PyData, PySem.PyData.hasDictAll vs = false → PySem.PyData.eqvAll vs vs = true
  | [], _ => rfl
  | v :: vs, h => by
    have h : (PySem.PyData.hasDict v || PySem.PyData.hasDictAll vs) = false := h
    rw [Bool.or_eq_false_iff] at h
    show (PySem.PyData.eqv v v && PySem.PyData.eqvAll vs vs) = true
    rw [eqv_self v h.1, eqvs_self vs h.2]; rfl
end
mutual
theorem tx_nodic : ∀ v : D, v.tv = true → v.py.hasDict = false
  | .non, _ => rfl
  | .str _, _ => rfl
  | .int _, _ => rfl
  | .tup ds, h => txs_nodic ds h
  | .bl _, h => by cases h
  | .lst _, h => by cases h
  | .frz _, h => by cases h
  | .ref _, h => by cases h
theorem txs_nodic : ∀ ds : List D, D.tvs ds = true → PySem.PyData.hasDictAll (D.pys ds) = false
  | [], _ => rfl
  | d :: ds, h => by
    have h : (d.tv && D.tvs ds) = true := h
    rw [Bool.and_eq_true] at h
    show (PySem.PyData.hasDict d.py || PySem.PyData.hasDictAll (D.pys ds)) = false
    rw [tx_nodic d h.1, txs_nodic ds h.2]; rfl
end
mutual
theorem tx_show : ∀ v : D, v.tv = true → v.py.showable = true
  | .non, _ => rfl
  | .str _, _ => rfl
  | .int i, h => by
    have h : (decide (0 ≤ i) && decide (i < 10 ^ 40)) = true := h
    rw [Bool.and_eq_true, decide_eq_true_eq, decide_eq_true_eq] at h
    refine decide_eq_true ?_
    by_cases h0 : i.natAbs = 0
    · rw [h0]; decide
    · have := (Nat.log2_lt h0 (k := 1920)).mpr (Nat.lt_of_lt_of_le (show i.natAbs < 2 ^ 140 by omega) (Nat.pow_le_pow_right (by decide) (by decide)))
      exact this
  | .tup ds, h => txs_show ds h
  | .bl _, h => by cases h
  | .lst _, h => by cases h
  | .frz _, h => by cases h
  | .ref _, h => by cases h
theorem txs_show : ∀ ds : List D, D.tvs ds = true → PySem.PyData.showableAll (D.pys ds) = true
  | [], _ => rfl
  | d :: ds, h => by
    have h : (d.tv && D.tvs ds) = true := h
    rw [Bool.and_eq_true] at h
    show (PySem.PyData.showable d.py && PySem.PyData.showableAll (D.pys ds)) = true
    rw [tx_show d h.1, txs_show ds h.2]; rfl
end
end G
set_option Elab.async false
set_option linter.all false
set_option maxRecDepth 100000
namespace G
open PySem PySem.Spec PyProof.Rows L2
/-! repr's text is not too long; the leaves. -/
theorem join_le (sep : PySem.Str) : ∀ ts : List PySem.Str, (PySem.Str.join sep ts).length ≤ (ts.map fun t => t.length + sep.length).sum
  | [] => by show 0 ≤ _; omega
  | [x] => by show x.length ≤ (x.length + sep.length) + 0; omega
  | x :: y :: r => by
    have ih := join_le sep (y :: r)
    show (x ++ sep ++ PySem.Str.join sep (y :: r)).length ≤ (x.length + sep.length) + ((y :: r).map fun t => t.length + sep.length).sum
    rw [PySem.Str.length_append, PySem.Str.length_append]
    omega
mutual
theorem shown_le : ∀ v : D, v.tv = true → v.py.shown.length ≤ 10 * v.tx.length
  | .non, _ => by decide
  | .str x, h => by
    have hk := tx_okl (.str x) h
    have hc : ∀ c ∈ x.cps.toList, c < 16 ^ 8 := fun c hc => by
      have := List.all_eq_true.mp hk c (List.mem_cons_of_mem _ (List.mem_append_left _ hc))
      rw [decide_eq_true_eq] at this
      exact Nat.lt_of_lt_of_le this (by decide)
    have := StrLaws.reprText_len x hc
    show (PySem.reprText x).length ≤ 10 * (34 :: (x.cps.toList ++ [34])).length
    rw [List.length_cons, List.length_append, Array.length_toList]
    have e : x.length = x.cps.size := rfl
    rw [e] at this
    exact Nat.le_trans this (by simp only [List.length_cons, List.length_nil]; omega)
  | .int i, h => by
    show (PySem.Str.ofString (toString i)).length ≤ 10 * (figsOf i).length
    unfold figsOf
    rw [Array.length_toList]
    show (PySem.Str.ofString (toString i)).length ≤ 10 * (PySem.Str.ofString (toString i)).length
    omega
  | .tup ds, h => by
    have := showns_le ds h
    show (PySem.tupleText (PySem.PyData.shownAll (D.pys ds))).length ≤ 10 * (40 :: (D.txs ds ++ [41])).length
    unfold PySem.tupleText
    have hj := join_le ", " (PySem.PyData.shownAll (D.pys ds))
    rw [PySem.Str.length_append, PySem.Str.length_append, List.length_cons, List.length_append]
    have e2 : ((", " : String) : PySem.Str).length = 2 := rfl
    have e1 : (("(" : String) : PySem.Str).length = 1 := rfl
    have e3 : ((if (PySem.PyData.shownAll (D.pys ds)).length == 1 then ",)" else ")" : String) : PySem.Str).length ≤ 2 := by
      split
      · exact Nat.le_refl 2
      · exact (by decide : ((")" : String) : PySem.Str).length ≤ 2)
    rw [e2] at hj
    simp only [List.length_cons, List.length_nil]
    omega
  | .bl _, h => by cases h
  | .lst _, h => by cases h
  | .frz _, h => by cases h
  | .ref _, h => by cases h
theorem showns_le : ∀ ds : List D, D.tvs ds = true → ((PySem.PyData.shownAll (D.pys ds)).map fun t => t.length + 2).sum ≤ 10 * (D.txs ds).length
  | [], _ => by show 0 ≤ _; omega
  | d :: ds, h => by
    have h : (d.tv && D.tvs ds) = true := h
    rw [Bool.and_eq_true] at h
    have h1 := shown_le d h.1
    have h2 := showns_le ds h.2
    show (d.py.shown.length + 2) + ((PySem.PyData.shownAll (D.pys ds)).map fun t => t.length + 2).sum ≤ 10 * (d.tx ++ 44 :: D.txs ds).length
    rw [List.length_append, List.length_cons]
    omega
end
/-! ### repr's signs -/
def okS (x : PySem.Str) : Bool := okl x.cps.toList
theorem okS_app {x y : PySem.Str} : okS (x ++ y) = (okS x && okS y) := by
  unfold okS
  rw [PySem.Str.cps_append, Array.toList_append, okl_app]
theorem okS_join {sep : PySem.Str} (h : okS sep = true) : ∀ ts : List PySem.Str, (∀ t ∈ ts, okS t = true) → okS (PySem.Str.join sep ts) = true
  | [], _ => rfl
  | [x], hx => hx x List.mem_cons_self
  | x :: y :: r, hx => by
    have ih := okS_join h (y :: r) fun t ht => hx t (List.mem_cons_of_mem _ ht)
    show okS (x ++ sep ++ PySem.Str.join sep (y :: r)) = true
    rw [okS_app, okS_app, hx x List.mem_cons_self, h, ih]; rfl
theorem chr_ok (l : List Char) : okl (l.map Char.toNat) = true := List.all_eq_true.mpr fun c hc => by
  obtain ⟨ch, _, rfl⟩ := List.mem_map.mp hc
  have h := ch.valid
  simp only [UInt32.isValidChar, Nat.isValidChar] at h
  have e : ch.toNat = ch.val.toNat := rfl
  exact decide_eq_true (by omega)
theorem rep_ok {n c : Nat} (h : c < 1114112) : okl (List.replicate n c) = true := List.all_eq_true.mpr fun d hd => by
  rw [List.eq_of_mem_replicate hd]
  exact decide_eq_true h
theorem rc_ok {q c : Nat} (hc : c < 1114112) : okl (Builtin.Str.reprChar q c) = true := by
  have hx : ∀ n : Nat, okl (List.replicate (n - ((Nat.toDigits 16 c).map Char.toNat).length) 48 ++ (Nat.toDigits 16 c).map Char.toNat) = true := fun n => by rw [okl_app, rep_ok (by omega), chr_ok]; rfl
  have h1 : ∀ d, d < 1114112 → okl [92, d] = true := fun d hd => by
    unfold okl
    rw [List.all_cons, List.all_cons, decide_eq_true hd]; rfl
  unfold Builtin.Str.reprChar
  dsimp only
  split
  · exact h1 c hc
  · split
    · rfl
    · split
      · rfl
      · split
        · rfl
        · split
          · unfold okl
            rw [List.all_cons, decide_eq_true hc]; rfl
          · split
            · rw [okl_app, hx]; rfl
            · split
              · rw [okl_app, hx]; rfl
              · rw [okl_app, hx]; rfl
theorem fold_ok (q : Nat) : ∀ (l : List Nat) (acc : Array Nat), okl acc.toList = true → (∀ c ∈ l, c < 1114112) → okl (l.foldl (fun out c => out ++ (Builtin.Str.reprChar q c).toArray) acc).toList = true
  | [], _, h, _ => h
  | c :: r, acc, h, hc => by
    rw [List.foldl_cons]
    refine fold_ok q r _ ?_ fun d hd => hc d (List.mem_cons_of_mem _ hd)
    rw [Array.toList_append, okl_app, h, List.toList_toArray, rc_ok (hc c List.mem_cons_self)]; rfl
theorem reprText_ok {x : PySem.Str} (h : okS x = true) : okS (PySem.reprText x) = true := by
  have hq : PySem.reprQuote x < 1114112 := by
    unfold PySem.reprQuote
    split <;> decide
  unfold PySem.reprText okS
  show okl ((x.cps.foldl (fun out c => out ++ (Builtin.Str.reprChar (PySem.reprQuote x) c).toArray) #[PySem.reprQuote x]).push (PySem.reprQuote x)).toList = true
  have h1 : okl [PySem.reprQuote x] = true := by
    unfold okl
    rw [List.all_cons, decide_eq_true hq]; rfl
  rw [Array.toList_push, okl_app, ← Array.foldl_toList, fold_ok _ _ _ h1 fun c hc => of_decide_eq_true (List.all_eq_true.mp h c hc), h1]; rfl
mutual
theorem shown_ok : ∀ v : D, v.tv = true → okS v.py.shown = true
  | .non, _ => by decide +kernel
  | .str x, h => reprText_ok (by
    have hk : okl (34 :: (x.cps.toList ++ [34])) = true := tx_okl (.str x) h
    unfold okl at hk
    rw [List.all_cons, List.all_append, Bool.and_eq_true, Bool.and_eq_true] at hk
    exact hk.2.1)
  | .int i, h => tx_okl (.int i) h
  | .tup ds, h => by
    show okS (PySem.tupleText (PySem.PyData.shownAll (D.pys ds))) = true
    unfold PySem.tupleText
    rw [okS_app, okS_app, okS_join (by decide +kernel) _ (showns_ok ds h), show okS ("(" : String) = true from by decide +kernel, Bool.true_and, Bool.true_and]
    split <;> decide +kernel
  | .bl _, h => by cases h
  | .lst _, h => by cases h
  | .frz _, h => by cases h
  | .ref _, h => by cases h
theorem showns_ok : ∀ ds : List D, D.tvs ds = true → ∀ t ∈ PySem.PyData.shownAll (D.pys ds), okS t = true
  | [], _, t, ht => by cases ht
  | d :: ds, h, t, ht => by
    have h : (d.tv && D.tvs ds) = true := h
    rw [Bool.and_eq_true] at h
    rcases List.mem_cons.mp (show t ∈ d.py.shown :: PySem.PyData.shownAll (D.pys ds) from ht) with rfl | ht
    · exact shown_ok d h.1
    · exact showns_ok ds h.2 t ht
end
theorem okS_shp {x : PySem.Str} (h : okS x = true) : (D.str x).shp = true := by
  rw [S_of x, shpS]
  exact h
/-- a value to be told: of these kinds, not too deep, not too long -/
structure Tell (v : D) : Prop where
  tv : v.tv = true
  dp : v.dp ≤ 60
  sz : v.tx.length ≤ 100000
theorem Tell.okR {v : D} (h : Tell v) : okR v.py := ⟨tx_show v h.tv, tx_nodic v h.tv, Nat.le_trans (show v.py.depth ≤ 60 from h.dp) (by decide), by
  have := shown_le v h.tv
  have := h.sz
  rw [szl]; omega⟩
theorem okR_S {l : List Nat} (h : okl l = true) (hz : l.length ≤ 100000) : okR (.str (S l)) := ⟨rfl, rfl, Nat.zero_le _, by
  have := StrLaws.reprText_len (S l) fun c hc => by
    have e : (S l).cps.toList = l := List.toList_toArray
    rw [e] at hc
    have := List.all_eq_true.mp h c hc
    rw [decide_eq_true_eq] at this
    exact Nat.lt_of_lt_of_le this (by decide)
  rw [S_len l] at this
  show (PySem.reprText (S l)).length ≤ sizeLine
  rw [szl]; omega⟩
section
variable {K : PySem.W.Frag}
/-- the same text -/
def sp_law_same : DSp := fun ds H Q _ => ∃ l : List Nat, ds = [.str (S l), .str (S l)] ∧ okl l = true ∧ l.length ≤ 100000 ∧ Q (.bl true) H
theorem w_law_same : ∀ ds H Q E, ds.length = 2 → sp_law_same ds H Q E → (b__law_same K).w (endsD Q E) (startD ["due", "got"] ds) H := by
  rintro _ H Q E - ⟨l, rfl, h1, h2, q⟩
  have h3 : (D.str (PySem.reprText (S l))).shp = true := okS_shp (reprText_ok (by
    show okl (S l).cps.toList = true
    rw [show (S l).cps.toList = l from List.toList_toArray]
    exact h1))
  have e3 : (D.str (PySem.reprText (S l))).eq (.str (PySem.reprText (S l))) = true := beq_self_eq_true _
  simp only [b__law_same, show startD ["due", "got"] [.str (S l), .str (S l)] = [some (.str (S l)), some (.str (S l))] from rfl, o_eqS, f_reprS, decide_true, h1, w_notT, w_isiBC, w_ret, w_retF, w_retN, w_sif, w_seq, w_asg, w_drop, w_par, w_aug, w_for, w_next, w_brk, w_cnt, w_sfld, w_raise, w_thru, w_andV, w_orV, w_notV, w_and, w_or, w_not, w_if, w_test, w_tru, w_isiB, w_var, w_int, w_str, w_bl, w_non, w_op, w_chain, w_neg, w_cons, w_nil, w_tup, w_lst, w_newT, w_sl, w_oN, w_oS, w_B, w_call, w_fld, w_lc, w_yes, w_jAny, w_rng1, w_rng2, w_zip, w_gNm, w_gvNm, w_gTup, w_gsN, w_gsC, o_sub, o_mod, o_lt, o_le, o_gt, o_ge, o_add, o_addT, o_addL, o_mul, o_ixT, o_ixL, o_ixF, o_eqI, o_neI, o_isN, o_isNotN, o_isB, f_all, f_lenT, f_lenL, f_lenF, f_int, f_tupL, f_tupT, i_tup, i_lst, i_frz, i_rng, i_zipT, i_zipL, s_tup, s_lst, p_some, u_bl, u_int, u_tup, u_lst, wipeD, List.getElem?_cons_zero, List.getElem?_cons_succ, List.set_cons_zero, List.set_cons_succ, List.length_cons, List.length_nil, true_and, and_true, if_and, if_or, Bool.false_eq_true, if_false, if_true, ite_true, ite_false, Bool.not_true, Bool.not_false]
  refine ⟨rfl, okR_S h1 h2, rfl, okR_S h1 h2, ?_⟩
  show (opEq : Op2 (plainC K)).w (.str (PySem.reprText (S l))) (.str (PySem.reprText (S l))) H _
  rw [o_eq, h3, e3]
  exact ⟨rfl, rfl, endsD_rt q⟩
/-! ### the leaves' texts -/
def sp_atom_text : DSp := fun ds H Q _ => ∃ v : D, ds = [v] ∧ v.tv = true ∧ (∀ xs, v ≠ .tup xs) ∧ v.tx.length ≤ 100000 ∧ Q (.str (S v.tx)) H
theorem w_atom_text : ∀ ds H Q E, ds.length = 1 → sp_atom_text ds H Q E → (b_atom_text K).w (endsD Q E) (startD ["value"] ds) H := by
  rintro _ H Q E - ⟨v, rfl, hv, hn, hz, q⟩
  simp only [b_atom_text, show startD ["value"] [v] = [some v] from rfl, lit_dash, lit_quote, w_notT, w_isiBC, w_ret, w_retF, w_retN, w_sif, w_seq, w_asg, w_drop, w_par, w_aug, w_for, w_next, w_brk, w_cnt, w_sfld, w_raise, w_thru, w_andV, w_orV, w_notV, w_and, w_or, w_not, w_if, w_test, w_tru, w_isiB, w_var, w_int, w_str, w_bl, w_non, w_op, w_chain, w_neg, w_cons, w_nil, w_tup, w_lst, w_newT, w_sl, w_oN, w_oS, w_B, w_call, w_fld, w_lc, w_yes, w_jAny, w_rng1, w_rng2, w_zip, w_gNm, w_gvNm, w_gTup, w_gsN, w_gsC, o_sub, o_mod, o_lt, o_le, o_gt, o_ge, o_add, o_addT, o_addL, o_mul, o_ixT, o_ixL, o_ixF, o_eqI, o_neI, o_isN, o_isNotN, o_isB, f_all, f_lenT, f_lenL, f_lenF, f_int, f_tupL, f_tupT, i_tup, i_lst, i_frz, i_rng, i_zipT, i_zipL, s_tup, s_lst, p_some, u_bl, u_int, u_tup, u_lst, wipeD, List.getElem?_cons_zero, List.getElem?_cons_succ, List.set_cons_zero, List.set_cons_succ, List.length_cons, List.length_nil, true_and, and_true, if_and, if_or, Bool.false_eq_true, if_false, if_true, ite_true, ite_false, Bool.not_true, Bool.not_false]
  cases v with
  | non =>
    simp only [show (D.non).isNon = true from rfl, w_notT, w_isiBC, w_ret, w_retF, w_retN, w_sif, w_seq, w_asg, w_drop, w_par, w_aug, w_for, w_next, w_brk, w_cnt, w_sfld, w_raise, w_thru, w_andV, w_orV, w_notV, w_and, w_or, w_not, w_if, w_test, w_tru, w_isiB, w_var, w_int, w_str, w_bl, w_non, w_op, w_chain, w_neg, w_cons, w_nil, w_tup, w_lst, w_newT, w_sl, w_oN, w_oS, w_B, w_call, w_fld, w_lc, w_yes, w_jAny, w_rng1, w_rng2, w_zip, w_gNm, w_gvNm, w_gTup, w_gsN, w_gsC, o_sub, o_mod, o_lt, o_le, o_gt, o_ge, o_add, o_addT, o_addL, o_mul, o_ixT, o_ixL, o_ixF, o_eqI, o_neI, o_isN, o_isNotN, o_isB, f_all, f_lenT, f_lenL, f_lenF, f_int, f_tupL, f_tupT, i_tup, i_lst, i_frz, i_rng, i_zipT, i_zipL, s_tup, s_lst, p_some, u_bl, u_int, u_tup, u_lst, wipeD, List.getElem?_cons_zero, List.getElem?_cons_succ, List.set_cons_zero, List.set_cons_succ, List.length_cons, List.length_nil, true_and, and_true, if_and, if_or, Bool.false_eq_true, if_false, if_true, ite_true, ite_false, Bool.not_true, Bool.not_false]
    exact endsD_rt q
  | str x =>
    simp only [show (D.str x).isNon = false from rfl, isi_nr (show (D.str x).nr = true from rfl), show (D.str x).isT .str = true from rfl, w_notT, w_isiBC, w_ret, w_retF, w_retN, w_sif, w_seq, w_asg, w_drop, w_par, w_aug, w_for, w_next, w_brk, w_cnt, w_sfld, w_raise, w_thru, w_andV, w_orV, w_notV, w_and, w_or, w_not, w_if, w_test, w_tru, w_isiB, w_var, w_int, w_str, w_bl, w_non, w_op, w_chain, w_neg, w_cons, w_nil, w_tup, w_lst, w_newT, w_sl, w_oN, w_oS, w_B, w_call, w_fld, w_lc, w_yes, w_jAny, w_rng1, w_rng2, w_zip, w_gNm, w_gvNm, w_gTup, w_gsN, w_gsC, o_sub, o_mod, o_lt, o_le, o_gt, o_ge, o_add, o_addT, o_addL, o_mul, o_ixT, o_ixL, o_ixF, o_eqI, o_neI, o_isN, o_isNotN, o_isB, f_all, f_lenT, f_lenL, f_lenF, f_int, f_tupL, f_tupT, i_tup, i_lst, i_frz, i_rng, i_zipT, i_zipL, s_tup, s_lst, p_some, u_bl, u_int, u_tup, u_lst, wipeD, List.getElem?_cons_zero, List.getElem?_cons_succ, List.set_cons_zero, List.set_cons_succ, List.length_cons, List.length_nil, true_and, and_true, if_and, if_or, Bool.false_eq_true, if_false, if_true, ite_true, ite_false, Bool.not_true, Bool.not_false]
    rw [S_of x] at q ⊢
    have hz : (34 :: (x.cps.toList ++ [34])).length ≤ 100000 := hz
    rw [List.length_cons, List.length_append] at hz
    simp only [o_addS, w_notT, w_isiBC, w_ret, w_retF, w_retN, w_sif, w_seq, w_asg, w_drop, w_par, w_aug, w_for, w_next, w_brk, w_cnt, w_sfld, w_raise, w_thru, w_andV, w_orV, w_notV, w_and, w_or, w_not, w_if, w_test, w_tru, w_isiB, w_var, w_int, w_str, w_bl, w_non, w_op, w_chain, w_neg, w_cons, w_nil, w_tup, w_lst, w_newT, w_sl, w_oN, w_oS, w_B, w_call, w_fld, w_lc, w_yes, w_jAny, w_rng1, w_rng2, w_zip, w_gNm, w_gvNm, w_gTup, w_gsN, w_gsC, o_sub, o_mod, o_lt, o_le, o_gt, o_ge, o_add, o_addT, o_addL, o_mul, o_ixT, o_ixL, o_ixF, o_eqI, o_neI, o_isN, o_isNotN, o_isB, f_all, f_lenT, f_lenL, f_lenF, f_int, f_tupL, f_tupT, i_tup, i_lst, i_frz, i_rng, i_zipT, i_zipL, s_tup, s_lst, p_some, u_bl, u_int, u_tup, u_lst, wipeD, List.getElem?_cons_zero, List.getElem?_cons_succ, List.set_cons_zero, List.set_cons_succ, List.length_cons, List.length_nil, true_and, and_true, if_and, if_or, Bool.false_eq_true, if_false, if_true, ite_true, ite_false, Bool.not_true, Bool.not_false]
    refine ⟨by simp only [List.length_cons, List.length_nil] at *; rw [szl]; omega, by simp only [List.length_cons, List.length_nil, List.length_append] at *; rw [szl]; omega, endsD_rt ?_⟩
    have e : (D.str (S x.cps.toList)).tx = [34] ++ x.cps.toList ++ [34] := by
      show 34 :: ((S x.cps.toList).cps.toList ++ [34]) = _
      rw [show (S x.cps.toList).cps.toList = x.cps.toList from List.toList_toArray]
      rfl
    rw [e] at q
    exact q
  | int i =>
    have hv : (decide (0 ≤ i) && decide (i < 10 ^ 40)) = true := hv
    rw [Bool.and_eq_true, decide_eq_true_eq, decide_eq_true_eq] at hv
    simp only [show (D.int i).isNon = false from rfl, isi_nr (show (D.int i).nr = true from rfl), show (D.int i).isT .str = false from rfl, w_notT, w_isiBC, w_ret, w_retF, w_retN, w_sif, w_seq, w_asg, w_drop, w_par, w_aug, w_for, w_next, w_brk, w_cnt, w_sfld, w_raise, w_thru, w_andV, w_orV, w_notV, w_and, w_or, w_not, w_if, w_test, w_tru, w_isiB, w_var, w_int, w_str, w_bl, w_non, w_op, w_chain, w_neg, w_cons, w_nil, w_tup, w_lst, w_newT, w_sl, w_oN, w_oS, w_B, w_call, w_fld, w_lc, w_yes, w_jAny, w_rng1, w_rng2, w_zip, w_gNm, w_gvNm, w_gTup, w_gsN, w_gsC, o_sub, o_mod, o_lt, o_le, o_gt, o_ge, o_add, o_addT, o_addL, o_mul, o_ixT, o_ixL, o_ixF, o_eqI, o_neI, o_isN, o_isNotN, o_isB, f_all, f_lenT, f_lenL, f_lenF, f_int, f_tupL, f_tupT, i_tup, i_lst, i_frz, i_rng, i_zipT, i_zipL, s_tup, s_lst, p_some, u_bl, u_int, u_tup, u_lst, wipeD, List.getElem?_cons_zero, List.getElem?_cons_succ, List.set_cons_zero, List.set_cons_succ, List.length_cons, List.length_nil, true_and, and_true, if_and, if_or, Bool.false_eq_true, if_false, if_true, ite_true, ite_false, Bool.not_true, Bool.not_false]
    refine ⟨?_, ?_⟩
    · by_cases h0 : i.natAbs = 0
      · rw [h0]; decide
      · exact (Nat.log2_lt h0 (k := 1920)).mpr (Nat.lt_of_lt_of_le (show i.natAbs < 2 ^ 140 by omega) (Nat.pow_le_pow_right (by decide) (by decide)))
    · have e : S (D.int i).tx = PySem.Str.ofString (toString i) := (S_of _).symm
      rw [e] at q
      exact endsD_rt q
  | tup xs => exact absurd rfl (hn xs)
  | bl _ => cases hv
  | lst _ => cases hv
  | frz _ => cases hv
  | ref _ => cases hv
end
end G
set_option Elab.async false
set_option linter.all false
set_option maxRecDepth 100000
namespace G
open PySem PySem.Spec PyProof.Rows L2
/-! ### is it the text of a value? read sign by sign -/
/-- a leaf at the head of the signs: its value, its length -/
def leafL : List Nat → Option (D × Nat)
  | [] => none
  | c :: r => if c = 45 then some (.non, 1)
    else if c = 34 then (if (r.drop (r.takeWhile isL).length).take 1 = [34] then some (.str (S (r.takeWhile isL)), (r.takeWhile isL).length + 2) else none)
    else if isD c = true then (if (figs ((c :: r).takeWhile isD) && decide (((c :: r).takeWhile isD).length ≤ 40)) = true then some (.int (NumText.digitsVal ((c :: r).takeWhile isD) : Nat), ((c :: r).takeWhile isD).length) else none)
    else none
theorem leafL_cons {c : Nat} {r : List Nat} : leafL (c :: r) = if c = 45 then some (.non, 1)
    else if c = 34 then (if (r.drop (r.takeWhile isL).length).take 1 = [34] then some (.str (S (r.takeWhile isL)), (r.takeWhile isL).length + 2) else none)
    else if isD c = true then (if (figs ((c :: r).takeWhile isD) && decide (((c :: r).takeWhile isD).length ≤ 40)) = true then some (.int (NumText.digitsVal ((c :: r).takeWhile isD) : Nat), ((c :: r).takeWhile isD).length) else none)
    else none := rfl
theorem tv_int {i : Int} : (D.int i).tv = (decide (0 ≤ i) && decide (i < 10 ^ 40)) := rfl
theorem snocL {α : Type} {l : List α} (h : l ≠ []) : ∃ r x, l = r ++ [x] := ⟨l.dropLast, l.getLast h, (List.dropLast_concat_getLast h).symm⟩
theorem takeWhile_len {p : Nat → Bool} {l : List Nat} : (l.takeWhile p).length ≤ l.length := List.Sublist.length_le (List.takeWhile_sublist p)
/-- the rest of a text, at this many open brackets, behind a value or not -/
def acc : Nat → List Nat → Nat → Bool → Bool
  | _, [], d, b => b && decide (d = 0)
  | 0, _ :: _, _, _ => false
  | n + 1, c :: r, d, true => decide (d ≠ 0) && (decide (c = 44) && acc n r d false)
  | n + 1, c :: r, d, false =>
    if c = 40 then decide (d + 1 ≤ 60) && acc n r (d + 1) false
    else if c = 41 then decide (d ≠ 0) && acc n r (d - 1) true
    else match leafL (c :: r) with
      | some (_, k) => acc n ((c :: r).drop k) d true
      | none => false
theorem leafL_pos {l : List Nat} {v : D} {k : Nat} (h : leafL l = some (v, k)) : 1 ≤ k ∧ k ≤ l.length := by
  cases l with
  | nil => cases h
  | cons c r =>
    rw [leafL_cons] at h
    split at h
    · cases h
      exact ⟨Nat.le_refl _, by rw [List.length_cons]; omega⟩
    · split at h
      · split at h
        · rename_i hq
          cases h
          have h1 : (r.drop (r.takeWhile isL).length).length ≠ 0 := fun e => by
            rw [List.eq_nil_of_length_eq_zero e] at hq
            cases hq
          rw [List.length_drop] at h1
          rw [List.length_cons]
          exact ⟨by omega, by omega⟩
        · cases h
      · split at h
        · rename_i hd
          split at h
          · cases h
            rw [List.takeWhile_cons, if_pos hd, List.length_cons, List.length_cons]
            have := takeWhile_len (p := isD) (l := r)
            exact ⟨by omega, by omega⟩
          · cases h
        · cases h
theorem acc_fuel : ∀ (n m : Nat) (l : List Nat) (d : Nat) (b : Bool), l.length ≤ n → l.length ≤ m → acc n l d b = acc m l d b
  | n, m, [], d, b, _, _ => by
    cases n <;> cases m <;> simp only [acc]
  | 0, _, c :: r, _, _, h, _ => by rw [List.length_cons] at h; omega
  | _ + 1, 0, c :: r, _, _, _, h => by rw [List.length_cons] at h; omega
  | n + 1, m + 1, c :: r, d, true, h1, h2 => by
    rw [List.length_cons] at h1 h2
    simp only [acc]
    rw [acc_fuel n m r d false (by omega) (by omega)]
  | n + 1, m + 1, c :: r, d, false, h1, h2 => by
    rw [List.length_cons] at h1 h2
    simp only [acc]
    rw [acc_fuel n m r (d + 1) false (by omega) (by omega), acc_fuel n m r (d - 1) true (by omega) (by omega)]
    cases hl : leafL (c :: r) with
    | none => rfl
    | some p =>
      obtain ⟨v, k⟩ := p
      have := leafL_pos hl
      have hd : ((c :: r).drop k).length ≤ r.length := by rw [List.length_drop, List.length_cons]; omega
      simp only []
      rw [acc_fuel n m ((c :: r).drop k) d true (by omega) (by omega)]
/-- accepted from here -/
def accA (l : List Nat) (d : Nat) (b : Bool) : Bool := acc l.length l d b
theorem accA_nil {d : Nat} {b : Bool} : accA [] d b = (b && decide (d = 0)) := by
  unfold accA
  simp only [List.length_nil, acc]
theorem accA_behind {c : Nat} {r : List Nat} {d : Nat} : accA (c :: r) d true = (decide (d ≠ 0) && (decide (c = 44) && accA r d false)) := by
  unfold accA
  simp only [List.length_cons, acc]
theorem accA_open {r : List Nat} {d : Nat} : accA (40 :: r) d false = (decide (d + 1 ≤ 60) && accA r (d + 1) false) := by
  unfold accA
  simp only [List.length_cons, acc, if_true]
theorem accA_close {r : List Nat} {d : Nat} : accA (41 :: r) d false = (decide (d ≠ 0) && accA r (d - 1) true) := by
  unfold accA
  simp only [List.length_cons, acc]
  rw [if_neg (by decide), if_pos trivial]
theorem accA_leaf {c : Nat} {r : List Nat} {d : Nat} (h0 : c ≠ 40) (h1 : c ≠ 41) : accA (c :: r) d false = (match leafL (c :: r) with
      | some (_, k) => accA ((c :: r).drop k) d true
      | none => false) := by
  unfold accA
  simp only [List.length_cons, acc]
  rw [if_neg h0, if_neg h1]
  cases hl : leafL (c :: r) with
  | none => rfl
  | some p =>
    obtain ⟨v, k⟩ := p
    have := leafL_pos hl
    have hd : ((c :: r).drop k).length ≤ r.length := by
      have : (c :: r).length = r.length + 1 := rfl
      rw [List.length_drop]; omega
    simp only []
    exact acc_fuel _ _ _ _ _ hd (Nat.le_refl _)
/-! ### what a leaf's signs tell -/
theorem digs_back : ∀ (n : Nat) (w : List Nat), w.length = n → w.all isD = true → w ≠ [] → w.take 1 ≠ [48] ∨ w = [48] → (Nat.toDigits 10 (NumText.digitsVal w)).map Char.toNat = w ∧ (w = [48] ∨ 0 < NumText.digitsVal w) := by
  intro n
  induction n with
  | zero =>
    intro w hl _ h0 _
    exact absurd (List.eq_nil_of_length_eq_zero hl) h0
  | succ n ih =>
    intro w hl hd h0 hz
    obtain ⟨u, c, rfl⟩ := snocL h0
    have hu : u.all isD = true ∧ isD c = true := by
      rw [List.all_append, Bool.and_eq_true] at hd
      exact ⟨hd.1, by have := hd.2; rw [List.all_cons, List.all_nil, Bool.and_true] at this; exact this⟩
    have hc : 48 ≤ c ∧ c ≤ 57 := by
      have := hu.2
      unfold isD at this
      rw [Bool.and_eq_true, decide_eq_true_eq, decide_eq_true_eq] at this
      exact this
    have hdig : ∀ d : Nat, d < 10 → (Nat.digitChar d).toNat = d + 48 := by decide
    have hcd : (Nat.digitChar (c - 48)).toNat = c := by
      rw [hdig (c - 48) (by omega)]
      omega
    have hv : NumText.digitsVal (u ++ [c]) = NumText.digitsVal u * 10 + (c - 48) := PySem.NumText.digitsVal_snoc u c
    by_cases hu0 : u = []
    · subst hu0
      have e : NumText.digitsVal ([] ++ [c]) = c - 48 := by
        rw [hv]
        show 0 * 10 + (c - 48) = c - 48
        omega
      rw [e, Nat.toDigits_of_lt_base (by omega)]
      refine ⟨by rw [List.map_cons, List.map_nil, hcd]; rfl, ?_⟩
      by_cases hc0 : c = 48
      · exact .inl (by rw [hc0]; rfl)
      · exact .inr (by omega)
    · have hul : u.length = n := by
        rw [List.length_append, List.length_cons, List.length_nil] at hl
        omega
      have hz2 : u.take 1 ≠ [48] := by
        rcases hz with hz | hz
        · cases u with
          | nil => exact absurd rfl hu0
          | cons a u => exact hz
        · exfalso
          cases u with
          | nil => exact hu0 rfl
          | cons a u =>
            have := congrArg List.length hz
            rw [List.length_append, List.length_cons] at this
            simp at this
      obtain ⟨i1, i2⟩ := ih u hul hu.1 hu0 (.inl hz2)
      have hpos : 0 < NumText.digitsVal u := by
        rcases i2 with i2 | i2
        · exact absurd (by rw [i2]; rfl) hz2
        · exact i2
      have t : Nat.toDigits 10 (NumText.digitsVal u) ++ Nat.toDigits 10 (c - 48) = Nat.toDigits 10 (10 * NumText.digitsVal u + (c - 48)) := Nat.toDigits_append_toDigits (by decide) (by omega) (by omega)
      refine ⟨?_, .inr (by omega)⟩
      rw [hv, Nat.mul_comm, ← t, List.map_append, i1, Nat.toDigits_of_lt_base (by omega), List.map_cons, List.map_nil, hcd]
theorem figs_back {w : List Nat} (h : figs w = true) : figsOf ((NumText.digitsVal w : Nat) : Int) = w := by
  unfold figs at h
  rw [Bool.and_eq_true, Bool.and_eq_true, Bool.or_eq_true, Bool.not_eq_true', decide_eq_false_iff_not, decide_eq_true_eq, Bool.not_eq_true', decide_eq_false_iff_not] at h
  rw [show figsOf ((NumText.digitsVal w : Nat) : Int) = (Nat.toDigits 10 (NumText.digitsVal w)).map Char.toNat from PySem.W.KIN.signs_num _]
  exact (digs_back _ w rfl h.2.1 h.1 (h.2.2.elim .inr .inl)).1
theorem digs_lt : ∀ (n : Nat) (w : List Nat), w.length = n → w.all isD = true → NumText.digitsVal w < 10 ^ w.length := by
  intro n
  induction n with
  | zero =>
    intro w hl _
    rw [List.eq_nil_of_length_eq_zero hl]
    decide
  | succ n ih =>
    intro w hl hd
    have h0 : w ≠ [] := fun e => by rw [e] at hl; cases hl
    obtain ⟨u, c, rfl⟩ := snocL h0
    have hu : u.all isD = true ∧ isD c = true := by
      rw [List.all_append, Bool.and_eq_true] at hd
      exact ⟨hd.1, by have := hd.2; rw [List.all_cons, List.all_nil, Bool.and_true] at this; exact this⟩
    have hc : 48 ≤ c ∧ c ≤ 57 := by
      have := hu.2
      unfold isD at this
      rw [Bool.and_eq_true, decide_eq_true_eq, decide_eq_true_eq] at this
      exact this
    rw [List.length_append, List.length_cons, List.length_nil] at hl
    have := ih u (by omega) hu.1
    rw [PySem.NumText.digitsVal_snoc, List.length_append, List.length_cons, List.length_nil, Nat.pow_succ]
    omega
theorem all_tw {p : Nat → Bool} {l : List Nat} : (l.takeWhile p).all p = true := by
  induction l with
  | nil => rfl
  | cons c l ih =>
    rw [List.takeWhile_cons]
    cases h : p c with
    | true => rw [if_pos rfl, List.all_cons, h, ih]; rfl
    | false => rfl
theorem tw_take {p : Nat → Bool} {l : List Nat} : l.take (l.takeWhile p).length = l.takeWhile p := by
  induction l with
  | nil => rfl
  | cons c l ih =>
    rw [List.takeWhile_cons]
    cases h : p c with
    | true => rw [if_pos rfl, List.length_cons, List.take_succ_cons, ih]
    | false => rfl
/-- a leaf's value, its text -/
theorem leafL_ok {l : List Nat} {v : D} {k : Nat} (h : leafL l = some (v, k)) : v.tv = true ∧ v.tx = l.take k ∧ v.dp = 0 ∧ ∀ ds, v ≠ .tup ds := by
  cases l with
  | nil => cases h
  | cons c r =>
    rw [leafL_cons] at h
    split at h
    · rename_i hc
      cases h
      rw [hc]
      exact ⟨rfl, rfl, rfl, fun _ => by simp⟩
    · split at h
      · rename_i hc
        split at h
        · rename_i hq
          cases h
          have ew : (S (r.takeWhile isL)).cps.toList = r.takeWhile isL := List.toList_toArray
          refine ⟨?_, ?_, rfl, fun _ => by simp⟩
          · show (S (r.takeWhile isL)).cps.toList.all isL = true
            rw [ew]
            exact all_tw
          · show 34 :: ((S (r.takeWhile isL)).cps.toList ++ [34]) = _
            rw [ew, hc, List.take_succ_cons, List.take_add, tw_take, hq]
        · cases h
      · split at h
        · split at h
          · rename_i hf
            rw [Bool.and_eq_true, decide_eq_true_eq] at hf
            cases h
            have hlt := digs_lt _ _ rfl (all_tw (p := isD) (l := c :: r))
            refine ⟨?_, ?_, rfl, fun _ => by simp⟩
            · have h40 : NumText.digitsVal ((c :: r).takeWhile isD) < 10 ^ 40 := Nat.lt_of_lt_of_le hlt (Nat.pow_le_pow_right (show 0 < 10 by decide) hf.2)
              generalize NumText.digitsVal ((c :: r).takeWhile isD) = n at h40
              rw [tv_int, decide_eq_true (show (0 : Int) ≤ (n : Int) by omega), decide_eq_true (show (n : Int) < 10 ^ 40 by omega)]
              rfl
            · show figsOf _ = _
              rw [figs_back hf.1, tw_take]
          · cases h
        · cases h
end G
set_option Elab.async false
set_option linter.all false
set_option maxRecDepth 100000
namespace G
open PySem PySem.Spec PyProof.Rows L2
section
variable {K : PySem.W.Frag}
/-! ### told -/
/-- what waits: a value, or a sign -/
inductive Wt where
  | val (v : D) | sign (l : List Nat)
def Wt.enc : Wt → D
  | .val v => .tup [.bl true, v]
  | .sign l => .tup [.bl false, .str (S l)]
def Wt.tx : Wt → List Nat
  | .val v => v.tx
  | .sign l => l
def Wt.ok : Wt → Prop
  | .val v => v.tv = true
  | .sign l => l.length = 1
/-- what is still to be told, the next one first -/
def remT (st : List Wt) : List Nat := (st.map Wt.tx).flatten
def stD (st : List Wt) : List D := (st.map Wt.enc).reverse
theorem stD_cons {x : Wt} {st : List Wt} : stD (x :: st) = stD st ++ [x.enc] := by
  unfold stD
  rw [List.map_cons, List.reverse_cons]
theorem remT_cons {x : Wt} {st : List Wt} : remT (x :: st) = x.tx ++ remT st := rfl
theorem Wt.pos {x : Wt} (h : x.ok) : 1 ≤ x.tx.length := by
  cases x with
  | val v =>
    obtain ⟨c, r, e, _⟩ := tx_ne h
    show 1 ≤ v.tx.length
    rw [e, List.length_cons]; omega
  | sign l => exact Nat.le_of_eq (Eq.symm h)
theorem remT_len {st : List Wt} (h : ∀ x ∈ st, x.ok) : st.length ≤ (remT st).length := by
  induction st with
  | nil => exact Nat.le_refl _
  | cons x st ih =>
    rw [remT_cons, List.length_append, List.length_cons]
    have h1 := Wt.pos (h x List.mem_cons_self)
    have h2 := ih fun y hy => h y (List.mem_cons_of_mem _ hy)
    omega
/-- what a tuple leaves waiting -/
def inner (ds : List D) : List Wt := ds.flatMap (fun d => [.val d, .sign [44]]) ++ [.sign [41]]
theorem inner_len (ds : List D) : ds.length ≤ (inner ds).length := by
  induction ds with
  | nil => exact Nat.zero_le _
  | cons d ds ih =>
    have e : inner (d :: ds) = .val d :: .sign [44] :: inner ds := rfl
    rw [e, List.length_cons, List.length_cons, List.length_cons]
    omega
theorem inner_tx (ds : List D) : remT (inner ds) = D.txs ds ++ [41] := by
  induction ds with
  | nil => rfl
  | cons d ds ih =>
    have e : inner (d :: ds) = .val d :: .sign [44] :: inner ds := rfl
    rw [e, remT_cons, remT_cons, ih]
    show d.tx ++ ([44] ++ (D.txs ds ++ [41])) = (d.tx ++ 44 :: D.txs ds) ++ [41]
    simp
theorem inner_ok {ds : List D} (h : D.tvs ds = true) : ∀ x ∈ inner ds, x.ok := fun x hx => by
  rcases List.mem_append.mp hx with hx | hx
  · obtain ⟨d, hd, hx⟩ := List.mem_flatMap.mp hx
    rcases List.mem_cons.mp hx with rfl | hx
    · exact tvs_mem h hd
    · rw [List.mem_singleton.mp hx]; rfl
  · rw [List.mem_singleton.mp hx]; rfl
theorem stD_inner {ds : List D} {st : List Wt} : stD (inner ds ++ st) = (stD st ++ [Wt.enc (.sign [41])]) ++ (ds.reverse.map fun d => [Wt.enc (.sign [44]), Wt.enc (.val d)]).flatten := by
  induction ds with
  | nil =>
    show stD (.sign [41] :: st) = _
    rw [stD_cons]
    simp
  | cons d ds ih =>
    have e : inner (d :: ds) ++ st = .val d :: .sign [44] :: (inner ds ++ st) := rfl
    rw [e, stD_cons, stD_cons, ih, List.reverse_cons, List.map_append, List.flatten_append]
    simp
theorem remT_app {a b : List Wt} : remT (a ++ b) = remT a ++ remT b := by
  unfold remT
  rw [List.map_append, List.flatten_append]
def sp_text_of : DSp := fun ds H Q _ => ∃ v : D, ds = [v] ∧ v.tv = true ∧ v.tx.length ≤ 100000 ∧ Q (.str (S v.tx)) H
def to_turn (K : PySem.W.Frag) (s_atom_text : DSp) : SW (plainC K) := (sSeq (sAsg (bM0 mPop0 (bVar 2)) (gwTup 2 (gsCons (gwName 3) (gsCons (gwName 4) gsNil)))) (sIf (bNot (bTru (bVar 3))) (sDrop (bM mAppend (bVar 1) (aCons (bVar 4) aNil))) (sIf (bTru (bIsi (isiB .tup) (bVar 4))) (sSeq (sDrop (bM mAppend (bVar 1) (aCons (bStr "(") aNil))) (sSeq (sDrop (bM mAppend (bVar 2) (aCons (bTup (aCons (bBl false) (aCons (bStr ")") aNil))) aNil))) (sFor (jRev (bVar 4)) (gwName 5) (sSeq (sDrop (bM mAppend (bVar 2) (aCons (bTup (aCons (bBl false) (aCons (bStr ",") aNil))) aNil))) (sDrop (bM mAppend (bVar 2) (aCons (bTup (aCons (bBl true) (aCons (bVar 5) aNil))) aNil))))))) (sDrop (bM mAppend (bVar 1) (aCons (bCall 1 s_atom_text (aCons (bVar 4) aNil)) aNil))))))
def to_loop (K : PySem.W.Frag) (s_atom_text : DSp) : SW (plainC K) := (sSeq (sWhile (bTru (bVar 2)) (to_turn K s_atom_text)) (sRet (bM mJoin (bStr "") (aCons (bVar 1) aNil))))
theorem text_of_split {K : PySem.W.Frag} {s_atom_text : DSp} : b_text_of K s_atom_text = (sSeq (sAsg (bLst false aNil) (gwName 1)) (sSeq (sAsg (bLst false (aCons (bTup (aCons (bBl true) (aCons (bVar 0) aNil))) aNil)) (gwName 2)) (to_loop K s_atom_text))) := rfl
structure TellI (H0 H : DH) (p q : Addr) (v : D) (st : List Wt) (ys : List (List Nat)) : Prop where
  hp : H p = some (.lst (ys.map fun y => .str (S y)))
  hq : H q = some (.lst (stD st))
  ne : p ≠ q
  n1 : H0 p = none
  n2 : H0 q = none
  le : leD H0 H
  ok : ∀ x ∈ st, x.ok
  tx : ys.flatten ++ remT st = v.tx
  yl : ys.length ≤ ys.flatten.length
theorem TellI.short {H0 H : DH} {p q : Addr} {v : D} {st : List Wt} {ys : List (List Nat)} (I : TellI H0 H p q v st ys) (hz : v.tx.length ≤ 100000) : ys.length ≤ 100000 ∧ st.length ≤ 100000 := by
  have h1 := congrArg List.length I.tx
  rw [List.length_append] at h1
  have h2 := I.yl
  have h3 := remT_len I.ok
  omega
/-- a piece goes from what waits to the pieces -/
theorem TellI.move {H0 H H' : DH} {p q : Addr} {v : D} {st : List Wt} {ys : List (List Nat)} {x : Wt} (I : TellI H0 H p q v (x :: st) ys) {l : List Nat} {more : List Wt} (e : x.tx = l ++ remT more) (hl : 1 ≤ l.length) (hm : ∀ y ∈ more, y.ok)
    (hp : H' p = some (.lst ((ys.map fun y => D.str (S y)) ++ [.str (S l)]))) (hq : H' q = some (.lst (stD (more ++ st)))) (le : leD H0 H') : TellI H0 H' p q v (more ++ st) (ys ++ [l]) ∧ (remT (more ++ st)).length < (remT (x :: st)).length := by
  refine ⟨⟨by rw [hp, List.map_append]; rfl, hq, I.ne, I.n1, I.n2, le, fun y hy => ?_, ?_, ?_⟩, ?_⟩
  · rcases List.mem_append.mp hy with hy | hy
    · exact hm y hy
    · exact I.ok y (List.mem_cons_of_mem _ hy)
  · have := I.tx
    rw [remT_cons, e] at this
    rw [← this, List.flatten_append, remT_app]
    simp
  · have := I.yl
    rw [List.flatten_append, List.length_append, List.length_append]
    simp only [List.flatten_cons, List.flatten_nil, List.append_nil, List.length_cons, List.length_nil]
    omega
  · rw [remT_cons, e, remT_app, List.length_append, List.length_append, List.length_append]
    omega
theorem w_to_turn {DD : DEnds} {H0 H : DH} {p q : Addr} {v : D} {x : Wt} {st : List Wt} {ys : List (List Nat)} {x3 x4 x5 : Option D} (I : TellI H0 H p q v (x :: st) ys) (hz : v.tx.length ≤ 100000)
    (nx : ∀ (st' : List Wt) (ys' : List (List Nat)) (H' : DH) (x3 x4 x5 : Option D), TellI H0 H' p q v st' ys' ∧ (remT st').length < (remT (x :: st)).length → DD.nx [some v, some (.ref p), some (.ref q), x3, x4, x5] H') :
    (to_turn K sp_atom_text).w DD [some v, some (.ref p), some (.ref q), x3, x4, x5] H := by
  obtain ⟨z1, z2⟩ := I.short hz
  have hq := I.hq
  rw [stD_cons] at hq
  simp only [to_turn, w_m0, w_m, w_notT, w_isiBC, w_ret, w_retF, w_retN, w_sif, w_seq, w_asg, w_drop, w_par, w_aug, w_for, w_next, w_brk, w_cnt, w_sfld, w_raise, w_thru, w_andV, w_orV, w_notV, w_and, w_or, w_not, w_if, w_test, w_tru, w_isiB, w_var, w_int, w_str, w_bl, w_non, w_op, w_chain, w_neg, w_cons, w_nil, w_tup, w_lst, w_newT, w_sl, w_oN, w_oS, w_B, w_call, w_fld, w_lc, w_yes, w_jAny, w_rng1, w_rng2, w_zip, w_gNm, w_gvNm, w_gTup, w_gsN, w_gsC, o_sub, o_mod, o_lt, o_le, o_gt, o_ge, o_add, o_addT, o_addL, o_mul, o_ixT, o_ixL, o_ixF, o_eqI, o_neI, o_isN, o_isNotN, o_isB, f_all, f_lenT, f_lenL, f_lenF, f_int, f_tupL, f_tupT, i_tup, i_lst, i_frz, i_rng, i_zipT, i_zipL, s_tup, s_lst, p_some, u_bl, u_int, u_tup, u_lst, wipeD, List.getElem?_cons_zero, List.getElem?_cons_succ, List.set_cons_zero, List.set_cons_succ, List.length_cons, List.length_nil, true_and, and_true, if_and, if_or, Bool.false_eq_true, if_false, if_true, ite_true, ite_false, Bool.not_true, Bool.not_false]
  refine ⟨ty_atP hq, pop_last hq ?_⟩
  generalize hH1 : updD H q (.lst (stD st)) = H1
  have p1 : H1 p = some (.lst (ys.map fun y => .str (S y))) := by rw [← hH1, updD_ne I.ne]; exact I.hp
  have q1 : H1 q = some (.lst (stD st)) := by rw [← hH1]; exact updD_same
  have le1 : leD H0 H1 := by rw [← hH1]; exact I.le.updR I.n2
  have hx := I.ok x List.mem_cons_self
  have zl : (ys.map fun y => D.str (S y)).length < sizeLine := by rw [List.length_map, szl]; omega
  cases x with
  | sign l =>
    simp only [Wt.enc, w_m, w_notT, w_isiBC, w_ret, w_retF, w_retN, w_sif, w_seq, w_asg, w_drop, w_par, w_aug, w_for, w_next, w_brk, w_cnt, w_sfld, w_raise, w_thru, w_andV, w_orV, w_notV, w_and, w_or, w_not, w_if, w_test, w_tru, w_isiB, w_var, w_int, w_str, w_bl, w_non, w_op, w_chain, w_neg, w_cons, w_nil, w_tup, w_lst, w_newT, w_sl, w_oN, w_oS, w_B, w_call, w_fld, w_lc, w_yes, w_jAny, w_rng1, w_rng2, w_zip, w_gNm, w_gvNm, w_gTup, w_gsN, w_gsC, o_sub, o_mod, o_lt, o_le, o_gt, o_ge, o_add, o_addT, o_addL, o_mul, o_ixT, o_ixL, o_ixF, o_eqI, o_neI, o_isN, o_isNotN, o_isB, f_all, f_lenT, f_lenL, f_lenF, f_int, f_tupL, f_tupT, i_tup, i_lst, i_frz, i_rng, i_zipT, i_zipL, s_tup, s_lst, p_some, u_bl, u_int, u_tup, u_lst, wipeD, List.getElem?_cons_zero, List.getElem?_cons_succ, List.set_cons_zero, List.set_cons_succ, List.length_cons, List.length_nil, true_and, and_true, if_and, if_or, Bool.false_eq_true, if_false, if_true, ite_true, ite_false, Bool.not_true, Bool.not_false]
    refine ⟨ty_at p1, ap_at p1 zl (nx st (ys ++ [l]) _ _ _ _ ?_)⟩
    exact I.move (l := l) (more := []) (by simp [Wt.tx, remT]) (Nat.le_of_eq (Eq.symm hx)) (fun _ h => nomatch h) updD_same (by rw [updD_ne I.ne.symm]; exact q1) (le1.updR I.n1)
  | val d =>
    have hd : d.tv = true := hx
    have hdz : d.tx.length ≤ 100000 := by
      have h1 := congrArg List.length I.tx
      rw [remT_cons, List.length_append, List.length_append] at h1
      have : (Wt.val d).tx.length = d.tx.length := rfl
      omega
    have hnr : d.nr = true := D.flat.nr (tx_flat d hd)
    simp only [Wt.enc, isi_nr hnr, w_notT, w_isiBC, w_ret, w_retF, w_retN, w_sif, w_seq, w_asg, w_drop, w_par, w_aug, w_for, w_next, w_brk, w_cnt, w_sfld, w_raise, w_thru, w_andV, w_orV, w_notV, w_and, w_or, w_not, w_if, w_test, w_tru, w_isiB, w_var, w_int, w_str, w_bl, w_non, w_op, w_chain, w_neg, w_cons, w_nil, w_tup, w_lst, w_newT, w_sl, w_oN, w_oS, w_B, w_call, w_fld, w_lc, w_yes, w_jAny, w_rng1, w_rng2, w_zip, w_gNm, w_gvNm, w_gTup, w_gsN, w_gsC, o_sub, o_mod, o_lt, o_le, o_gt, o_ge, o_add, o_addT, o_addL, o_mul, o_ixT, o_ixL, o_ixF, o_eqI, o_neI, o_isN, o_isNotN, o_isB, f_all, f_lenT, f_lenL, f_lenF, f_int, f_tupL, f_tupT, i_tup, i_lst, i_frz, i_rng, i_zipT, i_zipL, s_tup, s_lst, p_some, u_bl, u_int, u_tup, u_lst, wipeD, List.getElem?_cons_zero, List.getElem?_cons_succ, List.set_cons_zero, List.set_cons_succ, List.length_cons, List.length_nil, true_and, and_true, if_and, if_or, Bool.false_eq_true, if_false, if_true, ite_true, ite_false, Bool.not_true, Bool.not_false]
    by_cases ht : ∃ ds, d = .tup ds
    · obtain ⟨ds, rfl⟩ := ht
      simp only [show (D.tup ds).isT .tup = true from rfl, lit_open, lit_close, lit_comma, w_m, w_rev, w_notT, w_isiBC, w_ret, w_retF, w_retN, w_sif, w_seq, w_asg, w_drop, w_par, w_aug, w_for, w_next, w_brk, w_cnt, w_sfld, w_raise, w_thru, w_andV, w_orV, w_notV, w_and, w_or, w_not, w_if, w_test, w_tru, w_isiB, w_var, w_int, w_str, w_bl, w_non, w_op, w_chain, w_neg, w_cons, w_nil, w_tup, w_lst, w_newT, w_sl, w_oN, w_oS, w_B, w_call, w_fld, w_lc, w_yes, w_jAny, w_rng1, w_rng2, w_zip, w_gNm, w_gvNm, w_gTup, w_gsN, w_gsC, o_sub, o_mod, o_lt, o_le, o_gt, o_ge, o_add, o_addT, o_addL, o_mul, o_ixT, o_ixL, o_ixF, o_eqI, o_neI, o_isN, o_isNotN, o_isB, f_all, f_lenT, f_lenL, f_lenF, f_int, f_tupL, f_tupT, i_tup, i_lst, i_frz, i_rng, i_zipT, i_zipL, s_tup, s_lst, p_some, u_bl, u_int, u_tup, u_lst, wipeD, List.getElem?_cons_zero, List.getElem?_cons_succ, List.set_cons_zero, List.set_cons_succ, List.length_cons, List.length_nil, true_and, and_true, if_and, if_or, Bool.false_eq_true, if_false, if_true, ite_true, ite_false, Bool.not_true, Bool.not_false]
      refine ⟨ty_at p1, ap_at p1 zl ?_⟩
      generalize hH2 : updD H1 p (.lst ((ys.map fun y => D.str (S y)) ++ [.str (S [40])])) = H2
      have p2 : H2 p = some (.lst ((ys.map fun y => D.str (S y)) ++ [.str (S [40])])) := by rw [← hH2]; exact updD_same
      have q2 : H2 q = some (.lst (stD st)) := by rw [← hH2, updD_ne I.ne.symm]; exact q1
      have le2 : leD H0 H2 := by rw [← hH2]; exact le1.updR I.n1
      have zs : (stD st).length ≤ 100000 := by
        unfold stD
        rw [List.length_reverse, List.length_map]
        rw [List.length_cons] at z2
        omega
      refine ⟨ty_at q2, by rw [szl]; omega, ap_at q2 (by rw [szl]; omega) ?_⟩
      generalize hH3 : updD H2 q (.lst (stD st ++ [.tup [.bl false, .str (S [41])]])) = H3
      have p3 : H3 p = some (.lst ((ys.map fun y => D.str (S y)) ++ [.str (S [40])])) := by rw [← hH3, updD_ne I.ne]; exact p2
      have q3 : H3 q = some (.lst (stD st ++ [.tup [.bl false, .str (S [41])]])) := by rw [← hH3]; exact updD_same
      have le3 : leD H0 H3 := by rw [← hH3]; exact le2.updR I.n2
      show forD _ _ _ _ _ _ _
      have hdl : ds.length ≤ 100000 := by
        have h1 := remT_len (inner_ok hd)
        rw [inner_tx] at h1
        have h2 : (D.tup ds).tx.length = (D.txs ds ++ [41]).length + 1 := rfl
        have h3 := inner_len ds
        omega
      refine for_all ds.reverse (fun i σ H' => ∃ y5, σ = [some v, some (.ref p), some (.ref q), some (.bl true), some (.tup ds), y5] ∧ H' p = some (.lst ((ys.map fun y => D.str (S y)) ++ [.str (S [40])])) ∧ H' q = some (.lst ((stD st ++ [Wt.enc (.sign [41])]) ++ ((ds.reverse.take i).map fun d => [Wt.enc (.sign [44]), Wt.enc (.val d)]).flatten)) ∧ leD H0 H') ⟨x5, rfl, p3, by rw [List.take_zero, List.map_nil, List.flatten_nil, List.append_nil]; exact q3, le3⟩ (fun _ _ _ _ => trivial) ?_ ?_
      · rintro i m _ H4 hm ⟨y5, rfl, p4, q4, le4⟩ k hk
        have hil := (List.getElem?_eq_some_iff.mp hm).1
        rw [List.length_reverse] at hil
        have hz4 : ((stD st ++ [Wt.enc (.sign [41])]) ++ ((ds.reverse.take i).map fun d => [Wt.enc (.sign [44]), Wt.enc (.val d)]).flatten).length ≤ 400000 := by
          rw [List.length_append, List.length_append, List.length_flatten, List.map_map, show (List.length ∘ fun d => [Wt.enc (.sign [44]), Wt.enc (.val d)]) = fun _ => 2 from rfl, List.map_const', List.sum_replicate_nat, List.length_take]
          simp only [List.length_cons, List.length_nil]
          omega
        simp only [w_m, w_notT, w_isiBC, w_ret, w_retF, w_retN, w_sif, w_seq, w_asg, w_drop, w_par, w_aug, w_for, w_next, w_brk, w_cnt, w_sfld, w_raise, w_thru, w_andV, w_orV, w_notV, w_and, w_or, w_not, w_if, w_test, w_tru, w_isiB, w_var, w_int, w_str, w_bl, w_non, w_op, w_chain, w_neg, w_cons, w_nil, w_tup, w_lst, w_newT, w_sl, w_oN, w_oS, w_B, w_call, w_fld, w_lc, w_yes, w_jAny, w_rng1, w_rng2, w_zip, w_gNm, w_gvNm, w_gTup, w_gsN, w_gsC, o_sub, o_mod, o_lt, o_le, o_gt, o_ge, o_add, o_addT, o_addL, o_mul, o_ixT, o_ixL, o_ixF, o_eqI, o_neI, o_isN, o_isNotN, o_isB, f_all, f_lenT, f_lenL, f_lenF, f_int, f_tupL, f_tupT, i_tup, i_lst, i_frz, i_rng, i_zipT, i_zipL, s_tup, s_lst, p_some, u_bl, u_int, u_tup, u_lst, wipeD, List.getElem?_cons_zero, List.getElem?_cons_succ, List.set_cons_zero, List.set_cons_succ, List.length_cons, List.length_nil, true_and, and_true, if_and, if_or, Bool.false_eq_true, if_false, if_true, ite_true, ite_false, Bool.not_true, Bool.not_false]
        refine ⟨ty_at q4, by rw [szl]; omega, ap_at q4 (by rw [szl]; omega) ?_⟩
        generalize hH5 : updD H4 q _ = H5
        have q5 : H5 q = some (.lst (((stD st ++ [Wt.enc (.sign [41])]) ++ ((ds.reverse.take i).map fun d => [Wt.enc (.sign [44]), Wt.enc (.val d)]).flatten) ++ [Wt.enc (.sign [44])])) := by rw [← hH5]; exact updD_same
        have p5 : H5 p = H4 p := by rw [← hH5, updD_ne I.ne]
        have le5 : leD H0 H5 := by rw [← hH5]; exact le4.updR I.n2
        refine ⟨ty_at q5, by rw [szl]; omega, ap_at q5 (by rw [List.length_append, List.length_cons, List.length_nil, szl]; omega) (hk _ _ ⟨some m, rfl, by rw [updD_ne I.ne, p5]; exact p4, ?_, le5.updR I.n2⟩)⟩
        rw [updD_same, List.take_add_one, hm]
        simp [Wt.enc]
      · rintro _ H4 ⟨y5, rfl, p4, q4, le4⟩
        rw [List.take_length, ← stD_inner] at q4
        refine nx (inner ds ++ st) (ys ++ [[40]]) H4 _ _ _ (I.move (l := [40]) (more := inner ds) ?_ (by decide) (inner_ok hd) p4 q4 le4)
        rw [inner_tx]; rfl
    · have hnt : ∀ xs, d ≠ .tup xs := fun xs e => ht ⟨xs, e⟩
      have hit : d.isT .tup = false := by
        cases d <;> first
          | rfl
          | exact absurd rfl (hnt _)
          | cases hd
      rw [hit]
      simp only [w_m, w_notT, w_isiBC, w_ret, w_retF, w_retN, w_sif, w_seq, w_asg, w_drop, w_par, w_aug, w_for, w_next, w_brk, w_cnt, w_sfld, w_raise, w_thru, w_andV, w_orV, w_notV, w_and, w_or, w_not, w_if, w_test, w_tru, w_isiB, w_var, w_int, w_str, w_bl, w_non, w_op, w_chain, w_neg, w_cons, w_nil, w_tup, w_lst, w_newT, w_sl, w_oN, w_oS, w_B, w_call, w_fld, w_lc, w_yes, w_jAny, w_rng1, w_rng2, w_zip, w_gNm, w_gvNm, w_gTup, w_gsN, w_gsC, o_sub, o_mod, o_lt, o_le, o_gt, o_ge, o_add, o_addT, o_addL, o_mul, o_ixT, o_ixL, o_ixF, o_eqI, o_neI, o_isN, o_isNotN, o_isB, f_all, f_lenT, f_lenL, f_lenF, f_int, f_tupL, f_tupT, i_tup, i_lst, i_frz, i_rng, i_zipT, i_zipL, s_tup, s_lst, p_some, u_bl, u_int, u_tup, u_lst, wipeD, List.getElem?_cons_zero, List.getElem?_cons_succ, List.set_cons_zero, List.set_cons_succ, List.length_cons, List.length_nil, true_and, and_true, if_and, if_or, Bool.false_eq_true, if_false, if_true, ite_true, ite_false, Bool.not_true, Bool.not_false]
      refine ⟨ty_at p1, d, rfl, hd, hnt, hdz, ?_⟩
      refine ap_at p1 zl (nx st (ys ++ [d.tx]) _ _ _ _ (I.move (l := d.tx) (more := []) (by simp [Wt.tx, remT]) (Wt.pos hx) (fun _ h => nomatch h) updD_same (by rw [updD_ne I.ne.symm]; exact q1) (le1.updR I.n1)))
theorem w_text_of : ∀ ds H Q E, ds.length = 1 → sp_text_of ds H Q E → (b_text_of K sp_atom_text).w (endsD Q E) (startD ["value", "pieces", "waiting", "is_value", "one", "member"] ds) H := by
  rintro _ H Q E - ⟨v, rfl, hv, hz, q⟩
  simp only [text_of_split, show startD ["value", "pieces", "waiting", "is_value", "one", "member"] [v] = [some v, none, none, none, none, none] from rfl, w_newF, w_notT, w_isiBC, w_ret, w_retF, w_retN, w_sif, w_seq, w_asg, w_drop, w_par, w_aug, w_for, w_next, w_brk, w_cnt, w_sfld, w_raise, w_thru, w_andV, w_orV, w_notV, w_and, w_or, w_not, w_if, w_test, w_tru, w_isiB, w_var, w_int, w_str, w_bl, w_non, w_op, w_chain, w_neg, w_cons, w_nil, w_tup, w_lst, w_newT, w_sl, w_oN, w_oS, w_B, w_call, w_fld, w_lc, w_yes, w_jAny, w_rng1, w_rng2, w_zip, w_gNm, w_gvNm, w_gTup, w_gsN, w_gsC, o_sub, o_mod, o_lt, o_le, o_gt, o_ge, o_add, o_addT, o_addL, o_mul, o_ixT, o_ixL, o_ixF, o_eqI, o_neI, o_isN, o_isNotN, o_isB, f_all, f_lenT, f_lenL, f_lenF, f_int, f_tupL, f_tupT, i_tup, i_lst, i_frz, i_rng, i_zipT, i_zipL, s_tup, s_lst, p_some, u_bl, u_int, u_tup, u_lst, wipeD, List.getElem?_cons_zero, List.getElem?_cons_succ, List.set_cons_zero, List.set_cons_succ, List.length_cons, List.length_nil, true_and, and_true, if_and, if_or, Bool.false_eq_true, if_false, if_true, ite_true, ite_false, Bool.not_true, Bool.not_false]
  refine ⟨by rw [szl]; omega, fun p hp => ⟨by rw [szl]; omega, by rw [szl]; omega, fun r hr => ?_⟩⟩
  have hne : p ≠ r := fun e => by
    rw [← e, updD_same] at hr
    cases hr
  have hr0 : H r = none := by rwa [updD_ne hne.symm] at hr
  have I0 : TellI H (updD (updD H p (.lst [])) r (.lst [.tup [.bl true, v]])) p r v [.val v] [] := ⟨by rw [updD_ne hne]; exact updD_same, updD_same, hne, hp, hr0, (leD.rfl.updR hp).updR hr0, fun x hx => by rw [List.mem_singleton.mp hx]; exact hv, by simp [remT, Wt.tx], Nat.le_refl _⟩
  generalize (updD (updD H p (.lst [])) r (.lst [.tup [.bl true, v]])) = H1 at I0
  simp only [to_loop, w_while, w_notT, w_isiBC, w_ret, w_retF, w_retN, w_sif, w_seq, w_asg, w_drop, w_par, w_aug, w_for, w_next, w_brk, w_cnt, w_sfld, w_raise, w_thru, w_andV, w_orV, w_notV, w_and, w_or, w_not, w_if, w_test, w_tru, w_isiB, w_var, w_int, w_str, w_bl, w_non, w_op, w_chain, w_neg, w_cons, w_nil, w_tup, w_lst, w_newT, w_sl, w_oN, w_oS, w_B, w_call, w_fld, w_lc, w_yes, w_jAny, w_rng1, w_rng2, w_zip, w_gNm, w_gvNm, w_gTup, w_gsN, w_gsC, o_sub, o_mod, o_lt, o_le, o_gt, o_ge, o_add, o_addT, o_addL, o_mul, o_ixT, o_ixL, o_ixF, o_eqI, o_neI, o_isN, o_isNotN, o_isB, f_all, f_lenT, f_lenL, f_lenF, f_int, f_tupL, f_tupT, i_tup, i_lst, i_frz, i_rng, i_zipT, i_zipL, s_tup, s_lst, p_some, u_bl, u_int, u_tup, u_lst, wipeD, List.getElem?_cons_zero, List.getElem?_cons_succ, List.set_cons_zero, List.set_cons_succ, List.length_cons, List.length_nil, true_and, and_true, if_and, if_or, Bool.false_eq_true, if_false, if_true, ite_true, ite_false, Bool.not_true, Bool.not_false]
  refine ⟨fun m σ H' => ∃ st ys x3 x4 x5, σ = [some v, some (.ref p), some (.ref r), x3, x4, x5] ∧ TellI H H' p r v st ys ∧ m = (remT st).length, ⟨_, _, _, _, _, _, rfl, I0, rfl⟩, ?_⟩
  rintro m _ H' ⟨st, ys, x3, x4, x5, rfl, I, rfl⟩
  simp only [u_ref I.hq, w_m, lit_nil, w_notT, w_isiBC, w_ret, w_retF, w_retN, w_sif, w_seq, w_asg, w_drop, w_par, w_aug, w_for, w_next, w_brk, w_cnt, w_sfld, w_raise, w_thru, w_andV, w_orV, w_notV, w_and, w_or, w_not, w_if, w_test, w_tru, w_isiB, w_var, w_int, w_str, w_bl, w_non, w_op, w_chain, w_neg, w_cons, w_nil, w_tup, w_lst, w_newT, w_sl, w_oN, w_oS, w_B, w_call, w_fld, w_lc, w_yes, w_jAny, w_rng1, w_rng2, w_zip, w_gNm, w_gvNm, w_gTup, w_gsN, w_gsC, o_sub, o_mod, o_lt, o_le, o_gt, o_ge, o_add, o_addT, o_addL, o_mul, o_ixT, o_ixL, o_ixF, o_eqI, o_neI, o_isN, o_isNotN, o_isB, f_all, f_lenT, f_lenL, f_lenF, f_int, f_tupL, f_tupT, i_tup, i_lst, i_frz, i_rng, i_zipT, i_zipL, s_tup, s_lst, p_some, u_bl, u_int, u_tup, u_lst, wipeD, List.getElem?_cons_zero, List.getElem?_cons_succ, List.set_cons_zero, List.set_cons_succ, List.length_cons, List.length_nil, true_and, and_true, if_and, if_or, Bool.false_eq_true, if_false, if_true, ite_true, ite_false, Bool.not_true, Bool.not_false]
  cases st with
  | nil =>
    have ht := I.tx
    rw [show remT [] = [] from rfl, List.append_nil] at ht
    simp only [show (stD []).isEmpty = true from rfl, m_joinR I.hp, w_notT, w_isiBC, w_ret, w_retF, w_retN, w_sif, w_seq, w_asg, w_drop, w_par, w_aug, w_for, w_next, w_brk, w_cnt, w_sfld, w_raise, w_thru, w_andV, w_orV, w_notV, w_and, w_or, w_not, w_if, w_test, w_tru, w_isiB, w_var, w_int, w_str, w_bl, w_non, w_op, w_chain, w_neg, w_cons, w_nil, w_tup, w_lst, w_newT, w_sl, w_oN, w_oS, w_B, w_call, w_fld, w_lc, w_yes, w_jAny, w_rng1, w_rng2, w_zip, w_gNm, w_gvNm, w_gTup, w_gsN, w_gsC, o_sub, o_mod, o_lt, o_le, o_gt, o_ge, o_add, o_addT, o_addL, o_mul, o_ixT, o_ixL, o_ixF, o_eqI, o_neI, o_isN, o_isNotN, o_isB, f_all, f_lenT, f_lenL, f_lenF, f_int, f_tupL, f_tupT, i_tup, i_lst, i_frz, i_rng, i_zipT, i_zipL, s_tup, s_lst, p_some, u_bl, u_int, u_tup, u_lst, wipeD, List.getElem?_cons_zero, List.getElem?_cons_succ, List.set_cons_zero, List.set_cons_succ, List.length_cons, List.length_nil, true_and, and_true, if_and, if_or, Bool.false_eq_true, if_false, if_true, ite_true, ite_false, Bool.not_true, Bool.not_false]
    refine ⟨ty_joinS, by rw [ht]; omega, endsD_le ?_ I.le⟩
    rw [ht]
    exact q
  | cons x st =>
    have he : (stD (x :: st)).isEmpty = false := by
      rw [stD_cons]
      cases stD st <;> rfl
    simp only [he, w_notT, w_isiBC, w_ret, w_retF, w_retN, w_sif, w_seq, w_asg, w_drop, w_par, w_aug, w_for, w_next, w_brk, w_cnt, w_sfld, w_raise, w_thru, w_andV, w_orV, w_notV, w_and, w_or, w_not, w_if, w_test, w_tru, w_isiB, w_var, w_int, w_str, w_bl, w_non, w_op, w_chain, w_neg, w_cons, w_nil, w_tup, w_lst, w_newT, w_sl, w_oN, w_oS, w_B, w_call, w_fld, w_lc, w_yes, w_jAny, w_rng1, w_rng2, w_zip, w_gNm, w_gvNm, w_gTup, w_gsN, w_gsC, o_sub, o_mod, o_lt, o_le, o_gt, o_ge, o_add, o_addT, o_addL, o_mul, o_ixT, o_ixL, o_ixF, o_eqI, o_neI, o_isN, o_isNotN, o_isB, f_all, f_lenT, f_lenL, f_lenF, f_int, f_tupL, f_tupT, i_tup, i_lst, i_frz, i_rng, i_zipT, i_zipL, s_tup, s_lst, p_some, u_bl, u_int, u_tup, u_lst, wipeD, List.getElem?_cons_zero, List.getElem?_cons_succ, List.set_cons_zero, List.set_cons_succ, List.length_cons, List.length_nil, true_and, and_true, if_and, if_or, Bool.false_eq_true, if_false, if_true, ite_true, ite_false, Bool.not_true, Bool.not_false]
    exact w_to_turn I hz fun st' ys' H2 x3 x4 x5 h => ⟨_, h.2, st', ys', x3, x4, x5, rfl, h.1, rfl⟩
end
end G
set_option Elab.async false
set_option linter.all false
set_option maxRecDepth 100000
namespace G
open PySem PySem.Spec PyProof.Rows L2
section
variable {K : PySem.W.Frag}
/-! ### a leaf, or InvalidText -/
/-- what InvalidText keeps -/
def xT (T : List Nat) (i : Nat) : List (PySem.Str × D) := [("text", .str (S T)), ("at", .int (i : Nat))]
theorem xT_of {T : List Nat} {i : Nat} : mkF ["text", "at"] [D.str (S T), D.int (i : Nat)] = xT T i := rfl
theorem endsD_exl {Q : DQ} {E : DX1} {σ : DS} {H H' : DH} {c : PySem.Str} {fs : List (PySem.Str × D)} (h : E c fs H') (l : leD H' H) : (endsD Q E).ex c fs σ H := ⟨H', l, h⟩
def sp_string_at : DSp := fun ds H Q E => ∃ (T : List Nat) (a : Nat), ds = [.str (S T), .int (a : Int)] ∧ TxOk T ∧
  (if (T.drop (a + ((T.drop a).takeWhile isL).length)).take 1 = [34] then Q (.tup [.str (S ((T.drop a).takeWhile isL)), .int ((a + ((T.drop a).takeWhile isL).length + 1 : Nat) : Int)]) H else E "InvalidText" (xT T (a + ((T.drop a).takeWhile isL).length)) H)
theorem w_string_at : ∀ ds H Q E, ds.length = 2 → sp_string_at ds H Q E → (b_string_at K sp_is_letter).w (endsD Q E) (startD ["text", "at", "end"] ds) H := by
  rintro _ H Q E - ⟨T, a, rfl, hT, q⟩
  simp only [b_string_at, show startD ["text", "at", "end"] [.str (S T), .int (a : Int)] = [some (.str (S T)), some (.int (a : Int)), none] from rfl, w_while, w_notT, w_isiBC, w_ret, w_retF, w_retN, w_sif, w_seq, w_asg, w_drop, w_par, w_aug, w_for, w_next, w_brk, w_cnt, w_sfld, w_raise, w_thru, w_andV, w_orV, w_notV, w_and, w_or, w_not, w_if, w_test, w_tru, w_isiB, w_var, w_int, w_str, w_bl, w_non, w_op, w_chain, w_neg, w_cons, w_nil, w_tup, w_lst, w_newT, w_sl, w_oN, w_oS, w_B, w_call, w_fld, w_lc, w_yes, w_jAny, w_rng1, w_rng2, w_zip, w_gNm, w_gvNm, w_gTup, w_gsN, w_gsC, o_sub, o_mod, o_lt, o_le, o_gt, o_ge, o_add, o_addT, o_addL, o_mul, o_ixT, o_ixL, o_ixF, o_eqI, o_neI, o_isN, o_isNotN, o_isB, f_all, f_lenT, f_lenL, f_lenF, f_int, f_tupL, f_tupT, i_tup, i_lst, i_frz, i_rng, i_zipT, i_zipL, s_tup, s_lst, p_some, u_bl, u_int, u_tup, u_lst, wipeD, List.getElem?_cons_zero, List.getElem?_cons_succ, List.set_cons_zero, List.set_cons_succ, List.length_cons, List.length_nil, true_and, and_true, if_and, if_or, Bool.false_eq_true, if_false, if_true, ite_true, ite_false, Bool.not_true, Bool.not_false]
  generalize hw : (T.drop a).takeWhile isL = w at q
  refine ⟨fun m σ H' => ∃ e : Nat, σ = [some (.str (S T)), some (.int (a : Int)), some (.int (e : Int))] ∧ H' = H ∧ m = T.length - e ∧ e + ((T.drop e).takeWhile isL).length = a + w.length, ⟨_, a, rfl, rfl, rfl, by rw [hw]⟩, ?_⟩
  rintro m _ _ ⟨e, rfl, rfl, rfl, he⟩
  simp only [sl_S, cut1, w_notT, w_isiBC, w_ret, w_retF, w_retN, w_sif, w_seq, w_asg, w_drop, w_par, w_aug, w_for, w_next, w_brk, w_cnt, w_sfld, w_raise, w_thru, w_andV, w_orV, w_notV, w_and, w_or, w_not, w_if, w_test, w_tru, w_isiB, w_var, w_int, w_str, w_bl, w_non, w_op, w_chain, w_neg, w_cons, w_nil, w_tup, w_lst, w_newT, w_sl, w_oN, w_oS, w_B, w_call, w_fld, w_lc, w_yes, w_jAny, w_rng1, w_rng2, w_zip, w_gNm, w_gvNm, w_gTup, w_gsN, w_gsC, o_sub, o_mod, o_lt, o_le, o_gt, o_ge, o_add, o_addT, o_addL, o_mul, o_ixT, o_ixL, o_ixF, o_eqI, o_neI, o_isN, o_isNotN, o_isB, f_all, f_lenT, f_lenL, f_lenF, f_int, f_tupL, f_tupT, i_tup, i_lst, i_frz, i_rng, i_zipT, i_zipL, s_tup, s_lst, p_some, u_bl, u_int, u_tup, u_lst, wipeD, List.getElem?_cons_zero, List.getElem?_cons_succ, List.set_cons_zero, List.set_cons_succ, List.length_cons, List.length_nil, true_and, and_true, if_and, if_or, Bool.false_eq_true, if_false, if_true, ite_true, ite_false, Bool.not_true, Bool.not_false]
  refine ⟨hT.sz, _, rfl, len_take1, (hT.sub e 1).1, ?_⟩
  simp only [w_notT, w_isiBC, w_ret, w_retF, w_retN, w_sif, w_seq, w_asg, w_drop, w_par, w_aug, w_for, w_next, w_brk, w_cnt, w_sfld, w_raise, w_thru, w_andV, w_orV, w_notV, w_and, w_or, w_not, w_if, w_test, w_tru, w_isiB, w_var, w_int, w_str, w_bl, w_non, w_op, w_chain, w_neg, w_cons, w_nil, w_tup, w_lst, w_newT, w_sl, w_oN, w_oS, w_B, w_call, w_fld, w_lc, w_yes, w_jAny, w_rng1, w_rng2, w_zip, w_gNm, w_gvNm, w_gTup, w_gsN, w_gsC, o_sub, o_mod, o_lt, o_le, o_gt, o_ge, o_add, o_addT, o_addL, o_mul, o_ixT, o_ixL, o_ixF, o_eqI, o_neI, o_isN, o_isNotN, o_isB, f_all, f_lenT, f_lenL, f_lenF, f_int, f_tupL, f_tupT, i_tup, i_lst, i_frz, i_rng, i_zipT, i_zipL, s_tup, s_lst, p_some, u_bl, u_int, u_tup, u_lst, wipeD, List.getElem?_cons_zero, List.getElem?_cons_succ, List.set_cons_zero, List.set_cons_succ, List.length_cons, List.length_nil, true_and, and_true, if_and, if_or, Bool.false_eq_true, if_false, if_true, ite_true, ite_false, Bool.not_true, Bool.not_false]
  cases hb : ((T.drop e).take 1).any isL with
  | true =>
    obtain ⟨h1, h2⟩ := tw_yes hb
    simp only [w_notT, w_isiBC, w_ret, w_retF, w_retN, w_sif, w_seq, w_asg, w_drop, w_par, w_aug, w_for, w_next, w_brk, w_cnt, w_sfld, w_raise, w_thru, w_andV, w_orV, w_notV, w_and, w_or, w_not, w_if, w_test, w_tru, w_isiB, w_var, w_int, w_str, w_bl, w_non, w_op, w_chain, w_neg, w_cons, w_nil, w_tup, w_lst, w_newT, w_sl, w_oN, w_oS, w_B, w_call, w_fld, w_lc, w_yes, w_jAny, w_rng1, w_rng2, w_zip, w_gNm, w_gvNm, w_gTup, w_gsN, w_gsC, o_sub, o_mod, o_lt, o_le, o_gt, o_ge, o_add, o_addT, o_addL, o_mul, o_ixT, o_ixL, o_ixF, o_eqI, o_neI, o_isN, o_isNotN, o_isB, f_all, f_lenT, f_lenL, f_lenF, f_int, f_tupL, f_tupT, i_tup, i_lst, i_frz, i_rng, i_zipT, i_zipL, s_tup, s_lst, p_some, u_bl, u_int, u_tup, u_lst, wipeD, List.getElem?_cons_zero, List.getElem?_cons_succ, List.set_cons_zero, List.set_cons_succ, List.length_cons, List.length_nil, true_and, and_true, if_and, if_or, Bool.false_eq_true, if_false, if_true, ite_true, ite_false, Bool.not_true, Bool.not_false]
    exact ⟨_, by omega, e + 1, rfl, rfl, rfl, by omega⟩
  | false =>
    have h2 := tw_no hb
    obtain rfl : e = a + w.length := by omega
    simp only [sl_S, cut1, lit_quote, o_neS, w_notT, w_isiBC, w_ret, w_retF, w_retN, w_sif, w_seq, w_asg, w_drop, w_par, w_aug, w_for, w_next, w_brk, w_cnt, w_sfld, w_raise, w_thru, w_andV, w_orV, w_notV, w_and, w_or, w_not, w_if, w_test, w_tru, w_isiB, w_var, w_int, w_str, w_bl, w_non, w_op, w_chain, w_neg, w_cons, w_nil, w_tup, w_lst, w_newT, w_sl, w_oN, w_oS, w_B, w_call, w_fld, w_lc, w_yes, w_jAny, w_rng1, w_rng2, w_zip, w_gNm, w_gvNm, w_gTup, w_gsN, w_gsC, o_sub, o_mod, o_lt, o_le, o_gt, o_ge, o_add, o_addT, o_addL, o_mul, o_ixT, o_ixL, o_ixF, o_eqI, o_neI, o_isN, o_isNotN, o_isB, f_all, f_lenT, f_lenL, f_lenF, f_int, f_tupL, f_tupT, i_tup, i_lst, i_frz, i_rng, i_zipT, i_zipL, s_tup, s_lst, p_some, u_bl, u_int, u_tup, u_lst, wipeD, List.getElem?_cons_zero, List.getElem?_cons_succ, List.set_cons_zero, List.set_cons_succ, List.length_cons, List.length_nil, true_and, and_true, if_and, if_or, Bool.false_eq_true, if_false, if_true, ite_true, ite_false, Bool.not_true, Bool.not_false]
    refine ⟨hT.sz, (hT.sub _ 1).1, rfl, ?_⟩
    by_cases hq : (T.drop (a + w.length)).take 1 = [34]
    · rw [if_pos hq] at q
      rw [decide_eq_true hq]
      simp only [sl_S, cut2, Nat.add_sub_cancel_left, w_notT, w_isiBC, w_ret, w_retF, w_retN, w_sif, w_seq, w_asg, w_drop, w_par, w_aug, w_for, w_next, w_brk, w_cnt, w_sfld, w_raise, w_thru, w_andV, w_orV, w_notV, w_and, w_or, w_not, w_if, w_test, w_tru, w_isiB, w_var, w_int, w_str, w_bl, w_non, w_op, w_chain, w_neg, w_cons, w_nil, w_tup, w_lst, w_newT, w_sl, w_oN, w_oS, w_B, w_call, w_fld, w_lc, w_yes, w_jAny, w_rng1, w_rng2, w_zip, w_gNm, w_gvNm, w_gTup, w_gsN, w_gsC, o_sub, o_mod, o_lt, o_le, o_gt, o_ge, o_add, o_addT, o_addL, o_mul, o_ixT, o_ixL, o_ixF, o_eqI, o_neI, o_isN, o_isNotN, o_isB, f_all, f_lenT, f_lenL, f_lenF, f_int, f_tupL, f_tupT, i_tup, i_lst, i_frz, i_rng, i_zipT, i_zipL, s_tup, s_lst, p_some, u_bl, u_int, u_tup, u_lst, wipeD, List.getElem?_cons_zero, List.getElem?_cons_succ, List.set_cons_zero, List.set_cons_succ, List.length_cons, List.length_nil, true_and, and_true, if_and, if_or, Bool.false_eq_true, if_false, if_true, ite_true, ite_false, Bool.not_true, Bool.not_false]
      rw [← hw, tw_take, hw]
      exact ⟨hT.sz, by rw [szl]; omega, endsD_rt q⟩
    · rw [if_neg hq] at q
      rw [decide_eq_false hq]
      simp only [w_notT, w_isiBC, w_ret, w_retF, w_retN, w_sif, w_seq, w_asg, w_drop, w_par, w_aug, w_for, w_next, w_brk, w_cnt, w_sfld, w_raise, w_thru, w_andV, w_orV, w_notV, w_and, w_or, w_not, w_if, w_test, w_tru, w_isiB, w_var, w_int, w_str, w_bl, w_non, w_op, w_chain, w_neg, w_cons, w_nil, w_tup, w_lst, w_newT, w_sl, w_oN, w_oS, w_B, w_call, w_fld, w_lc, w_yes, w_jAny, w_rng1, w_rng2, w_zip, w_gNm, w_gvNm, w_gTup, w_gsN, w_gsC, o_sub, o_mod, o_lt, o_le, o_gt, o_ge, o_add, o_addT, o_addL, o_mul, o_ixT, o_ixL, o_ixF, o_eqI, o_neI, o_isN, o_isNotN, o_isB, f_all, f_lenT, f_lenL, f_lenF, f_int, f_tupL, f_tupT, i_tup, i_lst, i_frz, i_rng, i_zipT, i_zipL, s_tup, s_lst, p_some, u_bl, u_int, u_tup, u_lst, wipeD, List.getElem?_cons_zero, List.getElem?_cons_succ, List.set_cons_zero, List.set_cons_succ, List.length_cons, List.length_nil, true_and, and_true, if_and, if_or, Bool.false_eq_true, if_false, if_true, ite_true, ite_false, Bool.not_true, Bool.not_false]
      exact endsD_ex q
def sp_number_at : DSp := fun ds H Q E => ∃ (T : List Nat) (a : Nat), ds = [.str (S T), .int (a : Int)] ∧ TxOk T ∧
  (if (figs ((T.drop a).takeWhile isD) && decide (((T.drop a).takeWhile isD).length ≤ 40)) = true then Q (.tup [.int (NumText.digitsVal ((T.drop a).takeWhile isD) : Nat), .int ((a + ((T.drop a).takeWhile isD).length : Nat) : Int)]) H else E "InvalidText" (xT T a) H)
theorem w_number_at : ∀ ds H Q E, ds.length = 2 → sp_number_at ds H Q E → (b_number_at K sp_figures_end sp_number_of).w (endsD Q E) (startD ["text", "at", "end", "number"] ds) H := by
  rintro _ H Q E - ⟨T, a, rfl, hT, q⟩
  simp only [b_number_at, show startD ["text", "at", "end", "number"] [.str (S T), .int (a : Int)] = [some (.str (S T)), some (.int (a : Int)), none, none] from rfl, w_notT, w_isiBC, w_ret, w_retF, w_retN, w_sif, w_seq, w_asg, w_drop, w_par, w_aug, w_for, w_next, w_brk, w_cnt, w_sfld, w_raise, w_thru, w_andV, w_orV, w_notV, w_and, w_or, w_not, w_if, w_test, w_tru, w_isiB, w_var, w_int, w_str, w_bl, w_non, w_op, w_chain, w_neg, w_cons, w_nil, w_tup, w_lst, w_newT, w_sl, w_oN, w_oS, w_B, w_call, w_fld, w_lc, w_yes, w_jAny, w_rng1, w_rng2, w_zip, w_gNm, w_gvNm, w_gTup, w_gsN, w_gsC, o_sub, o_mod, o_lt, o_le, o_gt, o_ge, o_add, o_addT, o_addL, o_mul, o_ixT, o_ixL, o_ixF, o_eqI, o_neI, o_isN, o_isNotN, o_isB, f_all, f_lenT, f_lenL, f_lenF, f_int, f_tupL, f_tupT, i_tup, i_lst, i_frz, i_rng, i_zipT, i_zipL, s_tup, s_lst, p_some, u_bl, u_int, u_tup, u_lst, wipeD, List.getElem?_cons_zero, List.getElem?_cons_succ, List.set_cons_zero, List.set_cons_succ, List.length_cons, List.length_nil, true_and, and_true, if_and, if_or, Bool.false_eq_true, if_false, if_true, ite_true, ite_false, Bool.not_true, Bool.not_false]
  refine ⟨T, a, rfl, hT, ?_⟩
  have hs := (hT.sub a ((T.drop a).takeWhile isD).length)
  rw [tw_take] at hs
  generalize hw : (T.drop a).takeWhile isD = w at q hs
  simp only [sl_S, cut2, Nat.add_sub_cancel_left, w_notT, w_isiBC, w_ret, w_retF, w_retN, w_sif, w_seq, w_asg, w_drop, w_par, w_aug, w_for, w_next, w_brk, w_cnt, w_sfld, w_raise, w_thru, w_andV, w_orV, w_notV, w_and, w_or, w_not, w_if, w_test, w_tru, w_isiB, w_var, w_int, w_str, w_bl, w_non, w_op, w_chain, w_neg, w_cons, w_nil, w_tup, w_lst, w_newT, w_sl, w_oN, w_oS, w_B, w_call, w_fld, w_lc, w_yes, w_jAny, w_rng1, w_rng2, w_zip, w_gNm, w_gvNm, w_gTup, w_gsN, w_gsC, o_sub, o_mod, o_lt, o_le, o_gt, o_ge, o_add, o_addT, o_addL, o_mul, o_ixT, o_ixL, o_ixF, o_eqI, o_neI, o_isN, o_isNotN, o_isB, f_all, f_lenT, f_lenL, f_lenF, f_int, f_tupL, f_tupT, i_tup, i_lst, i_frz, i_rng, i_zipT, i_zipL, s_tup, s_lst, p_some, u_bl, u_int, u_tup, u_lst, wipeD, List.getElem?_cons_zero, List.getElem?_cons_succ, List.set_cons_zero, List.set_cons_succ, List.length_cons, List.length_nil, true_and, and_true, if_and, if_or, Bool.false_eq_true, if_false, if_true, ite_true, ite_false, Bool.not_true, Bool.not_false]
  rw [show (T.drop a).take w.length = w from by rw [← hw, tw_take]]
  refine ⟨hT.sz, _, _, rfl, hs, by omega, ?_⟩
  have e : (decide ((40 : Int) < (w.length : Nat)) || !figs w) = !(figs w && decide (w.length ≤ 40)) := by
    by_cases h : w.length ≤ 40
    · rw [decide_eq_false (show ¬ (40 : Int) < (w.length : Nat) by omega), decide_eq_true h, Bool.and_true]
      rfl
    · rw [decide_eq_true (show (40 : Int) < (w.length : Nat) by omega), decide_eq_false h, Bool.and_false]
      rfl
  rw [e]
  cases hc : (figs w && decide (w.length ≤ 40)) with
  | true =>
    rw [hc, if_pos rfl] at q
    simp only [show (D.int (NumText.digitsVal w : Nat)).isNon = false from rfl, w_notT, w_isiBC, w_ret, w_retF, w_retN, w_sif, w_seq, w_asg, w_drop, w_par, w_aug, w_for, w_next, w_brk, w_cnt, w_sfld, w_raise, w_thru, w_andV, w_orV, w_notV, w_and, w_or, w_not, w_if, w_test, w_tru, w_isiB, w_var, w_int, w_str, w_bl, w_non, w_op, w_chain, w_neg, w_cons, w_nil, w_tup, w_lst, w_newT, w_sl, w_oN, w_oS, w_B, w_call, w_fld, w_lc, w_yes, w_jAny, w_rng1, w_rng2, w_zip, w_gNm, w_gvNm, w_gTup, w_gsN, w_gsC, o_sub, o_mod, o_lt, o_le, o_gt, o_ge, o_add, o_addT, o_addL, o_mul, o_ixT, o_ixL, o_ixF, o_eqI, o_neI, o_isN, o_isNotN, o_isB, f_all, f_lenT, f_lenL, f_lenF, f_int, f_tupL, f_tupT, i_tup, i_lst, i_frz, i_rng, i_zipT, i_zipL, s_tup, s_lst, p_some, u_bl, u_int, u_tup, u_lst, wipeD, List.getElem?_cons_zero, List.getElem?_cons_succ, List.set_cons_zero, List.set_cons_succ, List.length_cons, List.length_nil, true_and, and_true, if_and, if_or, Bool.false_eq_true, if_false, if_true, ite_true, ite_false, Bool.not_true, Bool.not_false]
    exact ⟨by rw [szl]; omega, endsD_rt q⟩
  | false =>
    rw [hc, if_neg Bool.false_ne_true] at q
    simp only [show D.non.isNon = true from rfl, w_notT, w_isiBC, w_ret, w_retF, w_retN, w_sif, w_seq, w_asg, w_drop, w_par, w_aug, w_for, w_next, w_brk, w_cnt, w_sfld, w_raise, w_thru, w_andV, w_orV, w_notV, w_and, w_or, w_not, w_if, w_test, w_tru, w_isiB, w_var, w_int, w_str, w_bl, w_non, w_op, w_chain, w_neg, w_cons, w_nil, w_tup, w_lst, w_newT, w_sl, w_oN, w_oS, w_B, w_call, w_fld, w_lc, w_yes, w_jAny, w_rng1, w_rng2, w_zip, w_gNm, w_gvNm, w_gTup, w_gsN, w_gsC, o_sub, o_mod, o_lt, o_le, o_gt, o_ge, o_add, o_addT, o_addL, o_mul, o_ixT, o_ixL, o_ixF, o_eqI, o_neI, o_isN, o_isNotN, o_isB, f_all, f_lenT, f_lenL, f_lenF, f_int, f_tupL, f_tupT, i_tup, i_lst, i_frz, i_rng, i_zipT, i_zipL, s_tup, s_lst, p_some, u_bl, u_int, u_tup, u_lst, wipeD, List.getElem?_cons_zero, List.getElem?_cons_succ, List.set_cons_zero, List.set_cons_succ, List.length_cons, List.length_nil, true_and, and_true, if_and, if_or, Bool.false_eq_true, if_false, if_true, ite_true, ite_false, Bool.not_true, Bool.not_false]
    exact endsD_ex q
def sp_atom_at : DSp := fun ds H Q E => ∃ (T : List Nat) (a : Nat), ds = [.str (S T), .int (a : Int)] ∧ TxOk T ∧ a ≤ T.length ∧ match leafL (T.drop a) with
  | some (v, k) => Q (.tup [v, .int ((a + k : Nat) : Int)]) H
  | none => ∀ i, i ≤ T.length → E "InvalidText" (xT T i) H
theorem w_atom_at : ∀ ds H Q E, ds.length = 2 → sp_atom_at ds H Q E → (b_atom_at K sp_string_at sp_is_figure sp_number_at).w (endsD Q E) (startD ["text", "at", "sign"] ds) H := by
  rintro _ H Q E - ⟨T, a, rfl, hT, ha, q⟩
  simp only [b_atom_at, show startD ["text", "at", "sign"] [.str (S T), .int (a : Int)] = [some (.str (S T)), some (.int (a : Int)), none] from rfl, sl_S, cut1, lit_dash, lit_quote, w_notT, w_isiBC, w_ret, w_retF, w_retN, w_sif, w_seq, w_asg, w_drop, w_par, w_aug, w_for, w_next, w_brk, w_cnt, w_sfld, w_raise, w_thru, w_andV, w_orV, w_notV, w_and, w_or, w_not, w_if, w_test, w_tru, w_isiB, w_var, w_int, w_str, w_bl, w_non, w_op, w_chain, w_neg, w_cons, w_nil, w_tup, w_lst, w_newT, w_sl, w_oN, w_oS, w_B, w_call, w_fld, w_lc, w_yes, w_jAny, w_rng1, w_rng2, w_zip, w_gNm, w_gvNm, w_gTup, w_gsN, w_gsC, o_sub, o_mod, o_lt, o_le, o_gt, o_ge, o_add, o_addT, o_addL, o_mul, o_ixT, o_ixL, o_ixF, o_eqI, o_neI, o_isN, o_isNotN, o_isB, f_all, f_lenT, f_lenL, f_lenF, f_int, f_tupL, f_tupT, i_tup, i_lst, i_frz, i_rng, i_zipT, i_zipL, s_tup, s_lst, p_some, u_bl, u_int, u_tup, u_lst, wipeD, List.getElem?_cons_zero, List.getElem?_cons_succ, List.set_cons_zero, List.set_cons_succ, List.length_cons, List.length_nil, true_and, and_true, if_and, if_or, Bool.false_eq_true, if_false, if_true, ite_true, ite_false, Bool.not_true, Bool.not_false]
  refine ⟨hT.sz, ?_⟩
  have hk1 := (hT.sub a 1).1
  cases hd : T.drop a with
  | nil =>
    rw [hd] at q hk1
    simp only [List.take_nil, o_eqS, w_notT, w_isiBC, w_ret, w_retF, w_retN, w_sif, w_seq, w_asg, w_drop, w_par, w_aug, w_for, w_next, w_brk, w_cnt, w_sfld, w_raise, w_thru, w_andV, w_orV, w_notV, w_and, w_or, w_not, w_if, w_test, w_tru, w_isiB, w_var, w_int, w_str, w_bl, w_non, w_op, w_chain, w_neg, w_cons, w_nil, w_tup, w_lst, w_newT, w_sl, w_oN, w_oS, w_B, w_call, w_fld, w_lc, w_yes, w_jAny, w_rng1, w_rng2, w_zip, w_gNm, w_gvNm, w_gTup, w_gsN, w_gsC, o_sub, o_mod, o_lt, o_le, o_gt, o_ge, o_add, o_addT, o_addL, o_mul, o_ixT, o_ixL, o_ixF, o_eqI, o_neI, o_isN, o_isNotN, o_isB, f_all, f_lenT, f_lenL, f_lenF, f_int, f_tupL, f_tupT, i_tup, i_lst, i_frz, i_rng, i_zipT, i_zipL, s_tup, s_lst, p_some, u_bl, u_int, u_tup, u_lst, wipeD, List.getElem?_cons_zero, List.getElem?_cons_succ, List.set_cons_zero, List.set_cons_succ, List.length_cons, List.length_nil, true_and, and_true, if_and, if_or, Bool.false_eq_true, if_false, if_true, ite_true, ite_false, Bool.not_true, Bool.not_false]
    refine ⟨rfl, rfl, ?_⟩
    rw [decide_eq_false (by decide)]
    simp only [o_eqS, w_notT, w_isiBC, w_ret, w_retF, w_retN, w_sif, w_seq, w_asg, w_drop, w_par, w_aug, w_for, w_next, w_brk, w_cnt, w_sfld, w_raise, w_thru, w_andV, w_orV, w_notV, w_and, w_or, w_not, w_if, w_test, w_tru, w_isiB, w_var, w_int, w_str, w_bl, w_non, w_op, w_chain, w_neg, w_cons, w_nil, w_tup, w_lst, w_newT, w_sl, w_oN, w_oS, w_B, w_call, w_fld, w_lc, w_yes, w_jAny, w_rng1, w_rng2, w_zip, w_gNm, w_gvNm, w_gTup, w_gsN, w_gsC, o_sub, o_mod, o_lt, o_le, o_gt, o_ge, o_add, o_addT, o_addL, o_mul, o_ixT, o_ixL, o_ixF, o_eqI, o_neI, o_isN, o_isNotN, o_isB, f_all, f_lenT, f_lenL, f_lenF, f_int, f_tupL, f_tupT, i_tup, i_lst, i_frz, i_rng, i_zipT, i_zipL, s_tup, s_lst, p_some, u_bl, u_int, u_tup, u_lst, wipeD, List.getElem?_cons_zero, List.getElem?_cons_succ, List.set_cons_zero, List.set_cons_succ, List.length_cons, List.length_nil, true_and, and_true, if_and, if_or, Bool.false_eq_true, if_false, if_true, ite_true, ite_false, Bool.not_true, Bool.not_false]
    refine ⟨rfl, rfl, ?_⟩
    rw [decide_eq_false (by decide)]
    simp only [w_notT, w_isiBC, w_ret, w_retF, w_retN, w_sif, w_seq, w_asg, w_drop, w_par, w_aug, w_for, w_next, w_brk, w_cnt, w_sfld, w_raise, w_thru, w_andV, w_orV, w_notV, w_and, w_or, w_not, w_if, w_test, w_tru, w_isiB, w_var, w_int, w_str, w_bl, w_non, w_op, w_chain, w_neg, w_cons, w_nil, w_tup, w_lst, w_newT, w_sl, w_oN, w_oS, w_B, w_call, w_fld, w_lc, w_yes, w_jAny, w_rng1, w_rng2, w_zip, w_gNm, w_gvNm, w_gTup, w_gsN, w_gsC, o_sub, o_mod, o_lt, o_le, o_gt, o_ge, o_add, o_addT, o_addL, o_mul, o_ixT, o_ixL, o_ixF, o_eqI, o_neI, o_isN, o_isNotN, o_isB, f_all, f_lenT, f_lenL, f_lenF, f_int, f_tupL, f_tupT, i_tup, i_lst, i_frz, i_rng, i_zipT, i_zipL, s_tup, s_lst, p_some, u_bl, u_int, u_tup, u_lst, wipeD, List.getElem?_cons_zero, List.getElem?_cons_succ, List.set_cons_zero, List.set_cons_succ, List.length_cons, List.length_nil, true_and, and_true, if_and, if_or, Bool.false_eq_true, if_false, if_true, ite_true, ite_false, Bool.not_true, Bool.not_false]
    refine ⟨_, rfl, by decide, rfl, ?_⟩
    simp only [List.any_nil, w_notT, w_isiBC, w_ret, w_retF, w_retN, w_sif, w_seq, w_asg, w_drop, w_par, w_aug, w_for, w_next, w_brk, w_cnt, w_sfld, w_raise, w_thru, w_andV, w_orV, w_notV, w_and, w_or, w_not, w_if, w_test, w_tru, w_isiB, w_var, w_int, w_str, w_bl, w_non, w_op, w_chain, w_neg, w_cons, w_nil, w_tup, w_lst, w_newT, w_sl, w_oN, w_oS, w_B, w_call, w_fld, w_lc, w_yes, w_jAny, w_rng1, w_rng2, w_zip, w_gNm, w_gvNm, w_gTup, w_gsN, w_gsC, o_sub, o_mod, o_lt, o_le, o_gt, o_ge, o_add, o_addT, o_addL, o_mul, o_ixT, o_ixL, o_ixF, o_eqI, o_neI, o_isN, o_isNotN, o_isB, f_all, f_lenT, f_lenL, f_lenF, f_int, f_tupL, f_tupT, i_tup, i_lst, i_frz, i_rng, i_zipT, i_zipL, s_tup, s_lst, p_some, u_bl, u_int, u_tup, u_lst, wipeD, List.getElem?_cons_zero, List.getElem?_cons_succ, List.set_cons_zero, List.set_cons_succ, List.length_cons, List.length_nil, true_and, and_true, if_and, if_or, Bool.false_eq_true, if_false, if_true, ite_true, ite_false, Bool.not_true, Bool.not_false]
    exact endsD_ex (q a ha)
  | cons c r =>
    rw [hd] at q hk1
    have ht1 : (c :: r).take 1 = [c] := rfl
    rw [ht1] at hk1
    have hal : a + 1 + r.length = T.length := by
      have := congrArg List.length hd
      rw [List.length_drop, List.length_cons] at this
      omega
    have hd1 : T.drop (a + 1) = r := by rw [← List.drop_drop, hd]; rfl
    simp only [ht1, o_eqS, w_notT, w_isiBC, w_ret, w_retF, w_retN, w_sif, w_seq, w_asg, w_drop, w_par, w_aug, w_for, w_next, w_brk, w_cnt, w_sfld, w_raise, w_thru, w_andV, w_orV, w_notV, w_and, w_or, w_not, w_if, w_test, w_tru, w_isiB, w_var, w_int, w_str, w_bl, w_non, w_op, w_chain, w_neg, w_cons, w_nil, w_tup, w_lst, w_newT, w_sl, w_oN, w_oS, w_B, w_call, w_fld, w_lc, w_yes, w_jAny, w_rng1, w_rng2, w_zip, w_gNm, w_gvNm, w_gTup, w_gsN, w_gsC, o_sub, o_mod, o_lt, o_le, o_gt, o_ge, o_add, o_addT, o_addL, o_mul, o_ixT, o_ixL, o_ixF, o_eqI, o_neI, o_isN, o_isNotN, o_isB, f_all, f_lenT, f_lenL, f_lenF, f_int, f_tupL, f_tupT, i_tup, i_lst, i_frz, i_rng, i_zipT, i_zipL, s_tup, s_lst, p_some, u_bl, u_int, u_tup, u_lst, wipeD, List.getElem?_cons_zero, List.getElem?_cons_succ, List.set_cons_zero, List.set_cons_succ, List.length_cons, List.length_nil, true_and, and_true, if_and, if_or, Bool.false_eq_true, if_false, if_true, ite_true, ite_false, Bool.not_true, Bool.not_false]
    refine ⟨hk1, rfl, ?_⟩
    rw [leafL_cons] at q
    by_cases h45 : c = 45
    · subst h45
      rw [if_pos rfl] at q
      simp only [decide_true, w_notT, w_isiBC, w_ret, w_retF, w_retN, w_sif, w_seq, w_asg, w_drop, w_par, w_aug, w_for, w_next, w_brk, w_cnt, w_sfld, w_raise, w_thru, w_andV, w_orV, w_notV, w_and, w_or, w_not, w_if, w_test, w_tru, w_isiB, w_var, w_int, w_str, w_bl, w_non, w_op, w_chain, w_neg, w_cons, w_nil, w_tup, w_lst, w_newT, w_sl, w_oN, w_oS, w_B, w_call, w_fld, w_lc, w_yes, w_jAny, w_rng1, w_rng2, w_zip, w_gNm, w_gvNm, w_gTup, w_gsN, w_gsC, o_sub, o_mod, o_lt, o_le, o_gt, o_ge, o_add, o_addT, o_addL, o_mul, o_ixT, o_ixL, o_ixF, o_eqI, o_neI, o_isN, o_isNotN, o_isB, f_all, f_lenT, f_lenL, f_lenF, f_int, f_tupL, f_tupT, i_tup, i_lst, i_frz, i_rng, i_zipT, i_zipL, s_tup, s_lst, p_some, u_bl, u_int, u_tup, u_lst, wipeD, List.getElem?_cons_zero, List.getElem?_cons_succ, List.set_cons_zero, List.set_cons_succ, List.length_cons, List.length_nil, true_and, and_true, if_and, if_or, Bool.false_eq_true, if_false, if_true, ite_true, ite_false, Bool.not_true, Bool.not_false]
      exact ⟨by rw [szl]; omega, endsD_rt q⟩
    · rw [if_neg h45] at q
      rw [decide_eq_false (show ¬ [c] = [45] from fun z => h45 (List.cons.inj z).1)]
      simp only [o_eqS, w_notT, w_isiBC, w_ret, w_retF, w_retN, w_sif, w_seq, w_asg, w_drop, w_par, w_aug, w_for, w_next, w_brk, w_cnt, w_sfld, w_raise, w_thru, w_andV, w_orV, w_notV, w_and, w_or, w_not, w_if, w_test, w_tru, w_isiB, w_var, w_int, w_str, w_bl, w_non, w_op, w_chain, w_neg, w_cons, w_nil, w_tup, w_lst, w_newT, w_sl, w_oN, w_oS, w_B, w_call, w_fld, w_lc, w_yes, w_jAny, w_rng1, w_rng2, w_zip, w_gNm, w_gvNm, w_gTup, w_gsN, w_gsC, o_sub, o_mod, o_lt, o_le, o_gt, o_ge, o_add, o_addT, o_addL, o_mul, o_ixT, o_ixL, o_ixF, o_eqI, o_neI, o_isN, o_isNotN, o_isB, f_all, f_lenT, f_lenL, f_lenF, f_int, f_tupL, f_tupT, i_tup, i_lst, i_frz, i_rng, i_zipT, i_zipL, s_tup, s_lst, p_some, u_bl, u_int, u_tup, u_lst, wipeD, List.getElem?_cons_zero, List.getElem?_cons_succ, List.set_cons_zero, List.set_cons_succ, List.length_cons, List.length_nil, true_and, and_true, if_and, if_or, Bool.false_eq_true, if_false, if_true, ite_true, ite_false, Bool.not_true, Bool.not_false]
      refine ⟨hk1, rfl, ?_⟩
      by_cases h34 : c = 34
      · subst h34
        rw [if_pos rfl] at q
        simp only [decide_true, w_notT, w_isiBC, w_ret, w_retF, w_retN, w_sif, w_seq, w_asg, w_drop, w_par, w_aug, w_for, w_next, w_brk, w_cnt, w_sfld, w_raise, w_thru, w_andV, w_orV, w_notV, w_and, w_or, w_not, w_if, w_test, w_tru, w_isiB, w_var, w_int, w_str, w_bl, w_non, w_op, w_chain, w_neg, w_cons, w_nil, w_tup, w_lst, w_newT, w_sl, w_oN, w_oS, w_B, w_call, w_fld, w_lc, w_yes, w_jAny, w_rng1, w_rng2, w_zip, w_gNm, w_gvNm, w_gTup, w_gsN, w_gsC, o_sub, o_mod, o_lt, o_le, o_gt, o_ge, o_add, o_addT, o_addL, o_mul, o_ixT, o_ixL, o_ixF, o_eqI, o_neI, o_isN, o_isNotN, o_isB, f_all, f_lenT, f_lenL, f_lenF, f_int, f_tupL, f_tupT, i_tup, i_lst, i_frz, i_rng, i_zipT, i_zipL, s_tup, s_lst, p_some, u_bl, u_int, u_tup, u_lst, wipeD, List.getElem?_cons_zero, List.getElem?_cons_succ, List.set_cons_zero, List.set_cons_succ, List.length_cons, List.length_nil, true_and, and_true, if_and, if_or, Bool.false_eq_true, if_false, if_true, ite_true, ite_false, Bool.not_true, Bool.not_false]
        refine ⟨T, a + 1, rfl, hT, ?_⟩
        rw [hd1, show T.drop (a + 1 + (r.takeWhile isL).length) = r.drop (r.takeWhile isL).length from by rw [← List.drop_drop, hd1]]
        have hl := takeWhile_len (p := isL) (l := r)
        by_cases hq : (r.drop (r.takeWhile isL).length).take 1 = [34]
        · rw [if_pos hq] at q ⊢
          have e : a + 1 + (r.takeWhile isL).length + 1 = a + ((r.takeWhile isL).length + 2) := by omega
          rw [e]
          exact endsD_rt q
        · rw [if_neg hq] at q ⊢
          exact endsD_ex (q _ (by omega))
      · rw [if_neg h34] at q
        rw [decide_eq_false (show ¬ [c] = [34] from fun z => h34 (List.cons.inj z).1)]
        simp only [w_notT, w_isiBC, w_ret, w_retF, w_retN, w_sif, w_seq, w_asg, w_drop, w_par, w_aug, w_for, w_next, w_brk, w_cnt, w_sfld, w_raise, w_thru, w_andV, w_orV, w_notV, w_and, w_or, w_not, w_if, w_test, w_tru, w_isiB, w_var, w_int, w_str, w_bl, w_non, w_op, w_chain, w_neg, w_cons, w_nil, w_tup, w_lst, w_newT, w_sl, w_oN, w_oS, w_B, w_call, w_fld, w_lc, w_yes, w_jAny, w_rng1, w_rng2, w_zip, w_gNm, w_gvNm, w_gTup, w_gsN, w_gsC, o_sub, o_mod, o_lt, o_le, o_gt, o_ge, o_add, o_addT, o_addL, o_mul, o_ixT, o_ixL, o_ixF, o_eqI, o_neI, o_isN, o_isNotN, o_isB, f_all, f_lenT, f_lenL, f_lenF, f_int, f_tupL, f_tupT, i_tup, i_lst, i_frz, i_rng, i_zipT, i_zipL, s_tup, s_lst, p_some, u_bl, u_int, u_tup, u_lst, wipeD, List.getElem?_cons_zero, List.getElem?_cons_succ, List.set_cons_zero, List.set_cons_succ, List.length_cons, List.length_nil, true_and, and_true, if_and, if_or, Bool.false_eq_true, if_false, if_true, ite_true, ite_false, Bool.not_true, Bool.not_false]
        refine ⟨_, rfl, by rw [List.length_cons, List.length_nil]; omega, hk1, ?_⟩
        rw [List.any_cons, List.any_nil, Bool.or_false]
        cases hc : isD c with
        | true =>
          rw [hc, if_pos rfl] at q
          simp only [w_notT, w_isiBC, w_ret, w_retF, w_retN, w_sif, w_seq, w_asg, w_drop, w_par, w_aug, w_for, w_next, w_brk, w_cnt, w_sfld, w_raise, w_thru, w_andV, w_orV, w_notV, w_and, w_or, w_not, w_if, w_test, w_tru, w_isiB, w_var, w_int, w_str, w_bl, w_non, w_op, w_chain, w_neg, w_cons, w_nil, w_tup, w_lst, w_newT, w_sl, w_oN, w_oS, w_B, w_call, w_fld, w_lc, w_yes, w_jAny, w_rng1, w_rng2, w_zip, w_gNm, w_gvNm, w_gTup, w_gsN, w_gsC, o_sub, o_mod, o_lt, o_le, o_gt, o_ge, o_add, o_addT, o_addL, o_mul, o_ixT, o_ixL, o_ixF, o_eqI, o_neI, o_isN, o_isNotN, o_isB, f_all, f_lenT, f_lenL, f_lenF, f_int, f_tupL, f_tupT, i_tup, i_lst, i_frz, i_rng, i_zipT, i_zipL, s_tup, s_lst, p_some, u_bl, u_int, u_tup, u_lst, wipeD, List.getElem?_cons_zero, List.getElem?_cons_succ, List.set_cons_zero, List.set_cons_succ, List.length_cons, List.length_nil, true_and, and_true, if_and, if_or, Bool.false_eq_true, if_false, if_true, ite_true, ite_false, Bool.not_true, Bool.not_false]
          refine ⟨T, a, rfl, hT, ?_⟩
          rw [hd]
          cases hf : (figs ((c :: r).takeWhile isD) && decide (((c :: r).takeWhile isD).length ≤ 40)) with
          | true =>
            rw [hf, if_pos rfl] at q
            rw [if_pos rfl]
            exact endsD_rt q
          | false =>
            rw [hf, if_neg Bool.false_ne_true] at q
            rw [if_neg Bool.false_ne_true]
            exact endsD_ex (q a ha)
        | false =>
          rw [hc, if_neg Bool.false_ne_true] at q
          simp only [w_notT, w_isiBC, w_ret, w_retF, w_retN, w_sif, w_seq, w_asg, w_drop, w_par, w_aug, w_for, w_next, w_brk, w_cnt, w_sfld, w_raise, w_thru, w_andV, w_orV, w_notV, w_and, w_or, w_not, w_if, w_test, w_tru, w_isiB, w_var, w_int, w_str, w_bl, w_non, w_op, w_chain, w_neg, w_cons, w_nil, w_tup, w_lst, w_newT, w_sl, w_oN, w_oS, w_B, w_call, w_fld, w_lc, w_yes, w_jAny, w_rng1, w_rng2, w_zip, w_gNm, w_gvNm, w_gTup, w_gsN, w_gsC, o_sub, o_mod, o_lt, o_le, o_gt, o_ge, o_add, o_addT, o_addL, o_mul, o_ixT, o_ixL, o_ixF, o_eqI, o_neI, o_isN, o_isNotN, o_isB, f_all, f_lenT, f_lenL, f_lenF, f_int, f_tupL, f_tupT, i_tup, i_lst, i_frz, i_rng, i_zipT, i_zipL, s_tup, s_lst, p_some, u_bl, u_int, u_tup, u_lst, wipeD, List.getElem?_cons_zero, List.getElem?_cons_succ, List.set_cons_zero, List.set_cons_succ, List.length_cons, List.length_nil, true_and, and_true, if_and, if_or, Bool.false_eq_true, if_false, if_true, ite_true, ite_false, Bool.not_true, Bool.not_false]
          exact endsD_ex (q a ha)
end
end G
set_option Elab.async false
set_option linter.all false
set_option maxRecDepth 100000
namespace G
open PySem PySem.Spec PyProof.Rows L2
section
variable {K : PySem.W.Frag}
/-! ### the box -/
def boxL (gl : Addr) (sm : List Int) (n : Int) : List D := [.ref gl, .lst (sm.map .int), .int n]
/-- the box, at most c draws old -/
def BoxAt (H : DH) (a gl : Addr) (c : Int) : Prop := a ≠ gl ∧ ∃ (gs sm : List Int) (n : Int), H a = some (.lst (boxL gl sm n)) ∧ H gl = some (.lst (gs.map .int)) ∧ (∀ g ∈ gs, 0 ≤ g) ∧ 0 ≤ n ∧ n ≤ c ∧ 0 < sm.length ∧ sm.length ≤ 2000 ∧ ∀ s ∈ sm, 0 ≤ s ∧ s < 1000000007
/-- all but the box is as it was -/
def Fr (a gl : Addr) (H H' : DH) : Prop := ∀ x o, x ≠ a → x ≠ gl → H x = some o → H' x = some o
theorem Fr.rfl {a gl : Addr} {H : DH} : Fr a gl H H := fun _ _ _ _ h => h
theorem Fr.trans {a gl : Addr} {H H1 H2 : DH} (f : Fr a gl H H1) (g : Fr a gl H1 H2) : Fr a gl H H2 := fun x o h1 h2 h => g x o h1 h2 (f x o h1 h2 h)
theorem Fr.upd_a {a gl : Addr} {H : DH} {o : DO} : Fr a gl H (updD H a o) := fun x u h1 _ h => by rw [updD_ne h1]; exact h
theorem Fr.upd_gl {a gl : Addr} {H : DH} {o : DO} : Fr a gl H (updD H gl o) := fun x u _ h1 h => by rw [updD_ne h1]; exact h
theorem Fr.upd {a gl l : Addr} {H : DH} {o : DO} (hl : H l = none) : Fr a gl H (updD H l o) := fun x u _ _ h => by rw [updD_ne (ne_of_noneD h hl)]; exact h
theorem BoxAt.le {H : DH} {a gl : Addr} {c c' : Int} (h : BoxAt H a gl c) (hc : c ≤ c') : BoxAt H a gl c' := by
  obtain ⟨hn, gs, sm, n, h1, h2, h3, h4, h5, h6, h7⟩ := h
  exact ⟨hn, gs, sm, n, h1, h2, h3, h4, by omega, h6, h7⟩
theorem BoxAt.upd {H : DH} {a gl l : Addr} {c : Int} {o : DO} (h : BoxAt H a gl c) (h1 : l ≠ a) (h2 : l ≠ gl) : BoxAt (updD H l o) a gl c := by
  obtain ⟨hn, gs, sm, n, e1, e2, h3⟩ := h
  exact ⟨hn, gs, sm, n, by rw [updD_ne h1.symm]; exact e1, by rw [updD_ne h2.symm]; exact e2, h3⟩
theorem BoxAt.ne {H : DH} {a gl l : Addr} {c : Int} (h : BoxAt H a gl c) (hl : H l = none) : l ≠ a ∧ l ≠ gl := by
  obtain ⟨hn, gs, sm, n, e1, e2, h3⟩ := h
  exact ⟨(ne_of_noneD e1 hl).symm, (ne_of_noneD e2 hl).symm⟩
theorem BoxAt.new {H : DH} {a gl l : Addr} {c : Int} {o : DO} (h : BoxAt H a gl c) (hl : H l = none) : BoxAt (updD H l o) a gl c := h.upd (h.ne hl).1 (h.ne hl).2
theorem at_emod {ns : List Int} (h : 0 < ns.length) (i : Int) : ∃ x ∈ ns, atI (ns.map D.int) (i % (ns.length : Int)) = some (.int x) := by
  have h1 := Int.emod_nonneg i (show (ns.length : Int) ≠ 0 by omega)
  have h2 := Int.emod_lt_of_pos i (show (0 : Int) < ns.length by omega)
  have e : (((i % (ns.length : Int)).toNat : Nat) : Int) = i % (ns.length : Int) := by omega
  have h3 : (i % (ns.length : Int)).toNat < ns.length := by omega
  rw [← e]
  exact ⟨_, List.getElem_mem h3, row_at h3⟩
def ab (i : Int) : Int := if i < 0 then -i else i
theorem ab_nn {i : Int} : 0 ≤ ab i := by
  unfold ab
  split <;> omega
def D.toI : D → Int
  | .int i => i
  | _ => 0
def sp_law_box : DSp := fun ds H Q _ => ∃ ns : List Int, ds = [.frz (ns.map .int)] ∧ ns.length ≤ 1000 ∧ ∀ (a gl : Addr) (H' : DH), BoxAt H' a gl 0 → leD H H' → Q (.ref a) H'
theorem cutL_map {α β : Type} {f : α → β} {xs : List α} {lo hi : Option Int} : cutL (xs.map f) lo hi = (cutL xs lo hi).map f := by
  unfold cutL
  rw [List.length_map, ← List.map_drop, ← List.map_take]
theorem cutL_len {α : Type} {xs : List α} {lo hi : Option Int} : (cutL xs lo hi).length ≤ xs.length := by
  unfold cutL
  rw [List.length_take, List.length_drop]
  omega
theorem sl_F {f : Bool} {ds : List D} {lo hi : Option Int} {H : DH} {Q : DQ} : dSl f (.frz ds) lo hi H Q = newL f (cutL ds lo hi) H Q := rfl
theorem sl_L {f : Bool} {ds : List D} {lo hi : Option Int} {H : DH} {Q : DQ} : dSl f (.lst ds) lo hi H Q = newL f (cutL ds lo hi) H Q := rfl
theorem lstD_L {H : DH} {ds : List D} : lstD H (.lst ds) = some ds := rfl
theorem w_law_box : ∀ ds H Q E, ds.length = 1 → sp_law_box ds H Q E → (b__law_box K).w (endsD Q E) (startD ["script", "cells", "cell", "great"] ds) H := by
  rintro _ H Q E - ⟨ns0, rfl, hz0, q⟩
  simp only [b__law_box, show startD ["script", "cells", "cell", "great"] [.frz (ns0.map .int)] = [some (.frz (ns0.map .int)), none, none, none] from rfl, w_listRev, sl_F, lstD_L, cutL_map, w_notT, w_isiBC, w_ret, w_retF, w_retN, w_sif, w_seq, w_asg, w_drop, w_par, w_aug, w_for, w_next, w_brk, w_cnt, w_sfld, w_raise, w_thru, w_andV, w_orV, w_notV, w_and, w_or, w_not, w_if, w_test, w_tru, w_isiB, w_var, w_int, w_str, w_bl, w_non, w_op, w_chain, w_neg, w_cons, w_nil, w_tup, w_lst, w_newT, w_sl, w_oN, w_oS, w_B, w_call, w_fld, w_lc, w_yes, w_jAny, w_rng1, w_rng2, w_zip, w_gNm, w_gvNm, w_gTup, w_gsN, w_gsC, o_sub, o_mod, o_lt, o_le, o_gt, o_ge, o_add, o_addT, o_addL, o_mul, o_ixT, o_ixL, o_ixF, o_eqI, o_neI, o_isN, o_isNotN, o_isB, f_all, f_lenT, f_lenL, f_lenF, f_int, f_tupL, f_tupT, i_tup, i_lst, i_frz, i_rng, i_zipT, i_zipL, s_tup, s_lst, p_some, u_bl, u_int, u_tup, u_lst, wipeD, List.getElem?_cons_zero, List.getElem?_cons_succ, List.set_cons_zero, List.set_cons_succ, List.length_cons, List.length_nil, true_and, and_true, if_and, if_or, Bool.false_eq_true, if_false, if_true, ite_true, ite_false, Bool.not_true, Bool.not_false]
  generalize hns : cutL ns0 none (some 63) = ns
  have hz : ns.length ≤ 1000 := by
    rw [← hns]
    exact Nat.le_trans cutL_len hz0
  clear hns
  refine lc_of (e := D.int) (out := fun n => .int (ab n)) ns trivial (le_szl hz) (fun n hn k' hk' => ?_) ?_
  · simp only [f_abs, w_notT, w_isiBC, w_ret, w_retF, w_retN, w_sif, w_seq, w_asg, w_drop, w_par, w_aug, w_for, w_next, w_brk, w_cnt, w_sfld, w_raise, w_thru, w_andV, w_orV, w_notV, w_and, w_or, w_not, w_if, w_test, w_tru, w_isiB, w_var, w_int, w_str, w_bl, w_non, w_op, w_chain, w_neg, w_cons, w_nil, w_tup, w_lst, w_newT, w_sl, w_oN, w_oS, w_B, w_call, w_fld, w_lc, w_yes, w_jAny, w_rng1, w_rng2, w_zip, w_gNm, w_gvNm, w_gTup, w_gsN, w_gsC, o_sub, o_mod, o_lt, o_le, o_gt, o_ge, o_add, o_addT, o_addL, o_mul, o_ixT, o_ixL, o_ixF, o_eqI, o_neI, o_isN, o_isNotN, o_isB, f_all, f_lenT, f_lenL, f_lenF, f_int, f_tupL, f_tupT, i_tup, i_lst, i_frz, i_rng, i_zipT, i_zipL, s_tup, s_lst, p_some, u_bl, u_int, u_tup, u_lst, wipeD, List.getElem?_cons_zero, List.getElem?_cons_succ, List.set_cons_zero, List.set_cons_succ, List.length_cons, List.length_nil, true_and, and_true, if_and, if_or, Bool.false_eq_true, if_false, if_true, ite_true, ite_false, Bool.not_true, Bool.not_false]
    exact hk'
  rw [show (ns.map fun n => D.int (ab n)) = (ns.map ab).map .int from by rw [List.map_map]; rfl]
  have hw : ∀ g ∈ ns.map ab, 0 ≤ g := fun g hg => by
    obtain ⟨n, _, rfl⟩ := List.mem_map.mp hg
    exact ab_nn
  have hwl : (ns.map ab).length ≤ 1000 := by rw [List.length_map]; exact hz
  generalize ns.map ab = ws at hw hwl
  refine lc_filter (fun d => decide ((10 : Int) ^ ((18 : Int).toNat) ≤ d.toI)) (fun d => d) trivial (ws.map .int) [] (by rw [List.length_nil, Nat.zero_add, List.length_map]; exact le_szl hwl) (fun d hd k1 k2 hk1 hk2 => ?_) ?_
  · obtain ⟨n, _, rfl⟩ := List.mem_map.mp hd
    simp only [o_pow, w_notT, w_isiBC, w_ret, w_retF, w_retN, w_sif, w_seq, w_asg, w_drop, w_par, w_aug, w_for, w_next, w_brk, w_cnt, w_sfld, w_raise, w_thru, w_andV, w_orV, w_notV, w_and, w_or, w_not, w_if, w_test, w_tru, w_isiB, w_var, w_int, w_str, w_bl, w_non, w_op, w_chain, w_neg, w_cons, w_nil, w_tup, w_lst, w_newT, w_sl, w_oN, w_oS, w_B, w_call, w_fld, w_lc, w_yes, w_jAny, w_rng1, w_rng2, w_zip, w_gNm, w_gvNm, w_gTup, w_gsN, w_gsC, o_sub, o_mod, o_lt, o_le, o_gt, o_ge, o_add, o_addT, o_addL, o_mul, o_ixT, o_ixL, o_ixF, o_eqI, o_neI, o_isN, o_isNotN, o_isB, f_all, f_lenT, f_lenL, f_lenF, f_int, f_tupL, f_tupT, i_tup, i_lst, i_frz, i_rng, i_zipT, i_zipL, s_tup, s_lst, p_some, u_bl, u_int, u_tup, u_lst, wipeD, List.getElem?_cons_zero, List.getElem?_cons_succ, List.set_cons_zero, List.set_cons_succ, List.length_cons, List.length_nil, true_and, and_true, if_and, if_or, Bool.false_eq_true, if_false, if_true, ite_true, ite_false, Bool.not_true, Bool.not_false]
    refine ⟨⟨by omega, by omega, by decide⟩, ?_⟩
    have e1 : (D.int n).toI = n := rfl
    rw [e1] at hk1 hk2
    by_cases hp : (10 : Int) ^ ((18 : Int).toNat) ≤ n
    · rw [if_pos (decide_eq_true hp)]
      exact hk1 (decide_eq_true hp)
    · rw [if_neg (by rw [decide_eq_false hp]; exact Bool.false_ne_true)]
      exact hk2 (decide_eq_false hp)
  · rw [List.nil_append, List.map_id']
    have eg : (ws.map D.int).filter (fun d => decide ((10 : Int) ^ ((18 : Int).toNat) ≤ d.toI)) = (ws.filter fun g => decide ((10 : Int) ^ ((18 : Int).toNat) ≤ g)).map .int := by rw [List.filter_map]; rfl
    rw [eg]
    generalize hgs : (ws.filter fun g => decide ((10 : Int) ^ ((18 : Int).toNat) ≤ g)) = gs
    have hg0 : ∀ g ∈ gs, 0 ≤ g := fun g hg => by
      rw [← hgs] at hg
      exact hw g (List.mem_filter.mp hg).1
    simp only [w_newF, w_notT, w_isiBC, w_ret, w_retF, w_retN, w_sif, w_seq, w_asg, w_drop, w_par, w_aug, w_for, w_next, w_brk, w_cnt, w_sfld, w_raise, w_thru, w_andV, w_orV, w_notV, w_and, w_or, w_not, w_if, w_test, w_tru, w_isiB, w_var, w_int, w_str, w_bl, w_non, w_op, w_chain, w_neg, w_cons, w_nil, w_tup, w_lst, w_newT, w_sl, w_oN, w_oS, w_B, w_call, w_fld, w_lc, w_yes, w_jAny, w_rng1, w_rng2, w_zip, w_gNm, w_gvNm, w_gTup, w_gsN, w_gsC, o_sub, o_mod, o_lt, o_le, o_gt, o_ge, o_add, o_addT, o_addL, o_mul, o_ixT, o_ixL, o_ixF, o_eqI, o_neI, o_isN, o_isNotN, o_isB, f_all, f_lenT, f_lenL, f_lenF, f_int, f_tupL, f_tupT, i_tup, i_lst, i_frz, i_rng, i_zipT, i_zipL, s_tup, s_lst, p_some, u_bl, u_int, u_tup, u_lst, wipeD, List.getElem?_cons_zero, List.getElem?_cons_succ, List.set_cons_zero, List.set_cons_succ, List.length_cons, List.length_nil, true_and, and_true, if_and, if_or, Bool.false_eq_true, if_false, if_true, ite_true, ite_false, Bool.not_true, Bool.not_false]
    intro gl hgl
    refine lc_of (e := D.int) (out := fun n => .int (n % 1000000007)) ws trivial (le_szl hwl) (fun n hn k' hk' => ?_) ?_
    · simp only [w_notT, w_isiBC, w_ret, w_retF, w_retN, w_sif, w_seq, w_asg, w_drop, w_par, w_aug, w_for, w_next, w_brk, w_cnt, w_sfld, w_raise, w_thru, w_andV, w_orV, w_notV, w_and, w_or, w_not, w_if, w_test, w_tru, w_isiB, w_var, w_int, w_str, w_bl, w_non, w_op, w_chain, w_neg, w_cons, w_nil, w_tup, w_lst, w_newT, w_sl, w_oN, w_oS, w_B, w_call, w_fld, w_lc, w_yes, w_jAny, w_rng1, w_rng2, w_zip, w_gNm, w_gvNm, w_gTup, w_gsN, w_gsC, o_sub, o_mod, o_lt, o_le, o_gt, o_ge, o_add, o_addT, o_addL, o_mul, o_ixT, o_ixL, o_ixF, o_eqI, o_neI, o_isN, o_isNotN, o_isB, f_all, f_lenT, f_lenL, f_lenF, f_int, f_tupL, f_tupT, i_tup, i_lst, i_frz, i_rng, i_zipT, i_zipL, s_tup, s_lst, p_some, u_bl, u_int, u_tup, u_lst, wipeD, List.getElem?_cons_zero, List.getElem?_cons_succ, List.set_cons_zero, List.set_cons_succ, List.length_cons, List.length_nil, true_and, and_true, if_and, if_or, Bool.false_eq_true, if_false, if_true, ite_true, ite_false, Bool.not_true, Bool.not_false]
      exact ⟨by omega, hk'⟩
    · rw [show (ws.map fun n => D.int (n % 1000000007)) = (ws.map fun n => n % 1000000007).map .int from by rw [List.map_map]; rfl]
      refine ⟨by rw [szl]; omega, by rw [List.length_map, List.length_map]; rw [szl]; omega, by rw [szl]; omega, ?_⟩
      intro a ha
      have hne : a ≠ gl := fun e => by
        rw [e, updD_same] at ha
        cases ha
      have ha2 : H a = none := by rwa [updD_ne hne] at ha
      refine endsD_rt (q a gl _ ⟨hne, gs.reverse, (ws.map fun n => n % 1000000007) ++ [7], 0, ?_, by rw [updD_ne hne.symm, updD_same, List.map_reverse], fun g hg => hg0 g (List.mem_reverse.mp hg), by omega, by omega, by rw [List.length_append, List.length_cons]; omega, by rw [List.length_append, List.length_map, List.length_cons, List.length_nil]; omega, fun s hs => ?_⟩ (leD.trans (leD.upd hgl) (leD.upd ha)))
      · rw [updD_same]
        unfold boxL
        rw [List.map_append]
        rfl
      · rcases List.mem_append.mp hs with hs | hs
        · obtain ⟨n, _, rfl⟩ := List.mem_map.mp hs
          omega
        · rw [List.mem_singleton.mp hs]; omega
/-! ### draws -/
def sp_law_draw : DSp := fun ds H Q _ => ∃ (a gl : Addr) (c many : Int), ds = [.ref a, .int many] ∧ BoxAt H a gl c ∧ c < 2 ^ 90 ∧ 0 < many ∧ many < 2 ^ 90 ∧ ∀ (v : Int) (H' : DH), 0 ≤ v → v < many → BoxAt H' a gl (c + 1) → Fr a gl H H' → Q (.int v) H'
theorem atB0 {gl : Addr} {sm : List Int} {n : Int} : atI (boxL gl sm n) 0 = some (.ref gl) := by unfold boxL atI; rfl
theorem atB1 {gl : Addr} {sm : List Int} {n : Int} : atI (boxL gl sm n) 1 = some (.lst (sm.map .int)) := by unfold boxL atI; rfl
theorem atB2 {gl : Addr} {sm : List Int} {n : Int} : atI (boxL gl sm n) 2 = some (.int n) := by unfold boxL atI; rfl
theorem set_B2 {H : DH} {a gl : Addr} {sm : List Int} {n v : Int} {Q : DH → Prop} (h : H a = some (.lst (boxL gl sm n))) : dSet (.ref a) (.int 2) (.int v) H Q = Q (updD H a (.lst (boxL gl sm v))) := set_l (i := 2) h (by show 2 < 3; omega)
theorem snoc_of {α : Type} {l : List α} (h : l ≠ []) : ∃ r x, l = r ++ [x] := ⟨l.dropLast, l.getLast h, (List.dropLast_concat_getLast h).symm⟩
def dw_small (K : PySem.W.Frag)  : SW (plainC K) := (sSeq (sAsg (bOp opIx (bOp opIx (bVar 0) (bInt 1)) (bOp (opMod) (bB fInt (aCons (bOp opIx (bVar 0) (bInt 2)) aNil)) (bB fLen (aCons (bOp opIx (bVar 0) (bInt 1)) aNil)))) (gwName 4)) (sSeq (sAsg (bOp (opMod) (bB fInt (aCons (bOp (opAdd true) (bOp (opAdd true) (bOp (opMul true) (bVar 4) (bInt 40692)) (bOp (opMul true) (bOp opIx (bVar 0) (bInt 2)) (bInt 52774))) (bInt 3791)) aNil)) (bInt 2147483399)) (gwName 5)) (sSeq (sAsg (bOp (opMod) (bB fInt (aCons (bOp (opAdd true) (bOp (opAdd true) (bOp (opMul true) (bVar 5) (bVar 5)) (bOp (opMul true) (bOp opIx (bVar 0) (bInt 2)) (bInt 9973))) (bOp (opFdiv) (bVar 4) (bInt 11))) aNil)) (bInt 1999993)) (gwName 5)) (sSeq (sAsg (bOp (opMod) (bB fInt (aCons (bOp (opAdd true) (bOp (opAdd true) (bOp (opMul true) (bOp (opMul true) (bVar 5) (bVar 5)) (bInt 39373)) (bVar 4)) (bInt 101)) aNil)) (bInt 999999937)) (gwName 5)) (sRet (bOp (opMod) (bB fInt (aCons (bOp (opFdiv) (bVar 5) (bInt 7)) aNil)) (bVar 1)))))))
def dw_end (K : PySem.W.Frag)  : SW (plainC K) := (sSeq (sIf (bTest (bOp opGt (bB fLen (aCons (bVar 2) aNil)) (bInt 0))) (sSeq (sAsg (bOp (opMod) (bB fInt (aCons (bOp opIx (bVar 2) (bNeg (bInt 1))) aNil)) (bVar 1)) (gwName 3)) (sSeq (sAsg (bOp (opFdiv) (bOp opIx (bVar 2) (bNeg (bInt 1))) (bVar 1)) (gwSub (bVar 2) (bNeg (bInt 1)))) (sRet (bVar 3)))) sNext) (dw_small K ))
def dw_loop (K : PySem.W.Frag)  : SW (plainC K) := (sSeq (sWhile (bAnd (bTest (bOp opGt (bB fLen (aCons (bVar 2) aNil)) (bInt 0))) (bTest (bOp opEq (bOp opIx (bVar 2) (bNeg (bInt 1))) (bInt 0)))) (sDrop (bM0 mPop0 (bVar 2)))) (dw_end K ))
theorem _law_draw_split {K : PySem.W.Frag} : b__law_draw K  = (sSeq (sAsg (bOp opIx (bVar 0) (bInt 0)) (gwName 2)) (sSeq (sAsg (bOp (opAdd true) (bOp opIx (bVar 0) (bInt 2)) (bInt 1)) (gwSub (bVar 0) (bInt 2))) (dw_loop K ))) := rfl
theorem w_dw_small {H : DH} {Q : DQ} {E : DX1} {a gl : Addr} {sm : List Int} {n many : Int} {x2 : Option D} (ea : H a = some (.lst (boxL gl sm n))) (h0 : 0 ≤ n) (h1 : n < 2 ^ 91) (hl : 0 < sm.length) (hs : ∀ s ∈ sm, 0 ≤ s ∧ s < 1000000007) (hm : 0 < many) (q : ∀ v, 0 ≤ v → v < many → Q (.int v) H) :
    (dw_small K).w (endsD Q E) [some (.ref a), some (.int many), x2, none, none, none] H := by
  obtain ⟨cell, hc, e⟩ := at_emod (ns := sm) hl n
  obtain ⟨c0, c1⟩ := hs cell hc
  simp only [dw_small, ix_l ea, atB1, atB2, List.length_map, e, o_fdiv, w_notT, w_isiBC, w_ret, w_retF, w_retN, w_sif, w_seq, w_asg, w_drop, w_par, w_aug, w_for, w_next, w_brk, w_cnt, w_sfld, w_raise, w_thru, w_andV, w_orV, w_notV, w_and, w_or, w_not, w_if, w_test, w_tru, w_isiB, w_var, w_int, w_str, w_bl, w_non, w_op, w_chain, w_neg, w_cons, w_nil, w_tup, w_lst, w_newT, w_sl, w_oN, w_oS, w_B, w_call, w_fld, w_lc, w_yes, w_jAny, w_rng1, w_rng2, w_zip, w_gNm, w_gvNm, w_gTup, w_gsN, w_gsC, o_sub, o_mod, o_lt, o_le, o_gt, o_ge, o_add, o_addT, o_addL, o_mul, o_ixT, o_ixL, o_ixF, o_eqI, o_neI, o_isN, o_isNotN, o_isB, f_all, f_lenT, f_lenL, f_lenF, f_int, f_tupL, f_tupT, i_tup, i_lst, i_frz, i_rng, i_zipT, i_zipL, s_tup, s_lst, p_some, u_bl, u_int, u_tup, u_lst, wipeD, List.getElem?_cons_zero, List.getElem?_cons_succ, List.set_cons_zero, List.set_cons_succ, List.length_cons, List.length_nil, true_and, and_true, if_and, if_or, Bool.false_eq_true, if_false, if_true, ite_true, ite_false, Bool.not_true, Bool.not_false]
  have m0 := Int.emod_nonneg (cell * 40692 + n * 52774 + 3791) (show (2147483399 : Int) ≠ 0 by omega)
  have m1 := Int.emod_lt_of_pos (cell * 40692 + n * 52774 + 3791) (show (0 : Int) < 2147483399 by omega)
  generalize (cell * 40692 + n * 52774 + 3791) % 2147483399 = y at m0 m1
  have m2 := Int.emod_nonneg (y * y + n * 9973 + cell / 11) (show (1999993 : Int) ≠ 0 by omega)
  have m3 := Int.emod_lt_of_pos (y * y + n * 9973 + cell / 11) (show (0 : Int) < 1999993 by omega)
  refine ⟨by omega, mulW0 c0 (by omega) (by omega) (by omega), mulW0 h0 (by omega) (by omega) (by omega), by omega, mulW0 m0 (by omega) m0 (by omega), mulW0 h0 (by omega) (by omega) (by omega), ⟨by omega, by decide⟩, by omega, ?_⟩
  generalize (y * y + n * 9973 + cell / 11) % 1999993 = z at m2 m3
  have zz0 : 0 ≤ z * z := Int.mul_nonneg m2 m2
  have zz1 : z * z < 2 ^ 99 := by
    have : z * z ≤ 1999993 * 1999993 := Int.mul_le_mul (by omega) (by omega) m2 (by omega)
    omega
  exact ⟨mulW0 m2 (by omega) m2 (by omega), mulW0 zz0 (by omega) (by omega) (by omega), by omega, ⟨by omega, by decide⟩, hm, endsD_rt (q _ (Int.emod_nonneg _ (by omega)) (Int.emod_lt_of_pos _ hm))⟩
theorem w_law_draw : ∀ ds H Q E, ds.length = 2 → sp_law_draw ds H Q E → (b__law_draw K).w (endsD Q E) (startD ["box", "limit", "great", "digit", "cell", "mixed"] ds) H := by
  rintro _ H Q E - ⟨a, gl, c, many, rfl, ⟨hne, gs, sm, n, ea, eg, hgs, hn0, hnc, hsl, hsz, hsm⟩, hc, hm, hm2, q⟩
  simp only [_law_draw_split, show startD ["box", "limit", "great", "digit", "cell", "mixed"] [.ref a, .int many] = [some (.ref a), some (.int many), none, none, none, none] from rfl, w_gSub, ix_l ea, atB0, atB2, set_B2 ea, w_notT, w_isiBC, w_ret, w_retF, w_retN, w_sif, w_seq, w_asg, w_drop, w_par, w_aug, w_for, w_next, w_brk, w_cnt, w_sfld, w_raise, w_thru, w_andV, w_orV, w_notV, w_and, w_or, w_not, w_if, w_test, w_tru, w_isiB, w_var, w_int, w_str, w_bl, w_non, w_op, w_chain, w_neg, w_cons, w_nil, w_tup, w_lst, w_newT, w_sl, w_oN, w_oS, w_B, w_call, w_fld, w_lc, w_yes, w_jAny, w_rng1, w_rng2, w_zip, w_gNm, w_gvNm, w_gTup, w_gsN, w_gsC, o_sub, o_mod, o_lt, o_le, o_gt, o_ge, o_add, o_addT, o_addL, o_mul, o_ixT, o_ixL, o_ixF, o_eqI, o_neI, o_isN, o_isNotN, o_isB, f_all, f_lenT, f_lenL, f_lenF, f_int, f_tupL, f_tupT, i_tup, i_lst, i_frz, i_rng, i_zipT, i_zipL, s_tup, s_lst, p_some, u_bl, u_int, u_tup, u_lst, wipeD, List.getElem?_cons_zero, List.getElem?_cons_succ, List.set_cons_zero, List.set_cons_succ, List.length_cons, List.length_nil, true_and, and_true, if_and, if_or, Bool.false_eq_true, if_false, if_true, ite_true, ite_false, Bool.not_true, Bool.not_false]
  generalize hH1 : updD H a (.lst (boxL gl sm (n + 1))) = H1
  have e1 : H1 a = some (.lst (boxL gl sm (n + 1))) := by rw [← hH1]; exact updD_same
  have g1 : H1 gl = some (.lst (gs.map .int)) := by rw [← hH1, updD_ne hne.symm]; exact eg
  have f1 : Fr a gl H H1 := by rw [← hH1]; exact Fr.upd_a
  have dv : ∀ z : Int, CDivW z many := fun z => ⟨hm, by
    have h1 : many.natAbs < 2 ^ 90 := by omega
    by_cases h0 : many.natAbs = 0
    · rw [h0]; decide
    · have := (Nat.log2_lt h0).mpr h1
      omega⟩
  simp only [dw_loop, w_while, w_notT, w_isiBC, w_ret, w_retF, w_retN, w_sif, w_seq, w_asg, w_drop, w_par, w_aug, w_for, w_next, w_brk, w_cnt, w_sfld, w_raise, w_thru, w_andV, w_orV, w_notV, w_and, w_or, w_not, w_if, w_test, w_tru, w_isiB, w_var, w_int, w_str, w_bl, w_non, w_op, w_chain, w_neg, w_cons, w_nil, w_tup, w_lst, w_newT, w_sl, w_oN, w_oS, w_B, w_call, w_fld, w_lc, w_yes, w_jAny, w_rng1, w_rng2, w_zip, w_gNm, w_gvNm, w_gTup, w_gsN, w_gsC, o_sub, o_mod, o_lt, o_le, o_gt, o_ge, o_add, o_addT, o_addL, o_mul, o_ixT, o_ixL, o_ixF, o_eqI, o_neI, o_isN, o_isNotN, o_isB, f_all, f_lenT, f_lenL, f_lenF, f_int, f_tupL, f_tupT, i_tup, i_lst, i_frz, i_rng, i_zipT, i_zipL, s_tup, s_lst, p_some, u_bl, u_int, u_tup, u_lst, wipeD, List.getElem?_cons_zero, List.getElem?_cons_succ, List.set_cons_zero, List.set_cons_succ, List.length_cons, List.length_nil, true_and, and_true, if_and, if_or, Bool.false_eq_true, if_false, if_true, ite_true, ite_false, Bool.not_true, Bool.not_false]
  refine ⟨fun m σ H' => ∃ gs2 : List Int, σ = [some (.ref a), some (.int many), some (.ref gl), none, none, none] ∧ H' a = some (.lst (boxL gl sm (n + 1))) ∧ H' gl = some (.lst (gs2.map .int)) ∧ (∀ g ∈ gs2, 0 ≤ g) ∧ Fr a gl H H' ∧ m = gs2.length, ⟨_, gs, rfl, e1, g1, hgs, f1, rfl⟩, ?_⟩
  rintro m _ H2 ⟨gs2, rfl, e2, g2, hg2, f2, rfl⟩
  simp only [f_lenR g2, List.length_map, w_notT, w_isiBC, w_ret, w_retF, w_retN, w_sif, w_seq, w_asg, w_drop, w_par, w_aug, w_for, w_next, w_brk, w_cnt, w_sfld, w_raise, w_thru, w_andV, w_orV, w_notV, w_and, w_or, w_not, w_if, w_test, w_tru, w_isiB, w_var, w_int, w_str, w_bl, w_non, w_op, w_chain, w_neg, w_cons, w_nil, w_tup, w_lst, w_newT, w_sl, w_oN, w_oS, w_B, w_call, w_fld, w_lc, w_yes, w_jAny, w_rng1, w_rng2, w_zip, w_gNm, w_gvNm, w_gTup, w_gsN, w_gsC, o_sub, o_mod, o_lt, o_le, o_gt, o_ge, o_add, o_addT, o_addL, o_mul, o_ixT, o_ixL, o_ixF, o_eqI, o_neI, o_isN, o_isNotN, o_isB, f_all, f_lenT, f_lenL, f_lenF, f_int, f_tupL, f_tupT, i_tup, i_lst, i_frz, i_rng, i_zipT, i_zipL, s_tup, s_lst, p_some, u_bl, u_int, u_tup, u_lst, wipeD, List.getElem?_cons_zero, List.getElem?_cons_succ, List.set_cons_zero, List.set_cons_succ, List.length_cons, List.length_nil, true_and, and_true, if_and, if_or, Bool.false_eq_true, if_false, if_true, ite_true, ite_false, Bool.not_true, Bool.not_false]
  by_cases hz : gs2 = []
  · subst hz
    rw [decide_eq_false (show ¬ (0 : Int) < (([] : List Int).length : Nat) by decide)]
    simp only [dw_end, f_lenR g2, List.length_map, w_notT, w_isiBC, w_ret, w_retF, w_retN, w_sif, w_seq, w_asg, w_drop, w_par, w_aug, w_for, w_next, w_brk, w_cnt, w_sfld, w_raise, w_thru, w_andV, w_orV, w_notV, w_and, w_or, w_not, w_if, w_test, w_tru, w_isiB, w_var, w_int, w_str, w_bl, w_non, w_op, w_chain, w_neg, w_cons, w_nil, w_tup, w_lst, w_newT, w_sl, w_oN, w_oS, w_B, w_call, w_fld, w_lc, w_yes, w_jAny, w_rng1, w_rng2, w_zip, w_gNm, w_gvNm, w_gTup, w_gsN, w_gsC, o_sub, o_mod, o_lt, o_le, o_gt, o_ge, o_add, o_addT, o_addL, o_mul, o_ixT, o_ixL, o_ixF, o_eqI, o_neI, o_isN, o_isNotN, o_isB, f_all, f_lenT, f_lenL, f_lenF, f_int, f_tupL, f_tupT, i_tup, i_lst, i_frz, i_rng, i_zipT, i_zipL, s_tup, s_lst, p_some, u_bl, u_int, u_tup, u_lst, wipeD, List.getElem?_cons_zero, List.getElem?_cons_succ, List.set_cons_zero, List.set_cons_succ, List.length_cons, List.length_nil, true_and, and_true, if_and, if_or, Bool.false_eq_true, if_false, if_true, ite_true, ite_false, Bool.not_true, Bool.not_false]
    rw [decide_eq_false (show ¬ (0 : Int) < ((0 : Nat) : Int) by decide)]
    simp only [w_notT, w_isiBC, w_ret, w_retF, w_retN, w_sif, w_seq, w_asg, w_drop, w_par, w_aug, w_for, w_next, w_brk, w_cnt, w_sfld, w_raise, w_thru, w_andV, w_orV, w_notV, w_and, w_or, w_not, w_if, w_test, w_tru, w_isiB, w_var, w_int, w_str, w_bl, w_non, w_op, w_chain, w_neg, w_cons, w_nil, w_tup, w_lst, w_newT, w_sl, w_oN, w_oS, w_B, w_call, w_fld, w_lc, w_yes, w_jAny, w_rng1, w_rng2, w_zip, w_gNm, w_gvNm, w_gTup, w_gsN, w_gsC, o_sub, o_mod, o_lt, o_le, o_gt, o_ge, o_add, o_addT, o_addL, o_mul, o_ixT, o_ixL, o_ixF, o_eqI, o_neI, o_isN, o_isNotN, o_isB, f_all, f_lenT, f_lenL, f_lenF, f_int, f_tupL, f_tupT, i_tup, i_lst, i_frz, i_rng, i_zipT, i_zipL, s_tup, s_lst, p_some, u_bl, u_int, u_tup, u_lst, wipeD, List.getElem?_cons_zero, List.getElem?_cons_succ, List.set_cons_zero, List.set_cons_succ, List.length_cons, List.length_nil, true_and, and_true, if_and, if_or, Bool.false_eq_true, if_false, if_true, ite_true, ite_false, Bool.not_true, Bool.not_false]
    exact w_dw_small e2 (by omega) (by omega) hsl hsm hm fun v v0 v1 => q v H2 v0 v1 ⟨hne, [], sm, n + 1, e2, g2, hg2, by omega, by omega, hsl, hsz, hsm⟩ f2
  · obtain ⟨gs3, g, rfl⟩ := snoc_of hz
    have hg3 : ∀ y ∈ gs3, 0 ≤ y := fun y hy => hg2 y (List.mem_append_left _ hy)
    have hg0 : 0 ≤ g := hg2 g (List.mem_append_right _ List.mem_cons_self)
    have hpos : decide ((0 : Int) < ((gs3 ++ [g]).length : Nat)) = true := decide_eq_true (by rw [List.length_append, List.length_cons]; omega)
    rw [hpos]
    rw [List.map_append] at g2
    have at2 : atI (gs3.map D.int ++ [g].map D.int) (-1) = some (.int g) := atI_last
    simp only [show dNeg (.int 1) = fun (H : DH) (Q : DQ) => Q (.int (-1)) H from rfl, ix_l g2, at2, w_notT, w_isiBC, w_ret, w_retF, w_retN, w_sif, w_seq, w_asg, w_drop, w_par, w_aug, w_for, w_next, w_brk, w_cnt, w_sfld, w_raise, w_thru, w_andV, w_orV, w_notV, w_and, w_or, w_not, w_if, w_test, w_tru, w_isiB, w_var, w_int, w_str, w_bl, w_non, w_op, w_chain, w_neg, w_cons, w_nil, w_tup, w_lst, w_newT, w_sl, w_oN, w_oS, w_B, w_call, w_fld, w_lc, w_yes, w_jAny, w_rng1, w_rng2, w_zip, w_gNm, w_gvNm, w_gTup, w_gsN, w_gsC, o_sub, o_mod, o_lt, o_le, o_gt, o_ge, o_add, o_addT, o_addL, o_mul, o_ixT, o_ixL, o_ixF, o_eqI, o_neI, o_isN, o_isNotN, o_isB, f_all, f_lenT, f_lenL, f_lenF, f_int, f_tupL, f_tupT, i_tup, i_lst, i_frz, i_rng, i_zipT, i_zipL, s_tup, s_lst, p_some, u_bl, u_int, u_tup, u_lst, wipeD, List.getElem?_cons_zero, List.getElem?_cons_succ, List.set_cons_zero, List.set_cons_succ, List.length_cons, List.length_nil, true_and, and_true, if_and, if_or, Bool.false_eq_true, if_false, if_true, ite_true, ite_false, Bool.not_true, Bool.not_false]
    by_cases hg : g = 0
    · rw [decide_eq_true hg]
      simp only [w_m0, w_notT, w_isiBC, w_ret, w_retF, w_retN, w_sif, w_seq, w_asg, w_drop, w_par, w_aug, w_for, w_next, w_brk, w_cnt, w_sfld, w_raise, w_thru, w_andV, w_orV, w_notV, w_and, w_or, w_not, w_if, w_test, w_tru, w_isiB, w_var, w_int, w_str, w_bl, w_non, w_op, w_chain, w_neg, w_cons, w_nil, w_tup, w_lst, w_newT, w_sl, w_oN, w_oS, w_B, w_call, w_fld, w_lc, w_yes, w_jAny, w_rng1, w_rng2, w_zip, w_gNm, w_gvNm, w_gTup, w_gsN, w_gsC, o_sub, o_mod, o_lt, o_le, o_gt, o_ge, o_add, o_addT, o_addL, o_mul, o_ixT, o_ixL, o_ixF, o_eqI, o_neI, o_isN, o_isNotN, o_isB, f_all, f_lenT, f_lenL, f_lenF, f_int, f_tupL, f_tupT, i_tup, i_lst, i_frz, i_rng, i_zipT, i_zipL, s_tup, s_lst, p_some, u_bl, u_int, u_tup, u_lst, wipeD, List.getElem?_cons_zero, List.getElem?_cons_succ, List.set_cons_zero, List.set_cons_succ, List.length_cons, List.length_nil, true_and, and_true, if_and, if_or, Bool.false_eq_true, if_false, if_true, ite_true, ite_false, Bool.not_true, Bool.not_false]
      refine ⟨ty_atP g2, pop_last g2 ⟨gs3.length, by rw [List.length_append, List.length_cons]; omega, gs3, by rw [updD_ne hne]; exact e2, updD_same, hg3, f2.trans Fr.upd_gl, rfl⟩⟩
    · rw [decide_eq_false hg]
      simp only [dw_end, f_lenR g2, w_notT, w_isiBC, w_ret, w_retF, w_retN, w_sif, w_seq, w_asg, w_drop, w_par, w_aug, w_for, w_next, w_brk, w_cnt, w_sfld, w_raise, w_thru, w_andV, w_orV, w_notV, w_and, w_or, w_not, w_if, w_test, w_tru, w_isiB, w_var, w_int, w_str, w_bl, w_non, w_op, w_chain, w_neg, w_cons, w_nil, w_tup, w_lst, w_newT, w_sl, w_oN, w_oS, w_B, w_call, w_fld, w_lc, w_yes, w_jAny, w_rng1, w_rng2, w_zip, w_gNm, w_gvNm, w_gTup, w_gsN, w_gsC, o_sub, o_mod, o_lt, o_le, o_gt, o_ge, o_add, o_addT, o_addL, o_mul, o_ixT, o_ixL, o_ixF, o_eqI, o_neI, o_isN, o_isNotN, o_isB, f_all, f_lenT, f_lenL, f_lenF, f_int, f_tupL, f_tupT, i_tup, i_lst, i_frz, i_rng, i_zipT, i_zipL, s_tup, s_lst, p_some, u_bl, u_int, u_tup, u_lst, wipeD, List.getElem?_cons_zero, List.getElem?_cons_succ, List.set_cons_zero, List.set_cons_succ, List.length_cons, List.length_nil, true_and, and_true, if_and, if_or, Bool.false_eq_true, if_false, if_true, ite_true, ite_false, Bool.not_true, Bool.not_false]
      rw [decide_eq_true (show (0 : Int) < ((gs3.map D.int ++ [g].map D.int).length : Nat) by rw [List.length_append, List.map_cons, List.length_cons]; omega)]
      simp only [show dNeg (.int 1) = fun (H : DH) (Q : DQ) => Q (.int (-1)) H from rfl, ix_l g2, at2, w_gSub, o_fdiv, w_notT, w_isiBC, w_ret, w_retF, w_retN, w_sif, w_seq, w_asg, w_drop, w_par, w_aug, w_for, w_next, w_brk, w_cnt, w_sfld, w_raise, w_thru, w_andV, w_orV, w_notV, w_and, w_or, w_not, w_if, w_test, w_tru, w_isiB, w_var, w_int, w_str, w_bl, w_non, w_op, w_chain, w_neg, w_cons, w_nil, w_tup, w_lst, w_newT, w_sl, w_oN, w_oS, w_B, w_call, w_fld, w_lc, w_yes, w_jAny, w_rng1, w_rng2, w_zip, w_gNm, w_gvNm, w_gTup, w_gsN, w_gsC, o_sub, o_mod, o_lt, o_le, o_gt, o_ge, o_add, o_addT, o_addL, o_mul, o_ixT, o_ixL, o_ixF, o_eqI, o_neI, o_isN, o_isNotN, o_isB, f_all, f_lenT, f_lenL, f_lenF, f_int, f_tupL, f_tupT, i_tup, i_lst, i_frz, i_rng, i_zipT, i_zipL, s_tup, s_lst, p_some, u_bl, u_int, u_tup, u_lst, wipeD, List.getElem?_cons_zero, List.getElem?_cons_succ, List.set_cons_zero, List.set_cons_succ, List.length_cons, List.length_nil, true_and, and_true, if_and, if_or, Bool.false_eq_true, if_false, if_true, ite_true, ite_false, Bool.not_true, Bool.not_false]
      have sl2 : ∀ {v : D} {P : DH → Prop}, dSet (.ref gl) (.int (-1)) v H2 P = P (updD H2 gl (.lst (gs3.map .int ++ [v]))) := fun {v} {P} => set_last (d := .int g) g2
      simp only [sl2, w_notT, w_isiBC, w_ret, w_retF, w_retN, w_sif, w_seq, w_asg, w_drop, w_par, w_aug, w_for, w_next, w_brk, w_cnt, w_sfld, w_raise, w_thru, w_andV, w_orV, w_notV, w_and, w_or, w_not, w_if, w_test, w_tru, w_isiB, w_var, w_int, w_str, w_bl, w_non, w_op, w_chain, w_neg, w_cons, w_nil, w_tup, w_lst, w_newT, w_sl, w_oN, w_oS, w_B, w_call, w_fld, w_lc, w_yes, w_jAny, w_rng1, w_rng2, w_zip, w_gNm, w_gvNm, w_gTup, w_gsN, w_gsC, o_sub, o_mod, o_lt, o_le, o_gt, o_ge, o_add, o_addT, o_addL, o_mul, o_ixT, o_ixL, o_ixF, o_eqI, o_neI, o_isN, o_isNotN, o_isB, f_all, f_lenT, f_lenL, f_lenF, f_int, f_tupL, f_tupT, i_tup, i_lst, i_frz, i_rng, i_zipT, i_zipL, s_tup, s_lst, p_some, u_bl, u_int, u_tup, u_lst, wipeD, List.getElem?_cons_zero, List.getElem?_cons_succ, List.set_cons_zero, List.set_cons_succ, List.length_cons, List.length_nil, true_and, and_true, if_and, if_or, Bool.false_eq_true, if_false, if_true, ite_true, ite_false, Bool.not_true, Bool.not_false]
      refine ⟨hm, dv g, endsD_rt (q _ _ (Int.emod_nonneg _ (by omega)) (Int.emod_lt_of_pos _ hm) ⟨hne, gs3 ++ [g / many], sm, n + 1, by rw [updD_ne hne]; exact e2, by rw [updD_same, List.map_append]; rfl, fun y hy => ?_, by omega, by omega, hsl, hsz, hsm⟩ (f2.trans Fr.upd_gl))⟩
      rcases List.mem_append.mp hy with hy | hy
      · exact hg3 y hy
      · rw [List.mem_singleton.mp hy]
        exact Int.ediv_nonneg hg0 (by omega)
/-- many draws in a comprehension: each item x of the result stands to its source d by R; each costs at most m draws -/
theorem lc_draws {α : Type} {g : DTG} {te : DTE} {σ : DS} {k : List D → DH → Prop} {a gl : Addr} {H : DH} {c : Int} (enc : α → D) (R : D → α → Prop) (m : Nat) (ds : List D) (hz : ds.length ≤ sizeLine) (hat : BoxAt H a gl c)
    (hs : ∀ d ∈ ds, ∀ (i : Nat) (H' : DH), i < ds.length → BoxAt H' a gl (c + m * i) → Fr a gl H H' → ∀ k' : DQ, (∀ x H2, R d x → BoxAt H2 a gl (c + m * (i + 1 : Nat)) → Fr a gl H H2 → k' (enc x) H2) → g d σ H' fun σ2 H2 => te σ2 H2 k' E0D)
    (hk : ∀ (xs : List α) (H' : DH), xs.length = ds.length → (∀ (i : Nat) (d : D) (x : α), ds[i]? = some d → xs[i]? = some x → R d x) → BoxAt H' a gl (c + m * ds.length) → Fr a gl H H' → k (xs.map enc) H') : lcD (fun _ => True) g (bYes : BW (plainC K)).w te σ k ds [] H := by
  have key := lc_inv (C := plainC K) (g := g) (te := te) (σ := σ) (gd := fun _ => True) (k := k) ds (fun i acc H' => i ≤ ds.length ∧ BoxAt H' a gl (c + m * i) ∧ Fr a gl H H' ∧ ∃ xs : List α, acc = xs.map enc ∧ xs.length = i ∧ ∀ (j : Nat) (d : D) (x : α), ds[j]? = some d → xs[j]? = some x → R d x) (fun _ _ _ _ => trivial) ?_ ?_ ds.length 0 [] H (by omega) ⟨Nat.zero_le _, by simpa using hat, Fr.rfl, [], rfl, rfl, fun j d x _ h => by simp at h⟩
  · simpa using key
  · rintro i d acc H' hd ⟨hi, hh, hf, xs, rfl, hl, hR⟩
    obtain ⟨hi2, e⟩ := List.getElem?_eq_some_iff.mp hd
    refine ⟨by rw [List.length_map]; omega, fun k' hk' => hs d (by rw [← e]; exact List.getElem_mem hi2) i H' hi2 hh hf k' fun x H2 hx h2 f2 => hk' _ _ ⟨by omega, h2, f2, xs ++ [x], by rw [List.map_append]; rfl, by rw [List.length_append, hl]; rfl, fun j d2 y hj hy => ?_⟩⟩
    by_cases hji : j < i
    · rw [List.getElem?_append_left (by omega)] at hy
      exact hR j d2 y hj hy
    · rw [List.getElem?_append_right (by omega)] at hy
      have hj0 : j - xs.length = 0 := by
        have := (List.getElem?_eq_some_iff.mp hy).1
        rw [List.length_singleton] at this
        omega
      rw [hj0] at hy
      cases hy
      have : j = i := by omega
      subst this
      rw [hd] at hj
      cases hj
      exact hx
  · rintro acc H' ⟨_, hh, hf, xs, rfl, hl, hR⟩
    exact hk xs H' hl hR hh hf
end
end G
set_option Elab.async false
set_option linter.all false
set_option maxRecDepth 100000
namespace G
open PySem PySem.Spec PyProof.Rows L2
section
variable {K : PySem.W.Frag}
/-! ### untold, or InvalidText -/
/-- an open bracket: its list's address, what was read -/
abbrev Fr8 := Addr × List D
/-- the text up to here within these brackets, the innermost first -/
def preT : List Fr8 → List Nat
  | [] => []
  | (_, read) :: fs => preT fs ++ 40 :: D.txs read
def okF : List Fr8 → Prop
  | [] => True
  | (_, read) :: fs => (∀ m ∈ read, m.tv = true ∧ m.dp + (fs.length + 1) ≤ 60) ∧ okF fs
theorem len_tx (ds : List D) : ds.length ≤ (D.txs ds).length := by
  induction ds with
  | nil => exact Nat.le_refl _
  | cons d ds ih =>
    show _ ≤ (d.tx ++ 44 :: D.txs ds).length
    rw [List.length_append, List.length_cons, List.length_cons]
    omega
structure Frs (H0 H : DH) (r : Addr) (fs : List Fr8) : Prop where
  hr : H r = some (.lst ((fs.map fun f => D.ref f.1).reverse))
  hf : ∀ x ∈ fs, H x.1 = some (.lst x.2)
  nd : (r :: fs.map (fun f => f.1)).Nodup
  n0 : H0 r = none
  nf : ∀ x ∈ fs.map (fun f => f.1), H0 x = none
  le : leD H0 H
/-- ahead of a value or of a bracket that closes -/
structure At8 (T : List Nat) (i : Nat) (fs : List Fr8) (b : Bool) (more : List Nat) : Prop where
  le : i ≤ T.length
  pre : T.take i = preT fs ++ more
  ac : accA (T.drop i) fs.length b = accA T 0 false
  ok : okF fs
  d : fs.length ≤ 60
theorem lt_of_drop {T r : List Nat} {i c : Nat} (h : T.drop i = c :: r) : i < T.length ∧ T.drop (i + 1) = r ∧ T.take (i + 1) = T.take i ++ [c] := by
  have h1 : i < T.length := by
    have := congrArg List.length h
    rw [List.length_drop, List.length_cons] at this
    omega
  refine ⟨h1, ?_, ?_⟩
  · rw [← List.drop_drop, h]; rfl
  · rw [List.take_add, h]; rfl
def vo_done (K : PySem.W.Frag) (s_atom_at : DSp) : SW (plainC K) := (sSeq (sIf (bNot (bTru (bVar 1))) sBrk sNext) (sSeq (sIf (bTest (bOp opNe (bSl true (bVar 0) (oSome (bVar 2)) (oSome (bOp (opAdd true) (bVar 2) (bInt 1)))) (bStr ","))) (sRaise "InvalidText" ["text", "at"] (aCons (bVar 0) (aCons (bVar 2) aNil))) sNext) (sSeq (sDrop (bM mAppend (bOp opIx (bVar 1) (bNeg (bInt 1))) (aCons (bVar 4) aNil))) (sAug 2 ipAddD (bInt 1)))))
def vo_go (K : PySem.W.Frag) (s_atom_at : DSp) : SW (plainC K) := (sSeq (sIf (bAnd (bTest (bOp opEq (bVar 3) (bStr ")"))) (bTru (bVar 1))) (sSeq (sAsg (bB fTuple (aCons (bM0 mPop0 (bVar 1)) aNil)) (gwName 4)) (sAug 2 ipAddD (bInt 1))) (sAsg (bCall 2 s_atom_at (aCons (bVar 0) (aCons (bVar 2) aNil))) (gwTup 2 (gsCons (gwName 4) (gsCons (gwName 2) gsNil))))) (vo_done K s_atom_at))
def vo_turn (K : PySem.W.Frag) (s_atom_at : DSp) : SW (plainC K) := (sSeq (sAsg (bSl true (bVar 0) (oSome (bVar 2)) (oSome (bOp (opAdd true) (bVar 2) (bInt 1)))) (gwName 3)) (sSeq (sIf (bTest (bOp opEq (bVar 3) (bStr "("))) (sSeq (sIf (bTest (bOp opEq (bB fLen (aCons (bVar 1) aNil)) (bInt 60))) (sRaise "InvalidText" ["text", "at"] (aCons (bVar 0) (aCons (bVar 2) aNil))) sNext) (sSeq (sDrop (bM mAppend (bVar 1) (aCons (bLst false aNil) aNil))) (sSeq (sAug 2 ipAddD (bInt 1)) sCnt))) sNext) (vo_go K s_atom_at)))
def vo_loop (K : PySem.W.Frag) (s_atom_at : DSp) : SW (plainC K) := (sSeq (sWhile (bTru (bBl true)) (vo_turn K s_atom_at)) (sSeq (sIf (bTest (bOp opNe (bVar 2) (bB fLen (aCons (bVar 0) aNil)))) (sRaise "InvalidText" ["text", "at"] (aCons (bVar 0) (aCons (bVar 2) aNil))) sNext) (sRet (bVar 4))))
theorem value_of_split {K : PySem.W.Frag} {s_atom_at : DSp} : b_value_of K s_atom_at = (sSeq (sAsg (bLst false aNil) (gwName 1)) (sSeq (sAsg (bInt 0) (gwName 2)) (vo_loop K s_atom_at))) := rfl
section
variable {DD : DEnds} {H0 H : DH} {r : Addr} {T : List Nat} {i : Nat} {x3 x4 : Option D} {fs : List Fr8}
/-- what a turn leads to -/
structure NxT (DD : DEnds) (H0 : DH) (r : Addr) (T : List Nat) (i : Nat) : Prop where
  nx : ∀ (fs : List Fr8) (j : Nat) (H : DH) (x3 x4 : Option D), Frs H0 H r fs → At8 T j fs false [] → i < j → DD.nx [some (.str (S T)), some (.ref r), some (.int (j : Int)), x3, x4] H
  ct : ∀ (fs : List Fr8) (j : Nat) (H : DH) (x3 x4 : Option D), Frs H0 H r fs → At8 T j fs false [] → i < j → DD.ct [some (.str (S T)), some (.ref r), some (.int (j : Int)), x3, x4] H
  bk : ∀ (v : D) (j : Nat) (H : DH) (x3 : Option D), leD H0 H → v.tv = true → v.dp ≤ 60 → At8 T j [] true v.tx → DD.bk [some (.str (S T)), some (.ref r), some (.int (j : Int)), x3, some v] H
  ex : ∀ (j : Nat) (H : DH) (σ : DS), leD H0 H → j ≤ T.length → accA T 0 false = false → DD.ex "InvalidText" (xT T j) σ H
/-- a value x was read -/
theorem w_vo_done {x : D} {j : Nat} (N : NxT DD H0 r T i) (hT : TxOk T) (hz : T.length ≤ 100000) (F : Frs H0 H r fs) (A : At8 T j fs true x.tx) (hx : x.tv = true) (hd : x.dp + fs.length ≤ 60) (hi : i < j) :
    (vo_done K sp_atom_at).w DD [some (.str (S T)), some (.ref r), some (.int (j : Int)), x3, some x] H := by
  have hrr := F.hr
  simp only [vo_done, u_ref hrr, w_notT, w_isiBC, w_ret, w_retF, w_retN, w_sif, w_seq, w_asg, w_drop, w_par, w_aug, w_for, w_next, w_brk, w_cnt, w_sfld, w_raise, w_thru, w_andV, w_orV, w_notV, w_and, w_or, w_not, w_if, w_test, w_tru, w_isiB, w_var, w_int, w_str, w_bl, w_non, w_op, w_chain, w_neg, w_cons, w_nil, w_tup, w_lst, w_newT, w_sl, w_oN, w_oS, w_B, w_call, w_fld, w_lc, w_yes, w_jAny, w_rng1, w_rng2, w_zip, w_gNm, w_gvNm, w_gTup, w_gsN, w_gsC, o_sub, o_mod, o_lt, o_le, o_gt, o_ge, o_add, o_addT, o_addL, o_mul, o_ixT, o_ixL, o_ixF, o_eqI, o_neI, o_isN, o_isNotN, o_isB, f_all, f_lenT, f_lenL, f_lenF, f_int, f_tupL, f_tupT, i_tup, i_lst, i_frz, i_rng, i_zipT, i_zipL, s_tup, s_lst, p_some, u_bl, u_int, u_tup, u_lst, wipeD, List.getElem?_cons_zero, List.getElem?_cons_succ, List.set_cons_zero, List.set_cons_succ, List.length_cons, List.length_nil, true_and, and_true, if_and, if_or, Bool.false_eq_true, if_false, if_true, ite_true, ite_false, Bool.not_true, Bool.not_false]
  cases fs with
  | nil =>
    simp only [List.map_nil, List.reverse_nil, show (([] : List D)).isEmpty = true from rfl, w_notT, w_isiBC, w_ret, w_retF, w_retN, w_sif, w_seq, w_asg, w_drop, w_par, w_aug, w_for, w_next, w_brk, w_cnt, w_sfld, w_raise, w_thru, w_andV, w_orV, w_notV, w_and, w_or, w_not, w_if, w_test, w_tru, w_isiB, w_var, w_int, w_str, w_bl, w_non, w_op, w_chain, w_neg, w_cons, w_nil, w_tup, w_lst, w_newT, w_sl, w_oN, w_oS, w_B, w_call, w_fld, w_lc, w_yes, w_jAny, w_rng1, w_rng2, w_zip, w_gNm, w_gvNm, w_gTup, w_gsN, w_gsC, o_sub, o_mod, o_lt, o_le, o_gt, o_ge, o_add, o_addT, o_addL, o_mul, o_ixT, o_ixL, o_ixF, o_eqI, o_neI, o_isN, o_isNotN, o_isB, f_all, f_lenT, f_lenL, f_lenF, f_int, f_tupL, f_tupT, i_tup, i_lst, i_frz, i_rng, i_zipT, i_zipL, s_tup, s_lst, p_some, u_bl, u_int, u_tup, u_lst, wipeD, List.getElem?_cons_zero, List.getElem?_cons_succ, List.set_cons_zero, List.set_cons_succ, List.length_cons, List.length_nil, true_and, and_true, if_and, if_or, Bool.false_eq_true, if_false, if_true, ite_true, ite_false, Bool.not_true, Bool.not_false]
    exact N.bk x j H x3 F.le hx (by rw [List.length_nil] at hd; omega) A
  | cons f outer =>
    obtain ⟨a, read⟩ := f
    rw [List.map_cons, List.reverse_cons] at hrr
    have ha : H a = some (.lst read) := F.hf (a, read) List.mem_cons_self
    have ne : ((((a, read) :: outer : List Fr8).map fun f => D.ref f.1).reverse).isEmpty = false := by
      rw [List.map_cons, List.reverse_cons]
      cases ((outer.map fun f => D.ref f.1).reverse) <;> rfl
    simp only [ne, sl_S, cut1, lit_comma, o_neS, w_notT, w_isiBC, w_ret, w_retF, w_retN, w_sif, w_seq, w_asg, w_drop, w_par, w_aug, w_for, w_next, w_brk, w_cnt, w_sfld, w_raise, w_thru, w_andV, w_orV, w_notV, w_and, w_or, w_not, w_if, w_test, w_tru, w_isiB, w_var, w_int, w_str, w_bl, w_non, w_op, w_chain, w_neg, w_cons, w_nil, w_tup, w_lst, w_newT, w_sl, w_oN, w_oS, w_B, w_call, w_fld, w_lc, w_yes, w_jAny, w_rng1, w_rng2, w_zip, w_gNm, w_gvNm, w_gTup, w_gsN, w_gsC, o_sub, o_mod, o_lt, o_le, o_gt, o_ge, o_add, o_addT, o_addL, o_mul, o_ixT, o_ixL, o_ixF, o_eqI, o_neI, o_isN, o_isNotN, o_isB, f_all, f_lenT, f_lenL, f_lenF, f_int, f_tupL, f_tupT, i_tup, i_lst, i_frz, i_rng, i_zipT, i_zipL, s_tup, s_lst, p_some, u_bl, u_int, u_tup, u_lst, wipeD, List.getElem?_cons_zero, List.getElem?_cons_succ, List.set_cons_zero, List.set_cons_succ, List.length_cons, List.length_nil, true_and, and_true, if_and, if_or, Bool.false_eq_true, if_false, if_true, ite_true, ite_false, Bool.not_true, Bool.not_false]
    refine ⟨hT.sz, (hT.sub j 1).1, rfl, ?_⟩
    have hac := A.ac
    by_cases hc : (T.drop j).take 1 = [44]
    · obtain ⟨rest, hdr⟩ : ∃ rest, T.drop j = 44 :: rest := by
        cases h : T.drop j with
        | nil => rw [h] at hc; cases hc
        | cons c rest =>
          rw [h] at hc
          have : c = 44 := (List.cons.inj hc).1
          rw [this]
          exact ⟨rest, rfl⟩
      obtain ⟨l1, l2, l3⟩ := lt_of_drop hdr
      rw [decide_eq_true hc]
      simp only [w_m, ix_l hrr, atI_last, w_notT, w_isiBC, w_ret, w_retF, w_retN, w_sif, w_seq, w_asg, w_drop, w_par, w_aug, w_for, w_next, w_brk, w_cnt, w_sfld, w_raise, w_thru, w_andV, w_orV, w_notV, w_and, w_or, w_not, w_if, w_test, w_tru, w_isiB, w_var, w_int, w_str, w_bl, w_non, w_op, w_chain, w_neg, w_cons, w_nil, w_tup, w_lst, w_newT, w_sl, w_oN, w_oS, w_B, w_call, w_fld, w_lc, w_yes, w_jAny, w_rng1, w_rng2, w_zip, w_gNm, w_gvNm, w_gTup, w_gsN, w_gsC, o_sub, o_mod, o_lt, o_le, o_gt, o_ge, o_add, o_addT, o_addL, o_mul, o_ixT, o_ixL, o_ixF, o_eqI, o_neI, o_isN, o_isNotN, o_isB, f_all, f_lenT, f_lenL, f_lenF, f_int, f_tupL, f_tupT, i_tup, i_lst, i_frz, i_rng, i_zipT, i_zipL, s_tup, s_lst, p_some, u_bl, u_int, u_tup, u_lst, wipeD, List.getElem?_cons_zero, List.getElem?_cons_succ, List.set_cons_zero, List.set_cons_succ, List.length_cons, List.length_nil, true_and, and_true, if_and, if_or, Bool.false_eq_true, if_false, if_true, ite_true, ite_false, Bool.not_true, Bool.not_false]
      simp only [show dNeg (.int 1) = fun (H : DH) (Q : DQ) => Q (.int (-1)) H from rfl, ix_l hrr, atI_last, w_notT, w_isiBC, w_ret, w_retF, w_retN, w_sif, w_seq, w_asg, w_drop, w_par, w_aug, w_for, w_next, w_brk, w_cnt, w_sfld, w_raise, w_thru, w_andV, w_orV, w_notV, w_and, w_or, w_not, w_if, w_test, w_tru, w_isiB, w_var, w_int, w_str, w_bl, w_non, w_op, w_chain, w_neg, w_cons, w_nil, w_tup, w_lst, w_newT, w_sl, w_oN, w_oS, w_B, w_call, w_fld, w_lc, w_yes, w_jAny, w_rng1, w_rng2, w_zip, w_gNm, w_gvNm, w_gTup, w_gsN, w_gsC, o_sub, o_mod, o_lt, o_le, o_gt, o_ge, o_add, o_addT, o_addL, o_mul, o_ixT, o_ixL, o_ixF, o_eqI, o_neI, o_isN, o_isNotN, o_isB, f_all, f_lenT, f_lenL, f_lenF, f_int, f_tupL, f_tupT, i_tup, i_lst, i_frz, i_rng, i_zipT, i_zipL, s_tup, s_lst, p_some, u_bl, u_int, u_tup, u_lst, wipeD, List.getElem?_cons_zero, List.getElem?_cons_succ, List.set_cons_zero, List.set_cons_succ, List.length_cons, List.length_nil, true_and, and_true, if_and, if_or, Bool.false_eq_true, if_false, if_true, ite_true, ite_false, Bool.not_true, Bool.not_false]
      have hpl : read.length ≤ 100000 := by
        have h1 := congrArg List.length A.pre
        rw [List.length_take, List.length_append] at h1
        have h2 : (preT ((a, read) :: outer)).length = (preT outer).length + ((D.txs read).length + 1) := by
          show (preT outer ++ 40 :: D.txs read).length = _
          rw [List.length_append, List.length_cons]
        have := len_tx read
        omega
      refine ⟨ty_at ha, ap_at ha (by rw [szl]; omega) ?_⟩
      have ndr := F.nd
      rw [List.map_cons, List.nodup_cons, List.nodup_cons] at ndr
      obtain ⟨n1, n2, n3⟩ := ndr
      have ra : r ≠ a := fun e => n1 (by rw [e]; exact List.mem_cons_self)
      have F2 : Frs H0 (updD H a (.lst (read ++ [x]))) r ((a, read ++ [x]) :: outer) := ⟨by rw [updD_ne ra]; exact F.hr, fun y hy => by
        rcases List.mem_cons.mp hy with rfl | hy
        · exact updD_same
        · have hne : y.1 ≠ a := fun e => n2 (by rw [← e]; exact List.mem_map.mpr ⟨y, hy, rfl⟩)
          rw [updD_ne hne]
          exact F.hf y (List.mem_cons_of_mem _ hy), F.nd, F.n0, F.nf, F.le.updR (F.nf a List.mem_cons_self)⟩
      refine N.nx _ (j + 1) _ _ _ F2 ⟨by omega, ?_, ?_, ?_, A.d⟩ (by omega)
      · rw [l3, A.pre]
        show ((preT outer ++ 40 :: D.txs read) ++ x.tx) ++ [44] = (preT outer ++ 40 :: D.txs (read ++ [x])) ++ []
        rw [txs_app]
        show _ = (preT outer ++ 40 :: (D.txs read ++ (x.tx ++ [44]))) ++ []
        simp
      · rw [l2]
        rw [hdr, accA_behind, decide_eq_true (show ((a, read) :: outer : List Fr8).length ≠ 0 by rw [List.length_cons]; omega), decide_eq_true rfl, Bool.true_and, Bool.true_and] at hac
        exact hac
      · refine ⟨fun m hm => ?_, A.ok.2⟩
        rcases List.mem_append.mp hm with hm | hm
        · exact A.ok.1 m hm
        · rw [List.mem_singleton.mp hm]
          exact ⟨hx, by rw [List.length_cons] at hd; exact hd⟩
    · rw [decide_eq_false hc]
      simp only [xT_of, w_notT, w_isiBC, w_ret, w_retF, w_retN, w_sif, w_seq, w_asg, w_drop, w_par, w_aug, w_for, w_next, w_brk, w_cnt, w_sfld, w_raise, w_thru, w_andV, w_orV, w_notV, w_and, w_or, w_not, w_if, w_test, w_tru, w_isiB, w_var, w_int, w_str, w_bl, w_non, w_op, w_chain, w_neg, w_cons, w_nil, w_tup, w_lst, w_newT, w_sl, w_oN, w_oS, w_B, w_call, w_fld, w_lc, w_yes, w_jAny, w_rng1, w_rng2, w_zip, w_gNm, w_gvNm, w_gTup, w_gsN, w_gsC, o_sub, o_mod, o_lt, o_le, o_gt, o_ge, o_add, o_addT, o_addL, o_mul, o_ixT, o_ixL, o_ixF, o_eqI, o_neI, o_isN, o_isNotN, o_isB, f_all, f_lenT, f_lenL, f_lenF, f_int, f_tupL, f_tupT, i_tup, i_lst, i_frz, i_rng, i_zipT, i_zipL, s_tup, s_lst, p_some, u_bl, u_int, u_tup, u_lst, wipeD, List.getElem?_cons_zero, List.getElem?_cons_succ, List.set_cons_zero, List.set_cons_succ, List.length_cons, List.length_nil, true_and, and_true, if_and, if_or, Bool.false_eq_true, if_false, if_true, ite_true, ite_false, Bool.not_true, Bool.not_false]
      refine N.ex j H _ F.le A.le ?_
      rw [← hac]
      cases h : T.drop j with
      | nil => rw [accA_nil, decide_eq_false (by rw [List.length_cons]; omega)]; rfl
      | cons c rest =>
        rw [h] at hc
        rw [accA_behind, decide_eq_false (show ¬ c = 44 from fun e => hc (by rw [e]; rfl)), Bool.false_and, Bool.and_false]
theorem w_vo_turn (N : NxT DD H0 r T i) (hT : TxOk T) (hz : T.length ≤ 100000) (F : Frs H0 H r fs) (A : At8 T i fs false []) :
    (vo_turn K sp_atom_at).w DD [some (.str (S T)), some (.ref r), some (.int (i : Int)), x3, x4] H := by
  have hrr := F.hr
  have hk1 := (hT.sub i 1).1
  have hac := A.ac
  have hpre := A.pre
  rw [List.append_nil] at hpre
  simp only [vo_turn, sl_S, cut1, lit_open, o_eqS, w_notT, w_isiBC, w_ret, w_retF, w_retN, w_sif, w_seq, w_asg, w_drop, w_par, w_aug, w_for, w_next, w_brk, w_cnt, w_sfld, w_raise, w_thru, w_andV, w_orV, w_notV, w_and, w_or, w_not, w_if, w_test, w_tru, w_isiB, w_var, w_int, w_str, w_bl, w_non, w_op, w_chain, w_neg, w_cons, w_nil, w_tup, w_lst, w_newT, w_sl, w_oN, w_oS, w_B, w_call, w_fld, w_lc, w_yes, w_jAny, w_rng1, w_rng2, w_zip, w_gNm, w_gvNm, w_gTup, w_gsN, w_gsC, o_sub, o_mod, o_lt, o_le, o_gt, o_ge, o_add, o_addT, o_addL, o_mul, o_ixT, o_ixL, o_ixF, o_eqI, o_neI, o_isN, o_isNotN, o_isB, f_all, f_lenT, f_lenL, f_lenF, f_int, f_tupL, f_tupT, i_tup, i_lst, i_frz, i_rng, i_zipT, i_zipL, s_tup, s_lst, p_some, u_bl, u_int, u_tup, u_lst, wipeD, List.getElem?_cons_zero, List.getElem?_cons_succ, List.set_cons_zero, List.set_cons_succ, List.length_cons, List.length_nil, true_and, and_true, if_and, if_or, Bool.false_eq_true, if_false, if_true, ite_true, ite_false, Bool.not_true, Bool.not_false]
  refine ⟨hT.sz, hk1, rfl, ?_⟩
  have hlen : ((fs.map fun f => D.ref f.1).reverse).length = fs.length := by rw [List.length_reverse, List.length_map]
  by_cases h40 : (T.drop i).take 1 = [40]
  · rw [decide_eq_true h40]
    obtain ⟨rest, hdr⟩ : ∃ rest, T.drop i = 40 :: rest := by
      cases h : T.drop i with
      | nil => rw [h] at h40; cases h40
      | cons c rest =>
        rw [h] at h40
        have : c = 40 := (List.cons.inj h40).1
        rw [this]
        exact ⟨rest, rfl⟩
    obtain ⟨l1, l2, l3⟩ := lt_of_drop hdr
    simp only [f_lenR hrr, hlen, w_notT, w_isiBC, w_ret, w_retF, w_retN, w_sif, w_seq, w_asg, w_drop, w_par, w_aug, w_for, w_next, w_brk, w_cnt, w_sfld, w_raise, w_thru, w_andV, w_orV, w_notV, w_and, w_or, w_not, w_if, w_test, w_tru, w_isiB, w_var, w_int, w_str, w_bl, w_non, w_op, w_chain, w_neg, w_cons, w_nil, w_tup, w_lst, w_newT, w_sl, w_oN, w_oS, w_B, w_call, w_fld, w_lc, w_yes, w_jAny, w_rng1, w_rng2, w_zip, w_gNm, w_gvNm, w_gTup, w_gsN, w_gsC, o_sub, o_mod, o_lt, o_le, o_gt, o_ge, o_add, o_addT, o_addL, o_mul, o_ixT, o_ixL, o_ixF, o_eqI, o_neI, o_isN, o_isNotN, o_isB, f_all, f_lenT, f_lenL, f_lenF, f_int, f_tupL, f_tupT, i_tup, i_lst, i_frz, i_rng, i_zipT, i_zipL, s_tup, s_lst, p_some, u_bl, u_int, u_tup, u_lst, wipeD, List.getElem?_cons_zero, List.getElem?_cons_succ, List.set_cons_zero, List.set_cons_succ, List.length_cons, List.length_nil, true_and, and_true, if_and, if_or, Bool.false_eq_true, if_false, if_true, ite_true, ite_false, Bool.not_true, Bool.not_false]
    by_cases h60 : fs.length = 60
    · rw [decide_eq_true (show ((fs.length : Nat) : Int) = 60 by omega)]
      simp only [xT_of, w_notT, w_isiBC, w_ret, w_retF, w_retN, w_sif, w_seq, w_asg, w_drop, w_par, w_aug, w_for, w_next, w_brk, w_cnt, w_sfld, w_raise, w_thru, w_andV, w_orV, w_notV, w_and, w_or, w_not, w_if, w_test, w_tru, w_isiB, w_var, w_int, w_str, w_bl, w_non, w_op, w_chain, w_neg, w_cons, w_nil, w_tup, w_lst, w_newT, w_sl, w_oN, w_oS, w_B, w_call, w_fld, w_lc, w_yes, w_jAny, w_rng1, w_rng2, w_zip, w_gNm, w_gvNm, w_gTup, w_gsN, w_gsC, o_sub, o_mod, o_lt, o_le, o_gt, o_ge, o_add, o_addT, o_addL, o_mul, o_ixT, o_ixL, o_ixF, o_eqI, o_neI, o_isN, o_isNotN, o_isB, f_all, f_lenT, f_lenL, f_lenF, f_int, f_tupL, f_tupT, i_tup, i_lst, i_frz, i_rng, i_zipT, i_zipL, s_tup, s_lst, p_some, u_bl, u_int, u_tup, u_lst, wipeD, List.getElem?_cons_zero, List.getElem?_cons_succ, List.set_cons_zero, List.set_cons_succ, List.length_cons, List.length_nil, true_and, and_true, if_and, if_or, Bool.false_eq_true, if_false, if_true, ite_true, ite_false, Bool.not_true, Bool.not_false]
      refine N.ex i H _ F.le A.le ?_
      rw [← hac, hdr, accA_open, decide_eq_false (show ¬ fs.length + 1 ≤ 60 by omega), Bool.false_and]
    · rw [decide_eq_false (show ¬ ((fs.length : Nat) : Int) = 60 by omega)]
      have hd := A.d
      simp only [w_m, w_newF, w_notT, w_isiBC, w_ret, w_retF, w_retN, w_sif, w_seq, w_asg, w_drop, w_par, w_aug, w_for, w_next, w_brk, w_cnt, w_sfld, w_raise, w_thru, w_andV, w_orV, w_notV, w_and, w_or, w_not, w_if, w_test, w_tru, w_isiB, w_var, w_int, w_str, w_bl, w_non, w_op, w_chain, w_neg, w_cons, w_nil, w_tup, w_lst, w_newT, w_sl, w_oN, w_oS, w_B, w_call, w_fld, w_lc, w_yes, w_jAny, w_rng1, w_rng2, w_zip, w_gNm, w_gvNm, w_gTup, w_gsN, w_gsC, o_sub, o_mod, o_lt, o_le, o_gt, o_ge, o_add, o_addT, o_addL, o_mul, o_ixT, o_ixL, o_ixF, o_eqI, o_neI, o_isN, o_isNotN, o_isB, f_all, f_lenT, f_lenL, f_lenF, f_int, f_tupL, f_tupT, i_tup, i_lst, i_frz, i_rng, i_zipT, i_zipL, s_tup, s_lst, p_some, u_bl, u_int, u_tup, u_lst, wipeD, List.getElem?_cons_zero, List.getElem?_cons_succ, List.set_cons_zero, List.set_cons_succ, List.length_cons, List.length_nil, true_and, and_true, if_and, if_or, Bool.false_eq_true, if_false, if_true, ite_true, ite_false, Bool.not_true, Bool.not_false]
      refine ⟨ty_at hrr, by rw [szl]; omega, fun p hpn => ap_at (by rw [updD_ne (ne_of_noneD hrr hpn)]; exact hrr) (by rw [hlen, szl]; omega) ?_⟩
      have pr : r ≠ p := ne_of_noneD hrr hpn
      have F2 : Frs H0 (updD (updD H p (.lst [])) r (.lst ((fs.map fun f => D.ref f.1).reverse ++ [.ref p]))) r ((p, []) :: fs) := ⟨by rw [updD_same, List.map_cons, List.reverse_cons], fun y hy => by
        rcases List.mem_cons.mp hy with rfl | hy
        · rw [updD_ne pr.symm, updD_same]
        · have h3 := F.hf y hy
          have hyr : y.1 ≠ r := fun e => by
            have := F.nd
            rw [List.nodup_cons] at this
            exact this.1 (by rw [← e]; exact List.mem_map.mpr ⟨y, hy, rfl⟩)
          rw [updD_ne hyr, updD_ne (ne_of_noneD h3 hpn)]
          exact h3, by
        have := F.nd
        rw [List.nodup_cons] at this
        rw [List.map_cons, List.nodup_cons, List.nodup_cons]
        refine ⟨fun h => ?_, fun h => ?_, this.2⟩
        · rcases List.mem_cons.mp h with h | h
          · exact pr h
          · exact this.1 h
        · obtain ⟨f, hf, h4⟩ := List.mem_map.mp h
          have h3 := F.hf f hf
          have h4 : f.1 = p := h4
          rw [h4, hpn] at h3
          exact absurd h3.symm (Option.some_ne_none _), F.n0, fun y hy => by
        rcases List.mem_cons.mp hy with rfl | hy
        · exact F.le.none hpn
        · exact F.nf y hy, (F.le.updR (F.le.none hpn)).updR F.n0⟩
      refine N.ct _ (i + 1) _ _ _ F2 ⟨by omega, ?_, ?_, ⟨fun m hm => absurd hm List.not_mem_nil, A.ok⟩, by rw [List.length_cons]; omega⟩ (by omega)
      · rw [l3, hpre]
        show preT fs ++ [40] = (preT fs ++ 40 :: []) ++ []
        rw [List.append_nil]
      · rw [l2]
        rw [hdr, accA_open, decide_eq_true (show fs.length + 1 ≤ 60 by omega), Bool.true_and] at hac
        exact hac
  · rw [decide_eq_false h40]
    simp only [vo_go, lit_close, o_eqS, w_notT, w_isiBC, w_ret, w_retF, w_retN, w_sif, w_seq, w_asg, w_drop, w_par, w_aug, w_for, w_next, w_brk, w_cnt, w_sfld, w_raise, w_thru, w_andV, w_orV, w_notV, w_and, w_or, w_not, w_if, w_test, w_tru, w_isiB, w_var, w_int, w_str, w_bl, w_non, w_op, w_chain, w_neg, w_cons, w_nil, w_tup, w_lst, w_newT, w_sl, w_oN, w_oS, w_B, w_call, w_fld, w_lc, w_yes, w_jAny, w_rng1, w_rng2, w_zip, w_gNm, w_gvNm, w_gTup, w_gsN, w_gsC, o_sub, o_mod, o_lt, o_le, o_gt, o_ge, o_add, o_addT, o_addL, o_mul, o_ixT, o_ixL, o_ixF, o_eqI, o_neI, o_isN, o_isNotN, o_isB, f_all, f_lenT, f_lenL, f_lenF, f_int, f_tupL, f_tupT, i_tup, i_lst, i_frz, i_rng, i_zipT, i_zipL, s_tup, s_lst, p_some, u_bl, u_int, u_tup, u_lst, wipeD, List.getElem?_cons_zero, List.getElem?_cons_succ, List.set_cons_zero, List.set_cons_succ, List.length_cons, List.length_nil, true_and, and_true, if_and, if_or, Bool.false_eq_true, if_false, if_true, ite_true, ite_false, Bool.not_true, Bool.not_false]
    refine ⟨hk1, rfl, ?_⟩
    -- a leaf
    have leaf : (T.drop i).take 1 ≠ [41] ∨ fs = [] → sp_atom_at [.str (S T), .int (i : Int)] H (fun x H1 => optP (seqD H1 x) fun ds => ds.length = 2 ∧ (gsCons (gwName 4) (gsCons (gwName 2) gsNil) : GsW (plainC K)).w ds [some (.str (S T)), some (.ref r), some (.int (i : Int)), some (.str (S ((T.drop i).take 1))), x4] H1 fun σ' H' => (vo_done K sp_atom_at).w DD σ' H')
        (fun c fs H => DD.ex c fs [some (.str (S T)), some (.ref r), some (.int (i : Int)), some (.str (S ((T.drop i).take 1))), x4] H) := fun hne => by
      refine ⟨T, i, rfl, hT, A.le, ?_⟩
      have hac0 : accA (T.drop i) fs.length false = (match leafL (T.drop i) with
          | some (_, k) => accA ((T.drop i).drop k) fs.length true
          | none => false) := by
        cases h : T.drop i with
        | nil => rw [accA_nil]; rfl
        | cons c rest =>
          rw [h] at h40 hne
          by_cases h41 : c = 41
          · rcases hne with hne | hne
            · exact absurd (by rw [h41]; rfl) hne
            · rw [h41, hne, accA_close]; rfl
          · exact accA_leaf (fun e => h40 (by rw [e]; rfl)) h41
      cases hl : leafL (T.drop i) with
      | none =>
        rw [hl] at hac0
        exact fun j hj => N.ex j H _ F.le hj (by rw [← hac, hac0])
      | some p =>
        obtain ⟨v, k⟩ := p
        rw [hl] at hac0
        obtain ⟨k1, k2⟩ := leafL_pos hl
        obtain ⟨v1, v2, v3, v4⟩ := leafL_ok hl
        rw [List.length_drop] at k2
        have A2 : At8 T (i + k) fs true v.tx := ⟨by have := A.le; omega, by rw [List.take_add, hpre, v2], by rw [← List.drop_drop, ← hac, hac0], A.ok, A.d⟩
        simp only [w_notT, w_isiBC, w_ret, w_retF, w_retN, w_sif, w_seq, w_asg, w_drop, w_par, w_aug, w_for, w_next, w_brk, w_cnt, w_sfld, w_raise, w_thru, w_andV, w_orV, w_notV, w_and, w_or, w_not, w_if, w_test, w_tru, w_isiB, w_var, w_int, w_str, w_bl, w_non, w_op, w_chain, w_neg, w_cons, w_nil, w_tup, w_lst, w_newT, w_sl, w_oN, w_oS, w_B, w_call, w_fld, w_lc, w_yes, w_jAny, w_rng1, w_rng2, w_zip, w_gNm, w_gvNm, w_gTup, w_gsN, w_gsC, o_sub, o_mod, o_lt, o_le, o_gt, o_ge, o_add, o_addT, o_addL, o_mul, o_ixT, o_ixL, o_ixF, o_eqI, o_neI, o_isN, o_isNotN, o_isB, f_all, f_lenT, f_lenL, f_lenF, f_int, f_tupL, f_tupT, i_tup, i_lst, i_frz, i_rng, i_zipT, i_zipL, s_tup, s_lst, p_some, u_bl, u_int, u_tup, u_lst, wipeD, List.getElem?_cons_zero, List.getElem?_cons_succ, List.set_cons_zero, List.set_cons_succ, List.length_cons, List.length_nil, true_and, and_true, if_and, if_or, Bool.false_eq_true, if_false, if_true, ite_true, ite_false, Bool.not_true, Bool.not_false]
        exact w_vo_done N hT hz F A2 v1 (by rw [v3]; have := A.d; omega) (by omega)
    by_cases h41 : (T.drop i).take 1 = [41]
    · rw [decide_eq_true h41]
      simp only [u_ref hrr, w_notT, w_isiBC, w_ret, w_retF, w_retN, w_sif, w_seq, w_asg, w_drop, w_par, w_aug, w_for, w_next, w_brk, w_cnt, w_sfld, w_raise, w_thru, w_andV, w_orV, w_notV, w_and, w_or, w_not, w_if, w_test, w_tru, w_isiB, w_var, w_int, w_str, w_bl, w_non, w_op, w_chain, w_neg, w_cons, w_nil, w_tup, w_lst, w_newT, w_sl, w_oN, w_oS, w_B, w_call, w_fld, w_lc, w_yes, w_jAny, w_rng1, w_rng2, w_zip, w_gNm, w_gvNm, w_gTup, w_gsN, w_gsC, o_sub, o_mod, o_lt, o_le, o_gt, o_ge, o_add, o_addT, o_addL, o_mul, o_ixT, o_ixL, o_ixF, o_eqI, o_neI, o_isN, o_isNotN, o_isB, f_all, f_lenT, f_lenL, f_lenF, f_int, f_tupL, f_tupT, i_tup, i_lst, i_frz, i_rng, i_zipT, i_zipL, s_tup, s_lst, p_some, u_bl, u_int, u_tup, u_lst, wipeD, List.getElem?_cons_zero, List.getElem?_cons_succ, List.set_cons_zero, List.set_cons_succ, List.length_cons, List.length_nil, true_and, and_true, if_and, if_or, Bool.false_eq_true, if_false, if_true, ite_true, ite_false, Bool.not_true, Bool.not_false]
      cases fs with
      | nil =>
        simp only [List.map_nil, List.reverse_nil, show (([] : List D)).isEmpty = true from rfl, w_notT, w_isiBC, w_ret, w_retF, w_retN, w_sif, w_seq, w_asg, w_drop, w_par, w_aug, w_for, w_next, w_brk, w_cnt, w_sfld, w_raise, w_thru, w_andV, w_orV, w_notV, w_and, w_or, w_not, w_if, w_test, w_tru, w_isiB, w_var, w_int, w_str, w_bl, w_non, w_op, w_chain, w_neg, w_cons, w_nil, w_tup, w_lst, w_newT, w_sl, w_oN, w_oS, w_B, w_call, w_fld, w_lc, w_yes, w_jAny, w_rng1, w_rng2, w_zip, w_gNm, w_gvNm, w_gTup, w_gsN, w_gsC, o_sub, o_mod, o_lt, o_le, o_gt, o_ge, o_add, o_addT, o_addL, o_mul, o_ixT, o_ixL, o_ixF, o_eqI, o_neI, o_isN, o_isNotN, o_isB, f_all, f_lenT, f_lenL, f_lenF, f_int, f_tupL, f_tupT, i_tup, i_lst, i_frz, i_rng, i_zipT, i_zipL, s_tup, s_lst, p_some, u_bl, u_int, u_tup, u_lst, wipeD, List.getElem?_cons_zero, List.getElem?_cons_succ, List.set_cons_zero, List.set_cons_succ, List.length_cons, List.length_nil, true_and, and_true, if_and, if_or, Bool.false_eq_true, if_false, if_true, ite_true, ite_false, Bool.not_true, Bool.not_false]
        exact leaf (.inr rfl)
      | cons f outer =>
        obtain ⟨a, read⟩ := f
        obtain ⟨rest, hdr⟩ : ∃ rest, T.drop i = 41 :: rest := by
          cases h : T.drop i with
          | nil => rw [h] at h41; cases h41
          | cons c rest =>
            rw [h] at h41
            have : c = 41 := (List.cons.inj h41).1
            rw [this]
            exact ⟨rest, rfl⟩
        obtain ⟨l1, l2, l3⟩ := lt_of_drop hdr
        have ne : ((((a, read) :: outer : List Fr8).map fun f => D.ref f.1).reverse).isEmpty = false := by
          rw [List.map_cons, List.reverse_cons]
          cases ((outer.map fun f => D.ref f.1).reverse) <;> rfl
        rw [List.map_cons, List.reverse_cons] at hrr
        simp only [ne, w_m0, w_notT, w_isiBC, w_ret, w_retF, w_retN, w_sif, w_seq, w_asg, w_drop, w_par, w_aug, w_for, w_next, w_brk, w_cnt, w_sfld, w_raise, w_thru, w_andV, w_orV, w_notV, w_and, w_or, w_not, w_if, w_test, w_tru, w_isiB, w_var, w_int, w_str, w_bl, w_non, w_op, w_chain, w_neg, w_cons, w_nil, w_tup, w_lst, w_newT, w_sl, w_oN, w_oS, w_B, w_call, w_fld, w_lc, w_yes, w_jAny, w_rng1, w_rng2, w_zip, w_gNm, w_gvNm, w_gTup, w_gsN, w_gsC, o_sub, o_mod, o_lt, o_le, o_gt, o_ge, o_add, o_addT, o_addL, o_mul, o_ixT, o_ixL, o_ixF, o_eqI, o_neI, o_isN, o_isNotN, o_isB, f_all, f_lenT, f_lenL, f_lenF, f_int, f_tupL, f_tupT, i_tup, i_lst, i_frz, i_rng, i_zipT, i_zipL, s_tup, s_lst, p_some, u_bl, u_int, u_tup, u_lst, wipeD, List.getElem?_cons_zero, List.getElem?_cons_succ, List.set_cons_zero, List.set_cons_succ, List.length_cons, List.length_nil, true_and, and_true, if_and, if_or, Bool.false_eq_true, if_false, if_true, ite_true, ite_false, Bool.not_true, Bool.not_false]
        have ha : H a = some (.lst read) := F.hf (a, read) List.mem_cons_self
        have ndr := F.nd
        rw [List.map_cons, List.nodup_cons, List.nodup_cons] at ndr
        obtain ⟨n1, n2, n3⟩ := ndr
        have ra : r ≠ a := fun e => n1 (by rw [e]; exact List.mem_cons_self)
        refine ⟨ty_atP hrr, pop_last hrr ?_⟩
        generalize hH2 : updD H r (.lst ((outer.map fun f => D.ref f.1).reverse)) = H2
        have a2 : H2 a = some (.lst read) := by rw [← hH2, updD_ne ra.symm]; exact ha
        have F2 : Frs H0 H2 r outer := by
          rw [← hH2]
          exact ⟨updD_same, fun y hy => by
            have h3 := F.hf y (List.mem_cons_of_mem _ hy)
            have hyr : y.1 ≠ r := fun e => n1 (List.mem_cons_of_mem _ (by rw [← e]; exact List.mem_map.mpr ⟨y, hy, rfl⟩))
            rw [updD_ne hyr]
            exact h3, List.nodup_cons.mpr ⟨fun h => n1 (List.mem_cons_of_mem _ h), n3⟩, F.n0, fun y hy => F.nf y (List.mem_cons_of_mem _ hy), F.le.updR F.n0⟩
        simp only [f_tupR a2, w_notT, w_isiBC, w_ret, w_retF, w_retN, w_sif, w_seq, w_asg, w_drop, w_par, w_aug, w_for, w_next, w_brk, w_cnt, w_sfld, w_raise, w_thru, w_andV, w_orV, w_notV, w_and, w_or, w_not, w_if, w_test, w_tru, w_isiB, w_var, w_int, w_str, w_bl, w_non, w_op, w_chain, w_neg, w_cons, w_nil, w_tup, w_lst, w_newT, w_sl, w_oN, w_oS, w_B, w_call, w_fld, w_lc, w_yes, w_jAny, w_rng1, w_rng2, w_zip, w_gNm, w_gvNm, w_gTup, w_gsN, w_gsC, o_sub, o_mod, o_lt, o_le, o_gt, o_ge, o_add, o_addT, o_addL, o_mul, o_ixT, o_ixL, o_ixF, o_eqI, o_neI, o_isN, o_isNotN, o_isB, f_all, f_lenT, f_lenL, f_lenF, f_int, f_tupL, f_tupT, i_tup, i_lst, i_frz, i_rng, i_zipT, i_zipL, s_tup, s_lst, p_some, u_bl, u_int, u_tup, u_lst, wipeD, List.getElem?_cons_zero, List.getElem?_cons_succ, List.set_cons_zero, List.set_cons_succ, List.length_cons, List.length_nil, true_and, and_true, if_and, if_or, Bool.false_eq_true, if_false, if_true, ite_true, ite_false, Bool.not_true, Bool.not_false]
        have hd := A.d
        rw [List.length_cons] at hd
        refine w_vo_done (x := .tup read) (j := i + 1) N hT hz F2 ⟨by omega, ?_, ?_, A.ok.2, by omega⟩ (tvs_of fun m hm => (A.ok.1 m hm).1) ?_ (by omega)
        · rw [l3, hpre]
          show (preT outer ++ 40 :: D.txs read) ++ [41] = preT outer ++ (40 :: (D.txs read ++ [41]))
          rw [List.append_assoc, List.cons_append]
        · rw [l2]
          rw [hdr, accA_close, decide_eq_true (show ((a, read) :: outer : List Fr8).length ≠ 0 by rw [List.length_cons]; omega), Bool.true_and, List.length_cons, Nat.add_sub_cancel] at hac
          exact hac
        · have h2 : (D.tup read).dp ≤ (60 - (outer.length + 1)) + 1 := dp_le fun m hm => by
            have := (A.ok.1 m hm).2
            omega
          omega
    · rw [decide_eq_false h41]
      simp only [w_notT, w_isiBC, w_ret, w_retF, w_retN, w_sif, w_seq, w_asg, w_drop, w_par, w_aug, w_for, w_next, w_brk, w_cnt, w_sfld, w_raise, w_thru, w_andV, w_orV, w_notV, w_and, w_or, w_not, w_if, w_test, w_tru, w_isiB, w_var, w_int, w_str, w_bl, w_non, w_op, w_chain, w_neg, w_cons, w_nil, w_tup, w_lst, w_newT, w_sl, w_oN, w_oS, w_B, w_call, w_fld, w_lc, w_yes, w_jAny, w_rng1, w_rng2, w_zip, w_gNm, w_gvNm, w_gTup, w_gsN, w_gsC, o_sub, o_mod, o_lt, o_le, o_gt, o_ge, o_add, o_addT, o_addL, o_mul, o_ixT, o_ixL, o_ixF, o_eqI, o_neI, o_isN, o_isNotN, o_isB, f_all, f_lenT, f_lenL, f_lenF, f_int, f_tupL, f_tupT, i_tup, i_lst, i_frz, i_rng, i_zipT, i_zipL, s_tup, s_lst, p_some, u_bl, u_int, u_tup, u_lst, wipeD, List.getElem?_cons_zero, List.getElem?_cons_succ, List.set_cons_zero, List.set_cons_succ, List.length_cons, List.length_nil, true_and, and_true, if_and, if_or, Bool.false_eq_true, if_false, if_true, ite_true, ite_false, Bool.not_true, Bool.not_false]
      have := leaf (.inl h41)
      exact this
end
def sp_value_of : DSp := fun ds H Q E => ∃ T : List Nat, ds = [.str (S T)] ∧ okl T = true ∧ T.length ≤ 100000 ∧ (∀ v : D, Tell v → v.tx = T → accA T 0 false = true → Q v H) ∧ ∀ i, i ≤ T.length → accA T 0 false = false → E "InvalidText" (xT T i) H
theorem w_value_of : ∀ ds H Q E, ds.length = 1 → sp_value_of ds H Q E → (b_value_of K sp_atom_at).w (endsD Q E) (startD ["text", "rows", "at", "sign", "value"] ds) H := by
  rintro _ H Q E - ⟨T, rfl, hk, hz, q, x⟩
  have hT : TxOk T := ⟨hk, by omega⟩
  simp only [value_of_split, show startD ["text", "rows", "at", "sign", "value"] [.str (S T)] = [some (.str (S T)), none, none, none, none] from rfl, w_newF, w_notT, w_isiBC, w_ret, w_retF, w_retN, w_sif, w_seq, w_asg, w_drop, w_par, w_aug, w_for, w_next, w_brk, w_cnt, w_sfld, w_raise, w_thru, w_andV, w_orV, w_notV, w_and, w_or, w_not, w_if, w_test, w_tru, w_isiB, w_var, w_int, w_str, w_bl, w_non, w_op, w_chain, w_neg, w_cons, w_nil, w_tup, w_lst, w_newT, w_sl, w_oN, w_oS, w_B, w_call, w_fld, w_lc, w_yes, w_jAny, w_rng1, w_rng2, w_zip, w_gNm, w_gvNm, w_gTup, w_gsN, w_gsC, o_sub, o_mod, o_lt, o_le, o_gt, o_ge, o_add, o_addT, o_addL, o_mul, o_ixT, o_ixL, o_ixF, o_eqI, o_neI, o_isN, o_isNotN, o_isB, f_all, f_lenT, f_lenL, f_lenF, f_int, f_tupL, f_tupT, i_tup, i_lst, i_frz, i_rng, i_zipT, i_zipL, s_tup, s_lst, p_some, u_bl, u_int, u_tup, u_lst, wipeD, List.getElem?_cons_zero, List.getElem?_cons_succ, List.set_cons_zero, List.set_cons_succ, List.length_cons, List.length_nil, true_and, and_true, if_and, if_or, Bool.false_eq_true, if_false, if_true, ite_true, ite_false, Bool.not_true, Bool.not_false]
  refine ⟨by rw [szl]; omega, fun r hr => ?_⟩
  have F0 : Frs H (updD H r (.lst [])) r [] := ⟨updD_same, fun _ h => absurd h List.not_mem_nil, List.nodup_cons.mpr ⟨List.not_mem_nil, List.nodup_nil⟩, hr, fun _ h => absurd h List.not_mem_nil, leD.rfl.updR hr⟩
  simp only [vo_loop, w_while, w_notT, w_isiBC, w_ret, w_retF, w_retN, w_sif, w_seq, w_asg, w_drop, w_par, w_aug, w_for, w_next, w_brk, w_cnt, w_sfld, w_raise, w_thru, w_andV, w_orV, w_notV, w_and, w_or, w_not, w_if, w_test, w_tru, w_isiB, w_var, w_int, w_str, w_bl, w_non, w_op, w_chain, w_neg, w_cons, w_nil, w_tup, w_lst, w_newT, w_sl, w_oN, w_oS, w_B, w_call, w_fld, w_lc, w_yes, w_jAny, w_rng1, w_rng2, w_zip, w_gNm, w_gvNm, w_gTup, w_gsN, w_gsC, o_sub, o_mod, o_lt, o_le, o_gt, o_ge, o_add, o_addT, o_addL, o_mul, o_ixT, o_ixL, o_ixF, o_eqI, o_neI, o_isN, o_isNotN, o_isB, f_all, f_lenT, f_lenL, f_lenF, f_int, f_tupL, f_tupT, i_tup, i_lst, i_frz, i_rng, i_zipT, i_zipL, s_tup, s_lst, p_some, u_bl, u_int, u_tup, u_lst, wipeD, List.getElem?_cons_zero, List.getElem?_cons_succ, List.set_cons_zero, List.set_cons_succ, List.length_cons, List.length_nil, true_and, and_true, if_and, if_or, Bool.false_eq_true, if_false, if_true, ite_true, ite_false, Bool.not_true, Bool.not_false]
  refine ⟨fun m σ H' => ∃ fs i x3 x4, σ = [some (.str (S T)), some (.ref r), some (.int ((i : Nat) : Int)), x3, x4] ∧ Frs H H' r fs ∧ At8 T i fs false [] ∧ m = T.length - i, ⟨_, [], 0, none, none, rfl, F0, ⟨Nat.zero_le _, rfl, rfl, trivial, Nat.zero_le _⟩, rfl⟩, ?_⟩
  rintro m _ H' ⟨fs, i, x3, x4, rfl, F, A, rfl⟩
  simp only [w_notT, w_isiBC, w_ret, w_retF, w_retN, w_sif, w_seq, w_asg, w_drop, w_par, w_aug, w_for, w_next, w_brk, w_cnt, w_sfld, w_raise, w_thru, w_andV, w_orV, w_notV, w_and, w_or, w_not, w_if, w_test, w_tru, w_isiB, w_var, w_int, w_str, w_bl, w_non, w_op, w_chain, w_neg, w_cons, w_nil, w_tup, w_lst, w_newT, w_sl, w_oN, w_oS, w_B, w_call, w_fld, w_lc, w_yes, w_jAny, w_rng1, w_rng2, w_zip, w_gNm, w_gvNm, w_gTup, w_gsN, w_gsC, o_sub, o_mod, o_lt, o_le, o_gt, o_ge, o_add, o_addT, o_addL, o_mul, o_ixT, o_ixL, o_ixF, o_eqI, o_neI, o_isN, o_isNotN, o_isB, f_all, f_lenT, f_lenL, f_lenF, f_int, f_tupL, f_tupT, i_tup, i_lst, i_frz, i_rng, i_zipT, i_zipL, s_tup, s_lst, p_some, u_bl, u_int, u_tup, u_lst, wipeD, List.getElem?_cons_zero, List.getElem?_cons_succ, List.set_cons_zero, List.set_cons_succ, List.length_cons, List.length_nil, true_and, and_true, if_and, if_or, Bool.false_eq_true, if_false, if_true, ite_true, ite_false, Bool.not_true, Bool.not_false]
  refine w_vo_turn (K := K) ⟨fun fs' j H2 y3 y4 F2 A2 h1 => ⟨_, by have := A2.le; omega, fs', j, y3, y4, rfl, F2, A2, rfl⟩, fun fs' j H2 y3 y4 F2 A2 h1 => ⟨_, by have := A2.le; omega, fs', j, y3, y4, rfl, F2, A2, rfl⟩, fun v j H2 y3 le v1 v2 A2 => ?_, fun j H2 σ le hj hf => endsD_exl (Q := Q) (σ := σ) (x j hj hf) le⟩ hT hz F A
  simp only [f_lenS, o_neI, w_notT, w_isiBC, w_ret, w_retF, w_retN, w_sif, w_seq, w_asg, w_drop, w_par, w_aug, w_for, w_next, w_brk, w_cnt, w_sfld, w_raise, w_thru, w_andV, w_orV, w_notV, w_and, w_or, w_not, w_if, w_test, w_tru, w_isiB, w_var, w_int, w_str, w_bl, w_non, w_op, w_chain, w_neg, w_cons, w_nil, w_tup, w_lst, w_newT, w_sl, w_oN, w_oS, w_B, w_call, w_fld, w_lc, w_yes, w_jAny, w_rng1, w_rng2, w_zip, w_gNm, w_gvNm, w_gTup, w_gsN, w_gsC, o_sub, o_mod, o_lt, o_le, o_gt, o_ge, o_add, o_addT, o_addL, o_mul, o_ixT, o_ixL, o_ixF, o_eqI, o_neI, o_isN, o_isNotN, o_isB, f_all, f_lenT, f_lenL, f_lenF, f_int, f_tupL, f_tupT, i_tup, i_lst, i_frz, i_rng, i_zipT, i_zipL, s_tup, s_lst, p_some, u_bl, u_int, u_tup, u_lst, wipeD, List.getElem?_cons_zero, List.getElem?_cons_succ, List.set_cons_zero, List.set_cons_succ, List.length_cons, List.length_nil, true_and, and_true, if_and, if_or, Bool.false_eq_true, if_false, if_true, ite_true, ite_false, Bool.not_true, Bool.not_false]
  refine ⟨hT.sz, ?_⟩
  have hac := A2.ac
  by_cases hj : j = T.length
  · rw [decide_eq_true (show ((j : Nat) : Int) = (T.length : Nat) by omega)]
    simp only [w_notT, w_isiBC, w_ret, w_retF, w_retN, w_sif, w_seq, w_asg, w_drop, w_par, w_aug, w_for, w_next, w_brk, w_cnt, w_sfld, w_raise, w_thru, w_andV, w_orV, w_notV, w_and, w_or, w_not, w_if, w_test, w_tru, w_isiB, w_var, w_int, w_str, w_bl, w_non, w_op, w_chain, w_neg, w_cons, w_nil, w_tup, w_lst, w_newT, w_sl, w_oN, w_oS, w_B, w_call, w_fld, w_lc, w_yes, w_jAny, w_rng1, w_rng2, w_zip, w_gNm, w_gvNm, w_gTup, w_gsN, w_gsC, o_sub, o_mod, o_lt, o_le, o_gt, o_ge, o_add, o_addT, o_addL, o_mul, o_ixT, o_ixL, o_ixF, o_eqI, o_neI, o_isN, o_isNotN, o_isB, f_all, f_lenT, f_lenL, f_lenF, f_int, f_tupL, f_tupT, i_tup, i_lst, i_frz, i_rng, i_zipT, i_zipL, s_tup, s_lst, p_some, u_bl, u_int, u_tup, u_lst, wipeD, List.getElem?_cons_zero, List.getElem?_cons_succ, List.set_cons_zero, List.set_cons_succ, List.length_cons, List.length_nil, true_and, and_true, if_and, if_or, Bool.false_eq_true, if_false, if_true, ite_true, ite_false, Bool.not_true, Bool.not_false]
    have e : v.tx = T := by
      have := A2.pre
      rw [hj, List.take_length] at this
      exact this.symm
    rw [hj, List.drop_length, accA_nil] at hac
    exact endsD_le (q v ⟨v1, v2, by rw [e]; exact hz⟩ e hac.symm) le
  · rw [decide_eq_false (show ¬ ((j : Nat) : Int) = (T.length : Nat) by omega)]
    simp only [xT_of, w_notT, w_isiBC, w_ret, w_retF, w_retN, w_sif, w_seq, w_asg, w_drop, w_par, w_aug, w_for, w_next, w_brk, w_cnt, w_sfld, w_raise, w_thru, w_andV, w_orV, w_notV, w_and, w_or, w_not, w_if, w_test, w_tru, w_isiB, w_var, w_int, w_str, w_bl, w_non, w_op, w_chain, w_neg, w_cons, w_nil, w_tup, w_lst, w_newT, w_sl, w_oN, w_oS, w_B, w_call, w_fld, w_lc, w_yes, w_jAny, w_rng1, w_rng2, w_zip, w_gNm, w_gvNm, w_gTup, w_gsN, w_gsC, o_sub, o_mod, o_lt, o_le, o_gt, o_ge, o_add, o_addT, o_addL, o_mul, o_ixT, o_ixL, o_ixF, o_eqI, o_neI, o_isN, o_isNotN, o_isB, f_all, f_lenT, f_lenL, f_lenF, f_int, f_tupL, f_tupT, i_tup, i_lst, i_frz, i_rng, i_zipT, i_zipL, s_tup, s_lst, p_some, u_bl, u_int, u_tup, u_lst, wipeD, List.getElem?_cons_zero, List.getElem?_cons_succ, List.set_cons_zero, List.set_cons_succ, List.length_cons, List.length_nil, true_and, and_true, if_and, if_or, Bool.false_eq_true, if_false, if_true, ite_true, ite_false, Bool.not_true, Bool.not_false]
    refine endsD_exl (x j A2.le ?_) le
    rw [← hac]
    cases h : T.drop j with
    | nil =>
      have := congrArg List.length h
      rw [List.length_drop, List.length_nil] at this
      have := A2.le
      omega
    | cons c rest => rw [accA_behind]; rfl
end
end G
set_option Elab.async false
set_option linter.all false
set_option maxRecDepth 100000
namespace G
open PySem PySem.Spec PyProof.Rows L2
section
/-! ### find, lstrip -/
theorem subAt_one {T : List Nat} {c i : Nat} : Builtin.Str.subAt (S T) (S [c]) i = true ↔ T[i]? = some c := by
  rw [StrLaws.subAt_eq]
  show (((S T).cps.toList.drop i).take 1 == [c]) = true ↔ _
  rw [show (S T).cps.toList = T from List.toList_toArray, beq_iff_eq]
  rw [show T[i]? = (T.drop i)[0]? by rw [List.getElem?_drop, Nat.add_zero]]
  cases T.drop i with
  | nil => simp
  | cons d r => simp
theorem find3_S {T : List Nat} {c a : Nat} (ha : a ≤ T.length) : Txt.find3 (S T) (S [c]) (a : Int) = if c ∈ T.drop a then (((a + ((T.drop a).takeWhile (· != c)).length : Nat)) : Int) else -1 := by
  have hf : PySem.fromIndex (S T).length (a : Int) = a := by
    unfold PySem.fromIndex
    rw [if_neg (by omega)]
    omega
  have hat : ∀ i, StrLaws.At (S T) (S [c]) (S T).length i ↔ T[i]? = some c := fun i => by
    unfold StrLaws.At
    rw [subAt_one, S_len T]
    refine ⟨fun h => h.2, fun h => ⟨?_, h⟩⟩
    have := (List.getElem?_eq_some_iff.mp h).1
    show i + 1 ≤ _
    omega
  unfold Txt.find3
  rw [hf]
  rcases StrLaws.occ_head_from (S T) (S [c]) a 1 (Nat.le_refl 1) with ⟨e, hn⟩ | ⟨i, r, e, hi, hAt, hn⟩
  · rw [e]
    rw [if_neg fun hm => ?_]
    obtain ⟨k, hk, hk2⟩ := List.mem_iff_getElem.mp hm
    refine hn (a + k) (by omega) ((hat _).mpr ?_)
    rw [← List.getElem?_drop, List.getElem?_eq_getElem hk, hk2]
  · rw [e]
    have h1 := (hat i).mp hAt
    have h2 : (T.drop a)[i - a]? = some c := by
      rw [List.getElem?_drop, show a + (i - a) = i by omega]
      exact h1
    have h3 : ∀ k, k < i - a → (T.drop a)[k]? ≠ some c := fun k hk hc => by
      rw [List.getElem?_drop] at hc
      exact hn (a + k) (by omega) (by omega) ((hat _).mpr hc)
    rw [if_pos (List.mem_of_getElem? h2)]
    have key : ∀ (l : List Nat) (n : Nat), l[n]? = some c → (∀ k, k < n → l[k]? ≠ some c) → (l.takeWhile (· != c)).length = n := by
      intro l
      induction l with
      | nil => intro n h _; cases h
      | cons d l ih =>
        intro n h hk
        cases n with
        | zero =>
          have : d = c := Option.some.inj h
          rw [List.takeWhile_cons, this]
          simp
        | succ n =>
          have hd : d ≠ c := fun e => hk 0 (by omega) (by rw [e]; rfl)
          rw [List.takeWhile_cons, if_pos (by simpa using hd), List.length_cons, ih n h fun k hk2 => hk (k + 1) (by omega)]
    rw [key _ _ h2 h3]
    show ((i : Nat) : Int) = _
    congr 1
    omega
theorem lstrip_S {T : List Nat} : Txt.lstripChars (S T) (S [48, 49, 50, 51, 52, 53, 54, 55, 56, 57]) = S (T.drop (T.takeWhile isD).length) := by
  have hg : ((S [48, 49, 50, 51, 52, 53, 54, 55, 56, 57]).cps.contains : Nat → Bool) = isD := by
    funext c
    rw [← isD_mem c]
    show ([48, 49, 50, 51, 52, 53, 54, 55, 56, 57] : List Nat).toArray.contains c = _
    simp only [List.contains_toArray, List.contains_eq_mem]
  have hl : PySem.stripLo isD true (S T) = (T.takeWhile isD).length := by
    unfold PySem.stripLo
    rw [if_pos rfl]
  have hh : ∀ n, PySem.stripHi isD false (S T) n = T.length := fun n => by
    unfold PySem.stripHi
    rw [if_neg Bool.false_ne_true, S_len T]
  unfold Txt.lstripChars Txt.stripBy
  rw [hg]
  split
  · rename_i h
    unfold PySem.stripSame at h
    rw [Bool.and_eq_true, beq_iff_eq, hl] at h
    rw [h.1, List.drop_zero]
  · unfold PySem.stripped
    rw [hl, hh, strSub_mk]
    rw [show (S T).cps.toList = T from List.toList_toArray]
    show S _ = S _
    rw [S_inj]
    exact List.take_of_length_le (Nat.le_of_eq List.length_drop)
end
end G
set_option Elab.async false
set_option linter.all false
set_option maxRecDepth 100000
namespace G
open PySem PySem.Spec PyProof.Rows L2
section
variable {K : PySem.W.Frag}
theorem f_find3 {C : TC} {H : DH} {Q : DQ} {T : List Nat} {c a : Nat} (ha : a ≤ T.length) : (mFind3 : Mt C).w (.str (S T)) [.str (S [c]), .int (a : Int)] H Q = Q (.int (if c ∈ T.drop a then (((a + ((T.drop a).takeWhile (· != c)).length : Nat)) : Int) else -1)) H := by
  rw [← find3_S ha]; rfl
theorem f_lstrip {C : TC} {H : DH} {Q : DQ} {T : List Nat} : (mLstrip : Mt C).w (.str (S T)) [.str (S [48, 49, 50, 51, 52, 53, 54, 55, 56, 57])] H Q = (T.length ≤ sizeLine ∧ Q (.str (S (T.drop (T.takeWhile isD).length))) H) := by
  rw [← lstrip_S, ← S_len T]; rfl
theorem ty_find {C : TC} {H : DH} {x : PySem.Str} : (mFind3 : Mt C).ty (.str x) H := ⟨x, rfl⟩
theorem ty_lstrip {C : TC} {H : DH} {x : PySem.Str} : (mLstrip : Mt C).ty (.str x) H := ⟨x, rfl⟩
theorem cutF {T : List Nat} {a : Nat} : cutS (S T) (some (a : Int)) none = S (T.drop a) := by
  unfold cutS
  rw [HT.sIx_nat, S_len T]
  show S _ = S _
  rw [S_inj]
  show (T.toArray.toList.drop _).take (T.length - _) = _
  rw [List.toList_toArray]
  by_cases h : a ≤ T.length
  · rw [Nat.min_eq_left h]
    exact List.take_of_length_le (Nat.le_of_eq List.length_drop)
  · rw [Nat.min_eq_right (by omega), List.drop_of_length_le (Nat.le_refl _), List.drop_of_length_le (by omega), List.take_nil]
theorem o_ninL {C : TC} {H : DH} {Q : DQ} {c : Nat} {z : List Nat} : (opNotInS : Op2 C).w (.str (S [c])) (.str (S z)) H Q = Q (.bl (!decide (c ∈ z))) H := by
  show (∃ c' : Nat, S [c] = ⟨#[c']⟩ ∧ Q (.bl (!decide (c' ∈ (S z).cps.toList))) H) = _
  rw [show (S z).cps.toList = z from List.toList_toArray]
  refine propext ⟨fun ⟨c', e, q⟩ => ?_, fun q => ⟨c, rfl, q⟩⟩
  have : c = c' := (List.cons.inj (S_inj.mp (show S [c] = S [c'] from e))).1
  rw [this]; exact q
/-- how many signs are no letters -/
def others (l : List Nat) : List Nat := l.filter fun c => !isL c
theorem others_nil {l : List Nat} : others l = [] ↔ l.all isL = true := by
  unfold others
  rw [List.filter_eq_nil_iff, List.all_eq_true]
  exact ⟨fun h c hc => by simpa using h c hc, fun h c hc => by simpa using h c hc⟩
def sp_law_reads : DSp := fun ds H Q _ => ∃ T : List Nat, ds = [.str (S T)] ∧ okl T = true ∧ T.length ≤ 100000 ∧ Q (.bl (accA T 0 false)) H
def lr_fig (K : PySem.W.Frag)  : SW (plainC K) := (sIf (bTest (bOp opInS (bVar 5) (bStr "0123456789"))) (sSeq (sAsg (bOp (opSub) (bOp (opAdd true) (bVar 2) (bB fLen (aCons (bSl true (bVar 0) (oSome (bVar 2)) oNone) aNil))) (bB fLen (aCons (bM mLstrip (bSl true (bVar 0) (oSome (bVar 2)) oNone) (aCons (bStr "0123456789") aNil)) aNil))) (gwName 6)) (sIf (bOr (bTest (bOp opGt (bOp (opSub) (bVar 6) (bVar 2)) (bInt 40))) (bAnd (bTest (bOp opGt (bOp (opSub) (bVar 6) (bVar 2)) (bInt 1))) (bTest (bOp opEq (bVar 5) (bStr "0"))))) (sRet (bBl false)) sNext)) (sIf (bTest (bOp opNe (bVar 5) (bStr "-"))) (sRet (bBl false)) sNext))
def lr_word (K : PySem.W.Frag)  : SW (plainC K) := (sSeq (sAsg (bSl true (bVar 0) (oSome (bOp (opAdd true) (bVar 2) (bInt 1))) (oSome (bB fMax (aCons (bOp (opSub) (bVar 6) (bInt 1)) (aCons (bOp (opAdd true) (bVar 2) (bInt 1)) aNil))))) (gwName 7)) (sIf (bOr (bTest (bOp opEq (bVar 6) (bInt 0))) (bTest (bOp opGt (bB fLen (aCons (bLc true [8] (jStr (bVar 7)) (gvName 8) (bTest (bOp opNotInS (bVar 8) (bStr "abcdefghijklmnopqrstuvwxyz"))) (bVar 8)) aNil)) (bInt 0)))) (sRet (bBl false)) sNext))
def lr_quote (K : PySem.W.Frag)  : SW (plainC K) := (sIf (bTest (bOp opEq (bVar 5) (bStr "\""))) (sSeq (sAsg (bOp (opAdd true) (bM mFind3 (bVar 0) (aCons (bStr "\"") (aCons (bOp (opAdd true) (bVar 2) (bInt 1)) aNil))) (bInt 1)) (gwName 6)) (lr_word K )) (lr_fig K ))
def lr_close (K : PySem.W.Frag)  : SW (plainC K) := (sIf (bTest (bOp opEq (bVar 5) (bStr ")"))) (sSeq (sAsg (bOp (opSub) (bVar 1) (bInt 1)) (gwName 1)) (sIf (bTest (bOp opLt (bVar 1) (bInt 0))) (sRet (bBl false)) sNext)) (lr_quote K ))
def lr_head (K : PySem.W.Frag)  : SW (plainC K) := (sSeq (sIf (bTru (bVar 3)) (sSeq (sIf (bOr (bTest (bOp opEq (bVar 1) (bInt 0))) (bTest (bOp opNe (bVar 5) (bStr ",")))) (sRet (bBl false)) sNext) (sAsg (bBl false) (gwName 3))) (sIf (bTest (bOp opEq (bVar 5) (bStr "("))) (sSeq (sAsg (bOp (opAdd true) (bVar 1) (bInt 1)) (gwName 1)) (sIf (bTest (bOp opGt (bVar 1) (bInt 60))) (sRet (bBl false)) sNext)) (sSeq (sAsg (bBl true) (gwName 3)) (lr_close K )))) (sAsg (bVar 6) (gwName 2)))
def lr_turn (K : PySem.W.Frag)  : SW (plainC K) := (sSeq (sIf (bTest (bOp opEq (bVar 2) (bB fLen (aCons (bVar 0) aNil)))) sBrk sNext) (sSeq (sAsg (bOp opIx (bVar 0) (bVar 2)) (gwName 5)) (sSeq (sAsg (bOp (opAdd true) (bVar 2) (bInt 1)) (gwName 6)) (lr_head K ))))
theorem _law_reads_split {K : PySem.W.Frag} : b__law_reads K  = (sSeq (sAsg (bInt 0) (gwName 1)) (sSeq (sAsg (bInt 0) (gwName 2)) (sSeq (sAsg (bBl false) (gwName 3)) (sSeq (sFor (jRng1 (aCons (bB fLen (aCons (bVar 0) aNil)) aNil)) (gwName 4) (lr_turn K )) (sRet (bAndV (bVar 3) (bAndV (bOp opEq (bVar 1) (bInt 0)) (bOp opEq (bVar 2) (bB fLen (aCons (bVar 0) aNil)))))))))) := rfl
abbrev stR (T : List Nat) (d a : Nat) (b : Bool) (y4 y5 y6 y7 : Option D) : DS := [some (.str (S T)), some (.int (d : Nat)), some (.int (a : Nat)), some (.bl b), y4, y5, y6, y7, none]
section
variable {DD : DEnds} {H : DH} {T r : List Nat} {a c d : Nat} {y4 y7 : Option D}
/-- what a leaf at the sign leads to -/
structure LfT (DD : DEnds) (H : DH) (T r : List Nat) (a c d : Nat) (y4 : Option D) : Prop where
  nx : ∀ (v : D) (k : Nat) (y7 : Option D), leafL (c :: r) = some (v, k) → DD.nx (stR T d a true y4 (some (.str (S [c]))) (some (.int ((a + k : Nat) : Int))) y7) H
  rt : leafL (c :: r) = none → DD.rt (.bl false) H
theorem w_lr_fig (N : LfT DD H T r a c d y4) (hT : TxOk T) (hd : T.drop a = c :: r) (h34 : c ≠ 34) :
    (lr_fig K).w DD (stR T d a true y4 (some (.str (S [c]))) (some (.int ((a : Int) + 1))) y7) H := by
  have hlen : a + (r.length + 1) = T.length := by
    have := congrArg List.length hd
    rw [List.length_drop, List.length_cons] at this
    omega
  simp only [lr_fig, lit_figs, o_inL, isD_mem, w_notT, w_isiBC, w_ret, w_retF, w_retN, w_sif, w_seq, w_asg, w_drop, w_par, w_aug, w_for, w_next, w_brk, w_cnt, w_sfld, w_raise, w_thru, w_andV, w_orV, w_notV, w_and, w_or, w_not, w_if, w_test, w_tru, w_isiB, w_var, w_int, w_str, w_bl, w_non, w_op, w_chain, w_neg, w_cons, w_nil, w_tup, w_lst, w_newT, w_sl, w_oN, w_oS, w_B, w_call, w_fld, w_lc, w_yes, w_jAny, w_rng1, w_rng2, w_zip, w_gNm, w_gvNm, w_gTup, w_gsN, w_gsC, o_sub, o_mod, o_lt, o_le, o_gt, o_ge, o_add, o_addT, o_addL, o_mul, o_ixT, o_ixL, o_ixF, o_eqI, o_neI, o_isN, o_isNotN, o_isB, f_all, f_lenT, f_lenL, f_lenF, f_int, f_tupL, f_tupT, i_tup, i_lst, i_frz, i_rng, i_zipT, i_zipL, s_tup, s_lst, p_some, u_bl, u_int, u_tup, u_lst, wipeD, List.getElem?_cons_zero, List.getElem?_cons_succ, List.set_cons_zero, List.set_cons_succ, List.length_cons, List.length_nil, true_and, and_true, if_and, if_or, Bool.false_eq_true, if_false, if_true, ite_true, ite_false, Bool.not_true, Bool.not_false]
  cases hc : isD c with
  | true =>
    have e1 : leafL (c :: r) = if (figs ((c :: r).takeWhile isD) && decide (((c :: r).takeWhile isD).length ≤ 40)) = true then some (.int (NumText.digitsVal ((c :: r).takeWhile isD) : Nat), ((c :: r).takeWhile isD).length) else none := by
      have h45 : c ≠ 45 := fun e => by rw [e] at hc; cases hc
      rw [leafL_cons, if_neg h45, if_neg h34, if_pos hc]
    have htw : (c :: r).takeWhile isD = c :: r.takeWhile isD := by rw [List.takeWhile_cons, if_pos hc]
    have hl2 := takeWhile_len (p := isD) (l := r)
    simp only [sl_S, cutF, hd, f_lenS, w_M, lit_figs, f_lstrip, w_notT, w_isiBC, w_ret, w_retF, w_retN, w_sif, w_seq, w_asg, w_drop, w_par, w_aug, w_for, w_next, w_brk, w_cnt, w_sfld, w_raise, w_thru, w_andV, w_orV, w_notV, w_and, w_or, w_not, w_if, w_test, w_tru, w_isiB, w_var, w_int, w_str, w_bl, w_non, w_op, w_chain, w_neg, w_cons, w_nil, w_tup, w_lst, w_newT, w_sl, w_oN, w_oS, w_B, w_call, w_fld, w_lc, w_yes, w_jAny, w_rng1, w_rng2, w_zip, w_gNm, w_gvNm, w_gTup, w_gsN, w_gsC, o_sub, o_mod, o_lt, o_le, o_gt, o_ge, o_add, o_addT, o_addL, o_mul, o_ixT, o_ixL, o_ixF, o_eqI, o_neI, o_isN, o_isNotN, o_isB, f_all, f_lenT, f_lenL, f_lenF, f_int, f_tupL, f_tupT, i_tup, i_lst, i_frz, i_rng, i_zipT, i_zipL, s_tup, s_lst, p_some, u_bl, u_int, u_tup, u_lst, wipeD, List.getElem?_cons_zero, List.getElem?_cons_succ, List.set_cons_zero, List.set_cons_succ, List.length_cons, List.length_nil, true_and, and_true, if_and, if_or, Bool.false_eq_true, if_false, if_true, ite_true, ite_false, Bool.not_true, Bool.not_false]
    refine ⟨hT.sz, by rw [szl]; have := hT.2; omega, hT.sz, ty_lstrip, by rw [szl]; have := hT.2; omega, ?_⟩
    have hdl : ((c :: r).drop ((c :: r).takeWhile isD).length).length = r.length - (r.takeWhile isD).length := by
      rw [List.length_drop, htw]
      simp only [List.length_cons]
      omega
    rw [hdl]
    refine ⟨by rw [szl]; have := hT.2; omega, ?_⟩
    have ee : ((a : Int) + ((r.length + 1 : Nat) : Int) - ((r.length - (r.takeWhile isD).length : Nat) : Int)) = ((a + ((r.takeWhile isD).length + 1) : Nat) : Int) := by omega
    have ed : (((a + ((r.takeWhile isD).length + 1) : Nat) : Int) - (a : Int)) = (((r.takeWhile isD).length + 1 : Nat) : Int) := by omega
    simp only [ee, ed, lit_0, w_notT, w_isiBC, w_ret, w_retF, w_retN, w_sif, w_seq, w_asg, w_drop, w_par, w_aug, w_for, w_next, w_brk, w_cnt, w_sfld, w_raise, w_thru, w_andV, w_orV, w_notV, w_and, w_or, w_not, w_if, w_test, w_tru, w_isiB, w_var, w_int, w_str, w_bl, w_non, w_op, w_chain, w_neg, w_cons, w_nil, w_tup, w_lst, w_newT, w_sl, w_oN, w_oS, w_B, w_call, w_fld, w_lc, w_yes, w_jAny, w_rng1, w_rng2, w_zip, w_gNm, w_gvNm, w_gTup, w_gsN, w_gsC, o_sub, o_mod, o_lt, o_le, o_gt, o_ge, o_add, o_addT, o_addL, o_mul, o_ixT, o_ixL, o_ixF, o_eqI, o_neI, o_isN, o_isNotN, o_isB, f_all, f_lenT, f_lenL, f_lenF, f_int, f_tupL, f_tupT, i_tup, i_lst, i_frz, i_rng, i_zipT, i_zipL, s_tup, s_lst, p_some, u_bl, u_int, u_tup, u_lst, wipeD, List.getElem?_cons_zero, List.getElem?_cons_succ, List.set_cons_zero, List.set_cons_succ, List.length_cons, List.length_nil, true_and, and_true, if_and, if_or, Bool.false_eq_true, if_false, if_true, ite_true, ite_false, Bool.not_true, Bool.not_false]
    rw [htw] at e1
    have hlw : (c :: r.takeWhile isD).length = (r.takeWhile isD).length + 1 := rfl
    rw [hlw] at e1
    generalize hw : r.takeWhile isD = w at e1
    have hwd : w.all isD = true := by rw [← hw]; exact all_tw
    have hfig : figs (c :: w) = !(decide (0 < w.length) && decide (c = 48)) := by
      unfold figs
      rw [decide_eq_false (show ¬ c :: w = [] by simp), List.all_cons, hc, hwd]
      cases w with
      | nil =>
        by_cases h : c = 48
        · subst h; rfl
        · rw [decide_eq_false (show ¬ [c] = [48] from fun e => h (List.cons.inj e).1)]
          simp [h]
      | cons x w =>
        rw [decide_eq_false (show ¬ c :: x :: w = [48] by simp)]
        by_cases h : c = 48
        · subst h; simp
        · simp [h]
    by_cases h40 : w.length + 1 ≤ 40
    · rw [decide_eq_false (show ¬ (40 : Int) < ((w.length + 1 : Nat) : Int) by omega)]
      by_cases h1 : 0 < w.length
      · rw [decide_eq_true (show (1 : Int) < ((w.length + 1 : Nat) : Int) by omega)]
        simp only [o_eqS, w_notT, w_isiBC, w_ret, w_retF, w_retN, w_sif, w_seq, w_asg, w_drop, w_par, w_aug, w_for, w_next, w_brk, w_cnt, w_sfld, w_raise, w_thru, w_andV, w_orV, w_notV, w_and, w_or, w_not, w_if, w_test, w_tru, w_isiB, w_var, w_int, w_str, w_bl, w_non, w_op, w_chain, w_neg, w_cons, w_nil, w_tup, w_lst, w_newT, w_sl, w_oN, w_oS, w_B, w_call, w_fld, w_lc, w_yes, w_jAny, w_rng1, w_rng2, w_zip, w_gNm, w_gvNm, w_gTup, w_gsN, w_gsC, o_sub, o_mod, o_lt, o_le, o_gt, o_ge, o_add, o_addT, o_addL, o_mul, o_ixT, o_ixL, o_ixF, o_eqI, o_neI, o_isN, o_isNotN, o_isB, f_all, f_lenT, f_lenL, f_lenF, f_int, f_tupL, f_tupT, i_tup, i_lst, i_frz, i_rng, i_zipT, i_zipL, s_tup, s_lst, p_some, u_bl, u_int, u_tup, u_lst, wipeD, List.getElem?_cons_zero, List.getElem?_cons_succ, List.set_cons_zero, List.set_cons_succ, List.length_cons, List.length_nil, true_and, and_true, if_and, if_or, Bool.false_eq_true, if_false, if_true, ite_true, ite_false, Bool.not_true, Bool.not_false]
        have hk : okl [c] = true := by
          have := hT.1
          have h2 := okl_drop (n := a) this
          rw [hd] at h2
          unfold okl at h2 ⊢
          rw [List.all_cons, Bool.and_eq_true] at h2
          rw [List.all_cons, h2.1]; rfl
        refine ⟨hk, rfl, ?_⟩
        by_cases h48 : c = 48
        · rw [decide_eq_true (show [c] = [48] by rw [h48])]
          simp only [w_notT, w_isiBC, w_ret, w_retF, w_retN, w_sif, w_seq, w_asg, w_drop, w_par, w_aug, w_for, w_next, w_brk, w_cnt, w_sfld, w_raise, w_thru, w_andV, w_orV, w_notV, w_and, w_or, w_not, w_if, w_test, w_tru, w_isiB, w_var, w_int, w_str, w_bl, w_non, w_op, w_chain, w_neg, w_cons, w_nil, w_tup, w_lst, w_newT, w_sl, w_oN, w_oS, w_B, w_call, w_fld, w_lc, w_yes, w_jAny, w_rng1, w_rng2, w_zip, w_gNm, w_gvNm, w_gTup, w_gsN, w_gsC, o_sub, o_mod, o_lt, o_le, o_gt, o_ge, o_add, o_addT, o_addL, o_mul, o_ixT, o_ixL, o_ixF, o_eqI, o_neI, o_isN, o_isNotN, o_isB, f_all, f_lenT, f_lenL, f_lenF, f_int, f_tupL, f_tupT, i_tup, i_lst, i_frz, i_rng, i_zipT, i_zipL, s_tup, s_lst, p_some, u_bl, u_int, u_tup, u_lst, wipeD, List.getElem?_cons_zero, List.getElem?_cons_succ, List.set_cons_zero, List.set_cons_succ, List.length_cons, List.length_nil, true_and, and_true, if_and, if_or, Bool.false_eq_true, if_false, if_true, ite_true, ite_false, Bool.not_true, Bool.not_false]
          refine N.rt ?_
          rw [e1, hfig, decide_eq_true h1, decide_eq_true h48]
          rfl
        · rw [decide_eq_false (show ¬ [c] = [48] from fun e => h48 (List.cons.inj e).1)]
          simp only [w_notT, w_isiBC, w_ret, w_retF, w_retN, w_sif, w_seq, w_asg, w_drop, w_par, w_aug, w_for, w_next, w_brk, w_cnt, w_sfld, w_raise, w_thru, w_andV, w_orV, w_notV, w_and, w_or, w_not, w_if, w_test, w_tru, w_isiB, w_var, w_int, w_str, w_bl, w_non, w_op, w_chain, w_neg, w_cons, w_nil, w_tup, w_lst, w_newT, w_sl, w_oN, w_oS, w_B, w_call, w_fld, w_lc, w_yes, w_jAny, w_rng1, w_rng2, w_zip, w_gNm, w_gvNm, w_gTup, w_gsN, w_gsC, o_sub, o_mod, o_lt, o_le, o_gt, o_ge, o_add, o_addT, o_addL, o_mul, o_ixT, o_ixL, o_ixF, o_eqI, o_neI, o_isN, o_isNotN, o_isB, f_all, f_lenT, f_lenL, f_lenF, f_int, f_tupL, f_tupT, i_tup, i_lst, i_frz, i_rng, i_zipT, i_zipL, s_tup, s_lst, p_some, u_bl, u_int, u_tup, u_lst, wipeD, List.getElem?_cons_zero, List.getElem?_cons_succ, List.set_cons_zero, List.set_cons_succ, List.length_cons, List.length_nil, true_and, and_true, if_and, if_or, Bool.false_eq_true, if_false, if_true, ite_true, ite_false, Bool.not_true, Bool.not_false]
          refine N.nx (.int (NumText.digitsVal (c :: w) : Nat)) (w.length + 1) _ (e1.trans ?_)
          rw [hfig, decide_eq_false h48, Bool.and_false, decide_eq_true h40]
          rfl
      · rw [decide_eq_false (show ¬ (1 : Int) < ((w.length + 1 : Nat) : Int) by omega)]
        simp only [w_notT, w_isiBC, w_ret, w_retF, w_retN, w_sif, w_seq, w_asg, w_drop, w_par, w_aug, w_for, w_next, w_brk, w_cnt, w_sfld, w_raise, w_thru, w_andV, w_orV, w_notV, w_and, w_or, w_not, w_if, w_test, w_tru, w_isiB, w_var, w_int, w_str, w_bl, w_non, w_op, w_chain, w_neg, w_cons, w_nil, w_tup, w_lst, w_newT, w_sl, w_oN, w_oS, w_B, w_call, w_fld, w_lc, w_yes, w_jAny, w_rng1, w_rng2, w_zip, w_gNm, w_gvNm, w_gTup, w_gsN, w_gsC, o_sub, o_mod, o_lt, o_le, o_gt, o_ge, o_add, o_addT, o_addL, o_mul, o_ixT, o_ixL, o_ixF, o_eqI, o_neI, o_isN, o_isNotN, o_isB, f_all, f_lenT, f_lenL, f_lenF, f_int, f_tupL, f_tupT, i_tup, i_lst, i_frz, i_rng, i_zipT, i_zipL, s_tup, s_lst, p_some, u_bl, u_int, u_tup, u_lst, wipeD, List.getElem?_cons_zero, List.getElem?_cons_succ, List.set_cons_zero, List.set_cons_succ, List.length_cons, List.length_nil, true_and, and_true, if_and, if_or, Bool.false_eq_true, if_false, if_true, ite_true, ite_false, Bool.not_true, Bool.not_false]
        refine N.nx (.int (NumText.digitsVal (c :: w) : Nat)) (w.length + 1) _ (e1.trans ?_)
        rw [hfig, decide_eq_false h1, Bool.false_and, decide_eq_true h40]
        rfl
    · rw [decide_eq_true (show (40 : Int) < ((w.length + 1 : Nat) : Int) by omega)]
      simp only [w_notT, w_isiBC, w_ret, w_retF, w_retN, w_sif, w_seq, w_asg, w_drop, w_par, w_aug, w_for, w_next, w_brk, w_cnt, w_sfld, w_raise, w_thru, w_andV, w_orV, w_notV, w_and, w_or, w_not, w_if, w_test, w_tru, w_isiB, w_var, w_int, w_str, w_bl, w_non, w_op, w_chain, w_neg, w_cons, w_nil, w_tup, w_lst, w_newT, w_sl, w_oN, w_oS, w_B, w_call, w_fld, w_lc, w_yes, w_jAny, w_rng1, w_rng2, w_zip, w_gNm, w_gvNm, w_gTup, w_gsN, w_gsC, o_sub, o_mod, o_lt, o_le, o_gt, o_ge, o_add, o_addT, o_addL, o_mul, o_ixT, o_ixL, o_ixF, o_eqI, o_neI, o_isN, o_isNotN, o_isB, f_all, f_lenT, f_lenL, f_lenF, f_int, f_tupL, f_tupT, i_tup, i_lst, i_frz, i_rng, i_zipT, i_zipL, s_tup, s_lst, p_some, u_bl, u_int, u_tup, u_lst, wipeD, List.getElem?_cons_zero, List.getElem?_cons_succ, List.set_cons_zero, List.set_cons_succ, List.length_cons, List.length_nil, true_and, and_true, if_and, if_or, Bool.false_eq_true, if_false, if_true, ite_true, ite_false, Bool.not_true, Bool.not_false]
      refine N.rt (e1.trans ?_)
      rw [decide_eq_false h40, Bool.and_false]
      rfl
  | false =>
    have hk : okl [c] = true := by
      have := hT.1
      have h2 := okl_drop (n := a) this
      rw [hd] at h2
      unfold okl at h2 ⊢
      rw [List.all_cons, Bool.and_eq_true] at h2
      rw [List.all_cons, h2.1]; rfl
    simp only [lit_dash, o_neS, w_notT, w_isiBC, w_ret, w_retF, w_retN, w_sif, w_seq, w_asg, w_drop, w_par, w_aug, w_for, w_next, w_brk, w_cnt, w_sfld, w_raise, w_thru, w_andV, w_orV, w_notV, w_and, w_or, w_not, w_if, w_test, w_tru, w_isiB, w_var, w_int, w_str, w_bl, w_non, w_op, w_chain, w_neg, w_cons, w_nil, w_tup, w_lst, w_newT, w_sl, w_oN, w_oS, w_B, w_call, w_fld, w_lc, w_yes, w_jAny, w_rng1, w_rng2, w_zip, w_gNm, w_gvNm, w_gTup, w_gsN, w_gsC, o_sub, o_mod, o_lt, o_le, o_gt, o_ge, o_add, o_addT, o_addL, o_mul, o_ixT, o_ixL, o_ixF, o_eqI, o_neI, o_isN, o_isNotN, o_isB, f_all, f_lenT, f_lenL, f_lenF, f_int, f_tupL, f_tupT, i_tup, i_lst, i_frz, i_rng, i_zipT, i_zipL, s_tup, s_lst, p_some, u_bl, u_int, u_tup, u_lst, wipeD, List.getElem?_cons_zero, List.getElem?_cons_succ, List.set_cons_zero, List.set_cons_succ, List.length_cons, List.length_nil, true_and, and_true, if_and, if_or, Bool.false_eq_true, if_false, if_true, ite_true, ite_false, Bool.not_true, Bool.not_false]
    refine ⟨hk, rfl, ?_⟩
    by_cases h45 : c = 45
    · rw [decide_eq_true (show [c] = [45] by rw [h45])]
      simp only [w_notT, w_isiBC, w_ret, w_retF, w_retN, w_sif, w_seq, w_asg, w_drop, w_par, w_aug, w_for, w_next, w_brk, w_cnt, w_sfld, w_raise, w_thru, w_andV, w_orV, w_notV, w_and, w_or, w_not, w_if, w_test, w_tru, w_isiB, w_var, w_int, w_str, w_bl, w_non, w_op, w_chain, w_neg, w_cons, w_nil, w_tup, w_lst, w_newT, w_sl, w_oN, w_oS, w_B, w_call, w_fld, w_lc, w_yes, w_jAny, w_rng1, w_rng2, w_zip, w_gNm, w_gvNm, w_gTup, w_gsN, w_gsC, o_sub, o_mod, o_lt, o_le, o_gt, o_ge, o_add, o_addT, o_addL, o_mul, o_ixT, o_ixL, o_ixF, o_eqI, o_neI, o_isN, o_isNotN, o_isB, f_all, f_lenT, f_lenL, f_lenF, f_int, f_tupL, f_tupT, i_tup, i_lst, i_frz, i_rng, i_zipT, i_zipL, s_tup, s_lst, p_some, u_bl, u_int, u_tup, u_lst, wipeD, List.getElem?_cons_zero, List.getElem?_cons_succ, List.set_cons_zero, List.set_cons_succ, List.length_cons, List.length_nil, true_and, and_true, if_and, if_or, Bool.false_eq_true, if_false, if_true, ite_true, ite_false, Bool.not_true, Bool.not_false]
      exact N.nx .non 1 _ (by rw [leafL_cons, if_pos h45])
    · rw [decide_eq_false (show ¬ [c] = [45] from fun e => h45 (List.cons.inj e).1)]
      simp only [w_notT, w_isiBC, w_ret, w_retF, w_retN, w_sif, w_seq, w_asg, w_drop, w_par, w_aug, w_for, w_next, w_brk, w_cnt, w_sfld, w_raise, w_thru, w_andV, w_orV, w_notV, w_and, w_or, w_not, w_if, w_test, w_tru, w_isiB, w_var, w_int, w_str, w_bl, w_non, w_op, w_chain, w_neg, w_cons, w_nil, w_tup, w_lst, w_newT, w_sl, w_oN, w_oS, w_B, w_call, w_fld, w_lc, w_yes, w_jAny, w_rng1, w_rng2, w_zip, w_gNm, w_gvNm, w_gTup, w_gsN, w_gsC, o_sub, o_mod, o_lt, o_le, o_gt, o_ge, o_add, o_addT, o_addL, o_mul, o_ixT, o_ixL, o_ixF, o_eqI, o_neI, o_isN, o_isNotN, o_isB, f_all, f_lenT, f_lenL, f_lenF, f_int, f_tupL, f_tupT, i_tup, i_lst, i_frz, i_rng, i_zipT, i_zipL, s_tup, s_lst, p_some, u_bl, u_int, u_tup, u_lst, wipeD, List.getElem?_cons_zero, List.getElem?_cons_succ, List.set_cons_zero, List.set_cons_succ, List.length_cons, List.length_nil, true_and, and_true, if_and, if_or, Bool.false_eq_true, if_false, if_true, ite_true, ite_false, Bool.not_true, Bool.not_false]
      refine N.rt ?_
      rw [leafL_cons, if_neg h45, if_neg h34, hc]
      rfl
/-- letters up to the first quote: all there is -/
theorem tw_quote {r : List Nat} : ((r.drop (r.takeWhile isL).length).take 1 = [34]) ↔ (34 ∈ r ∧ (r.take (r.takeWhile (· != 34)).length).all isL = true) := by
  induction r with
  | nil => simp
  | cons x r ih =>
    rw [List.takeWhile_cons, List.takeWhile_cons]
    by_cases hx : x = 34
    · subst hx
      rw [show isL 34 = false from rfl]
      simp
    · have hb : (x != 34) = true := by simpa using hx
      rw [if_pos hb, List.length_cons, List.take_succ_cons, List.all_cons]
      cases hl : isL x with
      | true =>
        rw [if_pos rfl, List.length_cons, List.drop_succ_cons, ih, Bool.true_and]
        constructor
        · rintro ⟨h1, h2⟩
          exact ⟨List.mem_cons_of_mem _ h1, h2⟩
        · rintro ⟨h1, h2⟩
          rcases List.mem_cons.mp h1 with h1 | h1
          · exact absurd h1.symm hx
          · exact ⟨h1, h2⟩
      | false =>
        rw [if_neg Bool.false_ne_true, List.length_nil, List.drop_zero, Bool.false_and]
        simp [hx]
theorem tw_eq {r : List Nat} (h : (r.drop (r.takeWhile isL).length).take 1 = [34]) : (r.takeWhile (· != 34)).length = (r.takeWhile isL).length := by
  induction r with
  | nil => rfl
  | cons x r ih =>
    rw [List.takeWhile_cons, List.takeWhile_cons]
    rw [List.takeWhile_cons] at h
    cases hl : isL x with
    | true =>
      have hb : (x != 34) = true := by
        have : x ≠ 34 := fun e => by rw [e] at hl; cases hl
        simpa using this
      rw [hl, if_pos rfl, List.length_cons, List.drop_succ_cons] at h
      rw [if_pos hb, if_pos rfl, List.length_cons, List.length_cons, ih h]
    | false =>
      rw [hl, if_neg Bool.false_ne_true, List.length_nil, List.drop_zero] at h
      have hx : x = 34 := (List.cons.inj (show [x] = [34] from h)).1
      subst hx
      rfl
end
end
end G
set_option Elab.async false
set_option linter.all false
set_option maxRecDepth 100000
namespace G
open PySem PySem.Spec PyProof.Rows L2
section
variable {K : PySem.W.Frag}
theorem it_S {H : DH} {w : List Nat} {R : List D → (DH → Prop) → DH → Prop} : dStrIt (.str (S w)) H R = R (w.map fun c => .str (S [c])) (fun _ => True) H := by
  show R ((S w).cps.toList.map fun c => D.str ⟨#[c]⟩) (fun _ => True) H = _
  rw [show (S w).cps.toList = w from List.toList_toArray]
section
variable {DD : DEnds} {H : DH} {T r : List Nat} {a c d : Nat} {y4 y7 : Option D}
theorem leafL_q {r : List Nat} : leafL (34 :: r) = if (r.drop (r.takeWhile isL).length).take 1 = [34] then some (.str (S (r.takeWhile isL)), (r.takeWhile isL).length + 2) else none := by
  rw [leafL_cons, if_neg (by decide), if_pos rfl]
def sgn : D → Nat
  | .str x => x.cps.toList.getD 0 0
  | _ => 0
theorem w_lr_word {e : Int} {w : List Nat} (hT : TxOk T) (hw : cutS (S T) (some ((a : Int) + 1)) (some (if (a : Int) + 1 > e - 1 then (a : Int) + 1 else e - 1)) = S w) (hwl : w.length ≤ 1000000)
    (nx : e ≠ 0 → w.all isL = true → ∀ y7, DD.nx (stR T d a true y4 (some (.str (S [c]))) (some (.int e)) y7) H) (rt : (e = 0 ∨ w.all isL = false) → DD.rt (.bl false) H) :
    (lr_word K).w DD (stR T d a true y4 (some (.str (S [c]))) (some (.int e)) y7) H := by
  have fm : ∀ {Q : DQ}, (fMax : Fn (plainC K)).w [.int (e - 1), .int ((a : Int) + 1)] H Q = Q (.int (if (a : Int) + 1 > e - 1 then (a : Int) + 1 else e - 1)) H := rfl
  simp only [lr_word, fm, sl_S, hw, w_jStr, it_S, lit_lets, w_notT, w_isiBC, w_ret, w_retF, w_retN, w_sif, w_seq, w_asg, w_drop, w_par, w_aug, w_for, w_next, w_brk, w_cnt, w_sfld, w_raise, w_thru, w_andV, w_orV, w_notV, w_and, w_or, w_not, w_if, w_test, w_tru, w_isiB, w_var, w_int, w_str, w_bl, w_non, w_op, w_chain, w_neg, w_cons, w_nil, w_tup, w_lst, w_newT, w_sl, w_oN, w_oS, w_B, w_call, w_fld, w_lc, w_yes, w_jAny, w_rng1, w_rng2, w_zip, w_gNm, w_gvNm, w_gTup, w_gsN, w_gsC, o_sub, o_mod, o_lt, o_le, o_gt, o_ge, o_add, o_addT, o_addL, o_mul, o_ixT, o_ixL, o_ixF, o_eqI, o_neI, o_isN, o_isNotN, o_isB, f_all, f_lenT, f_lenL, f_lenF, f_int, f_tupL, f_tupT, i_tup, i_lst, i_frz, i_rng, i_zipT, i_zipL, s_tup, s_lst, p_some, u_bl, u_int, u_tup, u_lst, wipeD, List.getElem?_cons_zero, List.getElem?_cons_succ, List.set_cons_zero, List.set_cons_succ, List.length_cons, List.length_nil, true_and, and_true, if_and, if_or, Bool.false_eq_true, if_false, if_true, ite_true, ite_false, Bool.not_true, Bool.not_false]
  refine ⟨hT.sz, ?_⟩
  by_cases he : e = 0
  · rw [decide_eq_true he]
    simp only [w_notT, w_isiBC, w_ret, w_retF, w_retN, w_sif, w_seq, w_asg, w_drop, w_par, w_aug, w_for, w_next, w_brk, w_cnt, w_sfld, w_raise, w_thru, w_andV, w_orV, w_notV, w_and, w_or, w_not, w_if, w_test, w_tru, w_isiB, w_var, w_int, w_str, w_bl, w_non, w_op, w_chain, w_neg, w_cons, w_nil, w_tup, w_lst, w_newT, w_sl, w_oN, w_oS, w_B, w_call, w_fld, w_lc, w_yes, w_jAny, w_rng1, w_rng2, w_zip, w_gNm, w_gvNm, w_gTup, w_gsN, w_gsC, o_sub, o_mod, o_lt, o_le, o_gt, o_ge, o_add, o_addT, o_addL, o_mul, o_ixT, o_ixL, o_ixF, o_eqI, o_neI, o_isN, o_isNotN, o_isB, f_all, f_lenT, f_lenL, f_lenF, f_int, f_tupL, f_tupT, i_tup, i_lst, i_frz, i_rng, i_zipT, i_zipL, s_tup, s_lst, p_some, u_bl, u_int, u_tup, u_lst, wipeD, List.getElem?_cons_zero, List.getElem?_cons_succ, List.set_cons_zero, List.set_cons_succ, List.length_cons, List.length_nil, true_and, and_true, if_and, if_or, Bool.false_eq_true, if_false, if_true, ite_true, ite_false, Bool.not_true, Bool.not_false]
    exact rt (.inl he)
  · rw [decide_eq_false he]
    simp only [w_jStr, it_S, lit_lets, w_notT, w_isiBC, w_ret, w_retF, w_retN, w_sif, w_seq, w_asg, w_drop, w_par, w_aug, w_for, w_next, w_brk, w_cnt, w_sfld, w_raise, w_thru, w_andV, w_orV, w_notV, w_and, w_or, w_not, w_if, w_test, w_tru, w_isiB, w_var, w_int, w_str, w_bl, w_non, w_op, w_chain, w_neg, w_cons, w_nil, w_tup, w_lst, w_newT, w_sl, w_oN, w_oS, w_B, w_call, w_fld, w_lc, w_yes, w_jAny, w_rng1, w_rng2, w_zip, w_gNm, w_gvNm, w_gTup, w_gsN, w_gsC, o_sub, o_mod, o_lt, o_le, o_gt, o_ge, o_add, o_addT, o_addL, o_mul, o_ixT, o_ixL, o_ixF, o_eqI, o_neI, o_isN, o_isNotN, o_isB, f_all, f_lenT, f_lenL, f_lenF, f_int, f_tupL, f_tupT, i_tup, i_lst, i_frz, i_rng, i_zipT, i_zipL, s_tup, s_lst, p_some, u_bl, u_int, u_tup, u_lst, wipeD, List.getElem?_cons_zero, List.getElem?_cons_succ, List.set_cons_zero, List.set_cons_succ, List.length_cons, List.length_nil, true_and, and_true, if_and, if_or, Bool.false_eq_true, if_false, if_true, ite_true, ite_false, Bool.not_true, Bool.not_false]
    refine lc_filter (fun x => !isL (sgn x)) (fun x => x) trivial (w.map fun c => D.str (S [c])) [] (by rw [List.length_nil, Nat.zero_add, List.length_map, szl]; omega) (fun x hx k1 k2 hk1 hk2 => ?_) ?_
    · obtain ⟨z, _, rfl⟩ := List.mem_map.mp hx
      have es : sgn (D.str (S [z])) = z := rfl
      rw [es] at hk1 hk2
      simp only [o_ninL, isL_mem, w_notT, w_isiBC, w_ret, w_retF, w_retN, w_sif, w_seq, w_asg, w_drop, w_par, w_aug, w_for, w_next, w_brk, w_cnt, w_sfld, w_raise, w_thru, w_andV, w_orV, w_notV, w_and, w_or, w_not, w_if, w_test, w_tru, w_isiB, w_var, w_int, w_str, w_bl, w_non, w_op, w_chain, w_neg, w_cons, w_nil, w_tup, w_lst, w_newT, w_sl, w_oN, w_oS, w_B, w_call, w_fld, w_lc, w_yes, w_jAny, w_rng1, w_rng2, w_zip, w_gNm, w_gvNm, w_gTup, w_gsN, w_gsC, o_sub, o_mod, o_lt, o_le, o_gt, o_ge, o_add, o_addT, o_addL, o_mul, o_ixT, o_ixL, o_ixF, o_eqI, o_neI, o_isN, o_isNotN, o_isB, f_all, f_lenT, f_lenL, f_lenF, f_int, f_tupL, f_tupT, i_tup, i_lst, i_frz, i_rng, i_zipT, i_zipL, s_tup, s_lst, p_some, u_bl, u_int, u_tup, u_lst, wipeD, List.getElem?_cons_zero, List.getElem?_cons_succ, List.set_cons_zero, List.set_cons_succ, List.length_cons, List.length_nil, true_and, and_true, if_and, if_or, Bool.false_eq_true, if_false, if_true, ite_true, ite_false, Bool.not_true, Bool.not_false]
      cases hz : isL z with
      | true => exact hk2 (by rw [hz]; rfl)
      | false => exact hk1 (by rw [hz]; rfl)
    · rw [List.nil_append, List.map_id']
      cases hall : w.all isL with
      | true =>
        have e0 : (w.map fun c => D.str (S [c])).filter (fun x => !isL (sgn x)) = [] := by
          rw [List.filter_eq_nil_iff]
          intro x hx
          obtain ⟨z, hz, rfl⟩ := List.mem_map.mp hx
          have := List.all_eq_true.mp hall z hz
          have es : sgn (D.str (S [z])) = z := rfl
          rw [es, this]
          simp
        rw [e0]
        exact nx he hall _
      | false =>
        have e0 : 0 < ((w.map fun c => D.str (S [c])).filter (fun x => !isL (sgn x))).length := by
          rw [List.all_eq_false] at hall
          obtain ⟨z, hz, hz2⟩ := hall
          refine List.length_pos_of_mem (a := D.str (S [z])) (List.mem_filter.mpr ⟨List.mem_map.mpr ⟨z, hz, rfl⟩, ?_⟩)
          have es : sgn (D.str (S [z])) = z := rfl
          rw [es]
          simpa using hz2
        rw [decide_eq_true (show (0 : Int) < ((((w.map fun c => D.str (S [c])).filter (fun x => !isL (sgn x))).length : Nat) : Int) by omega)]
        exact rt (.inr hall)
theorem w_lr_quote (N : LfT DD H T r a c d y4) (hT : TxOk T) (hd : T.drop a = c :: r) :
    (lr_quote K).w DD (stR T d a true y4 (some (.str (S [c]))) (some (.int ((a : Int) + 1))) y7) H := by
  have hlen : a + (r.length + 1) = T.length := by
    have := congrArg List.length hd
    rw [List.length_drop, List.length_cons] at this
    omega
  have hk : okl [c] = true := by
    have := hT.1
    have h2 := okl_drop (n := a) this
    rw [hd] at h2
    unfold okl at h2 ⊢
    rw [List.all_cons, Bool.and_eq_true] at h2
    rw [List.all_cons, h2.1]; rfl
  simp only [lr_quote, lit_quote, o_eqS, w_notT, w_isiBC, w_ret, w_retF, w_retN, w_sif, w_seq, w_asg, w_drop, w_par, w_aug, w_for, w_next, w_brk, w_cnt, w_sfld, w_raise, w_thru, w_andV, w_orV, w_notV, w_and, w_or, w_not, w_if, w_test, w_tru, w_isiB, w_var, w_int, w_str, w_bl, w_non, w_op, w_chain, w_neg, w_cons, w_nil, w_tup, w_lst, w_newT, w_sl, w_oN, w_oS, w_B, w_call, w_fld, w_lc, w_yes, w_jAny, w_rng1, w_rng2, w_zip, w_gNm, w_gvNm, w_gTup, w_gsN, w_gsC, o_sub, o_mod, o_lt, o_le, o_gt, o_ge, o_add, o_addT, o_addL, o_mul, o_ixT, o_ixL, o_ixF, o_eqI, o_neI, o_isN, o_isNotN, o_isB, f_all, f_lenT, f_lenL, f_lenF, f_int, f_tupL, f_tupT, i_tup, i_lst, i_frz, i_rng, i_zipT, i_zipL, s_tup, s_lst, p_some, u_bl, u_int, u_tup, u_lst, wipeD, List.getElem?_cons_zero, List.getElem?_cons_succ, List.set_cons_zero, List.set_cons_succ, List.length_cons, List.length_nil, true_and, and_true, if_and, if_or, Bool.false_eq_true, if_false, if_true, ite_true, ite_false, Bool.not_true, Bool.not_false]
  refine ⟨hk, rfl, ?_⟩
  by_cases h34 : c = 34
  · subst h34
    have hd1 : T.drop (a + 1) = r := by rw [← List.drop_drop, hd]; rfl
    have ha1 : (a : Int) + 1 = ((a + 1 : Nat) : Int) := by omega
    rw [decide_eq_true rfl]
    simp only [w_M, ha1, f_find3 (show a + 1 ≤ T.length by omega), hd1, w_notT, w_isiBC, w_ret, w_retF, w_retN, w_sif, w_seq, w_asg, w_drop, w_par, w_aug, w_for, w_next, w_brk, w_cnt, w_sfld, w_raise, w_thru, w_andV, w_orV, w_notV, w_and, w_or, w_not, w_if, w_test, w_tru, w_isiB, w_var, w_int, w_str, w_bl, w_non, w_op, w_chain, w_neg, w_cons, w_nil, w_tup, w_lst, w_newT, w_sl, w_oN, w_oS, w_B, w_call, w_fld, w_lc, w_yes, w_jAny, w_rng1, w_rng2, w_zip, w_gNm, w_gvNm, w_gTup, w_gsN, w_gsC, o_sub, o_mod, o_lt, o_le, o_gt, o_ge, o_add, o_addT, o_addL, o_mul, o_ixT, o_ixL, o_ixF, o_eqI, o_neI, o_isN, o_isNotN, o_isB, f_all, f_lenT, f_lenL, f_lenF, f_int, f_tupL, f_tupT, i_tup, i_lst, i_frz, i_rng, i_zipT, i_zipL, s_tup, s_lst, p_some, u_bl, u_int, u_tup, u_lst, wipeD, List.getElem?_cons_zero, List.getElem?_cons_succ, List.set_cons_zero, List.set_cons_succ, List.length_cons, List.length_nil, true_and, and_true, if_and, if_or, Bool.false_eq_true, if_false, if_true, ite_true, ite_false, Bool.not_true, Bool.not_false]
    refine ⟨ty_find, ?_⟩
    have hz := hT.2
    by_cases hm : 34 ∈ r
    · rw [if_pos hm]
      have hn := takeWhile_len (p := (· != 34)) (l := r)
      refine w_lr_word (w := r.take (r.takeWhile (· != 34)).length) hT ?_ (by rw [List.length_take]; omega) (fun _ hall y7 => ?_) fun h => N.rt ?_
      · rw [if_neg (by omega)]
        have e2 : (((a + 1 + (r.takeWhile (· != 34)).length : Nat) : Int) + 1 - 1) = ((a + 1 + (r.takeWhile (· != 34)).length : Nat) : Int) := by omega
        rw [e2, ha1, cut2, hd1, Nat.add_sub_cancel_left]
      · have hq := tw_quote.mpr ⟨hm, hall⟩
        have := N.nx (.str (S (r.takeWhile isL))) ((r.takeWhile isL).length + 2) y7 (by rw [leafL_q, if_pos hq])
        have e3 : (((a + 1 + (r.takeWhile (· != 34)).length : Nat) : Int) + 1) = ((a + ((r.takeWhile isL).length + 2) : Nat) : Int) := by
          rw [tw_eq hq]; omega
        rw [e3]
        exact this
      · rw [leafL_q, if_neg fun hq => ?_]
        have h2 := (tw_quote.mp hq).2
        rcases h with h | h
        · omega
        · rw [h] at h2; cases h2
    · rw [if_neg hm]
      refine w_lr_word (w := []) hT ?_ (by simp) (fun h => absurd rfl h) fun h => N.rt ?_
      · rw [if_pos (by omega), ha1, cut2, Nat.sub_self, List.take_zero]
      · rw [leafL_q, if_neg fun hq => hm (tw_quote.mp hq).1]
  · rw [decide_eq_false (show ¬ [c] = [34] from fun e => h34 (List.cons.inj e).1)]
    simp only [w_notT, w_isiBC, w_ret, w_retF, w_retN, w_sif, w_seq, w_asg, w_drop, w_par, w_aug, w_for, w_next, w_brk, w_cnt, w_sfld, w_raise, w_thru, w_andV, w_orV, w_notV, w_and, w_or, w_not, w_if, w_test, w_tru, w_isiB, w_var, w_int, w_str, w_bl, w_non, w_op, w_chain, w_neg, w_cons, w_nil, w_tup, w_lst, w_newT, w_sl, w_oN, w_oS, w_B, w_call, w_fld, w_lc, w_yes, w_jAny, w_rng1, w_rng2, w_zip, w_gNm, w_gvNm, w_gTup, w_gsN, w_gsC, o_sub, o_mod, o_lt, o_le, o_gt, o_ge, o_add, o_addT, o_addL, o_mul, o_ixT, o_ixL, o_ixF, o_eqI, o_neI, o_isN, o_isNotN, o_isB, f_all, f_lenT, f_lenL, f_lenF, f_int, f_tupL, f_tupT, i_tup, i_lst, i_frz, i_rng, i_zipT, i_zipL, s_tup, s_lst, p_some, u_bl, u_int, u_tup, u_lst, wipeD, List.getElem?_cons_zero, List.getElem?_cons_succ, List.set_cons_zero, List.set_cons_succ, List.length_cons, List.length_nil, true_and, and_true, if_and, if_or, Bool.false_eq_true, if_false, if_true, ite_true, ite_false, Bool.not_true, Bool.not_false]
    exact w_lr_fig N hT hd h34
/-- what a turn of the reader leads to -/
structure RdT (DD : DEnds) (H : DH) (T : List Nat) (a : Nat) : Prop where
  nx : ∀ (d' a' : Nat) (b' : Bool) (y4 y5 y6 y7 : Option D), a < a' → a' ≤ T.length → accA (T.drop a') d' b' = accA T 0 false → DD.nx (stR T d' a' b' y4 y5 y6 y7) H
  bk : ∀ (d' : Nat) (b' : Bool) (y4 y5 y6 y7 : Option D), accA [] d' b' = accA T 0 false → DD.bk (stR T d' T.length b' y4 y5 y6 y7) H
  rt : accA T 0 false = false → DD.rt (.bl false) H
theorem w_lr_turn {b : Bool} {y5 y6 : Option D} (N : RdT DD H T a) (hT : TxOk T) (ha : a ≤ T.length) (hac : accA (T.drop a) d b = accA T 0 false) :
    (lr_turn K).w DD (stR T d a b y4 y5 y6 y7) H := by
  simp only [lr_turn, f_lenS, w_notT, w_isiBC, w_ret, w_retF, w_retN, w_sif, w_seq, w_asg, w_drop, w_par, w_aug, w_for, w_next, w_brk, w_cnt, w_sfld, w_raise, w_thru, w_andV, w_orV, w_notV, w_and, w_or, w_not, w_if, w_test, w_tru, w_isiB, w_var, w_int, w_str, w_bl, w_non, w_op, w_chain, w_neg, w_cons, w_nil, w_tup, w_lst, w_newT, w_sl, w_oN, w_oS, w_B, w_call, w_fld, w_lc, w_yes, w_jAny, w_rng1, w_rng2, w_zip, w_gNm, w_gvNm, w_gTup, w_gsN, w_gsC, o_sub, o_mod, o_lt, o_le, o_gt, o_ge, o_add, o_addT, o_addL, o_mul, o_ixT, o_ixL, o_ixF, o_eqI, o_neI, o_isN, o_isNotN, o_isB, f_all, f_lenT, f_lenL, f_lenF, f_int, f_tupL, f_tupT, i_tup, i_lst, i_frz, i_rng, i_zipT, i_zipL, s_tup, s_lst, p_some, u_bl, u_int, u_tup, u_lst, wipeD, List.getElem?_cons_zero, List.getElem?_cons_succ, List.set_cons_zero, List.set_cons_succ, List.length_cons, List.length_nil, true_and, and_true, if_and, if_or, Bool.false_eq_true, if_false, if_true, ite_true, ite_false, Bool.not_true, Bool.not_false]
  refine ⟨hT.sz, ?_⟩
  by_cases hal : a = T.length
  · subst hal
    rw [decide_eq_true rfl]
    simp only [w_notT, w_isiBC, w_ret, w_retF, w_retN, w_sif, w_seq, w_asg, w_drop, w_par, w_aug, w_for, w_next, w_brk, w_cnt, w_sfld, w_raise, w_thru, w_andV, w_orV, w_notV, w_and, w_or, w_not, w_if, w_test, w_tru, w_isiB, w_var, w_int, w_str, w_bl, w_non, w_op, w_chain, w_neg, w_cons, w_nil, w_tup, w_lst, w_newT, w_sl, w_oN, w_oS, w_B, w_call, w_fld, w_lc, w_yes, w_jAny, w_rng1, w_rng2, w_zip, w_gNm, w_gvNm, w_gTup, w_gsN, w_gsC, o_sub, o_mod, o_lt, o_le, o_gt, o_ge, o_add, o_addT, o_addL, o_mul, o_ixT, o_ixL, o_ixF, o_eqI, o_neI, o_isN, o_isNotN, o_isB, f_all, f_lenT, f_lenL, f_lenF, f_int, f_tupL, f_tupT, i_tup, i_lst, i_frz, i_rng, i_zipT, i_zipL, s_tup, s_lst, p_some, u_bl, u_int, u_tup, u_lst, wipeD, List.getElem?_cons_zero, List.getElem?_cons_succ, List.set_cons_zero, List.set_cons_succ, List.length_cons, List.length_nil, true_and, and_true, if_and, if_or, Bool.false_eq_true, if_false, if_true, ite_true, ite_false, Bool.not_true, Bool.not_false]
    rw [List.drop_length] at hac
    exact N.bk d b y4 y5 y6 y7 hac
  · rw [decide_eq_false (show ¬ ((a : Nat) : Int) = (T.length : Nat) by omega)]
    obtain ⟨c, r, hd⟩ : ∃ c r, T.drop a = c :: r := by
      cases h : T.drop a with
      | nil =>
        have := congrArg List.length h
        rw [List.length_drop, List.length_nil] at this
        omega
      | cons c r => exact ⟨c, r, rfl⟩
    have hlen : a + (r.length + 1) = T.length := by
      have := congrArg List.length hd
      rw [List.length_drop, List.length_cons] at this
      omega
    have hd1 : T.drop (a + 1) = r := by rw [← List.drop_drop, hd]; rfl
    have hk : okl [c] = true := by
      have := hT.1
      have h2 := okl_drop (n := a) this
      rw [hd] at h2
      unfold okl at h2 ⊢
      rw [List.all_cons, Bool.and_eq_true] at h2
      rw [List.all_cons, h2.1]; rfl
    have hix : T[a]? = some c := by
      rw [show T[a]? = (T.drop a)[0]? by rw [List.getElem?_drop, Nat.add_zero], hd]; rfl
    simp only [ixS hix, lr_head, lit_comma, lit_open, w_notT, w_isiBC, w_ret, w_retF, w_retN, w_sif, w_seq, w_asg, w_drop, w_par, w_aug, w_for, w_next, w_brk, w_cnt, w_sfld, w_raise, w_thru, w_andV, w_orV, w_notV, w_and, w_or, w_not, w_if, w_test, w_tru, w_isiB, w_var, w_int, w_str, w_bl, w_non, w_op, w_chain, w_neg, w_cons, w_nil, w_tup, w_lst, w_newT, w_sl, w_oN, w_oS, w_B, w_call, w_fld, w_lc, w_yes, w_jAny, w_rng1, w_rng2, w_zip, w_gNm, w_gvNm, w_gTup, w_gsN, w_gsC, o_sub, o_mod, o_lt, o_le, o_gt, o_ge, o_add, o_addT, o_addL, o_mul, o_ixT, o_ixL, o_ixF, o_eqI, o_neI, o_isN, o_isNotN, o_isB, f_all, f_lenT, f_lenL, f_lenF, f_int, f_tupL, f_tupT, i_tup, i_lst, i_frz, i_rng, i_zipT, i_zipL, s_tup, s_lst, p_some, u_bl, u_int, u_tup, u_lst, wipeD, List.getElem?_cons_zero, List.getElem?_cons_succ, List.set_cons_zero, List.set_cons_succ, List.length_cons, List.length_nil, true_and, and_true, if_and, if_or, Bool.false_eq_true, if_false, if_true, ite_true, ite_false, Bool.not_true, Bool.not_false]
    refine ⟨hT.sz, ?_⟩
    have ha1 : (a : Int) + 1 = ((a + 1 : Nat) : Int) := by omega
    rw [hd] at hac
    cases b with
    | true =>
      rw [accA_behind] at hac
      simp only [w_notT, w_isiBC, w_ret, w_retF, w_retN, w_sif, w_seq, w_asg, w_drop, w_par, w_aug, w_for, w_next, w_brk, w_cnt, w_sfld, w_raise, w_thru, w_andV, w_orV, w_notV, w_and, w_or, w_not, w_if, w_test, w_tru, w_isiB, w_var, w_int, w_str, w_bl, w_non, w_op, w_chain, w_neg, w_cons, w_nil, w_tup, w_lst, w_newT, w_sl, w_oN, w_oS, w_B, w_call, w_fld, w_lc, w_yes, w_jAny, w_rng1, w_rng2, w_zip, w_gNm, w_gvNm, w_gTup, w_gsN, w_gsC, o_sub, o_mod, o_lt, o_le, o_gt, o_ge, o_add, o_addT, o_addL, o_mul, o_ixT, o_ixL, o_ixF, o_eqI, o_neI, o_isN, o_isNotN, o_isB, f_all, f_lenT, f_lenL, f_lenF, f_int, f_tupL, f_tupT, i_tup, i_lst, i_frz, i_rng, i_zipT, i_zipL, s_tup, s_lst, p_some, u_bl, u_int, u_tup, u_lst, wipeD, List.getElem?_cons_zero, List.getElem?_cons_succ, List.set_cons_zero, List.set_cons_succ, List.length_cons, List.length_nil, true_and, and_true, if_and, if_or, Bool.false_eq_true, if_false, if_true, ite_true, ite_false, Bool.not_true, Bool.not_false]
      by_cases hd0 : d = 0
      · rw [decide_eq_true (show ((d : Nat) : Int) = 0 by omega)]
        simp only [w_notT, w_isiBC, w_ret, w_retF, w_retN, w_sif, w_seq, w_asg, w_drop, w_par, w_aug, w_for, w_next, w_brk, w_cnt, w_sfld, w_raise, w_thru, w_andV, w_orV, w_notV, w_and, w_or, w_not, w_if, w_test, w_tru, w_isiB, w_var, w_int, w_str, w_bl, w_non, w_op, w_chain, w_neg, w_cons, w_nil, w_tup, w_lst, w_newT, w_sl, w_oN, w_oS, w_B, w_call, w_fld, w_lc, w_yes, w_jAny, w_rng1, w_rng2, w_zip, w_gNm, w_gvNm, w_gTup, w_gsN, w_gsC, o_sub, o_mod, o_lt, o_le, o_gt, o_ge, o_add, o_addT, o_addL, o_mul, o_ixT, o_ixL, o_ixF, o_eqI, o_neI, o_isN, o_isNotN, o_isB, f_all, f_lenT, f_lenL, f_lenF, f_int, f_tupL, f_tupT, i_tup, i_lst, i_frz, i_rng, i_zipT, i_zipL, s_tup, s_lst, p_some, u_bl, u_int, u_tup, u_lst, wipeD, List.getElem?_cons_zero, List.getElem?_cons_succ, List.set_cons_zero, List.set_cons_succ, List.length_cons, List.length_nil, true_and, and_true, if_and, if_or, Bool.false_eq_true, if_false, if_true, ite_true, ite_false, Bool.not_true, Bool.not_false]
        refine N.rt ?_
        rw [← hac, hd0]
        rfl
      · rw [decide_eq_false (show ¬ ((d : Nat) : Int) = 0 by omega)]
        simp only [o_neS, w_notT, w_isiBC, w_ret, w_retF, w_retN, w_sif, w_seq, w_asg, w_drop, w_par, w_aug, w_for, w_next, w_brk, w_cnt, w_sfld, w_raise, w_thru, w_andV, w_orV, w_notV, w_and, w_or, w_not, w_if, w_test, w_tru, w_isiB, w_var, w_int, w_str, w_bl, w_non, w_op, w_chain, w_neg, w_cons, w_nil, w_tup, w_lst, w_newT, w_sl, w_oN, w_oS, w_B, w_call, w_fld, w_lc, w_yes, w_jAny, w_rng1, w_rng2, w_zip, w_gNm, w_gvNm, w_gTup, w_gsN, w_gsC, o_sub, o_mod, o_lt, o_le, o_gt, o_ge, o_add, o_addT, o_addL, o_mul, o_ixT, o_ixL, o_ixF, o_eqI, o_neI, o_isN, o_isNotN, o_isB, f_all, f_lenT, f_lenL, f_lenF, f_int, f_tupL, f_tupT, i_tup, i_lst, i_frz, i_rng, i_zipT, i_zipL, s_tup, s_lst, p_some, u_bl, u_int, u_tup, u_lst, wipeD, List.getElem?_cons_zero, List.getElem?_cons_succ, List.set_cons_zero, List.set_cons_succ, List.length_cons, List.length_nil, true_and, and_true, if_and, if_or, Bool.false_eq_true, if_false, if_true, ite_true, ite_false, Bool.not_true, Bool.not_false]
        refine ⟨hk, rfl, ?_⟩
        rw [decide_eq_true hd0, Bool.true_and] at hac
        by_cases h44 : c = 44
        · rw [decide_eq_true (show [c] = [44] by rw [h44])]
          rw [decide_eq_true h44, Bool.true_and] at hac
          simp only [ha1, w_notT, w_isiBC, w_ret, w_retF, w_retN, w_sif, w_seq, w_asg, w_drop, w_par, w_aug, w_for, w_next, w_brk, w_cnt, w_sfld, w_raise, w_thru, w_andV, w_orV, w_notV, w_and, w_or, w_not, w_if, w_test, w_tru, w_isiB, w_var, w_int, w_str, w_bl, w_non, w_op, w_chain, w_neg, w_cons, w_nil, w_tup, w_lst, w_newT, w_sl, w_oN, w_oS, w_B, w_call, w_fld, w_lc, w_yes, w_jAny, w_rng1, w_rng2, w_zip, w_gNm, w_gvNm, w_gTup, w_gsN, w_gsC, o_sub, o_mod, o_lt, o_le, o_gt, o_ge, o_add, o_addT, o_addL, o_mul, o_ixT, o_ixL, o_ixF, o_eqI, o_neI, o_isN, o_isNotN, o_isB, f_all, f_lenT, f_lenL, f_lenF, f_int, f_tupL, f_tupT, i_tup, i_lst, i_frz, i_rng, i_zipT, i_zipL, s_tup, s_lst, p_some, u_bl, u_int, u_tup, u_lst, wipeD, List.getElem?_cons_zero, List.getElem?_cons_succ, List.set_cons_zero, List.set_cons_succ, List.length_cons, List.length_nil, true_and, and_true, if_and, if_or, Bool.false_eq_true, if_false, if_true, ite_true, ite_false, Bool.not_true, Bool.not_false]
          exact N.nx d (a + 1) false _ _ _ _ (by omega) (by omega) (by rw [hd1]; exact hac)
        · rw [decide_eq_false (show ¬ [c] = [44] from fun e => h44 (List.cons.inj e).1)]
          simp only [w_notT, w_isiBC, w_ret, w_retF, w_retN, w_sif, w_seq, w_asg, w_drop, w_par, w_aug, w_for, w_next, w_brk, w_cnt, w_sfld, w_raise, w_thru, w_andV, w_orV, w_notV, w_and, w_or, w_not, w_if, w_test, w_tru, w_isiB, w_var, w_int, w_str, w_bl, w_non, w_op, w_chain, w_neg, w_cons, w_nil, w_tup, w_lst, w_newT, w_sl, w_oN, w_oS, w_B, w_call, w_fld, w_lc, w_yes, w_jAny, w_rng1, w_rng2, w_zip, w_gNm, w_gvNm, w_gTup, w_gsN, w_gsC, o_sub, o_mod, o_lt, o_le, o_gt, o_ge, o_add, o_addT, o_addL, o_mul, o_ixT, o_ixL, o_ixF, o_eqI, o_neI, o_isN, o_isNotN, o_isB, f_all, f_lenT, f_lenL, f_lenF, f_int, f_tupL, f_tupT, i_tup, i_lst, i_frz, i_rng, i_zipT, i_zipL, s_tup, s_lst, p_some, u_bl, u_int, u_tup, u_lst, wipeD, List.getElem?_cons_zero, List.getElem?_cons_succ, List.set_cons_zero, List.set_cons_succ, List.length_cons, List.length_nil, true_and, and_true, if_and, if_or, Bool.false_eq_true, if_false, if_true, ite_true, ite_false, Bool.not_true, Bool.not_false]
          refine N.rt ?_
          rw [← hac, decide_eq_false h44]
          rfl
    | false =>
      simp only [o_eqS, w_notT, w_isiBC, w_ret, w_retF, w_retN, w_sif, w_seq, w_asg, w_drop, w_par, w_aug, w_for, w_next, w_brk, w_cnt, w_sfld, w_raise, w_thru, w_andV, w_orV, w_notV, w_and, w_or, w_not, w_if, w_test, w_tru, w_isiB, w_var, w_int, w_str, w_bl, w_non, w_op, w_chain, w_neg, w_cons, w_nil, w_tup, w_lst, w_newT, w_sl, w_oN, w_oS, w_B, w_call, w_fld, w_lc, w_yes, w_jAny, w_rng1, w_rng2, w_zip, w_gNm, w_gvNm, w_gTup, w_gsN, w_gsC, o_sub, o_mod, o_lt, o_le, o_gt, o_ge, o_add, o_addT, o_addL, o_mul, o_ixT, o_ixL, o_ixF, o_eqI, o_neI, o_isN, o_isNotN, o_isB, f_all, f_lenT, f_lenL, f_lenF, f_int, f_tupL, f_tupT, i_tup, i_lst, i_frz, i_rng, i_zipT, i_zipL, s_tup, s_lst, p_some, u_bl, u_int, u_tup, u_lst, wipeD, List.getElem?_cons_zero, List.getElem?_cons_succ, List.set_cons_zero, List.set_cons_succ, List.length_cons, List.length_nil, true_and, and_true, if_and, if_or, Bool.false_eq_true, if_false, if_true, ite_true, ite_false, Bool.not_true, Bool.not_false]
      refine ⟨hk, rfl, ?_⟩
      by_cases h40 : c = 40
      · subst h40
        rw [accA_open] at hac
        rw [decide_eq_true rfl]
        simp only [w_notT, w_isiBC, w_ret, w_retF, w_retN, w_sif, w_seq, w_asg, w_drop, w_par, w_aug, w_for, w_next, w_brk, w_cnt, w_sfld, w_raise, w_thru, w_andV, w_orV, w_notV, w_and, w_or, w_not, w_if, w_test, w_tru, w_isiB, w_var, w_int, w_str, w_bl, w_non, w_op, w_chain, w_neg, w_cons, w_nil, w_tup, w_lst, w_newT, w_sl, w_oN, w_oS, w_B, w_call, w_fld, w_lc, w_yes, w_jAny, w_rng1, w_rng2, w_zip, w_gNm, w_gvNm, w_gTup, w_gsN, w_gsC, o_sub, o_mod, o_lt, o_le, o_gt, o_ge, o_add, o_addT, o_addL, o_mul, o_ixT, o_ixL, o_ixF, o_eqI, o_neI, o_isN, o_isNotN, o_isB, f_all, f_lenT, f_lenL, f_lenF, f_int, f_tupL, f_tupT, i_tup, i_lst, i_frz, i_rng, i_zipT, i_zipL, s_tup, s_lst, p_some, u_bl, u_int, u_tup, u_lst, wipeD, List.getElem?_cons_zero, List.getElem?_cons_succ, List.set_cons_zero, List.set_cons_succ, List.length_cons, List.length_nil, true_and, and_true, if_and, if_or, Bool.false_eq_true, if_false, if_true, ite_true, ite_false, Bool.not_true, Bool.not_false]
        by_cases h60 : d + 1 ≤ 60
        · rw [decide_eq_false (show ¬ (60 : Int) < (d : Nat) + 1 by omega)]
          rw [decide_eq_true h60, Bool.true_and] at hac
          simp only [w_notT, w_isiBC, w_ret, w_retF, w_retN, w_sif, w_seq, w_asg, w_drop, w_par, w_aug, w_for, w_next, w_brk, w_cnt, w_sfld, w_raise, w_thru, w_andV, w_orV, w_notV, w_and, w_or, w_not, w_if, w_test, w_tru, w_isiB, w_var, w_int, w_str, w_bl, w_non, w_op, w_chain, w_neg, w_cons, w_nil, w_tup, w_lst, w_newT, w_sl, w_oN, w_oS, w_B, w_call, w_fld, w_lc, w_yes, w_jAny, w_rng1, w_rng2, w_zip, w_gNm, w_gvNm, w_gTup, w_gsN, w_gsC, o_sub, o_mod, o_lt, o_le, o_gt, o_ge, o_add, o_addT, o_addL, o_mul, o_ixT, o_ixL, o_ixF, o_eqI, o_neI, o_isN, o_isNotN, o_isB, f_all, f_lenT, f_lenL, f_lenF, f_int, f_tupL, f_tupT, i_tup, i_lst, i_frz, i_rng, i_zipT, i_zipL, s_tup, s_lst, p_some, u_bl, u_int, u_tup, u_lst, wipeD, List.getElem?_cons_zero, List.getElem?_cons_succ, List.set_cons_zero, List.set_cons_succ, List.length_cons, List.length_nil, true_and, and_true, if_and, if_or, Bool.false_eq_true, if_false, if_true, ite_true, ite_false, Bool.not_true, Bool.not_false]
          have ed : ((d : Nat) : Int) + 1 = ((d + 1 : Nat) : Int) := by omega
          rw [ed, ha1]
          exact N.nx (d + 1) (a + 1) false _ _ _ _ (by omega) (by omega) (by rw [hd1]; exact hac)
        · rw [decide_eq_true (show (60 : Int) < (d : Nat) + 1 by omega)]
          simp only [w_notT, w_isiBC, w_ret, w_retF, w_retN, w_sif, w_seq, w_asg, w_drop, w_par, w_aug, w_for, w_next, w_brk, w_cnt, w_sfld, w_raise, w_thru, w_andV, w_orV, w_notV, w_and, w_or, w_not, w_if, w_test, w_tru, w_isiB, w_var, w_int, w_str, w_bl, w_non, w_op, w_chain, w_neg, w_cons, w_nil, w_tup, w_lst, w_newT, w_sl, w_oN, w_oS, w_B, w_call, w_fld, w_lc, w_yes, w_jAny, w_rng1, w_rng2, w_zip, w_gNm, w_gvNm, w_gTup, w_gsN, w_gsC, o_sub, o_mod, o_lt, o_le, o_gt, o_ge, o_add, o_addT, o_addL, o_mul, o_ixT, o_ixL, o_ixF, o_eqI, o_neI, o_isN, o_isNotN, o_isB, f_all, f_lenT, f_lenL, f_lenF, f_int, f_tupL, f_tupT, i_tup, i_lst, i_frz, i_rng, i_zipT, i_zipL, s_tup, s_lst, p_some, u_bl, u_int, u_tup, u_lst, wipeD, List.getElem?_cons_zero, List.getElem?_cons_succ, List.set_cons_zero, List.set_cons_succ, List.length_cons, List.length_nil, true_and, and_true, if_and, if_or, Bool.false_eq_true, if_false, if_true, ite_true, ite_false, Bool.not_true, Bool.not_false]
          refine N.rt ?_
          rw [← hac, decide_eq_false h60]
          rfl
      · rw [decide_eq_false (show ¬ [c] = [40] from fun e => h40 (List.cons.inj e).1)]
        simp only [lr_close, lit_close, o_eqS, w_notT, w_isiBC, w_ret, w_retF, w_retN, w_sif, w_seq, w_asg, w_drop, w_par, w_aug, w_for, w_next, w_brk, w_cnt, w_sfld, w_raise, w_thru, w_andV, w_orV, w_notV, w_and, w_or, w_not, w_if, w_test, w_tru, w_isiB, w_var, w_int, w_str, w_bl, w_non, w_op, w_chain, w_neg, w_cons, w_nil, w_tup, w_lst, w_newT, w_sl, w_oN, w_oS, w_B, w_call, w_fld, w_lc, w_yes, w_jAny, w_rng1, w_rng2, w_zip, w_gNm, w_gvNm, w_gTup, w_gsN, w_gsC, o_sub, o_mod, o_lt, o_le, o_gt, o_ge, o_add, o_addT, o_addL, o_mul, o_ixT, o_ixL, o_ixF, o_eqI, o_neI, o_isN, o_isNotN, o_isB, f_all, f_lenT, f_lenL, f_lenF, f_int, f_tupL, f_tupT, i_tup, i_lst, i_frz, i_rng, i_zipT, i_zipL, s_tup, s_lst, p_some, u_bl, u_int, u_tup, u_lst, wipeD, List.getElem?_cons_zero, List.getElem?_cons_succ, List.set_cons_zero, List.set_cons_succ, List.length_cons, List.length_nil, true_and, and_true, if_and, if_or, Bool.false_eq_true, if_false, if_true, ite_true, ite_false, Bool.not_true, Bool.not_false]
        refine ⟨hk, rfl, ?_⟩
        by_cases h41 : c = 41
        · subst h41
          rw [accA_close] at hac
          rw [decide_eq_true rfl]
          simp only [w_notT, w_isiBC, w_ret, w_retF, w_retN, w_sif, w_seq, w_asg, w_drop, w_par, w_aug, w_for, w_next, w_brk, w_cnt, w_sfld, w_raise, w_thru, w_andV, w_orV, w_notV, w_and, w_or, w_not, w_if, w_test, w_tru, w_isiB, w_var, w_int, w_str, w_bl, w_non, w_op, w_chain, w_neg, w_cons, w_nil, w_tup, w_lst, w_newT, w_sl, w_oN, w_oS, w_B, w_call, w_fld, w_lc, w_yes, w_jAny, w_rng1, w_rng2, w_zip, w_gNm, w_gvNm, w_gTup, w_gsN, w_gsC, o_sub, o_mod, o_lt, o_le, o_gt, o_ge, o_add, o_addT, o_addL, o_mul, o_ixT, o_ixL, o_ixF, o_eqI, o_neI, o_isN, o_isNotN, o_isB, f_all, f_lenT, f_lenL, f_lenF, f_int, f_tupL, f_tupT, i_tup, i_lst, i_frz, i_rng, i_zipT, i_zipL, s_tup, s_lst, p_some, u_bl, u_int, u_tup, u_lst, wipeD, List.getElem?_cons_zero, List.getElem?_cons_succ, List.set_cons_zero, List.set_cons_succ, List.length_cons, List.length_nil, true_and, and_true, if_and, if_or, Bool.false_eq_true, if_false, if_true, ite_true, ite_false, Bool.not_true, Bool.not_false]
          by_cases hd0 : d = 0
          · rw [decide_eq_true (show ((d : Nat) : Int) - 1 < 0 by omega)]
            simp only [w_notT, w_isiBC, w_ret, w_retF, w_retN, w_sif, w_seq, w_asg, w_drop, w_par, w_aug, w_for, w_next, w_brk, w_cnt, w_sfld, w_raise, w_thru, w_andV, w_orV, w_notV, w_and, w_or, w_not, w_if, w_test, w_tru, w_isiB, w_var, w_int, w_str, w_bl, w_non, w_op, w_chain, w_neg, w_cons, w_nil, w_tup, w_lst, w_newT, w_sl, w_oN, w_oS, w_B, w_call, w_fld, w_lc, w_yes, w_jAny, w_rng1, w_rng2, w_zip, w_gNm, w_gvNm, w_gTup, w_gsN, w_gsC, o_sub, o_mod, o_lt, o_le, o_gt, o_ge, o_add, o_addT, o_addL, o_mul, o_ixT, o_ixL, o_ixF, o_eqI, o_neI, o_isN, o_isNotN, o_isB, f_all, f_lenT, f_lenL, f_lenF, f_int, f_tupL, f_tupT, i_tup, i_lst, i_frz, i_rng, i_zipT, i_zipL, s_tup, s_lst, p_some, u_bl, u_int, u_tup, u_lst, wipeD, List.getElem?_cons_zero, List.getElem?_cons_succ, List.set_cons_zero, List.set_cons_succ, List.length_cons, List.length_nil, true_and, and_true, if_and, if_or, Bool.false_eq_true, if_false, if_true, ite_true, ite_false, Bool.not_true, Bool.not_false]
            refine N.rt ?_
            rw [← hac, hd0]
            rfl
          · rw [decide_eq_false (show ¬ ((d : Nat) : Int) - 1 < 0 by omega)]
            rw [decide_eq_true hd0, Bool.true_and] at hac
            simp only [w_notT, w_isiBC, w_ret, w_retF, w_retN, w_sif, w_seq, w_asg, w_drop, w_par, w_aug, w_for, w_next, w_brk, w_cnt, w_sfld, w_raise, w_thru, w_andV, w_orV, w_notV, w_and, w_or, w_not, w_if, w_test, w_tru, w_isiB, w_var, w_int, w_str, w_bl, w_non, w_op, w_chain, w_neg, w_cons, w_nil, w_tup, w_lst, w_newT, w_sl, w_oN, w_oS, w_B, w_call, w_fld, w_lc, w_yes, w_jAny, w_rng1, w_rng2, w_zip, w_gNm, w_gvNm, w_gTup, w_gsN, w_gsC, o_sub, o_mod, o_lt, o_le, o_gt, o_ge, o_add, o_addT, o_addL, o_mul, o_ixT, o_ixL, o_ixF, o_eqI, o_neI, o_isN, o_isNotN, o_isB, f_all, f_lenT, f_lenL, f_lenF, f_int, f_tupL, f_tupT, i_tup, i_lst, i_frz, i_rng, i_zipT, i_zipL, s_tup, s_lst, p_some, u_bl, u_int, u_tup, u_lst, wipeD, List.getElem?_cons_zero, List.getElem?_cons_succ, List.set_cons_zero, List.set_cons_succ, List.length_cons, List.length_nil, true_and, and_true, if_and, if_or, Bool.false_eq_true, if_false, if_true, ite_true, ite_false, Bool.not_true, Bool.not_false]
            have ed : ((d : Nat) : Int) - 1 = ((d - 1 : Nat) : Int) := by omega
            rw [ed, ha1]
            exact N.nx (d - 1) (a + 1) true _ _ _ _ (by omega) (by omega) (by rw [hd1]; exact hac)
        · rw [decide_eq_false (show ¬ [c] = [41] from fun e => h41 (List.cons.inj e).1)]
          simp only [w_notT, w_isiBC, w_ret, w_retF, w_retN, w_sif, w_seq, w_asg, w_drop, w_par, w_aug, w_for, w_next, w_brk, w_cnt, w_sfld, w_raise, w_thru, w_andV, w_orV, w_notV, w_and, w_or, w_not, w_if, w_test, w_tru, w_isiB, w_var, w_int, w_str, w_bl, w_non, w_op, w_chain, w_neg, w_cons, w_nil, w_tup, w_lst, w_newT, w_sl, w_oN, w_oS, w_B, w_call, w_fld, w_lc, w_yes, w_jAny, w_rng1, w_rng2, w_zip, w_gNm, w_gvNm, w_gTup, w_gsN, w_gsC, o_sub, o_mod, o_lt, o_le, o_gt, o_ge, o_add, o_addT, o_addL, o_mul, o_ixT, o_ixL, o_ixF, o_eqI, o_neI, o_isN, o_isNotN, o_isB, f_all, f_lenT, f_lenL, f_lenF, f_int, f_tupL, f_tupT, i_tup, i_lst, i_frz, i_rng, i_zipT, i_zipL, s_tup, s_lst, p_some, u_bl, u_int, u_tup, u_lst, wipeD, List.getElem?_cons_zero, List.getElem?_cons_succ, List.set_cons_zero, List.set_cons_succ, List.length_cons, List.length_nil, true_and, and_true, if_and, if_or, Bool.false_eq_true, if_false, if_true, ite_true, ite_false, Bool.not_true, Bool.not_false]
          rw [accA_leaf h40 h41] at hac
          refine w_lr_quote (r := r) ⟨fun v k y7 hl => ?_, fun hl => N.rt ?_⟩ hT hd
          · obtain ⟨k1, k2⟩ := leafL_pos hl
            rw [hl] at hac
            rw [List.length_cons] at k2
            simp only [w_notT, w_isiBC, w_ret, w_retF, w_retN, w_sif, w_seq, w_asg, w_drop, w_par, w_aug, w_for, w_next, w_brk, w_cnt, w_sfld, w_raise, w_thru, w_andV, w_orV, w_notV, w_and, w_or, w_not, w_if, w_test, w_tru, w_isiB, w_var, w_int, w_str, w_bl, w_non, w_op, w_chain, w_neg, w_cons, w_nil, w_tup, w_lst, w_newT, w_sl, w_oN, w_oS, w_B, w_call, w_fld, w_lc, w_yes, w_jAny, w_rng1, w_rng2, w_zip, w_gNm, w_gvNm, w_gTup, w_gsN, w_gsC, o_sub, o_mod, o_lt, o_le, o_gt, o_ge, o_add, o_addT, o_addL, o_mul, o_ixT, o_ixL, o_ixF, o_eqI, o_neI, o_isN, o_isNotN, o_isB, f_all, f_lenT, f_lenL, f_lenF, f_int, f_tupL, f_tupT, i_tup, i_lst, i_frz, i_rng, i_zipT, i_zipL, s_tup, s_lst, p_some, u_bl, u_int, u_tup, u_lst, wipeD, List.getElem?_cons_zero, List.getElem?_cons_succ, List.set_cons_zero, List.set_cons_succ, List.length_cons, List.length_nil, true_and, and_true, if_and, if_or, Bool.false_eq_true, if_false, if_true, ite_true, ite_false, Bool.not_true, Bool.not_false]
            exact N.nx d (a + k) true _ _ _ _ (by omega) (by omega) (by rw [← List.drop_drop, hd]; exact hac)
          · rw [← hac, hl]
end
theorem w_law_reads : ∀ ds H Q E, ds.length = 1 → sp_law_reads ds H Q E → (b__law_reads K).w (endsD Q E) (startD ["text", "depth", "at", "ended", "turn", "sign", "end", "word", "one"] ds) H := by
  rintro _ H Q E - ⟨T, rfl, hk, hz, q⟩
  have hT : TxOk T := ⟨hk, by omega⟩
  simp only [_law_reads_split, show startD ["text", "depth", "at", "ended", "turn", "sign", "end", "word", "one"] [.str (S T)] = [some (.str (S T)), none, none, none, none, none, none, none, none] from rfl, f_lenS, w_notT, w_isiBC, w_ret, w_retF, w_retN, w_sif, w_seq, w_asg, w_drop, w_par, w_aug, w_for, w_next, w_brk, w_cnt, w_sfld, w_raise, w_thru, w_andV, w_orV, w_notV, w_and, w_or, w_not, w_if, w_test, w_tru, w_isiB, w_var, w_int, w_str, w_bl, w_non, w_op, w_chain, w_neg, w_cons, w_nil, w_tup, w_lst, w_newT, w_sl, w_oN, w_oS, w_B, w_call, w_fld, w_lc, w_yes, w_jAny, w_rng1, w_rng2, w_zip, w_gNm, w_gvNm, w_gTup, w_gsN, w_gsC, o_sub, o_mod, o_lt, o_le, o_gt, o_ge, o_add, o_addT, o_addL, o_mul, o_ixT, o_ixL, o_ixF, o_eqI, o_neI, o_isN, o_isNotN, o_isB, f_all, f_lenT, f_lenL, f_lenF, f_int, f_tupL, f_tupT, i_tup, i_lst, i_frz, i_rng, i_zipT, i_zipL, s_tup, s_lst, p_some, u_bl, u_int, u_tup, u_lst, wipeD, List.getElem?_cons_zero, List.getElem?_cons_succ, List.set_cons_zero, List.set_cons_succ, List.length_cons, List.length_nil, true_and, and_true, if_and, if_or, Bool.false_eq_true, if_false, if_true, ite_true, ite_false, Bool.not_true, Bool.not_false]
  refine ⟨hT.sz, by omega, by omega, ?_⟩
  have fin : ∀ (d a : Nat) (b : Bool) (y4 y5 y6 y7 : Option D), a = T.length → accA [] d b = accA T 0 false → ((sRet (bAndV (bVar 3) (bAndV (bOp opEq (bVar 1) (bInt 0)) (bOp opEq (bVar 2) (bB fLen (aCons (bVar 0) aNil)))))) : SW (plainC K)).w (endsD Q E) (stR T d a b y4 y5 y6 y7) H := fun d a b y4 y5 y6 y7 ha hac => by
    subst ha
    rw [accA_nil] at hac
    simp only [f_lenS, w_notT, w_isiBC, w_ret, w_retF, w_retN, w_sif, w_seq, w_asg, w_drop, w_par, w_aug, w_for, w_next, w_brk, w_cnt, w_sfld, w_raise, w_thru, w_andV, w_orV, w_notV, w_and, w_or, w_not, w_if, w_test, w_tru, w_isiB, w_var, w_int, w_str, w_bl, w_non, w_op, w_chain, w_neg, w_cons, w_nil, w_tup, w_lst, w_newT, w_sl, w_oN, w_oS, w_B, w_call, w_fld, w_lc, w_yes, w_jAny, w_rng1, w_rng2, w_zip, w_gNm, w_gvNm, w_gTup, w_gsN, w_gsC, o_sub, o_mod, o_lt, o_le, o_gt, o_ge, o_add, o_addT, o_addL, o_mul, o_ixT, o_ixL, o_ixF, o_eqI, o_neI, o_isN, o_isNotN, o_isB, f_all, f_lenT, f_lenL, f_lenF, f_int, f_tupL, f_tupT, i_tup, i_lst, i_frz, i_rng, i_zipT, i_zipL, s_tup, s_lst, p_some, u_bl, u_int, u_tup, u_lst, wipeD, List.getElem?_cons_zero, List.getElem?_cons_succ, List.set_cons_zero, List.set_cons_succ, List.length_cons, List.length_nil, true_and, and_true, if_and, if_or, Bool.false_eq_true, if_false, if_true, ite_true, ite_false, Bool.not_true, Bool.not_false]
    rw [← hac] at q
    cases b with
    | false => exact endsD_rt q
    | true =>
      simp only [f_lenS, w_notT, w_isiBC, w_ret, w_retF, w_retN, w_sif, w_seq, w_asg, w_drop, w_par, w_aug, w_for, w_next, w_brk, w_cnt, w_sfld, w_raise, w_thru, w_andV, w_orV, w_notV, w_and, w_or, w_not, w_if, w_test, w_tru, w_isiB, w_var, w_int, w_str, w_bl, w_non, w_op, w_chain, w_neg, w_cons, w_nil, w_tup, w_lst, w_newT, w_sl, w_oN, w_oS, w_B, w_call, w_fld, w_lc, w_yes, w_jAny, w_rng1, w_rng2, w_zip, w_gNm, w_gvNm, w_gTup, w_gsN, w_gsC, o_sub, o_mod, o_lt, o_le, o_gt, o_ge, o_add, o_addT, o_addL, o_mul, o_ixT, o_ixL, o_ixF, o_eqI, o_neI, o_isN, o_isNotN, o_isB, f_all, f_lenT, f_lenL, f_lenF, f_int, f_tupL, f_tupT, i_tup, i_lst, i_frz, i_rng, i_zipT, i_zipL, s_tup, s_lst, p_some, u_bl, u_int, u_tup, u_lst, wipeD, List.getElem?_cons_zero, List.getElem?_cons_succ, List.set_cons_zero, List.set_cons_succ, List.length_cons, List.length_nil, true_and, and_true, if_and, if_or, Bool.false_eq_true, if_false, if_true, ite_true, ite_false, Bool.not_true, Bool.not_false]
      by_cases hd : d = 0
      · rw [decide_eq_true (show ((d : Nat) : Int) = 0 by omega)]
        rw [decide_eq_true hd] at q
        simp only [f_lenS, w_notT, w_isiBC, w_ret, w_retF, w_retN, w_sif, w_seq, w_asg, w_drop, w_par, w_aug, w_for, w_next, w_brk, w_cnt, w_sfld, w_raise, w_thru, w_andV, w_orV, w_notV, w_and, w_or, w_not, w_if, w_test, w_tru, w_isiB, w_var, w_int, w_str, w_bl, w_non, w_op, w_chain, w_neg, w_cons, w_nil, w_tup, w_lst, w_newT, w_sl, w_oN, w_oS, w_B, w_call, w_fld, w_lc, w_yes, w_jAny, w_rng1, w_rng2, w_zip, w_gNm, w_gvNm, w_gTup, w_gsN, w_gsC, o_sub, o_mod, o_lt, o_le, o_gt, o_ge, o_add, o_addT, o_addL, o_mul, o_ixT, o_ixL, o_ixF, o_eqI, o_neI, o_isN, o_isNotN, o_isB, f_all, f_lenT, f_lenL, f_lenF, f_int, f_tupL, f_tupT, i_tup, i_lst, i_frz, i_rng, i_zipT, i_zipL, s_tup, s_lst, p_some, u_bl, u_int, u_tup, u_lst, wipeD, List.getElem?_cons_zero, List.getElem?_cons_succ, List.set_cons_zero, List.set_cons_succ, List.length_cons, List.length_nil, true_and, and_true, if_and, if_or, Bool.false_eq_true, if_false, if_true, ite_true, ite_false, Bool.not_true, Bool.not_false]
        refine ⟨hT.sz, ?_⟩
        simp only [decide_true]
        exact endsD_rt q
      · rw [decide_eq_false (show ¬ ((d : Nat) : Int) = 0 by omega)]
        rw [decide_eq_false hd] at q
        exact endsD_rt q
  refine for_all _ (fun i σ H' => H' = H ∧ ∃ (d a : Nat) (b : Bool) (y4 y5 y6 y7 : Option D), σ = stR T d a b y4 y5 y6 y7 ∧ i ≤ a ∧ a ≤ T.length ∧ accA (T.drop a) d b = accA T 0 false) ⟨rfl, 0, 0, false, none, none, none, none, rfl, Nat.le_refl _, Nat.zero_le _, rfl⟩ (fun _ _ _ _ => trivial) ?_ ?_
  · rintro i x _ _ hx ⟨rfl, d, a, b, y4, y5, y6, y7, rfl, hi, ha, hac⟩ k hkk
    refine w_lr_turn (y4 := some x) ⟨fun d' a' b' z4 z5 z6 z7 h1 h2 h3 => hkk _ _ ⟨rfl, d', a', b', z4, z5, z6, z7, rfl, by omega, h2, h3⟩, fun d' b' z4 z5 z6 z7 h3 => fin d' _ b' z4 z5 z6 z7 rfl h3, fun hf => ?_⟩ hT ha hac
    rw [hf] at q
    exact endsD_rt (E := E) q
  · rintro _ _ ⟨rfl, d, a, b, y4, y5, y6, y7, rfl, hi, ha, hac⟩
    rw [List.length_map, List.length_range] at hi
    have e : a = T.length := by omega
    rw [e, List.drop_length] at hac
    exact fin d a b y4 y5 y6 y7 e hac
end
end G
set_option Elab.async false
set_option linter.all false
set_option maxRecDepth 100000
namespace G
open PySem PySem.Spec PyProof.Rows L2
section
variable {K : PySem.W.Frag}
theorem w_tryAs {i : Nat} {h : Hit K} {b : SW (plainC K)} {su : XSW K} {DD : DEnds} {σ : DS} {H : DH} : (sTryAs i h b su).w DD σ H = b.w { DD with ex := fun cn fs σ' H' => optP (h.tab cn) fun k => if k = true then ∀ a, H' a = none → su.w a cn fs { DD with ex := noEx, nx := fun σ H => DD.nx (σ.set i none) H, bk := fun σ H => DD.bk (σ.set i none) H, ct := fun σ H => DD.ct (σ.set i none) H } (σ'.set i (some (.ref a))) H' else DD.ex cn fs σ' H' } σ H := rfl
theorem w_suX {b : ∀ e : Exc, SW ⟨K, some e⟩} {a : Addr} {cn : Str} {fs : List (Str × D)} {DD : DEnds} {σ : DS} {H : DH} : (suX b).w a cn fs DD σ H = ∀ cls dd, (b ⟨a, cls, dd, cn, fs⟩).w DD σ H := rfl
theorem w_xf {e : Exc} {cn f : Str} {a : TW ⟨K, some e⟩} {σ : DS} {H : DH} {Q : DQ} {E : DX1} : (bXf e cn f a).w σ H Q E = a.w σ H (fun x H1 => match x with
  | .ref p => p = e.a ∧ e.cn = cn ∧ optP (e.fs.lookup f) fun d => Q d H1
  | _ => False) E := rfl
theorem xt_text {T : List Nat} {i : Nat} : List.lookup ("text" : Str) (xT T i) = some (.str (S T)) := by
  unfold xT
  simp only [List.lookup, beq_self_eq_true]
theorem xt_at {T : List Nat} {i : Nat} : List.lookup ("at" : Str) (xT T i) = some (.int (i : Nat)) := by
  unfold xT
  simp only [List.lookup, beq_self_eq_true, show (("at" : Str) == "text") = false from by decide +kernel]
def sp_told : DSp := sp_text_of
theorem w_told : ∀ ds H Q E, ds.length = 1 → sp_told ds H Q E → (b_told K sp_text_of).w (endsD Q E) (startD ["value"] ds) H := by
  rintro _ H Q E - ⟨v, rfl, hv, hz, q⟩
  simp only [b_told, show startD ["value"] [v] = [some v] from rfl, w_notT, w_isiBC, w_ret, w_retF, w_retN, w_sif, w_seq, w_asg, w_drop, w_par, w_aug, w_for, w_next, w_brk, w_cnt, w_sfld, w_raise, w_thru, w_andV, w_orV, w_notV, w_and, w_or, w_not, w_if, w_test, w_tru, w_isiB, w_var, w_int, w_str, w_bl, w_non, w_op, w_chain, w_neg, w_cons, w_nil, w_tup, w_lst, w_newT, w_sl, w_oN, w_oS, w_B, w_call, w_fld, w_lc, w_yes, w_jAny, w_rng1, w_rng2, w_zip, w_gNm, w_gvNm, w_gTup, w_gsN, w_gsC, o_sub, o_mod, o_lt, o_le, o_gt, o_ge, o_add, o_addT, o_addL, o_mul, o_ixT, o_ixL, o_ixF, o_eqI, o_neI, o_isN, o_isNotN, o_isB, f_all, f_lenT, f_lenL, f_lenF, f_int, f_tupL, f_tupT, i_tup, i_lst, i_frz, i_rng, i_zipT, i_zipL, s_tup, s_lst, p_some, u_bl, u_int, u_tup, u_lst, wipeD, List.getElem?_cons_zero, List.getElem?_cons_succ, List.set_cons_zero, List.set_cons_succ, List.length_cons, List.length_nil, true_and, and_true, if_and, if_or, Bool.false_eq_true, if_false, if_true, ite_true, ite_false, Bool.not_true, Bool.not_false]
  exact ⟨v, rfl, hv, hz, endsD_rt q⟩
def sp_untold : DSp := sp_value_of
theorem w_untold : ∀ ds H Q E, ds.length = 1 → sp_untold ds H Q E → (b_untold K sp_value_of).w (endsD Q E) (startD ["text"] ds) H := by
  rintro _ H Q E - ⟨T, rfl, hk, hz, q, x⟩
  simp only [b_untold, show startD ["text"] [.str (S T)] = [some (.str (S T))] from rfl, w_notT, w_isiBC, w_ret, w_retF, w_retN, w_sif, w_seq, w_asg, w_drop, w_par, w_aug, w_for, w_next, w_brk, w_cnt, w_sfld, w_raise, w_thru, w_andV, w_orV, w_notV, w_and, w_or, w_not, w_if, w_test, w_tru, w_isiB, w_var, w_int, w_str, w_bl, w_non, w_op, w_chain, w_neg, w_cons, w_nil, w_tup, w_lst, w_newT, w_sl, w_oN, w_oS, w_B, w_call, w_fld, w_lc, w_yes, w_jAny, w_rng1, w_rng2, w_zip, w_gNm, w_gvNm, w_gTup, w_gsN, w_gsC, o_sub, o_mod, o_lt, o_le, o_gt, o_ge, o_add, o_addT, o_addL, o_mul, o_ixT, o_ixL, o_ixF, o_eqI, o_neI, o_isN, o_isNotN, o_isB, f_all, f_lenT, f_lenL, f_lenF, f_int, f_tupL, f_tupT, i_tup, i_lst, i_frz, i_rng, i_zipT, i_zipL, s_tup, s_lst, p_some, u_bl, u_int, u_tup, u_lst, wipeD, List.getElem?_cons_zero, List.getElem?_cons_succ, List.set_cons_zero, List.set_cons_succ, List.length_cons, List.length_nil, true_and, and_true, if_and, if_or, Bool.false_eq_true, if_false, if_true, ite_true, ite_false, Bool.not_true, Bool.not_false]
  exact ⟨T, rfl, hk, hz, fun v h1 h2 h3 => endsD_rt (q v h1 h2 h3), fun i hi hf => endsD_ex (x i hi hf)⟩
def sp_law_right : DSp := fun ds H Q _ => ∃ T : List Nat, ds = [.str (S T)] ∧ okl T = true ∧ T.length ≤ 100000 ∧ Q (.bl true) H
theorem w_law_right (hit : Hit K) (h : hit.tab "InvalidText" = some true) : ∀ ds H Q E, ds.length = 1 → sp_law_right ds H Q E → (b__law_right K sp_untold sp_law_reads sp_law_same sp_told hit).w (endsD Q E) (startD ["text", "e", "value"] ds) H := by
  rintro _ H Q E - ⟨T, rfl, hk, hz, q⟩
  have hzl : T.length ≤ sizeLine := by rw [szl]; omega
  simp only [b__law_right, show startD ["text", "e", "value"] [.str (S T)] = [some (.str (S T)), none, none] from rfl, w_tryAs, w_suX, w_xf, w_notT, w_isiBC, w_ret, w_retF, w_retN, w_sif, w_seq, w_asg, w_drop, w_par, w_aug, w_for, w_next, w_brk, w_cnt, w_sfld, w_raise, w_thru, w_andV, w_orV, w_notV, w_and, w_or, w_not, w_if, w_test, w_tru, w_isiB, w_var, w_int, w_str, w_bl, w_non, w_op, w_chain, w_neg, w_cons, w_nil, w_tup, w_lst, w_newT, w_sl, w_oN, w_oS, w_B, w_call, w_fld, w_lc, w_yes, w_jAny, w_rng1, w_rng2, w_zip, w_gNm, w_gvNm, w_gTup, w_gsN, w_gsC, o_sub, o_mod, o_lt, o_le, o_gt, o_ge, o_add, o_addT, o_addL, o_mul, o_ixT, o_ixL, o_ixF, o_eqI, o_neI, o_isN, o_isNotN, o_isB, f_all, f_lenT, f_lenL, f_lenF, f_int, f_tupL, f_tupT, i_tup, i_lst, i_frz, i_rng, i_zipT, i_zipL, s_tup, s_lst, p_some, u_bl, u_int, u_tup, u_lst, wipeD, List.getElem?_cons_zero, List.getElem?_cons_succ, List.set_cons_zero, List.set_cons_succ, List.length_cons, List.length_nil, true_and, and_true, if_and, if_or, Bool.false_eq_true, if_false, if_true, ite_true, ite_false, Bool.not_true, Bool.not_false]
  refine ⟨T, rfl, hk, hz, fun v hv e hf => ?_, fun i hi hf => ?_⟩
  · refine ⟨T, rfl, hk, hz, ?_⟩
    rw [hf]
    simp only [w_notT, w_isiBC, w_ret, w_retF, w_retN, w_sif, w_seq, w_asg, w_drop, w_par, w_aug, w_for, w_next, w_brk, w_cnt, w_sfld, w_raise, w_thru, w_andV, w_orV, w_notV, w_and, w_or, w_not, w_if, w_test, w_tru, w_isiB, w_var, w_int, w_str, w_bl, w_non, w_op, w_chain, w_neg, w_cons, w_nil, w_tup, w_lst, w_newT, w_sl, w_oN, w_oS, w_B, w_call, w_fld, w_lc, w_yes, w_jAny, w_rng1, w_rng2, w_zip, w_gNm, w_gvNm, w_gTup, w_gsN, w_gsC, o_sub, o_mod, o_lt, o_le, o_gt, o_ge, o_add, o_addT, o_addL, o_mul, o_ixT, o_ixL, o_ixF, o_eqI, o_neI, o_isN, o_isNotN, o_isB, f_all, f_lenT, f_lenL, f_lenF, f_int, f_tupL, f_tupT, i_tup, i_lst, i_frz, i_rng, i_zipT, i_zipL, s_tup, s_lst, p_some, u_bl, u_int, u_tup, u_lst, wipeD, List.getElem?_cons_zero, List.getElem?_cons_succ, List.set_cons_zero, List.set_cons_succ, List.length_cons, List.length_nil, true_and, and_true, if_and, if_or, Bool.false_eq_true, if_false, if_true, ite_true, ite_false, Bool.not_true, Bool.not_false]
    refine ⟨v, rfl, hv.tv, hv.sz, ?_⟩
    rw [e]
    exact ⟨T, rfl, hk, hz, endsD_rt q⟩
  · simp only [h, xt_text, xt_at, isi_nr (show (D.int (i : Nat)).nr = true from rfl), show (D.int (i : Nat)).isT .int = true from rfl, show (D.int (i : Nat)).isT .bl = false from rfl, f_lenS, w_notT, w_isiBC, w_ret, w_retF, w_retN, w_sif, w_seq, w_asg, w_drop, w_par, w_aug, w_for, w_next, w_brk, w_cnt, w_sfld, w_raise, w_thru, w_andV, w_orV, w_notV, w_and, w_or, w_not, w_if, w_test, w_tru, w_isiB, w_var, w_int, w_str, w_bl, w_non, w_op, w_chain, w_neg, w_cons, w_nil, w_tup, w_lst, w_newT, w_sl, w_oN, w_oS, w_B, w_call, w_fld, w_lc, w_yes, w_jAny, w_rng1, w_rng2, w_zip, w_gNm, w_gvNm, w_gTup, w_gsN, w_gsC, o_sub, o_mod, o_lt, o_le, o_gt, o_ge, o_add, o_addT, o_addL, o_mul, o_ixT, o_ixL, o_ixF, o_eqI, o_neI, o_isN, o_isNotN, o_isB, f_all, f_lenT, f_lenL, f_lenF, f_int, f_tupL, f_tupT, i_tup, i_lst, i_frz, i_rng, i_zipT, i_zipL, s_tup, s_lst, p_some, u_bl, u_int, u_tup, u_lst, wipeD, List.getElem?_cons_zero, List.getElem?_cons_succ, List.set_cons_zero, List.set_cons_succ, List.length_cons, List.length_nil, true_and, and_true, if_and, if_or, Bool.false_eq_true, if_false, if_true, ite_true, ite_false, Bool.not_true, Bool.not_false]
    intro a ha cls dd
    refine ⟨T, rfl, hk, hz, ?_⟩
    rw [hf]
    simp only [w_notT, w_isiBC, w_ret, w_retF, w_retN, w_sif, w_seq, w_asg, w_drop, w_par, w_aug, w_for, w_next, w_brk, w_cnt, w_sfld, w_raise, w_thru, w_andV, w_orV, w_notV, w_and, w_or, w_not, w_if, w_test, w_tru, w_isiB, w_var, w_int, w_str, w_bl, w_non, w_op, w_chain, w_neg, w_cons, w_nil, w_tup, w_lst, w_newT, w_sl, w_oN, w_oS, w_B, w_call, w_fld, w_lc, w_yes, w_jAny, w_rng1, w_rng2, w_zip, w_gNm, w_gvNm, w_gTup, w_gsN, w_gsC, o_sub, o_mod, o_lt, o_le, o_gt, o_ge, o_add, o_addT, o_addL, o_mul, o_ixT, o_ixL, o_ixF, o_eqI, o_neI, o_isN, o_isNotN, o_isB, f_all, f_lenT, f_lenL, f_lenF, f_int, f_tupL, f_tupT, i_tup, i_lst, i_frz, i_rng, i_zipT, i_zipL, s_tup, s_lst, p_some, u_bl, u_int, u_tup, u_lst, wipeD, List.getElem?_cons_zero, List.getElem?_cons_succ, List.set_cons_zero, List.set_cons_succ, List.length_cons, List.length_nil, true_and, and_true, if_and, if_or, Bool.false_eq_true, if_false, if_true, ite_true, ite_false, Bool.not_true, Bool.not_false]
    refine ⟨T, rfl, hk, hz, ?_⟩
    simp only [w_xf, xt_at, isi_nr (show (D.int (i : Nat)).nr = true from rfl), show (D.int (i : Nat)).isT .int = true from rfl, show (D.int (i : Nat)).isT .bl = false from rfl, f_lenS, w_notT, w_isiBC, w_ret, w_retF, w_retN, w_sif, w_seq, w_asg, w_drop, w_par, w_aug, w_for, w_next, w_brk, w_cnt, w_sfld, w_raise, w_thru, w_andV, w_orV, w_notV, w_and, w_or, w_not, w_if, w_test, w_tru, w_isiB, w_var, w_int, w_str, w_bl, w_non, w_op, w_chain, w_neg, w_cons, w_nil, w_tup, w_lst, w_newT, w_sl, w_oN, w_oS, w_B, w_call, w_fld, w_lc, w_yes, w_jAny, w_rng1, w_rng2, w_zip, w_gNm, w_gvNm, w_gTup, w_gsN, w_gsC, o_sub, o_mod, o_lt, o_le, o_gt, o_ge, o_add, o_addT, o_addL, o_mul, o_ixT, o_ixL, o_ixF, o_eqI, o_neI, o_isN, o_isNotN, o_isB, f_all, f_lenT, f_lenL, f_lenF, f_int, f_tupL, f_tupT, i_tup, i_lst, i_frz, i_rng, i_zipT, i_zipL, s_tup, s_lst, p_some, u_bl, u_int, u_tup, u_lst, wipeD, List.getElem?_cons_zero, List.getElem?_cons_succ, List.set_cons_zero, List.set_cons_succ, List.length_cons, List.length_nil, true_and, and_true, if_and, if_or, Bool.false_eq_true, if_false, if_true, ite_true, ite_false, Bool.not_true, Bool.not_false]
    rw [decide_eq_true (show (0 : Int) ≤ (i : Nat) by omega)]
    simp only [f_lenS, w_notT, w_isiBC, w_ret, w_retF, w_retN, w_sif, w_seq, w_asg, w_drop, w_par, w_aug, w_for, w_next, w_brk, w_cnt, w_sfld, w_raise, w_thru, w_andV, w_orV, w_notV, w_and, w_or, w_not, w_if, w_test, w_tru, w_isiB, w_var, w_int, w_str, w_bl, w_non, w_op, w_chain, w_neg, w_cons, w_nil, w_tup, w_lst, w_newT, w_sl, w_oN, w_oS, w_B, w_call, w_fld, w_lc, w_yes, w_jAny, w_rng1, w_rng2, w_zip, w_gNm, w_gvNm, w_gTup, w_gsN, w_gsC, o_sub, o_mod, o_lt, o_le, o_gt, o_ge, o_add, o_addT, o_addL, o_mul, o_ixT, o_ixL, o_ixF, o_eqI, o_neI, o_isN, o_isNotN, o_isB, f_all, f_lenT, f_lenL, f_lenF, f_int, f_tupL, f_tupT, i_tup, i_lst, i_frz, i_rng, i_zipT, i_zipL, s_tup, s_lst, p_some, u_bl, u_int, u_tup, u_lst, wipeD, List.getElem?_cons_zero, List.getElem?_cons_succ, List.set_cons_zero, List.set_cons_succ, List.length_cons, List.length_nil, true_and, and_true, if_and, if_or, Bool.false_eq_true, if_false, if_true, ite_true, ite_false, Bool.not_true, Bool.not_false]
    refine ⟨hzl, ?_⟩
    rw [decide_eq_true (show ((i : Nat) : Int) ≤ (T.length : Nat) by omega)]
    exact endsD_rt q
end
end G
set_option Elab.async false
set_option linter.all false
set_option maxRecDepth 100000
namespace G
open PySem PySem.Spec PyProof.Rows L2
section
variable {K : PySem.W.Frag}
/-! ### a value's text is read -/
theorem tw_preL {p : Nat → Bool} {a r : List Nat} (h : a.all p = true) (h2 : (r.take 1).any p = false) : (a ++ r).takeWhile p = a := by
  have h3 : ((a ++ r).takeWhile p).length = a.length := by
    induction a with
    | nil => exact tw_no (T := r) (e := 0) h2
    | cons c a ih =>
      rw [List.all_cons, Bool.and_eq_true] at h
      rw [List.cons_append, List.takeWhile_cons, if_pos h.1, List.length_cons, List.length_cons, ih h.2]
  rw [← tw_take (p := p) (l := a ++ r), h3, List.take_left]
def Behind (r : List Nat) : Prop := (r.take 1).any isD = false
mutual
theorem accA_tx : ∀ (v : D) (r : List Nat) (d : Nat), v.tv = true → v.dp + d ≤ 60 → Behind r → accA (v.tx ++ r) d false = accA r d true
  | .non, r, d, _, _, _ => by
    show accA (45 :: r) d false = _
    rw [accA_leaf (by decide) (by decide), leafL_cons, if_pos rfl]
    rfl
  | .str x, r, d, h, _, _ => by
    have h : x.cps.toList.all isL = true := h
    show accA (34 :: ((x.cps.toList ++ [34]) ++ r)) d false = _
    rw [List.append_assoc, accA_leaf (by decide) (by decide), leafL_q]
    have ew : List.takeWhile isL (x.cps.toList ++ ([34] ++ r)) = x.cps.toList := tw_preL h rfl
    rw [ew]
    rw [List.drop_left, if_pos (show List.take 1 ([34] ++ r) = [34] from rfl)]
    show accA ((34 :: (x.cps.toList ++ ([34] ++ r))).drop (x.cps.toList.length + 2)) d true = _
    rw [List.drop_succ_cons, ← List.drop_drop, List.drop_left]
    rfl
  | .int i, r, d, h, _, hr => by
    rw [tv_int, Bool.and_eq_true, decide_eq_true_eq, decide_eq_true_eq] at h
    obtain ⟨f1, f2, f3, f4⟩ := figs_num h.1
    have f5 := figs_len h.1 h.2
    show accA (figsOf i ++ r) d false = _
    have e : (figsOf i ++ r).takeWhile isD = figsOf i := tw_preL f3 hr
    cases hf : figsOf i with
    | nil => exact absurd hf f4
    | cons c l =>
      rw [hf] at e f1 f3 f5
      rw [List.all_cons, Bool.and_eq_true] at f3
      have hc := f3.1
      have hc2 : 48 ≤ c ∧ c ≤ 57 := by
        unfold isD at hc
        rw [Bool.and_eq_true, decide_eq_true_eq, decide_eq_true_eq] at hc
        exact hc
      rw [List.cons_append] at e
      rw [List.cons_append, accA_leaf (by omega) (by omega), leafL_cons, if_neg (by omega), if_neg (by omega), if_pos hc, e, f1, decide_eq_true f5, Bool.true_and, if_pos rfl]
      show accA ((c :: (l ++ r)).drop (c :: l).length) d true = _
      rw [← List.cons_append, List.drop_left]
  | .tup ds, r, d, h, hd, hr => by
    show accA (40 :: ((D.txs ds ++ [41]) ++ r)) d false = _
    have h1 : 1 ≤ (D.tup ds).dp := by show 1 ≤ PySem.PyData.depthAll (D.pys ds) + 1; omega
    rw [List.append_assoc, accA_open, decide_eq_true (show d + 1 ≤ 60 by omega), Bool.true_and]
    have := accA_txs ds r d h (fun m hm => by have := dp_mem hm; omega)
    show accA (D.txs ds ++ 41 :: r) (d + 1) false = _
    rw [this, accA_close, decide_eq_true (show d + 1 ≠ 0 by omega), Bool.true_and, Nat.add_sub_cancel]
  | .bl _, _, _, h, _, _ => by cases h
  | .lst _, _, _, h, _, _ => by cases h
  | .frz _, _, _, h, _, _ => by cases h
  | .ref _, _, _, h, _, _ => by cases h
theorem accA_txs : ∀ (ds : List D) (r : List Nat) (d : Nat), D.tvs ds = true → (∀ m ∈ ds, m.dp + (d + 1) ≤ 60) → accA (D.txs ds ++ 41 :: r) (d + 1) false = accA (41 :: r) (d + 1) false
  | [], _, _, _, _ => rfl
  | v :: ds, r, d, h, hd => by
    have h : (v.tv && D.tvs ds) = true := h
    rw [Bool.and_eq_true] at h
    show accA ((v.tx ++ 44 :: D.txs ds) ++ 41 :: r) (d + 1) false = _
    rw [List.append_assoc, List.cons_append, accA_tx v _ (d + 1) h.1 (hd v List.mem_cons_self) (show Behind (44 :: (D.txs ds ++ 41 :: r)) from rfl), accA_behind, decide_eq_true (show d + 1 ≠ 0 by omega), decide_eq_true rfl, Bool.true_and, Bool.true_and]
    exact accA_txs ds r d h.2 fun m hm => hd m (List.mem_cons_of_mem _ hm)
end
theorem reads_tx {v : D} (h : v.tv = true) (hd : v.dp ≤ 60) : accA v.tx 0 false = true := by
  have := accA_tx v [] 0 h (by omega) rfl
  rw [List.append_nil, accA_nil] at this
  exact this
/-! ### drawn texts -/
def strD (v : D) : D := .str (S v.tx)
structure Grow (i : Nat) (vs : List D) : Prop where
  tv : ∀ v ∈ vs, v.tv = true
  dp : ∀ v ∈ vs, v.dp ≤ i
  sz : (D.txs vs).length ≤ 13 * i
  n1 : vs.length ≤ i
theorem txs_one {v : D} : (D.txs [v]).length = v.tx.length + 1 := by
  show (v.tx ++ 44 :: D.txs []).length = _
  rw [List.length_append]; rfl
theorem tup_len (ds : List D) : (D.tup ds).tx.length = (D.txs ds).length + 2 := by
  show (40 :: (D.txs ds ++ [41])).length = _
  rw [List.length_cons, List.length_append]; rfl
theorem Grow.leaf {i : Nat} {vs : List D} {v : D} (g : Grow i vs) (h1 : v.tv = true) (h2 : v.dp = 0) (h3 : v.tx.length ≤ 12) : Grow (i + 1) (vs ++ [v]) := ⟨fun x hx => by
  rcases List.mem_append.mp hx with hx | hx
  · exact g.tv x hx
  · rw [List.mem_singleton.mp hx]; exact h1, fun x hx => by
  rcases List.mem_append.mp hx with hx | hx
  · have := g.dp x hx; omega
  · rw [List.mem_singleton.mp hx]; omega, by
  rw [txs_app, List.length_append, txs_one]
  have := g.sz
  omega, by rw [List.length_append, List.length_cons, List.length_nil]; have := g.n1; omega⟩
theorem Grow.wrap {i m : Nat} {vs : List D} (g : Grow i vs) (h2 : m ≤ vs.length) : Grow (i + 1) (vs.take (vs.length - m) ++ [.tup (vs.drop (vs.length - m))]) := ⟨fun x hx => by
  rcases List.mem_append.mp hx with hx | hx
  · exact g.tv x (List.mem_of_mem_take hx)
  · rw [List.mem_singleton.mp hx]
    exact tvs_of fun d hd => g.tv d (List.mem_of_mem_drop hd), fun x hx => by
  rcases List.mem_append.mp hx with hx | hx
  · have := g.dp x (List.mem_of_mem_take hx); omega
  · rw [List.mem_singleton.mp hx]
    exact dp_le fun d hd => g.dp d (List.mem_of_mem_drop hd), by
  rw [txs_app, List.length_append, txs_one, tup_len]
  have := g.sz
  have e : (D.txs vs).length = (D.txs (vs.take (vs.length - m))).length + (D.txs (vs.drop (vs.length - m))).length := by
    rw [← List.length_append, ← txs_app, List.take_append_drop]
  omega, by
  rw [List.length_append, List.length_cons, List.length_nil, List.length_take]
  have := g.n1
  omega⟩
theorem mem_len {ds : List D} {d : D} (h : d ∈ ds) : d.tx.length ≤ (D.txs ds).length := by
  induction ds with
  | nil => cases h
  | cons e ds ih =>
    show _ ≤ (e.tx ++ 44 :: D.txs ds).length
    rw [List.length_append, List.length_cons]
    rcases List.mem_cons.mp h with rfl | h
    · omega
    · have := ih h
      omega
theorem txs_flat2 (vs : List D) : (vs.map fun v => v.tx ++ [44]).flatten = D.txs vs := by
  induction vs with
  | nil => rfl
  | cons v vs ih =>
    rw [List.map_cons, List.flatten_cons, ih, List.append_assoc]
    rfl
theorem cutL_at {α : Type} {xs : List α} {m : Nat} (h : m ≤ xs.length) : cutL xs (some ((xs.length : Int) - (m : Int))) none = xs.drop (xs.length - m) := by
  unfold cutL
  rw [show ((xs.length : Int) - (m : Int)) = ((xs.length - m : Nat) : Int) by omega, HT.sIx_nat, Nat.min_eq_left (by omega), show HT.sIx xs.length xs.length none = xs.length from rfl]
  exact List.take_of_length_le (Nat.le_of_eq List.length_drop)
theorem cutL_up {α : Type} {xs : List α} {m : Nat} (h : m ≤ xs.length) : cutL xs none (some ((xs.length : Int) - (m : Int))) = xs.take (xs.length - m) := by
  unfold cutL
  rw [show ((xs.length : Int) - (m : Int)) = ((xs.length - m : Nat) : Int) by omega, HT.sIx_nat, Nat.min_eq_left (by omega), show HT.sIx xs.length 0 none = 0 from rfl, List.drop_zero, Nat.sub_zero]
theorem sl_R {f : Bool} {l : Addr} {ds : List D} {lo hi : Option Int} {H : DH} {Q : DQ} (h : H l = some (.lst ds)) : dSl f (.ref l) lo hi H Q = newL f (cutL ds lo hi) H Q := by
  refine propext ⟨fun ⟨o, e, q⟩ => ?_, fun q => ⟨_, h, q⟩⟩
  rw [h] at e
  cases e
  exact q
theorem Fr.none {a gl p : Addr} {H H' : DH} (f : Fr a gl H H') (pa : p ≠ a) (pg : p ≠ gl) (h : H' p = none) : H p = none := by
  cases e : H p with
  | none => rfl
  | some o => rw [f p o pa pg e] at h; cases h
theorem Fr.updN {a gl p : Addr} {H H' : DH} {o : DO} (f : Fr a gl H H') (h : H p = Option.none) : Fr a gl H (updD H' p o) := fun x u h1 h2 hx => by
  rw [updD_ne (ne_of_noneD hx h)]
  exact f x u h1 h2 hx
theorem at_mem {ds : List D} {v : Int} (h0 : 0 ≤ v) (h1 : v < ds.length) : ∃ d ∈ ds, atI ds v = some d := by
  have e : ((v.toNat : Nat) : Int) = v := by omega
  rw [← e]
  exact ⟨_, List.getElem_mem (by omega), atI_nat (List.getElem?_eq_getElem (by omega))⟩
/-- the words the texts are made of -/
def nums5 : List D := [.int 0, .int 7, .int 31, .int 100, .int 1234567890]
theorem nums5_tx : [D.str "0", D.str "7", D.str "31", D.str "100", D.str "1234567890"] = nums5.map strD := by
  have h1 : ("0" : PySem.Str) = S (D.int 0).tx := by decide +kernel
  have h2 : ("7" : PySem.Str) = S (D.int 7).tx := by decide +kernel
  have h3 : ("31" : PySem.Str) = S (D.int 31).tx := by decide +kernel
  have h4 : ("100" : PySem.Str) = S (D.int 100).tx := by decide +kernel
  have h5 : ("1234567890" : PySem.Str) = S (D.int 1234567890).tx := by decide +kernel
  rw [h1, h2, h3, h4, h5]
  rfl
theorem nums5_ok : ∀ v ∈ nums5, v.tv = true ∧ v.dp = 0 ∧ v.tx.length ≤ 12 := by
  intro v hv
  simp only [nums5, List.mem_cons, List.not_mem_nil, or_false] at hv
  rcases hv with rfl | rfl | rfl | rfl | rfl <;> exact ⟨by decide +kernel, by decide +kernel, by decide +kernel⟩
def words5 : List (List Nat) := [[], [97], [108, 97, 121], [109, 101, 110, 100], [122, 122]]
theorem words5_tx : [D.str "", D.str "a", D.str "lay", D.str "mend", D.str "zz"] = words5.map fun w => .str (S w) := by
  have h1 : ("" : PySem.Str) = S [] := by decide +kernel
  have h2 : ("a" : PySem.Str) = S [97] := by decide +kernel
  have h3 : ("lay" : PySem.Str) = S [108, 97, 121] := by decide +kernel
  have h4 : ("mend" : PySem.Str) = S [109, 101, 110, 100] := by decide +kernel
  have h5 : ("zz" : PySem.Str) = S [122, 122] := by decide +kernel
  rw [h1, h2, h3, h4, h5]
  rfl
theorem words5_ok : ∀ w ∈ words5, w.all isL = true ∧ w.length ≤ 4 := by decide
end
end G
set_option Elab.async false
set_option linter.all false
set_option maxRecDepth 100000
namespace G
open PySem PySem.Spec PyProof.Rows L2
section
variable {K : PySem.W.Frag}
theorem tup_tx (vs : List D) : (D.tup vs).tx = [40] ++ D.txs vs ++ [41] := rfl
theorem lc_comma {C : TC} {gd : DH → Prop} {H : DH} {k : List D → DH → Prop} {σ : DS} {i : Nat} {vs : List D} (hi : i < σ.length) (hg : gd H) (hz : vs.length ≤ 1000) (hs : (D.txs vs).length ≤ 90000)
    (q : k (vs.map fun v => .str (S (v.tx ++ [44]))) H) : lcD gd (gvName i : GvW C [i]).w (bYes : BW C).w (bOp (opAdd true) (bVar i) (bStr (S [44])) : TW C).w σ k (vs.map strD) [] H := by
  refine lc_of (e := strD) (out := fun v => .str (S (v.tx ++ [44]))) vs hg (le_szl hz) (fun v hv k' hk' => ?_) q
  have := mem_len hv
  simp only [strD, w_gvNm, w_op, w_var, w_str]
  rw [List.getElem?_set_self hi]
  simp only [o_addS]
  exact ⟨by rw [szl]; simp only [List.length_cons, List.length_nil]; omega, hk'⟩
def sp_law_text : DSp := fun ds H Q _ => ∃ (a gl : Addr) (c : Int), ds = [.ref a] ∧ BoxAt H a gl c ∧ c < 2 ^ 60 ∧ ∀ (v : D) (H' : DH), Tell v → v.tx.length ≤ 1000 → BoxAt H' a gl (c + 1000) → Fr a gl H H' → Q (.str (S v.tx)) H'
theorem w_law_text : ∀ ds H Q E, ds.length = 1 → sp_law_text ds H Q E → (b__law_text K sp_law_draw).w (endsD Q E) (startD ["box", "parts", "step", "shape", "many", "inner", "part"] ds) H := by
  rintro _ H Q E - ⟨a, gl, c, rfl, hat, hc, q⟩
  simp only [b__law_text, show startD ["box", "parts", "step", "shape", "many", "inner", "part"] [.ref a] = [some (.ref a), none, none, none, none, none, none] from rfl, w_newF, w_notT, w_isiBC, w_ret, w_retF, w_retN, w_sif, w_seq, w_asg, w_drop, w_par, w_aug, w_for, w_next, w_brk, w_cnt, w_sfld, w_raise, w_thru, w_andV, w_orV, w_notV, w_and, w_or, w_not, w_if, w_test, w_tru, w_isiB, w_var, w_int, w_str, w_bl, w_non, w_op, w_chain, w_neg, w_cons, w_nil, w_tup, w_lst, w_newT, w_sl, w_oN, w_oS, w_B, w_call, w_fld, w_lc, w_yes, w_jAny, w_rng1, w_rng2, w_zip, w_gNm, w_gvNm, w_gTup, w_gsN, w_gsC, o_sub, o_mod, o_lt, o_le, o_gt, o_ge, o_add, o_addT, o_addL, o_mul, o_ixT, o_ixL, o_ixF, o_eqI, o_neI, o_isN, o_isNotN, o_isB, f_all, f_lenT, f_lenL, f_lenF, f_int, f_tupL, f_tupT, i_tup, i_lst, i_frz, i_rng, i_zipT, i_zipL, s_tup, s_lst, p_some, u_bl, u_int, u_tup, u_lst, wipeD, List.getElem?_cons_zero, List.getElem?_cons_succ, List.set_cons_zero, List.set_cons_succ, List.length_cons, List.length_nil, true_and, and_true, if_and, if_or, Bool.false_eq_true, if_false, if_true, ite_true, ite_false, Bool.not_true, Bool.not_false]
  refine ⟨by rw [szl]; omega, fun l hl => ?_⟩
  have b1 := hat.new (o := .lst []) hl
  have fl : Fr a gl H (updD H l (.lst [])) := Fr.upd hl
  have e1 : updD H l (.lst []) l = some (.lst (([] : List D).map strD)) := updD_same
  have nl := hat.ne hl
  generalize updD H l (.lst []) = H2 at b1 fl e1
  refine ⟨a, gl, _, 12, rfl, b1, by omega, by omega, by omega, fun n H3 n0 n1 h3 f3 => ?_⟩
  simp only [w_notT, w_isiBC, w_ret, w_retF, w_retN, w_sif, w_seq, w_asg, w_drop, w_par, w_aug, w_for, w_next, w_brk, w_cnt, w_sfld, w_raise, w_thru, w_andV, w_orV, w_notV, w_and, w_or, w_not, w_if, w_test, w_tru, w_isiB, w_var, w_int, w_str, w_bl, w_non, w_op, w_chain, w_neg, w_cons, w_nil, w_tup, w_lst, w_newT, w_sl, w_oN, w_oS, w_B, w_call, w_fld, w_lc, w_yes, w_jAny, w_rng1, w_rng2, w_zip, w_gNm, w_gvNm, w_gTup, w_gsN, w_gsC, o_sub, o_mod, o_lt, o_le, o_gt, o_ge, o_add, o_addT, o_addL, o_mul, o_ixT, o_ixL, o_ixF, o_eqI, o_neI, o_isN, o_isNotN, o_isB, f_all, f_lenT, f_lenL, f_lenF, f_int, f_tupL, f_tupT, i_tup, i_lst, i_frz, i_rng, i_zipT, i_zipL, s_tup, s_lst, p_some, u_bl, u_int, u_tup, u_lst, wipeD, List.getElem?_cons_zero, List.getElem?_cons_succ, List.set_cons_zero, List.set_cons_succ, List.length_cons, List.length_nil, true_and, and_true, if_and, if_or, Bool.false_eq_true, if_false, if_true, ite_true, ite_false, Bool.not_true, Bool.not_false]
  refine ⟨by omega, by omega, ?_⟩
  have e3 := f3 l _ nl.1 nl.2 e1
  refine for_all _ (fun i σ H' => ∃ (vs : List D) (p : Addr) (x2 x3 x4 x5 : Option D), σ = [some (.ref a), some (.ref p), x2, x3, x4, x5, none] ∧ Grow i vs ∧ H' p = some (.lst (vs.map strD)) ∧ p ≠ a ∧ p ≠ gl ∧ H p = none ∧ (0 < i → 1 ≤ vs.length) ∧ BoxAt H' a gl (c + 1 + 10 * i) ∧ Fr a gl H H') ⟨[], l, none, none, none, none, rfl, ⟨fun x hx => absurd hx List.not_mem_nil, fun x hx => absurd hx List.not_mem_nil, Nat.le_refl _, Nat.le_refl _⟩, e3, nl.1, nl.2, hl, fun h => absurd h (Nat.lt_irrefl _), h3.le (by omega), fl.trans f3⟩ (fun _ _ _ _ => trivial) ?_ ?_
  · rintro i d _ H4 hd ⟨vs, p, x2, x3, x4, x5, rfl, g, hp, pa, pg, p0, hne, h4, f4⟩ k hk
    have hi := (List.getElem?_eq_some_iff.mp hd).1
    rw [List.length_map, List.length_range] at hi
    have gn := g.n1
    simp only [w_notT, w_isiBC, w_ret, w_retF, w_retN, w_sif, w_seq, w_asg, w_drop, w_par, w_aug, w_for, w_next, w_brk, w_cnt, w_sfld, w_raise, w_thru, w_andV, w_orV, w_notV, w_and, w_or, w_not, w_if, w_test, w_tru, w_isiB, w_var, w_int, w_str, w_bl, w_non, w_op, w_chain, w_neg, w_cons, w_nil, w_tup, w_lst, w_newT, w_sl, w_oN, w_oS, w_B, w_call, w_fld, w_lc, w_yes, w_jAny, w_rng1, w_rng2, w_zip, w_gNm, w_gvNm, w_gTup, w_gsN, w_gsC, o_sub, o_mod, o_lt, o_le, o_gt, o_ge, o_add, o_addT, o_addL, o_mul, o_ixT, o_ixL, o_ixF, o_eqI, o_neI, o_isN, o_isNotN, o_isB, f_all, f_lenT, f_lenL, f_lenF, f_int, f_tupL, f_tupT, i_tup, i_lst, i_frz, i_rng, i_zipT, i_zipL, s_tup, s_lst, p_some, u_bl, u_int, u_tup, u_lst, wipeD, List.getElem?_cons_zero, List.getElem?_cons_succ, List.set_cons_zero, List.set_cons_succ, List.length_cons, List.length_nil, true_and, and_true, if_and, if_or, Bool.false_eq_true, if_false, if_true, ite_true, ite_false, Bool.not_true, Bool.not_false]
    refine ⟨a, gl, _, 8, rfl, h4, by omega, by omega, by omega, fun w H5 w0 w1 h5 f5 => ?_⟩
    have p5 := f5 p _ pa pg hp
    have f45 := f4.trans f5
    simp only [w_notT, w_isiBC, w_ret, w_retF, w_retN, w_sif, w_seq, w_asg, w_drop, w_par, w_aug, w_for, w_next, w_brk, w_cnt, w_sfld, w_raise, w_thru, w_andV, w_orV, w_notV, w_and, w_or, w_not, w_if, w_test, w_tru, w_isiB, w_var, w_int, w_str, w_bl, w_non, w_op, w_chain, w_neg, w_cons, w_nil, w_tup, w_lst, w_newT, w_sl, w_oN, w_oS, w_B, w_call, w_fld, w_lc, w_yes, w_jAny, w_rng1, w_rng2, w_zip, w_gNm, w_gvNm, w_gTup, w_gsN, w_gsC, o_sub, o_mod, o_lt, o_le, o_gt, o_ge, o_add, o_addT, o_addL, o_mul, o_ixT, o_ixL, o_ixF, o_eqI, o_neI, o_isN, o_isNotN, o_isB, f_all, f_lenT, f_lenL, f_lenF, f_int, f_tupL, f_tupT, i_tup, i_lst, i_frz, i_rng, i_zipT, i_zipL, s_tup, s_lst, p_some, u_bl, u_int, u_tup, u_lst, wipeD, List.getElem?_cons_zero, List.getElem?_cons_succ, List.set_cons_zero, List.set_cons_succ, List.length_cons, List.length_nil, true_and, and_true, if_and, if_or, Bool.false_eq_true, if_false, if_true, ite_true, ite_false, Bool.not_true, Bool.not_false]
    have leaf : ∀ (v : D) (H6 : DH) (y3 : Option D), v.tv = true → v.dp = 0 → v.tx.length ≤ 12 → BoxAt H6 a gl (c + 1 + 10 * i + 2) → Fr a gl H5 H6 → (mAppend : Mt (plainC K)).w (.ref p) [.str (S v.tx)] H6 (fun _ H1 => k [some (.ref a), some (.ref p), some d, y3, x4, x5, none] H1) := fun v H6 y3 v1 v2 v3 h6 f6 => by
      have p6 := f6 p _ pa pg p5
      exact ap_at p6 (by rw [List.length_map, szl]; omega) (hk _ _ ⟨vs ++ [v], p, some d, y3, x4, x5, rfl, g.leaf v1 v2 v3, by rw [updD_same, List.map_append]; rfl, pa, pg, p0, fun _ => by rw [List.length_append, List.length_cons]; omega, (h6.le (by omega)).upd pa pg, (f45.trans f6).updN p0⟩)
    by_cases hw : w < 3
    · rw [decide_eq_true hw]
      simp only [w_m, w_notT, w_isiBC, w_ret, w_retF, w_retN, w_sif, w_seq, w_asg, w_drop, w_par, w_aug, w_for, w_next, w_brk, w_cnt, w_sfld, w_raise, w_thru, w_andV, w_orV, w_notV, w_and, w_or, w_not, w_if, w_test, w_tru, w_isiB, w_var, w_int, w_str, w_bl, w_non, w_op, w_chain, w_neg, w_cons, w_nil, w_tup, w_lst, w_newT, w_sl, w_oN, w_oS, w_B, w_call, w_fld, w_lc, w_yes, w_jAny, w_rng1, w_rng2, w_zip, w_gNm, w_gvNm, w_gTup, w_gsN, w_gsC, o_sub, o_mod, o_lt, o_le, o_gt, o_ge, o_add, o_addT, o_addL, o_mul, o_ixT, o_ixL, o_ixF, o_eqI, o_neI, o_isN, o_isNotN, o_isB, f_all, f_lenT, f_lenL, f_lenF, f_int, f_tupL, f_tupT, i_tup, i_lst, i_frz, i_rng, i_zipT, i_zipL, s_tup, s_lst, p_some, u_bl, u_int, u_tup, u_lst, wipeD, List.getElem?_cons_zero, List.getElem?_cons_succ, List.set_cons_zero, List.set_cons_succ, List.length_cons, List.length_nil, true_and, and_true, if_and, if_or, Bool.false_eq_true, if_false, if_true, ite_true, ite_false, Bool.not_true, Bool.not_false]
      refine ⟨ty_at p5, by rw [szl]; omega, a, gl, _, 5, rfl, h5, by omega, by omega, by omega, fun u H6 u0 u1 h6 f6 => ?_⟩
      rw [nums5_tx]
      obtain ⟨x, hx, ex⟩ := at_mem (ds := nums5.map strD) u0 (by rw [List.length_map]; show u < ((5 : Nat) : Int); omega)
      obtain ⟨v, hv, rfl⟩ := List.mem_map.mp hx
      simp only [o_ixL, ex, p_some]
      obtain ⟨v1, v2, v3⟩ := nums5_ok v hv
      exact leaf v H6 _ v1 v2 v3 (h6.le (by omega)) f6
    · rw [decide_eq_false hw]
      simp only [w_notT, w_isiBC, w_ret, w_retF, w_retN, w_sif, w_seq, w_asg, w_drop, w_par, w_aug, w_for, w_next, w_brk, w_cnt, w_sfld, w_raise, w_thru, w_andV, w_orV, w_notV, w_and, w_or, w_not, w_if, w_test, w_tru, w_isiB, w_var, w_int, w_str, w_bl, w_non, w_op, w_chain, w_neg, w_cons, w_nil, w_tup, w_lst, w_newT, w_sl, w_oN, w_oS, w_B, w_call, w_fld, w_lc, w_yes, w_jAny, w_rng1, w_rng2, w_zip, w_gNm, w_gvNm, w_gTup, w_gsN, w_gsC, o_sub, o_mod, o_lt, o_le, o_gt, o_ge, o_add, o_addT, o_addL, o_mul, o_ixT, o_ixL, o_ixF, o_eqI, o_neI, o_isN, o_isNotN, o_isB, f_all, f_lenT, f_lenL, f_lenF, f_int, f_tupL, f_tupT, i_tup, i_lst, i_frz, i_rng, i_zipT, i_zipL, s_tup, s_lst, p_some, u_bl, u_int, u_tup, u_lst, wipeD, List.getElem?_cons_zero, List.getElem?_cons_succ, List.set_cons_zero, List.set_cons_succ, List.length_cons, List.length_nil, true_and, and_true, if_and, if_or, Bool.false_eq_true, if_false, if_true, ite_true, ite_false, Bool.not_true, Bool.not_false]
      by_cases hw3 : w = 3
      · rw [decide_eq_true hw3]
        simp only [w_m, lit_dash, w_notT, w_isiBC, w_ret, w_retF, w_retN, w_sif, w_seq, w_asg, w_drop, w_par, w_aug, w_for, w_next, w_brk, w_cnt, w_sfld, w_raise, w_thru, w_andV, w_orV, w_notV, w_and, w_or, w_not, w_if, w_test, w_tru, w_isiB, w_var, w_int, w_str, w_bl, w_non, w_op, w_chain, w_neg, w_cons, w_nil, w_tup, w_lst, w_newT, w_sl, w_oN, w_oS, w_B, w_call, w_fld, w_lc, w_yes, w_jAny, w_rng1, w_rng2, w_zip, w_gNm, w_gvNm, w_gTup, w_gsN, w_gsC, o_sub, o_mod, o_lt, o_le, o_gt, o_ge, o_add, o_addT, o_addL, o_mul, o_ixT, o_ixL, o_ixF, o_eqI, o_neI, o_isN, o_isNotN, o_isB, f_all, f_lenT, f_lenL, f_lenF, f_int, f_tupL, f_tupT, i_tup, i_lst, i_frz, i_rng, i_zipT, i_zipL, s_tup, s_lst, p_some, u_bl, u_int, u_tup, u_lst, wipeD, List.getElem?_cons_zero, List.getElem?_cons_succ, List.set_cons_zero, List.set_cons_succ, List.length_cons, List.length_nil, true_and, and_true, if_and, if_or, Bool.false_eq_true, if_false, if_true, ite_true, ite_false, Bool.not_true, Bool.not_false]
        exact ⟨ty_at p5, leaf .non H5 _ rfl rfl (by decide) (h5.le (by omega)) Fr.rfl⟩
      · rw [decide_eq_false hw3]
        simp only [w_notT, w_isiBC, w_ret, w_retF, w_retN, w_sif, w_seq, w_asg, w_drop, w_par, w_aug, w_for, w_next, w_brk, w_cnt, w_sfld, w_raise, w_thru, w_andV, w_orV, w_notV, w_and, w_or, w_not, w_if, w_test, w_tru, w_isiB, w_var, w_int, w_str, w_bl, w_non, w_op, w_chain, w_neg, w_cons, w_nil, w_tup, w_lst, w_newT, w_sl, w_oN, w_oS, w_B, w_call, w_fld, w_lc, w_yes, w_jAny, w_rng1, w_rng2, w_zip, w_gNm, w_gvNm, w_gTup, w_gsN, w_gsC, o_sub, o_mod, o_lt, o_le, o_gt, o_ge, o_add, o_addT, o_addL, o_mul, o_ixT, o_ixL, o_ixF, o_eqI, o_neI, o_isN, o_isNotN, o_isB, f_all, f_lenT, f_lenL, f_lenF, f_int, f_tupL, f_tupT, i_tup, i_lst, i_frz, i_rng, i_zipT, i_zipL, s_tup, s_lst, p_some, u_bl, u_int, u_tup, u_lst, wipeD, List.getElem?_cons_zero, List.getElem?_cons_succ, List.set_cons_zero, List.set_cons_succ, List.length_cons, List.length_nil, true_and, and_true, if_and, if_or, Bool.false_eq_true, if_false, if_true, ite_true, ite_false, Bool.not_true, Bool.not_false]
        by_cases hw4 : w = 4
        · rw [decide_eq_true hw4]
          simp only [w_m, lit_quote, w_notT, w_isiBC, w_ret, w_retF, w_retN, w_sif, w_seq, w_asg, w_drop, w_par, w_aug, w_for, w_next, w_brk, w_cnt, w_sfld, w_raise, w_thru, w_andV, w_orV, w_notV, w_and, w_or, w_not, w_if, w_test, w_tru, w_isiB, w_var, w_int, w_str, w_bl, w_non, w_op, w_chain, w_neg, w_cons, w_nil, w_tup, w_lst, w_newT, w_sl, w_oN, w_oS, w_B, w_call, w_fld, w_lc, w_yes, w_jAny, w_rng1, w_rng2, w_zip, w_gNm, w_gvNm, w_gTup, w_gsN, w_gsC, o_sub, o_mod, o_lt, o_le, o_gt, o_ge, o_add, o_addT, o_addL, o_mul, o_ixT, o_ixL, o_ixF, o_eqI, o_neI, o_isN, o_isNotN, o_isB, f_all, f_lenT, f_lenL, f_lenF, f_int, f_tupL, f_tupT, i_tup, i_lst, i_frz, i_rng, i_zipT, i_zipL, s_tup, s_lst, p_some, u_bl, u_int, u_tup, u_lst, wipeD, List.getElem?_cons_zero, List.getElem?_cons_succ, List.set_cons_zero, List.set_cons_succ, List.length_cons, List.length_nil, true_and, and_true, if_and, if_or, Bool.false_eq_true, if_false, if_true, ite_true, ite_false, Bool.not_true, Bool.not_false]
          refine ⟨ty_at p5, by rw [szl]; omega, a, gl, _, 5, rfl, h5, by omega, by omega, by omega, fun u H6 u0 u1 h6 f6 => ?_⟩
          rw [words5_tx]
          obtain ⟨x, hx, ex⟩ := at_mem (ds := words5.map fun w => D.str (S w)) u0 (by rw [List.length_map]; show u < ((5 : Nat) : Int); omega)
          obtain ⟨z, hz, rfl⟩ := List.mem_map.mp hx
          simp only [o_ixL, ex, p_some]
          obtain ⟨z1, z2⟩ := words5_ok z hz
          have ez : (S z).cps.toList = z := List.toList_toArray
          have etx : (D.str (S z)).tx = [34] ++ z ++ [34] := by
            show 34 :: ((S z).cps.toList ++ [34]) = _
            rw [ez]; rfl
          have := leaf (.str (S z)) H6 (some (.int w)) (by show (S z).cps.toList.all isL = true; rw [ez]; exact z1) rfl (by rw [etx]; simp only [List.length_append, List.length_cons, List.length_nil]; omega) (h6.le (by omega)) f6
          rw [etx] at this
          simp only [o_addS, p_some]
          exact ⟨by rw [szl]; simp only [List.length_cons, List.length_nil]; omega, by rw [szl]; simp only [List.length_append, List.length_cons, List.length_nil]; omega, this⟩
        · rw [decide_eq_false hw4]
          simp only [w_notT, w_isiBC, w_ret, w_retF, w_retN, w_sif, w_seq, w_asg, w_drop, w_par, w_aug, w_for, w_next, w_brk, w_cnt, w_sfld, w_raise, w_thru, w_andV, w_orV, w_notV, w_and, w_or, w_not, w_if, w_test, w_tru, w_isiB, w_var, w_int, w_str, w_bl, w_non, w_op, w_chain, w_neg, w_cons, w_nil, w_tup, w_lst, w_newT, w_sl, w_oN, w_oS, w_B, w_call, w_fld, w_lc, w_yes, w_jAny, w_rng1, w_rng2, w_zip, w_gNm, w_gvNm, w_gTup, w_gsN, w_gsC, o_sub, o_mod, o_lt, o_le, o_gt, o_ge, o_add, o_addT, o_addL, o_mul, o_ixT, o_ixL, o_ixF, o_eqI, o_neI, o_isN, o_isNotN, o_isB, f_all, f_lenT, f_lenL, f_lenF, f_int, f_tupL, f_tupT, i_tup, i_lst, i_frz, i_rng, i_zipT, i_zipL, s_tup, s_lst, p_some, u_bl, u_int, u_tup, u_lst, wipeD, List.getElem?_cons_zero, List.getElem?_cons_succ, List.set_cons_zero, List.set_cons_succ, List.length_cons, List.length_nil, true_and, and_true, if_and, if_or, Bool.false_eq_true, if_false, if_true, ite_true, ite_false, Bool.not_true, Bool.not_false]
          refine ⟨a, gl, _, 4, rfl, h5, by omega, by omega, by omega, fun u H6 u0 u1 h6 f6 => ?_⟩
          have p6 := f6 p _ pa pg p5
          simp only [f_lenR p6, List.length_map, w_notT, w_isiBC, w_ret, w_retF, w_retN, w_sif, w_seq, w_asg, w_drop, w_par, w_aug, w_for, w_next, w_brk, w_cnt, w_sfld, w_raise, w_thru, w_andV, w_orV, w_notV, w_and, w_or, w_not, w_if, w_test, w_tru, w_isiB, w_var, w_int, w_str, w_bl, w_non, w_op, w_chain, w_neg, w_cons, w_nil, w_tup, w_lst, w_newT, w_sl, w_oN, w_oS, w_B, w_call, w_fld, w_lc, w_yes, w_jAny, w_rng1, w_rng2, w_zip, w_gNm, w_gvNm, w_gTup, w_gsN, w_gsC, o_sub, o_mod, o_lt, o_le, o_gt, o_ge, o_add, o_addT, o_addL, o_mul, o_ixT, o_ixL, o_ixF, o_eqI, o_neI, o_isN, o_isNotN, o_isB, f_all, f_lenT, f_lenL, f_lenF, f_int, f_tupL, f_tupT, i_tup, i_lst, i_frz, i_rng, i_zipT, i_zipL, s_tup, s_lst, p_some, u_bl, u_int, u_tup, u_lst, wipeD, List.getElem?_cons_zero, List.getElem?_cons_succ, List.set_cons_zero, List.set_cons_succ, List.length_cons, List.length_nil, true_and, and_true, if_and, if_or, Bool.false_eq_true, if_false, if_true, ite_true, ite_false, Bool.not_true, Bool.not_false]
          obtain ⟨m, hm, m2⟩ : ∃ m : Nat, (if ((vs.length : Nat) : Int) < u then ((vs.length : Nat) : Int) else u) = (m : Int) ∧ m ≤ vs.length := by
            split
            · exact ⟨vs.length, rfl, Nat.le_refl _⟩
            · exact ⟨u.toNat, by omega, by omega⟩
          have fm : ∀ {Q : DQ}, (fMin : Fn (plainC K)).w [.int u, .int ((vs.length : Nat) : Int)] H6 Q = Q (.int (m : Int)) H6 := fun {Q} => by
            rw [← hm]; rfl
          have lm : (vs.map strD).length = vs.length := List.length_map _
          have cf : cutL (vs.map strD) (some (((vs.length : Nat) : Int) - (m : Int))) none = (vs.drop (vs.length - m)).map strD := by rw [cutL_map, cutL_at m2]
          have ct : cutL (vs.map strD) none (some (((vs.length : Nat) : Int) - (m : Int))) = (vs.take (vs.length - m)).map strD := by rw [cutL_map, cutL_up m2]
          have hsz : (D.txs (vs.drop (vs.length - m))).length ≤ 90000 := by
            have e : (D.txs vs).length = (D.txs (vs.take (vs.length - m))).length + (D.txs (vs.drop (vs.length - m))).length := by
              rw [← List.length_append, ← txs_app, List.take_append_drop]
            have := g.sz
            omega
          simp only [fm, f_lenR p6, lm, sl_R p6, cf, ct, w_newT, w_M, lit_nil, lit_comma, w_notT, w_isiBC, w_ret, w_retF, w_retN, w_sif, w_seq, w_asg, w_drop, w_par, w_aug, w_for, w_next, w_brk, w_cnt, w_sfld, w_raise, w_thru, w_andV, w_orV, w_notV, w_and, w_or, w_not, w_if, w_test, w_tru, w_isiB, w_var, w_int, w_str, w_bl, w_non, w_op, w_chain, w_neg, w_cons, w_nil, w_tup, w_lst, w_newT, w_sl, w_oN, w_oS, w_B, w_call, w_fld, w_lc, w_yes, w_jAny, w_rng1, w_rng2, w_zip, w_gNm, w_gvNm, w_gTup, w_gsN, w_gsC, o_sub, o_mod, o_lt, o_le, o_gt, o_ge, o_add, o_addT, o_addL, o_mul, o_ixT, o_ixL, o_ixF, o_eqI, o_neI, o_isN, o_isNotN, o_isB, f_all, f_lenT, f_lenL, f_lenF, f_int, f_tupL, f_tupT, i_tup, i_lst, i_frz, i_rng, i_zipT, i_zipL, s_tup, s_lst, p_some, u_bl, u_int, u_tup, u_lst, wipeD, List.getElem?_cons_zero, List.getElem?_cons_succ, List.set_cons_zero, List.set_cons_succ, List.length_cons, List.length_nil, true_and, and_true, if_and, if_or, Bool.false_eq_true, if_false, if_true, ite_true, ite_false, Bool.not_true, Bool.not_false]
          refine ⟨⟨_, rfl⟩, ?_⟩
          refine lc_comma (by simp) trivial (by rw [List.length_drop]; omega) hsz ?_
          rw [show ((vs.drop (vs.length - m)).map fun v => D.str (S (v.tx ++ [44]))) = ((vs.drop (vs.length - m)).map fun v => v.tx ++ [44]).map fun y => D.str (S y) from by rw [List.map_map]; rfl, m_joinT, txs_flat2]
          simp only [lit_open, lit_close, o_addS, f_lenR p6, lm, sl_R p6, ct, w_newT, w_notT, w_isiBC, w_ret, w_retF, w_retN, w_sif, w_seq, w_asg, w_drop, w_par, w_aug, w_for, w_next, w_brk, w_cnt, w_sfld, w_raise, w_thru, w_andV, w_orV, w_notV, w_and, w_or, w_not, w_if, w_test, w_tru, w_isiB, w_var, w_int, w_str, w_bl, w_non, w_op, w_chain, w_neg, w_cons, w_nil, w_tup, w_lst, w_newT, w_sl, w_oN, w_oS, w_B, w_call, w_fld, w_lc, w_yes, w_jAny, w_rng1, w_rng2, w_zip, w_gNm, w_gvNm, w_gTup, w_gsN, w_gsC, o_sub, o_mod, o_lt, o_le, o_gt, o_ge, o_add, o_addT, o_addL, o_mul, o_ixT, o_ixL, o_ixF, o_eqI, o_neI, o_isN, o_isNotN, o_isB, f_all, f_lenT, f_lenL, f_lenF, f_int, f_tupL, f_tupT, i_tup, i_lst, i_frz, i_rng, i_zipT, i_zipL, s_tup, s_lst, p_some, u_bl, u_int, u_tup, u_lst, wipeD, List.getElem?_cons_zero, List.getElem?_cons_succ, List.set_cons_zero, List.set_cons_succ, List.length_cons, List.length_nil, true_and, and_true, if_and, if_or, Bool.false_eq_true, if_false, if_true, ite_true, ite_false, Bool.not_true, Bool.not_false]
          refine ⟨by omega, by rw [szl]; omega, by rw [szl]; (try simp only [List.length_append, List.length_cons, List.length_nil]); omega, by rw [szl]; omega, ?_⟩
          show _ ∧ _
          refine ⟨by rw [List.length_map, List.length_take, szl]; (try simp only [List.length_cons, List.length_nil]); omega, ?_⟩
          show ∀ r, _
          intro r hr
          have rn := h6.ne hr
          have f6' := f45.trans f6
          have r0 := f6'.none rn.1 rn.2 hr
          exact hk _ _ ⟨_, r, some d, _, _, _, rfl, g.wrap m2, by rw [updD_same, List.map_append]; rfl, rn.1, rn.2, r0, fun _ => by rw [List.length_append, List.length_cons]; omega, (h6.le (by omega)).new hr, f6'.updN r0⟩
  · rintro _ H4 ⟨vs, p, x2, x3, x4, x5, rfl, g, hp, pa, pg, p0, hne, h4, f4⟩
    rw [List.length_map, List.length_range] at g h4 hne
    have hn : (1 + n).toNat ≤ 12 := by omega
    have hne := hne (by omega)
    have gs := g.sz
    have gn := g.n1
    simp only [f_lenR hp, List.length_map, w_notT, w_isiBC, w_ret, w_retF, w_retN, w_sif, w_seq, w_asg, w_drop, w_par, w_aug, w_for, w_next, w_brk, w_cnt, w_sfld, w_raise, w_thru, w_andV, w_orV, w_notV, w_and, w_or, w_not, w_if, w_test, w_tru, w_isiB, w_var, w_int, w_str, w_bl, w_non, w_op, w_chain, w_neg, w_cons, w_nil, w_tup, w_lst, w_newT, w_sl, w_oN, w_oS, w_B, w_call, w_fld, w_lc, w_yes, w_jAny, w_rng1, w_rng2, w_zip, w_gNm, w_gvNm, w_gTup, w_gsN, w_gsC, o_sub, o_mod, o_lt, o_le, o_gt, o_ge, o_add, o_addT, o_addL, o_mul, o_ixT, o_ixL, o_ixF, o_eqI, o_neI, o_isN, o_isNotN, o_isB, f_all, f_lenT, f_lenL, f_lenF, f_int, f_tupL, f_tupT, i_tup, i_lst, i_frz, i_rng, i_zipT, i_zipL, s_tup, s_lst, p_some, u_bl, u_int, u_tup, u_lst, wipeD, List.getElem?_cons_zero, List.getElem?_cons_succ, List.set_cons_zero, List.set_cons_succ, List.length_cons, List.length_nil, true_and, and_true, if_and, if_or, Bool.false_eq_true, if_false, if_true, ite_true, ite_false, Bool.not_true, Bool.not_false]
    by_cases h1 : vs.length = 1
    · rw [decide_eq_true (show ((vs.length : Nat) : Int) = 1 by omega)]
      obtain ⟨v, rfl⟩ := List.length_eq_one_iff.mp h1
      simp only [ix_l hp, w_notT, w_isiBC, w_ret, w_retF, w_retN, w_sif, w_seq, w_asg, w_drop, w_par, w_aug, w_for, w_next, w_brk, w_cnt, w_sfld, w_raise, w_thru, w_andV, w_orV, w_notV, w_and, w_or, w_not, w_if, w_test, w_tru, w_isiB, w_var, w_int, w_str, w_bl, w_non, w_op, w_chain, w_neg, w_cons, w_nil, w_tup, w_lst, w_newT, w_sl, w_oN, w_oS, w_B, w_call, w_fld, w_lc, w_yes, w_jAny, w_rng1, w_rng2, w_zip, w_gNm, w_gvNm, w_gTup, w_gsN, w_gsC, o_sub, o_mod, o_lt, o_le, o_gt, o_ge, o_add, o_addT, o_addL, o_mul, o_ixT, o_ixL, o_ixF, o_eqI, o_neI, o_isN, o_isNotN, o_isB, f_all, f_lenT, f_lenL, f_lenF, f_int, f_tupL, f_tupT, i_tup, i_lst, i_frz, i_rng, i_zipT, i_zipL, s_tup, s_lst, p_some, u_bl, u_int, u_tup, u_lst, wipeD, List.getElem?_cons_zero, List.getElem?_cons_succ, List.set_cons_zero, List.set_cons_succ, List.length_cons, List.length_nil, true_and, and_true, if_and, if_or, Bool.false_eq_true, if_false, if_true, ite_true, ite_false, Bool.not_true, Bool.not_false]
      have hd := g.dp v List.mem_cons_self
      rw [txs_one] at gs
      exact endsD_rt (q v H4 ⟨g.tv v List.mem_cons_self, by omega, by omega⟩ (by omega) (h4.le (by omega)) f4)
    · rw [decide_eq_false (show ¬ ((vs.length : Nat) : Int) = 1 by omega)]
      simp only [it_ref hp, w_M, lit_nil, lit_comma, lit_open, lit_close, w_notT, w_isiBC, w_ret, w_retF, w_retN, w_sif, w_seq, w_asg, w_drop, w_par, w_aug, w_for, w_next, w_brk, w_cnt, w_sfld, w_raise, w_thru, w_andV, w_orV, w_notV, w_and, w_or, w_not, w_if, w_test, w_tru, w_isiB, w_var, w_int, w_str, w_bl, w_non, w_op, w_chain, w_neg, w_cons, w_nil, w_tup, w_lst, w_newT, w_sl, w_oN, w_oS, w_B, w_call, w_fld, w_lc, w_yes, w_jAny, w_rng1, w_rng2, w_zip, w_gNm, w_gvNm, w_gTup, w_gsN, w_gsC, o_sub, o_mod, o_lt, o_le, o_gt, o_ge, o_add, o_addT, o_addL, o_mul, o_ixT, o_ixL, o_ixF, o_eqI, o_neI, o_isN, o_isNotN, o_isB, f_all, f_lenT, f_lenL, f_lenF, f_int, f_tupL, f_tupT, i_tup, i_lst, i_frz, i_rng, i_zipT, i_zipL, s_tup, s_lst, p_some, u_bl, u_int, u_tup, u_lst, wipeD, List.getElem?_cons_zero, List.getElem?_cons_succ, List.set_cons_zero, List.set_cons_succ, List.length_cons, List.length_nil, true_and, and_true, if_and, if_or, Bool.false_eq_true, if_false, if_true, ite_true, ite_false, Bool.not_true, Bool.not_false]
      refine ⟨⟨_, rfl⟩, ?_⟩
      refine lc_comma (gd := fun H' => H' p = some (.lst (vs.map strD))) (by simp) hp (by omega) (by omega) ?_
      rw [show (vs.map fun v => D.str (S (v.tx ++ [44]))) = (vs.map fun v => v.tx ++ [44]).map fun y => D.str (S y) from by rw [List.map_map]; rfl, m_joinT, txs_flat2]
      simp only [o_addS, w_notT, w_isiBC, w_ret, w_retF, w_retN, w_sif, w_seq, w_asg, w_drop, w_par, w_aug, w_for, w_next, w_brk, w_cnt, w_sfld, w_raise, w_thru, w_andV, w_orV, w_notV, w_and, w_or, w_not, w_if, w_test, w_tru, w_isiB, w_var, w_int, w_str, w_bl, w_non, w_op, w_chain, w_neg, w_cons, w_nil, w_tup, w_lst, w_newT, w_sl, w_oN, w_oS, w_B, w_call, w_fld, w_lc, w_yes, w_jAny, w_rng1, w_rng2, w_zip, w_gNm, w_gvNm, w_gTup, w_gsN, w_gsC, o_sub, o_mod, o_lt, o_le, o_gt, o_ge, o_add, o_addT, o_addL, o_mul, o_ixT, o_ixL, o_ixF, o_eqI, o_neI, o_isN, o_isNotN, o_isB, f_all, f_lenT, f_lenL, f_lenF, f_int, f_tupL, f_tupT, i_tup, i_lst, i_frz, i_rng, i_zipT, i_zipL, s_tup, s_lst, p_some, u_bl, u_int, u_tup, u_lst, wipeD, List.getElem?_cons_zero, List.getElem?_cons_succ, List.set_cons_zero, List.set_cons_succ, List.length_cons, List.length_nil, true_and, and_true, if_and, if_or, Bool.false_eq_true, if_false, if_true, ite_true, ite_false, Bool.not_true, Bool.not_false]
      have hl := tup_len vs
      have hd := dp_le g.dp
      have := q (.tup vs) H4 ⟨tvs_of g.tv, by omega, by omega⟩ (by omega) (h4.le (by omega)) f4
      rw [tup_tx] at this
      exact ⟨by omega, by rw [szl]; omega, by rw [szl]; (try simp only [List.length_append, List.length_cons, List.length_nil]); omega, endsD_rt this⟩
end
end G
set_option Elab.async false
set_option linter.all false
set_option maxRecDepth 100000
namespace G
open PySem PySem.Spec PyProof.Rows L2
section
variable {K : PySem.W.Frag}
/-! ### bent texts -/
theorem cutTo {T : List Nat} {a : Nat} : cutS (S T) none (some (a : Int)) = S (T.take a) := by
  unfold cutS
  rw [HT.sIx_nat, S_len T]
  show S _ = S _
  rw [S_inj]
  show (T.toArray.toList.drop 0).take (min a T.length - 0) = _
  rw [List.toList_toArray, List.drop_zero, Nat.sub_zero]
  by_cases h : a ≤ T.length
  · rw [Nat.min_eq_left h]
  · rw [Nat.min_eq_right (by omega), List.take_of_length_le (Nat.le_refl _), List.take_of_length_le (by omega)]
def signs16 : List Nat := [40, 41, 44, 45, 34, 48, 49, 97, 65, 32, 46, 43, 91, 39, 10, 95]
theorem signs_tx : [D.str "(", D.str ")", D.str ",", D.str "-", D.str "\"", D.str "0", D.str "1", D.str "a", D.str "A", D.str " ", D.str ".", D.str "+", D.str "[", D.str "'", D.str "\n", D.str "_"] = signs16.map fun c => .str (S [c]) := by
  rw [lit_open, lit_close, lit_comma, lit_dash, lit_quote, lit_0, show ("1" : PySem.Str) = S [49] from by decide +kernel, show ("a" : PySem.Str) = S [97] from by decide +kernel, show ("A" : PySem.Str) = S [65] from by decide +kernel, show (" " : PySem.Str) = S [32] from by decide +kernel, show ("." : PySem.Str) = S [46] from by decide +kernel, show ("+" : PySem.Str) = S [43] from by decide +kernel, show ("[" : PySem.Str) = S [91] from by decide +kernel, show ("'" : PySem.Str) = S [39] from by decide +kernel, show ("\n" : PySem.Str) = S [10] from by decide +kernel, show ("_" : PySem.Str) = S [95] from by decide +kernel]
  rfl
theorem signs_ok : ∀ c ∈ signs16, c < 128 := by decide
theorem okl_sign {c : Nat} (h : c < 128) : okl [c] = true := by
  unfold okl
  rw [List.all_cons, decide_eq_true (by omega)]; rfl
def sp_law_bent : DSp := fun ds H Q _ => ∃ (a gl : Addr) (c : Int) (T : List Nat), ds = [.ref a, .str (S T)] ∧ BoxAt H a gl c ∧ c < 2 ^ 60 ∧ okl T = true ∧ T.length ≤ 2000 ∧ ∀ (T' : List Nat) (H' : DH), okl T' = true → T'.length ≤ 3000 → BoxAt H' a gl (c + 100) → Fr a gl H H' → Q (.str (S T')) H'
theorem w_law_bent : ∀ ds H Q E, ds.length = 2 → sp_law_bent ds H Q E → (b__law_bent K sp_law_draw).w (endsD Q E) (startD ["box", "text", "turn", "at", "signs", "sign", "shape"] ds) H := by
  rintro _ H Q E - ⟨a, gl, c, T, rfl, hat, hc, hk, hz, q⟩
  simp only [b__law_bent, show startD ["box", "text", "turn", "at", "signs", "sign", "shape"] [.ref a, .str (S T)] = [some (.ref a), some (.str (S T)), none, none, none, none, none] from rfl, w_notT, w_isiBC, w_ret, w_retF, w_retN, w_sif, w_seq, w_asg, w_drop, w_par, w_aug, w_for, w_next, w_brk, w_cnt, w_sfld, w_raise, w_thru, w_andV, w_orV, w_notV, w_and, w_or, w_not, w_if, w_test, w_tru, w_isiB, w_var, w_int, w_str, w_bl, w_non, w_op, w_chain, w_neg, w_cons, w_nil, w_tup, w_lst, w_newT, w_sl, w_oN, w_oS, w_B, w_call, w_fld, w_lc, w_yes, w_jAny, w_rng1, w_rng2, w_zip, w_gNm, w_gvNm, w_gTup, w_gsN, w_gsC, o_sub, o_mod, o_lt, o_le, o_gt, o_ge, o_add, o_addT, o_addL, o_mul, o_ixT, o_ixL, o_ixF, o_eqI, o_neI, o_isN, o_isNotN, o_isB, f_all, f_lenT, f_lenL, f_lenF, f_int, f_tupL, f_tupT, i_tup, i_lst, i_frz, i_rng, i_zipT, i_zipL, s_tup, s_lst, p_some, u_bl, u_int, u_tup, u_lst, wipeD, List.getElem?_cons_zero, List.getElem?_cons_succ, List.set_cons_zero, List.set_cons_succ, List.length_cons, List.length_nil, true_and, and_true, if_and, if_or, Bool.false_eq_true, if_false, if_true, ite_true, ite_false, Bool.not_true, Bool.not_false]
  refine ⟨a, gl, c, 2, rfl, hat, by omega, by omega, by omega, fun n H1 n0 n1 h1 f1 => ?_⟩
  simp only [w_notT, w_isiBC, w_ret, w_retF, w_retN, w_sif, w_seq, w_asg, w_drop, w_par, w_aug, w_for, w_next, w_brk, w_cnt, w_sfld, w_raise, w_thru, w_andV, w_orV, w_notV, w_and, w_or, w_not, w_if, w_test, w_tru, w_isiB, w_var, w_int, w_str, w_bl, w_non, w_op, w_chain, w_neg, w_cons, w_nil, w_tup, w_lst, w_newT, w_sl, w_oN, w_oS, w_B, w_call, w_fld, w_lc, w_yes, w_jAny, w_rng1, w_rng2, w_zip, w_gNm, w_gvNm, w_gTup, w_gsN, w_gsC, o_sub, o_mod, o_lt, o_le, o_gt, o_ge, o_add, o_addT, o_addL, o_mul, o_ixT, o_ixL, o_ixF, o_eqI, o_neI, o_isN, o_isNotN, o_isB, f_all, f_lenT, f_lenL, f_lenF, f_int, f_tupL, f_tupT, i_tup, i_lst, i_frz, i_rng, i_zipT, i_zipL, s_tup, s_lst, p_some, u_bl, u_int, u_tup, u_lst, wipeD, List.getElem?_cons_zero, List.getElem?_cons_succ, List.set_cons_zero, List.set_cons_succ, List.length_cons, List.length_nil, true_and, and_true, if_and, if_or, Bool.false_eq_true, if_false, if_true, ite_true, ite_false, Bool.not_true, Bool.not_false]
  refine ⟨by omega, by omega, ?_⟩
  refine for_all _ (fun i σ H' => ∃ (T : List Nat) (x2 x3 x4 x5 x6 : Option D), σ = [some (.ref a), some (.str (S T)), x2, x3, x4, x5, x6] ∧ okl T = true ∧ T.length ≤ 2000 + i ∧ BoxAt H' a gl (c + 1 + 10 * i) ∧ Fr a gl H H') ⟨T, none, none, none, none, none, rfl, hk, by omega, h1.le (by omega), f1⟩ (fun _ _ _ _ => trivial) ?_ ?_
  · rintro i d _ H2 hd ⟨T, x2, x3, x4, x5, x6, rfl, hk, hz, h2, f2⟩ k hkk
    have hi := (List.getElem?_eq_some_iff.mp hd).1
    rw [List.length_map, List.length_range] at hi
    have hzl : T.length ≤ sizeLine := by rw [szl]; omega
    simp only [f_lenS, w_notT, w_isiBC, w_ret, w_retF, w_retN, w_sif, w_seq, w_asg, w_drop, w_par, w_aug, w_for, w_next, w_brk, w_cnt, w_sfld, w_raise, w_thru, w_andV, w_orV, w_notV, w_and, w_or, w_not, w_if, w_test, w_tru, w_isiB, w_var, w_int, w_str, w_bl, w_non, w_op, w_chain, w_neg, w_cons, w_nil, w_tup, w_lst, w_newT, w_sl, w_oN, w_oS, w_B, w_call, w_fld, w_lc, w_yes, w_jAny, w_rng1, w_rng2, w_zip, w_gNm, w_gvNm, w_gTup, w_gsN, w_gsC, o_sub, o_mod, o_lt, o_le, o_gt, o_ge, o_add, o_addT, o_addL, o_mul, o_ixT, o_ixL, o_ixF, o_eqI, o_neI, o_isN, o_isNotN, o_isB, f_all, f_lenT, f_lenL, f_lenF, f_int, f_tupL, f_tupT, i_tup, i_lst, i_frz, i_rng, i_zipT, i_zipL, s_tup, s_lst, p_some, u_bl, u_int, u_tup, u_lst, wipeD, List.getElem?_cons_zero, List.getElem?_cons_succ, List.set_cons_zero, List.set_cons_succ, List.length_cons, List.length_nil, true_and, and_true, if_and, if_or, Bool.false_eq_true, if_false, if_true, ite_true, ite_false, Bool.not_true, Bool.not_false]
    refine ⟨hzl, a, gl, _, _, rfl, h2, by omega, by omega, by omega, fun w H3 w0 w1 h3 f3 => ?_⟩
    obtain ⟨m, rfl⟩ := Int.eq_ofNat_of_zero_le w0
    simp only [w_notT, w_isiBC, w_ret, w_retF, w_retN, w_sif, w_seq, w_asg, w_drop, w_par, w_aug, w_for, w_next, w_brk, w_cnt, w_sfld, w_raise, w_thru, w_andV, w_orV, w_notV, w_and, w_or, w_not, w_if, w_test, w_tru, w_isiB, w_var, w_int, w_str, w_bl, w_non, w_op, w_chain, w_neg, w_cons, w_nil, w_tup, w_lst, w_newT, w_sl, w_oN, w_oS, w_B, w_call, w_fld, w_lc, w_yes, w_jAny, w_rng1, w_rng2, w_zip, w_gNm, w_gvNm, w_gTup, w_gsN, w_gsC, o_sub, o_mod, o_lt, o_le, o_gt, o_ge, o_add, o_addT, o_addL, o_mul, o_ixT, o_ixL, o_ixF, o_eqI, o_neI, o_isN, o_isNotN, o_isB, f_all, f_lenT, f_lenL, f_lenF, f_int, f_tupL, f_tupT, i_tup, i_lst, i_frz, i_rng, i_zipT, i_zipL, s_tup, s_lst, p_some, u_bl, u_int, u_tup, u_lst, wipeD, List.getElem?_cons_zero, List.getElem?_cons_succ, List.set_cons_zero, List.set_cons_succ, List.length_cons, List.length_nil, true_and, and_true, if_and, if_or, Bool.false_eq_true, if_false, if_true, ite_true, ite_false, Bool.not_true, Bool.not_false]
    refine ⟨by rw [szl]; omega, a, gl, _, 16, rfl, h3, by omega, by omega, by omega, fun u H4 u0 u1 h4 f4 => ?_⟩
    rw [signs_tx]
    obtain ⟨x, hx, ex⟩ := at_mem (ds := signs16.map fun c => D.str (S [c])) u0 (by rw [List.length_map]; show u < ((16 : Nat) : Int); omega)
    obtain ⟨z, hz2, rfl⟩ := List.mem_map.mp hx
    have hzk := okl_sign (signs_ok z hz2)
    simp only [o_ixL, ex, w_notT, w_isiBC, w_ret, w_retF, w_retN, w_sif, w_seq, w_asg, w_drop, w_par, w_aug, w_for, w_next, w_brk, w_cnt, w_sfld, w_raise, w_thru, w_andV, w_orV, w_notV, w_and, w_or, w_not, w_if, w_test, w_tru, w_isiB, w_var, w_int, w_str, w_bl, w_non, w_op, w_chain, w_neg, w_cons, w_nil, w_tup, w_lst, w_newT, w_sl, w_oN, w_oS, w_B, w_call, w_fld, w_lc, w_yes, w_jAny, w_rng1, w_rng2, w_zip, w_gNm, w_gvNm, w_gTup, w_gsN, w_gsC, o_sub, o_mod, o_lt, o_le, o_gt, o_ge, o_add, o_addT, o_addL, o_mul, o_ixT, o_ixL, o_ixF, o_eqI, o_neI, o_isN, o_isNotN, o_isB, f_all, f_lenT, f_lenL, f_lenF, f_int, f_tupL, f_tupT, i_tup, i_lst, i_frz, i_rng, i_zipT, i_zipL, s_tup, s_lst, p_some, u_bl, u_int, u_tup, u_lst, wipeD, List.getElem?_cons_zero, List.getElem?_cons_succ, List.set_cons_zero, List.set_cons_succ, List.length_cons, List.length_nil, true_and, and_true, if_and, if_or, Bool.false_eq_true, if_false, if_true, ite_true, ite_false, Bool.not_true, Bool.not_false]
    refine ⟨a, gl, _, 3, rfl, h4, by omega, by omega, by omega, fun s H5 s0 s1 h5 f5 => ?_⟩
    have f25 := ((f2.trans f3).trans f4).trans f5
    have ha1 : (m : Int) + 1 = ((m + 1 : Nat) : Int) := by omega
    have fin : ∀ (U : List Nat) (y2 y3 y4 y5 y6 : Option D), okl U = true → U.length ≤ 2000 + (i + 1) → k [some (.ref a), some (.str (S U)), y2, y3, y4, y5, y6] H5 := fun U y2 y3 y4 y5 y6 u1 u2 => hkk _ _ ⟨U, y2, y3, y4, y5, y6, rfl, u1, u2, h5.le (by omega), f25⟩
    have l1 : (T.take m).length ≤ T.length := by rw [List.length_take]; omega
    have l2 : (T.drop m).length ≤ T.length := by rw [List.length_drop]; omega
    have l3 : (T.drop (m + 1)).length ≤ T.length := by rw [List.length_drop]; omega
    have l12 : (T.take m).length + (T.drop m).length = T.length := by rw [← List.length_append, List.take_append_drop]
    have l13 : (T.take m).length + (T.drop (m + 1)).length ≤ T.length := by rw [List.length_take, List.length_drop]; omega
    simp only [w_notT, w_isiBC, w_ret, w_retF, w_retN, w_sif, w_seq, w_asg, w_drop, w_par, w_aug, w_for, w_next, w_brk, w_cnt, w_sfld, w_raise, w_thru, w_andV, w_orV, w_notV, w_and, w_or, w_not, w_if, w_test, w_tru, w_isiB, w_var, w_int, w_str, w_bl, w_non, w_op, w_chain, w_neg, w_cons, w_nil, w_tup, w_lst, w_newT, w_sl, w_oN, w_oS, w_B, w_call, w_fld, w_lc, w_yes, w_jAny, w_rng1, w_rng2, w_zip, w_gNm, w_gvNm, w_gTup, w_gsN, w_gsC, o_sub, o_mod, o_lt, o_le, o_gt, o_ge, o_add, o_addT, o_addL, o_mul, o_ixT, o_ixL, o_ixF, o_eqI, o_neI, o_isN, o_isNotN, o_isB, f_all, f_lenT, f_lenL, f_lenF, f_int, f_tupL, f_tupT, i_tup, i_lst, i_frz, i_rng, i_zipT, i_zipL, s_tup, s_lst, p_some, u_bl, u_int, u_tup, u_lst, wipeD, List.getElem?_cons_zero, List.getElem?_cons_succ, List.set_cons_zero, List.set_cons_succ, List.length_cons, List.length_nil, true_and, and_true, if_and, if_or, Bool.false_eq_true, if_false, if_true, ite_true, ite_false, Bool.not_true, Bool.not_false]
    by_cases e0 : s = 0
    · rw [decide_eq_true e0]
      simp only [sl_S, cutTo, ha1, cutF, o_addS, w_notT, w_isiBC, w_ret, w_retF, w_retN, w_sif, w_seq, w_asg, w_drop, w_par, w_aug, w_for, w_next, w_brk, w_cnt, w_sfld, w_raise, w_thru, w_andV, w_orV, w_notV, w_and, w_or, w_not, w_if, w_test, w_tru, w_isiB, w_var, w_int, w_str, w_bl, w_non, w_op, w_chain, w_neg, w_cons, w_nil, w_tup, w_lst, w_newT, w_sl, w_oN, w_oS, w_B, w_call, w_fld, w_lc, w_yes, w_jAny, w_rng1, w_rng2, w_zip, w_gNm, w_gvNm, w_gTup, w_gsN, w_gsC, o_sub, o_mod, o_lt, o_le, o_gt, o_ge, o_add, o_addT, o_addL, o_mul, o_ixT, o_ixL, o_ixF, o_eqI, o_neI, o_isN, o_isNotN, o_isB, f_all, f_lenT, f_lenL, f_lenF, f_int, f_tupL, f_tupT, i_tup, i_lst, i_frz, i_rng, i_zipT, i_zipL, s_tup, s_lst, p_some, u_bl, u_int, u_tup, u_lst, wipeD, List.getElem?_cons_zero, List.getElem?_cons_succ, List.set_cons_zero, List.set_cons_succ, List.length_cons, List.length_nil, true_and, and_true, if_and, if_or, Bool.false_eq_true, if_false, if_true, ite_true, ite_false, Bool.not_true, Bool.not_false]
      exact ⟨hzl, hzl, by rw [szl]; omega, fin _ _ _ _ _ _ (by rw [okl_app, okl_take hk, okl_drop hk]; rfl) (by rw [List.length_append]; omega)⟩
    · rw [decide_eq_false e0]
      simp only [w_notT, w_isiBC, w_ret, w_retF, w_retN, w_sif, w_seq, w_asg, w_drop, w_par, w_aug, w_for, w_next, w_brk, w_cnt, w_sfld, w_raise, w_thru, w_andV, w_orV, w_notV, w_and, w_or, w_not, w_if, w_test, w_tru, w_isiB, w_var, w_int, w_str, w_bl, w_non, w_op, w_chain, w_neg, w_cons, w_nil, w_tup, w_lst, w_newT, w_sl, w_oN, w_oS, w_B, w_call, w_fld, w_lc, w_yes, w_jAny, w_rng1, w_rng2, w_zip, w_gNm, w_gvNm, w_gTup, w_gsN, w_gsC, o_sub, o_mod, o_lt, o_le, o_gt, o_ge, o_add, o_addT, o_addL, o_mul, o_ixT, o_ixL, o_ixF, o_eqI, o_neI, o_isN, o_isNotN, o_isB, f_all, f_lenT, f_lenL, f_lenF, f_int, f_tupL, f_tupT, i_tup, i_lst, i_frz, i_rng, i_zipT, i_zipL, s_tup, s_lst, p_some, u_bl, u_int, u_tup, u_lst, wipeD, List.getElem?_cons_zero, List.getElem?_cons_succ, List.set_cons_zero, List.set_cons_succ, List.length_cons, List.length_nil, true_and, and_true, if_and, if_or, Bool.false_eq_true, if_false, if_true, ite_true, ite_false, Bool.not_true, Bool.not_false]
      by_cases e1 : s = 1
      · rw [decide_eq_true e1]
        simp only [sl_S, cutTo, ha1, cutF, o_addS, w_notT, w_isiBC, w_ret, w_retF, w_retN, w_sif, w_seq, w_asg, w_drop, w_par, w_aug, w_for, w_next, w_brk, w_cnt, w_sfld, w_raise, w_thru, w_andV, w_orV, w_notV, w_and, w_or, w_not, w_if, w_test, w_tru, w_isiB, w_var, w_int, w_str, w_bl, w_non, w_op, w_chain, w_neg, w_cons, w_nil, w_tup, w_lst, w_newT, w_sl, w_oN, w_oS, w_B, w_call, w_fld, w_lc, w_yes, w_jAny, w_rng1, w_rng2, w_zip, w_gNm, w_gvNm, w_gTup, w_gsN, w_gsC, o_sub, o_mod, o_lt, o_le, o_gt, o_ge, o_add, o_addT, o_addL, o_mul, o_ixT, o_ixL, o_ixF, o_eqI, o_neI, o_isN, o_isNotN, o_isB, f_all, f_lenT, f_lenL, f_lenF, f_int, f_tupL, f_tupT, i_tup, i_lst, i_frz, i_rng, i_zipT, i_zipL, s_tup, s_lst, p_some, u_bl, u_int, u_tup, u_lst, wipeD, List.getElem?_cons_zero, List.getElem?_cons_succ, List.set_cons_zero, List.set_cons_succ, List.length_cons, List.length_nil, true_and, and_true, if_and, if_or, Bool.false_eq_true, if_false, if_true, ite_true, ite_false, Bool.not_true, Bool.not_false]
        exact ⟨hzl, by rw [szl]; omega, hzl, by rw [szl]; (try simp only [List.length_append, List.length_cons, List.length_nil]); omega, fin _ _ _ _ _ _ (by rw [okl_app, okl_app, okl_take hk, okl_drop hk, hzk]; rfl) (by simp only [List.length_append, List.length_cons, List.length_nil]; omega)⟩
      · rw [decide_eq_false e1]
        simp only [sl_S, cutTo, ha1, cutF, o_addS, w_notT, w_isiBC, w_ret, w_retF, w_retN, w_sif, w_seq, w_asg, w_drop, w_par, w_aug, w_for, w_next, w_brk, w_cnt, w_sfld, w_raise, w_thru, w_andV, w_orV, w_notV, w_and, w_or, w_not, w_if, w_test, w_tru, w_isiB, w_var, w_int, w_str, w_bl, w_non, w_op, w_chain, w_neg, w_cons, w_nil, w_tup, w_lst, w_newT, w_sl, w_oN, w_oS, w_B, w_call, w_fld, w_lc, w_yes, w_jAny, w_rng1, w_rng2, w_zip, w_gNm, w_gvNm, w_gTup, w_gsN, w_gsC, o_sub, o_mod, o_lt, o_le, o_gt, o_ge, o_add, o_addT, o_addL, o_mul, o_ixT, o_ixL, o_ixF, o_eqI, o_neI, o_isN, o_isNotN, o_isB, f_all, f_lenT, f_lenL, f_lenF, f_int, f_tupL, f_tupT, i_tup, i_lst, i_frz, i_rng, i_zipT, i_zipL, s_tup, s_lst, p_some, u_bl, u_int, u_tup, u_lst, wipeD, List.getElem?_cons_zero, List.getElem?_cons_succ, List.set_cons_zero, List.set_cons_succ, List.length_cons, List.length_nil, true_and, and_true, if_and, if_or, Bool.false_eq_true, if_false, if_true, ite_true, ite_false, Bool.not_true, Bool.not_false]
        exact ⟨hzl, by rw [szl]; omega, hzl, by rw [szl]; (try simp only [List.length_append, List.length_cons, List.length_nil]); omega, fin _ _ _ _ _ _ (by rw [okl_app, okl_app, okl_take hk, okl_drop hk, hzk]; rfl) (by simp only [List.length_append, List.length_cons, List.length_nil]; omega)⟩
  · rintro _ H2 ⟨T, x2, x3, x4, x5, x6, rfl, hk, hz, h2, f2⟩
    rw [List.length_map, List.length_range] at hz h2
    simp only [w_notT, w_isiBC, w_ret, w_retF, w_retN, w_sif, w_seq, w_asg, w_drop, w_par, w_aug, w_for, w_next, w_brk, w_cnt, w_sfld, w_raise, w_thru, w_andV, w_orV, w_notV, w_and, w_or, w_not, w_if, w_test, w_tru, w_isiB, w_var, w_int, w_str, w_bl, w_non, w_op, w_chain, w_neg, w_cons, w_nil, w_tup, w_lst, w_newT, w_sl, w_oN, w_oS, w_B, w_call, w_fld, w_lc, w_yes, w_jAny, w_rng1, w_rng2, w_zip, w_gNm, w_gvNm, w_gTup, w_gsN, w_gsC, o_sub, o_mod, o_lt, o_le, o_gt, o_ge, o_add, o_addT, o_addL, o_mul, o_ixT, o_ixL, o_ixF, o_eqI, o_neI, o_isN, o_isNotN, o_isB, f_all, f_lenT, f_lenL, f_lenF, f_int, f_tupL, f_tupT, i_tup, i_lst, i_frz, i_rng, i_zipT, i_zipL, s_tup, s_lst, p_some, u_bl, u_int, u_tup, u_lst, wipeD, List.getElem?_cons_zero, List.getElem?_cons_succ, List.set_cons_zero, List.set_cons_succ, List.length_cons, List.length_nil, true_and, and_true, if_and, if_or, Bool.false_eq_true, if_false, if_true, ite_true, ite_false, Bool.not_true, Bool.not_false]
    exact endsD_rt (q T H2 hk (by omega) (h2.le (by omega)) f2)
/-! ### the whole -/
def leaves4 : List (List Nat) := [[45], [48], [34, 97, 34], [40, 41]]
theorem leaves_tx : [D.str "-", D.str "0", D.str "\"a\"", D.str "()"] = leaves4.map fun w => .str (S w) := by
  rw [lit_dash, lit_0, show ("\"a\"" : PySem.Str) = S [34, 97, 34] from by decide +kernel, show ("()" : PySem.Str) = S [40, 41] from by decide +kernel]
  rfl
theorem leaves_ok : ∀ w ∈ leaves4, okl w = true ∧ w.length ≤ 3 := by decide
theorem lit_nines : ("123456789" : PySem.Str) = S [49, 50, 51, 52, 53, 54, 55, 56, 57] := by decide +kernel
theorem lit_end : (",)" : PySem.Str) = S [44, 41] := by decide +kernel
theorem lit_blank : (" " : PySem.Str) = S [32] := by decide +kernel
/-- repeated -/
def repL (n : Nat) (w : List Nat) : List Nat := (List.replicate n w).flatten
theorem o_mulS {C : TC} {H : DH} {Q : DQ} {w : List Nat} {n : Nat} (h1 : w.length ≤ 1000) (h2 : n ≤ 1000) (q : Q (.str (S (repL n w))) H) : (opMulS : Op2 C).w (.str (S w)) (.int (n : Int)) H Q := by
  have e : (⟨(List.replicate n (S w).cps.toList).flatten.toArray⟩ : PySem.Str) = S (repL n w) := by
    rw [show (S w).cps.toList = w from List.toList_toArray]
    rfl
  refine ⟨n, rfl, by rw [S_len w]; exact h1, h2, ?_⟩
  rw [e]
  exact q
theorem repL_okl {n : Nat} {w : List Nat} (h : okl w = true) : okl (repL n w) = true := by
  induction n with
  | zero => rfl
  | succ n ih =>
    unfold repL at ih ⊢
    rw [List.replicate_succ, List.flatten_cons, okl_app, h, ih]; rfl
theorem repL_len {n : Nat} {w : List Nat} : (repL n w).length = n * w.length := by
  unfold repL
  rw [List.length_flatten, List.map_replicate, List.sum_replicate_nat]
def sp_law_all : DSp := fun ds H Q _ => ∃ ns : List Int, ds = [.frz (ns.map .int)] ∧ ns.length ≤ 1000 ∧ ∀ H' : DH, Q (.bl true) H'
def al_last (K : PySem.W.Frag) (s__law_box : DSp) (s__law_text : DSp) (s__law_reads : DSp) (s__law_right : DSp) (s__law_bent : DSp) (s__law_draw : DSp) : SW (plainC K) := (sRet (bAndV (bCall 1 s__law_right (aCons (bStr "") aNil)) (bAndV (bCall 1 s__law_right (aCons (bOp (opAdd true) (bStr "0") (bVar 6)) aNil)) (bAndV (bCall 1 s__law_right (aCons (bOp (opAdd true) (bVar 3) (bStr ",")) aNil)) (bCall 1 s__law_right (aCons (bOp (opAdd true) (bStr " ") (bVar 3)) aNil))))))
def al_figs (K : PySem.W.Frag) (s__law_box : DSp) (s__law_text : DSp) (s__law_reads : DSp) (s__law_right : DSp) (s__law_bent : DSp) (s__law_draw : DSp) : SW (plainC K) := (sSeq (sAsg (bOp opIx (bStr "123456789") (bCall 2 s__law_draw (aCons (bVar 1) (aCons (bInt 9) aNil)))) (gwName 6)) (sSeq (sFor (jAny (bLst true (aCons (bInt 39) (aCons (bInt 40) (aCons (bInt 41) aNil))))) (gwName 5) (sIf (bOr (bNot (bTru (bCall 1 s__law_right (aCons (bOp (opMulS) (bVar 6) (bVar 5)) aNil)))) (bNot (bTru (bCall 1 s__law_right (aCons (bOp (opAdd true) (bOp (opAdd true) (bStr "(") (bOp (opMulS) (bVar 6) (bVar 5))) (bStr ",)")) aNil))))) (sRet (bBl false)) sNext)) (al_last K s__law_box s__law_text s__law_reads s__law_right s__law_bent s__law_draw)))
def al_deep (K : PySem.W.Frag) (s__law_box : DSp) (s__law_text : DSp) (s__law_reads : DSp) (s__law_right : DSp) (s__law_bent : DSp) (s__law_draw : DSp) : SW (plainC K) := (sSeq (sAsg (bOp opIx (bLst true (aCons (bStr "-") (aCons (bStr "0") (aCons (bStr "\"a\"") (aCons (bStr "()") aNil))))) (bCall 2 s__law_draw (aCons (bVar 1) (aCons (bInt 4) aNil)))) (gwName 4)) (sSeq (sFor (jAny (bLst true (aCons (bInt 58) (aCons (bInt 59) (aCons (bInt 60) (aCons (bInt 61) aNil)))))) (gwName 5) (sIf (bNot (bTru (bCall 1 s__law_right (aCons (bOp (opAdd true) (bOp (opAdd true) (bOp (opMulS) (bStr "(") (bVar 5)) (bVar 4)) (bOp (opMulS) (bStr ",)") (bVar 5))) aNil)))) (sRet (bBl false)) sNext)) (al_figs K s__law_box s__law_text s__law_reads s__law_right s__law_bent s__law_draw)))
def al_loop (K : PySem.W.Frag) (s__law_box : DSp) (s__law_text : DSp) (s__law_reads : DSp) (s__law_right : DSp) (s__law_bent : DSp) (s__law_draw : DSp) : SW (plainC K) := (sSeq (sFor (jRng1 (aCons (bInt 8) aNil)) (gwName 2) (sSeq (sAsg (bCall 1 s__law_text (aCons (bVar 1) aNil)) (gwName 3)) (sIf (bOr (bNot (bTru (bCall 1 s__law_reads (aCons (bVar 3) aNil)))) (bOr (bNot (bTru (bCall 1 s__law_right (aCons (bVar 3) aNil)))) (bNot (bTru (bCall 1 s__law_right (aCons (bCall 2 s__law_bent (aCons (bVar 1) (aCons (bVar 3) aNil))) aNil)))))) (sRet (bBl false)) sNext))) (al_deep K s__law_box s__law_text s__law_reads s__law_right s__law_bent s__law_draw))
theorem _law_all_split {K : PySem.W.Frag} {s__law_box s__law_text s__law_reads s__law_right s__law_bent s__law_draw : DSp} : b__law_all K s__law_box s__law_text s__law_reads s__law_right s__law_bent s__law_draw = (sSeq (sAsg (bCall 1 s__law_box (aCons (bVar 0) aNil)) (gwName 1)) (al_loop K s__law_box s__law_text s__law_reads s__law_right s__law_bent s__law_draw)) := rfl
section
variable {H : DH} {Q : DQ} {E : DX1} {a gl : Addr} {c : Int} {T : List Nat} {x0 x2 x4 x5 : Option D}
theorem w_al_last {z : Nat} (hk : okl T = true) (hz : T.length ≤ 2000) (hzk : okl [z] = true) (q : ∀ H', Q (.bl true) H') :
    (al_last K sp_law_box sp_law_text sp_law_reads sp_law_right sp_law_bent sp_law_draw).w (endsD Q E) [x0, some (.ref a), x2, some (.str (S T)), x4, x5, some (.str (S [z]))] H := by
  simp only [al_last, lit_nil, lit_0, lit_comma, lit_blank, w_notT, w_isiBC, w_ret, w_retF, w_retN, w_sif, w_seq, w_asg, w_drop, w_par, w_aug, w_for, w_next, w_brk, w_cnt, w_sfld, w_raise, w_thru, w_andV, w_orV, w_notV, w_and, w_or, w_not, w_if, w_test, w_tru, w_isiB, w_var, w_int, w_str, w_bl, w_non, w_op, w_chain, w_neg, w_cons, w_nil, w_tup, w_lst, w_newT, w_sl, w_oN, w_oS, w_B, w_call, w_fld, w_lc, w_yes, w_jAny, w_rng1, w_rng2, w_zip, w_gNm, w_gvNm, w_gTup, w_gsN, w_gsC, o_sub, o_mod, o_lt, o_le, o_gt, o_ge, o_add, o_addT, o_addL, o_mul, o_ixT, o_ixL, o_ixF, o_eqI, o_neI, o_isN, o_isNotN, o_isB, f_all, f_lenT, f_lenL, f_lenF, f_int, f_tupL, f_tupT, i_tup, i_lst, i_frz, i_rng, i_zipT, i_zipL, s_tup, s_lst, p_some, u_bl, u_int, u_tup, u_lst, wipeD, List.getElem?_cons_zero, List.getElem?_cons_succ, List.set_cons_zero, List.set_cons_succ, List.length_cons, List.length_nil, true_and, and_true, if_and, if_or, Bool.false_eq_true, if_false, if_true, ite_true, ite_false, Bool.not_true, Bool.not_false]
  refine ⟨[], rfl, rfl, by decide, ?_⟩
  simp only [o_addS, w_notT, w_isiBC, w_ret, w_retF, w_retN, w_sif, w_seq, w_asg, w_drop, w_par, w_aug, w_for, w_next, w_brk, w_cnt, w_sfld, w_raise, w_thru, w_andV, w_orV, w_notV, w_and, w_or, w_not, w_if, w_test, w_tru, w_isiB, w_var, w_int, w_str, w_bl, w_non, w_op, w_chain, w_neg, w_cons, w_nil, w_tup, w_lst, w_newT, w_sl, w_oN, w_oS, w_B, w_call, w_fld, w_lc, w_yes, w_jAny, w_rng1, w_rng2, w_zip, w_gNm, w_gvNm, w_gTup, w_gsN, w_gsC, o_sub, o_mod, o_lt, o_le, o_gt, o_ge, o_add, o_addT, o_addL, o_mul, o_ixT, o_ixL, o_ixF, o_eqI, o_neI, o_isN, o_isNotN, o_isB, f_all, f_lenT, f_lenL, f_lenF, f_int, f_tupL, f_tupT, i_tup, i_lst, i_frz, i_rng, i_zipT, i_zipL, s_tup, s_lst, p_some, u_bl, u_int, u_tup, u_lst, wipeD, List.getElem?_cons_zero, List.getElem?_cons_succ, List.set_cons_zero, List.set_cons_succ, List.length_cons, List.length_nil, true_and, and_true, if_and, if_or, Bool.false_eq_true, if_false, if_true, ite_true, ite_false, Bool.not_true, Bool.not_false]
  refine ⟨by rw [szl]; omega, _, rfl, by show okl ([48] ++ [z]) = true; rw [okl_app, hzk]; rfl, by (try simp only [List.length_append, List.length_cons, List.length_nil]); omega, ?_⟩
  simp only [o_addS, w_notT, w_isiBC, w_ret, w_retF, w_retN, w_sif, w_seq, w_asg, w_drop, w_par, w_aug, w_for, w_next, w_brk, w_cnt, w_sfld, w_raise, w_thru, w_andV, w_orV, w_notV, w_and, w_or, w_not, w_if, w_test, w_tru, w_isiB, w_var, w_int, w_str, w_bl, w_non, w_op, w_chain, w_neg, w_cons, w_nil, w_tup, w_lst, w_newT, w_sl, w_oN, w_oS, w_B, w_call, w_fld, w_lc, w_yes, w_jAny, w_rng1, w_rng2, w_zip, w_gNm, w_gvNm, w_gTup, w_gsN, w_gsC, o_sub, o_mod, o_lt, o_le, o_gt, o_ge, o_add, o_addT, o_addL, o_mul, o_ixT, o_ixL, o_ixF, o_eqI, o_neI, o_isN, o_isNotN, o_isB, f_all, f_lenT, f_lenL, f_lenF, f_int, f_tupL, f_tupT, i_tup, i_lst, i_frz, i_rng, i_zipT, i_zipL, s_tup, s_lst, p_some, u_bl, u_int, u_tup, u_lst, wipeD, List.getElem?_cons_zero, List.getElem?_cons_succ, List.set_cons_zero, List.set_cons_succ, List.length_cons, List.length_nil, true_and, and_true, if_and, if_or, Bool.false_eq_true, if_false, if_true, ite_true, ite_false, Bool.not_true, Bool.not_false]
  refine ⟨by rw [szl]; omega, _, rfl, by rw [okl_app, hk]; rfl, by simp only [List.length_append, List.length_cons, List.length_nil]; omega, ?_⟩
  simp only [o_addS, w_notT, w_isiBC, w_ret, w_retF, w_retN, w_sif, w_seq, w_asg, w_drop, w_par, w_aug, w_for, w_next, w_brk, w_cnt, w_sfld, w_raise, w_thru, w_andV, w_orV, w_notV, w_and, w_or, w_not, w_if, w_test, w_tru, w_isiB, w_var, w_int, w_str, w_bl, w_non, w_op, w_chain, w_neg, w_cons, w_nil, w_tup, w_lst, w_newT, w_sl, w_oN, w_oS, w_B, w_call, w_fld, w_lc, w_yes, w_jAny, w_rng1, w_rng2, w_zip, w_gNm, w_gvNm, w_gTup, w_gsN, w_gsC, o_sub, o_mod, o_lt, o_le, o_gt, o_ge, o_add, o_addT, o_addL, o_mul, o_ixT, o_ixL, o_ixF, o_eqI, o_neI, o_isN, o_isNotN, o_isB, f_all, f_lenT, f_lenL, f_lenF, f_int, f_tupL, f_tupT, i_tup, i_lst, i_frz, i_rng, i_zipT, i_zipL, s_tup, s_lst, p_some, u_bl, u_int, u_tup, u_lst, wipeD, List.getElem?_cons_zero, List.getElem?_cons_succ, List.set_cons_zero, List.set_cons_succ, List.length_cons, List.length_nil, true_and, and_true, if_and, if_or, Bool.false_eq_true, if_false, if_true, ite_true, ite_false, Bool.not_true, Bool.not_false]
  exact ⟨by rw [szl]; omega, _, rfl, by show okl ([32] ++ T) = true; rw [okl_app, hk]; rfl, by (try simp only [List.length_append, List.length_cons, List.length_nil]); omega, endsD_rt (E := E) (q H)⟩
theorem w_al_figs (hat : BoxAt H a gl c) (hc : c < 2 ^ 60) (hk : okl T = true) (hz : T.length ≤ 2000) (q : ∀ H', Q (.bl true) H') :
    (al_figs K sp_law_box sp_law_text sp_law_reads sp_law_right sp_law_bent sp_law_draw).w (endsD Q E) [x0, some (.ref a), x2, some (.str (S T)), x4, x5, none] H := by
  simp only [al_figs, lit_nines, w_notT, w_isiBC, w_ret, w_retF, w_retN, w_sif, w_seq, w_asg, w_drop, w_par, w_aug, w_for, w_next, w_brk, w_cnt, w_sfld, w_raise, w_thru, w_andV, w_orV, w_notV, w_and, w_or, w_not, w_if, w_test, w_tru, w_isiB, w_var, w_int, w_str, w_bl, w_non, w_op, w_chain, w_neg, w_cons, w_nil, w_tup, w_lst, w_newT, w_sl, w_oN, w_oS, w_B, w_call, w_fld, w_lc, w_yes, w_jAny, w_rng1, w_rng2, w_zip, w_gNm, w_gvNm, w_gTup, w_gsN, w_gsC, o_sub, o_mod, o_lt, o_le, o_gt, o_ge, o_add, o_addT, o_addL, o_mul, o_ixT, o_ixL, o_ixF, o_eqI, o_neI, o_isN, o_isNotN, o_isB, f_all, f_lenT, f_lenL, f_lenF, f_int, f_tupL, f_tupT, i_tup, i_lst, i_frz, i_rng, i_zipT, i_zipL, s_tup, s_lst, p_some, u_bl, u_int, u_tup, u_lst, wipeD, List.getElem?_cons_zero, List.getElem?_cons_succ, List.set_cons_zero, List.set_cons_succ, List.length_cons, List.length_nil, true_and, and_true, if_and, if_or, Bool.false_eq_true, if_false, if_true, ite_true, ite_false, Bool.not_true, Bool.not_false]
  refine ⟨a, gl, c, 9, rfl, hat, by omega, by omega, by omega, fun u H1 u0 u1 h1 f1 => ?_⟩
  have hu : u.toNat < ([49, 50, 51, 52, 53, 54, 55, 56, 57] : List Nat).length := by
    show u.toNat < 9
    omega
  obtain ⟨z, hz9, hzk⟩ : ∃ z, ([49, 50, 51, 52, 53, 54, 55, 56, 57] : List Nat)[u.toNat]? = some z ∧ okl [z] = true := by
    refine ⟨_, List.getElem?_eq_getElem hu, ?_⟩
    have : ∀ x ∈ ([49, 50, 51, 52, 53, 54, 55, 56, 57] : List Nat), okl [x] = true := by decide
    exact this _ (List.getElem_mem hu)
  have eu : ((u.toNat : Nat) : Int) = u := by omega
  have ix := fun (Q : DQ) => ixS (C := plainC K) (H := H1) (Q := Q) hz9
  rw [eu] at ix
  simp only [ix, w_notT, w_isiBC, w_ret, w_retF, w_retN, w_sif, w_seq, w_asg, w_drop, w_par, w_aug, w_for, w_next, w_brk, w_cnt, w_sfld, w_raise, w_thru, w_andV, w_orV, w_notV, w_and, w_or, w_not, w_if, w_test, w_tru, w_isiB, w_var, w_int, w_str, w_bl, w_non, w_op, w_chain, w_neg, w_cons, w_nil, w_tup, w_lst, w_newT, w_sl, w_oN, w_oS, w_B, w_call, w_fld, w_lc, w_yes, w_jAny, w_rng1, w_rng2, w_zip, w_gNm, w_gvNm, w_gTup, w_gsN, w_gsC, o_sub, o_mod, o_lt, o_le, o_gt, o_ge, o_add, o_addT, o_addL, o_mul, o_ixT, o_ixL, o_ixF, o_eqI, o_neI, o_isN, o_isNotN, o_isB, f_all, f_lenT, f_lenL, f_lenF, f_int, f_tupL, f_tupT, i_tup, i_lst, i_frz, i_rng, i_zipT, i_zipL, s_tup, s_lst, p_some, u_bl, u_int, u_tup, u_lst, wipeD, List.getElem?_cons_zero, List.getElem?_cons_succ, List.set_cons_zero, List.set_cons_succ, List.length_cons, List.length_nil, true_and, and_true, if_and, if_or, Bool.false_eq_true, if_false, if_true, ite_true, ite_false, Bool.not_true, Bool.not_false]
  refine ⟨by rw [szl]; decide, by rw [szl]; omega, ?_⟩
  refine for_all _ (fun i σ H' => H' = H1 ∧ ∃ x5, σ = [x0, some (.ref a), x2, some (.str (S T)), x4, x5, some (.str (S [z]))]) ⟨rfl, x5, rfl⟩ (fun _ _ _ _ => trivial) ?_ ?_
  · rintro i d _ _ hd ⟨rfl, x5, rfl⟩ k hkk
    obtain ⟨n, rfl, hn⟩ : ∃ n : Nat, d = .int (n : Int) ∧ n ≤ 41 := by
      have := List.mem_of_getElem? hd
      simp only [List.mem_cons, List.not_mem_nil, or_false] at this
      rcases this with rfl | rfl | rfl
      · exact ⟨39, rfl, by omega⟩
      · exact ⟨40, rfl, by omega⟩
      · exact ⟨41, rfl, by omega⟩
    have hr : okl (repL n [z]) = true := repL_okl hzk
    have hrl : (repL n [z]).length = n := by rw [repL_len]; simp
    simp only [lit_open, lit_end, w_notT, w_isiBC, w_ret, w_retF, w_retN, w_sif, w_seq, w_asg, w_drop, w_par, w_aug, w_for, w_next, w_brk, w_cnt, w_sfld, w_raise, w_thru, w_andV, w_orV, w_notV, w_and, w_or, w_not, w_if, w_test, w_tru, w_isiB, w_var, w_int, w_str, w_bl, w_non, w_op, w_chain, w_neg, w_cons, w_nil, w_tup, w_lst, w_newT, w_sl, w_oN, w_oS, w_B, w_call, w_fld, w_lc, w_yes, w_jAny, w_rng1, w_rng2, w_zip, w_gNm, w_gvNm, w_gTup, w_gsN, w_gsC, o_sub, o_mod, o_lt, o_le, o_gt, o_ge, o_add, o_addT, o_addL, o_mul, o_ixT, o_ixL, o_ixF, o_eqI, o_neI, o_isN, o_isNotN, o_isB, f_all, f_lenT, f_lenL, f_lenF, f_int, f_tupL, f_tupT, i_tup, i_lst, i_frz, i_rng, i_zipT, i_zipL, s_tup, s_lst, p_some, u_bl, u_int, u_tup, u_lst, wipeD, List.getElem?_cons_zero, List.getElem?_cons_succ, List.set_cons_zero, List.set_cons_succ, List.length_cons, List.length_nil, true_and, and_true, if_and, if_or, Bool.false_eq_true, if_false, if_true, ite_true, ite_false, Bool.not_true, Bool.not_false]
    refine o_mulS (by simp) (by omega) ⟨_, rfl, hr, by omega, ?_⟩
    simp only [w_notT, w_isiBC, w_ret, w_retF, w_retN, w_sif, w_seq, w_asg, w_drop, w_par, w_aug, w_for, w_next, w_brk, w_cnt, w_sfld, w_raise, w_thru, w_andV, w_orV, w_notV, w_and, w_or, w_not, w_if, w_test, w_tru, w_isiB, w_var, w_int, w_str, w_bl, w_non, w_op, w_chain, w_neg, w_cons, w_nil, w_tup, w_lst, w_newT, w_sl, w_oN, w_oS, w_B, w_call, w_fld, w_lc, w_yes, w_jAny, w_rng1, w_rng2, w_zip, w_gNm, w_gvNm, w_gTup, w_gsN, w_gsC, o_sub, o_mod, o_lt, o_le, o_gt, o_ge, o_add, o_addT, o_addL, o_mul, o_ixT, o_ixL, o_ixF, o_eqI, o_neI, o_isN, o_isNotN, o_isB, f_all, f_lenT, f_lenL, f_lenF, f_int, f_tupL, f_tupT, i_tup, i_lst, i_frz, i_rng, i_zipT, i_zipL, s_tup, s_lst, p_some, u_bl, u_int, u_tup, u_lst, wipeD, List.getElem?_cons_zero, List.getElem?_cons_succ, List.set_cons_zero, List.set_cons_succ, List.length_cons, List.length_nil, true_and, and_true, if_and, if_or, Bool.false_eq_true, if_false, if_true, ite_true, ite_false, Bool.not_true, Bool.not_false]
    refine o_mulS (by simp) (by omega) ?_
    simp only [o_addS, w_notT, w_isiBC, w_ret, w_retF, w_retN, w_sif, w_seq, w_asg, w_drop, w_par, w_aug, w_for, w_next, w_brk, w_cnt, w_sfld, w_raise, w_thru, w_andV, w_orV, w_notV, w_and, w_or, w_not, w_if, w_test, w_tru, w_isiB, w_var, w_int, w_str, w_bl, w_non, w_op, w_chain, w_neg, w_cons, w_nil, w_tup, w_lst, w_newT, w_sl, w_oN, w_oS, w_B, w_call, w_fld, w_lc, w_yes, w_jAny, w_rng1, w_rng2, w_zip, w_gNm, w_gvNm, w_gTup, w_gsN, w_gsC, o_sub, o_mod, o_lt, o_le, o_gt, o_ge, o_add, o_addT, o_addL, o_mul, o_ixT, o_ixL, o_ixF, o_eqI, o_neI, o_isN, o_isNotN, o_isB, f_all, f_lenT, f_lenL, f_lenF, f_int, f_tupL, f_tupT, i_tup, i_lst, i_frz, i_rng, i_zipT, i_zipL, s_tup, s_lst, p_some, u_bl, u_int, u_tup, u_lst, wipeD, List.getElem?_cons_zero, List.getElem?_cons_succ, List.set_cons_zero, List.set_cons_succ, List.length_cons, List.length_nil, true_and, and_true, if_and, if_or, Bool.false_eq_true, if_false, if_true, ite_true, ite_false, Bool.not_true, Bool.not_false]
    refine ⟨by rw [szl]; omega, by rw [szl]; (try simp only [List.length_append, List.length_cons, List.length_nil]); omega, _, rfl, by show okl (([40] ++ repL n [z]) ++ [44, 41]) = true; rw [okl_app, okl_app, hr]; rfl, by (try simp only [List.length_append, List.length_cons, List.length_nil]); omega, ?_⟩
    simp only [w_notT, w_isiBC, w_ret, w_retF, w_retN, w_sif, w_seq, w_asg, w_drop, w_par, w_aug, w_for, w_next, w_brk, w_cnt, w_sfld, w_raise, w_thru, w_andV, w_orV, w_notV, w_and, w_or, w_not, w_if, w_test, w_tru, w_isiB, w_var, w_int, w_str, w_bl, w_non, w_op, w_chain, w_neg, w_cons, w_nil, w_tup, w_lst, w_newT, w_sl, w_oN, w_oS, w_B, w_call, w_fld, w_lc, w_yes, w_jAny, w_rng1, w_rng2, w_zip, w_gNm, w_gvNm, w_gTup, w_gsN, w_gsC, o_sub, o_mod, o_lt, o_le, o_gt, o_ge, o_add, o_addT, o_addL, o_mul, o_ixT, o_ixL, o_ixF, o_eqI, o_neI, o_isN, o_isNotN, o_isB, f_all, f_lenT, f_lenL, f_lenF, f_int, f_tupL, f_tupT, i_tup, i_lst, i_frz, i_rng, i_zipT, i_zipL, s_tup, s_lst, p_some, u_bl, u_int, u_tup, u_lst, wipeD, List.getElem?_cons_zero, List.getElem?_cons_succ, List.set_cons_zero, List.set_cons_succ, List.length_cons, List.length_nil, true_and, and_true, if_and, if_or, Bool.false_eq_true, if_false, if_true, ite_true, ite_false, Bool.not_true, Bool.not_false]
    exact hkk _ _ ⟨rfl, _, rfl⟩
  · rintro _ _ ⟨rfl, x5, rfl⟩
    exact w_al_last hk hz hzk q
theorem w_al_deep (hat : BoxAt H a gl c) (hc : c < 2 ^ 50) (hk : okl T = true) (hz : T.length ≤ 2000) (q : ∀ H', Q (.bl true) H') :
    (al_deep K sp_law_box sp_law_text sp_law_reads sp_law_right sp_law_bent sp_law_draw).w (endsD Q E) [x0, some (.ref a), x2, some (.str (S T)), none, none, none] H := by
  simp only [al_deep, w_notT, w_isiBC, w_ret, w_retF, w_retN, w_sif, w_seq, w_asg, w_drop, w_par, w_aug, w_for, w_next, w_brk, w_cnt, w_sfld, w_raise, w_thru, w_andV, w_orV, w_notV, w_and, w_or, w_not, w_if, w_test, w_tru, w_isiB, w_var, w_int, w_str, w_bl, w_non, w_op, w_chain, w_neg, w_cons, w_nil, w_tup, w_lst, w_newT, w_sl, w_oN, w_oS, w_B, w_call, w_fld, w_lc, w_yes, w_jAny, w_rng1, w_rng2, w_zip, w_gNm, w_gvNm, w_gTup, w_gsN, w_gsC, o_sub, o_mod, o_lt, o_le, o_gt, o_ge, o_add, o_addT, o_addL, o_mul, o_ixT, o_ixL, o_ixF, o_eqI, o_neI, o_isN, o_isNotN, o_isB, f_all, f_lenT, f_lenL, f_lenF, f_int, f_tupL, f_tupT, i_tup, i_lst, i_frz, i_rng, i_zipT, i_zipL, s_tup, s_lst, p_some, u_bl, u_int, u_tup, u_lst, wipeD, List.getElem?_cons_zero, List.getElem?_cons_succ, List.set_cons_zero, List.set_cons_succ, List.length_cons, List.length_nil, true_and, and_true, if_and, if_or, Bool.false_eq_true, if_false, if_true, ite_true, ite_false, Bool.not_true, Bool.not_false]
  refine ⟨by rw [szl]; omega, a, gl, c, 4, rfl, hat, by omega, by omega, by omega, fun u H1 u0 u1 h1 f1 => ?_⟩
  rw [leaves_tx]
  obtain ⟨x, hx, ex⟩ := at_mem (ds := leaves4.map fun w => D.str (S w)) u0 (by rw [List.length_map]; show u < ((4 : Nat) : Int); omega)
  obtain ⟨z, hz2, rfl⟩ := List.mem_map.mp hx
  obtain ⟨z1, z2⟩ := leaves_ok z hz2
  simp only [o_ixL, ex, w_notT, w_isiBC, w_ret, w_retF, w_retN, w_sif, w_seq, w_asg, w_drop, w_par, w_aug, w_for, w_next, w_brk, w_cnt, w_sfld, w_raise, w_thru, w_andV, w_orV, w_notV, w_and, w_or, w_not, w_if, w_test, w_tru, w_isiB, w_var, w_int, w_str, w_bl, w_non, w_op, w_chain, w_neg, w_cons, w_nil, w_tup, w_lst, w_newT, w_sl, w_oN, w_oS, w_B, w_call, w_fld, w_lc, w_yes, w_jAny, w_rng1, w_rng2, w_zip, w_gNm, w_gvNm, w_gTup, w_gsN, w_gsC, o_sub, o_mod, o_lt, o_le, o_gt, o_ge, o_add, o_addT, o_addL, o_mul, o_ixT, o_ixL, o_ixF, o_eqI, o_neI, o_isN, o_isNotN, o_isB, f_all, f_lenT, f_lenL, f_lenF, f_int, f_tupL, f_tupT, i_tup, i_lst, i_frz, i_rng, i_zipT, i_zipL, s_tup, s_lst, p_some, u_bl, u_int, u_tup, u_lst, wipeD, List.getElem?_cons_zero, List.getElem?_cons_succ, List.set_cons_zero, List.set_cons_succ, List.length_cons, List.length_nil, true_and, and_true, if_and, if_or, Bool.false_eq_true, if_false, if_true, ite_true, ite_false, Bool.not_true, Bool.not_false]
  refine ⟨by rw [szl]; omega, ?_⟩
  refine for_all _ (fun i σ H' => H' = H1 ∧ ∃ x5, σ = [x0, some (.ref a), x2, some (.str (S T)), some (.str (S z)), x5, none]) ⟨rfl, none, rfl⟩ (fun _ _ _ _ => trivial) ?_ ?_
  · rintro i d _ _ hd ⟨rfl, x5, rfl⟩ k hkk
    obtain ⟨n, rfl, hn⟩ : ∃ n : Nat, d = .int (n : Int) ∧ n ≤ 61 := by
      have := List.mem_of_getElem? hd
      simp only [List.mem_cons, List.not_mem_nil, or_false] at this
      rcases this with rfl | rfl | rfl | rfl
      · exact ⟨58, rfl, by omega⟩
      · exact ⟨59, rfl, by omega⟩
      · exact ⟨60, rfl, by omega⟩
      · exact ⟨61, rfl, by omega⟩
    have r1 : okl (repL n [40]) = true := repL_okl rfl
    have r2 : okl (repL n [44, 41]) = true := repL_okl rfl
    have l1 : (repL n [40]).length = n := by rw [repL_len]; simp
    have l2 : (repL n [44, 41]).length = 2 * n := by rw [repL_len, Nat.mul_comm]; rfl
    simp only [lit_open, lit_end, w_notT, w_isiBC, w_ret, w_retF, w_retN, w_sif, w_seq, w_asg, w_drop, w_par, w_aug, w_for, w_next, w_brk, w_cnt, w_sfld, w_raise, w_thru, w_andV, w_orV, w_notV, w_and, w_or, w_not, w_if, w_test, w_tru, w_isiB, w_var, w_int, w_str, w_bl, w_non, w_op, w_chain, w_neg, w_cons, w_nil, w_tup, w_lst, w_newT, w_sl, w_oN, w_oS, w_B, w_call, w_fld, w_lc, w_yes, w_jAny, w_rng1, w_rng2, w_zip, w_gNm, w_gvNm, w_gTup, w_gsN, w_gsC, o_sub, o_mod, o_lt, o_le, o_gt, o_ge, o_add, o_addT, o_addL, o_mul, o_ixT, o_ixL, o_ixF, o_eqI, o_neI, o_isN, o_isNotN, o_isB, f_all, f_lenT, f_lenL, f_lenF, f_int, f_tupL, f_tupT, i_tup, i_lst, i_frz, i_rng, i_zipT, i_zipL, s_tup, s_lst, p_some, u_bl, u_int, u_tup, u_lst, wipeD, List.getElem?_cons_zero, List.getElem?_cons_succ, List.set_cons_zero, List.set_cons_succ, List.length_cons, List.length_nil, true_and, and_true, if_and, if_or, Bool.false_eq_true, if_false, if_true, ite_true, ite_false, Bool.not_true, Bool.not_false]
    refine o_mulS (by simp) (by omega) ?_
    simp only [o_addS, w_notT, w_isiBC, w_ret, w_retF, w_retN, w_sif, w_seq, w_asg, w_drop, w_par, w_aug, w_for, w_next, w_brk, w_cnt, w_sfld, w_raise, w_thru, w_andV, w_orV, w_notV, w_and, w_or, w_not, w_if, w_test, w_tru, w_isiB, w_var, w_int, w_str, w_bl, w_non, w_op, w_chain, w_neg, w_cons, w_nil, w_tup, w_lst, w_newT, w_sl, w_oN, w_oS, w_B, w_call, w_fld, w_lc, w_yes, w_jAny, w_rng1, w_rng2, w_zip, w_gNm, w_gvNm, w_gTup, w_gsN, w_gsC, o_sub, o_mod, o_lt, o_le, o_gt, o_ge, o_add, o_addT, o_addL, o_mul, o_ixT, o_ixL, o_ixF, o_eqI, o_neI, o_isN, o_isNotN, o_isB, f_all, f_lenT, f_lenL, f_lenF, f_int, f_tupL, f_tupT, i_tup, i_lst, i_frz, i_rng, i_zipT, i_zipL, s_tup, s_lst, p_some, u_bl, u_int, u_tup, u_lst, wipeD, List.getElem?_cons_zero, List.getElem?_cons_succ, List.set_cons_zero, List.set_cons_succ, List.length_cons, List.length_nil, true_and, and_true, if_and, if_or, Bool.false_eq_true, if_false, if_true, ite_true, ite_false, Bool.not_true, Bool.not_false]
    refine ⟨by rw [szl]; omega, o_mulS (by simp) (by omega) ?_⟩
    simp only [o_addS, w_notT, w_isiBC, w_ret, w_retF, w_retN, w_sif, w_seq, w_asg, w_drop, w_par, w_aug, w_for, w_next, w_brk, w_cnt, w_sfld, w_raise, w_thru, w_andV, w_orV, w_notV, w_and, w_or, w_not, w_if, w_test, w_tru, w_isiB, w_var, w_int, w_str, w_bl, w_non, w_op, w_chain, w_neg, w_cons, w_nil, w_tup, w_lst, w_newT, w_sl, w_oN, w_oS, w_B, w_call, w_fld, w_lc, w_yes, w_jAny, w_rng1, w_rng2, w_zip, w_gNm, w_gvNm, w_gTup, w_gsN, w_gsC, o_sub, o_mod, o_lt, o_le, o_gt, o_ge, o_add, o_addT, o_addL, o_mul, o_ixT, o_ixL, o_ixF, o_eqI, o_neI, o_isN, o_isNotN, o_isB, f_all, f_lenT, f_lenL, f_lenF, f_int, f_tupL, f_tupT, i_tup, i_lst, i_frz, i_rng, i_zipT, i_zipL, s_tup, s_lst, p_some, u_bl, u_int, u_tup, u_lst, wipeD, List.getElem?_cons_zero, List.getElem?_cons_succ, List.set_cons_zero, List.set_cons_succ, List.length_cons, List.length_nil, true_and, and_true, if_and, if_or, Bool.false_eq_true, if_false, if_true, ite_true, ite_false, Bool.not_true, Bool.not_false]
    refine ⟨by rw [szl]; (try simp only [List.length_append]); omega, _, rfl, by rw [okl_app, okl_app, r1, r2, z1]; rfl, by simp only [List.length_append]; omega, ?_⟩
    simp only [w_notT, w_isiBC, w_ret, w_retF, w_retN, w_sif, w_seq, w_asg, w_drop, w_par, w_aug, w_for, w_next, w_brk, w_cnt, w_sfld, w_raise, w_thru, w_andV, w_orV, w_notV, w_and, w_or, w_not, w_if, w_test, w_tru, w_isiB, w_var, w_int, w_str, w_bl, w_non, w_op, w_chain, w_neg, w_cons, w_nil, w_tup, w_lst, w_newT, w_sl, w_oN, w_oS, w_B, w_call, w_fld, w_lc, w_yes, w_jAny, w_rng1, w_rng2, w_zip, w_gNm, w_gvNm, w_gTup, w_gsN, w_gsC, o_sub, o_mod, o_lt, o_le, o_gt, o_ge, o_add, o_addT, o_addL, o_mul, o_ixT, o_ixL, o_ixF, o_eqI, o_neI, o_isN, o_isNotN, o_isB, f_all, f_lenT, f_lenL, f_lenF, f_int, f_tupL, f_tupT, i_tup, i_lst, i_frz, i_rng, i_zipT, i_zipL, s_tup, s_lst, p_some, u_bl, u_int, u_tup, u_lst, wipeD, List.getElem?_cons_zero, List.getElem?_cons_succ, List.set_cons_zero, List.set_cons_succ, List.length_cons, List.length_nil, true_and, and_true, if_and, if_or, Bool.false_eq_true, if_false, if_true, ite_true, ite_false, Bool.not_true, Bool.not_false]
    exact hkk _ _ ⟨rfl, _, rfl⟩
  · rintro _ _ ⟨rfl, x5, rfl⟩
    exact w_al_figs h1 (by omega) hk hz q
end
theorem w_law_all : ∀ ds H Q E, ds.length = 1 → sp_law_all ds H Q E → (b__law_all K sp_law_box sp_law_text sp_law_reads sp_law_right sp_law_bent sp_law_draw).w (endsD Q E) (startD ["script", "box", "turn", "text", "leaf", "many", "figure"] ds) H := by
  rintro _ H Q E - ⟨ns, rfl, hz, q⟩
  simp only [_law_all_split, show startD ["script", "box", "turn", "text", "leaf", "many", "figure"] [.frz (ns.map .int)] = [some (.frz (ns.map .int)), none, none, none, none, none, none] from rfl, w_notT, w_isiBC, w_ret, w_retF, w_retN, w_sif, w_seq, w_asg, w_drop, w_par, w_aug, w_for, w_next, w_brk, w_cnt, w_sfld, w_raise, w_thru, w_andV, w_orV, w_notV, w_and, w_or, w_not, w_if, w_test, w_tru, w_isiB, w_var, w_int, w_str, w_bl, w_non, w_op, w_chain, w_neg, w_cons, w_nil, w_tup, w_lst, w_newT, w_sl, w_oN, w_oS, w_B, w_call, w_fld, w_lc, w_yes, w_jAny, w_rng1, w_rng2, w_zip, w_gNm, w_gvNm, w_gTup, w_gsN, w_gsC, o_sub, o_mod, o_lt, o_le, o_gt, o_ge, o_add, o_addT, o_addL, o_mul, o_ixT, o_ixL, o_ixF, o_eqI, o_neI, o_isN, o_isNotN, o_isB, f_all, f_lenT, f_lenL, f_lenF, f_int, f_tupL, f_tupT, i_tup, i_lst, i_frz, i_rng, i_zipT, i_zipL, s_tup, s_lst, p_some, u_bl, u_int, u_tup, u_lst, wipeD, List.getElem?_cons_zero, List.getElem?_cons_succ, List.set_cons_zero, List.set_cons_succ, List.length_cons, List.length_nil, true_and, and_true, if_and, if_or, Bool.false_eq_true, if_false, if_true, ite_true, ite_false, Bool.not_true, Bool.not_false]
  refine ⟨ns, rfl, hz, fun a gl H1 h1 le1 => ?_⟩
  simp only [al_loop, w_notT, w_isiBC, w_ret, w_retF, w_retN, w_sif, w_seq, w_asg, w_drop, w_par, w_aug, w_for, w_next, w_brk, w_cnt, w_sfld, w_raise, w_thru, w_andV, w_orV, w_notV, w_and, w_or, w_not, w_if, w_test, w_tru, w_isiB, w_var, w_int, w_str, w_bl, w_non, w_op, w_chain, w_neg, w_cons, w_nil, w_tup, w_lst, w_newT, w_sl, w_oN, w_oS, w_B, w_call, w_fld, w_lc, w_yes, w_jAny, w_rng1, w_rng2, w_zip, w_gNm, w_gvNm, w_gTup, w_gsN, w_gsC, o_sub, o_mod, o_lt, o_le, o_gt, o_ge, o_add, o_addT, o_addL, o_mul, o_ixT, o_ixL, o_ixF, o_eqI, o_neI, o_isN, o_isNotN, o_isB, f_all, f_lenT, f_lenL, f_lenF, f_int, f_tupL, f_tupT, i_tup, i_lst, i_frz, i_rng, i_zipT, i_zipL, s_tup, s_lst, p_some, u_bl, u_int, u_tup, u_lst, wipeD, List.getElem?_cons_zero, List.getElem?_cons_succ, List.set_cons_zero, List.set_cons_succ, List.length_cons, List.length_nil, true_and, and_true, if_and, if_or, Bool.false_eq_true, if_false, if_true, ite_true, ite_false, Bool.not_true, Bool.not_false]
  refine ⟨by omega, by omega, ?_⟩
  refine for_all _ (fun i σ H' => BoxAt H' a gl (0 + 3000 * i) ∧ ∃ (x2 x3 : Option D), σ = [some (.frz (ns.map .int)), some (.ref a), x2, x3, none, none, none] ∧ (0 < i → ∃ T : List Nat, x3 = some (.str (S T)) ∧ okl T = true ∧ T.length ≤ 1000)) ⟨h1.le (by omega), none, none, rfl, fun h => absurd h (Nat.lt_irrefl _)⟩ (fun _ _ _ _ => trivial) ?_ ?_
  · rintro i d _ H2 hd ⟨h2, x2, x3, rfl, _⟩ k hkk
    have hi := (List.getElem?_eq_some_iff.mp hd).1
    rw [List.length_map, List.length_range] at hi
    simp only [w_notT, w_isiBC, w_ret, w_retF, w_retN, w_sif, w_seq, w_asg, w_drop, w_par, w_aug, w_for, w_next, w_brk, w_cnt, w_sfld, w_raise, w_thru, w_andV, w_orV, w_notV, w_and, w_or, w_not, w_if, w_test, w_tru, w_isiB, w_var, w_int, w_str, w_bl, w_non, w_op, w_chain, w_neg, w_cons, w_nil, w_tup, w_lst, w_newT, w_sl, w_oN, w_oS, w_B, w_call, w_fld, w_lc, w_yes, w_jAny, w_rng1, w_rng2, w_zip, w_gNm, w_gvNm, w_gTup, w_gsN, w_gsC, o_sub, o_mod, o_lt, o_le, o_gt, o_ge, o_add, o_addT, o_addL, o_mul, o_ixT, o_ixL, o_ixF, o_eqI, o_neI, o_isN, o_isNotN, o_isB, f_all, f_lenT, f_lenL, f_lenF, f_int, f_tupL, f_tupT, i_tup, i_lst, i_frz, i_rng, i_zipT, i_zipL, s_tup, s_lst, p_some, u_bl, u_int, u_tup, u_lst, wipeD, List.getElem?_cons_zero, List.getElem?_cons_succ, List.set_cons_zero, List.set_cons_succ, List.length_cons, List.length_nil, true_and, and_true, if_and, if_or, Bool.false_eq_true, if_false, if_true, ite_true, ite_false, Bool.not_true, Bool.not_false]
    refine ⟨a, gl, _, rfl, h2, by omega, fun v H3 hv hl h3 f3 => ?_⟩
    have hk := tx_okl v hv.tv
    simp only [w_notT, w_isiBC, w_ret, w_retF, w_retN, w_sif, w_seq, w_asg, w_drop, w_par, w_aug, w_for, w_next, w_brk, w_cnt, w_sfld, w_raise, w_thru, w_andV, w_orV, w_notV, w_and, w_or, w_not, w_if, w_test, w_tru, w_isiB, w_var, w_int, w_str, w_bl, w_non, w_op, w_chain, w_neg, w_cons, w_nil, w_tup, w_lst, w_newT, w_sl, w_oN, w_oS, w_B, w_call, w_fld, w_lc, w_yes, w_jAny, w_rng1, w_rng2, w_zip, w_gNm, w_gvNm, w_gTup, w_gsN, w_gsC, o_sub, o_mod, o_lt, o_le, o_gt, o_ge, o_add, o_addT, o_addL, o_mul, o_ixT, o_ixL, o_ixF, o_eqI, o_neI, o_isN, o_isNotN, o_isB, f_all, f_lenT, f_lenL, f_lenF, f_int, f_tupL, f_tupT, i_tup, i_lst, i_frz, i_rng, i_zipT, i_zipL, s_tup, s_lst, p_some, u_bl, u_int, u_tup, u_lst, wipeD, List.getElem?_cons_zero, List.getElem?_cons_succ, List.set_cons_zero, List.set_cons_succ, List.length_cons, List.length_nil, true_and, and_true, if_and, if_or, Bool.false_eq_true, if_false, if_true, ite_true, ite_false, Bool.not_true, Bool.not_false]
    refine ⟨v.tx, rfl, hk, hv.sz, ?_⟩
    rw [reads_tx hv.tv hv.dp]
    simp only [w_notT, w_isiBC, w_ret, w_retF, w_retN, w_sif, w_seq, w_asg, w_drop, w_par, w_aug, w_for, w_next, w_brk, w_cnt, w_sfld, w_raise, w_thru, w_andV, w_orV, w_notV, w_and, w_or, w_not, w_if, w_test, w_tru, w_isiB, w_var, w_int, w_str, w_bl, w_non, w_op, w_chain, w_neg, w_cons, w_nil, w_tup, w_lst, w_newT, w_sl, w_oN, w_oS, w_B, w_call, w_fld, w_lc, w_yes, w_jAny, w_rng1, w_rng2, w_zip, w_gNm, w_gvNm, w_gTup, w_gsN, w_gsC, o_sub, o_mod, o_lt, o_le, o_gt, o_ge, o_add, o_addT, o_addL, o_mul, o_ixT, o_ixL, o_ixF, o_eqI, o_neI, o_isN, o_isNotN, o_isB, f_all, f_lenT, f_lenL, f_lenF, f_int, f_tupL, f_tupT, i_tup, i_lst, i_frz, i_rng, i_zipT, i_zipL, s_tup, s_lst, p_some, u_bl, u_int, u_tup, u_lst, wipeD, List.getElem?_cons_zero, List.getElem?_cons_succ, List.set_cons_zero, List.set_cons_succ, List.length_cons, List.length_nil, true_and, and_true, if_and, if_or, Bool.false_eq_true, if_false, if_true, ite_true, ite_false, Bool.not_true, Bool.not_false]
    refine ⟨v.tx, rfl, hk, hv.sz, ?_⟩
    simp only [w_notT, w_isiBC, w_ret, w_retF, w_retN, w_sif, w_seq, w_asg, w_drop, w_par, w_aug, w_for, w_next, w_brk, w_cnt, w_sfld, w_raise, w_thru, w_andV, w_orV, w_notV, w_and, w_or, w_not, w_if, w_test, w_tru, w_isiB, w_var, w_int, w_str, w_bl, w_non, w_op, w_chain, w_neg, w_cons, w_nil, w_tup, w_lst, w_newT, w_sl, w_oN, w_oS, w_B, w_call, w_fld, w_lc, w_yes, w_jAny, w_rng1, w_rng2, w_zip, w_gNm, w_gvNm, w_gTup, w_gsN, w_gsC, o_sub, o_mod, o_lt, o_le, o_gt, o_ge, o_add, o_addT, o_addL, o_mul, o_ixT, o_ixL, o_ixF, o_eqI, o_neI, o_isN, o_isNotN, o_isB, f_all, f_lenT, f_lenL, f_lenF, f_int, f_tupL, f_tupT, i_tup, i_lst, i_frz, i_rng, i_zipT, i_zipL, s_tup, s_lst, p_some, u_bl, u_int, u_tup, u_lst, wipeD, List.getElem?_cons_zero, List.getElem?_cons_succ, List.set_cons_zero, List.set_cons_succ, List.length_cons, List.length_nil, true_and, and_true, if_and, if_or, Bool.false_eq_true, if_false, if_true, ite_true, ite_false, Bool.not_true, Bool.not_false]
    refine ⟨a, gl, _, v.tx, rfl, h3, by omega, hk, by omega, fun T' H4 k' l' h4 f4 => ?_⟩
    simp only [w_notT, w_isiBC, w_ret, w_retF, w_retN, w_sif, w_seq, w_asg, w_drop, w_par, w_aug, w_for, w_next, w_brk, w_cnt, w_sfld, w_raise, w_thru, w_andV, w_orV, w_notV, w_and, w_or, w_not, w_if, w_test, w_tru, w_isiB, w_var, w_int, w_str, w_bl, w_non, w_op, w_chain, w_neg, w_cons, w_nil, w_tup, w_lst, w_newT, w_sl, w_oN, w_oS, w_B, w_call, w_fld, w_lc, w_yes, w_jAny, w_rng1, w_rng2, w_zip, w_gNm, w_gvNm, w_gTup, w_gsN, w_gsC, o_sub, o_mod, o_lt, o_le, o_gt, o_ge, o_add, o_addT, o_addL, o_mul, o_ixT, o_ixL, o_ixF, o_eqI, o_neI, o_isN, o_isNotN, o_isB, f_all, f_lenT, f_lenL, f_lenF, f_int, f_tupL, f_tupT, i_tup, i_lst, i_frz, i_rng, i_zipT, i_zipL, s_tup, s_lst, p_some, u_bl, u_int, u_tup, u_lst, wipeD, List.getElem?_cons_zero, List.getElem?_cons_succ, List.set_cons_zero, List.set_cons_succ, List.length_cons, List.length_nil, true_and, and_true, if_and, if_or, Bool.false_eq_true, if_false, if_true, ite_true, ite_false, Bool.not_true, Bool.not_false]
    refine ⟨T', rfl, k', by omega, ?_⟩
    simp only [w_notT, w_isiBC, w_ret, w_retF, w_retN, w_sif, w_seq, w_asg, w_drop, w_par, w_aug, w_for, w_next, w_brk, w_cnt, w_sfld, w_raise, w_thru, w_andV, w_orV, w_notV, w_and, w_or, w_not, w_if, w_test, w_tru, w_isiB, w_var, w_int, w_str, w_bl, w_non, w_op, w_chain, w_neg, w_cons, w_nil, w_tup, w_lst, w_newT, w_sl, w_oN, w_oS, w_B, w_call, w_fld, w_lc, w_yes, w_jAny, w_rng1, w_rng2, w_zip, w_gNm, w_gvNm, w_gTup, w_gsN, w_gsC, o_sub, o_mod, o_lt, o_le, o_gt, o_ge, o_add, o_addT, o_addL, o_mul, o_ixT, o_ixL, o_ixF, o_eqI, o_neI, o_isN, o_isNotN, o_isB, f_all, f_lenT, f_lenL, f_lenF, f_int, f_tupL, f_tupT, i_tup, i_lst, i_frz, i_rng, i_zipT, i_zipL, s_tup, s_lst, p_some, u_bl, u_int, u_tup, u_lst, wipeD, List.getElem?_cons_zero, List.getElem?_cons_succ, List.set_cons_zero, List.set_cons_succ, List.length_cons, List.length_nil, true_and, and_true, if_and, if_or, Bool.false_eq_true, if_false, if_true, ite_true, ite_false, Bool.not_true, Bool.not_false]
    exact hkk _ _ ⟨h4.le (by omega), some d, _, rfl, fun _ => ⟨v.tx, rfl, hk, hl⟩⟩
  · rintro _ H2 ⟨h2, x2, x3, rfl, hT⟩
    rw [List.length_map, List.length_range] at h2 hT
    obtain ⟨T, rfl, hk, hl⟩ := hT (by decide)
    exact w_al_deep h2 (by show (0 : Int) + 3000 * ((8 : Nat) : Int) < 2 ^ 50; decide) hk (by omega) q
def sp_law : DSp := fun ds H Q _ => ∃ ns : List Int, ds = [.frz (ns.map .int)] ∧ ns.length ≤ 1000 ∧ ∀ H' : DH, Q (.bl true) H'
theorem w_law : ∀ ds H Q E, ds.length = 1 → sp_law ds H Q E → (b_law K sp_law_all).w (endsD Q E) (startD ["script"] ds) H := by
  rintro _ H Q E - ⟨ns, rfl, hz, q⟩
  simp only [b_law, show startD ["script"] [.frz (ns.map .int)] = [some (.frz (ns.map .int))] from rfl, w_notT, w_isiBC, w_ret, w_retF, w_retN, w_sif, w_seq, w_asg, w_drop, w_par, w_aug, w_for, w_next, w_brk, w_cnt, w_sfld, w_raise, w_thru, w_andV, w_orV, w_notV, w_and, w_or, w_not, w_if, w_test, w_tru, w_isiB, w_var, w_int, w_str, w_bl, w_non, w_op, w_chain, w_neg, w_cons, w_nil, w_tup, w_lst, w_newT, w_sl, w_oN, w_oS, w_B, w_call, w_fld, w_lc, w_yes, w_jAny, w_rng1, w_rng2, w_zip, w_gNm, w_gvNm, w_gTup, w_gsN, w_gsC, o_sub, o_mod, o_lt, o_le, o_gt, o_ge, o_add, o_addT, o_addL, o_mul, o_ixT, o_ixL, o_ixF, o_eqI, o_neI, o_isN, o_isNotN, o_isB, f_all, f_lenT, f_lenL, f_lenF, f_int, f_tupL, f_tupT, i_tup, i_lst, i_frz, i_rng, i_zipT, i_zipL, s_tup, s_lst, p_some, u_bl, u_int, u_tup, u_lst, wipeD, List.getElem?_cons_zero, List.getElem?_cons_succ, List.set_cons_zero, List.set_cons_succ, List.length_cons, List.length_nil, true_and, and_true, if_and, if_or, Bool.false_eq_true, if_false, if_true, ite_true, ite_false, Bool.not_true, Bool.not_false]
  exact ⟨ns, rfl, hz, fun H' => endsD_rt (E := E) (q H')⟩
end
end G
set_option Elab.async false
set_option linter.all false
set_option maxRecDepth 100000
set_option maxHeartbeats 0
namespace G
open PySem PySem.Spec PyProof.Rows L2
theorem knF {P : Program} {w : World} {K : PySem.W.Frag} {mg : Str → Option Value} {base : Heap} {k : Nat} {x : Str} {st : Stmt} {ps : List Str} {sp : DSp} (a : At K mg x st ps) (h : ∀ ds H Q E, sp ds H Q E → False) : Kn P w K mg base k x st ps sp := by
  obtain ⟨f, fd, h1, h2, h3⟩ := a.ex
  have z : ∀ vs H Q E, lift K ps.length sp vs H Q E → False := fun vs H Q E q => by
    obtain ⟨Z, HD, ds, QD, ED, _, _, _, q, _⟩ := q
    exact h _ _ _ _ q
  exact ⟨f, fd, h1, h2, h3, ⟨fun vs H Q E q => (z _ _ _ _ q).elim, fun _ _ _ _ _ _ _ _ _ _ _ _ _ q => (z _ _ _ _ q).elim⟩⟩
theorem knHF {P : Program} {w : World} {K : PySem.W.Frag} {mg : Str → Option Value} {base : Heap} {k : Nat} {x : Str} {st : Stmt} {ps : List Str} {sp : DSp} (a : At K mg x st ps) (h : ∀ ds H Q E, sp ds H Q E → False) : KnH P w K mg base k x st ps sp := by
  obtain ⟨f, fd, h1, h2, h3⟩ := a.ex
  have z : ∀ vs H Q E, lift K ps.length sp vs H Q E → False := fun vs H Q E q => by
    obtain ⟨Z, HD, ds, QD, ED, _, _, _, q, _⟩ := q
    exact h _ _ _ _ q
  exact ⟨f, fd, h1, h2, h3, ⟨fun vs H Q E q => (z _ _ _ _ q).elim, fun _ _ _ _ _ _ _ _ _ _ _ _ _ _ _ _ q => (z _ _ _ _ q).elim⟩⟩
section
variable {P : Program} {w : World} {K : PySem.W.Frag} {mg : Str → Option Value} {base : Heap}
theorem kn_is_figure (G : Fc P K mg) : Kn P w K mg base 1 "is_figure" t_is_figure ["sign"] sp_is_figure := kn_ok G.a_is_figure sc_is_figure (b_is_figure K) (fun f cdv A outer s H E c => x_is_figure G f cdv A outer s H E c) (w_is_figure)
theorem kn_figures_end (G : Fc P K mg) : Kn P w K mg base 2 "figures_end" t_figures_end ["text", "at"] sp_figures_end := kn_ok G.a_figures_end sc_figures_end (b_figures_end K sp_is_figure) (fun f cdv A outer s H E c => x_figures_end G (kn_is_figure G) f cdv A outer s H E c) (w_figures_end)
theorem kn_are_figures (G : Fc P K mg) : Kn P w K mg base 3 "are_figures" t_are_figures ["word"] sp_are_figures := kn_ok G.a_are_figures sc_are_figures (b_are_figures K sp_figures_end) (fun f cdv A outer s H E c => x_are_figures G (kn_figures_end G) f cdv A outer s H E c) (w_are_figures)
theorem kn_number_of (G : Fc P K mg) : Kn P w K mg base 4 "number_of" t_number_of ["word", "most"] sp_number_of := kn_ok G.a_number_of sc_number_of (b_number_of K sp_are_figures) (fun f cdv A outer s H E c => x_number_of G (kn_are_figures G) f cdv A outer s H E c) (w_number_of)
theorem kn_atom_text (G : Fc P K mg) : Kn P w K mg base 1 "atom_text" t_atom_text ["value"] sp_atom_text := kn_ok G.a_atom_text sc_atom_text (b_atom_text K) (fun f cdv A outer s H E c => x_atom_text G f cdv A outer s H E c) (w_atom_text)
theorem kn_text_of (G : Fc P K mg) : Kn P w K mg base 2 "text_of" t_text_of ["value"] sp_text_of := kn_ok G.a_text_of sc_text_of (b_text_of K sp_atom_text) (fun f cdv A outer s H E c => x_text_of G (kn_atom_text G) f cdv A outer s H E c) (w_text_of)
theorem kn_is_letter (G : Fc P K mg) : Kn P w K mg base 1 "is_letter" t_is_letter ["sign"] sp_is_letter := kn_ok G.a_is_letter sc_is_letter (b_is_letter K) (fun f cdv A outer s H E c => x_is_letter G f cdv A outer s H E c) (w_is_letter)
theorem kn_string_at (G : Fc P K mg) : Kn P w K mg base 2 "string_at" t_string_at ["text", "at"] sp_string_at := kn_ok G.a_string_at sc_string_at (b_string_at K sp_is_letter) (fun f cdv A outer s H E c => x_string_at G (kn_is_letter G) f cdv A outer s H E c) (w_string_at)
theorem kn_number_at (G : Fc P K mg) : Kn P w K mg base 5 "number_at" t_number_at ["text", "at"] sp_number_at := kn_ok G.a_number_at sc_number_at (b_number_at K sp_figures_end sp_number_of) (fun f cdv A outer s H E c => x_number_at G (kn_figures_end G) (kn_number_of G) f cdv A outer s H E c) (w_number_at)
theorem kn_atom_at (G : Fc P K mg) : Kn P w K mg base 6 "atom_at" t_atom_at ["text", "at"] sp_atom_at := kn_ok G.a_atom_at sc_atom_at (b_atom_at K sp_string_at sp_is_figure sp_number_at) (fun f cdv A outer s H E c => x_atom_at G (kn_string_at G) (kn_is_figure G) (kn_number_at G) f cdv A outer s H E c) (w_atom_at)
theorem kn_value_of (G : Fc P K mg) : Kn P w K mg base 7 "value_of" t_value_of ["text"] sp_value_of := kn_ok G.a_value_of sc_value_of (b_value_of K sp_atom_at) (fun f cdv A outer s H E c => x_value_of G (kn_atom_at G) f cdv A outer s H E c) (w_value_of)
theorem kn_told (G : Fc P K mg) : Kn P w K mg base 3 "told" t_told ["value"] sp_told := kn_ok G.a_told sc_told (b_told K sp_text_of) (fun f cdv A outer s H E c => x_told G (kn_text_of G) f cdv A outer s H E c) (w_told)
theorem kn_untold (G : Fc P K mg) : Kn P w K mg base 8 "untold" t_untold ["text"] sp_untold := kn_ok G.a_untold sc_untold (b_untold K sp_value_of) (fun f cdv A outer s H E c => x_untold G (kn_value_of G) f cdv A outer s H E c) (w_untold)
theorem kn__law_box (G : Fc P K mg) : Kn P w K mg base 1 "_law_box" t__law_box ["script"] sp_law_box := kn_ok G.a__law_box sc__law_box (b__law_box K) (fun f cdv A outer s H E c => x__law_box G f cdv A outer s H E c) (w_law_box)
theorem kn__law_draw (G : Fc P K mg) : Kn P w K mg base 1 "_law_draw" t__law_draw ["box", "limit"] sp_law_draw := kn_ok G.a__law_draw sc__law_draw (b__law_draw K) (fun f cdv A outer s H E c => x__law_draw G f cdv A outer s H E c) (w_law_draw)
theorem kn__law_same (G : Fc P K mg) : Kn P w K mg base 1 "_law_same" t__law_same ["due", "got"] sp_law_same := kn_ok G.a__law_same sc__law_same (b__law_same K) (fun f cdv A outer s H E c => x__law_same G f cdv A outer s H E c) (w_law_same)
theorem knh__law_same (G : Fc P K mg) : KnH P w K mg base 1 "_law_same" t__law_same ["due", "got"] sp_law_same := knH_ok G.a__law_same sc__law_same (b__law_same K) (fun f cdv A outer s H E q c => xh__law_same G f cdv A outer s H E q c) (w_law_same)
theorem kn__law_reads (G : Fc P K mg) : Kn P w K mg base 1 "_law_reads" t__law_reads ["text"] sp_law_reads := kn_ok G.a__law_reads sc__law_reads (b__law_reads K) (fun f cdv A outer s H E c => x__law_reads G f cdv A outer s H E c) (w_law_reads)
theorem knh__law_reads (G : Fc P K mg) : KnH P w K mg base 1 "_law_reads" t__law_reads ["text"] sp_law_reads := knH_ok G.a__law_reads sc__law_reads (b__law_reads K) (fun f cdv A outer s H E q c => xh__law_reads G f cdv A outer s H E q c) (w_law_reads)
theorem kn__law_text (G : Fc P K mg) : Kn P w K mg base 2 "_law_text" t__law_text ["box"] sp_law_text := kn_ok G.a__law_text sc__law_text (b__law_text K sp_law_draw) (fun f cdv A outer s H E c => x__law_text G (kn__law_draw G) f cdv A outer s H E c) (w_law_text)
theorem kn__law_bent (G : Fc P K mg) : Kn P w K mg base 2 "_law_bent" t__law_bent ["box", "text"] sp_law_bent := kn_ok G.a__law_bent sc__law_bent (b__law_bent K sp_law_draw) (fun f cdv A outer s H E c => x__law_bent G (kn__law_draw G) f cdv A outer s H E c) (w_law_bent)
theorem kn__law_right (G : Fc P K mg) : Kn P w K mg base 9 "_law_right" t__law_right ["text"] sp_law_right := kn_ok G.a__law_right sc__law_right (b__law_right K sp_untold sp_law_reads sp_law_same sp_told (Hit.add "InvalidText" "InvalidText" true G.ex__law_right_InvalidText (Hit.nil "InvalidText") rfl)) (fun f cdv A outer s H E c => x__law_right G (kn_untold G) (kn__law_reads G) (kn__law_same G) (kn_told G) (knh__law_reads G) (knh__law_same G) (Hit.add "InvalidText" "InvalidText" true G.ex__law_right_InvalidText (Hit.nil "InvalidText") rfl) rfl f cdv A outer s H E c) (w_law_right (Hit.add "InvalidText" "InvalidText" true G.ex__law_right_InvalidText (Hit.nil "InvalidText") rfl) (by simp only [Hit.add, if_pos]))
theorem kn__law_all (G : Fc P K mg) : Kn P w K mg base 10 "_law_all" t__law_all ["script"] sp_law_all := kn_ok G.a__law_all sc__law_all (b__law_all K sp_law_box sp_law_text sp_law_reads sp_law_right sp_law_bent sp_law_draw) (fun f cdv A outer s H E c => x__law_all G (kn__law_box G) (kn__law_text G) (kn__law_reads G) (kn__law_right G) (kn__law_bent G) (kn__law_draw G) f cdv A outer s H E c) (w_law_all)
theorem kn_law (G : Fc P K mg) : Kn P w K mg base 11 "law" t_law ["script"] sp_law := kn_ok G.a_law sc_law (b_law K sp_law_all) (fun f cdv A outer s H E c => x_law G (kn__law_all G) f cdv A outer s H E c) (w_law)
end
theorem law_end {w : World} {K : PySem.W.Frag} {h : Heap} {mg : Str → Option Value} {fa0 : Addr} (X : K.In h) (N : h.Ns mainGlobals mg) (c : SaysG R.prog fa fn xs exb K) (hfa : mg ("law" : Str) = some (.ref fa0)) :
    ∃ fd : FuncData, (∀ (s : Shared) (v : Value), BindsTo s fd ⟨[v], []⟩ [("script", v)]) ∧ ∀ base : Heap, FnOk R.prog w K mg base (L2N.CX R.prog w) 11 fa0 fd ["script"] (lift K 1 sp_law) := by
  have G := fc_of X N c
  obtain ⟨fd, F⟩ := c.d.defs mem_law
  have F2 : Fun K "law" "law" t_law (He.ga K "law") fd := He5.fun_of F
  have e := hfa.symm.trans (c.glo X N (x := "law") (List.mem_of_getElem? (i := 36) rfl))
  cases e
  have hb := FunD.bindsA (ps := ["script"]) F fun _ _ _ _ _ _ us hl => match us, hl with | [_], _ => rfl
  exact ⟨fd, fun s v => hb s [v] rfl, fun base => def_ok F2 sc_law (b_law K sp_law_all) (fun cdv A outer s H E c => x_law G (kn__law_all G) (He.ga K "law") cdv A outer s H E c) w_law⟩
theorem reps_ints {K : PySem.W.Frag} {Z : Hp} : ∀ ns : List Int, Reps K Z (ns.map D.int) (ns.map V.int)
  | [] => Reps.nil
  | n :: ns => Reps.cons rfl (reps_ints ns)
theorem law_lift {K : PySem.W.Frag} {H : Hp} {a : Addr} {ns : List Int} (hl : ns.length ≤ 63) (hS : SqL K H a (ns.map V.int)) : lift K 1 sp_law [.ref a] H (fun v _ => v = .bl true) fun _ _ _ => False := by
  refine ⟨H, fun _ => none, [.frz (ns.map .int)], fun d _ => d = .bl true, fun _ _ _ => False, ⟨fun _ _ h => h, fun _ _ h => (by cases h), trivial⟩, Reps.cons ⟨a, ns.map V.int, rfl, hS, reps_ints ns⟩ Reps.nil, rfl, ⟨ns, rfl, by omega, fun _ => rfl⟩, ?_, ?_⟩
  · rintro Z' HD' H' d v _ r rfl
    exact r
  · exact fun _ _ _ _ _ _ _ _ _ _ z => z
/-- the written law's walk, its exceptions with a context -/
theorem walk_ctx {l : PySem.W.OpenLaw} {k n : Nat} {x : Str} {d : DefRec} {q : Program} {loose : List Str} {XP : (Str → Option Value) → Heap → Prop} {YP : World → Heap → Prop} (hm : l.most = some n) (hz : n ≤ sizeLine) (nd : d.params.defaults = []) (rm : Room k callerA)
    (facts : ∀ (w : World) (mg : Str → Option Value) (fa : Addr) (h : Heap), YP w h → h.Ns mainGlobals mg → mg d.name = some (.ref fa) → ∃ (K : PySem.W.Frag) (fd : FuncData) (sp : Sp), K.In h ∧ (∀ (s : Shared) (u : Value), BindsTo s fd ⟨[u], []⟩ [(x, u)]) ∧
      (∀ (H : Hp) (a : Addr) (ns : List Int), ns.length ≤ n → SqL K H a (ns.map V.int) → sp [.ref a] H (fun v _ => v = .bl true) fun _ _ _ => False) ∧ ∀ base : Heap, FnOk l.prog w K mg base (L2N.CX l.prog w) k fa fd [x] sp) :
    PySem.W.WalkO q loose XP YP l.row.toRowW d [] (fun f vs => PySem.call f vs) := by
  refine Att.attach_call hm nd fun w _ s1 mg _ fa _ _ _ _ a _ ns G Y _ _ _ hmg hobj hints hlen hg => ?_
  obtain ⟨K, fd, sp, kin, hbind, hsp, hfn⟩ := facts w mg fa _ Y G.T.g hmg
  refine law_call kin G.T.g G.T.b G.T.builtins G.T.nolimit hg hobj hints (Nat.le_trans hlen hz) rm (fun base _ _ => hfn base) hbind (fun H _ hS => hsp H a ns hlen hS) fun H e s' z => ?_
  obtain ⟨_, _, _, _, _, _, _, _, _, _, _, _, z⟩ := z
  exact z
abbrev LW : PySem.W.OpenLaw := PySem.Challenge.rw_mendinghalls_k81_untold_refused
abbrev topd := HandSHeadRun.topDef R.prog 34
theorem law_walk : PySem.W.WalkO (PySem.W.view R.prog [34]) loose (PySem.W.XL (PySem.W.view R.prog [34]) []) hk.says R.toRowW topd [] fun f vs => PySem.call f vs := by
  refine walk_ctx (l := LW) (n := 63) (k := 11) (x := "script") rfl (by decide) (by kernel_rfl) ⟨rfl, by decide, by decide⟩ ?_
  rintro w mg fa0 h ⟨K, kin, said⟩ G hn
  have en : topd.name = ("law" : PySem.Str) := by kernel_rfl
  rw [en] at hn
  obtain ⟨fd, hb, hf⟩ := law_end (w := w) kin G said hn
  exact ⟨K, fd, lift K 1 sp_law, kin, hb, fun H a ns hl hS => law_lift hl hS, hf⟩
end G
open PySem PySem.W PySem.Calls PyProof.Rows
theorem PySem.Challenge.cw_mendinghalls_k81_untold_refused_holds : PySem.Challenge.rw_mendinghalls_k81_untold_refused.Holds := by
  w_on
  o_law
  refine HandSHeadRun.head_any (H := G.hk) (M := 20000) (d := G.topd) (kwd := []) (loose := G.loose) (ob := G.ob) (q := PySem.W.view G.R.prog [34]) (r := G.R) G.ob_eq ?e ?f G.run ?g1 ?g2 ?g3 rfl ?g4 ?g5 ⟨rfl, rfl, rfl, rfl, rfl, by decide +kernel⟩ ?hw G.law_walk
  case e => kernel_rfl
  case f => exact fun s => by kernel_rfl
  case g1 => kernel_rfl
  case g2 => kernel_rfl
  case g3 => kernel_rfl
  case g4 => first | assumption | decide +kernel
  case g5 => decide +kernel
  case hw => w_witness2
