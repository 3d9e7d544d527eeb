import PyProof.Rows.All
import Wide.All
import OpenK.AllK
import Wide.FinOn
import HandS.ForMost
import HandS.Exc
import HandS.TryOnly
import HandS.TryMany
import HandS.ExcOwn
import HandS.ExcField
import HandS.WordsExc
import HandS.IsInst
import HandS.CallLocal
import HandS.CallSlots
import HandS.TupAny
import HandS.TupMul
import HandS.Style
import HandS.Walk
import HandS.Zip
import HandS.Wide
import HandS.WideMore
import HandS.SortInts
import HandS.NoneIn
import PyProof.ListMulRoad
import PyProof.FactsAll.tuple_2
import HandS.ExcInit
import HandS.ClsMeth
import PyProof.Draws
import HandS.Strs
import HandS.SetFor
import HandS.Call
import HandS.SlotsOwn
import PyProof.InstNe
import HandS.Defaults
import PyProof.WalksMore
import PyProof.SumWalkG
import PyProof.TupleIter
import KE.KDictZip
import PySem.Challenge.RW_localroads_k59_whole_numbers_of_bernoull
section
set_option Elab.async false
set_option linter.all false
set_option maxRecDepth 100000
set_option maxHeartbeats 4000000
/-! Rf, part A: data, results, what they stand for in the abstract heap. -/
namespace Rf
open PySem PySem.Spec PyProof.Rows L2

/-- data: values as trees; lck is the law's script; fn a def by its number, obj an instance by its class's number -/
inductive D where
  | non | bl (b : Bool) | int (i : Int) | str (x : Str) | tup (xs : List D) | lst (xs : List D) | lck (xs : List D) | fn (n : Nat) | obj (c : Nat) (fs : List D)
inductive Xc where
  | mal | rfd (x : Str)
inductive R (α : Type) where
  | ok (a : α) | exc (x : Xc) | no
/-- what an expression gives: frozen data, a new list of nobody's, the list that slot i owns -/
inductive PV where
  | fz (d : D) | fr (xs : List D) | at (i : Nat)
inductive Cell where
  | un | fz (d : D) | ow (b : Bool) (xs : List D)
abbrev Rho := List Cell

def R.bind {α β : Type} : R α → (α → R β) → R β
  | .ok a, f => f a
  | .exc x, _ => .exc x
  | .no, _ => .no
def R.map {α β : Type} (f : α → β) : R α → R β
  | .ok a => .ok (f a)
  | .exc x => .exc x
  | .no => .no

structure Wd where
  fnA : Nat → Addr
  clA : Nat → Addr
  clF : Nat → List Str

mutual
def Rep (K : PySem.W.Frag) (G : Wd) (Z : Hp) : D → V → Prop
  | .non, v => v = .non
  | .bl b, v => v = .bl b
  | .int i, v => v = .int i
  | .str x, v => v = .str x
  | .tup ds, v => ∃ a vs, v = .ref a ∧ SqT K Z a vs ∧ RepL K G Z ds vs
  | .lst ds, v => ∃ a vs, v = .ref a ∧ Z a = some (.lst vs) ∧ RepL K G Z ds vs
  | .lck ds, v => ∃ a vs, v = .ref a ∧ SqL K Z a vs ∧ RepL K G Z ds vs
  | .fn n, v => v = .ref (G.fnA n)
  | .obj c ds, v => ∃ a dx vs, v = .ref a ∧ Z a = some (.ins (G.clA c) dx ((G.clF c).zip vs)) ∧ (G.clF c).length = ds.length ∧ RepL K G Z ds vs
def RepL (K : PySem.W.Frag) (G : Wd) (Z : Hp) : List D → List V → Prop
  | [], vs => vs = []
  | d :: ds, vs => ∃ v r, vs = v :: r ∧ Rep K G Z d v ∧ RepL K G Z ds r
end

section
variable {K : PySem.W.Frag} {G : Wd} {Z Z' : Hp}
theorem Same.seqT {H H' : Hp} {a : Addr} {xs : List V} (e : Same H H') (h : SqT K H a xs) : SqT K H' a xs := by
  rcases h with (h | ⟨o, h⟩) | h
  · exact .inl (.inl (e _ _ h))
  · exact .inl (.inr ⟨o, e _ _ h⟩)
  · exact .inr h
mutual
theorem Rep.mono (s : Same Z Z') : ∀ (d : D) (v : V), Rep K G Z d v → Rep K G Z' d v
  | .non, _, h => h
  | .bl _, _, h => h
  | .int _, _, h => h
  | .str _, _, h => h
  | .tup ds, _, h => by
    obtain ⟨a, vs, e, q, r⟩ := h
    exact ⟨a, vs, e, Same.seqT s q, RepL.mono s ds vs r⟩
  | .lst ds, _, h => by
    obtain ⟨a, vs, e, q, r⟩ := h
    exact ⟨a, vs, e, s _ _ q, RepL.mono s ds vs r⟩
  | .lck ds, _, h => by
    obtain ⟨a, vs, e, q, r⟩ := h
    exact ⟨a, vs, e, s.seq q, RepL.mono s ds vs r⟩
  | .fn _, _, h => h
  | .obj c ds, _, h => by
    obtain ⟨a, dx, vs, e, q, l, r⟩ := h
    exact ⟨a, dx, vs, e, s _ _ q, l, RepL.mono s ds vs r⟩
theorem RepL.mono (s : Same Z Z') : ∀ (ds : List D) (vs : List V), RepL K G Z ds vs → RepL K G Z' ds vs
  | [], _, h => h
  | d :: ds, _, h => by
    obtain ⟨v, r, e, q, t⟩ := h
    exact ⟨v, r, e, Rep.mono s d v q, RepL.mono s ds r t⟩
end
theorem RepL.length : ∀ {ds : List D} {vs : List V}, RepL K G Z ds vs → ds.length = vs.length
  | [], _, h => by
    have e : _ = [] := h
    rw [e]
    rfl
  | d :: ds, _, h => by
    obtain ⟨v, r, e, _, t⟩ := h
    rw [e, List.length_cons, List.length_cons, RepL.length t]
theorem RepL.get : ∀ {ds : List D} {vs : List V} {i : Nat} {d : D}, RepL K G Z ds vs → ds[i]? = some d → ∃ v, vs[i]? = some v ∧ Rep K G Z d v
  | [], _, _, _, _, e => by simp at e
  | d :: ds, _, 0, d', h, e => by
    obtain ⟨v, r, rfl, q, _⟩ := h
    have e' : d = d' := by simpa using e
    subst e'
    exact ⟨v, rfl, q⟩
  | d :: ds, _, i + 1, d', h, e => by
    obtain ⟨v, r, rfl, _, t⟩ := h
    obtain ⟨u, h1, h2⟩ := RepL.get (i := i) (d := d') t (by simpa using e)
    exact ⟨u, by simpa using h1, h2⟩
theorem RepL.append : ∀ {ds es : List D} {vs us : List V}, RepL K G Z ds vs → RepL K G Z es us → RepL K G Z (ds ++ es) (vs ++ us)
  | [], _, _, _, h, t => by
    have e : _ = [] := h
    rw [e]
    exact t
  | d :: ds, _, _, _, h, t => by
    obtain ⟨v, r, rfl, q, s⟩ := h
    exact ⟨v, _, rfl, q, RepL.append s t⟩
theorem RepL.take : ∀ {ds : List D} {vs : List V} (n : Nat), RepL K G Z ds vs → RepL K G Z (ds.take n) (vs.take n)
  | _, _, 0, _ => rfl
  | [], _, n + 1, h => by
    have e : _ = [] := h
    rw [e]
    rfl
  | d :: ds, _, n + 1, h => by
    obtain ⟨v, r, rfl, q, s⟩ := h
    exact ⟨v, _, rfl, q, RepL.take n s⟩
theorem RepL.drop : ∀ {ds : List D} {vs : List V} (n : Nat), RepL K G Z ds vs → RepL K G Z (ds.drop n) (vs.drop n)
  | _, _, 0, h => h
  | [], _, n + 1, h => by
    have e : _ = [] := h
    rw [e]
    rfl
  | d :: ds, _, n + 1, h => by
    obtain ⟨v, r, rfl, q, s⟩ := h
    exact RepL.drop n s
theorem RepL.set {d : D} {v : V} (q : Rep K G Z d v) : ∀ {ds : List D} {vs : List V} (n : Nat), RepL K G Z ds vs → RepL K G Z (ds.set n d) (vs.set n v)
  | [], _, n, h => by
    have e : _ = [] := h
    rw [e]
    rfl
  | d :: ds, _, 0, h => by
    obtain ⟨v, r, rfl, _, s⟩ := h
    exact ⟨_, _, rfl, q, s⟩
  | d :: ds, _, n + 1, h => by
    obtain ⟨v, r, rfl, q', s⟩ := h
    exact ⟨_, _, rfl, q', RepL.set q n s⟩
theorem RepL.rep {ds : List D} {vs : List V} (h : RepL K G Z ds vs) : ∀ n : Nat, RepL K G Z (List.replicate n ds).flatten (List.replicate n vs).flatten
  | 0 => rfl
  | n + 1 => by
    rw [List.replicate_succ, List.replicate_succ, List.flatten_cons, List.flatten_cons]
    exact h.append (RepL.rep h n)
theorem RepL.ints : ∀ {ns : List Int} {vs : List V}, RepL K G Z (ns.map D.int) vs → vs = ns.map V.int
  | [], _, h => h
  | n :: ns, _, h => by
    obtain ⟨v, r, rfl, q, s⟩ := h
    have e : v = V.int n := q
    rw [e, RepL.ints s]
    rfl
theorem RepL.bls : ∀ {ns : List Bool} {vs : List V}, RepL K G Z (ns.map D.bl) vs → vs = ns.map V.bl
  | [], _, h => h
  | n :: ns, _, h => by
    obtain ⟨v, r, rfl, q, s⟩ := h
    have e : v = V.bl n := q
    rw [e, RepL.bls s]
    rfl
end

/-- Z grew; what is new there is none of the frame's -/
def Ext (Z Φ Z' : Hp) : Prop := Same Z Z' ∧ ∀ a o, Z' a = some o → Z a = some o ∨ Φ a = none
theorem Ext.refl {Z Φ : Hp} : Ext Z Φ Z := ⟨Same.refl Z, fun _ _ h => .inl h⟩
theorem Ext.trans {Z Φ Z1 Z2 : Hp} (a : Ext Z Φ Z1) (b : Ext Z1 Φ Z2) : Ext Z Φ Z2 :=
  ⟨a.1.trans b.1, fun c o h => (b.2 c o h).elim (fun h => a.2 c o h) .inr⟩

/-- the state: frozen Z, frame Φ, slots σ told by ρ; a list that is lent stands where it stood in B -/
structure Ok (K : PySem.W.Frag) (G : Wd) (B : L2.St) (Z Φ : Hp) (σ : L2.St) (ρ : Rho) (H : Hp) : Prop where
  zh : Same Z H
  fh : Same Φ H
  len : σ.length = ρ.length
  fz : ∀ (i : Nat) (d : D), ρ[i]? = some (.fz d) → ∃ v, σ[i]? = some (some v) ∧ Rep K G Z d v
  ow : ∀ (i : Nat) (b : Bool) (xs : List D), ρ[i]? = some (.ow b xs) → ∃ a vs, σ[i]? = some (some (.ref a)) ∧ H a = some (.lst vs) ∧ RepL K G Z xs vs ∧ Z a = none ∧ Φ a = none
  ne : ∀ (i j : Nat) (b c : Bool) (xs ys : List D) (a : Addr), i ≠ j → ρ[i]? = some (.ow b xs) → ρ[j]? = some (.ow c ys) → σ[i]? = some (some (.ref a)) → σ[j]? = some (some (.ref a)) → False
  bw : ∀ (i : Nat) (xs : List D), ρ[i]? = some (.ow true xs) → σ[i]? = B[i]?
  lb : σ.length = B.length

/-- what an expression's value stands for -/
def RepP (K : PySem.W.Frag) (G : Wd) (Z Φ : Hp) (σ : L2.St) (ρ : Rho) (H : Hp) : PV → V → Prop
  | .fz d, v => Rep K G Z d v
  | .fr xs, v => ∃ a vs, v = .ref a ∧ H a = some (.lst vs) ∧ RepL K G Z xs vs ∧ Z a = none ∧ Φ a = none ∧ ∀ (i : Nat) (b : Bool) (ys : List D), ρ[i]? = some (.ow b ys) → σ[i]? = some (some (.ref a)) → False
  | .at i, v => σ[i]? = some (some v) ∧ ∃ b xs, ρ[i]? = some (.ow b xs)
/-- an exception: Malformed, Refused with its reason -/
def RepX (G : Wd) (H : Hp) : Xc → Value → Option Addr → Prop
  | .mal, c, _ => c = .ref (G.clA 0)
  | .rfd x, c, d => c = .ref (G.clA 1) ∧ ∃ dd, d = some dd ∧ ∃ fs, H dd = some (.xd fs) ∧ fs.lookup ("reason" : Str) = some (.str x)

abbrev Ev := Rho → R (PV × Rho)
abbrev Et := Rho → R (Bool × Rho)
abbrev Ea := Rho → R (List D × Rho)
inductive Fl where
  | nx | rt (p : PV) | bk | ct
abbrev Es := Rho → R (Fl × Rho)

/-- the wish for an exception in the code -/
abbrev WX' := WX
def PostX (G : Wd) (W : WX) (Z Φ : Hp) (σ : L2.St) (x : Xc) : Prop :=
  ∀ Z' H' cls d, Ext Z Φ Z' → Same Z' H' → Same Φ H' → RepX G H' x cls d → W cls d σ H'
def PostE (K : PySem.W.Frag) (G : Wd) (W : WX) (B : L2.St) (Z Φ : Hp) (σ : L2.St) (Q : VK) : R (PV × Rho) → Prop
  | .ok (pv, ρ') => ∀ Z' H' v, Ext Z Φ Z' → Ok K G B Z' Φ σ ρ' H' → RepP K G Z' Φ σ ρ' H' pv v → Q v H'
  | .exc x => PostX G W Z Φ σ x
  | .no => False
def PostT (K : PySem.W.Frag) (G : Wd) (W : WX) (B : L2.St) (Z Φ : Hp) (σ : L2.St) (Q : Bool → Hp → Prop) : R (Bool × Rho) → Prop
  | .ok (b, ρ') => ∀ Z' H', Ext Z Φ Z' → Ok K G B Z' Φ σ ρ' H' → Q b H'
  | .exc x => PostX G W Z Φ σ x
  | .no => False
def PostA (K : PySem.W.Frag) (G : Wd) (W : WX) (B : L2.St) (Z Φ : Hp) (σ : L2.St) (Q : List V → Hp → Prop) : R (List D × Rho) → Prop
  | .ok (ds, ρ') => ∀ Z' H' vs, Ext Z Φ Z' → Ok K G B Z' Φ σ ρ' H' → RepL K G Z' ds vs → Q vs H'
  | .exc x => PostX G W Z Φ σ x
  | .no => False
def PostS (K : PySem.W.Frag) (G : Wd) (W : WX) (B : L2.St) (Z Φ : Hp) (D : Ends) : R (Fl × Rho) → Prop
  | .ok (.nx, ρ') => ∀ Z' σ' H', Ext Z Φ Z' → Ok K G B Z' Φ σ' ρ' H' → D.nx σ' H'
  | .ok (.rt pv, ρ') => ∀ Z' σ' H' v, Ext Z Φ Z' → Ok K G B Z' Φ σ' ρ' H' → RepP K G Z' Φ σ' ρ' H' pv v → D.rt v H'
  | .ok (.bk, ρ') => ∀ Z' σ' H', Ext Z Φ Z' → Ok K G B Z' Φ σ' ρ' H' → D.bk σ' H'
  | .ok (.ct, ρ') => ∀ Z' σ' H', Ext Z Φ Z' → Ok K G B Z' Φ σ' ρ' H' → D.ct σ' H'
  | .exc x => ∀ σ', σ'.length = B.length → PostX G W Z Φ σ' x
  | .no => False
def tE (K : PySem.W.Frag) (G : Wd) (W : WX) (f : Ev) : TE := fun σ H Q => ∃ B Z Φ ρ, Ok K G B Z Φ σ ρ H ∧ PostE K G W B Z Φ σ Q (f ρ)
def tT (K : PySem.W.Frag) (G : Wd) (W : WX) (f : Et) : TT := fun σ H Q => ∃ B Z Φ ρ, Ok K G B Z Φ σ ρ H ∧ PostT K G W B Z Φ σ Q (f ρ)
def tA (K : PySem.W.Frag) (G : Wd) (W : WX) (f : Ea) : TA := fun σ H Q => ∃ B Z Φ ρ, Ok K G B Z Φ σ ρ H ∧ PostA K G W B Z Φ σ Q (f ρ)
def tS (K : PySem.W.Frag) (G : Wd) (W : WX) (f : Es) : TS := fun D σ H => ∃ B Z Φ ρ, Ok K G B Z Φ σ ρ H ∧ PostS K G W B Z Φ D (f ρ)

section
variable {X : Cx} {t t' : TE}
theorem _root_.L2.PE.imp {e : Expr} (h : PE X e t) (k : ∀ σ H Q, t' σ H Q → t σ H Q) : PE X e t' := ⟨fun pins s σ H Q I q => h.run pins s σ H Q I (k σ H Q q)⟩
theorem _root_.L2.PT.imp {e : Expr} {t t' : TT} (h : PT X e t) (k : ∀ σ H Q, t' σ H Q → t σ H Q) : PT X e t' := ⟨fun pins s σ H Q I q => h.run pins s σ H Q I (k σ H Q q)⟩
theorem _root_.L2.PW.imp {e : Expr} {t t' : TT} (h : PW X e t) (k : ∀ σ H Q, t' σ H Q → t σ H Q) : PW X e t' := ⟨fun wh pins s σ H Q I q => h.run wh pins s σ H Q I (k σ H Q q)⟩
theorem _root_.L2.PA.imp {e : List Expr} {t t' : TA} (h : PA X e t) (k : ∀ σ H Q, t' σ H Q → t σ H Q) : PA X e t' := ⟨fun pos pins s σ H Q I q => h.run pos pins s σ H Q I (k σ H Q q)⟩
theorem _root_.L2.PS.imp {e : Stmt} {t t' : TS} (h : PS X e t) (k : ∀ D σ H, t' D σ H → t D σ H) : PS X e t' := ⟨fun pins s σ H D I q => h.run pins s σ H D I (k D σ H q)⟩
theorem _root_.L2.PSs.imp {e : List Stmt} {t t' : TS} (h : PSs X e t) (k : ∀ D σ H, t' D σ H → t D σ H) : PSs X e t' := ⟨fun pins s σ H D I q => h.run pins s σ H D I (k D σ H q)⟩
end
end Rf
end
section
set_option Elab.async false
set_option linter.all false
set_option maxRecDepth 100000
set_option maxHeartbeats 4000000
/-! Rf, part B: the state's steps; names, arguments, operators, tests. -/
namespace Rf
open PySem PySem.Spec PyProof.Rows L2

section
variable {K : PySem.W.Frag} {G : Wd} {Z Z' Φ H H' : Hp} {σ : L2.St} {ρ ρ' : Rho} {B : L2.St} {p a : Addr} {o : HO} {vs : List V} {xs : List D} {i : Nat}
theorem same_upd1 (s : Same Z H) (h : H a = some o) : Same (upd Z a o) H := fun b u e => by
  by_cases hb : b = a
  · subst hb
    rw [upd_same] at e
    rw [h, e]
  · rw [upd_ne hb] at e
    exact s b u e
theorem same_new (s : Same Z H) (h : H p = none) : Same Z (upd H p o) := fun b u e => by
  have hb : b ≠ p := ne_of_none (s b u e) h
  rw [upd_ne hb]
  exact s b u e
theorem same_newZ (h : Z p = none) : Same Z (upd Z p o) := same_new (Same.refl Z) h
theorem Same.none (s : Same Z H) (h : H p = none) : Z p = none := s.free h
theorem ext_upd (hz : Z a = none) (hf : Φ a = none) : Ext Z Φ (upd Z a o) := ⟨same_newZ hz, fun b u e => by
  by_cases hb : b = a
  · subst hb
    exact .inr hf
  · rw [upd_ne hb] at e
    exact .inl e⟩
/-- a new object, frozen at once -/
theorem Ok.newZ (k : Ok K G B Z Φ σ ρ H) (h : H p = none) : Ok K G B (upd Z p o) Φ σ ρ (upd H p o) ∧ Ext Z Φ (upd Z p o) := by
  have hz := Same.none k.zh h
  have hf := Same.none k.fh h
  have m : Same Z (upd Z p o) := same_newZ hz
  refine ⟨⟨same_upd1 (same_new k.zh h) upd_same, same_new k.fh h, k.len, fun i d e => ?_, fun i b xs e => ?_, k.ne, k.bw, k.lb⟩, ext_upd hz hf⟩
  · obtain ⟨v, e1, r⟩ := k.fz i d e
    exact ⟨v, e1, Rep.mono m d v r⟩
  · obtain ⟨a, vs, e1, e2, r, z1, z2⟩ := k.ow i b xs e
    have hne : a ≠ p := ne_of_none e2 h
    exact ⟨a, vs, e1, by rw [upd_ne hne]; exact e2, RepL.mono m xs vs r, by rw [upd_ne hne]; exact z1, z2⟩
/-- a new object of nobody's -/
theorem Ok.newF (k : Ok K G B Z Φ σ ρ H) (h : H p = none) : Ok K G B Z Φ σ ρ (upd H p o) := by
  refine ⟨same_new k.zh h, same_new k.fh h, k.len, k.fz, fun i b xs e => ?_, k.ne, k.bw, k.lb⟩
  obtain ⟨a, vs, e1, e2, r, z1, z2⟩ := k.ow i b xs e
  exact ⟨a, vs, e1, by rw [upd_ne (ne_of_none e2 h)]; exact e2, r, z1, z2⟩
/-- Z grows by a list that stands in H, which no slot owns -/
theorem Ok.frz (k : Ok K G B Z Φ σ ρ H) (h : H a = some (.lst vs)) (hz : Z a = none) (hf : Φ a = none) (hn : ∀ (i : Nat) (b : Bool) (ys : List D), ρ[i]? = some (.ow b ys) → σ[i]? = some (some (.ref a)) → False) :
    Ok K G B (upd Z a (.lst vs)) Φ σ ρ H ∧ Ext Z Φ (upd Z a (.lst vs)) := by
  have m : Same Z (upd Z a (.lst vs)) := same_newZ hz
  refine ⟨⟨same_upd1 k.zh h, k.fh, k.len, fun i d e => ?_, fun i b xs e => ?_, k.ne, k.bw, k.lb⟩, ext_upd hz hf⟩
  · obtain ⟨v, e1, r⟩ := k.fz i d e
    exact ⟨v, e1, Rep.mono m d v r⟩
  · obtain ⟨c, ws, e1, e2, r, z1, z2⟩ := k.ow i b xs e
    have hne : c ≠ a := fun q => hn i b xs e (by rw [← q]; exact e1)
    exact ⟨c, ws, e1, e2, RepL.mono m xs ws r, by rw [upd_ne hne]; exact z1, z2⟩
theorem get_set_cases {ρ : Rho} {i j : Nat} {c c' : Cell} (h : (ρ.set i c)[j]? = some c') : (j = i ∧ c' = c) ∨ (j ≠ i ∧ ρ[j]? = some c') := by
  by_cases e : j = i
  · subst e
    rw [List.getElem?_set] at h
    split at h
    · split at h
      · exact .inl ⟨rfl, (Option.some.inj h).symm⟩
      · cases h
    · exact absurd rfl (by assumption)
  · rw [List.getElem?_set_ne (Ne.symm e)] at h
    exact .inr ⟨e, h⟩
/-- slot i is frozen -/
theorem Ok.freeze (k : Ok K G B Z Φ σ ρ H) (e : ρ[i]? = some (.ow false xs)) : ∃ a vs, σ[i]? = some (some (.ref a)) ∧ H a = some (.lst vs) ∧ RepL K G (upd Z a (.lst vs)) xs vs ∧
    Ok K G B (upd Z a (.lst vs)) Φ σ (ρ.set i (.fz (.lst xs))) H ∧ Ext Z Φ (upd Z a (.lst vs)) := by
  obtain ⟨a, vs, e1, e2, r, z1, z2⟩ := k.ow i _ xs e
  have m : Same Z (upd Z a (.lst vs)) := same_newZ z1
  refine ⟨a, vs, e1, e2, RepL.mono m xs vs r, ⟨same_upd1 k.zh e2, k.fh, by rw [List.length_set]; exact k.len, fun j d q => ?_, fun j b ys q => ?_, fun j l b c ys zs w hne q1 q2 => ?_, fun j ys q => ?_, k.lb⟩, ext_upd z1 z2⟩
  · rcases get_set_cases q with ⟨z, q1⟩ | ⟨_, q⟩
    · subst z
      cases q1
      exact ⟨_, e1, a, vs, rfl, upd_same, RepL.mono m xs vs r⟩
    · obtain ⟨v, e1, r⟩ := k.fz j d q
      exact ⟨v, e1, Rep.mono m d v r⟩
  · rcases get_set_cases q with ⟨z, q⟩ | ⟨hj, q⟩
    · cases q
    · obtain ⟨c, ws, f1, f2, r, f3, f4⟩ := k.ow j b ys q
      have hne : c ≠ a := fun z => k.ne j i b _ ys xs a hj q e (by rw [← z]; exact f1) e1
      exact ⟨c, ws, f1, f2, RepL.mono m ys ws r, by rw [upd_ne hne]; exact f3, f4⟩
  · rcases get_set_cases q1 with ⟨_, q1⟩ | ⟨_, q1⟩
    · cases q1
    · rcases get_set_cases q2 with ⟨_, q2⟩ | ⟨_, q2⟩
      · cases q2
      · exact k.ne j l b c ys zs w hne q1 q2
  · rcases get_set_cases q with ⟨_, q⟩ | ⟨_, q⟩
    · cases q
    · exact k.bw j ys q

/-! ### values used -/
def useV : PV → Rho → Option (D × Rho)
  | .fz d, ρ => some (d, ρ)
  | .fr xs, ρ => some (.lst xs, ρ)
  | .at i, ρ => match ρ[i]? with
    | some (.ow false xs) => some (.lst xs, ρ.set i (.fz (.lst xs)))
    | _ => none
def look (ρ : Rho) : PV → Option D
  | .fz d => some d
  | .fr xs => some (.lst xs)
  | .at i => match ρ[i]? with
    | some (.ow _ xs) => some (.lst xs)
    | some (.fz d) => some d
    | _ => none
theorem Ok.use (k : Ok K G B Z Φ σ ρ H) {pv : PV} {v : V} {d : D} (r : RepP K G Z Φ σ ρ H pv v) (u : useV pv ρ = some (d, ρ')) : ∃ Z', Ext Z Φ Z' ∧ Ok K G B Z' Φ σ ρ' H ∧ Rep K G Z' d v := by
  cases pv with
  | fz d' =>
    cases u
    exact ⟨Z, Ext.refl, k, r⟩
  | fr xs =>
    cases u
    obtain ⟨a, vs, rfl, h, q, hz, hf, hn⟩ := r
    obtain ⟨k', e'⟩ := k.frz h hz hf hn
    exact ⟨_, e', k', a, vs, rfl, upd_same, RepL.mono e'.1 _ _ q⟩
  | «at» i =>
    obtain ⟨r1, b, xs, r2⟩ := r
    cases b with
    | true => simp only [useV, r2] at u; cases u
    | false =>
    simp only [useV, r2] at u
    cases u
    obtain ⟨a, vs, e1, e2, q, k', e'⟩ := k.freeze r2
    rw [r1] at e1
    cases e1
    exact ⟨_, e', k', a, vs, rfl, upd_same, q⟩
/-- a peeked value at an operation -/
def Pk (K : PySem.W.Frag) (G : Wd) (Z H : Hp) (d : D) (v : V) : Prop := Rep K G Z d v ∨ ∃ xs a vs, d = .lst xs ∧ v = .ref a ∧ H a = some (.lst vs) ∧ RepL K G Z xs vs
theorem Pk.lst (s : Same Z H) {v : V} (h : Pk K G Z H (.lst xs) v) : ∃ a vs, v = .ref a ∧ H a = some (.lst vs) ∧ RepL K G Z xs vs := by
  rcases h with ⟨a, vs, e, q, r⟩ | ⟨ys, a, vs, e, e2, q, r⟩
  · exact ⟨a, vs, e, s _ _ q, r⟩
  · cases e
    exact ⟨a, vs, e2, q, r⟩
theorem Pk.rep {v : V} {d : D} (h : Pk K G Z H d v) (n : ∀ xs, d ≠ .lst xs) : Rep K G Z d v := by
  rcases h with h | ⟨ys, _, _, e, _⟩
  · exact h
  · exact absurd e (n ys)
/-- a pending operand: frozen data, or a slot's list -/
inductive Pend (K : PySem.W.Frag) (G : Wd) (Z : Hp) (σ : L2.St) : PV → V → Prop
  | fz {d : D} {v : V} (r : Rep K G Z d v) : Pend K G Z σ (.fz d) v
  | fr {xs : List D} {v : V} (r : Rep K G Z (.lst xs) v) : Pend K G Z σ (.fr xs) v
  | «at» {i : Nat} {v : V} (r : σ[i]? = some (some v)) : Pend K G Z σ (.at i) v
theorem Pend.mono {pv : PV} {v : V} (h : Pend K G Z σ pv v) (s : Same Z Z') : Pend K G Z' σ pv v := by
  cases h with
  | fz r => exact .fz (Rep.mono s _ _ r)
  | fr r => exact .fr (Rep.mono s _ _ r)
  | «at» r => exact .at r
theorem Ok.pend (k : Ok K G B Z Φ σ ρ H) {pv : PV} {v : V} (r : RepP K G Z Φ σ ρ H pv v) : ∃ Z', Ext Z Φ Z' ∧ Ok K G B Z' Φ σ ρ H ∧ Pend K G Z' σ pv v := by
  cases pv with
  | fz d => exact ⟨Z, Ext.refl, k, .fz r⟩
  | fr xs =>
    obtain ⟨Z', e, k', q⟩ := k.use (ρ' := ρ) (d := .lst xs) r rfl
    exact ⟨Z', e, k', .fr q⟩
  | «at» i => exact ⟨Z, Ext.refl, k, .at r.1⟩
theorem Ok.pk (k : Ok K G B Z Φ σ ρ H) {pv : PV} {v : V} {d : D} (r : Pend K G Z σ pv v) (l : look ρ pv = some d) : Pk K G Z H d v := by
  cases r with
  | fz r => cases l; exact .inl r
  | fr r => cases l; exact .inl r
  | @«at» i v r =>
    simp only [look] at l
    split at l
    · rename_i b xs' e
      cases l
      obtain ⟨a, vs, e1, e2, q, _, _⟩ := k.ow _ _ _ e
      rw [r] at e1
      cases e1
      exact .inr ⟨_, a, vs, rfl, rfl, e2, q⟩
    · rename_i d' e
      cases l
      obtain ⟨u, e1, q⟩ := k.fz _ _ e
      rw [r] at e1
      cases e1
      exact .inl q
    · cases l

/-- what an operation of the library's gives -/
inductive Stp (K : PySem.W.Frag) (G : Wd) (Z H : Hp) : PV → V → Hp → Hp → Prop
  | same {d : D} {v : V} (r : Rep K G Z d v) : Stp K G Z H (.fz d) v Z H
  | newZ {d : D} {p : Addr} {o : HO} (h : H p = none) (r : Rep K G (upd Z p o) d (.ref p)) : Stp K G Z H (.fz d) (.ref p) (upd Z p o) (upd H p o)
  | newF {xs : List D} {p : Addr} {vs : List V} (h : H p = none) (r : RepL K G Z xs vs) : Stp K G Z H (.fr xs) (.ref p) Z (upd H p (.lst vs))
  | newZ2 {d : D} {p q : Addr} {o o2 : HO} (h : H p = none) (h2 : upd H p o q = none) (r : Rep K G (upd (upd Z p o) q o2) d (.ref q)) : Stp K G Z H (.fz d) (.ref q) (upd (upd Z p o) q o2) (upd (upd H p o) q o2)
theorem Stp.ok (k : Ok K G B Z Φ σ ρ H) {pv : PV} {v : V} (s : Stp K G Z H pv v Z' H') : Ext Z Φ Z' ∧ Ok K G B Z' Φ σ ρ H' ∧ RepP K G Z' Φ σ ρ H' pv v := by
  cases s with
  | same r => exact ⟨Ext.refl, k, r⟩
  | newZ h r =>
    obtain ⟨k', e'⟩ := k.newZ h
    exact ⟨e', k', r⟩
  | newZ2 h h2 r =>
    obtain ⟨k', e'⟩ := k.newZ h
    obtain ⟨k2, e2⟩ := k'.newZ h2
    exact ⟨e'.trans e2, k2, r⟩
  | newF h r =>
    rename_i xs p vs
    refine ⟨Ext.refl, k.newF h, p, vs, rfl, upd_same, r, Same.none k.zh h, Same.none k.fh h, fun i c ys q1 q2 => ?_⟩
    obtain ⟨b, ws, f1, f2, _⟩ := k.ow i c ys q1
    rw [q2] at f1
    cases f1
    rw [h] at f2
    cases f2
theorem PostX.ext {W : WX} {x : Xc} (h : PostX G W Z Φ σ x) (e : Ext Z Φ Z') : PostX G W Z' Φ σ x := fun Z2 H2 c d e2 s1 s2 r => h Z2 H2 c d (e.trans e2) s1 s2 r
end

/-! ### names and constants -/
section
variable {X : Cx} {G : Wd} {W : WX} {pos : Pos}
def eVar (i : Nat) : Ev := fun ρ => match ρ[i]? with
  | some (.fz d) => .ok (.fz d, ρ)
  | some (.ow _ _) => .ok (.at i, ρ)
  | _ => .no
theorem te_var {K : PySem.W.Frag} {i : Nat} {σ : L2.St} {H : Hp} {Q : VK} (h : tE K G W (eVar i) σ H Q) : tVar i σ H Q := by
  obtain ⟨B, Z, Φ, ρ, k, h⟩ := h
  unfold eVar at h
  split at h
  · rename_i d e
    obtain ⟨v, e1, r⟩ := k.fz _ _ e
    exact ⟨v, e1, h Z H v Ext.refl k r⟩
  · rename_i b xs e
    obtain ⟨a, vs, e1, e2, q⟩ := k.ow _ _ _ e
    exact ⟨_, e1, h Z H _ Ext.refl k ⟨e1, b, xs, e⟩⟩
  · exact h.elim
theorem re_var {i : Nat} {x : Str} (hN : X.N[i]? = some x) (hv : Vis X.env.scope x) (hd : (x == ("__debug__" : Str)) = false := by decide) (hcd : (x == ("__classdict__" : Str)) = false := by decide) : PE X (.Name x pos) (tE X.K G W (eVar i)) :=
  (pe_var hN hv hd hcd).imp fun _ _ _ h => te_var h
def eC (d : D) : Ev := fun ρ => .ok (.fz d, ρ)
theorem te_c {K : PySem.W.Frag} {d : D} {v : V} {σ : L2.St} {H : Hp} {Q : VK} (h : tE K G W (eC d) σ H Q) (r : ∀ Z, Rep K G Z d v) : tC v σ H Q := by
  obtain ⟨B, Z, Φ, ρ, k, h⟩ := h
  exact h Z H v Ext.refl k (r Z)
theorem re_int {i j} : PE X (.Constant (.int i) j pos) (tE X.K G W (eC (.int i))) := pe_int.imp fun _ _ _ h => te_c h fun _ => rfl
theorem re_bl {b j} : PE X (.Constant (.bool b) j pos) (tE X.K G W (eC (.bl b))) := pe_bl.imp fun _ _ _ h => te_c h fun _ => rfl
theorem re_non {j} : PE X (.Constant .none j pos) (tE X.K G W (eC .non)) := pe_non.imp fun _ _ _ h => te_c h fun _ => rfl
theorem re_str {x j} : PE X (.Constant (.str x) j pos) (tE X.K G W (eC (.str x))) := pe_str.imp fun _ _ _ h => te_c h fun _ => rfl
/-- a module's int constant -/
theorem re_gint {x : Str} {i : Int} (hg : Gl X x) (hm : ∃ t, X.mg x = some (.int i t)) (hd : (x == ("__debug__" : Str)) = false := by decide) : PE X (.Name x pos) (tE X.K G W (eC (.int i))) := by
  obtain ⟨t, hm⟩ := hm
  exact (pe_glob (v := .int i) hg hm ⟨t, rfl⟩ hd).imp fun _ _ _ h => te_c h fun _ => rfl
/-- a def's name as a value -/
theorem re_gfn {x : Str} {n : Nat} (hg : Gl X x) (hm : X.mg x = some (.ref (G.fnA n))) (hd : (x == ("__debug__" : Str)) = false := by decide) : PE X (.Name x pos) (tE X.K G W (eC (.fn n))) :=
  (pe_glob (v := .ref (G.fnA n)) hg hm rfl hd).imp fun _ _ _ h => te_c h fun _ => rfl

/-! ### two operands -/
def opV (g : D → D → Option PV) (pa pb : PV) (ρ : Rho) : R (PV × Rho) := match look ρ pa, look ρ pb with
  | some da, some db => match g da db with
    | some pv => .ok (pv, ρ)
    | none => .no
  | _, _ => .no
def eOp (g : D → D → Option PV) (fa fb : Ev) : Ev := fun ρ => (fa ρ).bind fun (pa, ρ1) => (fb ρ1).bind fun (pb, ρ2) => opV g pa pb ρ2
/-- g tells what r asks -/
def OpS (K : PySem.W.Frag) (G : Wd) (r : R2) (g : D → D → Option PV) : Prop := ∀ (Z H : Hp) (da db : D) (x y : V) (pv : PV) (Q : VK), Same Z H → Pk K G Z H da x → Pk K G Z H db y → g da db = some pv →
  (∀ Z' H' v, Stp K G Z H pv v Z' H' → Q v H') → r x y H Q
theorem te_op {K : PySem.W.Frag} {r : R2} {g : D → D → Option PV} {fa fb : Ev} (S : OpS K G r g) {σ : L2.St} {H : Hp} {Q : VK} (h : tE K G W (eOp g fa fb) σ H Q) : tOp r (tE K G W fa) (tE K G W fb) σ H Q := by
  obtain ⟨B, Z, Φ, ρ, k, h⟩ := h
  refine ⟨B, Z, Φ, ρ, k, ?_⟩
  unfold eOp at h
  cases ha : fa ρ with
  | no => rw [ha] at h; exact h.elim
  | exc x => rw [ha] at h; exact h
  | ok p =>
    obtain ⟨pa, ρ1⟩ := p
    rw [ha] at h
    intro Z1 H1 x e1 k1 r1
    obtain ⟨Z2, e2, k2, r2⟩ := k1.pend r1
    refine ⟨B, Z2, Φ, ρ1, k2, ?_⟩
    have e12 := e1.trans e2
    change PostE K G W B Z Φ σ Q ((fb ρ1).bind fun (pb, ρ2) => opV g pa pb ρ2) at h
    cases hb : fb ρ1 with
    | no => rw [hb] at h; exact h.elim
    | exc x => rw [hb] at h; exact PostX.ext h e12
    | ok p =>
      obtain ⟨pb, ρ2⟩ := p
      rw [hb] at h
      intro Z3 H3 y e3 k3 r3
      obtain ⟨Z4, e4, k4, r4⟩ := k3.pend r3
      have r2' := r2.mono (e3.trans e4).1
      change PostE K G W B Z Φ σ Q (opV g pa pb ρ2) at h
      unfold opV at h
      cases la : look ρ2 pa with
      | none => rw [la] at h; exact h.elim
      | some da =>
        cases lb : look ρ2 pb with
        | none => rw [la, lb] at h; exact h.elim
        | some db =>
          rw [la, lb] at h
          cases hg : g da db with
          | none => simp only [hg] at h; exact h.elim
          | some pv =>
            simp only [hg] at h
            refine S Z4 H3 da db x y pv Q k4.zh (k4.pk r2' la) (k4.pk r4 lb) hg fun Z' H' v st => ?_
            obtain ⟨f1, f2, f3⟩ := st.ok k4
            exact h Z' H' v (e12.trans ((e3.trans e4).trans f1)) f2 f3
theorem re_op {op : Operator} {r : R2} {g : D → D → Option PV} {fa fb : Ev} {a b : Expr} (ho : OpR X (binaryOp op) r) (S : OpS X.K G r g) (ha : PE X a (tE X.K G W fa)) (hb : PE X b (tE X.K G W fb)) : PE X (.BinOp a op b pos) (tE X.K G W (eOp g fa fb)) :=
  (pe_op ho ha hb).imp fun _ _ _ h => te_op S h
theorem re_cmp {op : CmpOp} {r : R2} {g : D → D → Option PV} {fa fb : Ev} {a b : Expr} (ho : OpR X (compareOp op) r) (S : OpS X.K G r g) (ha : PE X a (tE X.K G W fa)) (hb : PE X b (tE X.K G W fb)) (hm : behindInMarks op b = false) : PE X (.Compare a [op] [b] pos) (tE X.K G W (eOp g fa fb)) :=
  (pe_cmpR ho ha hb hm).imp fun _ _ _ h => te_op S h
theorem re_ix {r : R2} {g : D → D → Option PV} {fa fb : Ev} {a b : Expr} (hr : IxR X r) (S : OpS X.K G r g) (ha : PE X a (tE X.K G W fa)) (hb : PE X b (tE X.K G W fb)) (hs : PlainIx b) : PE X (.Subscript a b pos) (tE X.K G W (eOp g fa fb)) :=
  (pe_ix hr ha hb hs).imp fun _ _ _ h => te_op S h

/-! ### one operand -/
def opU (g : D → Option PV) (pa : PV) (ρ : Rho) : R (PV × Rho) := match look ρ pa with
  | some da => match g da with
    | some pv => .ok (pv, ρ)
    | none => .no
  | none => .no
def eU (g : D → Option PV) (fa : Ev) : Ev := fun ρ => (fa ρ).bind fun (pa, ρ1) => opU g pa ρ1
def UnS (K : PySem.W.Frag) (G : Wd) (r : V → Hp → VK → Prop) (g : D → Option PV) : Prop := ∀ (Z H : Hp) (da : D) (x : V) (pv : PV) (Q : VK), Same Z H → Pk K G Z H da x → g da = some pv →
  (∀ Z' H' v, Stp K G Z H pv v Z' H' → Q v H') → r x H Q
theorem te_un {K : PySem.W.Frag} {r : V → Hp → VK → Prop} {g : D → Option PV} {fa : Ev} (S : UnS K G r g) {σ : L2.St} {H : Hp} {Q : VK} (h : tE K G W (eU g fa) σ H Q) : tE K G W fa σ H (fun x H1 => r x H1 Q) := by
  obtain ⟨B, Z, Φ, ρ, k, h⟩ := h
  refine ⟨B, Z, Φ, ρ, k, ?_⟩
  unfold eU at h
  cases ha : fa ρ with
  | no => rw [ha] at h; exact h.elim
  | exc x => rw [ha] at h; exact h
  | ok p =>
    obtain ⟨pa, ρ1⟩ := p
    rw [ha] at h
    intro Z1 H1 x e1 k1 r1
    obtain ⟨Z2, e2, k2, r2⟩ := k1.pend r1
    change PostE K G W B Z Φ σ Q (opU g pa ρ1) at h
    unfold opU at h
    cases la : look ρ1 pa with
    | none => rw [la] at h; exact h.elim
    | some da =>
      rw [la] at h
      cases hg : g da with
      | none => simp only [hg] at h; exact h.elim
      | some pv =>
        simp only [hg] at h
        refine S Z2 H1 da x pv Q k2.zh (k2.pk r2 la) hg fun Z' H' v st => ?_
        obtain ⟨f1, f2, f3⟩ := st.ok k2
        exact h Z' H' v ((e1.trans e2).trans f1) f2 f3
theorem re_un {op : UnaryOp} {r : V → Hp → VK → Prop} {g : D → Option PV} {fa : Ev} {a : Expr} (ho : UnR X (unaryOp op) r) (S : UnS X.K G r g) (ha : PE X a (tE X.K G W fa)) : PE X (.UnaryOp op a pos) (tE X.K G W (eU g fa)) :=
  (pe_un ho ha).imp fun _ _ _ h => te_un S h
end
end Rf
end
section
set_option Elab.async false
set_option linter.all false
set_option maxRecDepth 100000
set_option maxHeartbeats 4000000
/-! Rf, part C: the library's operators on data. -/
namespace Rf
open PySem PySem.Spec PyProof.Rows L2

def rOr (r r' : R2) : R2 := fun x y H Q => r x y H Q ∨ r' x y H Q
theorem opOr {X : Cx} {f : Value → Value → Sem Value} {r r' : R2} (h : OpR X f r) (h' : OpR X f r') : OpR X f (rOr r r') := by
  intro pins s σ H x y v u Q I rx ry q
  rcases q with q | q
  · exact h pins s σ H x y v u Q I rx ry q
  · exact h' pins s σ H x y v u Q I rx ry q
theorem ixOr {X : Cx} {r r' : R2} (h : IxR X r) (h' : IxR X r') : IxR X (rOr r r') := by
  intro ve se pins s σ H x y v u Q I rx ry q
  rcases q with q | q
  · exact h ve se pins s σ H x y v u Q I rx ry q
  · exact h' ve se pins s σ H x y v u Q I rx ry q

def szOk (n : Nat) : Bool := Nat.ble n 1000000
theorem szOk_le {n : Nat} (h : szOk n = true) : n ≤ sizeLine := by
  have := Nat.le_of_ble_eq_true h
  rw [sizeLine_eq]
  omega
theorem szOk_lt {n : Nat} (h : szOk n = true) : n < sizeLine := by
  have := Nat.le_of_ble_eq_true h
  rw [sizeLine_eq]
  omega
theorem szOk_of {n : Nat} (h : n ≤ 1000000) : szOk n = true := Nat.ble_eq_true_of_le h
def mulOk (i j : Int) : Bool := Nat.ble i.natAbs 18446744073709551615 || Nat.ble j.natAbs 18446744073709551615 || Nat.ble (i.natAbs.log2 + j.natAbs.log2) 999999
def divOk (j : Int) : Bool := decide (0 < j) && Nat.ble j.natAbs.log2 8999

section
variable {K : PySem.W.Frag} {G : Wd} {Z H : Hp} {x y : V}
theorem pk_int {i : Int} (h : Pk K G Z H (.int i) x) : x = .int i := Pk.rep h (by intro _ e; cases e)
theorem pk_bl {i : Bool} (h : Pk K G Z H (.bl i) x) : x = .bl i := Pk.rep h (by intro _ e; cases e)
theorem pk_str {i : Str} (h : Pk K G Z H (.str i) x) : x = .str i := Pk.rep h (by intro _ e; cases e)
theorem pk_non (h : Pk K G Z H .non x) : x = .non := Pk.rep h (by intro _ e; cases e)
theorem pk_tup {xs : List D} (h : Pk K G Z H (.tup xs) x) : ∃ a vs, x = .ref a ∧ SqT K Z a vs ∧ RepL K G Z xs vs := Pk.rep h (by intro _ e; cases e)

/-! ### + -/
def gAdd : D → D → Option PV
  | .int i, .int j => some (.fz (.int (i + j)))
  | .tup xs, .tup ys => if szOk (xs.length + ys.length) then some (.fz (.tup (xs ++ ys))) else none
  | .lst xs, .lst ys => if szOk (xs.length + ys.length) then some (.fr (xs ++ ys)) else none
  | _, _ => none
abbrev rAdd (K : PySem.W.Frag) : R2 := rOr (rI0 fun i j => .int (i + j)) (rOr (rCatA K) rCat)
theorem opr_add {X : Cx} : OpR X (binaryOp .Add) (rAdd X.K) := opOr op_add (opOr op_catA op_cat)
theorem ops_add : OpS K G (rAdd K) gAdd := by
  intro Z H da db x y pv Q s ha hb hg q
  unfold gAdd at hg
  split at hg
  · cases hg
    exact .inl ⟨_, _, pk_int ha, pk_int hb, q _ _ _ (.same rfl)⟩
  · rename_i xs ys
    split at hg
    · rename_i hz
      cases hg
      obtain ⟨a, vs, rfl, sa, ra⟩ := pk_tup ha
      obtain ⟨b, us, rfl, sb, rb⟩ := pk_tup hb
      have la := ra.length
      have lb := rb.length
      have rab := ra.append rb
      refine .inr (.inl ⟨a, b, vs, us, rfl, rfl, Same.seqT s sa, Same.seqT s sb, by rw [← la, ← lb]; exact szOk_le hz, fun e => q _ _ _ (.same ⟨b, us, rfl, sb, ?_⟩), fun _ e => q _ _ _ (.same ⟨a, vs, rfl, sa, ?_⟩), fun _ _ p hp => q _ _ _ (.newZ hp ?_)⟩)
      · rw [e] at rab
        exact rab
      · rw [e, List.append_nil] at rab
        exact rab
      · exact ⟨p, _, rfl, .inl (.inl upd_same), RepL.mono (same_newZ (Same.none s hp)) _ _ rab⟩
    · cases hg
  · rename_i xs ys
    split at hg
    · rename_i hz
      cases hg
      obtain ⟨a, vs, rfl, sa, ra⟩ := ha.lst s
      obtain ⟨b, us, rfl, sb, rb⟩ := hb.lst s
      exact .inr (.inr ⟨a, b, vs, us, rfl, rfl, sa, sb, by rw [← ra.length, ← rb.length]; exact szOk_le hz, fun p hp => q _ _ _ (.newF hp (ra.append rb))⟩)
    · cases hg
  · cases hg
/-! ### - // % -/
def gSub : D → D → Option PV
  | .int i, .int j => some (.fz (.int (i - j)))
  | _, _ => none
theorem ops_sub : OpS K G (rI0 fun i j => .int (i - j)) gSub := by
  intro Z H da db x y pv Q s ha hb hg q
  unfold gSub at hg
  split at hg
  · cases hg
    exact ⟨_, _, pk_int ha, pk_int hb, q _ _ _ (.same rfl)⟩
  · cases hg
def gDiv : D → D → Option PV
  | .int i, .int j => if divOk j then some (.fz (.int (i / j))) else none
  | _, _ => none
theorem ops_div : OpS K G (rI CDivW fun i j => .int (i / j)) gDiv := by
  intro Z H da db x y pv Q s ha hb hg q
  unfold gDiv at hg
  split at hg
  · split at hg
    · rename_i h
      cases hg
      unfold divOk at h
      rw [Bool.and_eq_true] at h
      exact ⟨_, _, pk_int ha, pk_int hb, ⟨of_decide_eq_true h.1, Nat.lt_succ_of_le (Nat.le_of_ble_eq_true h.2)⟩, q _ _ _ (.same rfl)⟩
    · cases hg
  · cases hg
def gMod : D → D → Option PV
  | .int i, .int j => if decide (0 < j) then some (.fz (.int (i % j))) else none
  | _, _ => none
theorem ops_mod : OpS K G (rI (fun _ j => 0 < j) fun i j => .int (i % j)) gMod := by
  intro Z H da db x y pv Q s ha hb hg q
  unfold gMod at hg
  split at hg
  · split at hg
    · rename_i h
      cases hg
      exact ⟨_, _, pk_int ha, pk_int hb, of_decide_eq_true h, q _ _ _ (.same rfl)⟩
    · cases hg
  · cases hg
/-! ### * -/
def gMul : D → D → Option PV
  | .int i, .int j => if mulOk i j then some (.fz (.int (i * j))) else none
  | .lst xs, .int k => if decide (-9223372036854775808 ≤ k) && decide (k < 9223372036854775808) && szOk (xs.length * k.toNat) then some (.fr (List.replicate k.toNat xs).flatten) else none
  | .tup xs, .int k => if xs.isEmpty || Nat.ble k.toNat 1 || Nat.ble 1001 k.toNat || Nat.ble 1001 xs.length then none else some (.fz (.tup (List.replicate k.toNat xs).flatten))
  | _, _ => none
abbrev rMul (K : PySem.W.Frag) : R2 := rOr (rI CMul fun i j => .int (i * j)) (rOr (rI CMulW fun i j => .int (i * j)) (rOr rRep (rRepT K)))
theorem opr_mul {X : Cx} : OpR X (binaryOp .Mult) (rMul X.K) := opOr op_mul (opOr op_mulW (opOr op_rep op_repT))
theorem natAbs_small {i : Int} (h : Nat.ble i.natAbs 18446744073709551615 = true) : -(2 ^ 64) < i ∧ i < 2 ^ 64 := by
  have := Nat.le_of_ble_eq_true h
  omega
theorem ops_mul : OpS K G (rMul K) gMul := by
  intro Z H da db x y pv Q s ha hb hg q
  unfold gMul at hg
  split at hg
  · split at hg
    · rename_i h
      cases hg
      unfold mulOk at h
      rw [Bool.or_eq_true, Bool.or_eq_true] at h
      rcases h with (h | h) | h
      · exact .inl ⟨_, _, pk_int ha, pk_int hb, .inl (natAbs_small h), q _ _ _ (.same rfl)⟩
      · exact .inl ⟨_, _, pk_int ha, pk_int hb, .inr (natAbs_small h), q _ _ _ (.same rfl)⟩
      · exact .inr (.inl ⟨_, _, pk_int ha, pk_int hb, Nat.lt_succ_of_le (Nat.le_of_ble_eq_true h), q _ _ _ (.same rfl)⟩)
    · cases hg
  · split at hg
    · rename_i h
      cases hg
      simp only [Bool.and_eq_true, decide_eq_true_eq] at h
      obtain ⟨⟨h1, h2⟩, h3⟩ := h
      obtain ⟨a, vs, rfl, sa, ra⟩ := ha.lst s
      refine .inr (.inr (.inl ⟨a, _, vs, rfl, pk_int hb, sa, by omega, by omega, by rw [← ra.length]; exact szOk_le h3, fun p hp => q _ _ _ (.newF hp (ra.rep _))⟩))
    · cases hg
  · split at hg
    · cases hg
    · rename_i xs k h
      cases hg
      simp only [Bool.not_eq_true, Bool.or_eq_false_iff] at h
      obtain ⟨⟨⟨h1, h2⟩, h3⟩, h4⟩ := h
      have h2' : ¬ k.toNat ≤ 1 := fun z => by rw [Nat.ble_eq_true_of_le z] at h2; cases h2
      have h3' : ¬ 1001 ≤ k.toNat := fun z => by rw [Nat.ble_eq_true_of_le z] at h3; cases h3
      have h4' : ¬ 1001 ≤ xs.length := fun z => by rw [Nat.ble_eq_true_of_le z] at h4; cases h4
      obtain ⟨a, vs, rfl, sa, ra⟩ := pk_tup ha
      have la := ra.length
      refine .inr (.inr (.inr ⟨a, k, vs, rfl, pk_int hb, Same.seqT s sa, ?_, by omega, by omega, by omega, fun p hp => q _ _ _ (.newZ hp ⟨p, _, rfl, .inl (.inl upd_same), RepL.mono (same_newZ (Same.none s hp)) _ _ (ra.rep _)⟩)⟩))
      intro e
      rw [e] at la
      cases xs with
      | nil => cases h1
      | cons _ _ => cases la
  · cases hg
/-! ### order -/
def gLt : D → D → Option PV
  | .int i, .int j => some (.fz (.bl (decide (i < j))))
  | _, _ => none
def gLe : D → D → Option PV
  | .int i, .int j => some (.fz (.bl (decide (i ≤ j))))
  | _, _ => none
def gGt : D → D → Option PV
  | .int i, .int j => some (.fz (.bl (decide (j < i))))
  | _, _ => none
def gGe : D → D → Option PV
  | .int i, .int j => some (.fz (.bl (decide (j ≤ i))))
  | _, _ => none
theorem ops_lt : OpS K G (rI0 fun i j => .bl (decide (i < j))) gLt := by
  intro Z H da db x y pv Q s ha hb hg q
  unfold gLt at hg
  split at hg
  · cases hg
    exact ⟨_, _, pk_int ha, pk_int hb, q _ _ _ (.same rfl)⟩
  · cases hg
theorem ops_le : OpS K G (rI0 fun i j => .bl (decide (i ≤ j))) gLe := by
  intro Z H da db x y pv Q s ha hb hg q
  unfold gLe at hg
  split at hg
  · cases hg
    exact ⟨_, _, pk_int ha, pk_int hb, q _ _ _ (.same rfl)⟩
  · cases hg
theorem ops_gt : OpS K G (rI0 fun i j => .bl (decide (j < i))) gGt := by
  intro Z H da db x y pv Q s ha hb hg q
  unfold gGt at hg
  split at hg
  · cases hg
    exact ⟨_, _, pk_int ha, pk_int hb, q _ _ _ (.same rfl)⟩
  · cases hg
theorem ops_ge : OpS K G (rI0 fun i j => .bl (decide (j ≤ i))) gGe := by
  intro Z H da db x y pv Q s ha hb hg q
  unfold gGe at hg
  split at hg
  · cases hg
    exact ⟨_, _, pk_int ha, pk_int hb, q _ _ _ (.same rfl)⟩
  · cases hg
/-! ### == and != of data -/
mutual
def toP : D → Option PyData
  | .non => some .none
  | .bl b => some (.bool b)
  | .int i => some (.int i)
  | .str x => some (.str x)
  | .tup xs => (toPs xs).map .tuple
  | .lst xs => (toPs xs).map .list
  | _ => none
def toPs : List D → Option (List PyData)
  | [] => some []
  | d :: ds => match toP d, toPs ds with
    | some p, some ps => some (p :: ps)
    | _, _ => none
end
mutual
theorem Rep.dp (s : Same Z H) : ∀ (d : D) (v : V) (p : PyData), Rep K G Z d v → toP d = some p → Dp K H v p
  | .non, _, _, h, e => by cases e; cases (show _ = V.non from h); exact .non
  | .bl b, _, _, h, e => by cases e; cases (show _ = V.bl b from h); exact .bl b
  | .int i, _, _, h, e => by cases e; cases (show _ = V.int i from h); exact .int i
  | .str x, _, _, h, e => by cases e; cases (show _ = V.str x from h); exact .str x
  | .tup xs, _, _, h, e => by
    obtain ⟨a, vs, rfl, q, r⟩ := h
    rw [toP, Option.map_eq_some_iff] at e
    obtain ⟨ps, e1, rfl⟩ := e
    exact .tup (Same.seqT s q) (RepL.dp s xs vs ps r e1)
  | .lst xs, _, _, h, e => by
    obtain ⟨a, vs, rfl, q, r⟩ := h
    rw [toP, Option.map_eq_some_iff] at e
    obtain ⟨ps, e1, rfl⟩ := e
    exact .lst (.inl (.inl (s _ _ q))) (RepL.dp s xs vs ps r e1)
  | .lck xs, _, _, _, e => by cases e
  | .fn n, _, _, _, e => by cases e
  | .obj c xs, _, _, _, e => by cases e
theorem RepL.dp (s : Same Z H) : ∀ (ds : List D) (vs : List V) (ps : List PyData), RepL K G Z ds vs → toPs ds = some ps → DpAll K H vs ps
  | [], _, _, h, e => by
    cases e
    cases (show _ = [] from h)
    exact .nil
  | d :: ds, _, _, h, e => by
    obtain ⟨v, r, rfl, q, t⟩ := h
    rw [toPs] at e
    split at e
    · rename_i p ps e1 e2
      cases e
      exact .cons (Rep.dp s d v p q e1) (RepL.dp s ds r ps t e2)
    · cases e
end
theorem Pk.dp (s : Same Z H) {d : D} {p : PyData} (h : Pk K G Z H d x) (e : toP d = some p) : Dp K H x p := by
  rcases h with h | ⟨xs, a, vs, rfl, rfl, q, r⟩
  · exact Rep.dp s _ _ _ h e
  · rw [toP, Option.map_eq_some_iff] at e
    obtain ⟨ps, e1, rfl⟩ := e
    exact .lst (.inl (.inl q)) (RepL.dp s xs vs ps r e1)
def eqP (d e : D) : Option Bool := match toP d, toP e with
  | some p, some q => if SeqAt.shaped p && SeqAt.shaped q then some (PyData.eqv p q) else none
  | _, _ => none
def eqD (d e : D) : Option Bool := match d, e with
  | .int i, .int j => some (decide (i = j))
  | .str x, .str y => some (decide (x = y))
  | .bl x, .bl y => some (decide (x = y))
  | d, e => eqP d e
def gEq (d e : D) : Option PV := (eqD d e).map fun b => .fz (.bl b)
def gNe (d e : D) : Option PV := (eqD d e).map fun b => .fz (.bl (!b))
theorem eqD_sound (s : Same Z H) {d e : D} {b : Bool} (hd : Pk K G Z H d x) (he : Pk K G Z H e y) (h : eqD d e = some b) :
    (scal x y = true ∧ decide (x = y) = b) ∨ ∃ p q, Dp K H x p ∧ Dp K H y q ∧ SeqAt.shaped p = true ∧ SeqAt.shaped q = true ∧ PyData.eqv p q = b := by
  unfold eqD at h
  split at h
  · cases h
    cases pk_int hd
    cases pk_int he
    exact .inl ⟨rfl, by simp⟩
  · cases h
    cases pk_str hd
    cases pk_str he
    exact .inl ⟨rfl, by simp⟩
  · cases h
    cases pk_bl hd
    cases pk_bl he
    exact .inl ⟨rfl, by simp⟩
  · unfold eqP at h
    split at h
    · rename_i p q e1 e2
      split at h
      · rename_i sh
        rw [Bool.and_eq_true] at sh
        cases h
        exact .inr ⟨p, q, Pk.dp s hd e1, Pk.dp s he e2, sh.1, sh.2, rfl⟩
      · cases h
    · cases h
abbrev rEqA (K : PySem.W.Frag) : R2 := rOr rEq (rEqD K)
abbrev rNeA (K : PySem.W.Frag) : R2 := rOr rNe (rNeD K)
theorem opr_eq {X : Cx} (hu : X.A.units + 64 < cLine) : OpR X (compareOp .Eq) (rEqA X.K) := opOr op_eq (op_eqD hu)
theorem opr_ne {X : Cx} (hu : X.A.units + 64 < cLine) : OpR X (compareOp .NotEq) (rNeA X.K) := opOr op_ne (op_neD hu)
theorem ops_eq : OpS K G (rEqA K) gEq := by
  intro Z H da db x y pv Q s ha hb hg q
  unfold gEq at hg
  rw [Option.map_eq_some_iff] at hg
  obtain ⟨b, hb', rfl⟩ := hg
  rcases eqD_sound s ha hb hb' with ⟨s1, rfl⟩ | ⟨p, p', d1, d2, s1, s2, rfl⟩
  · exact .inl ⟨s1, q _ _ _ (.same rfl)⟩
  · exact .inr ⟨p, p', d1, d2, s1, s2, q _ _ _ (.same rfl)⟩
theorem ops_ne : OpS K G (rNeA K) gNe := by
  intro Z H da db x y pv Q s ha hb hg q
  unfold gNe at hg
  rw [Option.map_eq_some_iff] at hg
  obtain ⟨b, hb', rfl⟩ := hg
  rcases eqD_sound s ha hb hb' with ⟨s1, rfl⟩ | ⟨p, p', d1, d2, s1, s2, rfl⟩
  · exact .inl ⟨s1, q _ _ _ (.same rfl)⟩
  · exact .inr ⟨p, p', d1, d2, s1, s2, q _ _ _ (.same rfl)⟩
def gIsN : D → D → Option PV
  | .non, .non => some (.fz (.bl true))
  | _, .non => some (.fz (.bl false))
  | _, _ => none
theorem pk_notnon {d : D} (h : Pk K G Z H d x) (n : d ≠ .non) : x ≠ .non := by
  intro e
  subst e
  rcases h with h | ⟨xs, a, vs, rfl, e, _⟩
  · cases d with
    | non => exact n rfl
    | bl b => cases (show V.non = V.bl b from h)
    | int b => cases (show V.non = V.int b from h)
    | str b => cases (show V.non = V.str b from h)
    | tup b => obtain ⟨_, _, e, _⟩ := h; cases e
    | lst b => obtain ⟨_, _, e, _⟩ := h; cases e
    | lck b => obtain ⟨_, _, e, _⟩ := h; cases e
    | fn b => cases (show V.non = V.ref _ from h)
    | obj c b => obtain ⟨_, _, _, e, _⟩ := h; cases e
  · cases e
theorem ops_isN : OpS K G (fun x y H Q => y = .non ∧ Q (.bl (decide (x = .non))) H) gIsN := by
  intro Z H da db x y pv Q s ha hb hg q
  unfold gIsN at hg
  split at hg
  · cases hg
    cases pk_non ha
    exact ⟨pk_non hb, q _ _ _ (.same rfl)⟩
  · rename_i h
    cases hg
    refine ⟨pk_non hb, ?_⟩
    rw [decide_eq_false (pk_notnon ha h)]
    exact q _ _ _ (.same rfl)
  · cases hg
/-! ### items, by int -/
def gIx : D → D → Option PV
  | .tup xs, .int i => ((ixN xs.length i).bind fun j => xs[j]?).map .fz
  | .lst xs, .int i => ((ixN xs.length i).bind fun j => xs[j]?).map .fz
  | _, _ => none
abbrev rIxA (K : PySem.W.Frag) : R2 := rOr (rIxT K) (rIxL K)
theorem ixr_any {X : Cx} : IxR X (rIxA X.K) := ixOr ix_tup ix_list
theorem atI_get {xs : List D} {vs : List V} {i : Int} {d : D} (r : RepL K G Z xs vs) (h : ((ixN xs.length i).bind fun j => xs[j]?) = some d) : ∃ v, atI vs i = some v ∧ Rep K G Z d v := by
  rw [Option.bind_eq_some_iff] at h
  obtain ⟨j, h1, h2⟩ := h
  obtain ⟨v, h3, h4⟩ := r.get h2
  refine ⟨v, ?_, h4⟩
  unfold atI
  rw [← r.length, h1]
  exact h3
theorem ops_ix : OpS K G (rIxA K) gIx := by
  intro Z H da db x y pv Q s ha hb hg q
  unfold gIx at hg
  split at hg
  · rw [Option.map_eq_some_iff] at hg
    obtain ⟨d, hd, rfl⟩ := hg
    obtain ⟨a, vs, rfl, sa, ra⟩ := pk_tup ha
    obtain ⟨v, h1, h2⟩ := atI_get ra hd
    exact .inl ⟨a, vs, _, v, rfl, pk_int hb, Same.seqT s sa, h1, q _ _ _ (.same h2)⟩
  · rw [Option.map_eq_some_iff] at hg
    obtain ⟨d, hd, rfl⟩ := hg
    obtain ⟨a, vs, rfl, sa, ra⟩ := ha.lst s
    obtain ⟨v, h1, h2⟩ := atI_get ra hd
    exact .inr ⟨a, vs, _, v, rfl, pk_int hb, .inl (.inl sa), h1, q _ _ _ (.same h2)⟩
  · cases hg
/-! ### one operand -/
def gNeg : D → Option PV
  | .int i => some (.fz (.int (-i)))
  | _ => none
theorem uns_neg : UnS K G (rU fun i => .int (-i)) gNeg := by
  intro Z H da x pv Q s ha hg q
  unfold gNeg at hg
  split at hg
  · cases hg
    exact ⟨_, pk_int ha, q _ _ _ (.same rfl)⟩
  · cases hg
def gLen : D → Option PV
  | .tup xs => some (.fz (.int xs.length))
  | .lst xs => some (.fz (.int xs.length))
  | .lck xs => some (.fz (.int xs.length))
  | _ => none
theorem uns_len : UnS K G (fun x H Q => ∃ p ys, [x] = [V.ref p] ∧ (SqL K H p ys ∨ SqT K H p ys) ∧ Q (.int ys.length) H) gLen := by
  intro Z H da x pv Q s ha hg q
  unfold gLen at hg
  split at hg
  · cases hg
    obtain ⟨a, vs, rfl, sa, ra⟩ := pk_tup ha
    exact ⟨a, vs, rfl, .inr (Same.seqT s sa), by rw [← ra.length]; exact q _ _ _ (.same rfl)⟩
  · cases hg
    obtain ⟨a, vs, rfl, sa, ra⟩ := ha.lst s
    exact ⟨a, vs, rfl, .inl (.inl (.inl sa)), by rw [← ra.length]; exact q _ _ _ (.same rfl)⟩
  · cases hg
    obtain ⟨a, vs, rfl, sa, ra⟩ := Pk.rep ha (by intro _ e; cases e)
    exact ⟨a, vs, rfl, .inl (s.seq sa), by rw [← ra.length]; exact q _ _ _ (.same rfl)⟩
  · cases hg
def intsD : List D → Option (List Int)
  | [] => some []
  | .int i :: r => (intsD r).map (i :: ·)
  | _ => none
def blsD : List D → Option (List Bool)
  | [] => some []
  | .bl i :: r => (blsD r).map (i :: ·)
  | _ => none
theorem intsD_eq : ∀ {xs : List D} {ns : List Int}, intsD xs = some ns → xs = ns.map D.int
  | [], _, h => by cases h; rfl
  | .int i :: r, _, h => by
    rw [intsD, Option.map_eq_some_iff] at h
    obtain ⟨ns, h1, rfl⟩ := h
    rw [intsD_eq h1]
    rfl
  | .non :: r, _, h => by cases h
  | .bl _ :: r, _, h => by cases h
  | .str _ :: r, _, h => by cases h
  | .tup _ :: r, _, h => by cases h
  | .lst _ :: r, _, h => by cases h
  | .lck _ :: r, _, h => by cases h
  | .fn _ :: r, _, h => by cases h
  | .obj _ _ :: r, _, h => by cases h
theorem blsD_eq : ∀ {xs : List D} {ns : List Bool}, blsD xs = some ns → xs = ns.map D.bl
  | [], _, h => by cases h; rfl
  | .bl i :: r, _, h => by
    rw [blsD, Option.map_eq_some_iff] at h
    obtain ⟨ns, h1, rfl⟩ := h
    rw [blsD_eq h1]
    rfl
  | .non :: r, _, h => by cases h
  | .int _ :: r, _, h => by cases h
  | .str _ :: r, _, h => by cases h
  | .tup _ :: r, _, h => by cases h
  | .lst _ :: r, _, h => by cases h
  | .lck _ :: r, _, h => by cases h
  | .fn _ :: r, _, h => by cases h
  | .obj _ _ :: r, _, h => by cases h
theorem intsD_map : ∀ ns : List Int, intsD (ns.map D.int) = some ns
  | [] => rfl
  | n :: ns => by
    rw [List.map_cons, intsD, intsD_map ns]
    rfl
theorem blsD_map : ∀ ns : List Bool, blsD (ns.map D.bl) = some ns
  | [] => rfl
  | n :: ns => by
    rw [List.map_cons, blsD, blsD_map ns]
    rfl
def gSum : D → Option PV
  | .lst xs => (intsD xs).map fun ns => .fz (.int ns.sum)
  | _ => none
theorem uns_sum : UnS K G (fun x H Q => rSum K [x] H Q) gSum := by
  intro Z H da x pv Q s ha hg q
  unfold gSum at hg
  split at hg
  · rw [Option.map_eq_some_iff] at hg
    obtain ⟨ns, h1, rfl⟩ := hg
    cases intsD_eq h1
    obtain ⟨a, vs, rfl, sa, ra⟩ := ha.lst s
    cases ra.ints
    exact ⟨a, ns, rfl, .inl (.inl sa), q _ _ _ (.same rfl)⟩
  · cases hg
def gAll : D → Option PV
  | .lst xs => (blsD xs).map fun ns => .fz (.bl (ns.all id))
  | _ => none
def gAny : D → Option PV
  | .lst xs => (blsD xs).map fun ns => .fz (.bl (ns.any id))
  | _ => none
theorem uns_all : UnS K G (fun x H Q => rAll K [x] H Q) gAll := by
  intro Z H da x pv Q s ha hg q
  unfold gAll at hg
  split at hg
  · rw [Option.map_eq_some_iff] at hg
    obtain ⟨ns, h1, rfl⟩ := hg
    cases blsD_eq h1
    obtain ⟨a, vs, rfl, sa, ra⟩ := ha.lst s
    cases ra.bls
    exact ⟨a, ns, rfl, .inl (.inl sa), q _ _ _ (.same rfl)⟩
  · cases hg
theorem uns_any : UnS K G (fun x H Q => rAny K [x] H Q) gAny := by
  intro Z H da x pv Q s ha hg q
  unfold gAny at hg
  split at hg
  · rw [Option.map_eq_some_iff] at hg
    obtain ⟨ns, h1, rfl⟩ := hg
    cases blsD_eq h1
    obtain ⟨a, vs, rfl, sa, ra⟩ := ha.lst s
    cases ra.bls
    exact ⟨a, ns, rfl, .inl (.inl sa), q _ _ _ (.same rfl)⟩
  · cases hg
def gAbs : D → Option PV
  | .int i => some (.fz (.int (if i < 0 then -i else i)))
  | _ => none
theorem uns_abs : UnS K G (fun x H Q => ∃ i, [x] = [V.int i] ∧ Q (.int (if i < 0 then -i else i)) H) gAbs := by
  intro Z H da x pv Q s ha hg q
  unfold gAbs at hg
  split at hg
  · cases hg
    exact ⟨_, by rw [pk_int ha], q _ _ _ (.same rfl)⟩
  · cases hg
def gInt : D → Option PV
  | .int i => some (.fz (.int i))
  | .bl b => some (.fz (.int (if b then 1 else 0)))
  | _ => none
theorem uns_int : UnS K G (fun x H Q => (∃ i, [x] = [V.int i] ∧ Q (.int i) H) ∨ ∃ k, [x] = [V.bl k] ∧ Q (.int (if k then 1 else 0)) H) gInt := by
  intro Z H da x pv Q s ha hg q
  unfold gInt at hg
  split at hg
  · cases hg
    exact .inl ⟨_, by rw [pk_int ha], q _ _ _ (.same rfl)⟩
  · cases hg
    exact .inr ⟨_, by rw [pk_bl ha], q _ _ _ (.same rfl)⟩
  · cases hg
def gTup : D → Option PV
  | .tup xs => some (.fz (.tup xs))
  | .lst xs => some (.fz (.tup xs))
  | _ => none
theorem uns_tup : UnS K G (fun x H Q => ∃ p ys, [x] = [V.ref p] ∧ ((SqL K H p ys ∧ ∀ l, H l = none → Q (.ref l) (upd H l (.tup ys))) ∨ (SqT K H p ys ∧ Q (.ref p) H))) gTup := by
  intro Z H da x pv Q s ha hg q
  unfold gTup at hg
  split at hg
  · cases hg
    obtain ⟨a, vs, rfl, sa, ra⟩ := pk_tup ha
    exact ⟨a, vs, rfl, .inr ⟨Same.seqT s sa, q _ _ _ (.same ⟨a, vs, rfl, sa, ra⟩)⟩⟩
  · cases hg
    obtain ⟨a, vs, rfl, sa, ra⟩ := ha.lst s
    exact ⟨a, vs, rfl, .inl ⟨.inl (.inl sa), fun l hl => q _ _ _ (.newZ hl ⟨l, vs, rfl, .inl (.inl upd_same), RepL.mono (same_newZ (Same.none s hl)) _ _ ra⟩)⟩⟩
  · cases hg
def gLst : D → Option PV
  | .tup xs => some (.fr xs)
  | .lst xs => some (.fr xs)
  | .lck xs => some (.fr xs)
  | _ => none
theorem uns_lst : UnS K G (fun x H Q => ∃ p ys, [x] = [V.ref p] ∧ (SqL K H p ys ∨ SqT K H p ys) ∧ ∀ l, H l = none → Q (.ref l) (upd H l (.lst ys))) gLst := by
  intro Z H da x pv Q s ha hg q
  unfold gLst at hg
  split at hg
  · cases hg
    obtain ⟨a, vs, rfl, sa, ra⟩ := pk_tup ha
    exact ⟨a, vs, rfl, .inr (Same.seqT s sa), fun l hl => q _ _ _ (.newF hl ra)⟩
  · cases hg
    obtain ⟨a, vs, rfl, sa, ra⟩ := ha.lst s
    exact ⟨a, vs, rfl, .inl (.inl (.inl sa)), fun l hl => q _ _ _ (.newF hl ra)⟩
  · cases hg
    obtain ⟨a, vs, rfl, sa, ra⟩ := Pk.rep ha (by intro _ e; cases e)
    exact ⟨a, vs, rfl, .inl (s.seq sa), fun l hl => q _ _ _ (.newF hl ra)⟩
  · cases hg
/-! ### isinstance(x, T), T built in -/
inductive Tyn where
  | int | bool | tuple | list | str
def Tyn.n : Tyn → String
  | .int => "int" | .bool => "bool" | .tuple => "tuple" | .list => "list" | .str => "str"
def tyD : D → Option String
  | .non => some "NoneType"
  | .bl _ => some "bool"
  | .int _ => some "int"
  | .str _ => some "str"
  | .tup _ => some "tuple"
  | .lst _ => some "list"
  | .lck _ => some "list"
  | _ => none
def isiD (T : Tyn) : D → Option Bool
  | .non => some false
  | .bl _ => some (match T with | .int => true | .bool => true | _ => false)
  | .int _ => some (match T with | .int => true | _ => false)
  | .str _ => some (match T with | .str => true | _ => false)
  | .tup _ => some (match T with | .tuple => true | _ => false)
  | .lst _ => some (match T with | .list => true | _ => false)
  | .lck _ => some (match T with | .list => true | _ => false)
  | _ => none
theorem isiD_kit : ∀ (T : Tyn) (d : D) (b : Bool) (n : String), isiD T d = some b → tyD d = some n → PySem.W.kitOne K (.type n) (.type T.n) = some b := by
  intro T d b n h e
  refine kit_ty ?_
  cases d <;> cases e <;> cases T <;> cases h <;> decide +kernel
def gIsi (T : Tyn) (d : D) : Option PV := (isiD T d).map fun b => .fz (.bl b)
theorem tyX_of (s : Same Z H) {d : D} {n : String} (h : Pk K G Z H d x) (e : tyD d = some n) : TyX K H x (.type n) := by
  cases d with
  | non => cases e; cases pk_non h; exact .base .non
  | bl b => cases e; cases pk_bl h; exact .base (.bl b)
  | int b => cases e; cases pk_int h; exact .base (.int b)
  | str b => cases e; cases pk_str h; exact .base (.str b)
  | tup b =>
    cases e
    obtain ⟨a, vs, rfl, sa, ra⟩ := pk_tup h
    rcases Same.seqT s sa with (q | ⟨o, q⟩) | ⟨o, its, n, q1, q2, _⟩
    · exact .base (.tup q)
    · exact .fTuple q
    · exact .kTuple q1 q2
  | lst b =>
    cases e
    obtain ⟨a, vs, rfl, sa, ra⟩ := h.lst s
    exact .base (.lst sa)
  | lck b =>
    cases e
    obtain ⟨a, vs, rfl, sa, ra⟩ := Pk.rep h (by intro _ e; cases e)
    rcases s.seq sa with (q | ⟨o, q⟩) | ⟨o, its, n, q1, q2, _⟩
    · exact .base (.lst q)
    · exact .base (.frz q)
    · exact .kList q1 q2
  | fn b => cases e
  | obj c b => cases e
theorem uns_isi (T : Tyn) : UnS K G (fun x H Q => rIsi K [x, .ty T.n] H Q) (gIsi T) := by
  intro Z H da x pv Q s ha hg q
  unfold gIsi at hg
  rw [Option.map_eq_some_iff] at hg
  obtain ⟨b, h1, rfl⟩ := hg
  have : ∃ n, tyD da = some n := by cases da <;> first | exact ⟨_, rfl⟩ | cases h1
  obtain ⟨n, hn⟩ := this
  exact ⟨x, .ty T.n, .type n, .type T.n, b, rfl, .ty _, tyX_of s ha hn, isiD_kit T da b n h1 hn, q _ _ _ (.same rfl)⟩
def gMax : D → D → Option PV
  | .int i, .int j => some (.fz (.int (if j > i then j else i)))
  | _, _ => none
def gMin : D → D → Option PV
  | .int i, .int j => some (.fz (.int (if j < i then j else i)))
  | _, _ => none
theorem ops_max : OpS K G (fun x y H Q => ∃ i j, [x, y] = [V.int i, V.int j] ∧ Q (.int (if j > i then j else i)) H) gMax := by
  intro Z H da db x y pv Q s ha hb hg q
  unfold gMax at hg
  split at hg
  · cases hg
    exact ⟨_, _, by rw [pk_int ha, pk_int hb], q _ _ _ (.same rfl)⟩
  · cases hg
theorem ops_min : OpS K G (fun x y H Q => ∃ i j, [x, y] = [V.int i, V.int j] ∧ Q (.int (if j < i then j else i)) H) gMin := by
  intro Z H da db x y pv Q s ha hb hg q
  unfold gMin at hg
  split at hg
  · cases hg
    exact ⟨_, _, by rw [pk_int ha, pk_int hb], q _ _ _ (.same rfl)⟩
  · cases hg
end
end Rf
end
section
set_option Elab.async false
set_option linter.all false
set_option maxRecDepth 100000
set_option maxHeartbeats 4000000
/-! Rf, part D: tests, and, or, not, if .. else, chains, arguments, displays, calls of built-ins, slices. -/
namespace Rf
open PySem PySem.Spec PyProof.Rows L2
section
variable {K : PySem.W.Frag} {G : Wd} {W : WX} {σ : L2.St} {H : Hp}
/-- a part, then what is done with its answer -/
theorem te_bind {fa : Ev} {k : PV × Rho → R (PV × Rho)} {Q : VK} {P : V → Hp → Prop} (h : tE K G W (fun ρ => (fa ρ).bind k) σ H Q)
    (n : ∀ B Z Φ ρ1 H1 x pa, Ok K G B Z Φ σ ρ1 H1 → RepP K G Z Φ σ ρ1 H1 pa x → PostE K G W B Z Φ σ Q (k (pa, ρ1)) → P x H1) : tE K G W fa σ H P := by
  obtain ⟨B, Z, Φ, ρ, ok, h⟩ := h
  refine ⟨B, Z, Φ, ρ, ok, ?_⟩
  dsimp only at h
  cases ha : fa ρ with
  | no => rw [ha] at h; exact h.elim
  | exc x => rw [ha] at h; exact h
  | ok p =>
    obtain ⟨pa, ρ1⟩ := p
    rw [ha] at h
    intro Z1 H1 x e1 k1 r1
    refine n B Z1 Φ ρ1 H1 x pa k1 r1 ?_
    change PostE K G W B Z Φ σ Q (k (pa, ρ1)) at h
    cases hk : k (pa, ρ1) with
    | no => rw [hk] at h; exact h.elim
    | exc x => rw [hk] at h; exact PostX.ext h e1
    | ok p =>
      rw [hk] at h
      exact fun Z2 H2 v e2 k2 r2 => h Z2 H2 v (e1.trans e2) k2 r2
theorem tt_bindE {fa : Ev} {k : PV × Rho → R (Bool × Rho)} {Q : Bool → Hp → Prop} {P : V → Hp → Prop} (h : tT K G W (fun ρ => (fa ρ).bind k) σ H Q)
    (n : ∀ B Z Φ ρ1 H1 x pa, Ok K G B Z Φ σ ρ1 H1 → RepP K G Z Φ σ ρ1 H1 pa x → PostT K G W B Z Φ σ Q (k (pa, ρ1)) → P x H1) : tE K G W fa σ H P := by
  obtain ⟨B, Z, Φ, ρ, ok, h⟩ := h
  refine ⟨B, Z, Φ, ρ, ok, ?_⟩
  dsimp only at h
  cases ha : fa ρ with
  | no => rw [ha] at h; exact h.elim
  | exc x => rw [ha] at h; exact h
  | ok p =>
    obtain ⟨pa, ρ1⟩ := p
    rw [ha] at h
    intro Z1 H1 x e1 k1 r1
    refine n B Z1 Φ ρ1 H1 x pa k1 r1 ?_
    change PostT K G W B Z Φ σ Q (k (pa, ρ1)) at h
    cases hk : k (pa, ρ1) with
    | no => rw [hk] at h; exact h.elim
    | exc x => rw [hk] at h; exact PostX.ext h e1
    | ok p =>
      rw [hk] at h
      exact fun Z2 H2 e2 k2 => h Z2 H2 (e1.trans e2) k2
theorem tt_bindT {fa : Et} {k : Bool × Rho → R (Bool × Rho)} {Q : Bool → Hp → Prop} {P : Bool → Hp → Prop} (h : tT K G W (fun ρ => (fa ρ).bind k) σ H Q)
    (n : ∀ B Z Φ ρ1 H1 b, Ok K G B Z Φ σ ρ1 H1 → PostT K G W B Z Φ σ Q (k (b, ρ1)) → P b H1) : tT K G W fa σ H P := by
  obtain ⟨B, Z, Φ, ρ, ok, h⟩ := h
  refine ⟨B, Z, Φ, ρ, ok, ?_⟩
  dsimp only at h
  cases ha : fa ρ with
  | no => rw [ha] at h; exact h.elim
  | exc x => rw [ha] at h; exact h
  | ok p =>
    obtain ⟨pa, ρ1⟩ := p
    rw [ha] at h
    intro Z1 H1 e1 k1
    refine n B Z1 Φ ρ1 H1 pa k1 ?_
    change PostT K G W B Z Φ σ Q (k (pa, ρ1)) at h
    cases hk : k (pa, ρ1) with
    | no => rw [hk] at h; exact h.elim
    | exc x => rw [hk] at h; exact PostX.ext h e1
    | ok p =>
      rw [hk] at h
      exact fun Z2 H2 e2 k2 => h Z2 H2 (e1.trans e2) k2
theorem te_bindT {fa : Et} {k : Bool × Rho → R (PV × Rho)} {Q : VK} {P : Bool → Hp → Prop} (h : tE K G W (fun ρ => (fa ρ).bind k) σ H Q)
    (n : ∀ B Z Φ ρ1 H1 b, Ok K G B Z Φ σ ρ1 H1 → PostE K G W B Z Φ σ Q (k (b, ρ1)) → P b H1) : tT K G W fa σ H P := by
  obtain ⟨B, Z, Φ, ρ, ok, h⟩ := h
  refine ⟨B, Z, Φ, ρ, ok, ?_⟩
  dsimp only at h
  cases ha : fa ρ with
  | no => rw [ha] at h; exact h.elim
  | exc x => rw [ha] at h; exact h
  | ok p =>
    obtain ⟨pa, ρ1⟩ := p
    rw [ha] at h
    intro Z1 H1 e1 k1
    refine n B Z1 Φ ρ1 H1 pa k1 ?_
    change PostE K G W B Z Φ σ Q (k (pa, ρ1)) at h
    cases hk : k (pa, ρ1) with
    | no => rw [hk] at h; exact h.elim
    | exc x => rw [hk] at h; exact PostX.ext h e1
    | ok p =>
      rw [hk] at h
      exact fun Z2 H2 v e2 k2 r2 => h Z2 H2 v (e1.trans e2) k2 r2
theorem te_bindA {fa : Ea} {k : List D × Rho → R (PV × Rho)} {Q : VK} {P : List V → Hp → Prop} (h : tE K G W (fun ρ => (fa ρ).bind k) σ H Q)
    (n : ∀ B Z Φ ρ1 H1 vs ds, Ok K G B Z Φ σ ρ1 H1 → RepL K G Z ds vs → PostE K G W B Z Φ σ Q (k (ds, ρ1)) → P vs H1) : tA K G W fa σ H P := by
  obtain ⟨B, Z, Φ, ρ, ok, h⟩ := h
  refine ⟨B, Z, Φ, ρ, ok, ?_⟩
  dsimp only at h
  cases ha : fa ρ with
  | no => rw [ha] at h; exact h.elim
  | exc x => rw [ha] at h; exact h
  | ok p =>
    obtain ⟨pa, ρ1⟩ := p
    rw [ha] at h
    intro Z1 H1 vs e1 k1 r1
    refine n B Z1 Φ ρ1 H1 vs pa k1 r1 ?_
    change PostE K G W B Z Φ σ Q (k (pa, ρ1)) at h
    cases hk : k (pa, ρ1) with
    | no => rw [hk] at h; exact h.elim
    | exc x => rw [hk] at h; exact PostX.ext h e1
    | ok p =>
      rw [hk] at h
      exact fun Z2 H2 v e2 k2 r2 => h Z2 H2 v (e1.trans e2) k2 r2

/-! ### tests -/
def bOf : PV × Rho → R (Bool × Rho)
  | (.fz (.bl b), ρ) => .ok (b, ρ)
  | _ => .no
def tOf (f : Ev) : Et := fun ρ => (f ρ).bind bOf
theorem tt_of {f : Ev} {Q : Bool → Hp → Prop} (h : tT K G W (tOf f) σ H Q) : tE K G W f σ H (fun x H1 => ∃ c, x = .bl c ∧ Q c H1) := by
  refine tt_bindE h fun B Z Φ ρ1 H1 x pa k r q => ?_
  unfold bOf at q
  split at q
  · rename_i b ρ' e
    cases e
    exact ⟨b, r, q Z H1 Ext.refl k⟩
  · exact q.elim
def tAndF (ta tb : Et) : Et := fun ρ => (ta ρ).bind fun (b, ρ1) => match b with
  | true => tb ρ1
  | false => .ok (false, ρ1)
def tOrF (ta tb : Et) : Et := fun ρ => (ta ρ).bind fun (b, ρ1) => match b with
  | true => .ok (true, ρ1)
  | false => tb ρ1
def tNotF (ta : Et) : Et := fun ρ => (ta ρ).bind fun (b, ρ1) => .ok (!b, ρ1)
/-- as values -/
def eAndV (fa fb : Ev) : Ev := fun ρ => (fa ρ).bind fun (pa, ρ1) => match pa with
  | .fz (.bl true) => fb ρ1
  | .fz (.bl false) => .ok (.fz (.bl false), ρ1)
  | _ => .no
def eOrV (fa fb : Ev) : Ev := fun ρ => (fa ρ).bind fun (pa, ρ1) => match pa with
  | .fz (.bl true) => .ok (.fz (.bl true), ρ1)
  | .fz (.bl false) => fb ρ1
  | _ => .no
def gNot : D → Option PV
  | .bl b => some (.fz (.bl (!b)))
  | _ => none
def eIfF (tc : Et) (fa fb : Ev) : Ev := fun ρ => (tc ρ).bind fun (b, ρ1) => match b with
  | true => fa ρ1
  | false => fb ρ1
end
section
variable {X : Cx} {G : Wd} {W : WX} {pos : Pos} {a b c : Expr} {rest : List Expr}
theorem rt_val {f : Ev} (h : PE X a (tE X.K G W f)) (he : ∀ whole, isTrue a X.env whole = (do let v ← whole; standAt a.pos; holding [v] (truthy v)) := by intro _; rfl) : PT X a (tT X.K G W (tOf f)) :=
  (pt_val h he).imp fun _ _ _ h => tt_of h
theorem rt_cmp {op : CmpOp} {r : R2} {g : D → D → Option PV} {fa fb : Ev} (ho : OpR X (compareOp op) r) (S : OpS X.K G r g) (ha : PE X a (tE X.K G W fa)) (hb : PE X b (tE X.K G W fb)) (hm : behindInMarks op b = false) :
    PT X (.Compare a [op] [b] pos) (tT X.K G W (tOf (eOp g fa fb))) := (pt_cmpR ho ha hb hm).imp fun _ _ _ h => te_op S (tt_of h)
theorem rw_and1 {ta : Et} (ha : PT X a (tT X.K G W ta)) : PW X (.BoolOp .And [a] pos) (tT X.K G W ta) := pw_and1 ha
theorem rw_or1 {ta : Et} (ha : PT X a (tT X.K G W ta)) : PW X (.BoolOp .Or [a] pos) (tT X.K G W ta) := pw_or1 ha
theorem rw_and {ta tb : Et} (ha : PT X a (tT X.K G W ta)) (hb : PW X (.BoolOp .And (b :: rest) pos) (tT X.K G W tb)) : PW X (.BoolOp .And (a :: b :: rest) pos) (tT X.K G W (tAndF ta tb)) :=
  (pw_and ha hb).imp fun σ H Q h => tt_bindT h fun B Z Φ ρ1 H1 b k q => by
    cases b with
    | true => exact iteT ⟨B, Z, Φ, ρ1, k, q⟩
    | false => exact iteF (q Z H1 Ext.refl k)
theorem rw_or {ta tb : Et} (ha : PT X a (tT X.K G W ta)) (hb : PW X (.BoolOp .Or (b :: rest) pos) (tT X.K G W tb)) : PW X (.BoolOp .Or (a :: b :: rest) pos) (tT X.K G W (tOrF ta tb)) :=
  (pw_or ha hb).imp fun σ H Q h => tt_bindT h fun B Z Φ ρ1 H1 b k q => by
    cases b with
    | true => exact iteT (q Z H1 Ext.refl k)
    | false => exact iteF ⟨B, Z, Φ, ρ1, k, q⟩
theorem rt_not {ta : Et} (ha : PT X a (tT X.K G W ta)) : PT X (.UnaryOp .Not a pos) (tT X.K G W (tNotF ta)) :=
  (pt_not ha).imp fun σ H Q h => tt_bindT h fun B Z Φ ρ1 H1 b k q => q Z H1 Ext.refl k
theorem re_one {op} {f : Ev} (h : PE X a (tE X.K G W f)) : PE X (.BoolOp op [a] pos) (tE X.K G W f) := pe_one h
theorem re_and {fa fb : Ev} (ha : PE X a (tE X.K G W fa)) (hb : PE X (.BoolOp .And (b :: rest) pos) (tE X.K G W fb)) : PE X (.BoolOp .And (a :: b :: rest) pos) (tE X.K G W (eAndV fa fb)) :=
  (pe_and ha hb).imp fun σ H Q h => te_bind h fun B Z Φ ρ1 H1 x pa k r q => by
    dsimp only at q
    split at q
    · exact ⟨true, r, iteT ⟨B, Z, Φ, ρ1, k, q⟩⟩
    · exact ⟨false, r, iteF (q Z H1 _ Ext.refl k rfl)⟩
    · exact q.elim
theorem re_or {fa fb : Ev} (ha : PE X a (tE X.K G W fa)) (hb : PE X (.BoolOp .Or (b :: rest) pos) (tE X.K G W fb)) : PE X (.BoolOp .Or (a :: b :: rest) pos) (tE X.K G W (eOrV fa fb)) :=
  (pe_or ha hb).imp fun σ H Q h => te_bind h fun B Z Φ ρ1 H1 x pa k r q => by
    dsimp only at q
    split at q
    · exact ⟨true, r, iteT (q Z H1 _ Ext.refl k rfl)⟩
    · exact ⟨false, r, iteF ⟨B, Z, Φ, ρ1, k, q⟩⟩
    · exact q.elim
theorem uns_not {K : PySem.W.Frag} : UnS K G (fun x H Q => ∃ c, x = .bl c ∧ Q (.bl (!c)) H) gNot := by
  intro Z H da x pv Q s ha hg q
  unfold gNot at hg
  split at hg
  · cases hg
    exact ⟨_, pk_bl ha, q _ _ _ (.same rfl)⟩
  · cases hg
theorem re_not {fa : Ev} (ha : PE X a (tE X.K G W fa)) : PE X (.UnaryOp .Not a pos) (tE X.K G W (eU gNot fa)) := (pe_not ha).imp fun _ _ _ h => te_un uns_not h
theorem re_if {tc : Et} {fa fb : Ev} (hc : PT X c (tT X.K G W tc)) (ha : PE X a (tE X.K G W fa)) (hb : PE X b (tE X.K G W fb)) : PE X (.IfExp c a b pos) (tE X.K G W (eIfF tc fa fb)) :=
  (pe_ifExp hc ha hb).imp fun σ H Q h => te_bindT h fun B Z Φ ρ1 H1 b k q => by
    cases b with
    | true => exact iteT ⟨B, Z, Φ, ρ1, k, q⟩
    | false => exact iteF ⟨B, Z, Φ, ρ1, k, q⟩

/-! ### chains -/
def chK (g' : D → D → Option PV) (fc : Ev) (pb : PV) : PV × Rho → R (PV × Rho)
  | (.fz (.bl true), ρ3) => (fc ρ3).bind fun (pc, ρ4) => opV g' pb pc ρ4
  | (.fz (.bl false), ρ3) => .ok (.fz (.bl false), ρ3)
  | _ => .no
def eChain (g g' : D → D → Option PV) (fa fb fc : Ev) : Ev := fun ρ => (fa ρ).bind fun (pa, ρ1) => (fb ρ1).bind fun (pb, ρ2) => (opV g pa pb ρ2).bind (chK g' fc pb)
theorem opV_some {g : D → D → Option PV} {pa pb : PV} {ρ : Rho} : (opV g pa pb ρ = .no) ∨ ∃ da db pv, look ρ pa = some da ∧ look ρ pb = some db ∧ g da db = some pv ∧ opV g pa pb ρ = .ok (pv, ρ) := by
  unfold opV
  cases la : look ρ pa with
  | none => exact .inl rfl
  | some da =>
    cases lb : look ρ pb with
    | none => exact .inl rfl
    | some db =>
      cases hg : g da db with
      | none => left; simp only [hg]
      | some pv => right; exact ⟨da, db, pv, rfl, rfl, hg, by simp only [hg]⟩
theorem te_chain {K : PySem.W.Frag} {r r' : R2} {g g' : D → D → Option PV} {fa fb fc : Ev} (S : OpS K G r g) (S' : OpS K G r' g') {σ : L2.St} {H : Hp} {Q : VK} (h : tE K G W (eChain g g' fa fb fc) σ H Q) : tChain r r' (tE K G W fa) (tE K G W fb) (tE K G W fc) σ H Q := by
  refine te_bind h fun B Z Φ ρ1 H1 x pa k r1 q => ?_
  obtain ⟨Z2, e2, k2, r2⟩ := k.pend r1
  dsimp only at q
  cases hb : fb ρ1 with
  | no => rw [hb] at q; exact q.elim
  | exc x => rw [hb] at q; exact ⟨B, Z2, Φ, ρ1, k2, by rw [hb]; exact PostX.ext q e2⟩
  | ok p =>
    obtain ⟨pb, ρ2⟩ := p
    rw [hb] at q
    refine ⟨B, Z2, Φ, ρ1, k2, ?_⟩
    rw [hb]
    intro Z3 H3 y e3 k3 r3
    obtain ⟨Z4, e4, k4, r4⟩ := k3.pend r3
    have r2' := r2.mono (e3.trans e4).1
    change PostE K G W B Z Φ σ Q ((opV g pa pb ρ2).bind _) at q
    rcases opV_some (g := g) (pa := pa) (pb := pb) (ρ := ρ2) with e | ⟨da, db, pv, la, lb, hg, e⟩
    · rw [e] at q; exact q.elim
    · rw [e] at q
      refine S Z4 H3 da db x y pv _ k4.zh (k4.pk r2' la) (k4.pk r4 lb) hg fun Z' H' v st => ?_
      obtain ⟨f1, f2, f3⟩ := st.ok k4
      have e24 := e2.trans ((e3.trans e4).trans f1)
      change PostE K G W B Z Φ σ Q (chK g' fc pb (pv, ρ2)) at q
      unfold chK at q
      split at q
      · rename_i ρ' ee
        cases ee
        refine ⟨true, f3, iteT ⟨B, Z', Φ, ρ2, f2, ?_⟩⟩
        cases hc : fc ρ2 with
        | no => rw [hc] at q; exact q.elim
        | exc x => rw [hc] at q; exact PostX.ext q e24
        | ok p =>
          obtain ⟨pc, ρ4⟩ := p
          rw [hc] at q
          intro Z5 H5 w e5 k5 r5
          obtain ⟨Z6, e6, k6, r6⟩ := k5.pend r5
          have r4' := (r4.mono f1.1).mono (e5.trans e6).1
          change PostE K G W B Z Φ σ Q (opV g' pb pc ρ4) at q
          rcases opV_some (g := g') (pa := pb) (pb := pc) (ρ := ρ4) with e | ⟨da', db', pv', la', lb', hg', e⟩
          · rw [e] at q; exact q.elim
          · rw [e] at q
            refine S' Z6 H5 da' db' y w pv' Q k6.zh (k6.pk r4' la') (k6.pk r6 lb') hg' fun Z7 H7 v7 st7 => ?_
            obtain ⟨g1, g2, g3⟩ := st7.ok k6
            exact q Z7 H7 v7 (e24.trans ((e5.trans e6).trans g1)) g2 g3
      · rename_i ρ' ee
        cases ee
        exact ⟨false, f3, iteF (q Z' H' _ e24 f2 rfl)⟩
      · exact q.elim
theorem re_chain {op op' : CmpOp} {r r' : R2} {g g' : D → D → Option PV} {fa fb fc : Ev} (ho : OpR X (compareOp op) r) (ho' : OpR X (compareOp op') r') (S : OpS X.K G r g) (S' : OpS X.K G r' g') (ha : PE X a (tE X.K G W fa)) (hb : PE X b (tE X.K G W fb)) (hc : PE X c (tE X.K G W fc))
    (hm : lastMarks [op, op'] [b, c] = false := by with_unfolding_all rfl) : PE X (.Compare a [op, op'] [b, c] pos) (tE X.K G W (eChain g g' fa fb fc)) := (pe_chain ho ho' ha hb hc hm).imp fun _ _ _ h => te_chain S S' h
theorem rt_chain {op op' : CmpOp} {r r' : R2} {g g' : D → D → Option PV} {fa fb fc : Ev} (ho : OpR X (compareOp op) r) (ho' : OpR X (compareOp op') r') (S : OpS X.K G r g) (S' : OpS X.K G r' g') (ha : PE X a (tE X.K G W fa)) (hb : PE X b (tE X.K G W fb)) (hc : PE X c (tE X.K G W fc))
    (hm : lastMarks [op, op'] [b, c] = false := by with_unfolding_all rfl) : PT X (.Compare a [op, op'] [b, c] pos) (tT X.K G W (tOf (eChain g g' fa fb fc))) := (pt_chain ho ho' ha hb hc hm).imp fun _ _ _ h => te_chain S S' (tt_of h)

/-! ### arguments, displays -/
def aNil : Ea := fun ρ => .ok ([], ρ)
def aCons (f : Ev) (fr : Ea) : Ea := fun ρ => (f ρ).bind fun (pv, ρ1) => match useV pv ρ1 with
  | some (d, ρ2) => (fr ρ2).bind fun (ds, ρ3) => .ok (d :: ds, ρ3)
  | none => .no
theorem ra_nil : PA X [] (tA X.K G W aNil) := pa_nil.imp fun σ H Q h => by
  obtain ⟨B, Z, Φ, ρ, k, h⟩ := h
  exact h Z H [] Ext.refl k rfl
theorem ra_cons {f : Ev} {fr : Ea} {es : List Expr} (he : PE X a (tE X.K G W f)) (hr : PA X es (tA X.K G W fr)) (hs : starEach (a :: es) X.env = (false, eval a X.env) :: starEach es X.env := by rfl) : PA X (a :: es) (tA X.K G W (aCons f fr)) :=
  (pa_cons he hr hs).imp fun σ H Q h => by
    obtain ⟨B, Z, Φ, ρ, k, h⟩ := h
    refine ⟨B, Z, Φ, ρ, k, ?_⟩
    unfold aCons at h
    cases ha : f ρ with
    | no => rw [ha] at h; exact h.elim
    | exc x => rw [ha] at h; exact h
    | ok p =>
      obtain ⟨pa, ρ1⟩ := p
      rw [ha] at h
      intro Z1 H1 x e1 k1 r1
      change PostA X.K G W B Z Φ σ Q (match useV pa ρ1 with | some (d, ρ2) => (fr ρ2).bind fun (ds, ρ3) => .ok (d :: ds, ρ3) | none => .no) at h
      cases hu : useV pa ρ1 with
      | none => rw [hu] at h; exact h.elim
      | some p =>
        obtain ⟨d, ρ2⟩ := p
        rw [hu] at h
        obtain ⟨Z2, e2, k2, r2⟩ := k1.use r1 hu
        refine ⟨B, Z2, Φ, ρ2, k2, ?_⟩
        have e12 := e1.trans e2
        change PostA X.K G W B Z Φ σ Q ((fr ρ2).bind fun (ds, ρ3) => .ok (d :: ds, ρ3)) at h
        cases hf : fr ρ2 with
        | no => rw [hf] at h; exact h.elim
        | exc x => rw [hf] at h; exact PostX.ext h e12
        | ok p =>
          obtain ⟨ds, ρ3⟩ := p
          rw [hf] at h
          intro Z3 H3 vs e3 k3 r3
          exact h Z3 H3 (x :: vs) (e12.trans e3) k3 ⟨x, vs, rfl, Rep.mono e3.1 _ _ r2, r3⟩
def eTup (fa : Ea) : Ev := fun ρ => (fa ρ).bind fun (ds, ρ1) => if szOk ds.length then .ok (.fz (.tup ds), ρ1) else .no
def eLst (fa : Ea) : Ev := fun ρ => (fa ρ).bind fun (ds, ρ1) => if szOk ds.length then .ok (.fr ds, ρ1) else .no
theorem re_tup {fa : Ea} {es : List Expr} {x1} (h : PA X es (tA X.K G W fa)) : PE X (.Tuple es x1 pos) (tE X.K G W (eTup fa)) := (pe_tup h).imp fun σ H Q h => by
  refine te_bindA h fun B Z Φ ρ1 H1 vs ds k r q => ?_
  dsimp only at q
  split at q
  · rename_i hz
    refine ⟨by rw [← r.length]; exact szOk_le hz, fun p hp => ?_⟩
    obtain ⟨f1, f2, f3⟩ := (Stp.newZ (K := X.K) (G := G) (d := .tup ds) (o := .tup vs) hp ⟨p, vs, rfl, .inl (.inl upd_same), RepL.mono (same_newZ (Same.none k.zh hp)) _ _ r⟩).ok k
    exact q _ _ _ f1 f2 f3
  · exact q.elim
theorem re_lst {fa : Ea} {es : List Expr} (h : PA X es (tA X.K G W fa)) : PE X (.List es pos) (tE X.K G W (eLst fa)) := (pe_lst h).imp fun σ H Q h => by
  refine te_bindA h fun B Z Φ ρ1 H1 vs ds k r q => ?_
  dsimp only at q
  split at q
  · rename_i hz
    refine ⟨by rw [← r.length]; exact szOk_le hz, fun p hp => ?_⟩
    obtain ⟨f1, f2, f3⟩ := (Stp.newF (K := X.K) (G := G) hp r).ok k
    exact q _ _ _ f1 f2 f3
  · exact q.elim

/-! ### built-ins -/
section
variable {id T : String} {x : Str} {p : Pos} {r : List V → Hp → VK → Prop} {e e2 : Expr}
theorem re_b1 {g : D → Option PV} {f : Ev} (hc : CallR X (.builtin id) r) (S : UnS X.K G (fun x H Q => r [x] H Q) g) (hg : Gl X x) (hm : X.mg x = none) (hv : bootBuiltins x = some (.builtin id)) (ha : PE X e (tE X.K G W f)) (hn : x ≠ "__name__" := by decide) (hdb : (x == ("__debug__" : Str)) = false := by decide)
    (hs : starEach [e] X.env = (false, eval e X.env) :: starEach [] X.env := by rfl) (hpl : (backTo pos (starEach [] X.env)).any (·.1) = false := by rfl) : PE X (.Call (.Name x p) [e] [] pos) (tE X.K G W (eU g f)) :=
  (pe_callB hc hg hm hv (pa_cons ha pa_nil hs) hn hdb hs hpl).imp fun σ H Q h => te_un S h
theorem re_t1 {g : D → Option PV} {f : Ev} (hc : CallR X (.type T) r) (S : UnS X.K G (fun x H Q => r [x] H Q) g) (hg : Gl X x) (hm : X.mg x = none) (hv : bootBuiltins x = some (.type T)) (ha : PE X e (tE X.K G W f)) (hn : x ≠ "__name__" := by decide) (hdb : (x == ("__debug__" : Str)) = false := by decide)
    (hs : starEach [e] X.env = (false, eval e X.env) :: starEach [] X.env := by rfl) (hpl : (backTo pos (starEach [] X.env)).any (·.1) = false := by rfl) : PE X (.Call (.Name x p) [e] [] pos) (tE X.K G W (eU g f)) :=
  (pe_callTy hc hg hm hv (pa_cons ha pa_nil hs) hn hdb hs hpl).imp fun σ H Q h => te_un S h
theorem re_b2 {g : D → D → Option PV} {f f2 : Ev} (hc : CallR X (.builtin id) r) (S : OpS X.K G (fun x y H Q => r [x, y] H Q) g) (hg : Gl X x) (hm : X.mg x = none) (hv : bootBuiltins x = some (.builtin id)) (ha : PE X e (tE X.K G W f)) (hb : PE X e2 (tE X.K G W f2)) (hn : x ≠ "__name__" := by decide)
    (hdb : (x == ("__debug__" : Str)) = false := by decide) (hs1 : starEach [e2] X.env = (false, eval e2 X.env) :: starEach [] X.env := by rfl) (hs : starEach [e, e2] X.env = (false, eval e X.env) :: starEach [e2] X.env := by rfl) (hpl : (backTo pos (starEach [e2] X.env)).any (·.1) = false := by rfl) :
    PE X (.Call (.Name x p) [e, e2] [] pos) (tE X.K G W (eOp g f f2)) := (pe_callB hc hg hm hv (pa_cons ha (pa_cons hb pa_nil hs1) hs) hn hdb hs hpl).imp fun σ H Q h => te_op S h
/-- isinstance(e, T) -/
theorem re_isi {f : Ev} (T : Tyn) {y : Str} {p2 : Pos} (hg : Gl X "isinstance") (hm : X.mg "isinstance" = none) (hg2 : Gl X y) (hm2 : X.mg y = none) (hv2 : bootBuiltins y = some (.type T.n)) (ha : PE X e (tE X.K G W f)) (hn : y ≠ "__name__" := by decide) (hdb : (y == ("__debug__" : Str)) = false := by decide)
    (hs1 : starEach [.Name y p2] X.env = (false, eval (.Name y p2) X.env) :: starEach [] X.env := by rfl) (hs : starEach [e, .Name y p2] X.env = (false, eval e X.env) :: starEach [.Name y p2] X.env := by rfl) (hpl : (backTo pos (starEach [.Name y p2] X.env)).any (·.1) = false := by rfl) :
    PE X (.Call (.Name "isinstance" p) [e, .Name y p2] [] pos) (tE X.K G W (eU (gIsi T) f)) :=
  (pe_callB call_isi hg hm (by decide +kernel) (pa_cons ha (pa_cons (pe_bltn (v := .ty T.n) hg2 hm2 hv2 rfl hn hdb) pa_nil hs1) hs) (by decide) (by decide) hs hpl).imp fun σ H Q h => te_un (uns_isi T) h
end

/-! ### slices -/
def cutD (xs : List D) (lo hi : Option Int) : List D := (xs.drop (HT.sIx xs.length 0 lo)).take (HT.sIx xs.length xs.length hi - HT.sIx xs.length 0 lo)
theorem cut_rep {K : PySem.W.Frag} {Z : Hp} {xs : List D} {vs : List V} (h : RepL K G Z xs vs) (lo hi : Option Int) : RepL K G Z (cutD xs lo hi) (cutV vs lo hi) := by
  unfold cutD cutV
  rw [h.length]
  exact (h.drop _).take _
def gSl : D → Option Int → Option Int → Option PV
  | .tup xs, lo, hi => some (.fz (.tup (cutD xs lo hi)))
  | .lst xs, lo, hi => some (.fr (cutD xs lo hi))
  | .lck xs, lo, hi => some (.fr (cutD xs lo hi))
  | _, _, _ => none
def SlS (K : PySem.W.Frag) (G : Wd) (r : V → Option Int → Option Int → Hp → VK → Prop) (g : D → Option Int → Option Int → Option PV) : Prop := ∀ (Z H : Hp) (da : D) (x : V) (lo hi : Option Int) (pv : PV) (Q : VK), Same Z H → Pk K G Z H da x → g da lo hi = some pv →
  (∀ Z' H' v, Stp K G Z H pv v Z' H' → Q v H') → r x lo hi H Q
abbrev rSl (K : PySem.W.Frag) : V → Option Int → Option Int → Hp → VK → Prop := fun x lo hi H Q => rSlA K x lo hi H Q ∨ rSlL K x lo hi H Q
theorem slr_any : SlR X (rSl X.K) := sl_tupA.or sl_list
theorem sls_any {K : PySem.W.Frag} : SlS K G (rSl K) gSl := by
  intro Z H da x lo hi pv Q s ha hg q
  unfold gSl at hg
  split at hg
  · rename_i xs
    cases hg
    obtain ⟨a, vs, rfl, sa, ra⟩ := pk_tup ha
    refine .inl ⟨a, vs, rfl, Same.seqT s sa, fun hw => q _ _ _ (.same ⟨a, vs, rfl, sa, ?_⟩), fun _ p hp => q _ _ _ (.newZ hp ⟨p, _, rfl, .inl (.inl upd_same), RepL.mono (same_newZ (Same.none s hp)) _ _ (cut_rep ra lo hi)⟩)⟩
    have e : cutD xs lo hi = xs := by
      unfold cutD
      rw [ra.length, hw.1, hw.2, List.drop_zero, ← ra.length, Nat.sub_zero, List.take_length]
    rw [e]
    exact ra
  · cases hg
    obtain ⟨a, vs, rfl, sa, ra⟩ := ha.lst s
    exact .inr ⟨a, vs, rfl, .inl (.inl sa), fun p hp => q _ _ _ (.newF hp (cut_rep ra _ _))⟩
  · cases hg
    obtain ⟨a, vs, rfl, sa, ra⟩ := Pk.rep ha (by intro _ e; cases e)
    exact .inr ⟨a, vs, rfl, s.seq sa, fun p hp => q _ _ _ (.newF hp (cut_rep ra _ _))⟩
  · cases hg
/-- a part of a slice: none, or an int -/
abbrev Eo := Rho → R (Option Int × Rho)
def oNone : Eo := fun ρ => .ok (none, ρ)
def iOf : PV × Rho → R (Option Int × Rho)
  | (.fz (.int i), ρ) => .ok (some i, ρ)
  | _ => .no
def oSome (f : Ev) : Eo := fun ρ => (f ρ).bind iOf
def slK (pa : PV) (lo : Option Int) : Option Int × Rho → R (PV × Rho) := fun p => match look p.2 pa with
  | some d => match gSl d lo p.1 with
    | some pv => .ok (pv, p.2)
    | none => .no
  | none => .no
def eSl (fa : Ev) (fl fh : Eo) : Ev := fun ρ => (fa ρ).bind fun (pa, ρ1) => (fl ρ1).bind fun (lo, ρ2) => (fh ρ2).bind (slK pa lo)
def PostO (K : PySem.W.Frag) (G : Wd) (W : WX) (B : L2.St) (Z Φ : Hp) (σ : L2.St) (Q : Option Int → Hp → Prop) : R (Option Int × Rho) → Prop
  | .ok (o, ρ') => ∀ Z' H', Ext Z Φ Z' → Ok K G B Z' Φ σ ρ' H' → Q o H'
  | .exc x => PostX G W Z Φ σ x
  | .no => False
def tO (K : PySem.W.Frag) (G : Wd) (W : WX) (f : Eo) : TO := fun σ H Q => ∃ B Z Φ ρ, Ok K G B Z Φ σ ρ H ∧ PostO K G W B Z Φ σ Q (f ρ)
theorem _root_.L2.PO.imp {e : Option Expr} {t t' : TO} (h : PO X e t) (k : ∀ σ H Q, t' σ H Q → t σ H Q) : PO X e t' := ⟨fun pins s σ H Q I q => h.run pins s σ H Q I (k σ H Q q)⟩
theorem ro_none : PO X none (tO X.K G W oNone) := po_none.imp fun σ H Q h => by
  obtain ⟨B, Z, Φ, ρ, k, h⟩ := h
  exact h Z H Ext.refl k
theorem ro_some {f : Ev} {e : Expr} (he : PE X e (tE X.K G W f)) : PO X (some e) (tO X.K G W (oSome f)) := (po_some he).imp fun σ H Q h => by
  obtain ⟨B, Z, Φ, ρ, k, h⟩ := h
  refine ⟨B, Z, Φ, ρ, k, ?_⟩
  unfold oSome at h
  cases ha : f ρ with
  | no => rw [ha] at h; exact h.elim
  | exc x => rw [ha] at h; exact h
  | ok p =>
    obtain ⟨pa, ρ1⟩ := p
    rw [ha] at h
    intro Z1 H1 x e1 k1 r1
    change PostO X.K G W B Z Φ σ Q (iOf (pa, ρ1)) at h
    unfold iOf at h
    split at h
    · rename_i i ρ' e
      cases e
      exact ⟨i, r1, h Z1 H1 e1 k1⟩
    · exact h.elim
theorem re_sl {fa : Ev} {fl fh : Eo} {e : Expr} {lo hi : Option Expr} {p2 : Pos} (he : PE X e (tE X.K G W fa)) (hl : PO X lo (tO X.K G W fl)) (hh : PO X hi (tO X.K G W fh)) : PE X (.Subscript e (.Slice lo hi none p2) pos) (tE X.K G W (eSl fa fl fh)) :=
  (pe_slice slr_any he hl hh).imp fun σ H Q h => by
    refine te_bind h fun B Z Φ ρ1 H1 x pa k r q => ?_
    obtain ⟨Z2, e2, k2, r2⟩ := k.pend r
    refine ⟨B, Z2, Φ, ρ1, k2, ?_⟩
    dsimp only at q
    cases hl : fl ρ1 with
    | no => rw [hl] at q; exact q.elim
    | exc x => rw [hl] at q; exact PostX.ext q e2
    | ok p =>
      obtain ⟨lo, ρ2⟩ := p
      rw [hl] at q
      intro Z3 H3 e3 k3
      refine ⟨B, Z3, Φ, ρ2, k3, ?_⟩
      change PostE X.K G W B Z Φ σ Q ((fh ρ2).bind _) at q
      cases hh : fh ρ2 with
      | no => rw [hh] at q; exact q.elim
      | exc x => rw [hh] at q; exact PostX.ext q (e2.trans e3)
      | ok p =>
        obtain ⟨hi, ρ3⟩ := p
        rw [hh] at q
        intro Z4 H4 e4 k4
        have r4 := r2.mono (e3.trans e4).1
        change PostE X.K G W B Z Φ σ Q (slK pa lo (hi, ρ3)) at q
        unfold slK at q
        dsimp only at q
        cases la : look ρ3 pa with
        | none => rw [la] at q; exact q.elim
        | some d =>
          rw [la] at q
          cases hg : gSl d lo hi with
          | none => simp only [hg] at q; exact q.elim
          | some pv =>
            simp only [hg] at q
            refine sls_any Z4 H4 d x lo hi pv Q k4.zh (k4.pk r4 la) hg fun Z' H' v st => ?_
            obtain ⟨f1, f2, f3⟩ := st.ok k4
            exact q Z' H' v ((e2.trans (e3.trans e4)).trans f1) f2 f3
end
end Rf
end
section
set_option Elab.async false
set_option linter.all false
set_option maxRecDepth 100000
set_option maxHeartbeats 4000000
/-! Rf, part E: calls of defs. -/
namespace Rf
open PySem PySem.Spec PyProof.Rows L2

/-- what a def is worth: its data in, its data out (frozen, or a new list) -/
abbrev Fn := List D → R PV
/-- .. whose first argument is a list that it changes -/
abbrev FnB := List D → List D → R (PV × List D)
def RetP (K : PySem.W.Frag) (G : Wd) (Z Φ H : Hp) : PV → V → Prop
  | .fz d, v => Rep K G Z d v
  | .fr xs, v => ∃ a vs, v = .ref a ∧ H a = some (.lst vs) ∧ RepL K G Z xs vs ∧ Z a = none ∧ Φ a = none
  | .at _, _ => False
def PostF (K : PySem.W.Frag) (G : Wd) (Z Φ : Hp) (Q : VK) (E : XK) : R PV → Prop
  | .ok pv => ∀ Z' H' v, Ext Z Φ Z' → Same Z' H' → Same Φ H' → RetP K G Z' Φ H' pv v → Q v H'
  | .exc x => ∀ Z' H' cls d, Ext Z Φ Z' → Same Z' H' → Same Φ H' → RepX G H' x cls d → E cls d H'
  | .no => False
def spF (K : PySem.W.Frag) (G : Wd) (n : Nat) (F : Fn) : Sp := fun vs H Q E => ∃ Z Φ ds, Same Z H ∧ Same Φ H ∧ RepL K G Z ds vs ∧ ds.length = n ∧ PostF K G Z Φ Q E (F ds)
def RetB (K : PySem.W.Frag) (G : Wd) (Z Φ H : Hp) (b : Addr) : PV → V → Prop
  | .fz d, v => Rep K G Z d v
  | .fr xs, v => ∃ a vs, v = .ref a ∧ H a = some (.lst vs) ∧ RepL K G Z xs vs ∧ Z a = none ∧ Φ a = none ∧ a ≠ b
  | .at _, _ => False
def PostB (K : PySem.W.Frag) (G : Wd) (Z Φ : Hp) (a : Addr) (Q : VK) : R (PV × List D) → Prop
  | .ok (pv, xs) => ∀ Z' H' v vs, Ext Z Φ Z' → Same Z' H' → Same Φ H' → H' a = some (.lst vs) → RepL K G Z' xs vs → Z' a = none → RetB K G Z' Φ H' a pv v → Q v H'
  | .exc _ => False
  | .no => False
def spB (K : PySem.W.Frag) (G : Wd) (n : Nat) (F : FnB) : Sp := fun vs H Q E => ∃ Z Φ a ws vs' xs ds, vs = .ref a :: ws ∧ H a = some (.lst vs') ∧ RepL K G Z xs vs' ∧ Z a = none ∧ Φ a = none ∧ Same Z H ∧ Same Φ H ∧ RepL K G Z ds ws ∧ ds.length + 1 = n ∧ PostB K G Z Φ a Q (F xs ds)
theorem spF_len {K : PySem.W.Frag} {G : Wd} {n : Nat} {F : Fn} {ps : List Str} (e : ps.length = n) : ∀ vs H Q E, spF K G n F vs H Q E → vs.length = ps.length := fun vs H Q E h => by
  obtain ⟨Z, Φ, ds, _, _, r, l, _⟩ := h
  rw [← r.length, l, e]
theorem spB_len {K : PySem.W.Frag} {G : Wd} {n : Nat} {F : FnB} {ps : List Str} (e : ps.length = n) : ∀ vs H Q E, spB K G n F vs H Q E → vs.length = ps.length := fun vs H Q E h => by
  obtain ⟨Z, Φ, a, ws, vs', xs, ds, rfl, _, _, _, _, _, _, r, l, _⟩ := h
  rw [List.length_cons, ← r.length, l, e]

section
variable {K : PySem.W.Frag} {G : Wd} {B : L2.St} {Z Z' Φ H H' : Hp} {σ : L2.St} {ρ ρ' : Rho}
open Classical in
/-- the frame for a callee: ours, and our own lists, but the one at b -/
noncomputable def frm (Φ H : Hp) (σ : L2.St) (ρ : Rho) (b : Option Addr) : Hp := fun c => if (∃ (i : Nat) (k : Bool) (xs : List D), ρ[i]? = some (Cell.ow k xs) ∧ σ[i]? = some (some (V.ref c))) ∧ b ≠ some c then H c else Φ c
theorem frm_own {b : Option Addr} {c : Addr} {i : Nat} {k : Bool} {xs : List D} (h1 : ρ[i]? = some (Cell.ow k xs)) (h2 : σ[i]? = some (some (V.ref c))) (h3 : b ≠ some c) : frm Φ H σ ρ b c = H c := by
  unfold frm
  rw [if_pos ⟨⟨i, k, xs, h1, h2⟩, h3⟩]
theorem frm_cases {b : Option Addr} {c : Addr} : (frm Φ H σ ρ b c = H c ∧ (∃ (i : Nat) (k : Bool) (xs : List D), ρ[i]? = some (Cell.ow k xs) ∧ σ[i]? = some (some (V.ref c))) ∧ b ≠ some c) ∨
    (frm Φ H σ ρ b c = Φ c ∧ ¬ ((∃ (i : Nat) (k : Bool) (xs : List D), ρ[i]? = some (Cell.ow k xs) ∧ σ[i]? = some (some (V.ref c))) ∧ b ≠ some c)) := by
  unfold frm
  by_cases h : (∃ (i : Nat) (k : Bool) (xs : List D), ρ[i]? = some (Cell.ow k xs) ∧ σ[i]? = some (some (V.ref c))) ∧ b ≠ some c
  · rw [if_pos h]
    exact .inl ⟨rfl, h⟩
  · rw [if_neg h]
    exact .inr ⟨rfl, h⟩
theorem Ok.frm (k : Ok K G B Z Φ σ ρ H) (b : Option Addr) : Same (frm Φ H σ ρ b) H := fun c o e => by
  rcases frm_cases (Φ := Φ) (H := H) (σ := σ) (ρ := ρ) (b := b) (c := c) with ⟨h, _⟩ | ⟨h, _⟩
  · rw [h] at e; exact e
  · rw [h] at e; exact k.fh _ _ e
theorem Ok.frm_sub (k : Ok K G B Z Φ σ ρ H) (b : Option Addr) : Same Φ (Rf.frm Φ H σ ρ b) := fun c o e => by
  rcases frm_cases (Φ := Φ) (H := H) (σ := σ) (ρ := ρ) (b := b) (c := c) with ⟨h, _⟩ | ⟨h, _⟩
  · rw [h]; exact k.fh _ _ e
  · rw [h]; exact e
theorem Ok.frm_none (k : Ok K G B Z Φ σ ρ H) {b : Option Addr} {c : Addr} (e : Rf.frm Φ H σ ρ b c = none) : Φ c = none := by
  cases q : Φ c with
  | none => rfl
  | some o =>
    rw [k.frm_sub b c o q] at e
    cases e
theorem Ok.frm_notown (k : Ok K G B Z Φ σ ρ H) {b : Option Addr} {c : Addr} (e : Rf.frm Φ H σ ρ b c = none) (hb : b ≠ some c) (i : Nat) (kk : Bool) (ys : List D) (h1 : ρ[i]? = some (.ow kk ys)) (h2 : σ[i]? = some (some (.ref c))) : False := by
  rw [frm_own h1 h2 hb] at e
  obtain ⟨a, vs, f1, f2, _⟩ := k.ow i kk ys h1
  rw [h2] at f1
  cases f1
  rw [e] at f2
  cases f2
theorem Ext.frm (k : Ok K G B Z Φ σ ρ H) {b : Option Addr} (e : Ext Z (Rf.frm Φ H σ ρ b) Z') : Ext Z Φ Z' := ⟨e.1, fun c o h => (e.2 c o h).elim .inl fun z => .inr (k.frm_none z)⟩
/-- behind a callee that leaves our lists alone -/
theorem Ok.after (k : Ok K G B Z Φ σ ρ H) (e : Ext Z (Rf.frm Φ H σ ρ none) Z') (zh : Same Z' H') (fh : Same (Rf.frm Φ H σ ρ none) H') : Ok K G B Z' Φ σ ρ H' where
  zh := zh
  fh := (k.frm_sub none).trans fh
  len := k.len
  fz := fun i d h => by
    obtain ⟨v, e1, r⟩ := k.fz i d h
    exact ⟨v, e1, Rep.mono e.1 _ _ r⟩
  ow := fun i b xs h => by
    obtain ⟨a, vs, e1, e2, r, z1, z2⟩ := k.ow i b xs h
    have ef : Rf.frm Φ H σ ρ none a = H a := frm_own h e1 (by intro z; cases z)
    refine ⟨a, vs, e1, fh a _ (by rw [ef, e2]), RepL.mono e.1 _ _ r, ?_, z2⟩
    cases q : Z' a with
    | none => rfl
    | some o =>
      rcases e.2 a o q with z | z
      · rw [z1] at z; cases z
      · rw [ef, e2] at z; cases z
  ne := k.ne
  bw := k.bw
  lb := k.lb
theorem RetP.repP (k : Ok K G B Z Φ σ ρ H) {pv : PV} {v : V} (r : RetP K G Z' (Rf.frm Φ H σ ρ none) H' pv v) : RepP K G Z' Φ σ ρ H' pv v := by
  cases pv with
  | fz d => exact r
  | fr xs =>
    obtain ⟨a, vs, e, h, q, z, f⟩ := r
    exact ⟨a, vs, e, h, q, z, k.frm_none f, fun i b ys h1 h2 => k.frm_notown f (by intro z; cases z) i b ys h1 h2⟩
  | «at» i => exact r.elim
/-- behind a callee that changed the list of slot j -/
theorem Ok.afterB (k : Ok K G B Z Φ σ ρ H) {j : Nat} {c : Bool} {xs ys : List D} {a : Addr} {vs : List V} (hj : ρ[j]? = some (.ow c xs)) (ha : σ[j]? = some (some (.ref a))) (e : Ext Z (Rf.frm Φ H σ ρ (some a)) Z') (zh : Same Z' H') (fh : Same (Rf.frm Φ H σ ρ (some a)) H')
    (h1 : H' a = some (.lst vs)) (h2 : RepL K G Z' ys vs) (h3 : Z' a = none) : Ok K G B Z' Φ σ (ρ.set j (.ow c ys)) H' where
  zh := zh
  fh := (k.frm_sub _).trans fh
  len := by rw [List.length_set]; exact k.len
  fz := fun i d h => by
    rcases get_set_cases h with ⟨_, h⟩ | ⟨_, h⟩
    · cases h
    · obtain ⟨v, e1, r⟩ := k.fz i d h
      exact ⟨v, e1, Rep.mono e.1 _ _ r⟩
  ow := fun i b zs h => by
    rcases get_set_cases h with ⟨hi, h'⟩ | ⟨hi, h⟩
    · subst hi
      cases h'
      refine ⟨a, vs, ha, h1, h2, h3, ?_⟩
      obtain ⟨a', _, e1, _, _, _, z2⟩ := k.ow i _ _ hj
      rw [ha] at e1
      cases e1
      exact z2
    · obtain ⟨a', vs', e1, e2, r, z1, z2⟩ := k.ow i b zs h
      have hne : some a ≠ some a' := fun z => k.ne i j b c zs xs a' hi h hj e1 (by rw [ha, Option.some.inj z])
      have ef : Rf.frm Φ H σ ρ (some a) a' = H a' := frm_own h e1 hne
      refine ⟨a', vs', e1, fh a' _ (by rw [ef, e2]), RepL.mono e.1 _ _ r, ?_, z2⟩
      cases q : Z' a' with
      | none => rfl
      | some o =>
        rcases e.2 a' o q with z | z
        · rw [z1] at z; cases z
        · rw [ef, e2] at z; cases z
  ne := fun i l b b' us ws w hne q1 q2 s1 s2 => by
    rcases get_set_cases q1 with ⟨i1, _⟩ | ⟨i1, p1⟩
    · subst i1
      rcases get_set_cases q2 with ⟨i2, _⟩ | ⟨i2, p2⟩
      · exact hne i2.symm
      · exact k.ne i l _ _ _ _ w hne hj p2 s1 s2
    · rcases get_set_cases q2 with ⟨i2, _⟩ | ⟨i2, p2⟩
      · subst i2
        exact k.ne i l _ _ _ _ w hne p1 hj s1 s2
      · exact k.ne i l _ _ _ _ w hne p1 p2 s1 s2
  bw := fun i us h => by
    rcases get_set_cases h with ⟨hi, h'⟩ | ⟨hi, h⟩
    · subst hi
      cases h'
      exact k.bw i _ hj
    · exact k.bw i us h
  lb := k.lb
theorem RetB.repP (k : Ok K G B Z Φ σ ρ H) {j : Nat} {c : Bool} {xs ys : List D} {a : Addr} (hj : ρ[j]? = some (.ow c xs)) (ha : σ[j]? = some (some (.ref a))) {pv : PV} {v : V} (r : RetB K G Z' (Rf.frm Φ H σ ρ (some a)) H' a pv v) : RepP K G Z' Φ σ (ρ.set j (.ow c ys)) H' pv v := by
  cases pv with
  | fz d => exact r
  | fr zs =>
    obtain ⟨b, vs, e, h, q, z, f, nb⟩ := r
    refine ⟨b, vs, e, h, q, z, k.frm_none f, fun i bb us h1 h2 => ?_⟩
    rcases get_set_cases h1 with ⟨hi, h1⟩ | ⟨hi, h1⟩
    · subst hi
      rw [ha] at h2
      cases h2
      exact nb rfl
    · exact k.frm_notown f (fun z => nb (Option.some.inj z).symm) i bb us h1 h2
  | «at» i => exact r.elim
end

def pvOk : PV → Bool
  | .at _ => false
  | _ => true
def callK (ρ : Rho) : R PV → R (PV × Rho)
  | .ok pv => .ok (pv, ρ)
  | .exc x => .exc x
  | .no => .no
def eCall (n : Nat) (F : Fn) (dd : List D) (fa : Ea) : Ev := fun ρ => (fa ρ).bind fun (ds, ρ1) => if (ds ++ dd).length == n then callK ρ1 (F (ds ++ dd)) else .no
def callB (j : Nat) (c : Bool) (ρ : Rho) : R (PV × List D) → R (PV × Rho)
  | .ok (pv, xs) => .ok (pv, ρ.set j (.ow c xs))
  | _ => .no
def callBK (j n : Nat) (F : FnB) : List D × Rho → R (PV × Rho) := fun p => match p.2[j]? with
  | some (.ow c xs) => if p.1.length + 1 == n then callB j c p.2 (F xs p.1) else .no
  | _ => .no
def eCallB (j n : Nat) (F : FnB) (fa : Ea) : Ev := fun ρ => match ρ[j]? with
  | some (.ow _ _) => (fa ρ).bind (callBK j n F)
  | _ => .no
section
variable {K : PySem.W.Frag} {G : Wd} {W : WX} {σ : L2.St} {H : Hp} {Q : VK}
theorem RepX.mk {x : Xc} {c : Value} {d : Option Addr} (h : RepX G H x c d) : RepX G H x c d := h
theorem te_call {n : Nat} {F : Fn} {dd : List D} {dvs : List V} {fa : Ea} (hd : ∀ Z, RepL K G Z dd dvs) (h : tE K G W (eCall n F dd fa) σ H Q) : tA K G W fa σ H (fun vs H1 => spF K G n F (vs ++ dvs) H1 Q (WE W σ)) := by
  refine te_bindA h fun B Z Φ ρ1 H1 vs ds k r q => ?_
  dsimp only at q
  split at q
  · rename_i hl
    refine ⟨Z, Rf.frm Φ H1 σ ρ1 none, ds ++ dd, k.zh, k.frm none, r.append (hd Z), eq_of_beq hl, ?_⟩
    cases hF : F (ds ++ dd) with
    | no => rw [hF] at q; exact q.elim
    | exc x =>
      rw [hF] at q
      exact fun Z' H' cls d e zh fh rx => q Z' H' cls d (Ext.frm k e) zh ((k.frm_sub none).trans fh) rx
    | ok pv =>
      rw [hF] at q
      exact fun Z' H' v e zh fh rp => q Z' H' v (Ext.frm k e) (k.after e zh fh) (RetP.repP k rp)
  · exact q.elim
theorem te_callB {j n : Nat} {F : FnB} {fa : Ea} {E : XK} (h : tE K G W (eCallB j n F fa) σ H Q) : tVar j σ H (fun x H0 => tA K G W fa σ H0 (fun vs H1 => spB K G n F (x :: vs ++ []) H1 Q E)) := by
  obtain ⟨B, Z, Φ, ρ, k, h⟩ := h
  unfold eCallB at h
  split at h
  · rename_i c0 xs0 hj0
    obtain ⟨a, vs0, e1, _⟩ := k.ow _ _ _ hj0
    refine ⟨.ref a, e1, ?_⟩
    have h' : tE K G W (fun ρ => (fa ρ).bind (callBK j n F)) σ H Q := ⟨B, Z, Φ, ρ, k, h⟩
    refine te_bindA h' fun B Z Φ ρ1 H1 vs ds k r q => ?_
    unfold callBK at q
    dsimp only at q
    split at q
    · rename_i c xs hj
      split at q
      · rename_i hl
        obtain ⟨a', ws, f1, f2, f3, f4, f5⟩ := k.ow _ _ _ hj
        rw [e1] at f1
        cases f1
        refine ⟨Z, Rf.frm Φ H1 σ ρ1 (some a), a, vs, ws, xs, ds, by rw [List.append_nil], f2, f3, f4, ?_, k.zh, k.frm _, r, eq_of_beq hl, ?_⟩
        · rcases frm_cases (Φ := Φ) (H := H1) (σ := σ) (ρ := ρ1) (b := some a) (c := a) with ⟨_, _, z⟩ | ⟨z, _⟩
          · exact absurd rfl z
          · rw [z]; exact f5
        · cases hF : F xs ds with
          | no => rw [hF] at q; exact q.elim
          | exc x => rw [hF] at q; exact q.elim
          | ok p =>
            obtain ⟨pv, ys⟩ := p
            rw [hF] at q
            exact fun Z' H' v us e zh fh g1 g2 g3 g4 => q Z' H' v (Ext.frm k e) (k.afterB hj e1 e zh fh g1 g2 g3) (RetB.repP k hj e1 g4)
      · exact q.elim
    · exact q.elim
  · exact h.elim
end

section
variable {X : Cx} {G : Wd} {W : WX} {k : Nat} {f : Addr} {fd : FuncData} {ps : List Str} {ds : List Value} {x : Str} {p pos : Pos} {e : Expr} {es : List Expr}
/-- f(e, ..) -/
theorem re_call {n : Nat} {F : Fn} {dd : List D} {dvs : List V} {fa : Ea} (Fo : FnOk X.prog X.w X.K X.mg X.base (L2.CX X.prog X.w) k f fd ps (spF X.K G n F)) (hr : Room k X.A) (hg : Gl X x) (hm : X.mg x = some (.ref f)) (hk : PySem.W.keepIn X.K (.ref f) = true) (hb : Binds X.K fd ps ds) (hd : Vals dvs ds)
    (hdd : ∀ Z, RepL X.K G Z dd dvs) (tk : Takes X W) (ha : PA X (e :: es) (tA X.K G W fa)) (hdb : (x == ("__debug__" : Str)) = false := by decide) (he : starEach (e :: es) X.env = (false, eval e X.env) :: starEach es X.env := by rfl) (hpl : (backTo pos (starEach es X.env)).any (·.1) = false := by rfl) :
    PE X (.Call (.Name x p) (e :: es) [] pos) (tE X.K G W (eCall n F dd fa)) := (pe_callSD Fo hr hg hm hk hb hd (passAt tk) ha hdb he hpl).imp fun σ H Q h => te_call hdd h
/-- f(s, e, ..), s the name of a list of our own that f changes -/
theorem re_callB {n j : Nat} {F : FnB} {fa : Ea} {y : Str} {py : Pos} (Fo : FnOk X.prog X.w X.K X.mg X.base (L2.CX X.prog X.w) k f fd ps (spB X.K G n F)) (hr : Room k X.A) (hg : Gl X x) (hm : X.mg x = some (.ref f)) (hk : PySem.W.keepIn X.K (.ref f) = true) (hb : Binds X.K fd ps []) (tk : Takes X W)
    (hN : X.N[j]? = some y) (hv : Vis X.env.scope y) (ha : PA X es (tA X.K G W fa)) (hdb : (x == ("__debug__" : Str)) = false := by decide) (hd : (y == ("__debug__" : Str)) = false := by decide) (hcd : (y == ("__classdict__" : Str)) = false := by decide)
    (he : starEach (.Name y py :: es) X.env = (false, eval (.Name y py) X.env) :: starEach es X.env := by rfl) (hpl : (backTo pos (starEach es X.env)).any (·.1) = false := by rfl) :
    PE X (.Call (.Name x p) (.Name y py :: es) [] pos) (tE X.K G W (eCallB j n F fa)) :=
  (pe_callSD (dvs := []) (ds := []) Fo hr hg hm hk hb .nil (passAt tk) (pa_cons (pe_var hN hv hd hcd) ha he) hdb he hpl).imp fun σ H Q h => te_callB h

/-! ### a call of a local name that holds a def -/
def callDK (tab : Nat → Option (Nat × Fn)) (j : Nat) : List D × Rho → R (PV × Rho) := fun p => match p.2[j]? with
  | some (.fz (.fn m)) => match tab m with
    | some (n, F) => if p.1.length == n then callK p.2 (F p.1) else .no
    | none => .no
  | _ => .no
def eCallD (tab : Nat → Option (Nat × Fn)) (j : Nat) (fa : Ea) : Ev := fun ρ => match ρ[j]? with
  | some (.fz (.fn m)) => match tab m with
    | some (n, F) => (fa ρ).bind fun (ds, ρ1) => if ds.length == n then callK ρ1 (F ds) else .no
    | none => .no
  | _ => .no
structure Held' (X : Cx) (G : Wd) (k m n : Nat) (F : Fn) : Prop where
  ex : ∃ (fd : FuncData) (ps : List Str), FnOk X.prog X.w X.K X.mg X.base (L2.CX X.prog X.w) k (G.fnA m) fd ps (spF X.K G n F) ∧ PySem.W.keepIn X.K (.ref (G.fnA m)) = true ∧ Binds X.K fd ps []
theorem re_callD {tab : Nat → Option (Nat × Fn)} {j : Nat} {fa : Ea} (A : ∀ m n F, tab m = some (n, F) → Held' X G k m n F) (hr : Room k X.A) (hN : X.N[j]? = some x) (hv : Vis X.env.scope x) (tk : Takes X W) (ha : PA X (e :: es) (tA X.K G W fa))
    (hdb : (x == ("__debug__" : Str)) = false := by decide) (hcd : (x == ("__classdict__" : Str)) = false := by decide)
    (he : starEach (e :: es) X.env = (false, eval e X.env) :: starEach es X.env := by rfl) (hpl : (backTo pos (starEach es X.env)).any (·.1) = false := by rfl) : PE X (.Call (.Name x p) (e :: es) [] pos) (tE X.K G W (eCallD tab j fa)) := by
  refine ⟨fun pins s σ H Q I h => ?_⟩
  obtain ⟨B, Z, Φ, ρ, ok, h⟩ := h
  unfold eCallD at h
  split at h
  · rename_i m hj
    obtain ⟨v, hs, rv⟩ := ok.fz _ _ hj
    cases (show v = .ref (G.fnA m) from rv)
    split at h
    · rename_i n F ht
      obtain ⟨fd, ps, Fo, hk, hb⟩ := (A m n F ht).ex
      refine wpAny_Call_Name_kw (thn ((pe_var (pos := p) hN hv hdb hcd).run pins s σ H (fun v H1 => v = .ref (G.fnA m) ∧ H1 = H) I ⟨.ref (G.fnA m), hs, rfl, rfl⟩) fun u s1 ⟨v, H1, I1, r1, q1⟩ => ?_)
      obtain ⟨rfl, rfl⟩ := q1
      cases r1
      have h' : tE X.K G W (eCall n F [] fa) σ H1 Q := by
        refine ⟨B, Z, Φ, ρ, ok, ?_⟩
        unfold eCall
        simp only [List.append_nil]
        exact h
      have h2 := te_call (dvs := []) (fun Z => (show RepL X.K G Z [] [] from rfl)) h'
      refine PySem.W.callWith_K (h₀ := X.base) I.ok.mod.kin hk (thn (ha.run pos pins s1 σ _ _ I1 h2) fun us s2 ⟨vs, H2, I2, r, q⟩ => ⟨I2.kIn, ?_⟩) he hpl
      exact run_fnSD (dvs := []) (ds := []) (E := WE W) Fo hr hb .nil (passAt tk σ) I2 r q
    · exact h.elim
  · exact h.elim
end
end Rf
end
section
set_option Elab.async false
set_option linter.all false
set_option maxRecDepth 100000
set_option maxHeartbeats 4000000
/-! Rf, part F: targets, what is walked, comprehensions. -/
namespace Rf
open PySem PySem.Spec PyProof.Rows L2

section
variable {K : PySem.W.Frag} {G : Wd} {B : L2.St} {Z Z' Φ H H' : Hp} {σ σ' : L2.St} {ρ ρ' : Rho} {i : Nat} {v : V} {d : D}
def fixed : Option Cell → Bool
  | some (.ow true _) => true
  | _ => false
/-- slot i becomes c -/
def setR (i : Nat) (c : Cell) (ρ : Rho) : Option Rho := if fixed ρ[i]? || !Nat.blt i ρ.length then none else some (ρ.set i c)
theorem setR_some {c : Cell} (h : setR i c ρ = some ρ') : (∀ xs, ρ[i]? ≠ some (.ow true xs)) ∧ i < ρ.length ∧ ρ' = ρ.set i c := by
  unfold setR at h
  split at h
  · cases h
  · rename_i hc
    cases h
    simp only [Bool.not_eq_true, Bool.or_eq_false_iff, Bool.not_eq_false'] at hc
    refine ⟨fun xs e => ?_, Nat.lt_of_succ_le (Nat.le_of_ble_eq_true hc.2), rfl⟩
    rw [e] at hc
    cases hc.1
theorem get_set_self {α : Type} {l : List α} {i : Nat} {x : α} (h : i < l.length) : (l.set i x)[i]? = some x := List.getElem?_set_self h
theorem Ok.set (k : Ok K G B Z Φ σ ρ H) (h : setR i (.fz d) ρ = some ρ') (r : Rep K G Z d v) : Ok K G B Z Φ (σ.set i (some v)) ρ' H := by
  obtain ⟨hf, hl, rfl⟩ := setR_some h
  have hl' : i < σ.length := by rw [k.len]; exact hl
  refine ⟨k.zh, k.fh, by rw [List.length_set, List.length_set]; exact k.len, fun j e q => ?_, fun j b xs q => ?_, fun j l b c xs ys a hne q1 q2 s1 s2 => ?_, fun j xs q => ?_, by rw [List.length_set]; exact k.lb⟩
  · rcases get_set_cases q with ⟨z, q1⟩ | ⟨z, q1⟩
    · subst z
      cases q1
      exact ⟨v, get_set_self hl', r⟩
    · rw [List.getElem?_set_ne (Ne.symm z)]
      exact k.fz j e q1
  · rcases get_set_cases q with ⟨z, q1⟩ | ⟨z, q1⟩
    · cases q1
    · rw [List.getElem?_set_ne (Ne.symm z)]
      exact k.ow j b xs q1
  · rcases get_set_cases q1 with ⟨_, p1⟩ | ⟨z1, p1⟩
    · cases p1
    · rcases get_set_cases q2 with ⟨_, p2⟩ | ⟨z2, p2⟩
      · cases p2
      · rw [List.getElem?_set_ne (Ne.symm z1)] at s1
        rw [List.getElem?_set_ne (Ne.symm z2)] at s2
        exact k.ne j l b c xs ys a hne p1 p2 s1 s2
  · rcases get_set_cases q with ⟨_, p⟩ | ⟨z, p⟩
    · cases p
    · rw [List.getElem?_set_ne (Ne.symm z)]
      exact k.bw j xs p
theorem Ok.setF {xs : List D} (k : Ok K G B Z Φ σ ρ H) (h : setR i (.ow false xs) ρ = some ρ') (r : RepP K G Z Φ σ ρ H (.fr xs) v) : Ok K G B Z Φ (σ.set i (some v)) ρ' H := by
  obtain ⟨hf, hl, rfl⟩ := setR_some h
  have hl' : i < σ.length := by rw [k.len]; exact hl
  obtain ⟨a, vs, rfl, h1, h2, h3, h4, h5⟩ := r
  refine ⟨k.zh, k.fh, by rw [List.length_set, List.length_set]; exact k.len, fun j e q => ?_, fun j b xs q => ?_, fun j l b c xs ys a' hne q1 q2 s1 s2 => ?_, fun j xs q => ?_, by rw [List.length_set]; exact k.lb⟩
  · rcases get_set_cases q with ⟨z, q1⟩ | ⟨z, q1⟩
    · cases q1
    · rw [List.getElem?_set_ne (Ne.symm z)]
      exact k.fz j e q1
  · rcases get_set_cases q with ⟨z, q1⟩ | ⟨z, q1⟩
    · subst z
      cases q1
      exact ⟨a, vs, get_set_self hl', h1, h2, h3, h4⟩
    · rw [List.getElem?_set_ne (Ne.symm z)]
      exact k.ow j b xs q1
  · rcases get_set_cases q1 with ⟨z1, p1⟩ | ⟨z1, p1⟩
    · subst z1
      rcases get_set_cases q2 with ⟨z2, p2⟩ | ⟨z2, p2⟩
      · exact hne z2.symm
      · rw [get_set_self hl'] at s1
        cases s1
        rw [List.getElem?_set_ne (Ne.symm z2)] at s2
        exact h5 l c ys p2 s2
    · rcases get_set_cases q2 with ⟨z2, p2⟩ | ⟨z2, p2⟩
      · subst z2
        rw [get_set_self hl'] at s2
        cases s2
        rw [List.getElem?_set_ne (Ne.symm z1)] at s1
        exact h5 j b xs p1 s1
      · rw [List.getElem?_set_ne (Ne.symm z1)] at s1
        rw [List.getElem?_set_ne (Ne.symm z2)] at s2
        exact k.ne j l b c xs ys a' hne p1 p2 s1 s2
  · rcases get_set_cases q with ⟨_, p⟩ | ⟨z, p⟩
    · cases p
    · rw [List.getElem?_set_ne (Ne.symm z)]
      exact k.bw j xs p
/-- slots forgotten -/
def wipeR (ρ : Rho) : List Nat → Rho
  | [] => ρ
  | v :: vs => (wipeR ρ vs).set v .un
theorem wipeR_get {ρ : Rho} {i : Nat} {c : Cell} : ∀ {vs : List Nat}, (wipeR ρ vs)[i]? = some c → c = .un ∨ (ρ[i]? = some c ∧ i ∉ vs)
  | [], h => .inr ⟨h, by simp⟩
  | v :: vs, h => by
    rcases get_set_cases h with ⟨z, q⟩ | ⟨z, q⟩
    · exact .inl q
    · rcases wipeR_get q with q | ⟨q, n⟩
      · exact .inl q
      · exact .inr ⟨q, by simp [z, n]⟩
theorem wipeR_length (ρ : Rho) : ∀ vs : List Nat, (wipeR ρ vs).length = ρ.length
  | [] => rfl
  | v :: vs => by unfold wipeR; rw [List.length_set, wipeR_length ρ vs]
theorem Ok.wipe (k : Ok K G B Z Φ σ ρ H) (vs : List Nat) : Ok K G B Z Φ (L2.wipe σ vs) (wipeR ρ vs) H := by
  refine ⟨k.zh, k.fh, by rw [L2.wipe_length, wipeR_length]; exact k.len, fun j e q => ?_, fun j b xs q => ?_, fun j l b c xs ys a hne q1 q2 s1 s2 => ?_, fun j xs q => ?_, by rw [L2.wipe_length]; exact k.lb⟩
  · rcases wipeR_get q with z | ⟨q, n⟩
    · cases z
    · rw [wipe_out n]; exact k.fz j e q
  · rcases wipeR_get q with z | ⟨q, n⟩
    · cases z
    · rw [wipe_out n]; exact k.ow j b xs q
  · rcases wipeR_get q1 with z | ⟨q1, n1⟩
    · cases z
    · rcases wipeR_get q2 with z | ⟨q2, n2⟩
      · cases z
      · rw [wipe_out n1] at s1
        rw [wipe_out n2] at s2
        exact k.ne j l b c xs ys a hne q1 q2 s1 s2
  · rcases wipeR_get q with z | ⟨q, n⟩
    · cases z
    · rw [wipe_out n]; exact k.bw j xs q
/-- wiped slots, as they were ahead of the block -/
def backR (ρ ρ0 : Rho) : List Nat → Rho
  | [] => ρ
  | v :: vs => (backR ρ ρ0 vs).set v (ρ0[v]?.getD .un)
theorem backR_length (ρ ρ0 : Rho) : ∀ vs : List Nat, (backR ρ ρ0 vs).length = ρ.length
  | [] => rfl
  | v :: vs => by unfold backR; rw [List.length_set, backR_length ρ ρ0 vs]
theorem backR_get {ρ ρ0 : Rho} {i : Nat} {c : Cell} : ∀ {vs : List Nat}, (backR ρ ρ0 vs)[i]? = some c → (i ∈ vs ∧ c = ρ0[i]?.getD .un) ∨ (i ∉ vs ∧ ρ[i]? = some c)
  | [], h => .inr ⟨by simp, h⟩
  | v :: vs, h => by
    rcases get_set_cases h with ⟨z, q⟩ | ⟨z, q⟩
    · subst z
      exact .inl ⟨by simp, q⟩
    · rcases backR_get q with ⟨n, q⟩ | ⟨n, q⟩
      · exact .inl ⟨by simp [n], q⟩
      · exact .inr ⟨by simp [z, n], q⟩
def noOwn (ρ : Rho) : List Nat → Bool
  | [] => true
  | v :: vs => (match ρ[v]? with | some (.ow _ _) => false | _ => true) && noOwn ρ vs
theorem noOwn_get {ρ : Rho} {i : Nat} {b : Bool} {xs : List D} : ∀ {vs : List Nat}, noOwn ρ vs = true → i ∈ vs → ρ[i]? ≠ some (.ow b xs)
  | v :: vs, h, m, e => by
    unfold noOwn at h
    rw [Bool.and_eq_true] at h
    rcases List.mem_cons.mp m with z | m
    · subst z
      rw [e] at h
      cases h.1
    · exact noOwn_get h.2 m e
theorem Ok.back {ρ0 : Rho} {vs : List Nat} (k0 : Ok K G B Z Φ σ ρ0 H) (s : Same Z Z') (k : Ok K G B Z' Φ (L2.wipe σ vs) ρ H') (n : noOwn ρ0 vs = true) : Ok K G B Z' Φ σ (backR ρ ρ0 vs) H' := by
  have un : ∀ {i : Nat} {b : Bool} {xs : List D}, i ∈ vs → ρ0[i]?.getD .un = .ow b xs → False := fun {i b xs} m e => by
    cases q : ρ0[i]? with
    | none => rw [q] at e; cases e
    | some c =>
      rw [q] at e
      exact noOwn_get n m (q.trans (congrArg some e))
  refine ⟨k.zh, k.fh, by rw [backR_length, ← k.len, L2.wipe_length], fun j e q => ?_, fun j b xs q => ?_, fun j l b c xs ys a hne q1 q2 s1 s2 => ?_, fun j xs q => ?_, k0.lb⟩
  · rcases backR_get q with ⟨m, z⟩ | ⟨m, q⟩
    · cases q : ρ0[j]? with
      | none => rw [q] at z; cases z
      | some c =>
        rw [q] at z
        cases z
        obtain ⟨v, e1, r⟩ := k0.fz j e q
        exact ⟨v, e1, Rep.mono s _ _ r⟩
    · rw [← wipe_out m]; exact k.fz j e q
  · rcases backR_get q with ⟨m, z⟩ | ⟨m, q⟩
    · exact (un m z.symm).elim
    · rw [← wipe_out m]; exact k.ow j b xs q
  · rcases backR_get q1 with ⟨m, z⟩ | ⟨m1, q1⟩
    · exact (un m z.symm).elim
    · rcases backR_get q2 with ⟨m, z⟩ | ⟨m2, q2⟩
      · exact (un m z.symm).elim
      · rw [← wipe_out m1] at s1
        rw [← wipe_out m2] at s2
        exact k.ne j l b c xs ys a hne q1 q2 s1 s2
  · rcases backR_get q with ⟨m, z⟩ | ⟨m, q⟩
    · exact (un m z.symm).elim
    · rw [← wipe_out m]; exact k.bw j xs q
end

/-! ### targets -/
inductive Tg where
  | nm (i : Nat) | tp (is : List Nat) | tq (i : Nat) (is : List Nat)
def Tg.vs : Tg → List Nat
  | .nm i => [i]
  | .tp is => is
  | .tq i is => i :: is
def bindL : List Nat → List D → Rho → Option Rho
  | [], [], ρ => some ρ
  | i :: is, d :: ds, ρ => match setR i (.fz d) ρ with
    | some ρ1 => bindL is ds ρ1
    | none => none
  | _, _, _ => none
def bindT : Tg → D → Rho → Option Rho
  | .nm i, d, ρ => setR i (.fz d) ρ
  | .tp is, .tup ds, ρ => bindL is ds ρ
  | .tq i is, .tup [d, .tup ds], ρ => match setR i (.fz d) ρ with
    | some ρ1 => bindL is ds ρ1
    | none => none
  | _, _, _ => none
def gNames : List Nat → TGs
  | [] => gNil
  | i :: is => gCons (gName i) (gNames is)
def tgR (K : PySem.W.Frag) : Tg → TG
  | .nm i => gName i
  | .tp is => L2.gTup K is.length (gNames is)
  | .tq i is => L2.gTup K 2 (gCons (gName i) (gCons (L2.gTup K is.length (gNames is)) gNil))
theorem wipe_set {i : Nat} {x : Option V} : ∀ {vs : List Nat} {σ : L2.St}, i ∈ vs → wipe (σ.set i x) vs = wipe σ vs
  | v :: vs, σ, m => by
    unfold wipe
    by_cases h : i ∈ vs
    · rw [wipe_set h]
    · have e : v = i := by
        rcases List.mem_cons.mp m with z | z
        · exact z.symm
        · exact absurd z h
      subst e
      have : ∀ us : List Nat, wipe (σ.set v x) us = (wipe σ us).set v ((wipe (σ.set v x) us)[v]?.getD none) ∨ wipe (σ.set v x) us = wipe σ us := fun us => by
        induction us with
        | nil =>
          by_cases hv : v < σ.length
          · left
            show σ.set v x = σ.set v (((σ.set v x)[v]?).getD none)
            rw [List.getElem?_set_self hv]
            rfl
          · right
            exact List.set_eq_of_length_le (by omega)
        | cons u us ih =>
          by_cases hu : u = v
          · subst hu
            right
            unfold wipe
            rcases ih with ih | ih
            · rw [ih, List.set_set]
            · rw [ih]
          · rcases ih with ih | ih
            · left
              unfold wipe
              have e2 : ((wipe (σ.set v x) us).set u none)[v]? = (wipe (σ.set v x) us)[v]? := List.getElem?_set_ne hu
              rw [e2]
              conv => lhs; rw [ih]
              rw [List.set_comm _ _ (Ne.symm hu)]
            · right
              unfold wipe
              rw [ih]
      rcases this vs with q | q
      · rw [q, List.set_set]
      · rw [q]
theorem wipe_wipe {σ : L2.St} {us : List Nat} : ∀ {vs : List Nat}, (∀ v ∈ vs, v ∈ us) → wipe (wipe σ vs) us = wipe σ us
  | [], _ => rfl
  | v :: vs, h => by
    show wipe ((wipe σ vs).set v none) us = wipe σ us
    rw [wipe_set (h v List.mem_cons_self), wipe_wipe fun u m => h u (List.mem_cons_of_mem _ m)]
section
variable {K : PySem.W.Frag} {G : Wd} {B : L2.St} {Z Φ H : Hp}
theorem names_ok {vs : List Nat} : ∀ {is : List Nat} {ds : List D} {xs : List V} {σ : L2.St} {ρ ρ' : Rho} {Q : L2.St → Hp → Prop}, Ok K G B Z Φ σ ρ H → RepL K G Z ds xs → bindL is ds ρ = some ρ' → (∀ i ∈ is, i ∈ vs) →
    (∀ σ', Ok K G B Z Φ σ' ρ' H → wipe σ' vs = wipe σ vs → Q σ' H) → gNames is xs σ H Q
  | [], [], xs, σ, ρ, ρ', Q, k, r, h, _, q => by
    cases h
    exact ⟨r, q σ k rfl⟩
  | i :: is, d :: ds, xs, σ, ρ, ρ', Q, k, r, h, m, q => by
    obtain ⟨v, us, rfl, r1, r2⟩ := r
    unfold bindL at h
    split at h
    · rename_i ρ1 h1
      refine ⟨v, us, rfl, names_ok (k.set h1 r1) r2 h (fun j hj => m j (List.mem_cons_of_mem _ hj)) fun σ' k' e => q σ' k' ?_⟩
      rw [e, wipe_set (m i List.mem_cons_self)]
    · cases h
  | [], _ :: _, _, _, _, _, _, _, _, h, _, _ => by cases h
  | _ :: _, [], _, _, _, _, _, _, _, h, _, _ => by cases h
theorem bindL_lenF {ρ' : Rho} : ∀ {is : List Nat} {ds : List D} {ρ : Rho}, bindL is ds ρ = some ρ' → is.length = ds.length := by
  intro is
  induction is with
  | nil => intro ds ρ h; cases ds <;> first | rfl | cases h
  | cons i is ih =>
    intro ds ρ h
    cases ds with
    | nil => cases h
    | cons d ds =>
      unfold bindL at h
      split at h
      · rw [List.length_cons, List.length_cons, ih h]
      · cases h
theorem tg_ok {vs : List Nat} {t : Tg} {d : D} {x : V} {σ : L2.St} {ρ ρ' : Rho} {Q : L2.St → Hp → Prop} (k : Ok K G B Z Φ σ ρ H) (r : Rep K G Z d x) (h : bindT t d ρ = some ρ') (m : ∀ i ∈ t.vs, i ∈ vs) (q : ∀ σ', Ok K G B Z Φ σ' ρ' H → wipe σ' vs = wipe σ vs → Q σ' H) : tgR K t x σ H Q := by
  cases t with
  | nm i => exact q _ (k.set h r) (wipe_set (m i (by simp [Tg.vs])))
  | tp is =>
    cases d with
    | tup ds =>
      obtain ⟨a, us, rfl, sa, ra⟩ := r
      refine ⟨a, us, rfl, Same.seqT k.zh sa, ?_, names_ok k ra h m q⟩
      rw [bindL_lenF h, ra.length]
    | _ => cases h
  | tq i is =>
    unfold bindT at h
    split at h
    · rename_i e; cases e
    · rename_i e; cases e
    · rename_i i' is' d1 ds ρ0 e
      cases e
      obtain ⟨a, us, rfl, sa, ra⟩ := r
      obtain ⟨v1, us1, rfl, r1, ra2⟩ := ra
      obtain ⟨v2, us2, rfl, r2, ra3⟩ := (ra2 : RepL K G Z [_] us1)
      cases (show us2 = [] from ra3)
      obtain ⟨a2, us3, rfl, sa2, ra4⟩ := r2
      split at h
      · rename_i ρ1 h1
        have k1 := k.set h1 r1
        refine ⟨a, _, rfl, Same.seqT k.zh sa, rfl, v1, _, rfl, ?_⟩
        refine (show gCons (L2.gTup K is.length (gNames is)) gNil [.ref a2] _ H Q from ⟨.ref a2, [], rfl, a2, us3, rfl, Same.seqT k.zh sa2, ?_, ?_⟩)
        · rw [bindL_lenF h, ra4.length]
        · exact names_ok k1 ra4 h (fun j hj => m j (by simp [Tg.vs, hj])) fun σ' k' e => ⟨rfl, q σ' k' (by rw [e, wipe_set (m i (by simp [Tg.vs]))])⟩
      · cases h
    · cases h
end

/-! ### what is walked -/
abbrev Ei := Rho → R (List D × Rho)
structure ItOk (K : PySem.W.Frag) (G : Wd) (Z : Hp) (ds : List D) (J : It) : Prop where
  goes : ∀ i H, i < ds.length → Same Z H → J.go i H
  stops : ∀ H, Same Z H → J.stop ds.length H
  yields : ∀ i H x H' d Z1, ds[i]? = some d → Same Z Z1 → Same Z1 H → J.yld i H x H' → ∃ Z2, Stp K G Z1 H (.fz d) x Z2 H'
def PostI (K : PySem.W.Frag) (G : Wd) (W : WX) (B : L2.St) (Z Φ : Hp) (σ : L2.St) (Q : It → Hp → Prop) : R (List D × Rho) → Prop
  | .ok (ds, ρ') => ∀ Z' H' J, Ext Z Φ Z' → Ok K G B Z' Φ σ ρ' H' → ItOk K G Z' ds J → Q J H'
  | .exc x => PostX G W Z Φ σ x
  | .no => False
def tI (K : PySem.W.Frag) (G : Wd) (W : WX) (f : Ei) : TI := fun σ H Q => ∃ B Z Φ ρ, Ok K G B Z Φ σ ρ H ∧ PostI K G W B Z Φ σ Q (f ρ)
theorem _root_.L2.PI.imp {X : Cx} {tg e : Expr} {t t' : TI} (h : PI X tg e t) (k : ∀ σ H Q, t' σ H Q → t σ H Q) : PI X tg e t' := ⟨fun pins s σ H Q I q => h.run pins s σ H Q I (k σ H Q q)⟩
theorem piOr {X : Cx} {tg e : Expr} {t t' : TI} (h : PI X tg e t) (h' : PI X tg e t') : PI X tg e (fun σ H Q => t σ H Q ∨ t' σ H Q) := ⟨fun pins s σ H Q I q => q.elim (h.run pins s σ H Q I) (h'.run pins s σ H Q I)⟩
section
variable {K : PySem.W.Frag} {G : Wd} {W : WX} {B : L2.St} {Z Φ H : Hp} {σ : L2.St}
theorem ti_bindE {fa : Ev} {k : PV × Rho → R (List D × Rho)} {Q : It → Hp → Prop} {P : V → Hp → Prop} (h : tI K G W (fun ρ => (fa ρ).bind k) σ H Q)
    (n : ∀ B Z Φ ρ1 H1 x pa, Ok K G B Z Φ σ ρ1 H1 → RepP K G Z Φ σ ρ1 H1 pa x → PostI K G W B Z Φ σ Q (k (pa, ρ1)) → P x H1) : tE K G W fa σ H P := by
  obtain ⟨B, Z, Φ, ρ, ok, h⟩ := h
  refine ⟨B, Z, Φ, ρ, ok, ?_⟩
  dsimp only at h
  cases ha : fa ρ with
  | no => rw [ha] at h; exact h.elim
  | exc x => rw [ha] at h; exact h
  | ok p =>
    obtain ⟨pa, ρ1⟩ := p
    rw [ha] at h
    intro Z1 H1 x e1 k1 r1
    refine n B Z1 Φ ρ1 H1 x pa k1 r1 ?_
    change PostI K G W B Z Φ σ Q (k (pa, ρ1)) at h
    cases hk : k (pa, ρ1) with
    | no => rw [hk] at h; exact h.elim
    | exc x => rw [hk] at h; exact PostX.ext h e1
    | ok p =>
      rw [hk] at h
      exact fun Z2 H2 v e2 k2 r2 => h Z2 H2 v (e1.trans e2) k2 r2
theorem ti_bindA {fa : Ea} {k : List D × Rho → R (List D × Rho)} {Q : It → Hp → Prop} {P : List V → Hp → Prop} (h : tI K G W (fun ρ => (fa ρ).bind k) σ H Q)
    (n : ∀ B Z Φ ρ1 H1 vs ds, Ok K G B Z Φ σ ρ1 H1 → RepL K G Z ds vs → PostI K G W B Z Φ σ Q (k (ds, ρ1)) → P vs H1) : tA K G W fa σ H P := by
  obtain ⟨B, Z, Φ, ρ, ok, h⟩ := h
  refine ⟨B, Z, Φ, ρ, ok, ?_⟩
  dsimp only at h
  cases ha : fa ρ with
  | no => rw [ha] at h; exact h.elim
  | exc x => rw [ha] at h; exact h
  | ok p =>
    obtain ⟨pa, ρ1⟩ := p
    rw [ha] at h
    intro Z1 H1 vs e1 k1 r1
    refine n B Z1 Φ ρ1 H1 vs pa k1 r1 ?_
    change PostI K G W B Z Φ σ Q (k (pa, ρ1)) at h
    cases hk : k (pa, ρ1) with
    | no => rw [hk] at h; exact h.elim
    | exc x => rw [hk] at h; exact PostX.ext h e1
    | ok p =>
      rw [hk] at h
      exact fun Z2 H2 v e2 k2 r2 => h Z2 H2 v (e1.trans e2) k2 r2
theorem yat {xs : List V} {ds : List D} {i : Nat} {d : D} {Z1 H1 : Hp} {x : V} (r : RepL K G Z ds xs) (e : ds[i]? = some d) (hx : xs[i]? = some x) (s : Same Z Z1) : ∃ Z2, Stp K G Z1 H1 (.fz d) x Z2 H1 := by
  obtain ⟨v, h1, h2⟩ := r.get e
  rw [hx] at h1
  cases h1
  exact ⟨Z1, .same (Rep.mono s _ _ h2)⟩
theorem it_list {a : Addr} {xs : List V} {ds : List D} (q : SqL K Z a xs) (r : RepL K G Z ds xs) : ItOk K G Z ds (Itl K a) where
  goes := fun i H hi s => walk_list.goes i H (by rw [← r.length]; exact hi) (s.seq q)
  stops := fun H s => by rw [r.length]; exact walk_list.stops H (s.seq q)
  yields := fun i H x H' d Z1 e s s1 y => by
    have hi : i < xs.length := by
      rw [← r.length]
      exact (List.getElem?_eq_some_iff.mp e).1
    obtain ⟨rfl, hx⟩ := walk_list.yields i H x H' hi ((s.trans s1).seq q) y
    exact yat r e hx s
theorem it_tup {a : Addr} {xs : List V} {ds : List D} (q : SqT K Z a xs) (r : RepL K G Z ds xs) : ItOk K G Z ds (Itt K a) where
  goes := fun i H hi s => walk_tup.goes i H (by rw [← r.length]; exact hi) (Same.seqT s q)
  stops := fun H s => by rw [r.length]; exact walk_tup.stops H (Same.seqT s q)
  yields := fun i H x H' d Z1 e s s1 y => by
    have hi : i < xs.length := by
      rw [← r.length]
      exact (List.getElem?_eq_some_iff.mp e).1
    obtain ⟨rfl, hx⟩ := walk_tup.yields i H x H' hi (Same.seqT (s.trans s1) q) y
    exact yat r e hx s
def rangeD (lo : Int) (n : Nat) : List D := (List.range n).map fun (i : Nat) => .int (lo + (i : Int))
theorem rangeD_length {lo : Int} {n : Nat} : (rangeD lo n).length = n := by
  unfold rangeD
  rw [List.length_map, List.length_range]
theorem rangeD_get {lo : Int} {n i : Nat} {d : D} (h : (rangeD lo n)[i]? = some d) : i < n ∧ d = .int (lo + i) := by
  unfold rangeD at h
  rw [List.getElem?_map, Option.map_eq_some_iff] at h
  obtain ⟨j, h1, h2⟩ := h
  obtain ⟨h3, h4⟩ := List.getElem?_eq_some_iff.mp h1
  rw [List.getElem_range] at h4
  rw [List.length_range] at h3
  subst h4
  exact ⟨h3, h2.symm⟩
theorem it_range {lo : Int} {n : Nat} : ItOk K G Z (rangeD lo n) (Itr lo n) where
  goes := fun i H hi _ => by rw [rangeD_length] at hi; exact hi
  stops := fun H _ => by rw [rangeD_length]; exact Nat.le_refl _
  yields := fun i H x H' d Z1 e s s1 y => by
    obtain ⟨hi, rfl⟩ := rangeD_get e
    obtain ⟨rfl, rfl⟩ := y
    exact ⟨Z1, .same rfl⟩
def rangeC (lo c : Int) (n : Nat) : List D := (List.range n).map fun (i : Nat) => .int (lo + (i : Int) * c)
theorem rangeC_length {lo c : Int} {n : Nat} : (rangeC lo c n).length = n := by
  unfold rangeC
  rw [List.length_map, List.length_range]
theorem it_rangeC {lo c : Int} {n : Nat} : ItOk K G Z (rangeC lo c n) (Itc lo c n) where
  goes := fun i H hi _ => by rw [rangeC_length] at hi; exact hi
  stops := fun H _ => by rw [rangeC_length]; exact Nat.le_refl _
  yields := fun i H x H' d Z1 h s s1 y => by
    unfold rangeC at h
    rw [List.getElem?_map, Option.map_eq_some_iff] at h
    obtain ⟨j, h1, h2⟩ := h
    obtain ⟨h3, h4⟩ := List.getElem?_eq_some_iff.mp h1
    rw [List.getElem_range] at h4
    subst h4
    subst h2
    obtain ⟨rfl, rfl⟩ := y
    exact ⟨Z1, .same rfl⟩
def zipD : List D → List D → List D
  | a :: as, b :: bs => .tup [a, b] :: zipD as bs
  | _, _ => []
theorem zipD_length : ∀ (as bs : List D), (zipD as bs).length = min as.length bs.length
  | [], bs => by simp [zipD]
  | _ :: _, [] => by simp [zipD]
  | a :: as, b :: bs => by
    show (zipD as bs).length + 1 = min (as.length + 1) (bs.length + 1)
    rw [zipD_length as bs]
    omega
theorem zipD_get : ∀ {as bs : List D} {i : Nat} {d : D}, (zipD as bs)[i]? = some d → ∃ a b, d = .tup [a, b] ∧ as[i]? = some a ∧ bs[i]? = some b
  | [], bs, i, d, h => by simp [zipD] at h
  | _ :: _, [], i, d, h => by simp [zipD] at h
  | a :: as, b :: bs, 0, d, h => by
    have e : D.tup [a, b] = d := by simpa [zipD] using h
    exact ⟨a, b, e.symm, rfl, rfl⟩
  | a :: as, b :: bs, i + 1, d, h => by
    obtain ⟨x, y, h1, h2, h3⟩ := zipD_get (as := as) (bs := bs) (i := i) (d := d) (by simpa [zipD] using h)
    exact ⟨x, y, h1, by simpa using h2, by simpa using h3⟩
theorem pair_stp {x y : V} {a b : D} {T : Addr} {Z1 H1 : Hp} (hT : H1 T = none) (s1 : Same Z1 H1) (ra : Rep K G Z1 a x) (rb : Rep K G Z1 b y) : ∃ Z2, Stp K G Z1 H1 (.fz (.tup [a, b])) (.ref T) Z2 (upd H1 T (.tup [x, y])) :=
  have m : Same Z1 (upd Z1 T (.tup [x, y])) := same_newZ (Same.none s1 hT)
  ⟨_, .newZ hT ⟨T, [x, y], rfl, .inl (.inl upd_same), x, [y], rfl, Rep.mono m _ _ ra, y, [], rfl, Rep.mono m _ _ rb, rfl⟩⟩
theorem it_zipL {a b : Addr} {xs ys : List V} {ds es : List D} (q : SqL K Z a xs) (q2 : SqL K Z b ys) (r : RepL K G Z ds xs) (r2 : RepL K G Z es ys) : ItOk K G Z (zipD ds es) (Itz K a b) where
  goes := fun i H hi s => (walk_zip (n := min xs.length ys.length) rfl).goes i H (by rw [zipD_length, r.length, r2.length] at hi; exact hi) ⟨s.seq q, s.seq q2⟩
  stops := fun H s => by rw [zipD_length, r.length, r2.length]; exact (walk_zip (n := min xs.length ys.length) rfl).stops H ⟨s.seq q, s.seq q2⟩
  yields := fun i H x H' d Z1 e s s1 y => by
    have hi : i < (zipD ds es).length := (List.getElem?_eq_some_iff.mp e).1
    obtain ⟨d1, d2, rfl, e1, e2⟩ := zipD_get e
    rw [zipD_length, r.length, r2.length] at hi
    obtain ⟨T, x1, x2, rfl, hT, rfl, h1, h2⟩ := (walk_zip (n := min xs.length ys.length) rfl).yields i H x H' hi ⟨(s.trans s1).seq q, (s.trans s1).seq q2⟩ y
    obtain ⟨v1, f1, f2⟩ := r.get e1
    obtain ⟨v2, g1, g2⟩ := r2.get e2
    have h1' : xs[i]? = some x1 := h1
    have h2' : ys[i]? = some x2 := h2
    rw [h1'] at f1
    rw [h2'] at g1
    cases f1
    cases g1
    exact pair_stp hT s1 (Rep.mono s _ _ f2) (Rep.mono s _ _ g2)
theorem it_zipT {a b : Addr} {xs ys : List V} {ds es : List D} (q : SqT K Z a xs) (q2 : SqT K Z b ys) (r : RepL K G Z ds xs) (r2 : RepL K G Z es ys) : ItOk K G Z (zipD ds es) (RZ.ItzT K a b) where
  goes := fun i H hi s => by
    rw [zipD_length, r.length, r2.length] at hi
    exact ⟨xs, ys, xs[i]'(by omega), ys[i]'(by omega), Same.seqT s q, Same.seqT s q2, by simp [show i < xs.length by omega], by simp [show i < ys.length by omega]⟩
  stops := fun H s => by
    rw [zipD_length, r.length, r2.length]
    exact ⟨xs, ys, Same.seqT s q, Same.seqT s q2, by omega⟩
  yields := fun i H x H' d Z1 e s s1 y => by
    obtain ⟨d1, d2, rfl, e1, e2⟩ := zipD_get e
    obtain ⟨T, x1, x2, rfl, hT, rfl, h1, h2⟩ := y
    obtain ⟨v1, f1, f2⟩ := r.get e1
    obtain ⟨v2, g1, g2⟩ := r2.get e2
    rw [h1 xs (Same.seqT (s.trans s1) q)] at f1
    rw [h2 ys (Same.seqT (s.trans s1) q2)] at g1
    cases f1
    cases g1
    exact pair_stp hT s1 (Rep.mono s _ _ f2) (Rep.mono s _ _ g2)
def enumD : Nat → List D → List D
  | _, [] => []
  | n, d :: ds => .tup [.int (n : Int), d] :: enumD (n + 1) ds
theorem enumD_length : ∀ (n : Nat) (ds : List D), (enumD n ds).length = ds.length
  | _, [] => rfl
  | n, d :: ds => by
    show (enumD (n + 1) ds).length + 1 = ds.length + 1
    rw [enumD_length (n + 1) ds]
theorem enumD_get : ∀ {n : Nat} {ds : List D} {i : Nat} {d : D}, (enumD n ds)[i]? = some d → ∃ a, d = .tup [.int ((n + i : Nat) : Int), a] ∧ ds[i]? = some a
  | _, [], i, d, h => by simp [enumD] at h
  | n, a :: ds, 0, d, h => by
    have e : D.tup [.int (n : Int), a] = d := by simpa [enumD] using h
    exact ⟨a, e.symm, rfl⟩
  | n, a :: ds, i + 1, d, h => by
    obtain ⟨x, h1, h2⟩ := enumD_get (n := n + 1) (ds := ds) (i := i) (d := d) (by simpa [enumD] using h)
    exact ⟨x, by rw [h1, show n + 1 + i = n + (i + 1) by omega], by simpa using h2⟩
theorem it_enum {a : Addr} {xs : List V} {ds : List D} (q : SqL K Z a xs) (r : RepL K G Z ds xs) : ItOk K G Z (enumD 0 ds) (Ite K a) where
  goes := fun i H hi s => walk_enum.goes i H (by rw [enumD_length, r.length] at hi; exact hi) (s.seq q)
  stops := fun H s => by rw [enumD_length, r.length]; exact walk_enum.stops H (s.seq q)
  yields := fun i H x H' d Z1 e s s1 y => by
    have hi : i < (enumD 0 ds).length := (List.getElem?_eq_some_iff.mp e).1
    obtain ⟨d1, rfl, e1⟩ := enumD_get e
    rw [enumD_length, r.length] at hi
    obtain ⟨T, x1, x2, rfl, hT, rfl, h1, h2⟩ := walk_enum.yields i H x H' hi ((s.trans s1).seq q) y
    obtain ⟨v1, f1, f2⟩ := r.get e1
    have h2' : xs[i]? = some x2 := h2
    rw [h2'] at f1
    cases f1
    cases h1
    refine pair_stp hT s1 ?_ (Rep.mono s _ _ f2)
    rw [Nat.zero_add]
    exact rfl
end
def seqOf : Option (D × Rho) → R (List D × Rho)
  | some (.tup xs, ρ) => .ok (xs, ρ)
  | some (.lst xs, ρ) => .ok (xs, ρ)
  | some (.lck xs, ρ) => .ok (xs, ρ)
  | _ => .no
def iSeq (fa : Ev) : Ei := fun ρ => (fa ρ).bind fun (pa, ρ1) => seqOf (useV pa ρ1)
def rg1 : List D × Rho → R (List D × Rho)
  | ([.int j], ρ) => if decide (-4611686018427387904 ≤ j) && decide (j < 4611686018427387904) then .ok (rangeD 0 j.toNat, ρ) else .no
  | _ => .no
def iRg1 (fa : Ea) : Ei := fun ρ => (fa ρ).bind rg1
def rg2 : List D × Rho → R (List D × Rho)
  | ([.int i, .int j], ρ) => if (decide (-4611686018427387904 ≤ i) && decide (i < 4611686018427387904)) && (decide (-4611686018427387904 ≤ j) && decide (j < 4611686018427387904)) then .ok (rangeD i (j - i).toNat, ρ) else .no
  | _ => .no
def iRg2 (fa : Ea) : Ei := fun ρ => (fa ρ).bind rg2
/-- range(i, j, -1) -/
theorem rgC_two {i j : Int} (ha : -1000000 ≤ i) (ha' : i ≤ 1000000) (hb : -1000000 ≤ j) (hb' : j ≤ 1000000) : RgC i j 2 ((j - i + 1) / 2).toNat := by
  have e : Builtin.Range.rangeSize i j 2 = (((j - i + 1) / 2).toNat : Int) := by
    unfold Builtin.Range.rangeSize
    rw [if_pos (by decide)]
    split <;> omega
  refine ⟨by decide, by decide, ?_, e⟩
  unfold Builtin.Range.small
  rw [e]
  simp only [Builtin.Range.rangeFitsLong, Bool.and_eq_true, Bool.or_eq_true, decide_eq_true_eq, beq_iff_eq, show ((2 : Int) > 0) by decide, if_true]
  omega
def rg3 : List D × Rho → R (List D × Rho)
  | ([.int i, .int j, .int c], ρ) => if ((decide (-4611686018427387904 ≤ i) && decide (i < 4611686018427387904)) && (decide (-4611686018427387904 ≤ j) && decide (j < 4611686018427387904))) && decide (c = -1) then .ok (rangeC i (-1) (i - j).toNat, ρ) else if ((decide (-1000000 ≤ i) && decide (i ≤ 1000000)) && (decide (-1000000 ≤ j) && decide (j ≤ 1000000))) && decide (c = 2) then .ok (rangeC i 2 ((j - i + 1) / 2).toNat, ρ) else .no
  | _ => .no
def iRg3 (fa : Ea) : Ei := fun ρ => (fa ρ).bind rg3
def zp : List D × Rho → R (List D × Rho)
  | ([.tup xs, .tup ys], ρ) => .ok (zipD xs ys, ρ)
  | ([.lst xs, .lst ys], ρ) => .ok (zipD xs ys, ρ)
  | _ => .no
def iZp (fa : Ea) : Ei := fun ρ => (fa ρ).bind zp
def en : List D × Rho → R (List D × Rho)
  | ([.lst xs], ρ) => .ok (enumD 0 xs, ρ)
  | _ => .no
def iEn (fa : Ea) : Ei := fun ρ => (fa ρ).bind en
section
variable {X : Cx} {G : Wd} {W : WX} {tg : Expr} {p pos tpos : Pos} {e e2 : Expr}
theorem ri_seq {fa : Ev} (he : PE X e (tE X.K G W fa)) : PI X tg e (tI X.K G W (iSeq fa)) := (piOr (pi_list he) (pi_tup he)).imp fun σ H Q h => by
  have key : tE X.K G W fa σ H (fun x H1 => (∃ a, x = .ref a ∧ (∃ xs, SqL X.K H1 a xs) ∧ Q (Itl X.K a) H1) ∨ (∃ a, x = .ref a ∧ (∃ xs, SqT X.K H1 a xs) ∧ Q (Itt X.K a) H1)) := by
    refine ti_bindE h fun B Z Φ ρ1 H1 x pa k r q => ?_
    dsimp only at q
    cases hu : useV pa ρ1 with
    | none => rw [hu] at q; exact q.elim
    | some t =>
      obtain ⟨d, ρ2⟩ := t
      rw [hu] at q
      obtain ⟨Z2, e2, k2, r2⟩ := k.use r hu
      unfold seqOf at q
      split at q
      · rename_i xs ρ' ee
        cases ee
        obtain ⟨a, vs, rfl, sa, ra⟩ := r2
        exact .inr ⟨a, rfl, ⟨vs, Same.seqT k2.zh sa⟩, q Z2 H1 _ e2 k2 (it_tup sa ra)⟩
      · rename_i xs ρ' ee
        cases ee
        obtain ⟨a, vs, rfl, sa, ra⟩ := r2
        exact .inl ⟨a, rfl, ⟨vs, .inl (.inl (k2.zh _ _ sa))⟩, q Z2 H1 _ e2 k2 (it_list (.inl (.inl sa)) ra)⟩
      · rename_i xs ρ' ee
        cases ee
        obtain ⟨a, vs, rfl, sa, ra⟩ := r2
        exact .inl ⟨a, rfl, ⟨vs, k2.zh.seq sa⟩, q Z2 H1 _ e2 k2 (it_list sa ra)⟩
      · exact q.elim
  -- the two ways are one: which one is told by the data
  obtain ⟨B, Z, Φ, ρ, ok, h0⟩ := h
  unfold iSeq at h0
  cases ha : fa ρ with
  | no => rw [ha] at h0; exact h0.elim
  | exc x => rw [ha] at h0; exact .inl ⟨B, Z, Φ, ρ, ok, by rw [ha]; exact h0⟩
  | ok t =>
    obtain ⟨pa, ρ1⟩ := t
    rw [ha] at h0
    change PostI X.K G W B Z Φ σ Q (seqOf (useV pa ρ1)) at h0
    cases hu : useV pa ρ1 with
    | none => rw [hu] at h0; exact h0.elim
    | some t =>
      obtain ⟨d, ρ2⟩ := t
      rw [hu] at h0
      unfold seqOf at h0
      split at h0
      · rename_i xs ρ' ee
        cases ee
        refine .inr ⟨B, Z, Φ, ρ, ok, ?_⟩
        rw [ha]
        intro Z1 H1 v e1 k1 r1
        obtain ⟨Z2, e2, k2, r2⟩ := k1.use r1 hu
        obtain ⟨a, vs, rfl, sa, ra⟩ := r2
        exact ⟨a, rfl, ⟨vs, Same.seqT k2.zh sa⟩, h0 Z2 H1 _ (e1.trans e2) k2 (it_tup sa ra)⟩
      · rename_i xs ρ' ee
        cases ee
        refine .inl ⟨B, Z, Φ, ρ, ok, ?_⟩
        rw [ha]
        intro Z1 H1 v e1 k1 r1
        obtain ⟨Z2, e2, k2, r2⟩ := k1.use r1 hu
        obtain ⟨a, vs, rfl, sa, ra⟩ := r2
        exact ⟨a, rfl, ⟨vs, .inl (.inl (k2.zh _ _ sa))⟩, h0 Z2 H1 _ (e1.trans e2) k2 (it_list (.inl (.inl sa)) ra)⟩
      · rename_i xs ρ' ee
        cases ee
        refine .inl ⟨B, Z, Φ, ρ, ok, ?_⟩
        rw [ha]
        intro Z1 H1 v e1 k1 r1
        obtain ⟨Z2, e2, k2, r2⟩ := k1.use r1 hu
        obtain ⟨a, vs, rfl, sa, ra⟩ := r2
        exact ⟨a, rfl, ⟨vs, k2.zh.seq sa⟩, h0 Z2 H1 _ (e1.trans e2) k2 (it_list sa ra)⟩
      · exact h0.elim
theorem ri_range1 {fa : Ea} (hg : Gl X "range") (hm : X.mg "range" = none) (ha : PA X [e] (tA X.K G W fa)) (hs : starEach [e] X.env = [(false, eval e X.env)] := by rfl) : PI X tg (.Call (.Name "range" p) [e] [] pos) (tI X.K G W (iRg1 fa)) :=
  (pi_range1 hg hm ha hs).imp fun σ H Q h => by
    refine ti_bindA h fun B Z Φ ρ1 H1 vs ds k r q => ?_
    unfold rg1 at q
    split at q
    · rename_i j ρ' ee
      cases ee
      split at q
      · rename_i hc
        simp only [Bool.and_eq_true, decide_eq_true_eq] at hc
        obtain ⟨v, us, rfl, r1, r2⟩ := r
        cases (show v = .int j from r1)
        cases (show us = [] from r2)
        exact ⟨j, rfl, by omega, by omega, q Z H1 _ Ext.refl k it_range⟩
      · exact q.elim
    · exact q.elim
theorem ri_range2 {fa : Ea} (hg : Gl X "range") (hm : X.mg "range" = none) (ha : PA X [e, e2] (tA X.K G W fa)) (hs : starEach [e, e2] X.env = [(false, eval e X.env), (false, eval e2 X.env)] := by rfl) (hs2 : starEach [e2] X.env = [(false, eval e2 X.env)] := by rfl) :
    PI X tg (.Call (.Name "range" p) [e, e2] [] pos) (tI X.K G W (iRg2 fa)) := (pi_range2 hg hm ha hs hs2).imp fun σ H Q h => by
    refine ti_bindA h fun B Z Φ ρ1 H1 vs ds k r q => ?_
    unfold rg2 at q
    split at q
    · rename_i i j ρ' ee
      cases ee
      split at q
      · rename_i hc
        simp only [Bool.and_eq_true, decide_eq_true_eq] at hc
        obtain ⟨v, us, rfl, r1, u, ws, rfl, r2, r3⟩ := r
        cases (show v = .int i from r1)
        cases (show u = .int j from r2)
        cases (show ws = [] from r3)
        exact ⟨i, j, rfl, by omega, q Z H1 _ Ext.refl k it_range⟩
      · exact q.elim
    · exact q.elim
theorem ri_range3 {e3 : Expr} {fa : Ea} (hg : Gl X "range") (hm : X.mg "range" = none) (ha : PA X [e, e2, e3] (tA X.K G W fa)) (hs : starEach [e, e2, e3] X.env = (false, eval e X.env) :: starEach [e2, e3] X.env := by rfl) (hpl : (backTo pos (starEach [e2, e3] X.env)).any (·.1) = false := by rfl) :
    PI X tg (.Call (.Name "range" p) [e, e2, e3] [] pos) (tI X.K G W (iRg3 fa)) := (pi_range3 hg hm ha hs hpl).imp fun σ H Q h => by
    refine ti_bindA h fun B Z Φ ρ1 H1 vs ds k r q => ?_
    unfold rg3 at q
    split at q
    · rename_i i j c ρ' ee
      cases ee
      split at q
      · rename_i hc
        simp only [Bool.and_eq_true, decide_eq_true_eq] at hc
        obtain ⟨v, us, rfl, r1, u, ws, rfl, r2, w, zs, rfl, r3, r4⟩ := r
        cases (show v = .int i from r1)
        cases (show u = .int j from r2)
        cases (show w = .int c from r3)
        cases (show zs = [] from r4)
        obtain ⟨hb, rfl⟩ := hc
        exact ⟨i, j, -1, _, rfl, RgC.neg (by omega) (by omega) (by omega) (by omega), q Z H1 _ Ext.refl k it_rangeC⟩
      · split at q
        · rename_i hc
          simp only [Bool.and_eq_true, decide_eq_true_eq] at hc
          obtain ⟨v, us, rfl, r1, u, ws, rfl, r2, w, zs, rfl, r3, r4⟩ := r
          cases (show v = .int i from r1)
          cases (show u = .int j from r2)
          cases (show w = .int c from r3)
          cases (show zs = [] from r4)
          obtain ⟨⟨⟨b1, b2⟩, b3, b4⟩, rfl⟩ := hc
          exact ⟨i, j, 2, _, rfl, rgC_two b1 b2 b3 b4, q Z H1 _ Ext.refl k it_rangeC⟩
        · exact q.elim
    · exact q.elim
theorem ri_zip {fa : Ea} {elts : List Expr} {kk : Nat} (hg : Gl X "zip") (hm : X.mg "zip" = none) (ha : PA X [e, e2] (tA X.K G W fa)) (hs : starEach [e, e2] X.env = (false, eval e X.env) :: starEach [e2] X.env := by rfl) (hpl : (backTo pos (starEach [e2] X.env)).any (·.1) = false := by rfl) :
    PI X (.Tuple elts kk tpos) (.Call (.Name "zip" p) [e, e2] [] pos) (tI X.K G W (iZp fa)) := (RZ.pi_zipA hg hm ha hs hpl).imp fun σ H Q h => by
    refine ti_bindA h fun B Z Φ ρ1 H1 vs ds k r q => ?_
    unfold zp at q
    split at q
    · rename_i xs ys ρ' ee
      cases ee
      obtain ⟨v, us, rfl, r1, u, ws, rfl, r2, r3⟩ := r
      obtain ⟨a, as, rfl, sa, ra⟩ := r1
      obtain ⟨b, bs, rfl, sb, rb⟩ := r2
      cases (show ws = [] from r3)
      exact ⟨a, b, as, bs, rfl, .inr ⟨Same.seqT k.zh sa, Same.seqT k.zh sb, q Z H1 _ Ext.refl k (it_zipT sa sb ra rb)⟩⟩
    · rename_i xs ys ρ' ee
      cases ee
      obtain ⟨v, us, rfl, r1, u, ws, rfl, r2, r3⟩ := r
      obtain ⟨a, as, rfl, sa, ra⟩ := r1
      obtain ⟨b, bs, rfl, sb, rb⟩ := r2
      cases (show ws = [] from r3)
      exact ⟨a, b, as, bs, rfl, .inl ⟨.inl (.inl (k.zh _ _ sa)), .inl (.inl (k.zh _ _ sb)), q Z H1 _ Ext.refl k (it_zipL (.inl (.inl sa)) (.inl (.inl sb)) ra rb)⟩⟩
    · exact q.elim
theorem ri_enum {fa : Ea} {elts : List Expr} {kk : Nat} (hg : Gl X "enumerate") (hm : X.mg "enumerate" = none) (ha : PA X [e] (tA X.K G W fa)) (hs : starEach [e] X.env = [(false, eval e X.env)] := by rfl) :
    PI X (.Tuple elts kk tpos) (.Call (.Name "enumerate" p) [e] [] pos) (tI X.K G W (iEn fa)) := (pi_enum hg hm ha hs).imp fun σ H Q h => by
    refine ti_bindA h fun B Z Φ ρ1 H1 vs ds k r q => ?_
    unfold en at q
    split at q
    · rename_i xs ρ' ee
      cases ee
      obtain ⟨v, us, rfl, r1, r2⟩ := r
      obtain ⟨a, as, rfl, sa, ra⟩ := r1
      cases (show us = [] from r2)
      exact ⟨a, as, rfl, .inl (.inl (k.zh _ _ sa)), q Z H1 _ Ext.refl k (it_enum (.inl (.inl sa)) ra)⟩
    · exact q.elim
end
end Rf
end
section
set_option Elab.async false
set_option linter.all false
set_option maxRecDepth 100000
set_option maxHeartbeats 4000000
/-! Rf, part G: comprehensions, statements. -/
namespace Rf
open PySem PySem.Spec PyProof.Rows L2

section
variable {K : PySem.W.Frag} {G : Wd} {W : WX} {B : L2.St} {Z Z' Φ H H' : Hp} {σ : L2.St} {ρ ρ' : Rho}
theorem te_bindI {fi : Ei} {k : List D × Rho → R (PV × Rho)} {Q : VK} {P : It → Hp → Prop} (h : tE K G W (fun ρ => (fi ρ).bind k) σ H Q)
    (n : ∀ B Z Φ ρ1 H1 J ds, Ok K G B Z Φ σ ρ1 H1 → ItOk K G Z ds J → PostE K G W B Z Φ σ Q (k (ds, ρ1)) → P J H1) : tI K G W fi σ H P := by
  obtain ⟨B, Z, Φ, ρ, ok, h⟩ := h
  refine ⟨B, Z, Φ, ρ, ok, ?_⟩
  dsimp only at h
  cases ha : fi ρ with
  | no => rw [ha] at h; exact h.elim
  | exc x => rw [ha] at h; exact h
  | ok p =>
    obtain ⟨pa, ρ1⟩ := p
    rw [ha] at h
    intro Z1 H1 J e1 k1 r1
    refine n B Z1 Φ ρ1 H1 J pa k1 r1 ?_
    change PostE K G W B Z Φ σ Q (k (pa, ρ1)) at h
    cases hk : k (pa, ρ1) with
    | no => rw [hk] at h; exact h.elim
    | exc x => rw [hk] at h; exact PostX.ext h e1
    | ok p =>
      rw [hk] at h
      exact fun Z2 H2 v e2 k2 r2 => h Z2 H2 v (e1.trans e2) k2 r2
/-- a new object of nobody's, under guard -/
theorem Ok.newP {p : Addr} {o : HO} (k : Ok K G B Z Φ σ ρ H) (h : H p = none) : Ok K G B Z (upd Φ p o) σ ρ (upd H p o) := by
  have k' := k.newF (o := o) h
  refine ⟨k'.zh, same_upd1 k'.fh upd_same, k'.len, k'.fz, fun i b xs e => ?_, k'.ne, k'.bw, k'.lb⟩
  obtain ⟨a, vs, e1, e2, r, z1, z2⟩ := k.ow i b xs e
  have hne : a ≠ p := ne_of_none e2 h
  exact ⟨a, vs, e1, by rw [upd_ne hne]; exact e2, r, z1, by rw [upd_ne hne]; exact z2⟩
/-- .. it changes -/
theorem Ok.updP {p : Addr} {o o' : HO} (k : Ok K G B Z (upd Φ p o) σ ρ H) (hz : Z p = none) : Ok K G B Z (upd Φ p o') σ ρ (upd H p o') := by
  refine ⟨fun b u e => ?_, fun b u e => ?_, k.len, k.fz, fun i b xs e => ?_, k.ne, k.bw, k.lb⟩
  · have hb : b ≠ p := fun q => by rw [q, hz] at e; cases e
    rw [upd_ne hb]
    exact k.zh b u e
  · by_cases hb : b = p
    · subst hb
      rw [upd_same] at e ⊢
      exact e
    · rw [upd_ne hb] at e ⊢
      exact k.fh b u (by rw [upd_ne hb]; exact e)
  · obtain ⟨a, vs, e1, e2, r, z1, z2⟩ := k.ow i b xs e
    have hne : a ≠ p := fun q => by rw [q, upd_same] at z2; cases z2
    rw [upd_ne hne] at z2
    exact ⟨a, vs, e1, by rw [upd_ne hne]; exact e2, r, z1, by rw [upd_ne hne]; exact z2⟩
/-- .. the guard is taken off -/
theorem Ok.unP {p : Addr} {o : HO} (k : Ok K G B Z (upd Φ p o) σ ρ H) (hf : Φ p = none) : Ok K G B Z Φ σ ρ H := by
  refine ⟨k.zh, fun b u e => k.fh b u ?_, k.len, k.fz, fun i b xs e => ?_, k.ne, k.bw, k.lb⟩
  · have hb : b ≠ p := fun q => by rw [q, hf] at e; cases e
    rw [upd_ne hb]
    exact e
  · obtain ⟨a, vs, e1, e2, r, z1, z2⟩ := k.ow i b xs e
    have hne : a ≠ p := fun q => by rw [q, upd_same] at z2; cases z2
    rw [upd_ne hne] at z2
    exact ⟨a, vs, e1, e2, r, z1, z2⟩
theorem Ext.unP {p : Addr} {o : HO} (e : Ext Z (upd Φ p o) Z') (hz : Z p = none) : Ext Z Φ Z' ∧ Z' p = none := by
  have hp : Z' p = none := by
    cases q : Z' p with
    | none => rfl
    | some u =>
      rcases e.2 p u q with z | z
      · rw [hz] at z; cases z
      · rw [upd_same] at z; cases z
  refine ⟨⟨e.1, fun c u h => (e.2 c u h).elim .inl fun z => .inr ?_⟩, hp⟩
  have hc : c ≠ p := fun q => by rw [q, hp] at h; cases h
  rw [upd_ne hc] at z
  exact z

/-! ### list comprehensions -/
def lcGo (t : Tg) (ft : Et) (fe : Ev) (vs : List Nat) : List D → Rho → R (List D × Rho)
  | [], ρ => .ok ([], ρ)
  | d :: ds, ρ => match bindT t d ρ with
    | none => .no
    | some ρ1 => match ft ρ1 with
      | .ok (false, ρ2) => lcGo t ft fe vs ds (wipeR ρ2 vs)
      | .ok (true, ρ2) => match fe ρ2 with
        | .ok (pv, ρ3) => match useV pv ρ3 with
          | some (e, ρ4) => match lcGo t ft fe vs ds (wipeR ρ4 vs) with
            | .ok (es, ρ5) => .ok (e :: es, ρ5)
            | _ => .no
          | none => .no
        | _ => .no
      | _ => .no
def lcEnd (ρ1 : Rho) (vs : List Nat) : R (List D × Rho) → R (PV × Rho)
  | .ok (es, ρ2) => .ok (.fr es, backR ρ2 ρ1 vs)
  | _ => .no
def lcK (vs : List Nat) (t : Tg) (ft : Et) (fe : Ev) : List D × Rho → R (PV × Rho) := fun p => if noOwn p.2 vs && szOk p.1.length then lcEnd p.2 vs (lcGo t ft fe vs p.1 (wipeR p.2 vs)) else .no
def eLc (vs : List Nat) (fi : Ei) (t : Tg) (ft : Et) (fe : Ev) : Ev := fun ρ => (fi ρ).bind (lcK vs t ft fe)
abbrev W0 : WX := fun _ _ _ _ => False
theorem te_lc {vs : List Nat} {fi : Ei} {t : Tg} {ft : Et} {fe : Ev} {Q : VK} (hv : ∀ i ∈ t.vs, i ∈ vs) (h : tE K G W (eLc vs fi t ft fe) σ H Q) : tLc (tI K G W fi) (tgR K t) (tT K G W0 ft) (tE K G W0 fe) vs σ H Q := by
  refine te_bindI h fun B Z Φ ρ1 H1 J ds k it q D hD => ?_
  unfold lcK at q
  dsimp only at q
  split at q
  · rename_i hc
    rw [Bool.and_eq_true] at hc
    obtain ⟨hn, hz⟩ := hc
    cases hgo : lcGo t ft fe vs ds (wipeR ρ1 vs) with
    | no => rw [hgo] at q; exact q.elim
    | exc x => rw [hgo] at q; exact q.elim
    | ok p =>
      obtain ⟨es, ρ2⟩ := p
      rw [hgo] at q
      change ∀ Z' H' v, _ → _ → _ → _ at q
      have hfD := Same.none k.fh hD
      have hzD := Same.none k.zh hD
      have w : Walk J ds.length (fun H => Same Z H) (fun i H x H' => ∀ d Z1, ds[i]? = some d → Same Z Z1 → Same Z1 H → ∃ Z2, Stp K G Z1 H (.fz d) x Z2 H') :=
        ⟨it.goes, it.stops, fun i H x H' _ _ y d Z1 e s s1 => it.yields i H x H' d Z1 e s s1 y⟩
      refine lc_it w (fun i H => ∃ Zi ρi acc avs es', Ok K G B Zi (upd Φ D (.lst avs)) (L2.wipe σ vs) ρi H ∧ Ext Z Φ Zi ∧ Zi D = none ∧ RepL K G Zi acc avs ∧ acc.length ≤ i ∧ lcGo t ft fe vs (ds.drop i) ρi = .ok (es', ρ2) ∧ acc ++ es' = es) ?_ ?_ ?_ ?_
      · exact ⟨Z, _, [], [], es, (k.wipe vs).newP hD, Ext.refl, hzD, rfl, Nat.le_refl _, hgo, rfl⟩
      · intro i H hi ⟨Zi, ρi, acc, avs, es', ki, ei, _⟩
        exact ei.1.trans ki.zh
      · intro i x H H' hi ⟨Zi, ρi, acc, avs, es', ki, ei, zi, ra, la, hgi, he⟩ y
        rw [List.drop_eq_getElem_cons hi] at hgi
        obtain ⟨Z2, st⟩ := y ds[i] Zi (List.getElem?_eq_getElem hi) ei.1 ki.zh
        obtain ⟨e2, k2, r2⟩ := st.ok ki
        obtain ⟨e2', z2⟩ := Ext.unP e2 zi
        unfold lcGo at hgi
        split at hgi
        · cases hgi
        · rename_i ρ1' hb
          refine tg_ok k2 r2 hb hv fun σ' k' ew => ⟨by rw [ew, wipe_wipe fun _ h => h], B, Z2, _, ρ1', k', ?_⟩
          have eW : L2.wipe σ' vs = L2.wipe σ vs := by rw [ew, wipe_wipe fun _ h => h]
          split at hgi
          · -- not kept
            rename_i ρ3 hft
            rw [hft]
            intro Z3 H3 e3 k3
            obtain ⟨e3', z3⟩ := Ext.unP e3 z2
            have k3w := k3.wipe vs
            rw [eW] at k3w
            exact iteF ⟨Z3, _, acc, avs, es', k3w, ei.trans (e2'.trans e3'), z3, RepL.mono (e2'.1.trans e3'.1) _ _ ra, by omega, hgi, he⟩
          · rename_i ρ3 hft
            rw [hft]
            intro Z3 H3 e3 k3
            obtain ⟨e3', z3⟩ := Ext.unP e3 z2
            refine iteT ⟨B, Z3, _, ρ3, k3, ?_⟩
            split at hgi
            · rename_i pv ρ4 hfe
              rw [hfe]
              intro Z4 H4 v e4 k4 r4
              obtain ⟨e4', z4⟩ := Ext.unP e4 z3
              split at hgi
              · rename_i e ρ5 hu
                obtain ⟨Z5, e5, k5, r5⟩ := k4.use r4 hu
                obtain ⟨e5', z5⟩ := Ext.unP e5 z4
                split at hgi
                · rename_i es2 ρ6 hg2
                  cases hgi
                  have eAll := e2'.trans (e3'.trans (e4'.trans e5'))
                  have k5w := (k5.wipe vs).updP (o' := .lst (avs ++ [v])) z5
                  rw [eW] at k5w
                  have ra' : RepL K G Z5 acc avs := RepL.mono eAll.1 _ _ ra
                  refine ⟨avs, k5.fh _ _ upd_same, ?_, Z5, _, acc ++ [e], avs ++ [v], es2, k5w, ei.trans eAll, z5, ra'.append ⟨v, [], rfl, r5, rfl⟩, ?_, hg2, ?_⟩
                  · rw [← ra.length]
                    exact Nat.lt_of_lt_of_le (Nat.lt_of_le_of_lt la hi) (szOk_le hz)
                  · rw [List.length_append]
                    show acc.length + 1 ≤ i + 1
                    omega
                  · rw [List.append_assoc]
                    exact he
                · cases hgi
              · cases hgi
            · cases hgi
          · cases hgi
      · intro H ⟨Zi, ρi, acc, avs, es', ki, ei, zi, ra, la, hgi, he⟩
        rw [List.drop_length] at hgi
        unfold lcGo at hgi
        cases hgi
        rw [List.append_nil] at he
        subst he
        have kb := Ok.back k ei.1 (ki.unP hfD) hn
        refine q Zi H (.ref D) ei kb ⟨D, avs, rfl, ki.fh _ _ upd_same, ra, zi, hfD, fun i b ys h1 h2 => ?_⟩
        rcases backR_get h1 with ⟨m, z⟩ | ⟨m, h1⟩
        · cases qq : ρ1[i]? with
          | none => rw [qq] at z; cases z
          | some c =>
            rw [qq] at z
            exact noOwn_get hn m (qq.trans (congrArg some z.symm))
        · obtain ⟨a, us, f1, _, _, _, f2⟩ := ki.ow i b ys h1
          rw [wipe_out m, h2] at f1
          cases f1
          rw [upd_same] at f2
          cases f2
  · exact q.elim
end
section
variable {X : Cx} {G : Wd} {W : WX}
theorem re_lc {elt tg iter : Expr} {ifs : List Expr} {scope : Scope} {own : List (Str × Nat)} {pos : Pos} {fi : Ei} {t : Tg} {ft : Et} {fe : Ev} (hc : X.calm = true) (hN : X.N.Nodup) (hi : PI X tg iter (tI X.K G W fi)) (ok : BlkOk X.N X.env.scope scope own)
    (hg : ∀ (s : Shared) (H : Hp) (C : Addr) (cl : List (Str × Addr)) (fp : List Addr), PG (X.blk s H scope (compEnvC scope cl C X.env) fp) tg (tgR X.K t)) (ht : ∀ (s : Shared) (H : Hp) (C : Addr) (cl : List (Str × Addr)) (fp : List Addr), PTs (X.blk s H scope (compEnvC scope cl C X.env) fp) ifs (tT X.K G W0 ft))
    (he : ∀ (s : Shared) (H : Hp) (C : Addr) (cl : List (Str × Addr)) (fp : List Addr), PE (X.blk s H scope (compEnvC scope cl C X.env) fp) elt (tE X.K G W0 fe)) (hv : ∀ i ∈ t.vs, i ∈ own.map (·.2)) (hs : ∀ x, foldedSetIterable iter X.env x = pure x := by intro _; rfl) :
    PE X (.ListComp elt [⟨tg, iter, ifs, 0⟩] scope pos) (tE X.K G W (eLc (own.map (·.2)) fi t ft fe)) := (pe_lc hc hN hi ok hg ht he hs).imp fun σ H Q h => te_lc hv h
def tYesF : Et := fun ρ => .ok (true, ρ)
theorem _root_.L2.PTs.imp {ifs : List Expr} {t t' : TT} (h : PTs X ifs t) (k : ∀ σ H Q, t' σ H Q → t σ H Q) : PTs X ifs t' := ⟨fun pins s σ H Q I q => h.run pins s σ H Q I (k σ H Q q)⟩
theorem rts_nil : PTs X [] (tT X.K G W tYesF) := pts_nil.imp fun σ H Q h => by
  obtain ⟨B, Z, Φ, ρ, k, h⟩ := h
  exact h Z H Ext.refl k
theorem rts_one {c : Expr} {ft : Et} (h : PT X c (tT X.K G W ft)) : PTs X [c] (tT X.K G W ft) := pts_one h
end

/-! ### statements -/
def sNil : Es := fun ρ => .ok (.nx, ρ)
def seqK (g : Es) : R (Fl × Rho) → R (Fl × Rho)
  | .ok (.nx, ρ) => g ρ
  | r => r
def sSeq (f g : Es) : Es := fun ρ => seqK g (f ρ)
def sIf (tc : Et) (a b : Es) : Es := fun ρ => (tc ρ).bind fun (c, ρ1) => match c with
  | true => a ρ1
  | false => b ρ1
def setK (i : Nat) : PV × Rho → R (Fl × Rho)
  | (.fz d, ρ) => match setR i (.fz d) ρ with
    | some ρ1 => .ok (.nx, ρ1)
    | none => .no
  | (.fr xs, ρ) => match setR i (.ow false xs) ρ with
    | some ρ1 => .ok (.nx, ρ1)
    | none => .no
  | (.at j, ρ) => match useV (.at j) ρ with
    | some (d, ρ1) => match setR i (.fz d) ρ1 with
      | some ρ2 => .ok (.nx, ρ2)
      | none => .no
    | none => .no
def sSet (i : Nat) (f : Ev) : Es := fun ρ => (f ρ).bind (setK i)
def retK : PV × Rho → R (Fl × Rho)
  | (.fz d, ρ) => .ok (.rt (.fz d), ρ)
  | (.fr xs, ρ) => .ok (.rt (.fr xs), ρ)
  | (.at j, ρ) => match ρ[j]? with
    | some (.ow false xs) => .ok (.rt (.fr xs), ρ.set j .un)
    | _ => .no
def sRet (f : Ev) : Es := fun ρ => (f ρ).bind retK
def sRetN : Es := fun ρ => .ok (.rt (.fz .non), ρ)
def sExpr (f : Ev) : Es := fun ρ => (f ρ).bind fun (_, ρ1) => .ok (.nx, ρ1)
def sNo : Es := fun _ => .no
/-- a, b = e1, e2 -/
def parK2 (i j : Nat) (pa : PV) : PV × Rho → R (Fl × Rho) := fun p => (setK i (pa, p.2)).bind fun q => setK j (p.1, q.2)
def uPV (p : PV × Rho) : R (PV × Rho) := match p with
  | (.fz d, ρ) => .ok (.fz d, ρ)
  | (.fr xs, ρ) => .ok (.fr xs, ρ)
  | (.at j, ρ) => match useV (.at j) ρ with
    | some (d, ρ1) => .ok (.fz d, ρ1)
    | none => .no
def sPar (i j : Nat) (fa fb : Ev) : Es := fun ρ => ((fa ρ).bind uPV).bind fun (pa, ρ1) => ((fb ρ1).bind uPV).bind (parK2 i j pa)
/-- a, b = e -/
def unpK (is : List Nat) : Option (D × Rho) → R (Fl × Rho)
  | some (.tup ds, ρ) => match bindL is ds ρ with
    | some ρ1 => .ok (.nx, ρ1)
    | none => .no
  | some (.lst ds, ρ) => match bindL is ds ρ with
    | some ρ1 => .ok (.nx, ρ1)
    | none => .no
  | _ => .no
def sUnp (is : List Nat) (f : Ev) : Es := fun ρ => (f ρ).bind fun (pv, ρ1) => unpK is (useV pv ρ1)
/-- s[i] = e, s of our own at slot j -/
def stoK (j : Nat) (d : D) : PV × Rho → R (Fl × Rho)
  | (.fz (.int k), ρ) => match ρ[j]? with
    | some (.ow c xs) => match ixN xs.length k with
      | some n => .ok (.nx, ρ.set j (.ow c (xs.set n d)))
      | none => .no
    | _ => .no
  | _ => .no
def isOw : Option Cell → Bool
  | some (.ow _ _) => true
  | _ => false
def sSto (j : Nat) (fi f : Ev) : Es := fun ρ => (f ρ).bind fun (pv, ρ1) => match useV pv ρ1 with
  | some (d, ρ2) => if isOw ρ2[j]? then (fi ρ2).bind (stoK j d) else .no
  | none => .no
def appK (j : Nat) : Option (D × Rho) → R (Fl × Rho)
  | some (d, ρ) => match ρ[j]? with
    | some (.ow c xs) => if szOk xs.length then .ok (.nx, ρ.set j (.ow c (xs ++ [d]))) else .no
    | _ => .no
  | none => .no
/-- s.append(e) -/
def sApp (j : Nat) (f : Ev) : Es := fun ρ => if isOw ρ[j]? then (f ρ).bind fun (pv, ρ1) => appK j (useV pv ρ1) else .no
def forGo (t : Tg) (body : Es) : List D → Rho → R (Fl × Rho)
  | [], ρ => .ok (.nx, ρ)
  | d :: ds, ρ => match bindT t d ρ with
    | none => .no
    | some ρ1 => match body ρ1 with
      | .ok (.nx, ρ2) => forGo t body ds ρ2
      | .ok (.ct, ρ2) => forGo t body ds ρ2
      | .ok (.bk, ρ2) => .ok (.nx, ρ2)
      | .ok (.rt pv, ρ2) => .ok (.rt pv, ρ2)
      | .exc x => .exc x
      | .no => .no
def sFor (fi : Ei) (t : Tg) (body : Es) : Es := fun ρ => (fi ρ).bind fun (ds, ρ1) => forGo t body ds ρ1
def whGo (tc : Et) (body : Es) : Nat → Rho → R (Fl × Rho)
  | 0, _ => .no
  | n + 1, ρ => match tc ρ with
    | .ok (false, ρ1) => .ok (.nx, ρ1)
    | .ok (true, ρ1) => match body ρ1 with
      | .ok (.nx, ρ2) => whGo tc body n ρ2
      | .ok (.ct, ρ2) => whGo tc body n ρ2
      | .ok (.bk, ρ2) => .ok (.nx, ρ2)
      | .ok (.rt pv, ρ2) => .ok (.rt pv, ρ2)
      | .exc x => .exc x
      | .no => .no
    | .exc x => .exc x
    | .no => .no
def sWhile (n : Nat) (tc : Et) (body : Es) : Es := fun ρ => whGo tc body n ρ
def sBrk : Es := fun ρ => .ok (.bk, ρ)
def sCont : Es := fun ρ => .ok (.ct, ρ)

section
variable {K : PySem.W.Frag} {G : Wd} {W : WX} {B : L2.St} {Z Z' Φ H H' : Hp} {σ : L2.St} {ρ ρ' : Rho}
theorem PostS.ext {D : Ends} {r : R (Fl × Rho)} (h : PostS K G W B Z Φ D r) (e : Ext Z Φ Z') : PostS K G W B Z' Φ D r := by
  cases r with
  | no => exact h
  | exc x => exact fun σ' hl => PostX.ext (h σ' hl) e
  | ok p =>
    obtain ⟨f, ρ1⟩ := p
    cases f with
    | nx => exact fun Z2 σ2 H2 e2 k2 => h Z2 σ2 H2 (e.trans e2) k2
    | rt pv => exact fun Z2 σ2 H2 v e2 k2 r2 => h Z2 σ2 H2 v (e.trans e2) k2 r2
    | bk => exact fun Z2 σ2 H2 e2 k2 => h Z2 σ2 H2 (e.trans e2) k2
    | ct => exact fun Z2 σ2 H2 e2 k2 => h Z2 σ2 H2 (e.trans e2) k2
theorem ts_bindE {fa : Ev} {k : PV × Rho → R (Fl × Rho)} {D : Ends} {P : V → Hp → Prop} (h : tS K G W (fun ρ => (fa ρ).bind k) D σ H)
    (n : ∀ B Z Φ ρ1 H1 x pa, Ok K G B Z Φ σ ρ1 H1 → RepP K G Z Φ σ ρ1 H1 pa x → PostS K G W B Z Φ D (k (pa, ρ1)) → P x H1) : tE K G W fa σ H P := by
  obtain ⟨B, Z, Φ, ρ, ok, h⟩ := h
  refine ⟨B, Z, Φ, ρ, ok, ?_⟩
  dsimp only at h
  cases ha : fa ρ with
  | no => rw [ha] at h; exact h.elim
  | exc x => rw [ha] at h; exact h σ ok.lb
  | ok p =>
    obtain ⟨pa, ρ1⟩ := p
    rw [ha] at h
    exact fun Z1 H1 x e1 k1 r1 => n B Z1 Φ ρ1 H1 x pa k1 r1 (PostS.ext h e1)
theorem ts_bindT {fa : Et} {k : Bool × Rho → R (Fl × Rho)} {D : Ends} {P : Bool → Hp → Prop} (h : tS K G W (fun ρ => (fa ρ).bind k) D σ H)
    (n : ∀ B Z Φ ρ1 H1 b, Ok K G B Z Φ σ ρ1 H1 → PostS K G W B Z Φ D (k (b, ρ1)) → P b H1) : tT K G W fa σ H P := by
  obtain ⟨B, Z, Φ, ρ, ok, h⟩ := h
  refine ⟨B, Z, Φ, ρ, ok, ?_⟩
  dsimp only at h
  cases ha : fa ρ with
  | no => rw [ha] at h; exact h.elim
  | exc x => rw [ha] at h; exact h σ ok.lb
  | ok p =>
    obtain ⟨pa, ρ1⟩ := p
    rw [ha] at h
    exact fun Z1 H1 e1 k1 => n B Z1 Φ ρ1 H1 pa k1 (PostS.ext h e1)
theorem ts_bindI {fa : Ei} {k : List D × Rho → R (Fl × Rho)} {D : Ends} {P : It → Hp → Prop} (h : tS K G W (fun ρ => (fa ρ).bind k) D σ H)
    (n : ∀ B Z Φ ρ1 H1 J ds, Ok K G B Z Φ σ ρ1 H1 → ItOk K G Z ds J → PostS K G W B Z Φ D (k (ds, ρ1)) → P J H1) : tI K G W fa σ H P := by
  obtain ⟨B, Z, Φ, ρ, ok, h⟩ := h
  refine ⟨B, Z, Φ, ρ, ok, ?_⟩
  dsimp only at h
  cases ha : fa ρ with
  | no => rw [ha] at h; exact h.elim
  | exc x => rw [ha] at h; exact h σ ok.lb
  | ok p =>
    obtain ⟨pa, ρ1⟩ := p
    rw [ha] at h
    exact fun Z1 H1 J e1 k1 r1 => n B Z1 Φ ρ1 H1 J pa k1 r1 (PostS.ext h e1)
theorem set_ok {i : Nat} {pv : PV} {v : V} {D : Ends} (k : Ok K G B Z Φ σ ρ H) (r : RepP K G Z Φ σ ρ H pv v) (h : PostS K G W B Z Φ D (setK i (pv, ρ))) : D.nx (σ.set i (some v)) H := by
  unfold setK at h
  split at h
  · rename_i d ρ0 ee
    cases ee
    split at h
    · rename_i ρ1 h1
      exact h Z _ H Ext.refl (k.set h1 r)
    · exact h.elim
  · rename_i xs ρ0 ee
    cases ee
    split at h
    · rename_i ρ1 h1
      exact h Z _ H Ext.refl (k.setF h1 r)
    · exact h.elim
  · rename_i j ρ0 ee
    cases ee
    split at h
    · rename_i d ρ1 hu
      split at h
      · rename_i ρ2 h2
        obtain ⟨Z2, e2, k2, r2⟩ := k.use r hu
        exact h Z2 _ H e2 (k2.set h2 r2)
      · exact h.elim
    · exact h.elim
theorem ret_ok {pv : PV} {v : V} {D : Ends} (k : Ok K G B Z Φ σ ρ H) (r : RepP K G Z Φ σ ρ H pv v) (h : PostS K G W B Z Φ D (retK (pv, ρ))) : D.rt v H := by
  unfold retK at h
  split at h
  · rename_i d ρ0 ee
    cases ee
    exact h Z σ H v Ext.refl k r
  · rename_i xs ρ0 ee
    cases ee
    exact h Z σ H v Ext.refl k r
  · rename_i j ρ0 ee
    cases ee
    split at h
    · rename_i xs hj
      obtain ⟨r1, _⟩ := r
      obtain ⟨a, vs, f1, f2, f3, f4, f5⟩ := k.ow _ _ _ hj
      rw [r1] at f1
      cases f1
      refine h Z σ H (.ref a) Ext.refl ⟨k.zh, k.fh, by rw [List.length_set]; exact k.len, fun i d q => ?_, fun i b xs q => ?_, fun i l b c xs ys w hne q1 q2 => ?_, fun i xs q => ?_, k.lb⟩ ⟨a, vs, rfl, f2, f3, f4, f5, fun i b ys q s => ?_⟩
      · rcases get_set_cases q with ⟨_, q⟩ | ⟨_, q⟩
        · cases q
        · exact k.fz i d q
      · rcases get_set_cases q with ⟨_, q⟩ | ⟨_, q⟩
        · cases q
        · exact k.ow i b xs q
      · rcases get_set_cases q1 with ⟨_, q1⟩ | ⟨_, q1⟩
        · cases q1
        · rcases get_set_cases q2 with ⟨_, q2⟩ | ⟨_, q2⟩
          · cases q2
          · exact k.ne i l b c xs ys w hne q1 q2
      · rcases get_set_cases q with ⟨_, q⟩ | ⟨_, q⟩
        · cases q
        · exact k.bw i xs q
      · rcases get_set_cases q with ⟨_, q⟩ | ⟨hi, q⟩
        · cases q
        · exact k.ne i j b _ ys xs a hi q hj s r1
    · exact h.elim
/-- the list of slot j is changed -/
theorem Ok.write {j : Nat} {c : Bool} {xs ys : List D} {a : Addr} {vs : List V} (k : Ok K G B Z Φ σ ρ H) (hj : ρ[j]? = some (.ow c xs)) (ha : σ[j]? = some (some (.ref a))) (r : RepL K G Z ys vs) : Ok K G B Z Φ σ (ρ.set j (.ow c ys)) (upd H a (.lst vs)) := by
  obtain ⟨a', vs', f1, f2, f3, f4, f5⟩ := k.ow _ _ _ hj
  rw [ha] at f1
  cases f1
  refine ⟨fun b u e => ?_, fun b u e => ?_, by rw [List.length_set]; exact k.len, fun i d q => ?_, fun i b zs q => ?_, fun i l b b' us ws w hne q1 q2 s1 s2 => ?_, fun i us q => ?_, k.lb⟩
  · have hb : b ≠ a := fun z => by rw [z, f4] at e; cases e
    rw [upd_ne hb]
    exact k.zh b u e
  · have hb : b ≠ a := fun z => by rw [z, f5] at e; cases e
    rw [upd_ne hb]
    exact k.fh b u e
  · rcases get_set_cases q with ⟨_, q⟩ | ⟨_, q⟩
    · cases q
    · exact k.fz i d q
  · rcases get_set_cases q with ⟨hi, q'⟩ | ⟨hi, q⟩
    · subst hi
      cases q'
      exact ⟨a, vs, ha, upd_same, r, f4, f5⟩
    · obtain ⟨a2, vs2, e1, e2, r2, z1, z2⟩ := k.ow i b zs q
      have hne : a2 ≠ a := fun z => k.ne i j b c zs xs a hi q hj (by rw [← z]; exact e1) ha
      exact ⟨a2, vs2, e1, by rw [upd_ne hne]; exact e2, r2, z1, z2⟩
  · rcases get_set_cases q1 with ⟨i1, _⟩ | ⟨i1, p1⟩
    · subst i1
      rcases get_set_cases q2 with ⟨i2, _⟩ | ⟨i2, p2⟩
      · exact hne i2.symm
      · exact k.ne i l _ _ _ _ w hne hj p2 s1 s2
    · rcases get_set_cases q2 with ⟨i2, _⟩ | ⟨i2, p2⟩
      · subst i2
        exact k.ne i l _ _ _ _ w hne p1 hj s1 s2
      · exact k.ne i l _ _ _ _ w hne p1 p2 s1 s2
  · rcases get_set_cases q with ⟨hi, q'⟩ | ⟨hi, q⟩
    · subst hi
      cases q'
      exact k.bw i _ hj
    · exact k.bw i us q
theorem isOw_get {c : Option Cell} (h : isOw c = true) : ∃ b xs, c = some (.ow b xs) := by
  unfold isOw at h
  split at h
  · exact ⟨_, _, rfl⟩
  · cases h
end

section
variable {X : Cx} {G : Wd} {W : WX} {pos : Pos} {e e2 : Expr} {st : Stmt} {rest : List Stmt}
theorem rs_nil : PSs X [] (tS X.K G W sNil) := pss_nil.imp fun D σ H h => by
  obtain ⟨B, Z, Φ, ρ, k, h⟩ := h
  exact h Z σ H Ext.refl k
theorem ts_seq {K : PySem.W.Frag} {f g : Es} {D : Ends} {σ : L2.St} {H : Hp} (h : tS K G W (sSeq f g) D σ H) : tSeq (tS K G W f) (tS K G W g) D σ H := by
  obtain ⟨B, Z, Φ, ρ, k, h⟩ := h
  refine ⟨B, Z, Φ, ρ, k, ?_⟩
  unfold sSeq at h
  cases hf : f ρ with
  | no => rw [hf] at h; exact h.elim
  | exc x => rw [hf] at h; exact h
  | ok p =>
    obtain ⟨fl, ρ1⟩ := p
    rw [hf] at h
    cases fl with
    | nx => exact fun Z1 σ1 H1 e1 k1 => ⟨B, Z1, Φ, ρ1, k1, PostS.ext h e1⟩
    | rt pv => exact h
    | bk => exact h
    | ct => exact h
theorem rs_cons {f g : Es} (h1 : PS X st (tS X.K G W f)) (h2 : PSs X rest (tS X.K G W g)) : PSs X (st :: rest) (tS X.K G W (sSeq f g)) := (pss_cons h1 h2).imp fun _ _ _ h => ts_seq h
theorem rs_one {f : Es} (h1 : PS X st (tS X.K G W f)) : PSs X [st] (tS X.K G W f) := pss_one h1
theorem rs_if {tc : Et} {f g : Es} {a b : List Stmt} (hc : PT X e (tT X.K G W tc)) (ha : PSs X a (tS X.K G W f)) (hb : PSs X b (tS X.K G W g)) : PS X (.If e a b pos) (tS X.K G W (sIf tc f g)) :=
  (ps_if hc ha hb).imp fun D σ H h => ts_bindT h fun B Z Φ ρ1 H1 b k q => by
    cases b with
    | true => exact iteT ⟨B, Z, Φ, ρ1, k, q⟩
    | false => exact iteF ⟨B, Z, Φ, ρ1, k, q⟩
theorem rs_set {i : Nat} {x : Str} {f : Ev} {pos' : Pos} (hN : X.N.Nodup) (hi : X.N[i]? = some x) (hx : Loc X.env.scope x) (he : PE X e (tE X.K G W f)) (hf : X.fn x = true ∨ X.env.scope.names.lookup x = some .local) (hs : swapsWith e (some (.Name x pos')) pos.line X.env = pure false := by rfl) :
    PS X (.Assign [.Name x pos'] e pos) (tS X.K G W (sSet i f)) := (ps_set hN hi hx he hs hf).imp fun D σ H h => ts_bindE h fun B Z Φ ρ1 H1 x pa k r q => set_ok k r q
/-- x = [..] on one line -/
theorem rs_setLc {i : Nat} {y : Str} {py : Pos} {elt tg iter : Expr} {ifs : List Expr} {scope : Scope} {own : List (Str × Nat)} {spos : Pos} {fi : Ei} {t : Tg} {ft : Et} {fe : Ev} (hc : X.calm = true) (hN : X.N.Nodup) (hy : X.N[i]? = some y) (hyl : X.env.scope.names.lookup y = some .local)
    (hsw : swapsWith (.ListComp elt [⟨tg, iter, ifs, 0⟩] scope pos) (some (.Name y py)) spos.line X.env = pure true) (hi : PI X tg iter (tI X.K G W fi)) (ok : BlkOk X.N X.env.scope scope own)
    (hg : ∀ (s : Shared) (H : Hp) (C : Addr) (cl : List (Str × Addr)) (fp : List Addr), PG (X.blk s H scope (compEnvC scope cl C X.env) fp) tg (tgR X.K t)) (ht : ∀ (s : Shared) (H : Hp) (C : Addr) (cl : List (Str × Addr)) (fp : List Addr), PTs (X.blk s H scope (compEnvC scope cl C X.env) fp) ifs (tT X.K G W0 ft))
    (he : ∀ (s : Shared) (H : Hp) (C : Addr) (cl : List (Str × Addr)) (fp : List Addr), PE (X.blk s H scope (compEnvC scope cl C X.env) fp) elt (tE X.K G W0 fe)) (hv : ∀ i ∈ t.vs, i ∈ own.map (·.2)) (hs : ∀ x, foldedSetIterable iter X.env x = pure x := by intro _; rfl) :
    PS X (.Assign [.Name y py] (.ListComp elt [⟨tg, iter, ifs, 0⟩] scope pos) spos) (tS X.K G W (sSet i (eLc (own.map (·.2)) fi t ft fe))) :=
  (ps_setLc hc hN hy hyl hsw hi ok hg ht he hs).imp fun D σ H h => te_lc hv (ts_bindE h fun B Z Φ ρ1 H1 x pa k r q => set_ok k r q)
theorem rs_ret {f : Ev} (he : PE X e (tE X.K G W f)) : PS X (.Return (some e) pos) (tS X.K G W (sRet f)) := (ps_ret he).imp fun D σ H h => ts_bindE h fun B Z Φ ρ1 H1 x pa k r q => ret_ok k r q
theorem rs_retN : PS X (.Return none pos) (tS X.K G W sRetN) := ps_retN.imp fun D σ H h => by
  obtain ⟨B, Z, Φ, ρ, k, h⟩ := h
  exact h Z σ H .non Ext.refl k rfl
theorem rs_expr {f : Ev} (he : PE X e (tE X.K G W f)) (hs : swapsWith e none pos.line X.env = pure false := by rfl) : PS X (.Expr e pos) (tS X.K G W (sExpr f)) := (ps_expr he hs).imp fun D σ H h => ts_bindE h fun B Z Φ ρ1 H1 x pa k r q => q Z σ H1 Ext.refl k
theorem rs_no {st : Stmt} : PS X st (tS X.K G W sNo) := ps_never.imp fun D σ H h => by
  obtain ⟨B, Z, Φ, ρ, k, h⟩ := h
  exact h.elim
theorem rs_pass : PS X (.Pass pos) (tS X.K G W sNil) := ps_pass.imp fun D σ H h => by
  obtain ⟨B, Z, Φ, ρ, k, h⟩ := h
  exact h Z σ H Ext.refl k
theorem rs_break : PS X (.Break pos) (tS X.K G W sBrk) := ps_break.imp fun D σ H h => by
  obtain ⟨B, Z, Φ, ρ, k, h⟩ := h
  exact h Z σ H Ext.refl k
theorem rs_continue : PS X (.Continue pos) (tS X.K G W sCont) := ps_continue.imp fun D σ H h => by
  obtain ⟨B, Z, Φ, ρ, k, h⟩ := h
  exact h Z σ H Ext.refl k
/-- x op= e, ints -/
theorem rs_aug {i : Nat} {x : Str} {op : Operator} {g : D → D → Option PV} {f : Ev} {r : R2} {pos' : Pos} (hN : X.N.Nodup) (hi : X.N[i]? = some x) (hx : Loc X.env.scope x) (he : PE X e (tE X.K G W f)) (ho : OpR X (inplaceOp op) r) (S : OpS X.K G r g)
    (h1 : PS X (.AugAssign (.Name x pos') op e pos) (tAug i (tE X.K G W f) r)) : PS X (.AugAssign (.Name x pos') op e pos) (tS X.K G W (sSet i (eOp g (eVar i) f))) :=
  h1.imp fun D σ H h => by
    have h2 := ts_bindE (P := fun z H2 => D.nx (σ.set i (some z)) H2) h fun B Z Φ ρ1 H1 x pa k r q => set_ok k r q
    exact te_var (te_op S h2)
theorem upv_ok {K : PySem.W.Frag} {B : L2.St} {Z Φ H : Hp} {σ : L2.St} {ρ ρ' : Rho} {pv pv' : PV} {v : V} (k : Ok K G B Z Φ σ ρ H) (r : RepP K G Z Φ σ ρ H pv v) (h : uPV (pv, ρ) = .ok (pv', ρ')) : ∃ Z', Ext Z Φ Z' ∧ Ok K G B Z' Φ σ ρ' H ∧ RepP K G Z' Φ σ ρ' H pv' v ∧ (∀ j, pv' ≠ .at j) := by
  unfold uPV at h
  split at h
  · rename_i d ρ0 ee
    cases ee
    cases h
    exact ⟨Z, Ext.refl, k, r, by intro j z; cases z⟩
  · rename_i xs ρ0 ee
    cases ee
    cases h
    exact ⟨Z, Ext.refl, k, r, by intro j z; cases z⟩
  · rename_i j ρ0 ee
    cases ee
    split at h
    · rename_i d ρ1 hu
      cases h
      obtain ⟨Z2, e2, k2, r2⟩ := k.use r hu
      exact ⟨Z2, e2, k2, r2, by intro j z; cases z⟩
    · cases h
theorem uPV_exc {p : PV × Rho} {x : Xc} (h : uPV p = .exc x) : False := by
  unfold uPV at h
  split at h
  · cases h
  · cases h
  · split at h <;> cases h
theorem setK_nx {i : Nat} {p : PV × Rho} {r : Fl × Rho} (h : setK i p = .ok r) : r.1 = .nx := by
  unfold setK at h
  split at h
  · split at h <;> cases h
    rfl
  · split at h <;> cases h
    rfl
  · split at h
    · split at h <;> cases h
      rfl
    · cases h
theorem setK_exc {i : Nat} {p : PV × Rho} {x : Xc} (h : setK i p = .exc x) : False := by
  unfold setK at h
  split at h
  · split at h <;> cases h
  · split at h <;> cases h
  · split at h
    · split at h <;> cases h
    · cases h
theorem ts_par {K : PySem.W.Frag} {i j : Nat} {fa fb : Ev} (hij : i ≠ j) {D : Ends} {σ : L2.St} {H : Hp} (h : tS K G W (sPar i j fa fb) D σ H) : tPar i j (tCons (tE K G W fa) (tCons (tE K G W fb) tNil)) D σ H := by
  obtain ⟨B, Z, Φ, ρ, k, h⟩ := h
  refine ⟨B, Z, Φ, ρ, k, ?_⟩
  unfold sPar at h
  cases ha : fa ρ with
  | no => rw [ha] at h; exact h.elim
  | exc x => rw [ha] at h; exact h σ k.lb
  | ok p =>
    obtain ⟨pa, ρ1⟩ := p
    rw [ha] at h
    intro Z1 H1 v e1 k1 r1
    change PostS K G W B Z Φ D ((uPV (pa, ρ1)).bind _) at h
    cases hu : uPV (pa, ρ1) with
    | no => rw [hu] at h; exact h.elim
    | exc x => exact (uPV_exc hu).elim
    | ok p =>
      obtain ⟨pa', ρ1'⟩ := p
      rw [hu] at h
      obtain ⟨Z2, e2, k2, r2, na⟩ := upv_ok k1 r1 hu
      have e12 := e1.trans e2
      change PostS K G W B Z Φ D (((fb ρ1').bind uPV).bind (parK2 i j pa')) at h
      -- the first value, a new list, is under guard
      have key : ∃ Φ', Ok K G B Z2 Φ' σ ρ1' H1 ∧ (∀ Z3 H3 ρ3, Ext Z2 Φ' Z3 → Ok K G B Z3 Φ' σ ρ3 H3 → Ext Z2 Φ Z3 ∧ Ok K G B Z3 Φ σ ρ3 H3 ∧ RepP K G Z3 Φ σ ρ3 H3 pa' v) ∧ (∀ xs a, pa' = .fr xs → v = .ref a → Φ' a ≠ none) ∧ Same Φ Φ' := by
        cases pa' with
        | fz d => exact ⟨Φ, k2, fun Z3 H3 ρ3 e3 k3 => ⟨e3, k3, Rep.mono e3.1 _ _ r2⟩, (fun xs a z => nomatch z), Same.refl _⟩
        | fr xs =>
          obtain ⟨a, vs, rfl, f1, f2, f3, f4, f5⟩ := r2
          refine ⟨upd Φ a (.lst vs), ⟨k2.zh, same_upd1 k2.fh f1, k2.len, k2.fz, fun l b ys q => ?_, k2.ne, k2.bw, k2.lb⟩, fun Z3 H3 ρ3 e3 k3 => ?_, (fun ys b z z2 => by cases z2; rw [upd_same]; intro q; cases q), same_newZ f4⟩
          · obtain ⟨c, ws, g1, g2, g3, g4, g5⟩ := k2.ow l b ys q
            have hne : c ≠ a := fun z => f5 l b ys q (by rw [← z]; exact g1)
            exact ⟨c, ws, g1, g2, g3, g4, by rw [upd_ne hne]; exact g5⟩
          · obtain ⟨e3', z3⟩ := Ext.unP e3 f3
            refine ⟨e3', k3.unP f4, a, vs, rfl, k3.fh _ _ upd_same, RepL.mono e3.1 _ _ f2, z3, f4, fun l b ys q s => ?_⟩
            obtain ⟨c, ws, g1, g2, g3, g4, g5⟩ := k3.ow l b ys q
            rw [s] at g1
            cases g1
            rw [upd_same] at g5
            cases g5
        | «at» l => exact absurd rfl (na l)
      obtain ⟨Φ', kΦ, back, guard, sΦ⟩ := key
      refine ⟨B, Z2, Φ', ρ1', kΦ, ?_⟩
      cases hb : fb ρ1' with
      | no => rw [hb] at h; exact h.elim
      | exc x =>
        rw [hb] at h
        intro Z3 H3 cls d e3 s3 f3 rx
        refine h σ k.lb Z3 H3 cls d (e12.trans ⟨e3.1, fun c u q => (e3.2 c u q).elim .inl fun z => .inr (Same.free sΦ z)⟩) s3 (sΦ.trans f3) rx
      | ok p =>
        obtain ⟨pb, ρ2⟩ := p
        rw [hb] at h
        intro Z3 H3 w e3 k3 r3
        change PostS K G W B Z Φ D ((uPV (pb, ρ2)).bind (parK2 i j pa')) at h
        cases hub : uPV (pb, ρ2) with
        | no => rw [hub] at h; exact h.elim
        | exc x => exact (uPV_exc hub).elim
        | ok p =>
          obtain ⟨pb', ρ2'⟩ := p
          rw [hub] at h
          obtain ⟨Z4, e4, k4, r4, nb⟩ := upv_ok k3 r3 hub
          obtain ⟨e5, k5, r5⟩ := back Z4 H3 ρ2' (e3.trans e4) k4
          refine ⟨v, w, rfl, ?_⟩
          change PostS K G W B Z Φ D (parK2 i j pa' (pb', ρ2')) at h
          unfold parK2 at h
          cases hs : setK i (pa', ρ2') with
          | no => rw [hs] at h; exact h.elim
          | exc x => exact (setK_exc hs).elim
          | ok p =>
            obtain ⟨fl, ρ3⟩ := p
            rw [hs] at h
            cases (show fl = .nx from setK_nx hs)
            have h2 : PostS K G W B Z4 Φ { D with nx := fun σ5 H5 => ∀ (kk : Ok K G B Z4 Φ σ5 ρ3 H5) (hH : H5 = H3) (hσ : σ5 = σ.set i (some v)), D.nx (σ5.set j (some w)) H5 } (setK i (pa', ρ2')) := by
              rw [hs]
              intro Z6 σ6 H6 e6 k6 kk hH hσ
              subst hH
              refine set_ok (W := W) (pv := pb') kk ?_ (PostS.ext h (e12.trans e5))
              -- the second value is still what it was
              cases pb' with
              | fz d => exact r4
              | fr ys =>
                obtain ⟨b, us, rfl, g1, g2, g3, g4, g5⟩ := r4
                refine ⟨b, us, rfl, g1, g2, g3, Same.free sΦ g4, fun l c zs q s => ?_⟩
                have hl : ρ3 = ρ2'.set i (match pa' with | .fz d => .fz d | .fr xs => .ow false xs | .at _ => .un) := by
                  cases pa' with
                  | fz d =>
                    simp only [setK] at hs
                    split at hs
                    · rename_i hq
                      cases hs
                      exact (setR_some hq).2.2
                    · cases hs
                  | fr xs =>
                    simp only [setK] at hs
                    split at hs
                    · rename_i hq
                      cases hs
                      exact (setR_some hq).2.2
                    · cases hs
                  | «at» l => exact absurd rfl (na l)
                rw [hl] at q
                rcases get_set_cases q with ⟨z, q'⟩ | ⟨z, q'⟩
                · subst z
                  cases pa' with
                  | fz d => cases q'
                  | fr xs =>
                    cases q'
                    have hll : l < σ.length := by
                      obtain ⟨_, _, f1, _⟩ := kk.ow l false _ (by rw [hl]; exact get_set_self (by rw [← k5.len]; have := (List.getElem?_eq_some_iff.mp s).1; rw [hσ, List.length_set] at this; exact this))
                      have := (List.getElem?_eq_some_iff.mp f1).1
                      rw [hσ, List.length_set] at this
                      exact this
                    rw [hσ, get_set_self hll] at s
                    have s' := Option.some.inj (Option.some.inj s)
                    exact guard _ b rfl (by rw [s']) g4
                  | «at» l => exact absurd rfl (na l)
                · rw [hσ, List.getElem?_set_ne (Ne.symm z)] at s
                  exact g5 l c zs q' s
              | «at» l => exact absurd rfl (nb l)
            have k6 : Ok K G B Z4 Φ (σ.set i (some v)) ρ3 H3 := by
              cases pa' with
              | fz d =>
                simp only [setK] at hs
                split at hs
                · rename_i hq
                  cases hs
                  exact k5.set hq r5
                · cases hs
              | fr xs =>
                simp only [setK] at hs
                split at hs
                · rename_i hq
                  cases hs
                  exact k5.setF hq r5
                · cases hs
              | «at» l => exact absurd rfl (na l)
            exact (set_ok (W := W) k5 r5 h2) k6 rfl rfl
end
end Rf
end
section
set_option Elab.async false
set_option linter.all false
set_option maxRecDepth 100000
set_option maxHeartbeats 4000000
/-! Rf, part H: stores, loops, try, raise, a def as a whole. -/
namespace Rf
open PySem PySem.Spec PyProof.Rows L2
section
variable {X : Cx} {G : Wd} {W : WX} {pos : Pos} {e e2 : Expr}
theorem rs_par {i j : Nat} {x y : Str} {a b : Expr} {fa fb : Ev} {px py pt : Pos} {kt k2 pt2} (hc : X.calm = true) (hN : X.N.Nodup) (hi : X.N[i]? = some x) (hj : X.N[j]? = some y) (hij : i ≠ j)
    (hx : X.env.scope.names.lookup x = some .local) (hy : X.env.scope.names.lookup y = some .local) (ha : PE X a (tE X.K G W fa)) (hb : PE X b (tE X.K G W fb))
    (hw : swappedStores [.Tuple [.Name x px, .Name y py] kt pt] (.Tuple [a, b] k2 pt2) X.env = pure (some [x, y]))
    (h1 : starEach [b] X.env = (false, eval b X.env) :: starEach [] X.env := by rfl) (h2 : starEach [a, b] X.env = (false, eval a X.env) :: starEach [b] X.env := by rfl)
    (hs : swapsWithSole [.Tuple [.Name x px, .Name y py] kt pt] (.Tuple [a, b] k2 pt2) pos.line X.env = pure false := by rfl) :
    PS X (.Assign [.Tuple [.Name x px, .Name y py] kt pt] (.Tuple [a, b] k2 pt2) pos) (tS X.K G W (sPar i j fa fb)) :=
  (ps_par hc hN hi hj hij hx hy (pa_cons ha (pa_cons hb pa_nil h1) h2) hw hs).imp fun D σ H h => ts_par hij h
theorem pgOr {tg : Expr} {t u : TG} (h : PG X tg t) (h' : PG X tg u) : PG X tg (fun v σ H Q => t v σ H Q ∨ u v σ H Q) :=
  ⟨fun pins s σ H v w Q I r q => q.elim (h.run pins s σ H v w Q I r) (h'.run pins s σ H v w Q I r)⟩
theorem bindL_len {ρ' : Rho} : ∀ {is : List Nat} {ds : List D} {ρ : Rho}, bindL is ds ρ = some ρ' → is.length = ds.length
  | [], [], _, _ => rfl
  | i :: is, d :: ds, ρ, h => by
    unfold bindL at h
    split at h
    · rw [List.length_cons, List.length_cons, bindL_len h]
    · cases h
  | [], _ :: _, _, h => by cases h
  | _ :: _, [], _, h => by cases h
theorem rs_unp {is : List Nat} {es : List Expr} {kt : Nat} {pt : Pos} {f : Ev} (he : PE X e (tE X.K G W f)) (hg1 : PG X (.Tuple es kt pt) (L2.gTup X.K is.length (gNames is))) (hg2 : PG X (.Tuple es kt pt) (gUnl X.K is.length (gNames is)))
    (hs : swapsWithSole [.Tuple es kt pt] e pos.line X.env = pure false := by rfl) (hw : swappedStores [.Tuple es kt pt] e X.env = pure none := by rfl)
    (h1 : (assignEach [.Tuple es kt pt] X.env).map (·.2) = [assign (.Tuple es kt pt) X.env] := by rfl) : PS X (.Assign [.Tuple es kt pt] e pos) (tS X.K G W (sUnp is f)) :=
  (ps_asg he (pgOr hg1 hg2) hs hw h1).imp fun D σ H h => ts_bindE h fun B Z Φ ρ1 H1 x pa k r q => by
    dsimp only at q
    cases hu : useV pa ρ1 with
    | none => rw [hu] at q; exact q.elim
    | some p =>
      obtain ⟨d, ρ2⟩ := p
      rw [hu] at q
      obtain ⟨Z2, e2, k2, r2⟩ := k.use r hu
      unfold unpK at q
      split at q
      · rename_i ds ρ3 ee
        cases ee
        split at q
        · rename_i ρ4 hb
          obtain ⟨a, vs, rfl, sa, ra⟩ := r2
          exact .inl ⟨a, vs, rfl, Same.seqT k2.zh sa, by rw [← ra.length, bindL_len hb], names_ok (vs := is) k2 ra hb (fun _ h => h) fun σ' k' _ => q Z2 σ' H1 e2 k'⟩
        · exact q.elim
      · rename_i ds ρ3 ee
        cases ee
        split at q
        · rename_i ρ4 hb
          obtain ⟨a, vs, rfl, sa, ra⟩ := r2
          exact .inr ⟨a, vs, rfl, .inl (.inl (k2.zh _ _ sa)), by rw [← ra.length, bindL_len hb], names_ok (vs := is) k2 ra hb (fun _ h => h) fun σ' k' _ => q Z2 σ' H1 e2 k'⟩
        · exact q.elim
      · exact q.elim
theorem rs_sto {j : Nat} {y : Str} {py px : Pos} {fi f : Ev} (hN : X.N[j]? = some y) (hv : Vis X.env.scope y) (he : PE X e (tE X.K G W f)) (hi : PE X e2 (tE X.K G W fi))
    (h0 : PS X (.Assign [.Subscript (.Name y py) e2 px] e pos) (tAsg (tE X.K G W f) (L2.gSub (tVar j) (tE X.K G W fi) rSetL))) : PS X (.Assign [.Subscript (.Name y py) e2 px] e pos) (tS X.K G W (sSto j fi f)) :=
  h0.imp fun D σ H h => ts_bindE h fun B Z Φ ρ1 H1 x pa k r q => by
    dsimp only at q
    cases hu : useV pa ρ1 with
    | none => rw [hu] at q; exact q.elim
    | some p =>
      obtain ⟨d, ρ2⟩ := p
      rw [hu] at q
      obtain ⟨Z2, e2', k2, r2⟩ := k.use r hu
      dsimp only at q
      split at q
      · rename_i ho
        obtain ⟨c0, xs0, hj0⟩ := isOw_get ho
        obtain ⟨a, vs0, f1, _⟩ := k2.ow _ _ _ hj0
        refine ⟨.ref a, f1, ?_⟩
        have q' : tS X.K G W (fun ρ => (fi ρ).bind (stoK j d)) D σ H1 := ⟨B, Z2, Φ, ρ2, k2, PostS.ext q e2'⟩
        obtain ⟨B', Z0, Φ', ρ0, k0, q0⟩ : ∃ B' Z0 Φ' ρ0, Ok X.K G B' Z0 Φ' σ ρ0 H1 ∧ (PostS X.K G W B' Z0 Φ' D ((fi ρ0).bind (stoK j d)) ∧ Rep X.K G Z0 d x) := ⟨B, Z2, Φ, ρ2, k2, PostS.ext q e2', r2⟩
        refine ⟨B', Z0, Φ', ρ0, k0, ?_⟩
        obtain ⟨q0, r0⟩ := q0
        cases ha : fi ρ0 with
        | no => rw [ha] at q0; exact q0.elim
        | exc x => rw [ha] at q0; exact q0 σ k0.lb
        | ok p =>
          obtain ⟨pi, ρ3⟩ := p
          rw [ha] at q0
          intro Z3 H3 w e3 k3 r3
          change PostS X.K G W B' Z0 Φ' D (stoK j d (pi, ρ3)) at q0
          unfold stoK at q0
          split at q0
          · rename_i n ρ4 ee
            cases ee
            split at q0
            · rename_i c xs hj
              split at q0
              · rename_i m hm
                obtain ⟨a', vs, g1, g2, g3, g4, g5⟩ := k3.ow _ _ _ hj
                rw [f1] at g1
                cases g1
                exact ⟨a, vs, n, m, rfl, r3, g2, by rw [← g3.length]; exact hm, q0 Z3 σ _ e3 (k3.write hj f1 (RepL.set (Rep.mono e3.1 _ _ r0) m g3))⟩
              · exact q0.elim
            · exact q0.elim
          · exact q0.elim
      · exact q.elim
theorem rs_app {j : Nat} {y : Str} {f : Ev} {call : Expr} (h0 : PS X (.Expr call pos) (tDrop (tBM X.K "list" rAppend (tVar j) (tCons (tE X.K G W f) tNil)))) : PS X (.Expr call pos) (tS X.K G W (sApp j f)) :=
  h0.imp fun D σ H h => by
    obtain ⟨B, Z, Φ, ρ, k, h⟩ := h
    unfold sApp at h
    split at h
    · rename_i ho
      obtain ⟨c0, xs0, hj0⟩ := isOw_get ho
      obtain ⟨a, vs0, f1, f2, _⟩ := k.ow _ _ _ hj0
      refine ⟨.ref a, f1, .inl ⟨rfl, _, .inl (.inl f2)⟩, ?_⟩
      have h' : tS X.K G W (fun ρ => (f ρ).bind fun (pv, ρ1) => appK j (useV pv ρ1)) D σ H := ⟨B, Z, Φ, ρ, k, h⟩
      refine ts_bindE h' fun B Z Φ ρ1 H1 x pa k r q => ?_
      dsimp only at q
      cases hu : useV pa ρ1 with
      | none => rw [hu] at q; exact q.elim
      | some p =>
        obtain ⟨d, ρ2⟩ := p
        rw [hu] at q
        obtain ⟨Z2, e2, k2, r2⟩ := k.use r hu
        unfold appK at q
        dsimp only at q
        split at q
        · rename_i c xs hj
          split at q
          · rename_i hz
            obtain ⟨a', vs, g1, g2, g3, g4, g5⟩ := k2.ow _ _ _ hj
            rw [f1] at g1
            cases g1
            exact ⟨a, vs, x, rfl, rfl, g2, by rw [← g3.length]; exact szOk_lt hz, q Z2 σ _ e2 (k2.write hj f1 (g3.append ⟨x, [], rfl, r2, rfl⟩))⟩
          · exact q.elim
        · exact q.elim
    · exact h.elim

/-! ### loops -/
theorem rs_for {tg iter : Expr} {body : List Stmt} {fi : Ei} {t : Tg} {fb : Es} (hp : PassesOwn (model X.prog X.w) X.A X.env X.xe) (hc : X.calm = true) (hi : PI X tg iter (tI X.K G W fi)) (hg : PG X tg (tgR X.K t)) (hb : PSs X body (tS X.K G W fb))
    (h0 : PS X (.For tg iter body [] pos) (tFor (tI X.K G W fi) (tgR X.K t) (tS X.K G W fb))) : PS X (.For tg iter body [] pos) (tS X.K G W (sFor fi t fb)) :=
  h0.imp fun D σ H h => by
    refine ts_bindI h fun B Z Φ ρ1 H1 J ds k it q => ?_
    dsimp only at q
    have w : Walk J ds.length (fun H => Same Z H) (fun i H x H' => ∀ d Z1, ds[i]? = some d → Same Z Z1 → Same Z1 H → ∃ Z2, Stp X.K G Z1 H (.fz d) x Z2 H') :=
      ⟨it.goes, it.stops, fun i H x H' _ _ y d Z1 e s s1 => it.yields i H x H' d Z1 e s s1 y⟩
    refine for_it w (fun i σ' H => ∃ Zi ρi, Ok X.K G B Zi Φ σ' ρi H ∧ Ext Z Φ Zi ∧ PostS X.K G W B Zi Φ D (forGo t fb (ds.drop i) ρi)) ?_ ?_ ?_ ?_
    · exact ⟨Z, ρ1, k, Ext.refl, q⟩
    · intro i σ' H hi ⟨Zi, ρi, ki, ei, _⟩
      exact ei.1.trans ki.zh
    · intro i x σ' H H' hi ⟨Zi, ρi, ki, ei, qi⟩ y
      rw [List.drop_eq_getElem_cons hi] at qi
      obtain ⟨Z2, st⟩ := y ds[i] Zi (List.getElem?_eq_getElem hi) ei.1 ki.zh
      obtain ⟨e2, k2, r2⟩ := st.ok ki
      unfold forGo at qi
      cases hb' : bindT t ds[i] ρi with
      | none => rw [hb'] at qi; exact qi.elim
      | some ρ2 =>
        rw [hb'] at qi
        refine tg_ok (vs := t.vs) k2 r2 hb' (fun _ h => h) fun σ2 k3 _ => ⟨B, Z2, Φ, ρ2, k3, ?_⟩
        have qi' := PostS.ext qi e2
        dsimp only at qi'
        cases hf : fb ρ2 with
        | no => rw [hf] at qi'; exact qi'.elim
        | exc x => rw [hf] at qi'; exact qi'
        | ok p =>
          obtain ⟨fl, ρ3⟩ := p
          rw [hf] at qi'
          cases fl with
          | nx => exact fun Z4 σ4 H4 e4 k4 => ⟨Z4, ρ3, k4, ei.trans (e2.trans e4), PostS.ext qi' e4⟩
          | ct => exact fun Z4 σ4 H4 e4 k4 => ⟨Z4, ρ3, k4, ei.trans (e2.trans e4), PostS.ext qi' e4⟩
          | bk => exact fun Z4 σ4 H4 e4 k4 => qi' Z4 σ4 H4 e4 k4
          | rt pv => exact fun Z4 σ4 H4 v e4 k4 r4 => qi' Z4 σ4 H4 v e4 k4 r4
    · intro σ' H ⟨Zi, ρi, ki, ei, qi⟩
      rw [List.drop_length] at qi
      exact qi Zi σ' H Ext.refl ki
theorem rs_while {n : Nat} {c : Expr} {body : List Stmt} {tc : Et} {fb : Es} (hp : PassesOwn (model X.prog X.w) X.A X.env X.xe) (hc : PT X c (tT X.K G W tc)) (hb : PSs X body (tS X.K G W fb)) : PS X (.While c body [] pos) (tS X.K G W (sWhile n tc fb)) :=
  (ps_while hp hc hb).imp fun D σ H h => by
    obtain ⟨B, Z, Φ, ρ, k, h⟩ := h
    refine ⟨fun m σ H => ∃ Zi ρi, Ok X.K G B Zi Φ σ ρi H ∧ Ext Z Φ Zi ∧ PostS X.K G W B Zi Φ D (whGo tc fb m ρi), ⟨n, Z, ρ, k, Ext.refl, h⟩, fun m σ1 H1 ⟨Zi, ρi, ki, ei, qi⟩ => ?_⟩
    cases m with
    | zero => exact qi.elim
    | succ m =>
      refine ⟨B, Zi, Φ, ρi, ki, ?_⟩
      unfold whGo at qi
      cases ht : tc ρi with
      | no => rw [ht] at qi; exact qi.elim
      | exc x => rw [ht] at qi; exact qi σ1 ki.lb
      | ok p =>
        obtain ⟨b, ρ2⟩ := p
        rw [ht] at qi
        intro Z2 H2 e2 k2
        cases b with
        | false => exact iteF (qi Z2 σ1 H2 e2 k2)
        | true =>
          refine iteT ⟨fun σ' H' => ∃ Zi ρi, Ok X.K G B Zi Φ σ' ρi H' ∧ Ext Z Φ Zi ∧ PostS X.K G W B Zi Φ D (whGo tc fb m ρi), fun σ' H' hn => ⟨m, Nat.lt_succ_self m, hn⟩, B, Z2, Φ, ρ2, k2, ?_⟩
          have qi' := PostS.ext qi e2
          dsimp only at qi'
          cases hf : fb ρ2 with
          | no => rw [hf] at qi'; exact qi'.elim
          | exc x => rw [hf] at qi'; exact qi'
          | ok p =>
            obtain ⟨fl, ρ3⟩ := p
            rw [hf] at qi'
            cases fl with
            | nx => exact fun Z4 σ4 H4 e4 k4 => ⟨Z4, ρ3, k4, ei.trans (e2.trans e4), PostS.ext qi' e4⟩
            | ct => exact fun Z4 σ4 H4 e4 k4 => ⟨Z4, ρ3, k4, ei.trans (e2.trans e4), PostS.ext qi' e4⟩
            | bk => exact fun Z4 σ4 H4 e4 k4 => qi' Z4 σ4 H4 e4 k4
            | rt pv => exact fun Z4 σ4 H4 v e4 k4 r4 => qi' Z4 σ4 H4 v e4 k4 r4

/-! ### raise Malformed('..') -/
def sMal : Es := fun _ => .exc .mal
theorem rs_mal {x m : Str} {j : Nat} {p p2 pos2 : Pos} {C : Addr} {bmB : List Value} {Bs newId initId : String} (hC : G.clA 0 = C) (hc : X.calm = true) (tk : Takes X W) (F : ExcBaseFacts Bs newId initId bmB) (q : PySem.W.excIn X.K C bmB newId = true) (gC : X.mg x = some (.ref C))
    (kC : PySem.W.keepIn X.K (.ref C) = true) (r : Raises X (.ref C)) (hg : Gl X x) (hdb : (x == ("__debug__" : Str)) = false := by decide) : PS X (.Raise (some (.Call (.Name x p) [.Constant (.str m) j p2] [] pos)) none pos2) (tS X.K G W sMal) :=
  (ps_raise hc tk (pmk_own F q gC kC r hg hdb)).imp fun D σ H h => by
    obtain ⟨B, Z, Φ, ρ, k, h⟩ := h
    exact h σ k.lb Z H _ _ Ext.refl k.zh k.fh (by rw [← hC]; rfl)
end

/-! ### a def -/
/-- what a body is worth as a function of data -/
def outF : R (Fl × Rho) → R PV
  | .ok (.nx, _) => .ok (.fz .non)
  | .ok (.rt (.fz d), _) => .ok (.fz d)
  | .ok (.rt (.fr xs), _) => .ok (.fr xs)
  | .exc x => .exc x
  | _ => .no
def startR (N : Nat) (ds : List D) : Rho := ds.map .fz ++ List.replicate (N - ds.length) .un
def fnOf (N : Nat) (f : Es) : Fn := fun ds => outF (f (startR N ds))
def lent (pv : PV) (ρ : Rho) : R (PV × List D) := match ρ[(0 : Nat)]? with
  | some (.ow true xs) => .ok (pv, xs)
  | _ => .no
theorem lent_ok {pv : PV} {ρ : Rho} : lent pv ρ = .no ∨ ∃ xs, ρ[(0 : Nat)]? = some (.ow true xs) ∧ lent pv ρ = .ok (pv, xs) := by
  unfold lent
  split
  · rename_i xs e
    exact .inr ⟨xs, e, rfl⟩
  · exact .inl rfl
def outB : R (Fl × Rho) → R (PV × List D)
  | .ok (.nx, ρ) => lent (.fz .non) ρ
  | .ok (.rt (.fz d), ρ) => lent (.fz d) ρ
  | .ok (.rt (.fr ys), ρ) => lent (.fr ys) ρ
  | _ => .no
def fnBOf (N : Nat) (f : Es) : FnB := fun xs ds => outB (f (.ow true xs :: ds.map .fz ++ List.replicate (N - (ds.length + 1)) .un))
section
variable {K : PySem.W.Frag} {G : Wd} {Z Φ H : Hp}
theorem RepL.getV : ∀ {ds : List D} {vs : List V} {i : Nat} {d : D}, RepL K G Z ds vs → ds[i]? = some d → ∃ v, vs[i]? = some v ∧ Rep K G Z d v := fun r e => r.get e
theorem start_ok {N : List Str} {ds : List D} {vs : List V} (zh : Same Z H) (fh : Same Φ H) (r : RepL K G Z ds vs) : Ok K G (L2.start N vs) Z Φ (L2.start N vs) (startR N.length ds) H := by
  have hl := r.length
  have el : (L2.start N vs).length = (startR N.length ds).length := by
    unfold L2.start startR
    simp only [List.length_append, List.length_map, List.length_replicate]
    omega
  have cs : ∀ (i : Nat) (c : Cell), (startR N.length ds)[i]? = some c → c = .un ∨ ∃ d, ds[i]? = some d ∧ c = .fz d := fun i c e => by
    unfold startR at e
    rw [List.getElem?_append] at e
    split at e
    · rw [List.getElem?_map, Option.map_eq_some_iff] at e
      obtain ⟨d, h1, h2⟩ := e
      exact .inr ⟨d, h1, h2.symm⟩
    · rw [List.getElem?_replicate] at e
      split at e
      · cases e; exact .inl rfl
      · cases e
  refine ⟨zh, fh, el, fun i d e => ?_, fun i b xs e => ?_, fun i j b c xs ys a _ e _ => ?_, fun i xs e => ?_, rfl⟩
  · rcases cs i _ e with z | ⟨d', h1, h2⟩
    · cases z
    · cases h2
      obtain ⟨v, h3, h4⟩ := r.get h1
      refine ⟨v, ?_, h4⟩
      unfold L2.start
      rw [List.getElem?_append_left (by rw [List.length_map]; exact (List.getElem?_eq_some_iff.mp h3).1), List.getElem?_map, h3]
      rfl
  · rcases cs i _ e with z | ⟨_, _, z⟩ <;> cases z
  · rcases cs i _ e with z | ⟨_, _, z⟩ <;> cases z
  · rcases cs i _ e with z | ⟨_, _, z⟩ <;> cases z
theorem startB_ok {N : List Str} {ds xs : List D} {a : Addr} {vs us : List V} (zh : Same Z H) (fh : Same Φ H) (r : RepL K G Z ds vs) (h1 : H a = some (.lst us)) (h2 : RepL K G Z xs us) (h3 : Z a = none) (h4 : Φ a = none) :
    Ok K G (L2.start N (.ref a :: vs)) Z Φ (L2.start N (.ref a :: vs)) (.ow true xs :: ds.map .fz ++ List.replicate (N.length - (ds.length + 1)) .un) H := by
  have hl := r.length
  have el : (L2.start N (.ref a :: vs)).length = (Cell.ow true xs :: ds.map Cell.fz ++ List.replicate (N.length - (ds.length + 1)) Cell.un).length := by
    unfold L2.start
    simp only [List.length_append, List.length_map, List.length_replicate, List.length_cons]
    omega
  have s0 : (L2.start N (.ref a :: vs))[(0 : Nat)]? = some (some (.ref a)) := rfl
  have cs : ∀ (i : Nat) (c : Cell), (Cell.ow true xs :: ds.map Cell.fz ++ List.replicate (N.length - (ds.length + 1)) Cell.un)[i]? = some c → (i = 0 ∧ c = .ow true xs) ∨ c = .un ∨ ∃ j d, i = j + 1 ∧ ds[j]? = some d ∧ c = .fz d := fun i c e => by
    cases i with
    | zero => exact .inl ⟨rfl, by simpa using e.symm⟩
    | succ j =>
      rw [List.cons_append, List.getElem?_cons_succ, List.getElem?_append] at e
      split at e
      · rw [List.getElem?_map, Option.map_eq_some_iff] at e
        obtain ⟨d, h1, h2⟩ := e
        exact .inr (.inr ⟨j, d, rfl, h1, h2.symm⟩)
      · rw [List.getElem?_replicate] at e
        split at e
        · cases e; exact .inr (.inl rfl)
        · cases e
  refine ⟨zh, fh, el, fun i d e => ?_, fun i b ys e => ?_, fun i j b c ys zs w hne e1 e2 => ?_, fun i ys e => rfl, rfl⟩
  · rcases cs i _ e with ⟨_, z⟩ | z | ⟨j, d', rfl, g1, g2⟩
    · cases z
    · cases z
    · cases g2
      obtain ⟨v, g3, g4⟩ := r.get g1
      refine ⟨v, ?_, g4⟩
      unfold L2.start
      rw [List.map_cons, List.cons_append, List.getElem?_cons_succ, List.getElem?_append_left (by rw [List.length_map]; exact (List.getElem?_eq_some_iff.mp g3).1), List.getElem?_map, g3]
      rfl
  · rcases cs i _ e with ⟨rfl, z⟩ | z | ⟨j, d', rfl, g1, g2⟩
    · cases z
      exact ⟨a, us, s0, h1, h2, h3, h4⟩
    · cases z
    · cases g2
  · rcases cs i _ e1 with ⟨rfl, z⟩ | z | ⟨_, d', rfl, g1, g2⟩
    · rcases cs j _ e2 with ⟨rfl, z⟩ | z | ⟨_, d', rfl, g1, g2⟩
      · exact absurd rfl hne
      · cases z
      · cases g2
    · cases z
    · cases g2
end
section
variable {P : Program} {w : World} {K : PySem.W.Frag} {mg : Str → Option Value} {base : Heap} {x qual : Str} {st : Stmt} {f : Addr} {fd : FuncData} {N ps : List Str} {k : Nat} {G : Wd}
/-- a def keeps what its body's term is worth -/
theorem fn_ok {fb : Es} (F : Fun K x qual st f fd) (S : FnScope N ps (defScope st)) (hb : ∀ (cdv : Value) (A : Around) (outer : List Env) (s : Shared) (H : Hp) (E : XK), Room k (A.deeper (envOfC qual (defScope st) s.heap.objs.size f cdv)) →
      PSs (cxOf (L2.CX P w) P w K mg base N qual (defScope st) f cdv A outer s H E) (defBody st) (tS K G (fun cls d _ H => E cls d H) fb)) : FnOk P w K mg base (L2.CX P w) (k + 1) f fd ps (spF K G ps.length (fnOf N.length fb)) := by
  refine F.okX S (spF_len rfl) (fun cdv A outer s H vs Q E hr h => ⟨_, hb cdv A outer s H E hr, ?_⟩)
  obtain ⟨Z, Φ, ds, zh, fh, r, hl, q⟩ := h
  refine ⟨L2.start N vs, Z, Φ, startR N.length ds, start_ok zh fh r, ?_⟩
  unfold fnOf at q
  cases hf : fb (startR N.length ds) with
  | no => rw [hf] at q; exact q.elim
  | exc x => rw [hf] at q; exact fun σ' _ => q
  | ok p =>
    obtain ⟨fl, ρ1⟩ := p
    rw [hf] at q
    cases fl with
    | nx => exact fun Z1 σ1 H1 e1 k1 => q Z1 H1 .non e1 k1.zh k1.fh rfl
    | bk => exact q.elim
    | ct => exact q.elim
    | rt pv =>
      cases pv with
      | fz d => exact fun Z1 σ1 H1 v e1 k1 r1 => q Z1 H1 v e1 k1.zh k1.fh r1
      | fr xs =>
        intro Z1 σ1 H1 v e1 k1 r1
        obtain ⟨a, us, ev, g1, g2, g3, g4, _⟩ := r1
        exact q Z1 H1 v e1 k1.zh k1.fh ⟨a, us, ev, g1, g2, g3, g4⟩
      | «at» i => exact q.elim
theorem fnB_ok {fb : Es} {n : Nat} (F : Fun K x qual st f fd) (S : FnScope N ps (defScope st)) (hn : ps.length = n) (hb : ∀ (cdv : Value) (A : Around) (outer : List Env) (s : Shared) (H : Hp) (E : XK), Room k (A.deeper (envOfC qual (defScope st) s.heap.objs.size f cdv)) →
      PSs (cxOf (L2.CX P w) P w K mg base N qual (defScope st) f cdv A outer s H E) (defBody st) (tS K G (fun cls d _ H => E cls d H) fb)) : FnOk P w K mg base (L2.CX P w) (k + 1) f fd ps (spB K G n (fnBOf N.length fb)) := by
  refine F.okX S (spB_len hn) (fun cdv A outer s H vs Q E hr h => ⟨_, hb cdv A outer s H E hr, ?_⟩)
  obtain ⟨Z, Φ, a, ws, us, xs, ds, rfl, h1, h2, h3, h4, zh, fh, r, hl, q⟩ := h
  have s0 : (L2.start N (.ref a :: ws))[(0 : Nat)]? = some (some (.ref a)) := rfl
  refine ⟨_, Z, Φ, _, startB_ok zh fh r h1 h2 h3 h4, ?_⟩
  unfold fnBOf at q
  cases hf : fb (.ow true xs :: ds.map .fz ++ List.replicate (N.length - (ds.length + 1)) .un) with
  | no => rw [hf] at q; exact q.elim
  | exc x => rw [hf] at q; exact q.elim
  | ok p =>
    obtain ⟨fl, ρ1⟩ := p
    rw [hf] at q
    have own : ∀ {ys : List D} {Z1 : Hp} {σ1 : L2.St} {H1 : Hp}, ρ1[(0 : Nat)]? = some (.ow true ys) → Ok K G (L2.start N (.ref a :: ws)) Z1 Φ σ1 ρ1 H1 → ∃ vs', H1 a = some (.lst vs') ∧ RepL K G Z1 ys vs' ∧ Z1 a = none ∧ σ1[(0 : Nat)]? = some (some (.ref a)) := fun {ys Z1 σ1 H1} e k1 => by
      obtain ⟨a', vs', g1, g2, g3, g4, g5⟩ := k1.ow _ _ _ e
      have e0 := k1.bw _ _ e
      rw [e0, s0] at g1
      cases g1
      exact ⟨vs', g2, g3, g4, e0.trans s0⟩
    cases fl with
    | nx =>
      change PostB K G Z Φ a Q (lent (.fz .non) ρ1) at q
      rcases lent_ok (pv := .fz .non) (ρ := ρ1) with e0 | ⟨ys, e0, el⟩
      · rw [e0] at q; exact q.elim
      · rw [el] at q
        intro Z1 σ1 H1 e1 k1
        obtain ⟨vs', g2, g3, g4, _⟩ := own e0 k1
        exact q Z1 H1 .non vs' e1 k1.zh k1.fh g2 g3 g4 rfl
    | bk => exact q.elim
    | ct => exact q.elim
    | rt pv =>
      cases pv with
      | fz d =>
        change PostB K G Z Φ a Q (lent (.fz d) ρ1) at q
        rcases lent_ok (pv := .fz d) (ρ := ρ1) with e0 | ⟨ys, e0, el⟩
        · rw [e0] at q; exact q.elim
        · rw [el] at q
          intro Z1 σ1 H1 v e1 k1 r1
          obtain ⟨vs', g2, g3, g4, _⟩ := own e0 k1
          exact q Z1 H1 v vs' e1 k1.zh k1.fh g2 g3 g4 r1
      | fr zs =>
        change PostB K G Z Φ a Q (lent (.fr zs) ρ1) at q
        rcases lent_ok (pv := .fr zs) (ρ := ρ1) with e0 | ⟨ys, e0, el⟩
        · rw [e0] at q; exact q.elim
        · rw [el] at q
          intro Z1 σ1 H1 v e1 k1 r1
          obtain ⟨vs', g2, g3, g4, g5⟩ := own e0 k1
          obtain ⟨b, us', ev, f1, f2, f3, f4, f5⟩ := r1
          exact q Z1 H1 v vs' e1 k1.zh k1.fh g2 g3 g4 ⟨b, us', ev, f1, f2, f3, f4, fun z => f5 0 _ _ e0 (by rw [z]; exact g5)⟩
      | «at» i => exact q.elim
end
end Rf
end
section
set_option Elab.async false
set_option linter.all false
set_option maxRecDepth 100000
set_option maxHeartbeats 4000000
/-! Rf, part I: try with two clauses, the second one with a name. -/
namespace Rf
open PySem PySem.Spec PyProof.Rows L2

/-- behind a named clause its name is gone -/
def Dn (i : Nat) (D : Ends) : Ends := { nx := fun σ H => D.nx (σ.set i none) H, rt := D.rt, bk := fun σ H => D.bk (σ.set i none) H, ct := fun σ H => D.ct (σ.set i none) H }
def wTwo (K : PySem.W.Frag) (c1 c2 : Value) (i : Nat) (ts1 ts2 : Addr → Value → Option Addr → TS) (D : Ends) : WX := fun cls d σ H =>
  (PySem.W.exmOne K cls c1 = some true ∧ ∀ a, H a = none → ts1 a cls d D σ H) ∨
  (PySem.W.exmOne K cls c1 = some false ∧ PySem.W.exmOne K cls c2 = some true ∧ ∀ a, H a = none → ts2 a cls d (Dn i D) (σ.set i (some (.ref a))) H)
section
variable {X : Cx} {x1 x2 n : Str} {c1 c2 : Value} {i : Nat} {body s1 s2 : List Stmt} {b1 b2 : Stmt} {np1 np2 pos p1 p2 : Pos} {tb : WX → TS} {ts1 ts2 : Addr → Value → Option Addr → TS}
/-- the exception's object is none of the frames' -/
theorem fly_apart {B h : Heap} {a : Addr} {o : Obj} {vs : Array Value} (ff : h.FunFrames B (X.env :: X.outer)) (hf : X.env.frame = some X.env.locals) (e : h.get? a = some o) (dd : o.data = .fields vs) : a ≠ X.env.locals ∧ a ∉ X.fs := by
  have nfr : a ∉ frs (X.env :: X.outer) := fun hm => by
    obtain ⟨_, o', e', hnf⟩ := ff.mem hm
    rw [e] at e'
    cases e'
    exact hnf _ dd
  constructor
  · intro z
    exact nfr (List.mem_filterMap.mpr ⟨X.env, List.mem_cons_self, by rw [hf, z]⟩)
  · intro hm
    obtain ⟨e, he, q⟩ := List.mem_filterMap.mp hm
    exact nfr (List.mem_filterMap.mpr ⟨e, List.mem_cons_of_mem _ he, q⟩)
/-- a clause's class is read -/
theorem name_read {x : Str} {c : Value} {np : Pos} {a : Addr} {pn : List (Addr × Obj)} {σ : L2.St} {H : Hp} {s : Shared} (hc : Names X x c) (S : Inv (X.suite a pn) [] σ H s) {Q : Value → Shared → Prop} {E : Value → Shared → Prop} (q : Q c s) :
    wpAny (model X.prog X.w) (X.A.mark (some (.ref a))) (eval (.Name x np) X.env) Q E s := by
  obtain ⟨hg, hdbg, hm | ⟨hm, hv, hnn⟩⟩ := hc
  · exact ld_glob (X := X.suite a pn) S hg hm q hdbg
  · exact ld_blt (X := X.suite a pn) S hg hm hv q hnn hdbg
theorem ps_try2 (hs : X.stack = X.env :: X.outer) (hf : X.env.frame = some X.env.locals) (hN : X.N.Nodup) (hi : X.N[i]? = some n) (hln : X.env.kindOf n = some .local) (hc1 : Names X x1 c1) (hc2 : Names X x2 c2)
    (hb : ∀ (W : WX) (pn : List (Addr × Obj)) (xe : Value → Shared → Prop), Takes (X.tr pn xe) W → PassesOwn (model X.prog X.w) X.A X.env xe → PSs (X.tr pn xe) body (tb W))
    (h1 : ∀ (a : Addr) (oe : Obj) (cls : Value) (d : Option Addr) (pn : List (Addr × Obj)), Zc cls d oe → (∃ vs, oe.data = .fields vs) → PSs (X.suite a ((a, oe) :: pn)) (b1 :: s1) (ts1 a cls d))
    (h2 : ∀ (a : Addr) (oe : Obj) (cls : Value) (d : Option Addr) (pn : List (Addr × Obj)), Zc cls d oe → (∃ vs, oe.data = .fields vs) → PSs (X.suite a ((a, oe) :: pn)) (b2 :: s2) (ts2 a cls d)) :
    PS X (.Try body [.ExceptHandler (some (.Name x1 np1)) none (b1 :: s1) p1, .ExceptHandler (some (.Name x2 np2)) (some n) (b2 :: s2) p2] [] [] pos) (fun D σ H => tb (wTwo X.K c1 c2 i ts1 ts2 D) D σ H) := by
  refine ⟨fun pins s σ H D I h => wpAny_Try_except ?_⟩
  have ok := I.ok
  have hfr : X.A.frames = some (X.env :: X.outer) := by rw [ok.frames, hs]
  have hloc : Loc X.env.scope n := .inl hln
  refine wpAny_mono ((hb (wTwo X.K c1 c2 i ts1 ts2 D) (X.pn ++ pins) _ (fun u s' xx => ?_) PassesOwn.looking).run [] s σ H D (I.toTry _) h) (fun f t1 hsp => ?_) (fun e t1 he => he)
  · obtain ⟨a, B, sI, pins', σ', H', cls, d, rfl, J', nb, up, sky, na, os, ag, wish⟩ := xx
    have J : Inv X pins σ' H' sI := J'.ofTry ok
    have sky' : Sky B (X.env :: X.outer) a (Zc cls d) X.env.locals s'.heap := by
      rw [← hs]
      exact sky
    show wpAny (model X.prog X.w) X.A (noteFrame (.ref a) X.env) _ _ _
    refine Sky.land Zc.steady hfr hf sky' fun h3 fl3 up3 => ?_
    have J3 : Inv X pins σ' H' { s' with heap := h3 } := J.landed nb fl3.1 (up.trans up3) os ag
    obtain ⟨oe3, vs3, he3, hz3, hd3⟩ := fl3.there
    obtain ⟨nL, nF⟩ := fly_apart fl3.2.2.1 hf he3 hd3
    have S3 := J3.suite he3 hd3 na nL nF
    have LT : PySem.W.Looks (model X.prog X.w) h3 (typeOf (.ref a)) cls := fun A Q E s k q => wpAny_typeOf_ref (k _ _ he3) (by rw [hz3.1]; exact q)
    refine wpAny_handleBy_cons (codeAny_handlers_test ?_) (by intro q; cases q)
    rcases wish with ⟨e1, w1⟩ | ⟨e1, e2, w2⟩
    · refine name_read hc1 S3 ((PySem.W.exm_one (M := model X.prog X.w) J3.kIn LT e1).here (codeAny_handlers_suite ?_))
      refine HandSPX.lands_againZ fl3 fun h4 fl4 up4 => ?_
      have J4 : Inv X pins σ' H' { s' with heap := h4 } := J.landed nb fl4.1 ((up.trans up3).trans up4) os ag
      obtain ⟨oe4, vs4, he4, hz4, hd4⟩ := fl4.there
      have S4 := J4.suite he4 hd4 na nL nF
      refine wpAny_mono ((h1 a oe4 cls d (X.pn ++ pins) hz4 ⟨_, hd4⟩).run [] _ _ H' _ S4 (w1 a na)) (fun f s6 hsp => ?_) (fun _ _ z => False.elim z)
      cases f with
      | ret u =>
        obtain ⟨v6, σ6, H6, S6, r6, q6⟩ := hsp
        exact ⟨v6, σ6, H6, S6.unsuite ok, r6, q6⟩
      | _ =>
        obtain ⟨σ6, H6, S6, q6⟩ := hsp
        exact ⟨σ6, H6, S6.unsuite ok, q6⟩
    · refine name_read hc1 S3 ((PySem.W.exm_one (M := model X.prog X.w) J3.kIn LT e1).here ?_)
      show wpAny _ X.A (handleBy (.ref a) X.env [.ExceptHandler (some (.Name x2 np2)) (some n) (b2 :: s2) p2]) _ _ _
      refine wpAny_handleBy_cons (codeAny_handlers_test ?_) (by intro q; cases q)
      refine name_read hc2 S3 ((PySem.W.exm_one (M := model X.prog X.w) J3.kIn LT e2).here (codeAny_handlers_suite_as ?_))
      refine HandSPX.lands_againZ fl3 fun h4 fl4 up4 => ?_
      have J4 : Inv X pins σ' H' { s' with heap := h4 } := J.landed nb fl4.1 ((up.trans up3).trans up4) os ag
      obtain ⟨oe4, vs4, he4, hz4, hd4⟩ := fl4.there
      have S4 := J4.suite he4 hd4 na nL nF
      refine store_ok (X := X.suite a ((a, oe4) :: (X.pn ++ pins))) (v := .ref a) S4 hN hi hloc rfl (fun s5 S5 => ?_) (.inr hln)
      refine wpAny_mono ((h2 a oe4 cls d (X.pn ++ pins) hz4 ⟨_, hd4⟩).run [] s5 _ H' _ S5 (w2 a na)) (fun f s6 hsp => ?_) (fun _ _ z => False.elim z)
      have gone : ∀ {σ6 : L2.St} {H6 : Hp} {Q : Shared → Prop}, Inv (X.suite a ((a, oe4) :: (X.pn ++ pins))) [] σ6 H6 s6 → (∀ s7, Inv X pins (σ6.set i none) H6 s7 → Q s7) →
          wpAny (model X.prog X.w) X.A (do bindName X.env n .none; unbindBehindTheSuite X.env n p2) (fun _ s7 => Q s7) X.xe s6 := fun S6 hq => gone_ok (S6.unsuite ok) hN hi hln hq
      cases f with
      | ret u =>
        obtain ⟨v6, σ6, H6, S6, r6, q6⟩ := hsp
        exact gone S6 fun s7 J7 => ⟨_, _, _, J7, r6, q6⟩
      | _ =>
        obtain ⟨σ6, H6, S6, q6⟩ := hsp
        exact gone S6 fun s7 J7 => ⟨_, _, J7, q6⟩
  · cases f with
    | next =>
      obtain ⟨σ', H', J', q⟩ := hsp
      exact wpAny_execs_nil ⟨σ', H', J'.ofTry ok, q⟩
    | ret u =>
      obtain ⟨v, σ', H', J', r, q⟩ := hsp
      exact ⟨v, σ', H', J'.ofTry ok, r, q⟩
    | _ =>
      obtain ⟨σ', H', J', q⟩ := hsp
      exact ⟨σ', H', J'.ofTry ok, q⟩
end
/-- the try over data: the suites only return: d1, and d2 of the reason -/
def tryK (n : Nat) (d1 : D) (d2 : Str → Option D) : R (Fl × Rho) → R (Fl × Rho)
  | .ok r => .ok r
  | .exc .mal => .ok (.rt (.fz d1), List.replicate n .un)
  | .exc (.rfd x) => match d2 x with
    | some d => .ok (.rt (.fz d), List.replicate n .un)
    | none => .no
  | .no => .no
def sTry (n : Nat) (d1 : D) (d2 : Str → Option D) (fb : Es) : Es := fun ρ => tryK n d1 d2 (fb ρ)
theorem ok_un {K : PySem.W.Frag} {G : Wd} {Z Φ H : Hp} {σ : L2.St} {n : Nat} (zh : Same Z H) (fh : Same Φ H) (hl : σ.length = n) : Ok K G σ Z Φ σ (List.replicate n .un) H := by
  have un : ∀ (i : Nat) (c : Cell), (List.replicate n Cell.un)[i]? = some c → c = .un := fun i c e => by
    rw [List.getElem?_replicate] at e
    split at e
    · cases e; rfl
    · cases e
  refine ⟨zh, fh, by rw [List.length_replicate]; exact hl, fun i d e => ?_, fun i b xs e => ?_, fun i j b c xs ys a _ e _ => ?_, fun i xs e => ?_, rfl⟩
  · cases un i _ e
  · cases un i _ e
  · cases un i _ e
  · cases un i _ e
section
variable {X : Cx} {G : Wd} {W : WX} {x1 x2 n : Str} {c1 c2 : Value} {i nn : Nat} {body s1 s2 : List Stmt} {b1 b2 : Stmt} {np1 np2 pos p1 p2 : Pos} {fb f1 : Es} {d1 : D} {d2 : Str → Option D}
theorem rs_try (hs : X.stack = X.env :: X.outer) (hf : X.env.frame = some X.env.locals) (hN : X.N.Nodup) (hi : X.N[i]? = some n) (hln : X.env.kindOf n = some .local) (hc1 : Names X x1 c1) (hc2 : Names X x2 c2)
    (hb : ∀ (W : WX) (pn : List (Addr × Obj)) (xe : Value → Shared → Prop), Takes (X.tr pn xe) W → PassesOwn (model X.prog X.w) X.A X.env xe → PSs (X.tr pn xe) body (tS X.K G W fb))
    {ts2 : Addr → Value → Option Addr → TS}
    (h1 : ∀ (a : Addr) (oe : Obj) (cls : Value) (d : Option Addr) (pn : List (Addr × Obj)), Zc cls d oe → (∃ vs, oe.data = .fields vs) → PSs (X.suite a ((a, oe) :: pn)) (b1 :: s1) (tS X.K G W0 f1))
    (h2 : ∀ (a : Addr) (oe : Obj) (cls : Value) (d : Option Addr) (pn : List (Addr × Obj)), Zc cls d oe → (∃ vs, oe.data = .fields vs) → PSs (X.suite a ((a, oe) :: pn)) (b2 :: s2) (ts2 a cls d))
    (e1 : f1 (List.replicate nn .un) = .ok (.rt (.fz d1), List.replicate nn .un))
    (e2 : ∀ (De : Ends) (σ : L2.St) (Z Φ H : Hp) (cls : Value) (d : Option Addr) (a : Addr) (x : Str) (dd : D), d2 x = some dd → σ.length = nn → H a = none → RepX G H (.rfd x) cls d → Same Z H → Same Φ H →
      (∀ Z' H' v, Ext Z Φ Z' → Same Z' H' → Same Φ H' → Rep X.K G Z' dd v → De.rt v H') → ts2 a cls d (Dn i De) (σ.set i (some (.ref a))) H)
    (m1 : PySem.W.exmOne X.K (.ref (G.clA 0)) c1 = some true) (m2 : (∃ x dd, d2 x = some dd) → PySem.W.exmOne X.K (.ref (G.clA 1)) c1 = some false ∧ PySem.W.exmOne X.K (.ref (G.clA 1)) c2 = some true) (hnn : X.N.length = nn)
    (hl : ∀ (σ : L2.St) (ρ : Rho), σ.length = ρ.length → ρ.length = nn → True := fun _ _ _ _ => True.intro) :
    PS X (.Try body [.ExceptHandler (some (.Name x1 np1)) none (b1 :: s1) p1, .ExceptHandler (some (.Name x2 np2)) (some n) (b2 :: s2) p2] [] [] pos) (tS X.K G W (fun ρ => if ρ.length == nn then sTry nn d1 d2 fb ρ else .no)) :=
  (ps_try2 (tb := fun W => tS X.K G W fb) (ts1 := fun _ _ _ => tS X.K G W0 f1) hs hf hN hi hln hc1 hc2 hb h1 h2).imp fun D σ H h => by
    obtain ⟨B, Z, Φ, ρ, k, h⟩ := h
    refine ⟨B, Z, Φ, ρ, k, ?_⟩
    dsimp only at h
    split at h
    · rename_i hlen
      have hB : B.length = nn := by rw [← k.lb, k.len]; exact eq_of_beq hlen
      unfold sTry at h
      cases hfb : fb ρ with
      | no => rw [hfb] at h; exact h.elim
      | ok r =>
        rw [hfb] at h
        obtain ⟨fl, ρ1⟩ := r
        cases fl <;> exact h
      | exc x =>
        rw [hfb] at h
        intro σ' hσ Z' H' cls d e zh fh rx
        have hn : σ'.length = nn := by rw [hσ, hB]
        cases x with
        | mal =>
          refine .inl ⟨by rw [show cls = .ref (G.clA 0) from rx]; exact m1, fun a na => ⟨σ', Z', Φ, List.replicate nn .un, ok_un zh fh hn, ?_⟩⟩
          rw [e1]
          intro Z2 σ2 H2 v e2' k2 r2
          exact h Z2 B H2 v (e.trans e2') (ok_un k2.zh k2.fh hB) r2
        | rfd x =>
          change PostS X.K G W B Z Φ D (tryK nn d1 d2 (.exc (.rfd x))) at h
          unfold tryK at h
          dsimp only at h
          cases hd : d2 x with
          | none => rw [hd] at h; exact h.elim
          | some dd =>
            rw [hd] at h
            obtain ⟨m2a, m2b⟩ := m2 ⟨x, dd, hd⟩
            have hc : cls = .ref (G.clA 1) := rx.1
            refine .inr ⟨by rw [hc]; exact m2a, by rw [hc]; exact m2b, fun a na => e2 D σ' Z' Φ H' cls d a x dd hd hn na rx zh fh fun Z2 H2 v e2' z2 f2' r2 => ?_⟩
            exact h Z2 B H2 v (e.trans e2') (ok_un z2 f2' hB) r2
    · exact h.elim
end
end Rf
end
section
set_option Elab.async false
set_option linter.all false
set_option maxRecDepth 100000
set_option maxHeartbeats 4000000
/-! Rf, part T: a tuple times 0 or 1. -/
namespace Rf
open PySem PySem.Spec PyProof.Rows L2
theorem tmul_one (l : Addr) (its : Array Value) (n : Nat) (dd : Option Addr) (sl : Array (Option Value)) (u : Tok) :
    Meets (Builtin.«tuple.__mul__» ⟨[.ref l, .int 1 u], []⟩) (fun _ R s => s.heap.get? l = some { cls := .type "tuple", dict := dd, data := .seq its n, slots := sl } ∧ R (.ok (.ret (Value.ref l))) s) :=
  .of_wp fun prog w A R s h => by
    obtain ⟨hp, g, d, tk, os⟩ := s
    obtain ⟨hl, h⟩ := h
    have f1 := AutoSeq1.idx_int
    wp_walk using wpAny_loadPart' hl
    exact ⟨_, rfl, h⟩
theorem tmul_zero (l : Addr) (its : Array Value) (n : Nat) (dd : Option Addr) (sl : Array (Option Value)) (u : Tok) (h0 : its.isEmpty = false) :
    Meets (Builtin.«tuple.__mul__» ⟨[.ref l, .int 0 u], []⟩) (fun _ R s => s.heap.get? l = some { cls := .type "tuple", dict := dd, data := .seq its n, slots := sl } ∧
      R (.ok (.ret (Value.ref s.heap.objs.size))) { s with heap := s.heap.push { cls := Value.type "tuple", data := Data.seq #[] }, toks := s.toks }) :=
  .of_wp fun prog w A R s h => by
    obtain ⟨hp, g, d, tk, os⟩ := s
    obtain ⟨hl, h⟩ := h
    have f1 := AutoSeq1.idx_int
    wp_walk using wpAny_loadPart' hl
    exact ⟨_, rfl, h⟩
def rRepS (K : PySem.W.Frag) : R2 := fun x y H Q => ∃ l k xs, x = .ref l ∧ y = .int k ∧ SqT K H l xs ∧ xs ≠ [] ∧ ((k = 1 ∧ Q (.ref l) H) ∨ (k = 0 ∧ ∀ p, H p = none → Q (.ref p) (upd H p (.tup []))))
theorem op_repS {X : Cx} : OpR X (binaryOp .Mult) (rRepS X.K) := by
  intro pins s σ H x y v u Q I rx ry h
  obtain ⟨l, k, xs, rfl, rfl, hT, hne, q⟩ := h
  cases rx
  obtain ⟨t, rfl⟩ := ry
  obtain ⟨its, r, ⟨⟨cls, dd, data, sl⟩, ho, hc, n, hd⟩, hs⟩ := I.tuple hT
  simp only at hc hd
  subst hc hd
  have hi : its.toArray.isEmpty = false := by
    cases its with
    | nil => cases r; exact absurd rfl hne
    | cons a b => rfl
  rcases q with ⟨rfl, q⟩ | ⟨rfl, q⟩
  · exact wpAny_binaryOp_repeat_ref (T := "tuple") (U := "int") (by decide) ⟨_, ho, rfl⟩ (fun s' => typeIs_int s' 1 t) noFill_tuple_mul F.fills_int_mul F.slot_int_rmul repeat_tuple F.slot_int_index.lookup
      (call_meets F.slot_int_rmul (typeIs_int s 1 t) F.entry_int_rmul (F.args_int_rmul_2 _ _) (int_rmul_tuple 1 t l its.toArray n dd sl)
        ⟨ho, rfl, ⟨_, ho, rfl⟩, call_meets F.slot_tuple_mul ⟨_, ho, rfl⟩ F.entry_tuple_mul (F.args_tuple_mul_2 _ _) (tmul_one l its.toArray n dd sl t) ⟨ho, .ref l, H, I, rfl, q⟩⟩)
  · refine wpAny_binaryOp_repeat_ref (T := "tuple") (U := "int") (by decide) ⟨_, ho, rfl⟩ (fun s' => typeIs_int s' 0 t) noFill_tuple_mul F.fills_int_mul F.slot_int_rmul repeat_tuple F.slot_int_index.lookup
      (call_meets F.slot_int_rmul (typeIs_int s 0 t) F.entry_int_rmul (F.args_int_rmul_2 _ _) (int_rmul_tuple 0 t l its.toArray n dd sl)
        ⟨ho, rfl, ⟨_, ho, rfl⟩, call_meets F.slot_tuple_mul ⟨_, ho, rfl⟩ F.entry_tuple_mul (F.args_tuple_mul_2 _ _) (tmul_zero l its.toArray n dd sl t hi) ⟨ho, ?_⟩⟩)
    refine ⟨.ref s.heap.objs.size, _, I.laid (t' := s.toks) (o := .tup []) (fun b ob q => Heap.get?_push_of_some _ q) (Nat.le_refl _) ?_, rfl, q _ (I.hok.fresh (Nat.le_refl _))⟩
    exact ⟨Nat.zero_le _, [], .nil, IsTup.new _ _⟩
def gMul2 : D → D → Option PV
  | .tup xs, .int k => if xs.isEmpty then none else if decide (k = 1) then some (.fz (.tup xs)) else if decide (k = 0) then some (.fz (.tup [])) else gMul (.tup xs) (.int k)
  | a, b => gMul a b
abbrev rMul2 (K : PySem.W.Frag) : R2 := rOr (rMul K) (rRepS K)
theorem opr_mul2 {X : Cx} : OpR X (binaryOp .Mult) (rMul2 X.K) := opOr opr_mul op_repS
theorem ops_mul2 {K : PySem.W.Frag} {G : Wd} : OpS K G (rMul2 K) gMul2 := by
  intro Z H da db x y pv Q s ha hb hg q
  unfold gMul2 at hg
  split at hg
  · rename_i xs k
    split at hg
    · cases hg
    · rename_i hx
      have ne : ∀ {vs : List V}, RepL K G Z xs vs → vs ≠ [] := fun r e => by
        subst e
        have := r.length
        cases xs with
        | nil => exact hx rfl
        | cons _ _ => cases this
      split at hg
      · rename_i h1
        cases hg
        have h1 := of_decide_eq_true h1
        subst h1
        obtain ⟨a, vs, rfl, sa, ra⟩ := pk_tup ha
        exact .inr ⟨a, 1, vs, rfl, pk_int hb, Same.seqT s sa, ne ra, .inl ⟨rfl, q _ _ _ (.same ⟨a, vs, rfl, sa, ra⟩)⟩⟩
      · split at hg
        · rename_i h1
          cases hg
          have h1 := of_decide_eq_true h1
          subst h1
          obtain ⟨a, vs, rfl, sa, ra⟩ := pk_tup ha
          exact .inr ⟨a, 0, vs, rfl, pk_int hb, Same.seqT s sa, ne ra, .inr ⟨rfl, fun p hp => q _ _ _ (.newZ hp ⟨p, [], rfl, .inl (.inl upd_same), rfl⟩)⟩⟩
        · exact .inl (ops_mul Z H _ _ x y pv Q s ha hb hg q)
  · exact .inl (ops_mul Z H _ _ x y pv Q s ha hb hg q)
end Rf
end
section
set_option Elab.async false
set_option linter.all false
set_option maxRecDepth 100000
set_option maxHeartbeats 4000000
/-! Rf, part J: short words for printed terms; the law as a whole. -/
namespace Rf
open PySem PySem.Spec PyProof.Rows L2
structure Good (P : Program) (w : World) (K : PySem.W.Frag) (mg : Str → Option Value) (base : Heap) (G : Wd) (k m n : Nat) (ps : List Str) (ds : List Value) (F : Fn) : Prop where
  ex : ∃ fd : FuncData, FnOk P w K mg base (L2.CX P w) k (G.fnA m) fd ps (spF K G n F) ∧ PySem.W.keepIn K (.ref (G.fnA m)) = true ∧ Binds K fd ps ds
structure GoodB (P : Program) (w : World) (K : PySem.W.Frag) (mg : Str → Option Value) (base : Heap) (G : Wd) (k m n : Nat) (ps : List Str) (F : FnB) : Prop where
  ex : ∃ fd : FuncData, FnOk P w K mg base (L2.CX P w) k (G.fnA m) fd ps (spB K G n F) ∧ PySem.W.keepIn K (.ref (G.fnA m)) = true ∧ Binds K fd ps []
/-- a def as it stands behind the top -/
structure Def (K : PySem.W.Frag) (G : Wd) (m : Nat) (x : Str) (st : Stmt) (ps : List Str) (ds : List Value) : Prop where
  ex : ∃ fd : FuncData, Fun K x x st (G.fnA m) fd ∧ Binds K fd ps ds
section
variable {X : Cx} {G : Wd} {W : WX} {pos : Pos} {e e2 : Expr} {es : List Expr}
theorem ev (i : Nat) {x : Str} (hN : X.N[i]? = some x := by rfl) (hv : Vis X.env.scope x := by first | exact Or.inl rfl | exact Or.inr (Or.inl rfl) | exact Or.inr (Or.inr rfl))
    (hd : (x == ("__debug__" : Str)) = false := by decide) (hcd : (x == ("__classdict__" : Str)) = false := by decide) : PE X (.Name x pos) (tE X.K G W (eVar i)) := re_var hN hv hd hcd
theorem ecall {k m n : Nat} {ps : List Str} {ds : List Value} {F : Fn} {dd : List D} {dvs : List V} {fa : Ea} {x : Str} {p : Pos} (g : Good X.prog X.w X.K X.mg X.base G k m n ps ds F) (hr : Room k X.A) (tk : Takes X W) (hm : X.mg x = some (.ref (G.fnA m))) (ha : PA X (e :: es) (tA X.K G W fa))
    (hd : Vals dvs ds) (hdd : ∀ Z, RepL X.K G Z dd dvs) (hg : Gl X x := by rfl) (hdb : (x == ("__debug__" : Str)) = false := by decide) (he : starEach (e :: es) X.env = (false, eval e X.env) :: starEach es X.env := by rfl) (hpl : (backTo pos (starEach es X.env)).any (·.1) = false := by rfl) :
    PE X (.Call (.Name x p) (e :: es) [] pos) (tE X.K G W (eCall n F dd fa)) := by
  obtain ⟨fd, Fo, hk, hb⟩ := g.ex
  exact re_call Fo hr hg hm hk hb hd hdd tk ha hdb he hpl
theorem ecall0 {k m n : Nat} {ps : List Str} {F : Fn} {fa : Ea} {x : Str} {p : Pos} (g : Good X.prog X.w X.K X.mg X.base G k m n ps [] F) (hr : Room k X.A) (tk : Takes X W) (hm : X.mg x = some (.ref (G.fnA m))) (ha : PA X (e :: es) (tA X.K G W fa))
    (hg : Gl X x := by rfl) (hdb : (x == ("__debug__" : Str)) = false := by decide) (he : starEach (e :: es) X.env = (false, eval e X.env) :: starEach es X.env := by rfl) (hpl : (backTo pos (starEach es X.env)).any (·.1) = false := by rfl) :
    PE X (.Call (.Name x p) (e :: es) [] pos) (tE X.K G W (eCall n F [] fa)) := ecall g hr tk hm ha .nil (fun Z => (show RepL X.K G Z [] [] from rfl)) hg hdb he hpl
theorem ecallB {k m n j : Nat} {ps : List Str} {F : FnB} {fa : Ea} {x y : Str} {p py : Pos} (g : GoodB X.prog X.w X.K X.mg X.base G k m n ps F) (hr : Room k X.A) (tk : Takes X W) (hm : X.mg x = some (.ref (G.fnA m))) (ha : PA X es (tA X.K G W fa)) (hN : X.N[j]? = some y := by rfl)
    (hv : Vis X.env.scope y := by first | exact Or.inl rfl | exact Or.inr (Or.inl rfl) | exact Or.inr (Or.inr rfl)) (hg : Gl X x := by rfl) (hdb : (x == ("__debug__" : Str)) = false := by decide) (hd : (y == ("__debug__" : Str)) = false := by decide) (hcd : (y == ("__classdict__" : Str)) = false := by decide)
    (he : starEach (.Name y py :: es) X.env = (false, eval (.Name y py) X.env) :: starEach es X.env := by rfl) (hpl : (backTo pos (starEach es X.env)).any (·.1) = false := by rfl) :
    PE X (.Call (.Name x p) (.Name y py :: es) [] pos) (tE X.K G W (eCallB j n F fa)) := by
  obtain ⟨fd, Fo, hk, hb⟩ := g.ex
  exact re_callB Fo hr hg hm hk hb tk hN hv ha hdb hd hcd he hpl
/-- what is never reached -/
theorem re_never : PE X e (tE X.K G W (fun _ => .no)) := ⟨fun pins s σ H Q I h => by
  obtain ⟨B, Z, Φ, ρ, k, h⟩ := h
  exact h.elim⟩
theorem held_of {k m n : Nat} {ps : List Str} {F : Fn} (g : Good X.prog X.w X.K X.mg X.base G k m n ps [] F) : Held' X G k m n F := by
  obtain ⟨fd, Fo, hk, hb⟩ := g.ex
  exact ⟨fd, ps, Fo, hk, hb⟩
theorem held_mono {j k m n : Nat} {F : Fn} (h : Held' X G j m n F) (le : j ≤ k) : Held' X G k m n F := by
  obtain ⟨fd, ps, Fo, hk, hb⟩ := h.ex
  exact ⟨fd, ps, Fo.mono le, hk, hb⟩
theorem rs_for' {tg iter : Expr} {body : List Stmt} {fi : Ei} (t : Tg) {fb : Es} (hp : PassesOwn (model X.prog X.w) X.A X.env X.xe) (hi : PI X tg iter (tI X.K G W fi)) (hg : PG X tg (tgR X.K t)) (hb : PSs X body (tS X.K G W fb)) (hc : X.calm = true := by rfl) (hs : ∀ x, foldedSetIterable iter X.env x = pure x := by intro _; rfl) : PS X (.For tg iter body [] pos) (tS X.K G W (sFor fi t fb)) :=
  rs_for hp hc hi hg hb (ps_for hp hc hi hg hb hs)
theorem rs_app' (j : Nat) {y : Str} {py ap cpos : Pos} {f : Ev} (he : PE X e (tE X.K G W f)) (hN : X.N[j]? = some y := by rfl) (hv : Vis X.env.scope y := by first | exact Or.inl rfl | exact Or.inr (Or.inl rfl) | exact Or.inr (Or.inr rfl))
    (hd : (y == ("__debug__" : Str)) = false := by decide) (hcd : (y == ("__classdict__" : Str)) = false := by decide)
    (hcall : PE X (.Call (.Attribute (.Name y py) "append" ap) [e] [] cpos) (tBM X.K "list" rAppend (tVar j) (tCons (tE X.K G W f) tNil)))
    (hs : swapsWith (.Call (.Attribute (.Name y py) "append" ap) [e] [] cpos) none pos.line X.env = pure false := by rfl) : PS X (.Expr (.Call (.Attribute (.Name y py) "append" ap) [e] [] cpos) pos) (tS X.K G W (sApp j f)) := rs_app (y := y) (ps_expr hcall hs)
def gAddI : D → D → Option PV
  | .int i, .int j => some (.fz (.int (i + j)))
  | _, _ => none
theorem ops_addI {K : PySem.W.Frag} : OpS K G (rI0 fun i j => .int (i + j)) gAddI := by
  intro Z H da db x y pv Q s ha hb hg q
  unfold gAddI at hg
  split at hg
  · cases hg
    exact ⟨_, _, pk_int ha, pk_int hb, q _ _ _ (.same rfl)⟩
  · cases hg
/-- a, b, c = e1, e2, e3 -/
def par3K (i j l : Nat) : List D × Rho → R (Fl × Rho)
  | ([a, b, c], ρ) => match bindL [i, j, l] [a, b, c] ρ with
    | some ρ1 => .ok (.nx, ρ1)
    | none => .no
  | _ => .no
def sPar3 (i j l : Nat) (fa : Ea) : Es := fun ρ => (fa ρ).bind (par3K i j l)
theorem ts_bindA {K : PySem.W.Frag} {σ : L2.St} {H : Hp} {fa : Ea} {k : List D × Rho → R (Fl × Rho)} {De : Ends} {P : List V → Hp → Prop} (h : tS K G W (fun ρ => (fa ρ).bind k) De σ H)
    (n : ∀ B Z Φ ρ1 H1 vs ds, Ok K G B Z Φ σ ρ1 H1 → RepL K G Z ds vs → PostS K G W B Z Φ De (k (ds, ρ1)) → P vs H1) : tA K G W fa σ H P := by
  obtain ⟨B, Z, Φ, ρ, ok, h⟩ := h
  refine ⟨B, Z, Φ, ρ, ok, ?_⟩
  dsimp only at h
  cases ha : fa ρ with
  | no => rw [ha] at h; exact h.elim
  | exc x => rw [ha] at h; exact h σ ok.lb
  | ok p =>
    obtain ⟨pa, ρ1⟩ := p
    rw [ha] at h
    exact fun Z1 H1 x e1 k1 r1 => n B Z1 Φ ρ1 H1 x pa k1 r1 (PostS.ext h e1)
theorem rs_par3 {i j l : Nat} {x y z : Str} {a b c : Expr} {fa : Ea} {px py pz pt : Pos} {kt k2 pt2} (hc : X.calm = true) (hN : X.N.Nodup) (hi : X.N[i]? = some x) (hj : X.N[j]? = some y) (hl : X.N[l]? = some z) (hij : i ≠ j) (hil : i ≠ l) (hjl : j ≠ l)
    (hx : X.env.scope.names.lookup x = some .local) (hy : X.env.scope.names.lookup y = some .local) (hz : X.env.scope.names.lookup z = some .local) (ha : PA X [a, b, c] (tA X.K G W fa))
    (hw : swappedStores [.Tuple [.Name x px, .Name y py, .Name z pz] kt pt] (.Tuple [a, b, c] k2 pt2) X.env = pure (some [x, y, z]))
    (hs : swapsWithSole [.Tuple [.Name x px, .Name y py, .Name z pz] kt pt] (.Tuple [a, b, c] k2 pt2) pos.line X.env = pure false := by rfl) :
    PS X (.Assign [.Tuple [.Name x px, .Name y py, .Name z pz] kt pt] (.Tuple [a, b, c] k2 pt2) pos) (tS X.K G W (sPar3 i j l fa)) :=
  (ps_par3 hc hN hi hj hl hij hil hjl hx hy hz ha hw hs).imp fun De σ H h => ts_bindA h fun B Z Φ ρ1 H1 vs ds k r q => by
    unfold par3K at q
    split at q
    · rename_i d1 d2 d3 ρ2 ee
      cases ee
      split at q
      · rename_i ρ3 hb
        obtain ⟨v1, us, rfl, r1, v2, ws, rfl, r2, v3, zs, rfl, r3, r4⟩ := r
        cases (show zs = [] from r4)
        refine ⟨v1, v2, v3, rfl, ?_⟩
        unfold bindL at hb
        split at hb
        · rename_i ρa ha'
          unfold bindL at hb
          split at hb
          · rename_i ρb hb'
            unfold bindL at hb
            split at hb
            · rename_i ρc hc'
              unfold bindL at hb
              cases hb
              exact q Z _ H1 Ext.refl (((k.set ha' r1).set hb' r2).set hc' r3)
            · cases hb
          · cases hb
        · cases hb
      · exact q.elim
    · exact q.elim
theorem tgs2 {K : PySem.W.Frag} {i j : Nat} : L2.gTup K 2 (gCons (gName i) (gCons (gName j) gNil)) = tgR K (.tp [i, j]) := rfl
end
section
variable {P : Program} {w : World} {K : PySem.W.Frag} {mg : Str → Option Value} {base : Heap} {x : Str} {st : Stmt} {N ps : List Str} {ds : List Value} {k m n : Nat} {G : Wd}
theorem good_of {fb : Es} (d : Def K G m x st ps ds) (S : FnScope N ps (defScope st)) (hn : ps.length = n) (hb : ∀ (f : Addr) (cdv : Value) (A : Around) (outer : List Env) (s : Shared) (H : Hp) (E : XK), Room k (A.deeper (envOfC x (defScope st) s.heap.objs.size f cdv)) →
      PSs (cxOf (L2.CX P w) P w K mg base N x (defScope st) f cdv A outer s H E) (defBody st) (tS K G (fun cls d _ H => E cls d H) fb)) : Good P w K mg base G (k + 1) m n ps ds (Rf.fnOf N.length fb) := by
  obtain ⟨fd, F, b⟩ := d.ex
  subst hn
  exact ⟨fd, fn_ok F S (hb _), F.kp, b⟩
theorem goodB_of {fb : Es} (d : Def K G m x st ps []) (S : FnScope N ps (defScope st)) (hn : ps.length = n) (hb : ∀ (f : Addr) (cdv : Value) (A : Around) (outer : List Env) (s : Shared) (H : Hp) (E : XK), Room k (A.deeper (envOfC x (defScope st) s.heap.objs.size f cdv)) →
      PSs (cxOf (L2.CX P w) P w K mg base N x (defScope st) f cdv A outer s H E) (defBody st) (tS K G (fun cls d _ H => E cls d H) fb)) : GoodB P w K mg base G (k + 1) m n ps (fnBOf N.length fb) := by
  obtain ⟨fd, F, b⟩ := d.ex
  exact ⟨fd, fnB_ok F S hn (hb _), F.kp, b⟩
/-- what the law promises of its script -/
def spLaw (K : PySem.W.Frag) : Sp := fun vs H Q _ => ∃ (a : Addr) (ns : List Int), vs = [.ref a] ∧ SqL K H a (ns.map V.int) ∧ ns.length ≤ 63 ∧ ∀ H', Q (.bl true) H'
theorem law_of {f : Addr} {fd : FuncData} {F : Fn} (h : ∀ ns : List Int, ns.length ≤ 63 → F [.lck (ns.map .int)] = .ok (.fz (.bl true))) (g : FnOk P w K mg base (L2.CX P w) k f fd ps (spF K G 1 F)) : FnOk P w K mg base (L2.CX P w) k f fd ps (spLaw K) :=
  g.imp fun vs H Q E ⟨a, ns, e, hs, hl, q⟩ => by
    subst e
    have ri : ∀ l : List Int, RepL K G H (l.map D.int) (l.map V.int) := fun l => by
      induction l with
      | nil => exact rfl
      | cons n r ih => exact ⟨.int n, r.map V.int, rfl, rfl, ih⟩
    refine ⟨H, fun _ => none, [.lck (ns.map .int)], Same.refl H, (fun _ _ z => nomatch z), ⟨.ref a, [], rfl, ⟨a, ns.map V.int, rfl, hs, ri ns⟩, rfl⟩, rfl, ?_⟩
    rw [h ns hl]
    intro Z' H' v _ _ _ rv
    rw [show v = .bl true from rv]
    exact q H'
theorem law_cx {P : Program} {w : World} {H : Hp} {s : Shared} {e : Value} {s' : Shared} (h : L2.CX P w [] H s (fun _ _ _ => False) e s') : False := by
  obtain ⟨_, _, _, _, _, _, _, _, _, _, _, _, z⟩ := h
  exact z
/-- an error of the class at S is what «except S» names -/
theorem exm_self' {K : PySem.W.Frag} {S T : Addr} {b : Bool} (h1 : PySem.W.subIn K (.ref T) (.type "BaseException") = some true) (h2 : PySem.W.isClsIn K T = true) (h3 : PySem.W.typeIn K (.ref T) = some (.type "type")) (h4 : PySem.W.subIn K (.ref S) (.ref T) = some b) :
    PySem.W.exmOne K (.ref S) (.ref T) = some b := by
  have e1 : (PySem.W.subIn K (.ref T) (.type "BaseException") == some true) = true := by rw [h1] <;> rfl
  have e2 : ((PySem.W.clsIn K T).isSome && PySem.W.typeIn K (.ref T) == some (.type "type")) = true := by
    have h2' : (PySem.W.clsIn K T).isSome = true := h2
    rw [h2', h3] <;> rfl
  show (if _ then (if _ then PySem.W.subIn K (.ref S) (.ref T) else none) else none) = some b
  rw [if_pos e1, if_pos e2]
  exact h4
end
end Rf
end
section
set_option Elab.async false
set_option linter.all false
set_option maxRecDepth 100000
set_option maxHeartbeats 4000000
/-! Rf, part X: Refused(reason) raised, and told by its handler. -/
namespace Rf
open PySem PySem.Spec PyProof.Rows L2
section
variable {X : Cx} {e : Expr} {es : List Expr} {ta : TA} {p1 p2 pos : Pos} {x : Str} {C0 : Addr} {mc : Value}
/-- Base.__init__(self, ..), Base an own class that has ValueError's -/
theorem pe_oveinit {pl : Sem Bool} (hg : Gl X x) (hm : X.mg x = some (.ref C0)) (r : ClX.CRead X.K C0 mc) (vV : PySem.W.findCls X.K (.ref C0) mc "__init__" = some (.val (.builtin "ValueError.__init__"))) (ha : PA X (e :: es) ta) (hdb : (x == ("__debug__" : Str)) = false := by decide)
    (hc : eval (.Call (.Attribute (.Name x p1) "__init__" p2) (e :: es) [] pos) X.env = (do
      let ov ← eval (.Name x p1) X.env
      standAt p2.atName
      let (f, first) ← holding [ov] (getMethod ov "__init__" pl)
      callWith pos f first (backTo pos (starEach (e :: es) X.env)) (backToKw pos (keywordEach [] X.env))) := by rfl)
    (he : starEach (e :: es) X.env = (false, eval e X.env) :: starEach es X.env := by rfl) (hpl : (backTo pos (starEach es X.env)).any (·.1) = false := by rfl) :
    PE X (.Call (.Attribute (.Name x p1) "__init__" p2) (e :: es) [] pos) (tVeI X.K ta) := by
  refine ⟨fun pins s σ H Q I h => ?_⟩
  refine PySem.W.methodCall_KW (ld_glob I hg hm ?_ hdb) hc
  refine PySem.W.method_cls I.kIn r.ga ?_
  refine PySem.W.cls_value I.kIn r.rd vV (by decide +kernel) ?_
  show wpAny _ _ (callWith pos (Value.builtin "ValueError.__init__") [] (backTo pos (starEach (e :: es) X.env)) []) _ _ _
  refine PyProof.Rows.callWith_method1 (thn (ha.run pos pins _ σ H _ (I.tok _) h) fun us s1 ⟨vs, H1, I1, r1, a, C, ws, ev, hl, T, ea, q⟩ => ?_) he hpl
  subst ev
  cases r1 with
  | @cons _ u0 _ ur ra rw' =>
    obtain rfl : u0 = Value.ref a := ra
    have hlen : ur.length ≤ sizeLine := by
      rw [← Paired.length rw', sizeLine_eq]
      omega
    exact oinit_ok T I1 ea hlen fun s' J => ⟨.non, H1, J, rfl, q⟩
end
/-- what Refused.__init__ keeps -/
def spI (K : PySem.W.Frag) (C : Addr) : Sp := fun vs H Q _ => ∃ (a : Addr) (x : Str), vs = [.ref a, .str x] ∧ H a = some (exo a C none) ∧
  ∀ dx, H dx = none → dx ≠ a → Q .non (upd (upd H dx (exd dx [("reason", .str x)])) a (exo a C (some dx)))
/-- of the class Refused at C, its base at C0 -/
structure RfdC (K : PySem.W.Frag) (C C0 : Addr) : Prop where
  oex : OexC K C
  no : PySem.W.findIn K (.ref C) "reason" = some none
  rd : ClX.CRead K C0 (.type "type")
  vV : PySem.W.findCls K (.ref C0) (.type "type") "__init__" = some (.val (.builtin "ValueError.__init__"))
  xf : XfC K C
section
variable {P : Program} {w : World} {K : PySem.W.Frag} {mg : Str → Option Value} {base : Heap} {C C0 : Addr}
abbrev tInit (K : PySem.W.Frag) : TS := tSeq (tDrop (tVeI K (tCons (tVar 0) (tCons (tVar 1) tNil)))) (tOst K "reason" (tVar 0) (tVar 1))
theorem pss_init {X : Cx} {p1 p2 p3 p4 p5 p6 p7 p8 p9 p10 : Pos} (T : RfdC X.K C C0) (h0 : X.N[(0 : Nat)]? = some ("self" : Str)) (h1 : X.N[(1 : Nat)]? = some ("reason" : Str)) (v0 : Vis X.env.scope "self") (v1 : Vis X.env.scope "reason") (hg : Gl X "Fault") (hm : X.mg "Fault" = some (.ref C0)) {pl : Sem Bool}
    (hc : eval (.Call (.Attribute (.Name "Fault" p1) "__init__" p2) [.Name "self" p3, .Name "reason" p4] [] p5) X.env = (do
      let ov ← eval (.Name "Fault" p1) X.env
      standAt p2.atName
      let (f, first) ← holding [ov] (getMethod ov "__init__" pl)
      callWith p5 f first (backTo p5 (starEach [.Name "self" p3, .Name "reason" p4] X.env)) (backToKw p5 (keywordEach [] X.env))) := by rfl)
    (hs : swapsWith (.Call (.Attribute (.Name "Fault" p1) "__init__" p2) [.Name "self" p3, .Name "reason" p4] [] p5) none p6.line X.env = pure false := by rfl) (hs2 : swapsWith (.Name "reason" p9) (some (.Attribute (.Name "self" p7) "reason" p8)) p10.line X.env = pure false := by rfl) :
    PSs X [.Expr (.Call (.Attribute (.Name "Fault" p1) "__init__" p2) [.Name "self" p3, .Name "reason" p4] [] p5) p6, .Assign [.Attribute (.Name "self" p7) "reason" p8] (.Name "reason" p9) p10] (tInit X.K) :=
  pss_cons (ps_expr (pe_oveinit hg hm T.rd T.vV (pa_cons (pe_var h0 v0) (pa_cons (pe_var h1 v1) pa_nil)) (hc := hc)) hs) (pss_one (ps_ost (pe_var h0 v0) (pe_var h1 v1) hs2))
theorem init_ok {st : Stmt} {f : Addr} {fd : FuncData} {qual : Str} {k : Nat} (F : Fun K "__init__" qual st f fd) (S : FnScope ["self", "reason"] ["self", "reason"] (defScope st)) (T : RfdC K C C0)
    (hb : ∀ (cdv : Value) (A : Around) (outer : List Env) (s : Shared) (H : Hp) (E : XK), PSs (cxOf (L2.CX P w) P w K mg base ["self", "reason"] qual (defScope st) f cdv A outer s H E) (defBody st) (tInit K)) :
    FnOk P w K mg base (L2.CX P w) (k + 1) f fd ["self", "reason"] (spI K C) := by
  refine F.okX S (fun vs H Q E h => by obtain ⟨a, x, rfl, _⟩ := h; rfl) (fun cdv A outer s H vs Q E hr h => ⟨_, hb cdv A outer s H E, ?_⟩)
  obtain ⟨a, x, rfl, ha, q⟩ := h
  have s0 : (L2.start ["self", "reason"] [.ref a, .str x])[(0 : Nat)]? = some (some (.ref a)) := rfl
  have s1 : (L2.start ["self", "reason"] [.ref a, .str x])[(1 : Nat)]? = some (some (.str x)) := rfl
  show tDrop _ _ _ _
  refine ⟨.ref a, s0, .str x, s1, a, C, [.str x], rfl, Nat.le_of_ble_eq_true rfl, T.oex, ha, ?_⟩
  refine ⟨.str x, s1, .ref a, s0, a, C, rfl, T.oex, T.no, .inl ⟨ha, fun dx hd hne => q dx hd hne⟩⟩
end
/-- raise Refused(reason) -/
def rfdK : List D × Rho → R (Fl × Rho)
  | ([.str x], _) => .exc (.rfd x)
  | _ => .no
def sRfd (fa : Ea) : Es := fun ρ => (fa ρ).bind rfdK
section
variable {X : Cx} {G : Wd} {W : WX} {e : Expr} {es : List Expr} {fa : Ea} {pos p pos2 : Pos} {x : Str} {C0 fI : Addr} {k : Nat} {fd : FuncData} {ps : List Str}
theorem rs_rfd (hC : G.clA 1 = C) (T : RfdC X.K C C0) (iC : PySem.W.findIn X.K (.ref C) "__init__" = some (some (.ref fI))) (tI : PySem.W.typeIn X.K (.ref fI) = some (.type "function"))
    (F1 : FnOk X.prog X.w X.K X.mg X.base (L2.CX X.prog X.w) k fI fd ps (spI X.K C)) (hr : Room (k + 1) X.A) (hb : Binds X.K fd ps []) (tk0 : Passes (L2.CX X.prog X.w) X (fun _ _ _ => False)) (hc : X.calm = true) (tk : Takes X W) (hg : Gl X x) (hm : X.mg x = some (.ref C))
    (ha : PA X (e :: es) (tA X.K G W fa)) (hdb : (x == ("__debug__" : Str)) = false := by decide) (he : starEach (e :: es) X.env = (false, eval e X.env) :: starEach es X.env := by rfl) (hpl : (backTo pos (starEach es X.env)).any (·.1) = false := by rfl) :
    PS X (.Raise (some (.Call (.Name x p) (e :: es) [] pos)) none pos2) (tS X.K G W (sRfd fa)) :=
  (ps_raise hc tk (pmk_oex (dvs := []) (ds := []) T.oex iC tI F1 hr hb .nil tk0 hg hm ha hdb he hpl)).imp fun De σ H h => by
    obtain ⟨B, Z, Φ, ρ, ok, h⟩ := h
    refine ⟨B, Z, Φ, ρ, ok, ?_⟩
    unfold sRfd at h
    cases hfa : fa ρ with
    | no => rw [hfa] at h; exact h.elim
    | exc y =>
      rw [hfa] at h
      exact h σ ok.lb
    | ok r =>
      obtain ⟨ds, ρ1⟩ := r
      rw [hfa] at h
      intro Z1 H1 vs e1 ok1 rl
      change PostS X.K G W B Z Φ De (rfdK (ds, ρ1)) at h
      unfold rfdK at h
      split at h
      · rename_i y _ heq
        cases heq
        obtain ⟨v, r, rfl, rv, rr⟩ := rl
        cases (show r = [] from rr)
        cases (show v = .str y from rv)
        refine ⟨Nat.le_of_ble_eq_true rfl, fun a ha => ?_⟩
        refine ⟨a, y, rfl, upd_same, fun dx hd hne => ?_⟩
        have hd1 : H1 dx = none := by rw [upd_ne hne] at hd; exact hd
        refine ⟨rfl, dx, _, upd_same, by rw [upd_ne hne, upd_same], hd1, ?_⟩
        have key : ∀ c o, H1 c = some o → (upd (del (upd (upd (upd H1 a (exo a C none)) dx (exd dx [("reason", .str y)])) a (exo a C (some dx))) a) dx (.xd [("reason", .str y)])) c = some o := fun c o hc => by
          have n1 : c ≠ dx := fun z => by rw [z, hd1] at hc; cases hc
          have n2 : c ≠ a := fun z => by rw [z, ha] at hc; cases hc
          rw [upd_ne n1, del_ne n2, upd_ne n2, upd_ne n1, upd_ne n2]
          exact hc
        refine h σ ok.lb Z1 _ _ _ e1 (fun c o hz => key c o (ok1.zh _ _ hz)) (fun c o hz => key c o (ok1.fh _ _ hz)) ⟨by rw [hC], dx, rfl, _, upd_same, rfl⟩
      · exact h.elim
end
/-! ### the handler that tells the reason -/
abbrev d2R : Str → Option D := fun x => some (.tup [.str "raised", .str x])
abbrev tErr (a : Addr) (cls : Value) (d : Option Addr) (C : Addr) (i : Nat) : TS := tRet (tTup (tCons (tC (.str "raised")) (tCons (tXf a cls d C "reason" (tVar i)) tNil)))
section
variable {X : Cx} {a C C0 : Addr} {oe : Obj} {cls : Value} {d : Option Addr} {pn : List (Addr × Obj)}
theorem pss_err {i : Nat} {n : Str} {j p p' p2 pos pos2 x1} (T : RfdC X.K C C0) (hz : Zc cls d oe) (hf : ∃ vs, oe.data = .fields vs) (hN : X.N[i]? = some n) (hv : Vis X.env.scope n) (hd : (n == ("__debug__" : Str)) = false := by decide) (hcd : (n == ("__classdict__" : Str)) = false := by decide)
    (hb : attributeBase (.Name n p') "reason" X.env (eval (.Name n p') X.env) = eval (.Name n p') X.env := by rfl)
    (s1 : starEach [.Constant (.str "raised") j p, .Attribute (.Name n p') "reason" p2] X.env = (false, eval (.Constant (.str "raised") j p) X.env) :: starEach [.Attribute (.Name n p') "reason" p2] X.env := by rfl)
    (s2 : starEach [.Attribute (.Name n p') "reason" p2] X.env = (false, eval (.Attribute (.Name n p') "reason" p2) X.env) :: starEach [] X.env := by rfl) :
    PSs (X.suite a ((a, oe) :: pn)) [.Return (some (.Tuple [.Constant (.str "raised") j p, .Attribute (.Name n p') "reason" p2] x1 pos)) pos2] (tErr a cls d C i) :=
  pss_one (ps_ret (pe_tup (pa_cons pe_str (pa_cons (pe_xf (X := X) T.xf T.no hz hf (pe_var (X := X.suite a ((a, oe) :: pn)) hN hv hd hcd) hb) pa_nil s2) s1)))
end
theorem err_ok {K : PySem.W.Frag} {G : Wd} {De : Ends} {σ : L2.St} {Z Φ H : Hp} {cls : Value} {d : Option Addr} {a C : Addr} {x : Str} {dd : D} {i nn : Nat} (hC : G.clA 1 = C) (hi : i < nn) (hd : d2R x = some dd) (hn : σ.length = nn) (na : H a = none) (rx : RepX G H (.rfd x) cls d) (zh : Same Z H) (fh : Same Φ H)
    (h : ∀ Z' H' v, Ext Z Φ Z' → Same Z' H' → Same Φ H' → Rep K G Z' dd v → De.rt v H') : tErr a cls d C i (Dn i De) (σ.set i (some (.ref a))) H := by
  cases hd
  obtain ⟨hc, d', rfl, fs, hx, hl⟩ := rx
  show tTup _ _ _ _
  refine ⟨.ref a, by rw [List.getElem?_set_self (by omega)], rfl, by rw [hc, hC], d', fs, .str x, rfl, hx, hl, Nat.le_of_ble_eq_true rfl, fun p hp => ?_⟩
  have hz := Same.none zh hp
  have hf := Same.none fh hp
  exact h (upd Z p (.tup [.str "raised", .str x])) _ _ (ext_upd hz hf) (same_upd1 (same_new zh hp) upd_same) (fh.trans (same_newZ hp)) ⟨p, [.str "raised", .str x], rfl, .inl (.inl upd_same), .str "raised", [.str x], rfl, rfl, .str x, [], rfl, rfl, rfl⟩
/-- a def of which nothing is told -/
theorem good_no {P : Program} {w : World} {K : PySem.W.Frag} {mg : Str → Option Value} {base : Heap} {G : Wd} {k m n : Nat} {x : Str} {st : Stmt} {N ps : List Str} {ds : List Value} (d : Def K G m x st ps ds) (S : FnScope N ps (defScope st)) : Good P w K mg base G (k + 1) m n ps ds (fun _ => .no) := by
  obtain ⟨fd, F, b⟩ := d.ex
  exact ⟨fd, F.okX S (fun vs H Q E h => by obtain ⟨_, _, _, _, _, _, _, z⟩ := h; exact z.elim) (fun cdv A outer s H vs Q E hr h => by obtain ⟨_, _, _, _, _, _, _, z⟩ := h; exact z.elim), F.kp, b⟩
theorem oex_mk {K : PySem.W.Frag} {C : Addr} {nm : _} {q : _} {N : _} {bs : _} {bm : _} {sn : _} {sub : _} {ab : _} {col : _} {dd : _} {k0 : _} {k1 : _} {k2 : _} {k3 : _} {k5 : _} (l : K.lookup C = some (excClassObj nm q C N bs bm true sn sub ab col dd k0 k1 k2 k3 k5 "ValueError.__new__")) (r : PySem.HandSPX.refsVE bm = true)
    (sa : PySem.W.findIn K (.ref C) "__setattr__" = some (some (.builtin "object.__setattr__"))) (ex : PySem.W.subIn K (.ref C) (.type "BaseException") = some true) (ty : PySem.W.typeIn K (.ref C) = some (.type "type")) (kc : PySem.W.keepIn K (.ref C) = true) : OexC K C :=
  ⟨⟨nm, q, N, bs, bm, sn, sub, ab, col, dd, k0, k1, k2, k3, k5, l, r⟩, sa, ex, ty, kc⟩
theorem rfd_mk {K : PySem.W.Frag} {C C0 : Addr} (o : OexC K C) (no : PySem.W.findIn K (.ref C) "reason" = some none) (rd : PySem.W.readsIn K C0 (.type "type") = true) (ga : PySem.W.specialIn K (.ref C0) "__getattribute__" = some (some (.builtin "type.__getattribute__")))
    (vV : PySem.W.findCls K (.ref C0) (.type "type") "__init__" = some (.val (.builtin "ValueError.__init__"))) (x : xfB K C = true) : RfdC K C C0 := ⟨o, no, ⟨rd, ga⟩, vV, xfB_ok x⟩
/-- Refused.__init__ as it stands behind the top -/
structure DefI (K : PySem.W.Frag) (C : Addr) (st : Stmt) : Prop where
  ex : ∃ (fI : Addr) (fd : FuncData), Fun K "__init__" "Refused.__init__" st fI fd ∧ PySem.W.findIn K (.ref C) "__init__" = some (some (.ref fI)) ∧ PySem.W.typeIn K (.ref fI) = some (.type "function") ∧ Binds K fd ["self", "reason"] []
structure GoodI (P : Program) (w : World) (K : PySem.W.Frag) (mg : Str → Option Value) (base : Heap) (C : Addr) (k : Nat) : Prop where
  ex : ∃ (fI : Addr) (fd : FuncData), FnOk P w K mg base (L2.CX P w) k fI fd ["self", "reason"] (spI K C) ∧ PySem.W.findIn K (.ref C) "__init__" = some (some (.ref fI)) ∧ PySem.W.typeIn K (.ref fI) = some (.type "function") ∧ Binds K fd ["self", "reason"] []
theorem goodI_of {P : Program} {w : World} {K : PySem.W.Frag} {mg : Str → Option Value} {base : Heap} {C C0 : Addr} {st : Stmt} {k : Nat} (d : DefI K C st) (S : FnScope ["self", "reason"] ["self", "reason"] (defScope st)) (T : RfdC K C C0)
    (hb : ∀ (f : Addr) (cdv : Value) (A : Around) (outer : List Env) (s : Shared) (H : Hp) (E : XK), PSs (cxOf (L2.CX P w) P w K mg base ["self", "reason"] "Refused.__init__" (defScope st) f cdv A outer s H E) (defBody st) (tInit K)) : GoodI P w K mg base C (k + 1) := by
  obtain ⟨fI, fd, F, a, b, c⟩ := d.ex
  exact ⟨fI, fd, init_ok F S T (hb _), a, b, c⟩
theorem pass0 {X : Cx} : Passes (L2.CX X.prog X.w) X (fun _ _ _ => False) := fun pins σ H s e s' I c => passAt takes0 σ pins H s e s' I c
section
variable {X : Cx} {G : Wd} {W : WX} {e : Expr} {es : List Expr} {fa : Ea} {pos p pos2 : Pos} {x : Str} {C0 : Addr} {k : Nat}
theorem rs_rfd' (T : RfdC X.K (G.clA 1) C0) (g : GoodI X.prog X.w X.K X.mg X.base (G.clA 1) k) (hr : Room (k + 1) X.A) (hc : X.calm = true) (tk : Takes X W) (hg : Gl X x) (hm : X.mg x = some (.ref (G.clA 1)))
    (ha : PA X (e :: es) (tA X.K G W fa)) (hdb : (x == ("__debug__" : Str)) = false := by decide) (he : starEach (e :: es) X.env = (false, eval e X.env) :: starEach es X.env := by rfl) (hpl : (backTo pos (starEach es X.env)).any (·.1) = false := by rfl) :
    PS X (.Raise (some (.Call (.Name x p) (e :: es) [] pos)) none pos2) (tS X.K G W (sRfd fa)) := by
  obtain ⟨fI, fd, F, a, b, c⟩ := g.ex
  exact rs_rfd rfl T a b F hr c pass0 hc tk hg hm ha hdb he hpl
end
/-- the body of a class's n-th statement -/
def classSt (s : Stmt) (n : Nat) : Stmt := match s with
  | .ClassDef _ _ _ b _ _ _ _ _ _ _ => b.getD n (.Pass ⟨0, 0, 0, 0⟩)
  | _ => .Pass ⟨0, 0, 0, 0⟩
end Rf
end
section
set_option Elab.async false
set_option linter.all false
set_option maxRecDepth 100000
set_option maxHeartbeats 4000000
/-! Rf, part Y: enumerate over a tuple; sorted(set(ints)). -/
namespace RY
open PySem
open PySem.Sem (wp)
open AutoSeq1 (wpAny_loadPart')
theorem meets_enumerate_newT (l : Addr) (items : Array Value) :
    Meets (Builtin.«enumerate.__new__» ⟨[.type "enumerate", .ref l], []⟩) (fun _ R s => s.heap.IsTuple l items ∧
      R (.ok (.ret (.ref (s.heap.push { cls := .type "tuple_iterator", data := .fields #[.ref l, .int 0 0] }).objs.size)))
        { s with heap := (s.heap.push { cls := .type "tuple_iterator", data := .fields #[.ref l, .int 0 0] }).push { cls := .type "enumerate", data := .fields #[.none, .bool false, .ref s.heap.objs.size, rawInt 0, .none, .none] } }) :=
  .of_wp fun prog w A R s h => by
    obtain ⟨hp, g, d, tk, os⟩ := s; obtain ⟨hl, h⟩ := h
    have hsub := sub_enumerate
    have hL : Heap.IsTuple (Shared.heap ⟨hp, g, d, tk, os⟩) l items := hl
    obtain ⟨o, ho, _⟩ := id hl
    wp_walk using wpAny_loadPart' ho
    refine wpAny_stack_any fun st => wpAny_pure ?_
    split
    · rename_i c _ _ _ _ _
      cases (c == Value.type "enumerate")
      · wp_walk using wpAny_loadPart' ho, wpAny_pyIter_tuple hL
        exact ⟨_, rfl, h⟩
      · wp_walk using wpAny_loadPart' ho, wpAny_pyIter_tuple hL
        exact ⟨_, rfl, h⟩
    · wp_walk using wpAny_loadPart' ho, wpAny_pyIter_tuple hL
      exact ⟨_, rfl, h⟩
section
variable {prog : Program} {w : World} {A : Around} {E : Value → Shared → Prop} {s : Shared}
theorem call_enumerate_tup {l : Addr} {items : Array Value} {Q : Value → Shared → Prop} (hL : s.heap.IsTuple l items)
    (h : ∀ h', IsEnum h' (s.heap.objs.size + 1) s.heap.objs.size 0 .none → h'.IsTupleIter s.heap.objs.size l 0 → h'.objs.size = s.heap.objs.size + 2 →
      (∀ b o, s.heap.get? b = some o → h'.get? b = some o) → Q (.ref (s.heap.objs.size + 1)) { s with heap := h' }) :
    wpAny (model prog w) A (call (.type "enumerate") [.ref l]) Q E s := by
  refine callType_new F.called_enumerate (by decide) (F.typeCall_enumerate_1 _) (F.newCall_enumerate_1 _) (fun obj => F.args_object_init_2 obj _) F.entry_enumerate_new
    (meets_enumerate_newT l items) ⟨hL, ?_⟩
  have hz : (s.heap.push { cls := .type "tuple_iterator", data := .fields #[.ref l, .int 0 0] }).objs.size = s.heap.objs.size + 1 := Heap.size_push ..
  show _ ∧ _
  rw [hz]
  have he : IsEnum ((s.heap.push { cls := .type "tuple_iterator", data := .fields #[.ref l, .int 0 0] }).push
      { cls := .type "enumerate", data := .fields #[.none, .bool false, .ref s.heap.objs.size, rawInt 0, .none, .none] }) (s.heap.objs.size + 1) s.heap.objs.size 0 .none := by
    have := Heap.get?_push_size (s.heap.push { cls := .type "tuple_iterator", data := .fields #[.ref l, .int 0 0] })
      (o := { cls := .type "enumerate", data := .fields #[.none, .bool false, .ref s.heap.objs.size, rawInt 0, .none, .none] }) rfl
    rw [hz] at this; exact this
  refine ⟨⟨_, he, rfl⟩, h _ he ⟨_, Heap.get?_push_of_some _ (Heap.get?_push_size _ rfl), rfl, rfl⟩ (by rw [Heap.size_push, hz]) fun b o x => Heap.get?_push_of_some _ (Heap.get?_push_of_some _ x)⟩
theorem draws_tup {it l : Addr} {items : Array Value} (hh : A.handled = none) (hne : l ≠ it) :
    Draws prog w A it [it, l] items.size (fun i x => items[i]? = some x) (fun i h => h.IsTupleIter it l i ∧ h.IsTuple l items) where
  live := fun i h ⟨⟨o, ho, _⟩, _⟩ => ⟨o, ho⟩
  frame := fun i h h' ⟨⟨o, ho, h1⟩, o2, ho2, h2⟩ k => ⟨⟨o, k it (by simp) o ho, h1⟩, o2, k l (by simp) o2 ho2, h2⟩
  item := fun i s Q E hi ⟨hit, hl⟩ hQ => by
    refine RZ.nextOf_tuple_item hit hl (x := items[i]) (by simp [hi]) fun h' hit' sb => ?_
    obtain ⟨o2, ho2, h2⟩ := hl
    exact hQ _ h' s.toks (by simp [hi]) ⟨hit', o2, (sb.2 _ hne).trans ho2, h2⟩ sb
  done := fun s Q E ⟨hit, hl⟩ hE => RZ.nextOf_tuple_end hh hit hl (by simp) hE
end
end RY
namespace L2
open PySem PySem.Spec PyProof.Rows
/-- the tuple at a, each item in a new pair -/
def IteT (K : PySem.W.Frag) (a : Addr) : It :=
  ⟨fun i H => ∃ (xs : List V) (x : V), SqT K H a xs ∧ xs[i]? = some x, fun i H v H' => ∃ T x, v = .ref T ∧ H T = none ∧ H' = upd H T (.tup [.int (i : Nat), x]) ∧ ∀ xs, SqT K H a xs → xs[i]? = some x, fun i H => ∃ xs : List V, SqT K H a xs ∧ xs.length ≤ i⟩
theorem turn_enumT {P : Program} {w : World} {K : PySem.W.Frag} {elts : List Expr} {kk : Nat} {tpos : Pos} (a e it : Addr) :
    Turn P w K (.Tuple elts kk tpos) (IteT K a) [e, it] e (fun i h => (∃ old, IsEnum h e it ((i : Nat) : Int) old) ∧ h.IsTupleIter it a i ∧ e ≠ it) where
  mem := by simp
  obj := fun i h st b hb => by
    obtain ⟨⟨old, he⟩, ⟨o, ho, hc, hd⟩, _⟩ := st
    have e' : b = e ∨ b = it := by simpa using hb
    rcases e' with z | z
    · rw [z]; exact ⟨_, he, fun v q => nomatch q⟩
    · rw [z]; exact ⟨o, ho, fun v q => by rw [hd] at q; cases q⟩
  keep := fun i h h' st k => let ⟨⟨old, he⟩, hi, hne⟩ := st; ⟨⟨old, k e (by simp) _ he⟩, hi.at fun o q => k it (by simp) o q, hne⟩
  item := by
    intro X hP hw hK hc i pins s σ H E I hf st hg
    subst hP hw hK
    obtain ⟨⟨old, he⟩, hit, hne⟩ := st
    obtain ⟨xs, x, hq, hx⟩ := hg
    obtain ⟨its, rv, p, hz⟩ := I.tuple hq
    have p' : s.heap.IsTuple a its.toArray := p
    obtain ⟨u, hu, ru⟩ := rv.get hx
    have hel : e < s.heap.objs.size := Heap.lt_size he
    have hil : it < s.heap.objs.size := by obtain ⟨_, q, _⟩ := hit; exact Heap.lt_size q
    have ha1 : a ≠ it := fun z => by
      obtain ⟨o1, h1, c1, _⟩ := hit
      obtain ⟨o2, h2, c2, _⟩ := p'
      rw [z, h1] at h2
      cases h2
      rw [c1] at c2
      injection c2 with c3
      exact absurd c3 (by decide)
    have ha2 : a ≠ e := fun z => by
      obtain ⟨o2, h2, c2, _⟩ := p'
      rw [z, show s.heap.get? e = some _ from he] at h2
      cases h2
      injection c2 with c3
      exact absurd c3 (by decide)
    have hil2 : i < its.toArray.size := by
      have := (List.getElem?_eq_some_iff.mp hu).1
      simpa using this
    refine wpAny_pyNext_enum_itemD (RY.draws_tup (items := its.toArray) (A := X.A.in1) (I.ok.hd hc) ha1) he ⟨hit, p'⟩ hil2 hne (by simp [hne, Ne.symm ha2]) fun y h' tk hy ho hst' hT hsz hk => ?_
    have ey : y = u := by
      have : its[i]? = some y := by simpa using hy
      rw [hu] at this
      exact (Option.some.inj this).symm
    subst ey
    obtain ⟨hit', _⟩ := hst'
    refine ⟨_, rfl, wpAny_letOwnedTupleGo_enum (s := { s with heap := h', toks := tk + 1 }) ho fun h'' he' sb => ?_⟩
    have hT2 : h''.get? s.heap.objs.size = some { cls := .type "tuple", data := .seq #[.int i tk, y] } := (sb.2 _ (Nat.ne_of_gt hel)).trans hT
    have new : ObjOk X.prog X.w (upd H s.heap.objs.size (.tup [.int (i : Nat), x])) h'' s.heap.objs.size (.tup [.int (i : Nat), x]) :=
      ⟨by show 2 ≤ sizeLine; decide, [.int i tk, y], .cons ⟨_, rfl⟩ (.cons ru .nil), ⟨_, hT2, rfl, _, rfl⟩⟩
    have I1 : Inv X pins σ (upd H s.heap.objs.size (.tup [.int (i : Nat), x])) { s with heap := h'', toks := tk + 1 } :=
      I.turnedNew (ch := [e, it]) (fun b ob hb q => (sb.2 b (fun z => hb (by simp [z]))).trans (hk b ob (fun z => hb (by simp [z])) (fun z => hb (by simp [z])) q)) hf (Nat.le_refl _) new
    refine ⟨.ref s.heap.objs.size, _, I1, rfl, ⟨_, x, rfl, I.hok.fresh (Nat.le_refl _), rfl, fun ys hy => by rw [I.tuple_inj hy hq]; exact hx⟩, ⟨⟨y, ?_⟩, hit'.at fun o q => (sb.2 it (Ne.symm hne)).trans q, hne⟩, fun b hb => ?_⟩
    · have e1 : ((i + 1 : Nat) : Int) = (i : Int) + 1 := by omega
      rw [e1]; exact he'
    · have hb' : b < s.heap.objs.size := by
        have e' : b = e ∨ b = it := by simpa using hb
        rcases e' with z | z
        · rw [z]; exact hel
        · rw [z]; exact hil
      rw [upd_ne (Nat.ne_of_lt hb')]
      exact (hf b hb).1
  done := by
    intro X hP hw hK hc i pins s σ H E I hf st hg
    subst hP hw hK
    obtain ⟨⟨old, he⟩, hit, hne⟩ := st
    obtain ⟨xs, hq, hx⟩ := hg
    obtain ⟨its, rv, p, hz⟩ := I.tuple hq
    have p' : s.heap.IsTuple a its.toArray := p
    obtain ⟨f0, f1, f2, f3, f4, f5⟩ := hf it (by simp)
    have hl := rv.length
    have hT : s.TypeIs (.ref e) "enumerate" := ⟨_, he, rfl⟩
    unfold pyNext
    refine wpAny_bind (wpAny_attempt (wpAny_callSpecial?_slot (name := Str.ofString "__next__") hT F.slot_enumerate_next
      (wpAny_call_entry F.slot_enumerate_next hT F.entry_enumerate_next ?_ (F.args_enumerate_next_1 _))))
    show wpAny _ _ (field (.ref e) 2 >>= _) _ _ _
    refine wpAny_bind (wpAny_field he rfl (x := .ref it) rfl ?_)
    refine wpAny_bind (RZ.nextOf_tuple_end (I.ok.hd hc) hit p' (by simp; omega) fun h' x eb hx' => ?_)
    obtain ⟨o, ho, hc'⟩ := hx'
    refine wpAny_bind (wpAny_isInstance (T := "StopIteration") (b := true) ⟨o, ho, hc'⟩ isSubtype_stop ?_)
    exact wpAny_pure ⟨rfl, I.turned (t' := s.toks) (fun b o hb q => eb b o hb q) f0 f1 f3 f4 f5⟩
  self := fun A i s Q E st h => let ⟨⟨_, he⟩, _⟩ := st; wpAny_pyIter_enum he h
def iEnumA (K : PySem.W.Frag) (ta : TA) : TI := fun σ H R => ta σ H fun vs H1 => ∃ a xs, vs = [.ref a] ∧ ((SqL K H1 a xs ∧ R (Ite K a) H1) ∨ (SqT K H1 a xs ∧ R (IteT K a) H1))
theorem pi_enumA {X : Cx} {e : Expr} {ta : TA} {p pos tpos : Pos} {elts : List Expr} {kk : Nat} (hg : Gl X "enumerate") (hm : X.mg "enumerate" = none) (ha : PA X [e] ta) (hs : starEach [e] X.env = [(false, eval e X.env)] := by rfl) :
    PI X (.Tuple elts kk tpos) (.Call (.Name "enumerate" p) [e] [] pos) (iEnumA X.K ta) := by
  refine ⟨fun pins s σ H R I h => ?_⟩
  refine Call_ (ld_blt I hg hm boot_enumerate (PyProof.Rows.callWith_type1 (thn (ha.run pos pins s σ H _ I h) fun us s1 ⟨vs, H1, I1, r1, q1⟩ => ?_) hs rfl))
  obtain ⟨a, xs, ex, q1⟩ := q1
  subst ex
  cases r1 with
  | cons r rr =>
    cases rr
    cases r
    have fr : ∀ b, b ∈ [s1.heap.objs.size + 1, s1.heap.objs.size] → FpOk X pins H1 b := fun b hb => by
      have e' : b = s1.heap.objs.size + 1 ∨ b = s1.heap.objs.size := by simpa using hb
      have hle : s1.heap.objs.size ≤ b := by
        rcases e' with z | z
        · rw [z]; exact Nat.le_add_right _ _
        · rw [z]; exact Nat.le_refl _
      exact I1.fpOk hle (I1.hok.fresh hle)
    rcases q1 with ⟨hq, q⟩ | ⟨hq, q⟩
    · obtain ⟨its, rv, p', hz⟩ := I1.list hq
      refine call_enumerate_list p'.isList fun h' he hit hsz hk => wpAny_pyIter_enum he ?_
      have I2 : Inv X pins σ H1 { s1 with heap := h' } := I1.kept (t' := s1.toks) hk
      exact ⟨s1.heap.objs.size + 1, [s1.heap.objs.size + 1, s1.heap.objs.size], _, _, H1, rfl, I2, turn_enum a (s1.heap.objs.size + 1) s1.heap.objs.size, ⟨⟨.none, he⟩, hit, Nat.succ_ne_self _⟩, fr, q⟩
    · obtain ⟨its, rv, p', hz⟩ := I1.tuple hq
      refine RY.call_enumerate_tup (items := its.toArray) p' fun h' he hit hsz hk => wpAny_pyIter_enum he ?_
      have I2 : Inv X pins σ H1 { s1 with heap := h' } := I1.kept (t' := s1.toks) hk
      exact ⟨s1.heap.objs.size + 1, [s1.heap.objs.size + 1, s1.heap.objs.size], _, _, H1, rfl, I2, turn_enumT a (s1.heap.objs.size + 1) s1.heap.objs.size, ⟨⟨.none, he⟩, hit, Nat.succ_ne_self _⟩, fr, q⟩
end L2
namespace Rf
open PySem PySem.Spec PyProof.Rows L2
section
variable {K : PySem.W.Frag} {G : Wd} {Z : Hp}
theorem it_enumT {a : Addr} {xs : List V} {ds : List D} (q : SqT K Z a xs) (r : RepL K G Z ds xs) : ItOk K G Z (enumD 0 ds) (IteT K a) where
  goes := fun i H hi s => by
    rw [enumD_length, r.length] at hi
    exact ⟨xs, xs[i], Same.seqT s q, List.getElem?_eq_getElem hi⟩
  stops := fun H s => by rw [enumD_length, r.length]; exact ⟨xs, Same.seqT s q, Nat.le_refl _⟩
  yields := fun i H x H' d Z1 e s s1 y => by
    have hi : i < (enumD 0 ds).length := (List.getElem?_eq_some_iff.mp e).1
    obtain ⟨d1, rfl, e1⟩ := enumD_get e
    rw [enumD_length, r.length] at hi
    obtain ⟨T, x2, rfl, hT, rfl, h2⟩ := y
    obtain ⟨v1, f1, f2⟩ := r.get e1
    have h2' : xs[i]? = some x2 := h2 xs (Same.seqT (s.trans s1) q)
    rw [h2'] at f1
    cases f1
    refine pair_stp hT s1 ?_ (Rep.mono s _ _ f2)
    rw [Nat.zero_add]
    exact rfl
end
def en2 : List D × Rho → R (List D × Rho)
  | ([.lst xs], ρ) => .ok (enumD 0 xs, ρ)
  | ([.tup xs], ρ) => .ok (enumD 0 xs, ρ)
  | _ => .no
def iEn2 (fa : Ea) : Ei := fun ρ => (fa ρ).bind en2
section
variable {X : Cx} {G : Wd} {W : WX} {p pos tpos : Pos} {e : Expr}
theorem ri_enum2 {fa : Ea} {elts : List Expr} {kk : Nat} (hg : Gl X "enumerate") (hm : X.mg "enumerate" = none) (ha : PA X [e] (tA X.K G W fa)) (hs : starEach [e] X.env = [(false, eval e X.env)] := by rfl) :
    PI X (.Tuple elts kk tpos) (.Call (.Name "enumerate" p) [e] [] pos) (tI X.K G W (iEn2 fa)) := (pi_enumA hg hm ha hs).imp fun σ H Q h => by
    refine ti_bindA h fun B Z Φ ρ1 H1 vs ds k r q => ?_
    unfold en2 at q
    split at q
    · rename_i xs ρ' ee
      cases ee
      obtain ⟨v, us, rfl, r1, r2⟩ := r
      obtain ⟨a, as, rfl, sa, ra⟩ := r1
      cases (show us = [] from r2)
      exact ⟨a, as, rfl, .inl ⟨.inl (.inl (k.zh _ _ sa)), q Z H1 _ Ext.refl k (it_enum (.inl (.inl sa)) ra)⟩⟩
    · rename_i xs ρ' ee
      cases ee
      obtain ⟨v, us, rfl, r1, r2⟩ := r
      obtain ⟨a, as, rfl, sa, ra⟩ := r1
      cases (show us = [] from r2)
      exact ⟨a, as, rfl, .inr ⟨Same.seqT k.zh sa, q Z H1 _ Ext.refl k (it_enumT sa ra)⟩⟩
    · exact q.elim
end
end Rf
end
section
set_option Elab.async false
set_option linter.all false
set_option maxRecDepth 100000
set_option maxHeartbeats 4000000
/-! Rf, part Z: sorted(set(xs)), xs a list of different ints, fewer than 64. -/
namespace L2
open PySem PySem.Spec PyProof.Rows
section
variable {P : Program} {w : World} {A : Around} {E : Value → Shared → Prop} {s : Shared}
abbrev nwSet (w : World) : Obj := { cls := .type "set", dict := none, data := .set #[] 0 (.fresh 0 0 (!w.params.followText "set-order")) }
abbrev nwIt (l : Addr) : Obj := { cls := .type "list_iterator", data := .fields #[.ref l, .int 0 0] }
/-- what set(list of ints) leaves -/
abbrev SetLeft (w : World) (s : Shared) (ns : List Int) (t : Shared) : Prop := ∃ G k c, t = { s with heap := G, toks := k } ∧ SetR w G s.heap.objs.size (fun j => decide (j ∈ ns)) c ∧ c ≤ ns.length ∧ ∀ b o, s.heap.get? b = some o → G.get? b = some o
set_option maxHeartbeats 3200000 in
theorem call_set_lstI {l : Addr} {items : Array Value} (ns : List Int) {Q : Value → Shared → Prop} (hh : A.handled = none) (hl : s.heap.IsList l items) (hit : IntsAre items.toList ns) (hb : ns.length + 1 < scanBound)
    (h : ∀ t, SetLeft w s ns t → Q (.ref s.heap.objs.size) t) : wpAny (model P w) A (call (.type "set") [.ref l]) Q E s := by
  have zz : items.size = ns.length := by
    have q := IntsAre.length hit
    rwa [Array.length_toList] at q
  obtain ⟨c, tl, hmro⟩ := F.called_set.mro
  have f1 := F.called_set.made
  have f2 := F.called_set.sub
  refine wpAny_call (codeAny_of_tree ?_)
  show wpAny _ _ (callAny (.type "set") _) _ _ _
  refine wpAny_pure ⟨Code.quiet_builtin _ (by decide +kernel), codeAny_builtin F.entry_type_call ?_⟩
  rw [Around.under_plain (weight_type_call_type "set" [.ref l] []) rfl]
  have f3 := F.called_set.notType
  have f4 := F.called_set.canCreate
  have f5 := F.typeCall_set_1 (.ref l)
  repeat (any_goals (first | assumption | wp_step))
  refine codeAny_mono (code_set_led1 (.ref l) (E := E) (Q₁ := fun u t => u = .ref s.heap.objs.size ∧ t = { s with heap := s.heap.push (nwSet w) }) ⟨rfl, rfl⟩) fun r t hr => ?_
  cases r with
  | error e => exact hr
  | ok fl =>
    cases fl with
    | ret u =>
      obtain ⟨rfl, rfl⟩ := hr
      have hS : (s.heap.push (nwSet w)).get? s.heap.objs.size = some (nwSet w) := Heap.get?_push_size _ rfl
      have hT : Shared.TypeIs { s with heap := s.heap.push (nwSet w) } (.ref s.heap.objs.size) "set" := ⟨_, hS, rfl⟩
      have f6 := F.called_set.init.lookup
      have f7 := F.called_set.init.bind (.ref s.heap.objs.size)
      repeat (any_goals (first | assumption | wp_step))
      refine codeAny_mono (codeAny_call_builtin (R := wants (fun r t => r = .none ∧ SetLeft w s ns t) E) F.called_set.init.plain F.entry_set_init (check_set_init_1 hT ?_)) fun r2 t2 hr2 => ?_
      · obtain ⟨⟨oc, od, odt, os⟩, hol, hcl, nl, hdl⟩ := hl
        simp only at hcl hdl
        subst hcl; subst hdl
        have hol' : (s.heap.push (nwSet w)).get? l = some { cls := .type "list", dict := od, data := .seq items nl, slots := os } := Heap.get?_push_of_some _ hol
        have g1 := F.sub_list_set
        have g2 := F.sub_list_frozenset
        have g3 : (Value.type "list" == Value.type "dict") = false := by decide
        have hl1 : (s.heap.push (nwSet w)).IsList l items := ⟨_, hol', rfl, nl, rfl⟩
        unfold Builtin.«set.__init__» noKeywords Builtin.Frozenset.updateFrom
        generalize hPI : pyIter = PI
        wp_walk
        subst hPI
        refine wpAny_pyIter_list hl1 ?_
        refine wpAny_bind (wpAny_runValue ?_)
        have lz : l < s.heap.objs.size := Heap.lt_size hol
        have hn3 : A.in1.in1.in1.handled = none := by simp [hh]
        have z1 : (s.heap.push (nwSet w)).objs.size = s.heap.objs.size + 1 := Heap.size_push ..
        have ne1 : l ≠ (s.heap.push (nwSet w)).objs.size := by rw [z1]; exact Nat.ne_of_lt (Nat.lt_succ_of_lt lz)
        have nf : s.heap.objs.size ∉ [(s.heap.push (nwSet w)).objs.size, l] := by
          rw [z1]
          intro hm
          rcases List.mem_cons.mp hm with e | e
          · exact Nat.ne_of_lt (Nat.lt_succ_self _) e
          · exact Nat.ne_of_gt lz (List.mem_singleton.mp e)
        have hval : ∀ (i : Nat) (v : Value), items[i]? = some v → ∃ k t, ns[i]? = some k ∧ v = .int k t := fun i v hv => by
          have hi : i < ns.length := by rw [← zz]; exact (Array.getElem?_eq_some_iff.mp hv).1
          obtain ⟨t, e⟩ := PyProof.Rows.IntsAre.int_at hit i v (by rw [Array.getElem?_toList]; exact hv)
          refine ⟨ns[i], t, List.getElem?_eq_getElem hi, ?_⟩
          rw [e, List.getD_eq_getElem?_getD, List.getElem?_eq_getElem hi]
          rfl
        have hget : ((s.heap.push (nwSet w)).push (nwIt l)).get? s.heap.objs.size = some (nwSet w) := Heap.get?_push_of_some _ hS
        refine set_update_ints ((Walks.list hn3 _ l ne1 items).toS) s.heap.objs.size nf ns zz hb hval (items.size - 0) 0 _ (by omega) (Nat.zero_le _)
          ⟨⟨_, Heap.get?_push_size _ rfl, rfl, rfl⟩, (hl1.push _)⟩ ⟨0, Nat.le_refl 0, setR_new_at hget⟩ fun t' c' hm hc' hS' => ?_
        obtain ⟨G, g5, d5, k5, os5⟩ := t'
        obtain rfl : g5 = s.gens := hm.gens
        obtain rfl : d5 = s.drawn := hm.drawn
        obtain rfl : os5 = s.os := hm.os
        show wpAny _ _ _ _ _ _
        refine wpAny_pure ?_
        show wpAny _ _ (ret Value.none) _ _ _
        rw [zz] at hc'
        refine wpAny_pure ⟨rfl, G, k5, c', rfl, hS', hc', fun b o e => ?_⟩
        have hb0 : b < s.heap.objs.size := Heap.lt_size e
        refine hm.heap b o ?_ (Heap.get?_push_of_some _ (Heap.get?_push_of_some _ e))
        rw [z1]
        intro hm
        rcases List.mem_cons.mp hm with e | e
        · exact Nat.ne_of_lt hb0 e
        · exact Nat.ne_of_lt (Nat.lt_succ_of_lt hb0) (List.mem_singleton.mp e)
      · cases r2 with
        | error e => exact hr2
        | ok fl2 =>
          cases fl2 with
          | ret r =>
            obtain ⟨rfl, hz⟩ := hr2
            obtain ⟨G, k, c', rfl, w2, w3, w4⟩ := hz
            repeat (any_goals (first | assumption | wp_step))
            exact h _ ⟨G, k, c', rfl, w2, w3, w4⟩
          | _ => exact hr2.elim
    | _ => exact hr.elim
end
/-- set(xs), xs a list of ints -/
def rSetI (K : PySem.W.Frag) (w : World) : List V → Hp → VK → Prop := fun vs H Q => ∃ (l : Addr) (ns : List Int), vs = [V.ref l] ∧ SqL K H l (ns.map V.int) ∧ ns.length < 1000 ∧
  ∀ p c, H p = none → c ≤ ns.length → Q (.ref p) (upd H p (SetO w p (fun j => decide (j ∈ ns)) c))
theorem cr_setI {X : Cx} (hc : X.calm = true) : CallR X (.type "set") (rSetI X.K X.w) := by
  intro pins s σ H vs us Q I r h
  obtain ⟨l, ns, rfl, hq, hz, q⟩ := h
  rw [Vals.ref1 r]
  obtain ⟨its, rv, pl, _⟩ := I.list hq
  have hi := ints_of_vals rv
  refine call_set_lstI (items := its.toArray) ns (I.ok.hd hc) pl.isList (by simpa using hi) (Nat.lt_of_lt_of_le (Nat.succ_lt_succ hz) (by decide)) fun t ht => ?_
  obtain ⟨G, k, c, rfl, hS, hcn, hk⟩ := ht
  exact ⟨.ref s.heap.objs.size, upd H s.heap.objs.size (SetO X.w s.heap.objs.size (fun j => decide (j ∈ ns)) c), I.laid (t' := k) hk (Nat.le_refl _) (setO_new hS), rfl, q _ c (I.hok.fresh (Nat.le_refl _)) hcn⟩
end L2
namespace Rf
open PySem PySem.Spec PyProof.Rows L2
/-- the members, in order -/
def insI (x : Int) : List Int → List Int
  | [] => [x]
  | y :: ys => if x < y then x :: y :: ys else if x = y then y :: ys else y :: insI x ys
def srtI : List Int → List Int
  | [] => []
  | x :: xs => insI x (srtI xs)
theorem mem_insI {x y : Int} : ∀ {ys : List Int}, y ∈ insI x ys ↔ y = x ∨ y ∈ ys
  | [] => by simp [insI]
  | z :: ys => by
    unfold insI
    split
    · simp
    · split
      · rename_i h; subst h; simp
      · simp [mem_insI (ys := ys)]
        constructor <;> (intro h; rcases h with h | h | h <;> simp [h])
theorem mem_srtI {y : Int} : ∀ {xs : List Int}, y ∈ srtI xs ↔ y ∈ xs
  | [] => by simp [srtI]
  | x :: xs => by simp [srtI, mem_insI, mem_srtI (xs := xs)]
theorem srt_insI {x : Int} : ∀ {ys : List Int}, ys.Pairwise (· < ·) → (insI x ys).Pairwise (· < ·)
  | [], _ => by simp [insI]
  | z :: ys, h => by
    obtain ⟨h1, h2⟩ := List.pairwise_cons.mp h
    unfold insI
    split
    · rename_i hx
      refine List.pairwise_cons.mpr ⟨fun a ha => ?_, h⟩
      rcases List.mem_cons.mp ha with rfl | ha
      · exact hx
      · exact Int.lt_trans hx (h1 a ha)
    · split
      · exact h
      · refine List.pairwise_cons.mpr ⟨fun a ha => ?_, srt_insI h2⟩
        rcases mem_insI.mp ha with rfl | ha
        · omega
        · exact h1 a ha
theorem srt_srtI : ∀ xs : List Int, (srtI xs).Pairwise (· < ·)
  | [] => List.Pairwise.nil
  | x :: xs => srt_insI (srt_srtI xs)
theorem srt_eq : ∀ {xs ys : List Int}, xs.Pairwise (· < ·) → ys.Pairwise (· < ·) → (∀ k, k ∈ xs ↔ k ∈ ys) → xs = ys
  | [], [], _, _, _ => rfl
  | [], y :: ys, _, _, h => by have := (h y).mpr (by simp); simp at this
  | x :: xs, [], _, _, h => by have := (h x).mp (by simp); simp at this
  | x :: xs, y :: ys, hx, hy, h => by
    obtain ⟨x1, x2⟩ := List.pairwise_cons.mp hx
    obtain ⟨y1, y2⟩ := List.pairwise_cons.mp hy
    have e : x = y := by
      rcases List.mem_cons.mp ((h x).mp (by simp)) with e | e
      · exact e
      · rcases List.mem_cons.mp ((h y).mpr (by simp)) with e2 | e2
        · exact e2.symm
        · have a := y1 x e
          have b := x1 y e2
          omega
    subst e
    rw [srt_eq x2 y2 fun k => ?_]
    constructor
    · intro hk
      rcases List.mem_cons.mp ((h k).mp (by simp [hk])) with e | e
      · subst e; have := x1 k hk; omega
      · exact e
    · intro hk
      rcases List.mem_cons.mp ((h k).mpr (by simp [hk])) with e | e
      · subst e; have := y1 k hk; omega
      · exact e
/-- sorted(set(xs)) -/
def gSrtSet : D → Option PV
  | .lst xs => match intsD xs with
    | some ns => if Nat.blt ns.length 64 then some (.fr ((srtI ns).map .int)) else none
    | none => none
  | _ => none
/-- as UnS, the end told by what it keeps -/
def UnSX (K : PySem.W.Frag) (G : Wd) (r : V → Hp → VK → Prop) (g : D → Option PV) : Prop := ∀ (Z H : Hp) (da : D) (x : V) (pv : PV) (Q : VK), Same Z H → Pk K G Z H da x → g da = some pv →
  (∀ Z' H' v, (∀ B Φ σ ρ, Ok K G B Z Φ σ ρ H → Ext Z Φ Z' ∧ Ok K G B Z' Φ σ ρ H' ∧ RepP K G Z' Φ σ ρ H' pv v) → Q v H') → r x H Q
theorem te_unX {K : PySem.W.Frag} {G : Wd} {W : WX} {r : V → Hp → VK → Prop} {g : D → Option PV} {fa : Ev} (S : UnSX K G r g) {σ : L2.St} {H : Hp} {Q : VK} (h : tE K G W (eU g fa) σ H Q) : tE K G W fa σ H (fun x H1 => r x H1 Q) := by
  obtain ⟨B, Z, Φ, ρ, k, h⟩ := h
  refine ⟨B, Z, Φ, ρ, k, ?_⟩
  unfold eU at h
  cases ha : fa ρ with
  | no => rw [ha] at h; exact h.elim
  | exc x => rw [ha] at h; exact h
  | ok p =>
    obtain ⟨pa, ρ1⟩ := p
    rw [ha] at h
    intro Z1 H1 x e1 k1 r1
    obtain ⟨Z2, e2, k2, r2⟩ := k1.pend r1
    change PostE K G W B Z Φ σ Q (opU g pa ρ1) at h
    unfold opU at h
    cases la : look ρ1 pa with
    | none => rw [la] at h; exact h.elim
    | some da =>
      rw [la] at h
      cases hg : g da with
      | none => simp only [hg] at h; exact h.elim
      | some pv =>
        simp only [hg] at h
        refine S Z2 H1 da x pv Q k2.zh (k2.pk r2 la) hg fun Z' H' v st => ?_
        obtain ⟨f1, f2, f3⟩ := st _ _ _ _ k2
        exact h Z' H' v ((e1.trans e2).trans f1) f2 f3
theorem uns_srtSet {K : PySem.W.Frag} {G : Wd} {w : World} : UnSX K G (fun x H Q => rSetI K w [x] H (fun v H1 => rSortedSet w [v] H1 Q)) gSrtSet := by
  intro Z H da x pv Q s ha hg q
  unfold gSrtSet at hg
  split at hg
  · split at hg
    · rename_i ns h1
      split at hg
      · rename_i hl
        cases hg
        have hl' : ns.length < 64 := by rwa [Nat.blt_eq] at hl
        cases intsD_eq h1
        obtain ⟨a, vs, rfl, sa, ra⟩ := ha.lst s
        cases ra.ints
        refine ⟨a, ns, rfl, .inl (.inl sa), by omega, fun p c hp hc => ⟨p, _, c, rfl, upd_same, by omega, fun ns' p2 hs hm _ hp2 => ?_⟩⟩
        have e : ns' = srtI ns := srt_eq hs (srt_srtI ns) fun k => by rw [hm k, mem_srtI]; simp
        subst e
        refine q Z _ _ fun B Φ σ ρ k => ?_
        have k1 := k.newF (o := SetO w p (fun j => decide (j ∈ ns)) c) hp
        have r2 : RepL K G Z ((srtI ns).map D.int) ((srtI ns).map V.int) := by
          have : ∀ l : List Int, RepL K G Z (l.map D.int) (l.map V.int) := fun l => by
            induction l with
            | nil => exact rfl
            | cons n r ih => exact ⟨.int n, r.map V.int, rfl, rfl, ih⟩
          exact this _
        exact (Stp.newF (K := K) (G := G) (Z := Z) (vs := (srtI ns).map V.int) hp2 r2).ok k1
      · cases hg
    · cases hg
  · cases hg
section
variable {X : Cx} {G : Wd} {W : WX} {p p2 q pos : Pos} {e : Expr}
theorem re_srtSet {f : Ev} (hc : X.calm = true) (g1 : Gl X "sorted") (m1 : X.mg "sorted" = none) (g2 : Gl X "set") (m2 : X.mg "set" = none) (ha : PE X e (tE X.K G W f))
    (hs : starEach [e] X.env = (false, eval e X.env) :: starEach [] X.env := by rfl) (hs2 : starEach [.Call (.Name "set" p2) [e] [] q] X.env = (false, eval (.Call (.Name "set" p2) [e] [] q) X.env) :: starEach [] X.env := by rfl) (h0 : (backTo pos (starEach [] X.env)).any (·.1) = false := by rfl) (h1 : (backTo q (starEach [] X.env)).any (·.1) = false := by rfl) :
    PE X (.Call (.Name "sorted" p) [.Call (.Name "set" p2) [e] [] q] [] pos) (tE X.K G W (eU gSrtSet f)) :=
  (pe_callB (cr_sortedSet hc) g1 m1 (by decide +kernel) (pa_cons (pe_callTy (cr_setI hc) g2 m2 (by decide +kernel) (pa_cons ha pa_nil hs) (by decide) (by decide) hs h1) pa_nil hs2) (by decide) (by decide) hs2 h0).imp fun σ H Q h => te_unX (uns_srtSet (w := X.w)) h
end
end Rf
end
section
set_option Elab.async false
set_option linter.all false
set_option maxRecDepth 100000
set_option maxHeartbeats 4000000
/-! Rf, part R: objects of the class Ratio (class number 3, fields n and d). -/
namespace Rf
open PySem PySem.Spec PyProof.Rows L2
def kitB (K : PySem.W.Frag) (C : Addr) : Bool :=
  decide (PySem.W.kitOne K (.type "NoneType") (.ref C) = some false) && (decide (PySem.W.kitOne K (.type "bool") (.ref C) = some false) && (decide (PySem.W.kitOne K (.type "int") (.ref C) = some false) && (decide (PySem.W.kitOne K (.type "str") (.ref C) = some false) &&
  (decide (PySem.W.kitOne K (.type "tuple") (.ref C) = some false) && (decide (PySem.W.kitOne K (.type "list") (.ref C) = some false) && (decide (PySem.W.kitOne K (.ref C) (.ref C) = some true) && (decide (PySem.W.kitOne K (.ref C) (.type "int") = some false) &&
  (decide (PySem.W.kitOne K (.ref C) (.type "bool") = some false) && (decide (PySem.W.kitOne K (.ref C) (.type "tuple") = some false) && (decide (PySem.W.kitOne K (.ref C) (.type "list") = some false) && decide (PySem.W.kitOne K (.ref C) (.type "str") = some false)))))))))))
/-- what the class Ratio at C must have -/
structure RatC (K : PySem.W.Frag) (C : Addr) : Prop where
  cls : Cls K C
  nn : NoAttr K C "n"
  nd : NoAttr K C "d"
  ha : PySem.W.findIn K (.ref C) "__class__" = some (some (.builtin "object.__class__"))
  hn : PySem.W.specialIn K (.builtin "object.__class__") "__get__" = some (some (.builtin "getset_descriptor.__get__"))
  htk : PySem.W.takesIn K (.builtin "object.__class__") = some true
  hm : PySem.W.mroIn K C (.type "object") = some true
  kit : kitB K C = true
theorem RatC.kits {K : PySem.W.Frag} {C : Addr} (T : RatC K C) : (∀ n, n ∈ ["NoneType", "bool", "int", "str", "tuple", "list"] → PySem.W.kitOne K (.type n) (.ref C) = some false) ∧ PySem.W.kitOne K (.ref C) (.ref C) = some true ∧ (∀ t : Tyn, PySem.W.kitOne K (.ref C) (.type t.n) = some false) := by
  have h := T.kit
  unfold kitB at h
  simp only [Bool.and_eq_true, decide_eq_true_eq] at h
  obtain ⟨h1, h2, h3, h4, h5, h6, h7, h8, h9, h10, h11, h12⟩ := h
  refine ⟨fun n hn => ?_, h7, fun t => by cases t <;> assumption⟩
  simp only [List.mem_cons, List.not_mem_nil, or_false] at hn
  rcases hn with rfl | rfl | rfl | rfl | rfl | rfl <;> assumption
/-- isinstance(x, Ratio) -/
def gIsR : D → Option PV
  | .obj 3 _ => some (.fz (.bl true))
  | .obj _ _ => none
  | .fn _ => none
  | _ => some (.fz (.bl false))
/-- isinstance(x, T), x a Ratio too -/
def gIsi2 (T : Tyn) : D → Option PV
  | .obj 3 _ => some (.fz (.bl false))
  | d => gIsi T d
/-- a field -/
def gFld (i : Nat) : D → Option PV
  | .obj 3 fs => fs[i]?.map .fz
  | _ => none
section
variable {K : PySem.W.Frag} {G : Wd}
theorem pk_obj {Z H : Hp} {c : Nat} {fs : List D} {x : V} (s : Same Z H) (h : Pk K G Z H (.obj c fs) x) : ∃ a dx vs, x = .ref a ∧ H a = some (.ins (G.clA c) dx ((G.clF c).zip vs)) ∧ (G.clF c).length = fs.length ∧ RepL K G Z fs vs := by
  obtain ⟨a, dx, vs, rfl, q, l, r⟩ := Pk.rep h (by intro _ e; cases e)
  exact ⟨a, dx, vs, rfl, s _ _ q, l, r⟩
theorem tyX_obj (T : RatC K (G.clA 3)) {Z H : Hp} {fs : List D} {x : V} (s : Same Z H) (h : Pk K G Z H (.obj 3 fs) x) : TyX K H x (.ref (G.clA 3)) := by
  obtain ⟨a, dx, vs, rfl, q, _, _⟩ := pk_obj s h
  exact .base (.ins q T.cls T.ha T.hn T.htk T.hm)
theorem uns_isR (T : RatC K (G.clA 3)) : UnS K G (fun x H Q => rIsi K [x, .ref (G.clA 3)] H Q) gIsR := by
  intro Z H da x pv Q s ha hg q
  have base : ∀ n, tyD da = some n → n ∈ ["NoneType", "bool", "int", "str", "tuple", "list"] → pv = .fz (.bl false) → rIsi K [x, .ref (G.clA 3)] H Q := fun n hn hm e => by
    subst e
    exact ⟨x, .ref (G.clA 3), .type n, .ref (G.clA 3), false, rfl, .own _, tyX_of s ha hn, T.kits.1 n hm, q _ _ _ (.same rfl)⟩
  cases da with
  | obj c fs =>
    by_cases hc : c = 3
    · subst hc
      cases hg
      exact ⟨x, .ref (G.clA 3), .ref (G.clA 3), .ref (G.clA 3), true, rfl, .own _, tyX_obj T s ha, T.kits.2.1, q _ _ _ (.same rfl)⟩
    · unfold gIsR at hg
      split at hg
      · rename_i e; cases e; exact absurd rfl hc
      · cases hg
      · cases hg
      · rename_i h1 h2 h3; exact absurd rfl (h2 _ _)
  | fn n => cases hg
  | non => cases hg; exact base _ rfl (by simp) rfl
  | bl b => cases hg; exact base _ rfl (by simp) rfl
  | int b => cases hg; exact base _ rfl (by simp) rfl
  | str b => cases hg; exact base _ rfl (by simp) rfl
  | tup b => cases hg; exact base _ rfl (by simp) rfl
  | lst b => cases hg; exact base _ rfl (by simp) rfl
  | lck b => cases hg; exact base _ rfl (by simp) rfl
theorem uns_isi2 (R : RatC K (G.clA 3)) (T : Tyn) : UnS K G (fun x H Q => rIsi K [x, .ty T.n] H Q) (gIsi2 T) := by
  intro Z H da x pv Q s ha hg q
  unfold gIsi2 at hg
  split at hg
  · cases hg
    exact ⟨x, .ty T.n, .ref (G.clA 3), .type T.n, false, rfl, .ty _, tyX_obj R s ha, R.kits.2.2 T, q _ _ _ (.same rfl)⟩
  · exact uns_isi T Z H da x pv Q s ha hg q
theorem uns_fld (T : RatC K (G.clA 3)) (hF : G.clF 3 = [("n" : Str), ("d" : Str)]) {i : Nat} {f : Str} (hf : (i = 0 ∧ f = "n") ∨ (i = 1 ∧ f = "d")) :
    UnS K G (fun x H Q => ∃ a C dx fs v, x = .ref a ∧ H a = some (.ins C dx fs) ∧ Cls K C ∧ NoAttr K C f ∧ fs.lookup f = some v ∧ Q v H) (gFld i) := by
  intro Z H da x pv Q s ha hg q
  unfold gFld at hg
  split at hg
  · rename_i fs
    rw [Option.map_eq_some_iff] at hg
    obtain ⟨d, hd, rfl⟩ := hg
    obtain ⟨a, dx, vs, rfl, e, l, r⟩ := pk_obj s ha
    rw [hF] at e l
    match fs, l, r, hd with
    | [d0, d1], _, r, hd =>
      obtain ⟨v0, w, rfl, r0, r1⟩ := r
      obtain ⟨v1, w2, rfl, r2, r3⟩ := r1
      cases (show w2 = [] from r3)
      rcases hf with ⟨rfl, rfl⟩ | ⟨rfl, rfl⟩
      · cases hd
        exact ⟨a, _, dx, _, v0, rfl, e, T.cls, T.nn, rfl, q _ _ _ (.same r0)⟩
      · cases hd
        exact ⟨a, _, dx, _, v1, rfl, e, T.cls, T.nd, rfl, q _ _ _ (.same r2)⟩
  · cases hg
end
section
variable {X : Cx} {G : Wd} {W : WX} {e : Expr} {p pos : Pos}
theorem re_fld {f : Ev} (T : RatC X.K (G.clA 3)) (hF : G.clF 3 = [("n" : Str), ("d" : Str)]) {i : Nat} {n : Str} (hf : (i = 0 ∧ n = "n") ∨ (i = 1 ∧ n = "d")) (he : PE X e (tE X.K G W f)) (hb : attributeBase e n X.env (eval e X.env) = eval e X.env := by rfl) :
    PE X (.Attribute e n pos) (tE X.K G W (eU (gFld i) f)) := (pe_fld he hb).imp fun σ H Q h => te_un (uns_fld T hF hf) h
theorem re_isR {f : Ev} (T : RatC X.K (G.clA 3)) {y : Str} {p2 : Pos} (hg : Gl X "isinstance") (hm : X.mg "isinstance" = none) (hg2 : Gl X y) (hm2 : X.mg y = some (.ref (G.clA 3))) (ha : PE X e (tE X.K G W f)) (hdb : (y == ("__debug__" : Str)) = false := by decide)
    (hs1 : starEach [.Name y p2] X.env = (false, eval (.Name y p2) X.env) :: starEach [] X.env := by rfl) (hs : starEach [e, .Name y p2] X.env = (false, eval e X.env) :: starEach [.Name y p2] X.env := by rfl) (hpl : (backTo pos (starEach [.Name y p2] X.env)).any (·.1) = false := by rfl) :
    PE X (.Call (.Name "isinstance" p) [e, .Name y p2] [] pos) (tE X.K G W (eU gIsR f)) :=
  (pe_callB call_isi hg hm (by decide +kernel) (pa_cons ha (pa_cons (pe_glob (v := .ref (G.clA 3)) hg2 hm2 rfl hdb) pa_nil hs1) hs) (by decide) (by decide) hs hpl).imp fun σ H Q h => te_un (uns_isR T) h
theorem re_isi2 {f : Ev} (R : RatC X.K (G.clA 3)) (T : Tyn) {y : Str} {p2 : Pos} (hg : Gl X "isinstance") (hm : X.mg "isinstance" = none) (hg2 : Gl X y) (hm2 : X.mg y = none) (hv2 : bootBuiltins y = some (.type T.n)) (ha : PE X e (tE X.K G W f)) (hn : y ≠ "__name__" := by decide) (hdb : (y == ("__debug__" : Str)) = false := by decide)
    (hs1 : starEach [.Name y p2] X.env = (false, eval (.Name y p2) X.env) :: starEach [] X.env := by rfl) (hs : starEach [e, .Name y p2] X.env = (false, eval e X.env) :: starEach [.Name y p2] X.env := by rfl) (hpl : (backTo pos (starEach [.Name y p2] X.env)).any (·.1) = false := by rfl) :
    PE X (.Call (.Name "isinstance" p) [e, .Name y p2] [] pos) (tE X.K G W (eU (gIsi2 T) f)) :=
  (pe_callB call_isi hg hm (by decide +kernel) (pa_cons ha (pa_cons (pe_bltn (v := .ty T.n) hg2 hm2 hv2 rfl hn hdb) pa_nil hs1) hs) (by decide) (by decide) hs hpl).imp fun σ H Q h => te_un (uns_isi2 R T) h
end
end Rf
end
section
set_option Elab.async false
set_option linter.all false
set_option maxRecDepth 100000
set_option maxHeartbeats 4000000
/-! Rf, part N: an object is made: C(e, ..), its __init__ walked. -/
namespace L2
open PySem PySem.Spec PyProof.Rows
section
variable {X : Cx} {CX : CXT} {k : Nat} {f C : Addr} {fd : FuncData} {ps : List Str} {sp : Sp} {dvs : List V} {ds : List Value} {E : St → XK} {x : Str} {p pos : Pos} {e : Expr} {es : List Expr} {t : TA}
/-- C(e, ..), the wish for an error by the state -/
def tMakeS (C : Addr) (sp : Sp) (dvs : List V) (E : St → XK) (t : TA) : TE := fun σ H Q => t σ H fun vs H1 => ∀ x dx, H1 x = none → H1 dx = none → dx ≠ x →
  sp (.ref x :: (vs ++ dvs)) (upd (upd H1 dx (.own x)) x (.ins C dx [])) (fun v H2 => v = .non ∧ Q (.ref x) H2) (E σ)
theorem pe_makeS (M : Mk X.K C f) (F : FnOk X.prog X.w X.K X.mg X.base CX k f fd ps sp) (hr : Room (k + 1) X.A) (hg : Gl X x) (hm : X.mg x = some (.ref C)) (hb : Binds X.K fd ps ds) (hd : Vals dvs ds) (hx : ∀ σ, PassesAt CX X σ (E σ))
    (ha : PA X (e :: es) t) (hdb : (x == ("__debug__" : Str)) = false := by decide) (he : starEach (e :: es) X.env = (false, eval e X.env) :: starEach es X.env := by rfl) (hpl : (backTo pos (starEach es X.env)).any (·.1) = false := by rfl) :
    PE X (.Call (.Name x p) (e :: es) [] pos) (tMakeS C sp dvs E t) := by
  refine ⟨fun pins s σ H Q I h => ?_⟩
  refine wpAny_Call_Name_kw (ld_glob I hg hm ?_ hdb)
  refine PySem.W.callWith_K (h₀ := X.base) I.ok.mod.kin M.kp (thn (ha.run pos pins s σ H _ I h) fun us s1 ⟨vs, H1, J, r, q⟩ => ⟨J.kIn, ?_⟩) he hpl
  have q1 := q (s1.heap.objs.size + 1) s1.heap.objs.size (J.hok.fresh (Nat.le_succ _)) (J.hok.fresh (Nat.le_refl _)) (Nat.ne_of_lt (Nat.lt_succ_self _))
  have J2 := Inv.made (C := C) J
  have rr : Vals (V.ref (s1.heap.objs.size + 1) :: (vs ++ dvs)) (Value.ref (s1.heap.objs.size + 1) :: (us ++ ds)) := .cons rfl (r.append hd)
  have ll : (Value.ref (s1.heap.objs.size + 1) :: us ++ ds).length = ps.length := (rr.length.symm.trans (F.len _ _ _ _ q1))
  refine wpAny_call (make_map (f := f) J.kIn M.makes M.init (beq_iff_eq.mp M.fn) (codeAny_mono (F.run _ X.stack _ _ ⟨Value.ref (s1.heap.objs.size + 1) :: us, []⟩ (Value.ref (s1.heap.objs.size + 1) :: (us ++ ds)) _ _ (E σ) (hr.make C us [])
    (J2.env0.make C us []) (hb _ (Value.ref (s1.heap.objs.size + 1) :: us) J2.kIn ll) rr q1) fun z s2 hz => ?_))
  cases z with
  | error er => exact hx σ pins _ _ er s2 J2 hz
  | ok fl =>
    cases fl with
    | ret u =>
      obtain ⟨v, H2, J3, rv, ev, q3⟩ := J2.after hz
      subst ev
      exact ⟨rv, ⟨V.ref (s1.heap.objs.size + 1), H2, J3, rfl, q3⟩⟩
    | next => exact False.elim hz
    | brk => exact False.elim hz
    | cont => exact False.elim hz
end
end L2
namespace Rf
open PySem PySem.Spec PyProof.Rows L2
def PostN (K : PySem.W.Frag) (G : Wd) (Z Φ : Hp) (a C dx : Addr) (names : List Str) (Q : VK) (E : XK) : R (List D) → Prop
  | .ok fs => names.length = fs.length → ∀ Z' H' us, Ext Z Φ Z' → Same Z' H' → Same Φ H' → Z' a = none → H' a = some (.ins C dx (names.zip us)) → RepL K G Z' fs us → Q .non H'
  | .exc x => ∀ Z' H' cls d, Ext Z Φ Z' → Same Z' H' → Same Φ H' → RepX G H' x cls d → E cls d H'
  | .no => False
def spN (K : PySem.W.Frag) (G : Wd) (C : Addr) (names : List Str) (n : Nat) (FI : List D → R (List D)) : Sp := fun vs H Q E => ∃ (Z Φ : Hp) (a dx : Addr) (ds : List D) (ws : List V), vs = .ref a :: ws ∧ H a = some (.ins C dx []) ∧ Z a = none ∧ Φ a = none ∧ Same Z H ∧ Same Φ H ∧
  RepL K G Z ds ws ∧ ds.length = n ∧ PostN K G Z Φ a C dx names Q E (FI ds)
def newK (c : Nat) (m : Nat) (ρ : Rho) : R (List D) → R (PV × Rho)
  | .ok fs => if fs.length == m then .ok (.fz (.obj c fs), ρ) else .no
  | .exc x => .exc x
  | .no => .no
def eNew (c m n : Nat) (FI : List D → R (List D)) (dd : List D) (fa : Ea) : Ev := fun ρ => (fa ρ).bind fun (ds, ρ1) => if (ds ++ dd).length == n then newK c m ρ1 (FI (ds ++ dd)) else .no
section
variable {K : PySem.W.Frag} {G : Wd} {W : WX} {B : L2.St} {Z Z' Φ H H' : Hp} {σ : L2.St} {ρ : Rho} {Q : VK}
/-- an object that stands is frozen -/
theorem Ok.addZ (k : Ok K G B Z Φ σ ρ H) {x : Addr} {C dx : Addr} {fs : List (Str × V)} (h : H x = some (.ins C dx fs)) (hz : Z x = none) : Ok K G B (upd Z x (.ins C dx fs)) Φ σ ρ H := by
  refine ⟨same_upd1 k.zh h, k.fh, k.len, fun i d e => ?_, fun i b xs e => ?_, k.ne, k.bw, k.lb⟩
  · obtain ⟨v, e1, r⟩ := k.fz i d e
    exact ⟨v, e1, Rep.mono (same_newZ hz) _ _ r⟩
  · obtain ⟨a, vs, e1, e2, r, z1, z2⟩ := k.ow i b xs e
    have ne : a ≠ x := fun z => by rw [z, h] at e2; cases e2
    exact ⟨a, vs, e1, e2, RepL.mono (same_newZ hz) _ _ r, by rw [upd_ne ne]; exact z1, z2⟩
theorem te_new {c n : Nat} {names : List Str} {FI : List D → R (List D)} {dd : List D} {dvs : List V} {fa : Ea} (hN : G.clF c = names) (hd : ∀ Z, RepL K G Z dd dvs) (h : tE K G W (eNew c names.length n FI dd fa) σ H Q) :
    tA K G W fa σ H (fun vs H1 => ∀ x dx, H1 x = none → H1 dx = none → dx ≠ x → spN K G (G.clA c) names n FI (.ref x :: (vs ++ dvs)) (upd (upd H1 dx (.own x)) x (.ins (G.clA c) dx [])) (fun v H2 => v = .non ∧ Q (.ref x) H2) (WE W σ)) := by
  refine te_bindA h fun B Z Φ ρ1 H1 vs ds k r q => ?_
  dsimp only at q
  intro x dx hx hdx hne
  have zx := Same.none k.zh hx
  have fx := Same.none k.fh hx
  have frx : Rf.frm Φ H1 σ ρ1 none x = none := by
    rcases frm_cases (Φ := Φ) (H := H1) (σ := σ) (ρ := ρ1) (b := none) (c := x) with ⟨z, _⟩ | ⟨z, _⟩
    · rw [z]; exact hx
    · rw [z]; exact fx
  have n2 : (upd H1 dx (.own x)) x = none := by rw [upd_ne (Ne.symm hne)]; exact hx
  split at q
  · rename_i hl
    refine ⟨Z, Rf.frm Φ H1 σ ρ1 none, x, dx, ds ++ dd, vs ++ dvs, rfl, upd_same, zx, frx, same_new (same_new k.zh hdx) n2, same_new (same_new (k.frm none) hdx) n2, r.append (hd Z), eq_of_beq hl, ?_⟩
    cases hF : FI (ds ++ dd) with
    | no => rw [hF] at q; exact q.elim
    | exc y =>
      rw [hF] at q
      exact fun Z' H' cls d e zh fh rx => q Z' H' cls d (Ext.frm k e) zh ((k.frm_sub none).trans fh) rx
    | ok fs =>
      rw [hF] at q
      intro hlen Z' H' us e zh fh z0 hins rl
      change PostE K G W B Z Φ σ Q (if (fs.length == names.length) = true then R.ok (PV.fz (.obj c fs), ρ1) else .no) at q
      rw [if_pos (by rw [beq_iff_eq]; exact hlen.symm)] at q
      have k2 := k.after e zh fh
      refine ⟨rfl, q (upd Z' x (.ins (G.clA c) dx (names.zip us))) H' (.ref x) ((Ext.frm k e).trans (ext_upd z0 fx)) (k2.addZ hins z0) ?_⟩
      exact ⟨x, dx, us, rfl, by rw [upd_same, hN], by rw [hN]; exact hlen, RepL.mono (same_newZ z0) _ _ rl⟩
  · exact q.elim
end
section
variable {X : Cx} {G : Wd} {W : WX} {k c n : Nat} {f : Addr} {fd : FuncData} {ps names : List Str} {FI : List D → R (List D)} {dd : List D} {dvs : List V} {ds : List Value} {x : Str} {p pos : Pos} {e : Expr} {es : List Expr} {fa : Ea}
theorem re_new (M : Mk X.K (G.clA c) f) (F : FnOk X.prog X.w X.K X.mg X.base (L2.CX X.prog X.w) k f fd ps (spN X.K G (G.clA c) names n FI)) (hN : G.clF c = names) (hr : Room (k + 1) X.A) (hg : Gl X x) (hm : X.mg x = some (.ref (G.clA c))) (hb : Binds X.K fd ps ds) (hd : Vals dvs ds)
    (hdd : ∀ Z, RepL X.K G Z dd dvs) (tk : Takes X W) (ha : PA X (e :: es) (tA X.K G W fa)) (hdb : (x == ("__debug__" : Str)) = false := by decide) (he : starEach (e :: es) X.env = (false, eval e X.env) :: starEach es X.env := by rfl) (hpl : (backTo pos (starEach es X.env)).any (·.1) = false := by rfl) :
    PE X (.Call (.Name x p) (e :: es) [] pos) (tE X.K G W (eNew c names.length n FI dd fa)) := (pe_makeS M F hr hg hm hb hd (passAt tk) ha hdb he hpl).imp fun σ H Q h => te_new hN hdd h
end
end Rf
end
section
set_option Elab.async false
set_option linter.all false
set_option maxRecDepth 100000
set_option maxHeartbeats 4000000
/-! Rf, part O: an __init__ of three statements and two fields. -/
namespace Rf
open PySem PySem.Spec PyProof.Rows L2
/-- self's number in the world of an __init__ -/
def G9 (G : Wd) (a : Addr) : Wd := { G with fnA := fun n => if n = 999 then a else G.fnA n }
mutual
def noFn : D → Bool
  | .fn _ => false
  | .tup ds => noFns ds
  | .lst ds => noFns ds
  | .lck ds => noFns ds
  | .obj _ ds => noFns ds
  | _ => true
def noFns : List D → Bool
  | [] => true
  | d :: ds => noFn d && noFns ds
end
mutual
theorem Rep.w9 {K : PySem.W.Frag} {G : Wd} {a : Addr} {Z : Hp} : ∀ (d : D) (v : V), noFn d = true → (Rep K (G9 G a) Z d v ↔ Rep K G Z d v)
  | .non, _, _ => Iff.rfl
  | .bl _, _, _ => Iff.rfl
  | .int _, _, _ => Iff.rfl
  | .str _, _, _ => Iff.rfl
  | .fn _, _, h => by simp [noFn] at h
  | .tup ds, v, h => by
    have ih := fun vs => RepL.w9 (K := K) (G := G) (a := a) (Z := Z) ds vs (by simpa [noFn] using h)
    simp only [Rep, ih]
  | .lst ds, v, h => by
    have ih := fun vs => RepL.w9 (K := K) (G := G) (a := a) (Z := Z) ds vs (by simpa [noFn] using h)
    simp only [Rep, ih]
  | .lck ds, v, h => by
    have ih := fun vs => RepL.w9 (K := K) (G := G) (a := a) (Z := Z) ds vs (by simpa [noFn] using h)
    simp only [Rep, ih]
  | .obj c ds, v, h => by
    have ih := fun vs => RepL.w9 (K := K) (G := G) (a := a) (Z := Z) ds vs (by simpa [noFn] using h)
    simp only [Rep, ih]
    exact Iff.rfl
theorem RepL.w9 {K : PySem.W.Frag} {G : Wd} {a : Addr} {Z : Hp} : ∀ (ds : List D) (vs : List V), noFns ds = true → (RepL K (G9 G a) Z ds vs ↔ RepL K G Z ds vs)
  | [], _, _ => Iff.rfl
  | d :: ds, vs, h => by
    rw [noFns, Bool.and_eq_true] at h
    have i1 := fun v => Rep.w9 (K := K) (G := G) (a := a) (Z := Z) d v h.1
    have i2 := fun r => RepL.w9 (K := K) (G := G) (a := a) (Z := Z) ds r h.2
    simp only [RepL, i1, i2]
end
def is9 (ρ : Rho) : Bool := match ρ[(0 : Nat)]? with
  | some (.fz (.fn n)) => Nat.beq n 999
  | _ => false
def ini2 (d1 : D) : PV × Rho → R (List D)
  | (.fz d2, ρ2) => if is9 ρ2 && noFn d2 then .ok [d1, d2] else .no
  | _ => .no
def ini1 (e2 : Ev) : PV × Rho → R (List D)
  | (.fz d1, ρ1) => if is9 ρ1 && noFn d1 then (e2 ρ1).bind (ini2 d1) else .no
  | _ => .no
def iniK (e1 e2 : Ev) : R (Fl × Rho) → R (List D)
  | .ok (.nx, ρ) => (e1 ρ).bind (ini1 e2)
  | .exc x => .exc x
  | _ => .no
def iniOf (N : Nat) (b : Es) (e1 e2 : Ev) : List D → R (List D) := fun ds => if noFns ds then iniK e1 e2 (b (startR N (.fn 999 :: ds))) else .no
section
variable {K : PySem.W.Frag} {G : Wd} {W : WX} {B : L2.St} {Z Φ H : Hp} {σ : L2.St} {ρ : Rho}
theorem is9_eq {ρ : Rho} (h : is9 ρ = true) : ρ[(0 : Nat)]? = some (.fz (.fn 999)) := by
  unfold is9 at h
  split at h
  · rename_i n e
    rw [Nat.eq_of_beq_eq_true h] at e
    exact e
  · cases h
theorem Ok.self9 {a : Addr} (k : Ok K (G9 G a) B Z Φ σ ρ H) (h : is9 ρ = true) : σ[(0 : Nat)]? = some (some (.ref a)) := by
  obtain ⟨v, e, r⟩ := k.fz 0 _ (is9_eq h)
  have : v = .ref a := r
  rw [e, this]
theorem Ext.weak {Φ2 Z' : Hp} (h : ∀ c, Φ2 c = none → Φ c = none) (e : Ext Z Φ2 Z') : Ext Z Φ Z' := ⟨e.1, fun a o q => (e.2 a o q).elim .inl fun z => .inr (h a z)⟩
theorem Ext.stay {Z' : Hp} {a : Addr} {o : HO} (e : Ext Z Φ Z') (hz : Z a = none) (hf : Φ a = some o) : Z' a = none := by
  cases h : Z' a with
  | none => rfl
  | some u =>
    rcases e.2 a u h with z | z
    · rw [hz] at z; cases z
    · rw [hf] at z; cases z
theorem ts_mono {f : Es} {De De' : Ends} (h1 : ∀ σ H, De.nx σ H → De'.nx σ H) (h2 : De.rt = De'.rt) (h3 : De.bk = De'.bk) (h4 : De.ct = De'.ct) (h : tS K G W f De σ H) : tS K G W f De' σ H := by
  obtain ⟨B, Z, Φ, ρ, k, h⟩ := h
  refine ⟨B, Z, Φ, ρ, k, ?_⟩
  cases hf : f ρ with
  | no => rw [hf] at h; exact h
  | exc x => rw [hf] at h; exact h
  | ok r =>
    obtain ⟨fl, ρ1⟩ := r
    rw [hf] at h
    cases fl with
    | nx => exact fun Z' σ' H' e k' => h1 _ _ (h Z' σ' H' e k')
    | rt pv => intro Z' σ' H' v e k' r'; rw [← h2]; exact h Z' σ' H' v e k' r'
    | bk => intro Z' σ' H' e k'; rw [← h3]; exact h Z' σ' H' e k'
    | ct => intro Z' σ' H' e k'; rw [← h4]; exact h Z' σ' H' e k'
theorem ts_seq3 {f1 f2 f3 : Es} {u : TS} {De : Ends} (h : tS K G W (sSeq f1 (sSeq f2 f3)) { De with nx := u De } σ H) : tSeq (tS K G W f1) (tSeq (tS K G W f2) (tSeq (tS K G W f3) u)) De σ H := by
  have h1 : tS K G W f1 { De with nx := tS K G W (sSeq f2 f3) { De with nx := u De } } σ H := ts_seq h
  exact ts_mono (De := { De with nx := tS K G W (sSeq f2 f3) { De with nx := u De } }) (De' := { De with nx := tSeq (tS K G W f2) (tSeq (tS K G W f3) u) De }) (fun σ H h => ts_seq (D := { De with nx := u De }) h) rfl rfl rfl h1
/-- the frame's object is changed, and the frame with it -/
theorem Ok.poke (k : Ok K G B Z Φ σ ρ H) {a : Addr} {o o' : HO} (hf : Φ a = some o) (hz : Z a = none) : Ok K G B Z (upd Φ a o') σ ρ (upd H a o') := by
  refine ⟨fun c u e => ?_, fun c u e => ?_, k.len, k.fz, fun i b xs e => ?_, k.ne, k.bw, k.lb⟩
  · have ne : c ≠ a := fun z => by rw [z, hz] at e; cases e
    rw [upd_ne ne]
    exact k.zh c u e
  · by_cases hc : c = a
    · subst hc
      rw [upd_same] at e ⊢
      exact e
    · rw [upd_ne hc] at e ⊢
      exact k.fh c u e
  · obtain ⟨c, vs, e1, e2, r, z1, z2⟩ := k.ow i b xs e
    have ne : c ≠ a := fun z => by rw [z, hf] at z2; cases z2
    exact ⟨c, vs, e1, by rw [upd_ne ne]; exact e2, r, z1, by rw [upd_ne ne]; exact z2⟩
end
section
variable {P : Program} {w : World} {K : PySem.W.Frag} {mg : Str → Option Value} {base : Heap} {G : Wd} {C : Addr}
abbrev tIni (K : PySem.W.Frag) (G : Wd) (W : WX) (f1 f2 f3 : Es) (e1 e2 : Ev) : TS := tSeq (tS K G W f1) (tSeq (tS K G W f2) (tSeq (tS K G W f3) (tSeq (sFld K (tVar 0) (tE K G W e1) "n") (sFld K (tVar 0) (tE K G W e2) "d"))))
theorem ini_ok {body : List Stmt} {scope : Scope} {f : Addr} {fd : FuncData} {qual : Str} {N ps : List Str} {k n : Nat} {f1 f2 f3 : Es} {e1 e2 : Ev}
    (okX : ∀ (sp : Sp), (∀ vs H Q E, sp vs H Q E → vs.length = ps.length) → (∀ (cdv : Value) (A : Around) (outer : List Env) (s : Shared) (H : Hp) (vs : List V) (Q : VK) (E : XK), Room k (A.deeper (envOfC qual scope s.heap.objs.size f cdv)) → sp vs H Q E →
      ∃ t, PSs (cxOf (L2.CX P w) P w K mg base N qual scope f cdv A outer s H E) body t ∧ t { nx := fun _ H' => Q .non H', rt := Q } (L2.start N vs) H) → FnOk P w K mg base (L2.CX P w) (k + 1) f fd ps sp) (hn : ps.length = n + 1) (T : RatC K C)
    (hb : ∀ (a : Addr) (cdv : Value) (A : Around) (outer : List Env) (s : Shared) (H : Hp) (E : XK), Room k (A.deeper (envOfC qual scope s.heap.objs.size f cdv)) →
      PSs (cxOf (L2.CX P w) P w K mg base N qual scope f cdv A outer s H E) body (tIni K (G9 G a) (fun cls d _ H => E cls d H) f1 f2 f3 e1 e2)) :
    FnOk P w K mg base (L2.CX P w) (k + 1) f fd ps (spN K G C ["n", "d"] n (iniOf N.length (sSeq f1 (sSeq f2 f3)) e1 e2)) := by
  refine okX _ (fun vs H Q E h => ?_) (fun cdv A outer s H vs Q E hr h => ?_)
  · obtain ⟨Z, Φ, a, dx, ds, ws, rfl, _, _, _, _, _, r, hl, _⟩ := h
    rw [List.length_cons, ← r.length, hl, hn]
  obtain ⟨Z, Φ, a, dx, ds, ws, rfl, ha, za, fa, zh, fh, r, hl, q⟩ := h
  refine ⟨_, hb a cdv A outer s H E hr, ?_⟩
  unfold iniOf at q
  split at q
  · rename_i hnf
    have fha : (upd Φ a (.ins C dx [])) a = some (.ins C dx []) := upd_same
    have wk : ∀ c, (upd Φ a (.ins C dx [])) c = none → Φ c = none := fun c h => by
      have ne : c ≠ a := fun z => by rw [z, upd_same] at h; cases h
      rw [upd_ne ne] at h
      exact h
    have down : ∀ {o : HO} {H' : Hp}, Same (upd Φ a o) H' → Same Φ H' := fun {o H'} h c u e => by
      have ne : c ≠ a := fun z => by rw [z, fa] at e; cases e
      exact h c u (by rw [upd_ne ne]; exact e)
    have st0 := start_ok (K := K) (G := G9 G a) (N := N) (Z := Z) (Φ := upd Φ a (.ins C dx [])) (H := H) (ds := .fn 999 :: ds) (vs := .ref a :: ws) zh (same_upd1 fh ha) ⟨.ref a, ws, rfl, rfl, (RepL.w9 ds ws hnf).mpr r⟩
    apply ts_seq3
    refine ⟨_, Z, _, _, st0, ?_⟩
    cases h3 : (sSeq f1 (sSeq f2 f3)) (startR N.length (.fn 999 :: ds)) with
    | no => rw [h3] at q; exact q.elim
    | exc y =>
      rw [h3] at q
      exact fun σ' _ Z' H' cls d e zh' fh' rx => q Z' H' cls d (Ext.weak wk e) zh' (down fh') rx
    | ok p =>
      obtain ⟨fl, ρ1⟩ := p
      rw [h3] at q
      cases fl with
      | rt pv => exact q.elim
      | bk => exact q.elim
      | ct => exact q.elim
      | nx =>
        intro Z1 σ1 H1 x1 k1
        have z1 := Ext.stay x1 za fha
        dsimp only
        unfold tSeq sFld
        dsimp only
        refine ⟨_, Z1, _, ρ1, k1, ?_⟩
        change PostN K G Z Φ a C dx _ _ _ ((e1 ρ1).bind (ini1 e2)) at q
        cases he1 : e1 ρ1 with
        | no => rw [he1] at q; exact q.elim
        | exc y =>
          rw [he1] at q
          exact fun Z' H' cls d e zh' fh' rx => q Z' H' cls d (Ext.weak wk (x1.trans e)) zh' (down fh') rx
        | ok p =>
          obtain ⟨pv, ρ2⟩ := p
          rw [he1] at q
          change PostN K G Z Φ a C dx _ _ _ (ini1 e2 (pv, ρ2)) at q
          unfold ini1 at q
          split at q
          · rename_i d1 ρ2' heq
            cases heq
            split at q
            · rename_i hc
              rw [Bool.and_eq_true] at hc
              intro Z2 H2 y x2 k2 ry
              have z2 := Ext.stay x2 z1 fha
              have self := k2.self9 hc.1
              refine ⟨.ref a, self, a, C, dx, [], rfl, k2.fh a _ fha, T.cls, T.nn, by decide, ?_⟩
              have k3 := k2.poke (o' := .ins C dx (putF "n" y [])) fha z2
              have fhb : (upd (upd Φ a (.ins C dx [])) a (.ins C dx (putF "n" y []))) a = some (.ins C dx (putF "n" y [])) := upd_same
              have wk2 : ∀ c, (upd (upd Φ a (.ins C dx [])) a (.ins C dx (putF "n" y []))) c = none → Φ c = none := fun c h => by
                have ne : c ≠ a := fun z => by rw [z, upd_same] at h; cases h
                rw [upd_ne ne] at h
                exact wk c h
              have down2 : ∀ {H' : Hp}, Same (upd (upd Φ a (.ins C dx [])) a (.ins C dx (putF "n" y []))) H' → Same Φ H' := fun {H'} h c u e => by
                have ne : c ≠ a := fun z => by rw [z, fa] at e; cases e
                exact h c u (by rw [upd_ne ne, upd_ne ne]; exact e)
              refine ⟨_, Z2, _, ρ2, k3, ?_⟩
              cases he2 : e2 ρ2 with
              | no => rw [he2] at q; exact q.elim
              | exc y2 =>
                rw [he2] at q
                exact fun Z' H' cls d e zh' fh' rx => q Z' H' cls d (((Ext.weak wk x1).trans (Ext.weak wk x2)).trans (Ext.weak wk2 e)) zh' (down2 fh') rx
              | ok p2 =>
                obtain ⟨pv2, ρ3⟩ := p2
                rw [he2] at q
                change PostN K G Z Φ a C dx _ _ _ (ini2 d1 (pv2, ρ3)) at q
                unfold ini2 at q
                split at q
                · rename_i d2 ρ3' heq2
                  cases heq2
                  split at q
                  · rename_i hc2
                    rw [Bool.and_eq_true] at hc2
                    intro Z3 H3 y2 x3 k4 ry2
                    have z3 := Ext.stay x3 z2 fhb
                    refine ⟨.ref a, k4.self9 hc2.1, a, C, dx, _, rfl, k4.fh a _ fhb, T.cls, T.nd, Nat.lt_of_le_of_lt (Nat.le_refl 1) (by decide), ?_⟩
                    have k5 := k4.poke (o' := .ins C dx (putF "d" y2 (putF "n" y []))) fhb z3
                    refine q rfl Z3 _ [y, y2] (((Ext.weak wk x1).trans (Ext.weak wk x2)).trans (Ext.weak wk2 x3)) k5.zh (fun c u e => ?_) z3 upd_same ⟨y, [y2], rfl, (Rep.w9 d1 y hc.2).mp (Rep.mono x3.1 _ _ ry), y2, [], rfl, (Rep.w9 d2 y2 hc2.2).mp ry2, rfl⟩
                    have ne : c ≠ a := fun z => by rw [z, fa] at e; cases e
                    exact k5.fh c u (by rw [upd_ne ne, upd_ne ne, upd_ne ne]; exact e)
                  · exact q.elim
                · exact q.elim
            · exact q.elim
          · exact q.elim
  · exact q.elim
end
end Rf
end
section
set_option Elab.async false
set_option linter.all false
set_option maxRecDepth 100000
set_option maxHeartbeats 4000000
/-! Rf, part M: the methods and operators of the class Ratio. -/
namespace L2
open PySem PySem.Spec PyProof.Rows
section
variable {X : Cx} {CX : CXT} {k : Nat} {f C : Addr} {fd : FuncData} {ps : List Str} {sp : Sp} {dvs : List V} {ds : List Value} {E : St → XK} {m : Str} {pos apos : Pos} {o e : Expr} {es : List Expr} {ta : TE} {t : TA}
def tMethQ (C : Addr) (m : Str) (sp : Sp) (E : St → XK) (ta : TE) (t : TA) : TE := fun σ H Q => ta σ H fun x H1 => ∃ a dx fs, x = .ref a ∧ H1 a = some (.ins C dx fs) ∧ fs.lookup m = none ∧
  t σ H1 fun vs H2 => sp (x :: (vs ++ [])) H2 Q (E σ)
theorem pe_methQ {pl : Sem Bool} (he : PE X o ta) (c : Cls X.K C) (hm : Meth X.K C m f) (F : FnOk X.prog X.w X.K X.mg X.base CX k f fd ps sp) (hr : Room k X.A) (hb : Binds X.K fd ps []) (hx : ∀ σ, PassesAt CX X σ (E σ)) (ha : PA X (e :: es) t)
    (hst : starEach (e :: es) X.env = (false, eval e X.env) :: starEach es X.env := by rfl) (hpl : (backTo pos (starEach es X.env)).any (·.1) = false := by rfl)
    (ht : eval (.Call (.Attribute o m apos) (e :: es) [] pos) X.env = (do
      let ov ← eval o X.env
      standAt apos.atName
      let (f, first) ← holding [ov] (getMethod ov m pl)
      callWith pos f first (backTo pos (starEach (e :: es) X.env)) (backToKw pos (keywordEach [] X.env))) := by rfl) :
    PE X (.Call (.Attribute o m apos) (e :: es) [] pos) (tMethQ C m sp E ta t) := by
  refine ⟨fun pins s σ H Q I h => ?_⟩
  refine PySem.W.methodCall_KW (pl := pl) (thn (he.run pins s σ H _ I h) fun u s1 ⟨x, H1, I1, rx, a, dx, fs, ex, ea, l, q⟩ => ?_) ht
  subst ex
  obtain rfl : u = Value.ref a := rx
  refine getmeth_ok I1 ea c hm l ?_
  refine PySem.W.callWith_K (first := [.ref a]) (h₀ := X.base) I1.ok.mod.kin hm.kp (thn (ha.run pos pins s1 σ H1 _ I1 q) fun us s2 ⟨vs, H2, I2, r2, q2⟩ => ⟨I2.kIn, ?_⟩) hst hpl
  exact run_fnSD (us := .ref a :: us) (vs := .ref a :: vs) (dvs := []) (ds := []) F hr hb .nil (hx σ) I2 (.cons rfl r2) q2
theorem pe_methQ0 {pl : Sem Bool} (he : PE X o ta) (c : Cls X.K C) (hm : Meth X.K C m f) (F : FnOk X.prog X.w X.K X.mg X.base CX k f fd ps sp) (hr : Room k X.A) (hb : Binds X.K fd ps []) (hx : ∀ σ, PassesAt CX X σ (E σ))
    (ht : eval (.Call (.Attribute o m apos) [] [] pos) X.env = (do
      let ov ← eval o X.env
      standAt apos.atName
      let (f, first) ← holding [ov] (getMethod ov m pl)
      callWith pos f first (backTo pos (starEach [] X.env)) (backToKw pos (keywordEach [] X.env))) := by rfl) :
    PE X (.Call (.Attribute o m apos) [] [] pos) (tMethQ C m sp E ta tNil) := by
  refine ⟨fun pins s σ H Q I h => ?_⟩
  refine PySem.W.methodCall_KW (pl := pl) (thn (he.run pins s σ H _ I h) fun u s1 ⟨x, H1, I1, rx, a, dx, fs, ex, ea, l, q⟩ => ?_) ht
  subst ex
  obtain rfl : u = Value.ref a := rx
  refine getmeth_ok I1 ea c hm l ?_
  exact PySem.W.callWith_K0 (first := [.ref a]) I1.kIn hm.kp (run_fnSD (us := [.ref a]) (vs := [.ref a]) (dvs := []) (ds := []) F hr hb .nil (hx σ) I1 (.cons rfl .nil) q)
/-- an operation on two values, its rule by the slots -/
abbrev R2S := St → R2
def OpRS (X : Cx) (f : Value → Value → Sem Value) (r : R2S) : Prop :=
  ∀ (pins : List (Addr × Obj)) (s : Shared) (σ : St) (H : Hp) (x y : V) (v u : Value) (Q : VK), Inv X pins σ H s → RelV x v → RelV y u → r σ x y H Q →
    wpAny (model X.prog X.w) X.A (f v u) (EP X pins σ Q) X.xe s
def tOpS (r : R2S) (ta tb : TE) : TE := fun σ H Q => ta σ H fun x H1 => tb σ H1 fun y H2 => r σ x y H2 Q
theorem pe_opS {a b : Expr} {tb : TE} {op : Operator} {r : R2S} (ho : OpRS X (binaryOp op) r) (ha : PE X a ta) (hb : PE X b tb) : PE X (.BinOp a op b pos) (tOpS r ta tb) := by
  refine ⟨fun pins s σ H Q I h => ?_⟩
  exact wpAny_BinOp (binT ha hb I h fun v u s2 x y H2 I2 rx ry q => ho pins s2 σ H2 x y v u Q I2 rx ry q)
theorem opRS_of {f : Value → Value → Sem Value} {r : R2} (h : OpR X f r) : OpRS X f (fun _ => r) := fun pins s σ H x y v u Q I rx ry q => h pins s σ H x y v u Q I rx ry q
def rOrS (r r' : R2S) : R2S := fun σ x y H Q => r σ x y H Q ∨ r' σ x y H Q
theorem opOrS {f : Value → Value → Sem Value} {r r' : R2S} (h : OpRS X f r) (h' : OpRS X f r') : OpRS X f (rOrS r r') := by
  intro pins s σ H x y v u Q I rx ry q
  rcases q with q | q
  · exact h pins s σ H x y v u Q I rx ry q
  · exact h' pins s σ H x y v u Q I rx ry q
/-- x op y, both instances of the class at C, the class's def for op at f -/
def rOwnS (C : Addr) (sp : Sp) (E : St → XK) : R2S := fun σ x y H Q => ∃ a b dx dy fs gs, x = .ref a ∧ y = .ref b ∧ H a = some (.ins C dx fs) ∧ H b = some (.ins C dy gs) ∧ sp [x, y] H Q (E σ)
theorem op_ownS {op : Operator} (sf : PySem.W.selfFirst X.K C = true) (hs : PySem.W.findIn X.K (.ref C) (PySem.dunder op.info.2) = some (some (.ref f))) (hf : PySem.W.isFn X.K (.ref f) = true)
    (F : FnOk X.prog X.w X.K X.mg X.base CX k f fd ps sp) (hr : Room k X.A) (hb : Binds X.K fd ps []) (hx : ∀ σ, PassesAt CX X σ (E σ)) : OpRS X (binaryOp op) (rOwnS C sp E) := by
  intro pins s σ H x y v u Q I rx ry h
  obtain ⟨a, b, dx, dy, fs, gs, rfl, rfl, ha, hb', q⟩ := h
  cases (show v = Value.ref a from rx)
  cases (show u = Value.ref b from ry)
  obtain ⟨mA, J, _⟩ := ins_get I.hok ha
  obtain ⟨mB, J', _⟩ := ins_get I.hok hb'
  obtain ⟨od, J, _⟩ := J.look
  obtain ⟨od', J', _⟩ := J'.look
  obtain ⟨m, hF⟩ := I.fr
  refine PySem.W.binop_K (op := op) hF I.ok.mod.kin J J'.type sf hs hf ?_
  refine wpAny_mono (run_fnSD (us := [.ref a, .ref b]) (vs := [.ref a, .ref b]) (dvs := []) (ds := []) F hr hb .nil (hx σ) I (.cons rfl (.cons rfl .nil)) q) (fun w s' z => ?_) fun _ _ x => x
  obtain ⟨z', H', I', rz, qz⟩ := z
  exact SlX.cmpback rz ⟨z', H', I', rz, qz⟩
theorem eq_ownS (hs : PySem.W.findIn X.K (.ref C) "__eq__" = some (some (.ref f))) (hf : PySem.W.isFn X.K (.ref f) = true)
    (F : FnOk X.prog X.w X.K X.mg X.base CX k f fd ps sp) (hr : Room k X.A) (hb : Binds X.K fd ps []) (hx : ∀ σ, PassesAt CX X σ (E σ)) : OpRS X (compareOp .Eq) (rOwnS C sp E) := by
  intro pins s σ H x y v u Q I rx ry h
  obtain ⟨a, b, dx, dy, fs, gs, rfl, rfl, ha, hb', q⟩ := h
  cases (show v = Value.ref a from rx)
  cases (show u = Value.ref b from ry)
  obtain ⟨mA, J, _⟩ := ins_get I.hok ha
  obtain ⟨mB, J', _⟩ := ins_get I.hok hb'
  obtain ⟨od, J, _⟩ := J.look
  obtain ⟨od', J', _⟩ := J'.look
  obtain ⟨m, hF⟩ := I.fr
  show wpAny (model X.prog X.w) X.A (richCompare .Eq (.ref a) (.ref b)) (EP X pins σ Q) X.xe s
  refine PySem.W.cmp_K (op := .Eq) (tb := .ref C) hr.units0 hF I.ok.mod.kin J J'.type (by simp [PySem.W.notFirst]) hs hf ?_
  refine wpAny_mono (run_fnSD (us := [.ref a, .ref b]) (vs := [.ref a, .ref b]) (dvs := []) (ds := []) F hr hb .nil (hx σ) I (.cons rfl (.cons rfl .nil)) q) (fun w s' z => ?_) fun _ _ x => x
  obtain ⟨z', H', I', rz, qz⟩ := z
  exact SlX.cmpback rz ⟨z', H', I', rz, qz⟩
def UnRS (X : Cx) (f : Value → Sem Value) (r : St → V → Hp → VK → Prop) : Prop :=
  ∀ (pins : List (Addr × Obj)) (s : Shared) (σ : St) (H : Hp) (x : V) (v : Value) (Q : VK), Inv X pins σ H s → RelV x v → r σ x H Q → wpAny (model X.prog X.w) X.A (f v) (EP X pins σ Q) X.xe s
theorem pe_unS {a : Expr} {op : UnaryOp} {r : St → V → Hp → VK → Prop} (ho : UnRS X (unaryOp op) r) (ha : PE X a ta) : PE X (.UnaryOp op a pos) (fun σ H Q => ta σ H fun x H1 => r σ x H1 Q) := by
  refine ⟨fun pins s σ H Q I h => ?_⟩
  exact UnaryOp_ (thn (ha.run pins s σ H _ I h) fun v s1 ⟨x, H1, I1, r1, q1⟩ => ho pins s1 σ H1 x v Q I1 r1 q1)
def rNegS (C : Addr) (sp : Sp) (E : St → XK) : St → V → Hp → VK → Prop := fun σ x H Q => ∃ a dx fs, x = .ref a ∧ H a = some (.ins C dx fs) ∧ sp [x] H Q (E σ)
theorem neg_ownS (hs : PySem.W.findIn X.K (.ref C) "__neg__" = some (some (.ref f))) (hf : PySem.W.isFn X.K (.ref f) = true)
    (F : FnOk X.prog X.w X.K X.mg X.base CX k f fd ps sp) (hr : Room k X.A) (hb : Binds X.K fd ps []) (hx : ∀ σ, PassesAt CX X σ (E σ)) : UnRS X (unaryOp .USub) (rNegS C sp E) := by
  intro pins s σ H x v Q I rx h
  obtain ⟨a, dx, fs, rfl, ha, q⟩ := h
  cases (show v = Value.ref a from rx)
  obtain ⟨mA, J, _⟩ := ins_get I.hok ha
  obtain ⟨od, J, _⟩ := J.look
  obtain ⟨m, hF⟩ := I.fr
  refine PySem.W.ksp_neg hF I.ok.mod.kin J hs hf ?_
  exact run_fnSD (us := [.ref a]) (vs := [.ref a]) (dvs := []) (ds := []) F hr hb .nil (hx σ) I (.cons rfl .nil) q
end
end L2
namespace L2
open PySem PySem.Spec PyProof.Rows
section
variable {X : Cx} {ta tb : TE} {a b : Expr} {pos : Pos} {op : CmpOp} {r : R2S}
theorem pe_cmpS (ho : OpRS X (compareOp op) r) (ha : PE X a ta) (hb : PE X b tb) (hm : behindInMarks op b = false) : PE X (.Compare a [op] [b] pos) (tOpS r ta tb) := by
  refine ⟨fun pins s σ H Q I h => ?_⟩
  exact wpAny_Compare1 (binT ha hb I h fun v u s2 x y H2 I2 rx ry q => ho pins s2 σ H2 x y v u Q I2 rx ry q) hm
theorem pt_cmpS (ho : OpRS X (compareOp op) r) (ha : PE X a ta) (hb : PE X b tb) (hm : behindInMarks op b = false) : PT X (.Compare a [op] [b] pos) (tTest (tOpS r ta tb)) := by
  refine ⟨fun pins s σ H Q I h => ?_⟩
  refine wpAny_isTrue_Compare1 (thn (ha.run pins s σ H _ I h) fun v s1 ⟨x, H1, I1, r1, q1⟩ => thn (hb.run pins s1 σ H1 _ I1 q1) fun u s2 ⟨y, H2, I2, r2, q2⟩ =>
    thn (ho pins s2 σ H2 x y v u _ I2 r1 r2 q2) fun c s3 ⟨z, H3, I3, r3, k, e, q3⟩ => ?_) hm
  subst e
  cases r3
  exact wpAny_truthy_bool ⟨H3, I3, q3⟩
end
end L2
namespace Rf
open PySem PySem.Spec PyProof.Rows L2
/-- a method as it stands behind the top -/
structure DefM (K : PySem.W.Frag) (G : Wd) (m : Nat) (x qual : Str) (st : Stmt) (ps : List Str) : Prop where
  ex : ∃ fd : FuncData, Fun K x qual st (G.fnA m) fd ∧ Binds K fd ps []
  me : Meth K (G.clA 3) x (G.fnA m)
theorem goodM_of {P : Program} {w : World} {K : PySem.W.Frag} {mg : Str → Option Value} {base : Heap} {x qual : Str} {st : Stmt} {N ps : List Str} {k m n : Nat} {G : Wd} {fb : Es} (d : DefM K G m x qual st ps) (S : FnScope N ps (defScope st)) (hn : ps.length = n)
    (hb : ∀ (f : Addr) (cdv : Value) (A : Around) (outer : List Env) (s : Shared) (H : Hp) (E : XK), Room k (A.deeper (envOfC qual (defScope st) s.heap.objs.size f cdv)) →
      PSs (cxOf (L2.CX P w) P w K mg base N qual (defScope st) f cdv A outer s H E) (defBody st) (tS K G (fun cls d _ H => E cls d H) fb)) : Good P w K mg base G (k + 1) m n ps [] (Rf.fnOf N.length fb) := by
  obtain ⟨fd, F, b⟩ := d.ex
  subst hn
  exact ⟨fd, fn_ok F S (hb _), F.kp, b⟩
section
variable {K : PySem.W.Frag} {G : Wd} {W : WX} {B : L2.St} {Z Φ H : Hp} {σ : L2.St} {ρ : Rho} {Q : VK}
/-- a call at a state -/
theorem spF_at {n : Nat} {F : Fn} {ds : List D} {vs : List V} (k : Ok K G B Z Φ σ ρ H) (r : RepL K G Z ds vs) (hl : ds.length = n) (q : PostE K G W B Z Φ σ Q (callK ρ (F ds))) : spF K G n F vs H Q (WE W σ) := by
  refine ⟨Z, Rf.frm Φ H σ ρ none, ds, k.zh, k.frm none, r, hl, ?_⟩
  cases hF : F ds with
  | no => rw [hF] at q; exact q.elim
  | exc x =>
    rw [hF] at q
    exact fun Z' H' cls d e zh fh rx => q Z' H' cls d (Ext.frm k e) zh ((k.frm_sub none).trans fh) rx
  | ok pv =>
    rw [hF] at q
    exact fun Z' H' v e zh fh rp => q Z' H' v (Ext.frm k e) (k.after e zh fh) (RetP.repP k rp)
end
def opRK (g : D → D → Option PV) (F : Fn) (pa pb : PV) (ρ : Rho) : R (PV × Rho) := match look ρ pa, look ρ pb with
  | some (.obj 3 xs), some (.obj 3 ys) => callK ρ (F [.obj 3 xs, .obj 3 ys])
  | _, _ => opV g pa pb ρ
def eOpR (g : D → D → Option PV) (F : Fn) (fa fb : Ev) : Ev := fun ρ => (fa ρ).bind fun (pa, ρ1) => (fb ρ1).bind fun (pb, ρ2) => opRK g F pa pb ρ2
theorem te_opR {K : PySem.W.Frag} {G : Wd} {W : WX} {r : R2} {g : D → D → Option PV} {F : Fn} {fa fb : Ev} (S : OpS K G r g) {σ : L2.St} {H : Hp} {Q : VK} (h : tE K G W (eOpR g F fa fb) σ H Q) :
    tOpS (rOrS (fun _ => r) (rOwnS (G.clA 3) (spF K G 2 F) (WE W))) (tE K G W fa) (tE K G W fb) σ H Q := by
  obtain ⟨B, Z, Φ, ρ, k, h⟩ := h
  refine ⟨B, Z, Φ, ρ, k, ?_⟩
  unfold eOpR at h
  cases ha : fa ρ with
  | no => rw [ha] at h; exact h.elim
  | exc x => rw [ha] at h; exact h
  | ok p =>
    obtain ⟨pa, ρ1⟩ := p
    rw [ha] at h
    intro Z1 H1 x e1 k1 r1
    obtain ⟨Z2, e2, k2, r2⟩ := k1.pend r1
    refine ⟨B, Z2, Φ, ρ1, k2, ?_⟩
    have e12 := e1.trans e2
    change PostE K G W B Z Φ σ Q ((fb ρ1).bind fun (pb, ρ2) => opRK g F pa pb ρ2) at h
    cases hb : fb ρ1 with
    | no => rw [hb] at h; exact h.elim
    | exc x => rw [hb] at h; exact PostX.ext h e12
    | ok p =>
      obtain ⟨pb, ρ2⟩ := p
      rw [hb] at h
      intro Z3 H3 y e3 k3 r3
      obtain ⟨Z4, e4, k4, r4⟩ := k3.pend r3
      have r2' := r2.mono (e3.trans e4).1
      change PostE K G W B Z Φ σ Q (opRK g F pa pb ρ2) at h
      unfold opRK at h
      split at h
      · rename_i xs ys la lb
        refine .inr ?_
        have pa' := k4.pk r2' la
        have pb' := k4.pk r4 lb
        obtain ⟨a, dx, vs, rfl, ia, _, _⟩ := pk_obj k4.zh pa'
        obtain ⟨b, dy, us, rfl, ib, _, _⟩ := pk_obj k4.zh pb'
        refine ⟨a, b, dx, dy, _, _, rfl, rfl, ia, ib, spF_at k4 (show RepL K G Z4 [.obj 3 xs, .obj 3 ys] [V.ref a, V.ref b] from ⟨_, _, rfl, pa'.rep (by intro _ e; cases e), _, _, rfl, pb'.rep (by intro _ e; cases e), rfl⟩) rfl ?_⟩
        have e := e12.trans (e3.trans e4)
        cases hF : F [.obj 3 xs, .obj 3 ys] with
        | no => rw [hF] at h; exact h.elim
        | exc x => rw [hF] at h; exact PostX.ext h e
        | ok pv => rw [hF] at h; exact fun Z' H' v e' k' r' => h Z' H' v (e.trans e') k' r'
      · refine .inl ?_
        unfold opV at h
        cases la : look ρ2 pa with
        | none => rw [la] at h; exact h.elim
        | some da =>
          cases lb : look ρ2 pb with
          | none => rw [la, lb] at h; exact h.elim
          | some db =>
            rw [la, lb] at h
            cases hg : g da db with
            | none => simp only [hg] at h; exact h.elim
            | some pv =>
              simp only [hg] at h
              refine S Z4 H3 da db x y pv Q k4.zh (k4.pk r2' la) (k4.pk r4 lb) hg fun Z' H' v st => ?_
              obtain ⟨f1, f2, f3⟩ := st.ok k4
              exact h Z' H' v (e12.trans ((e3.trans e4).trans f1)) f2 f3
def opUK (g : D → Option PV) (F : Fn) (pa : PV) (ρ : Rho) : R (PV × Rho) := match look ρ pa with
  | some (.obj 3 xs) => callK ρ (F [.obj 3 xs])
  | _ => opU g pa ρ
def eUR (g : D → Option PV) (F : Fn) (fa : Ev) : Ev := fun ρ => (fa ρ).bind fun (pa, ρ1) => opUK g F pa ρ1
theorem te_unR {K : PySem.W.Frag} {G : Wd} {W : WX} {r : V → Hp → VK → Prop} {g : D → Option PV} {F : Fn} {fa : Ev} (S : UnS K G r g) {σ : L2.St} {H : Hp} {Q : VK} (h : tE K G W (eUR g F fa) σ H Q) :
    tE K G W fa σ H (fun x H1 => r x H1 Q ∨ rNegS (G.clA 3) (spF K G 1 F) (WE W) σ x H1 Q) := by
  obtain ⟨B, Z, Φ, ρ, k, h⟩ := h
  refine ⟨B, Z, Φ, ρ, k, ?_⟩
  unfold eUR at h
  cases ha : fa ρ with
  | no => rw [ha] at h; exact h.elim
  | exc x => rw [ha] at h; exact h
  | ok p =>
    obtain ⟨pa, ρ1⟩ := p
    rw [ha] at h
    intro Z1 H1 x e1 k1 r1
    obtain ⟨Z2, e2, k2, r2⟩ := k1.pend r1
    change PostE K G W B Z Φ σ Q (opUK g F pa ρ1) at h
    unfold opUK at h
    have e := e1.trans e2
    split at h
    · rename_i xs la
      refine .inr ?_
      have pa' := k2.pk r2 la
      obtain ⟨a, dx, vs, rfl, ia, _, _⟩ := pk_obj k2.zh pa'
      refine ⟨a, dx, _, rfl, ia, spF_at k2 (show RepL K G Z2 [.obj 3 xs] [V.ref a] from ⟨_, _, rfl, pa'.rep (by intro _ e; cases e), rfl⟩) rfl ?_⟩
      cases hF : F [.obj 3 xs] with
      | no => rw [hF] at h; exact h.elim
      | exc x => rw [hF] at h; exact PostX.ext h e
      | ok pv => rw [hF] at h; exact fun Z' H' v e' k' r' => h Z' H' v (e.trans e') k' r'
    · refine .inl ?_
      unfold opU at h
      cases la : look ρ1 pa with
      | none => rw [la] at h; exact h.elim
      | some da =>
        rw [la] at h
        cases hg : g da with
        | none => simp only [hg] at h; exact h.elim
        | some pv =>
          simp only [hg] at h
          refine S Z2 H1 da x pv Q k2.zh (k2.pk r2 la) hg fun Z' H' v st => ?_
          obtain ⟨f1, f2, f3⟩ := st.ok k2
          exact h Z' H' v (e.trans f1) f2 f3
/-- a method's call: the object is frozen data -/
def methK (n : Nat) (F : Fn) (fa : Ea) : PV × Rho → R (PV × Rho)
  | (.fz (.obj 3 xs), ρ1) => (fa ρ1).bind fun (ds, ρ2) => if ds.length + 1 == n then callK ρ2 (F (.obj 3 xs :: ds)) else .no
  | _ => .no
def eMeth (n : Nat) (F : Fn) (fo : Ev) (fa : Ea) : Ev := fun ρ => (fo ρ).bind (methK n F fa)
theorem te_meth {K : PySem.W.Frag} {G : Wd} {W : WX} {n : Nat} {F : Fn} {fo : Ev} {fa : Ea} {m : Str} (hF : G.clF 3 = [("n" : Str), ("d" : Str)]) (hm : m ≠ ("n" : Str) ∧ m ≠ ("d" : Str)) {σ : L2.St} {H : Hp} {Q : VK} (h : tE K G W (eMeth n F fo fa) σ H Q) :
    tMethQ (G.clA 3) m (spF K G n F) (WE W) (tE K G W fo) (tA K G W fa) σ H Q := by
  obtain ⟨B, Z, Φ, ρ, k, h⟩ := h
  refine ⟨B, Z, Φ, ρ, k, ?_⟩
  unfold eMeth at h
  cases ho : fo ρ with
  | no => rw [ho] at h; exact h.elim
  | exc x => rw [ho] at h; exact h
  | ok p =>
    rw [ho] at h
    obtain ⟨po, ρ1⟩ := p
    change PostE K G W B Z Φ σ Q (methK n F fa (po, ρ1)) at h
    unfold methK at h
    split at h
    · rename_i xs ρ1' ee
      cases ee
      intro Z1 H1 x e1 k1 r1
      have ro : Rep K G Z1 (.obj 3 xs) x := r1
      obtain ⟨a, dx, vs, ex, ea, l, rl⟩ := id ro
      subst ex
      refine ⟨a, dx, _, rfl, k1.zh _ _ ea, ?_, ?_⟩
      · rw [hF]
        rw [hF] at l
        match vs with
        | [] => rfl
        | [v0] =>
          show List.lookup m [(("n" : Str), v0)] = none
          rw [List.lookup_cons, beq_false_of_ne hm.1]
          rfl
        | v0 :: v1 :: _ =>
          show List.lookup m [(("n" : Str), v0), (("d" : Str), v1)] = none
          rw [List.lookup_cons, beq_false_of_ne hm.1, List.lookup_cons, beq_false_of_ne hm.2]
          rfl
      · refine ⟨B, Z1, Φ, ρ1, k1, ?_⟩
        cases hfa : fa ρ1 with
        | no => rw [hfa] at h; exact h.elim
        | exc x => rw [hfa] at h; exact PostX.ext h e1
        | ok p =>
          obtain ⟨ds, ρ2⟩ := p
          rw [hfa] at h
          intro Z2 H2 us e2 k2 r2
          change PostE K G W B Z Φ σ Q (if ds.length + 1 == n then callK ρ2 (F (.obj 3 xs :: ds)) else .no) at h
          split at h
          · rename_i hl
            refine spF_at k2 (show RepL K G Z2 (.obj 3 xs :: ds) (V.ref a :: (us ++ [])) from ⟨_, _, rfl, Rep.mono e2.1 _ _ ro, ?_⟩) (by rw [List.length_cons]; exact eq_of_beq hl) ?_
            · rw [List.append_nil]; exact r2
            · have e := e1.trans e2
              cases hF : F (.obj 3 xs :: ds) with
              | no => rw [hF] at h; exact h.elim
              | exc x => rw [hF] at h; exact PostX.ext h e
              | ok pv => rw [hF] at h; exact fun Z' H' v e' k' r' => h Z' H' v (e.trans e') k' r'
          · exact h.elim
    · exact h.elim
section
variable {X : Cx} {G : Wd} {W : WX} {pos : Pos} {a b e : Expr} {es : List Expr} {k m n : Nat} {ps : List Str} {F : Fn} {fa fb fo : Ev}
theorem re_opR {op : Operator} {r : R2} {g : D → D → Option PV} {x qual : Str} {st : Stmt} (go : Good X.prog X.w X.K X.mg X.base G k m 2 ps [] F) (sf : PySem.W.selfFirst X.K (G.clA 3) = true) (dm : DefM X.K G m x qual st ps) (hx : PySem.dunder op.info.2 = x) (hr : Room k X.A) (tk : Takes X W)
    (ho : OpR X (binaryOp op) r) (S : OpS X.K G r g) (ha : PE X a (tE X.K G W fa)) (hb : PE X b (tE X.K G W fb)) : PE X (.BinOp a op b pos) (tE X.K G W (eOpR g F fa fb)) := by
  obtain ⟨fd, Fo, hk, hbi⟩ := go.ex
  exact (pe_opS (opOrS (opRS_of ho) (op_ownS sf (by rw [hx]; exact dm.me.at_) dm.me.fn Fo hr hbi (passAt tk))) ha hb).imp fun _ _ _ h => te_opR S h
theorem re_eqR {r : R2} {g : D → D → Option PV} {qual : Str} {st : Stmt} (go : Good X.prog X.w X.K X.mg X.base G k m 2 ps [] F) (dm : DefM X.K G m "__eq__" qual st ps) (hr : Room k X.A) (tk : Takes X W)
    (ho : OpR X (compareOp .Eq) r) (S : OpS X.K G r g) (ha : PE X a (tE X.K G W fa)) (hb : PE X b (tE X.K G W fb)) (hm : behindInMarks .Eq b = false) : PE X (.Compare a [.Eq] [b] pos) (tE X.K G W (eOpR g F fa fb)) := by
  obtain ⟨fd, Fo, hk, hbi⟩ := go.ex
  exact (pe_cmpS (opOrS (opRS_of ho) (eq_ownS dm.me.at_ dm.me.fn Fo hr hbi (passAt tk))) ha hb hm).imp fun _ _ _ h => te_opR S h
theorem rt_eqR {r : R2} {g : D → D → Option PV} {qual : Str} {st : Stmt} (go : Good X.prog X.w X.K X.mg X.base G k m 2 ps [] F) (dm : DefM X.K G m "__eq__" qual st ps) (hr : Room k X.A) (tk : Takes X W)
    (ho : OpR X (compareOp .Eq) r) (S : OpS X.K G r g) (ha : PE X a (tE X.K G W fa)) (hb : PE X b (tE X.K G W fb)) (hm : behindInMarks .Eq b = false) : PT X (.Compare a [.Eq] [b] pos) (tT X.K G W (tOf (eOpR g F fa fb))) := by
  obtain ⟨fd, Fo, hk, hbi⟩ := go.ex
  exact (pt_cmpS (opOrS (opRS_of ho) (eq_ownS dm.me.at_ dm.me.fn Fo hr hbi (passAt tk))) ha hb hm).imp fun _ _ _ h => te_opR S (tt_of h)
theorem re_negR {r : V → Hp → VK → Prop} {g : D → Option PV} {qual : Str} {st : Stmt} (go : Good X.prog X.w X.K X.mg X.base G k m 1 ps [] F) (dm : DefM X.K G m "__neg__" qual st ps) (hr : Room k X.A) (tk : Takes X W)
    (ho : UnR X (unaryOp .USub) r) (S : UnS X.K G r g) (ha : PE X a (tE X.K G W fa)) : PE X (.UnaryOp .USub a pos) (tE X.K G W (eUR g F fa)) := by
  obtain ⟨fd, Fo, hk, hbi⟩ := go.ex
  refine (pe_unS (r := fun σ x H Q => r x H Q ∨ rNegS (G.clA 3) (spF X.K G 1 F) (WE W) σ x H Q) (fun pins s σ H x v Q I rx h => h.elim (fun h => ho pins s σ H x v Q I rx h) (neg_ownS dm.me.at_ dm.me.fn Fo hr hbi (passAt tk) pins s σ H x v Q I rx)) ha).imp fun _ _ _ h => te_unR S h
theorem re_meth {x qual : Str} {st : Stmt} {apos : Pos} {fa : Ea} {pl : Sem Bool} (go : Good X.prog X.w X.K X.mg X.base G k m n ps [] F) (dm : DefM X.K G m x qual st ps) (T : RatC X.K (G.clA 3)) (hF : G.clF 3 = [("n" : Str), ("d" : Str)]) (hm : x ≠ ("n" : Str) ∧ x ≠ ("d" : Str)) (hr : Room k X.A) (tk : Takes X W)
    (he : PE X a (tE X.K G W fo)) (ha : PA X (e :: es) (tA X.K G W fa))
    (hst : starEach (e :: es) X.env = (false, eval e X.env) :: starEach es X.env := by rfl) (hpl : (backTo pos (starEach es X.env)).any (·.1) = false := by rfl)
    (ht : eval (.Call (.Attribute a x apos) (e :: es) [] pos) X.env = (do
      let ov ← eval a X.env
      standAt apos.atName
      let (f, first) ← holding [ov] (getMethod ov x pl)
      callWith pos f first (backTo pos (starEach (e :: es) X.env)) (backToKw pos (keywordEach [] X.env))) := by rfl) : PE X (.Call (.Attribute a x apos) (e :: es) [] pos) (tE X.K G W (eMeth n F fo fa)) := by
  obtain ⟨fd, Fo, hk, hbi⟩ := go.ex
  exact (pe_methQ he T.cls dm.me Fo hr hbi (passAt tk) ha hst hpl ht).imp fun _ _ _ h => te_meth hF hm h
theorem re_meth0 {x qual : Str} {st : Stmt} {apos : Pos} {pl : Sem Bool} (go : Good X.prog X.w X.K X.mg X.base G k m n ps [] F) (dm : DefM X.K G m x qual st ps) (T : RatC X.K (G.clA 3)) (hF : G.clF 3 = [("n" : Str), ("d" : Str)]) (hm : x ≠ ("n" : Str) ∧ x ≠ ("d" : Str)) (hr : Room k X.A) (tk : Takes X W)
    (he : PE X a (tE X.K G W fo))
    (ht : eval (.Call (.Attribute a x apos) [] [] pos) X.env = (do
      let ov ← eval a X.env
      standAt apos.atName
      let (f, first) ← holding [ov] (getMethod ov x pl)
      callWith pos f first (backTo pos (starEach [] X.env)) (backToKw pos (keywordEach [] X.env))) := by rfl) : PE X (.Call (.Attribute a x apos) [] [] pos) (tE X.K G W (eMeth n F fo aNil)) := by
  obtain ⟨fd, Fo, hk, hbi⟩ := go.ex
  refine (pe_methQ0 he T.cls dm.me Fo hr hbi (passAt tk) ht).imp fun σ H Q h => ?_
  obtain ⟨B, Z, Φ, ρ, k', q⟩ := te_meth (fa := aNil) hF hm h
  refine ⟨B, Z, Φ, ρ, k', ?_⟩
  cases hf : fo ρ with
  | no => rw [hf] at q; exact q
  | exc x => rw [hf] at q; exact q
  | ok p =>
    rw [hf] at q
    obtain ⟨pv, ρ1⟩ := p
    intro Z1 H1 v e1 k1 r1
    obtain ⟨c, dx, fs, q1, q2, q3, B', Z', Φ', ρ', k2, q4⟩ := q Z1 H1 v e1 k1 r1
    exact ⟨c, dx, fs, q1, q2, q3, q4 Z' H1 [] Ext.refl k2 rfl⟩
end
end Rf
end
section
set_option Elab.async false
set_option linter.all false
set_option maxRecDepth 100000
set_option maxHeartbeats 4000000
/-! Rf, part P: != by an own ==; Ratio(..). -/
namespace L2
open PySem PySem.Spec PyProof.Rows
section
variable {prog : Program} {w : World} {A : Around} {E : Value → Shared → Prop} {s : Shared} {K : PySem.W.Frag} {x C L f : Addr} {h₀ : Heap} {m : Str → Option Value} {ox : Obj} {od : Option Obj} {b : Value}
theorem check_own {M : Model} {id owner n : String} {rest : List Value} (X : K.In s.heap) (I : PySem.W.InstAt s.heap x ox C od) (hk : builtinKind id = some .slot) (hs : splitId id = some (owner, n)) (ha : argsOk id ⟨.ref x :: rest, []⟩)
    (hm : PySem.W.mroIn K C (.type owner) = some true) : wpAny M A (checkBuiltinCall id ⟨.ref x :: rest, []⟩) (fun _ s' => s' = s) E s := by
  simp only [checkBuiltinCall, hk, hs]
  refine wpAny_bind ?_
  unfold isInstance
  refine wpAny_bind (I.type.here ((PySem.W.looks_mroIn X hm).here ?_))
  cases hsig : Manifest.signature? id with
  | none => exact wpAny_pure rfl
  | some sig =>
    simp only [argsOk, hsig] at ha
    have h2 : Bind.checkArgs id sig ⟨.ref x :: rest, []⟩ = pure () := ha
    show wpAny _ A (Bind.checkArgs id sig ⟨.ref x :: rest, []⟩) _ E _
    rw [h2]
    exact wpAny_pure rfl
theorem ne_call {Q : Value → Shared → Prop} (X : K.In s.heap) (I : PySem.W.InstAt s.heap x ox C od) (hm : PySem.W.mroIn K C (.type "object") = some true) (hs : PySem.W.findIn K (.ref C) "__eq__" = some (some (.ref f))) (hf : PySem.W.isFn K (.ref f) = true) (hu : A.units + 1 < cLine)
    (h : wpAny (model prog w) A.in1 (call (.ref f) [.ref x, b]) (fun v s' => ∃ r, v = .bool r ∧ Q (.bool (!r)) s') E s) : wpAny (model prog w) A (call (.builtin "object.__ne__") [.ref x, b]) Q E s := by
  refine wpAny_call (codeAny_call_builtin PySem.F.slot_object_ne.plain F.cmpEntry_ne ?_)
  have ha := F.cmpArgs_ne (.ref x) b
  have body : wpAny (model prog w) A.in1 (Builtin.«object.__ne__» ⟨[.ref x, b], []⟩) (fun fin s' => match fin with
      | .done f => (wants Q E) (.ok f) s'
      | .again c' => c'.quiet = true ∧ codeAny (model prog w) A c' (wants Q E) s') (fun e s' => (wants Q E) (.error e) s') s := by
    unfold Builtin.«object.__ne__»
    repeat (first
      | with_reducible refine wpAny_cRoomFor hu ?_
      | (refine wpAny_bind (m := callSpecialIfBound? (.ref x) (Str.ofString "__eq__") [b])
          (PySem.W.ifBound_K X I hs hf (wpAny_mono h (fun r s' hr => by
            obtain ⟨b, rfl, hq⟩ := hr
            repeat (first | exact hq | exact wpAny_pure hq | exact wpAny_truthy_bool hq | (refine wpAny_bind (m := truthy (.bool _)) (wpAny_truthy_bool ?_)) | wp_step)) fun _ _ e => e)))
      | wp_step)
  exact wpAny_mono (check_own (A := A.in1) X I F.cmpKind_ne F.cmpSplit_ne ha hm) (fun _ s' e => by subst e; exact body) fun _ _ e => e
theorem cmp_ne {Q : Value → Shared → Prop} (hu : A.units + 1 < cLine) (F : Fr h₀ L s.heap m) (X₀ : K.In h₀) (I : PySem.W.InstAt s.heap x ox C od) (hb : PySem.W.Looks (model prog w) s.heap (typeOf b) (.ref C))
    (hn : PySem.W.findIn K (.ref C) "__ne__" = some (some (.builtin "object.__ne__"))) (hm : PySem.W.mroIn K C (.type "object") = some true) (hs : PySem.W.findIn K (.ref C) "__eq__" = some (some (.ref f))) (hf : PySem.W.isFn K (.ref f) = true)
    (h : wpAny (model prog w) A.in1 (call (.ref f) [.ref x, b]) (fun v s' => ∃ r, v = .bool r ∧ Q (.bool (!r)) s') E s) : wpAny (model prog w) A (richCompare .NotEq (.ref x) b) Q E s := by
  have X := X₀.keeps F.keep
  have bnd : wpAny (model prog w) A (callSpecialIfBound? (.ref x) "__ne__" [b]) (fun r s' => ∃ v, r = some (.bool v) ∧ Q (.bool v) s') E s := by
    simp only [callSpecialIfBound?, bindSpecialIfBound?]
    refine wpAny_holding (wpAny_bind (wpAny_bind (wpAny_bind (I.type.here ((PySem.W.looks_findIn X hn).here ?_)))))
    simp only [PySem.F.slot_object_ne.bind]
    refine wpAny_bind (wpAny_askSetting (wpAny_ite ?_))
    have fin : wpAny (model prog w) A (call (.builtin "object.__ne__") ([.ref x] ++ [b]) >>= fun v => pure (some v)) (fun r s' => ∃ v, r = some (.bool v) ∧ Q (.bool v) s') E s := by
      refine wpAny_bind (wpAny_mono (ne_call (Q := fun v s' => ∃ r, v = .bool r ∧ Q (.bool r) s') X I hm hs hf hu (wpAny_mono h (fun v s' hv => ?_) fun _ _ e => e)) (fun v s' hv => ?_) fun _ _ e => e)
      · obtain ⟨r, rfl, q⟩ := hv
        exact ⟨r, rfl, _, rfl, q⟩
      · obtain ⟨r, rfl, q⟩ := hv
        exact wpAny_pure ⟨r, rfl, q⟩
    split
    · exact wpAny_bind (wpAny_pure (wpAny_pure fin))
    · exact wpAny_tryCatch (wpAny_bind (wpAny_pure (wpAny_pure fin)))
  have one : wpAny (model prog w) A (tryCompare (.ref x) (cmpInfo .NotEq).2.1 b) (fun r s' => ∃ v, r = some v ∧ Q v s') E s := by
    unfold tryCompare
    refine wpAny_bind (wpAny_mono bnd (fun v s' hv => ?_) fun _ _ e => e)
    obtain ⟨r, rfl, q⟩ := hv
    exact wpAny_pure ⟨_, rfl, q⟩
  unfold richCompare
  simp only [oneThing_ref]
  refine wpAny_holding (wpAny_bind (wpAny_cRoomFor (Nat.lt_of_succ_lt hu) ?_))
  refine wpAny_bind (I.type.here (wpAny_bind (hb.here ?_)))
  rw [show (Value.ref C != Value.ref C) = false from by simp]
  simp only [Bool.false_eq_true, if_false]
  refine wpAny_bind (wpAny_pure ?_)
  simp only [Bool.false_eq_true, if_false]
  refine wpAny_bind (wpAny_mono one (fun r s' z => ?_) fun _ _ e => e)
  obtain ⟨v, rfl, hq⟩ := z
  exact wpAny_pure hq
end
section
variable {X : Cx} {CX : CXT} {k : Nat} {f C : Addr} {fd : FuncData} {ps : List Str} {sp : Sp} {E : St → XK}
def rNeS (C : Addr) (sp : Sp) (E : St → XK) : R2S := fun σ x y H Q => ∃ a b dx dy fs gs, x = .ref a ∧ y = .ref b ∧ H a = some (.ins C dx fs) ∧ H b = some (.ins C dy gs) ∧ sp [x, y] H (fun v H' => ∃ t, v = .bl t ∧ Q (.bl (!t)) H') (E σ)
theorem ne_ownS (hn : PySem.W.findIn X.K (.ref C) "__ne__" = some (some (.builtin "object.__ne__"))) (hm : PySem.W.mroIn X.K C (.type "object") = some true) (hs : PySem.W.findIn X.K (.ref C) "__eq__" = some (some (.ref f))) (hf : PySem.W.isFn X.K (.ref f) = true)
    (F : FnOk X.prog X.w X.K X.mg X.base CX k f fd ps sp) (hr : Room (k + 1) X.A) (hb : Binds X.K fd ps []) (hx : ∀ σ, PassesAt CX X σ (E σ)) : OpRS X (compareOp .NotEq) (rNeS C sp E) := by
  intro pins s σ H x y v u Q I rx ry h
  obtain ⟨a, b, dx, dy, fs, gs, rfl, rfl, ha, hb', q⟩ := h
  cases (show v = Value.ref a from rx)
  cases (show u = Value.ref b from ry)
  obtain ⟨mA, J, _⟩ := ins_get I.hok ha
  obtain ⟨mB, J', _⟩ := ins_get I.hok hb'
  obtain ⟨od, J, _⟩ := J.look
  obtain ⟨od', J', _⟩ := J'.look
  obtain ⟨m, hF⟩ := I.fr
  show wpAny (model X.prog X.w) X.A (richCompare .NotEq (.ref a) (.ref b)) (EP X pins σ Q) X.xe s
  refine cmp_ne (f := f) (by have := hr.units; omega) hF I.ok.mod.kin J J'.type hn hm hs hf ?_
  have r2 : Vals [V.ref a, V.ref b] [Value.ref a, Value.ref b] := .cons rfl (.cons rfl .nil)
  have hl : ([Value.ref a, Value.ref b] ++ []).length = ps.length := F.len _ _ _ _ q
  have r2 : Vals ([V.ref a, V.ref b] ++ []) ([Value.ref a, Value.ref b] ++ []) := .cons rfl (.cons rfl .nil)
  have hl : ([Value.ref a, Value.ref b] ++ []).length = ps.length := by rw [← r2.length]; exact F.len _ _ _ _ q
  have bt := hb s [Value.ref a, Value.ref b] I.kIn hl
  have run := F.run X.A.in1 X.stack s H ⟨[.ref a, .ref b], []⟩ ([.ref a, .ref b] ++ []) ([V.ref a, V.ref b] ++ []) (fun v H' => ∃ t, v = .bl t ∧ Q (.bl (!t)) H') (E σ) hr.in1 I.env0.in1 bt r2 q
  refine wpAny_call (codeAny_mono run fun r s' hq => ?_)
  cases r with
  | error e => exact hx σ pins H s e s' I hq
  | ok fl =>
    cases fl with
    | ret w =>
      have hq' := I.after hq
      obtain ⟨z, H', I', rz, qz⟩ := hq'
      obtain ⟨t, ez, qz⟩ := qz
      subst ez
      have ew : w = Value.bool t := rz
      subst ew
      exact ⟨t, rfl, V.bl (!t), H', I', rfl, qz⟩
    | next => exact False.elim hq
    | brk => exact False.elim hq
    | cont => exact False.elim hq
end
end L2
namespace Rf
open PySem PySem.Spec PyProof.Rows L2
def neK : R (PV × Rho) → R (PV × Rho)
  | .ok (.fz (.bl b), ρ) => .ok (.fz (.bl (!b)), ρ)
  | .exc x => .exc x
  | _ => .no
def neRK (g : D → D → Option PV) (F : Fn) (pa pb : PV) (ρ : Rho) : R (PV × Rho) := match look ρ pa, look ρ pb with
  | some (.obj 3 xs), some (.obj 3 ys) => neK (callK ρ (F [.obj 3 xs, .obj 3 ys]))
  | _, _ => opV g pa pb ρ
def eNeR (g : D → D → Option PV) (F : Fn) (fa fb : Ev) : Ev := fun ρ => (fa ρ).bind fun (pa, ρ1) => (fb ρ1).bind fun (pb, ρ2) => neRK g F pa pb ρ2
theorem te_neR {K : PySem.W.Frag} {G : Wd} {W : WX} {r : R2} {g : D → D → Option PV} {F : Fn} {fa fb : Ev} (S : OpS K G r g) {σ : L2.St} {H : Hp} {Q : VK} (h : tE K G W (eNeR g F fa fb) σ H Q) :
    tOpS (rOrS (fun _ => r) (rNeS (G.clA 3) (spF K G 2 F) (WE W))) (tE K G W fa) (tE K G W fb) σ H Q := by
  obtain ⟨B, Z, Φ, ρ, k, h⟩ := h
  refine ⟨B, Z, Φ, ρ, k, ?_⟩
  unfold eNeR at h
  cases ha : fa ρ with
  | no => rw [ha] at h; exact h.elim
  | exc x => rw [ha] at h; exact h
  | ok p =>
    obtain ⟨pa, ρ1⟩ := p
    rw [ha] at h
    intro Z1 H1 x e1 k1 r1
    obtain ⟨Z2, e2, k2, r2⟩ := k1.pend r1
    refine ⟨B, Z2, Φ, ρ1, k2, ?_⟩
    have e12 := e1.trans e2
    change PostE K G W B Z Φ σ Q ((fb ρ1).bind fun (pb, ρ2) => neRK g F pa pb ρ2) at h
    cases hb : fb ρ1 with
    | no => rw [hb] at h; exact h.elim
    | exc x => rw [hb] at h; exact PostX.ext h e12
    | ok p =>
      obtain ⟨pb, ρ2⟩ := p
      rw [hb] at h
      intro Z3 H3 y e3 k3 r3
      obtain ⟨Z4, e4, k4, r4⟩ := k3.pend r3
      have r2' := r2.mono (e3.trans e4).1
      change PostE K G W B Z Φ σ Q (neRK g F pa pb ρ2) at h
      unfold neRK at h
      split at h
      · rename_i xs ys la lb
        refine .inr ?_
        have pa' := k4.pk r2' la
        have pb' := k4.pk r4 lb
        obtain ⟨a, dx, vs, rfl, ia, _, _⟩ := pk_obj k4.zh pa'
        obtain ⟨b, dy, us, rfl, ib, _, _⟩ := pk_obj k4.zh pb'
        refine ⟨a, b, dx, dy, _, _, rfl, rfl, ia, ib, spF_at k4 (show RepL K G Z4 [.obj 3 xs, .obj 3 ys] [V.ref a, V.ref b] from ⟨_, _, rfl, pa'.rep (by intro _ e; cases e), _, _, rfl, pb'.rep (by intro _ e; cases e), rfl⟩) rfl ?_⟩
        have e := e12.trans (e3.trans e4)
        cases hF : F [.obj 3 xs, .obj 3 ys] with
        | no => rw [hF] at h; exact h.elim
        | exc x => rw [hF] at h; exact PostX.ext h e
        | ok pv =>
          rw [hF] at h
          cases pv with
          | fz d =>
            cases d with
            | bl t => exact fun Z' H' v e' k' r' => ⟨t, r', h Z' H' (.bl (!t)) (e.trans e') k' rfl⟩
            | _ => exact h.elim
          | fr _ => exact h.elim
          | «at» _ => exact h.elim
      · refine .inl ?_
        unfold opV at h
        cases la : look ρ2 pa with
        | none => rw [la] at h; exact h.elim
        | some da =>
          cases lb : look ρ2 pb with
          | none => rw [la, lb] at h; exact h.elim
          | some db =>
            rw [la, lb] at h
            cases hg : g da db with
            | none => simp only [hg] at h; exact h.elim
            | some pv =>
              simp only [hg] at h
              refine S Z4 H3 da db x y pv Q k4.zh (k4.pk r2' la) (k4.pk r4 lb) hg fun Z' H' v st => ?_
              obtain ⟨f1, f2, f3⟩ := st.ok k4
              exact h Z' H' v (e12.trans ((e3.trans e4).trans f1)) f2 f3
/-- Ratio's __init__ as it stands behind the top -/
structure DefN (K : PySem.W.Frag) (G : Wd) (st : Stmt) : Prop where
  ex : ∃ (f : Addr) (fd : FuncData), FunD K "__init__" "Ratio.__init__" (defArgs st) (defBody st) (defScope st) [.int 1] [] f fd ∧ Mk K (G.clA 3) f ∧ Binds K fd ["self", "n", "d"] [] ∧ ∃ ds, Vals [.int 1] ds ∧ Binds K fd ["self", "n", "d"] ds
structure GoodN (P : Program) (w : World) (K : PySem.W.Frag) (mg : Str → Option Value) (base : Heap) (G : Wd) (k : Nat) (FI : List D → R (List D)) : Prop where
  ex : ∃ (f : Addr) (fd : FuncData), FnOk P w K mg base (L2.CX P w) k f fd ["self", "n", "d"] (spN K G (G.clA 3) ["n", "d"] 2 FI) ∧ Mk K (G.clA 3) f ∧ Binds K fd ["self", "n", "d"] [] ∧ ∃ ds, Vals [.int 1] ds ∧ Binds K fd ["self", "n", "d"] ds
theorem goodN_of {P : Program} {w : World} {K : PySem.W.Frag} {mg : Str → Option Value} {base : Heap} {G : Wd} {st : Stmt} {N : List Str} {k : Nat} {f1 f2 f3 : Es} {e1 e2 : Ev} (d : DefN K G st) (S : FnScope N ["self", "n", "d"] (defScope st)) (T : RatC K (G.clA 3))
    (hb : ∀ (a f : Addr) (cdv : Value) (A : Around) (outer : List Env) (s : Shared) (H : Hp) (E : XK), Room k (A.deeper (envOfC "Ratio.__init__" (defScope st) s.heap.objs.size f cdv)) →
      PSs (cxOf (L2.CX P w) P w K mg base N "Ratio.__init__" (defScope st) f cdv A outer s H E) (defBody st) (tIni K (G9 G a) (fun cls d _ H => E cls d H) f1 f2 f3 e1 e2)) : GoodN P w K mg base G (k + 1) (iniOf N.length (sSeq f1 (sSeq f2 f3)) e1 e2) := by
  obtain ⟨f, fd, F, M, b0, b1⟩ := d.ex
  exact ⟨f, fd, ini_ok (fun sp l h => F.ok S l h) rfl T (fun a cdv A outer s H E hr => hb a f cdv A outer s H E hr), M, b0, b1⟩
theorem binds_of {K : PySem.W.Frag} {st : Stmt} {f : Addr} {fd : FuncData} (F : FunD K "__init__" "Ratio.__init__" (defArgs st) (defBody st) (defScope st) [.int 1] [] f fd)
    (h1 : ∀ (T : Addr) (kV doc pm : Value) (an : Option Addr) (cdv ct : Value) (us its : List Value), us.length = 3 → its.length = 1 →
      ∃ k, bindArgs (PySem.W.fnOf "__init__" "Ratio.__init__" (defArgs st) (defBody st) (defScope st) (.ref T) kV doc pm an cdv ct) ⟨us, []⟩ = seqItems? (.ref T) >>= k ∧ k (some its.toArray) = pure ((["self", "n", "d"] : List Str).zip (us ++ its.drop 1)))
    (h2 : ∀ (T : Addr) (kV doc pm : Value) (an : Option Addr) (cdv ct : Value) (us its : List Value), us.length = 2 → its.length = 1 →
      ∃ k, bindArgs (PySem.W.fnOf "__init__" "Ratio.__init__" (defArgs st) (defBody st) (defScope st) (.ref T) kV doc pm an cdv ct) ⟨us, []⟩ = seqItems? (.ref T) >>= k ∧ k (some its.toArray) = pure ((["self", "n", "d"] : List Str).zip (us ++ its.drop 0))) :
    Binds K fd ["self", "n", "d"] [] ∧ ∃ ds, Vals [.int 1] ds ∧ Binds K fd ["self", "n", "d"] ds := by
  obtain ⟨ds, v, b⟩ := F.binds1 (ps := ["self", "n", "d"]) 3 1 (by simp) rfl h1
  have e : ds = [] := by
    cases ds with
    | nil => rfl
    | cons _ _ => cases v
  subst e
  exact ⟨b, F.binds1 (ps := ["self", "n", "d"]) 2 0 (by simp) rfl h2⟩
section
variable {X : Cx} {G : Wd} {W : WX} {pos p : Pos} {a b : Expr} {k m : Nat} {ps : List Str} {F : Fn} {fa fb : Ev} {x : Str} {FI : List D → R (List D)}
theorem re_neR {r : R2} {g : D → D → Option PV} {qual : Str} {st : Stmt} (go : Good X.prog X.w X.K X.mg X.base G k m 2 ps [] F) (dm : DefM X.K G m "__eq__" qual st ps) (T : RatC X.K (G.clA 3)) (hn : PySem.W.findIn X.K (.ref (G.clA 3)) "__ne__" = some (some (.builtin "object.__ne__"))) (hr : Room (k + 1) X.A) (tk : Takes X W)
    (ho : OpR X (compareOp .NotEq) r) (S : OpS X.K G r g) (ha : PE X a (tE X.K G W fa)) (hb : PE X b (tE X.K G W fb)) (hm : behindInMarks .NotEq b = false) : PE X (.Compare a [.NotEq] [b] pos) (tE X.K G W (eNeR g F fa fb)) := by
  obtain ⟨fd, Fo, hk, hbi⟩ := go.ex
  exact (pe_cmpS (opOrS (opRS_of ho) (ne_ownS hn T.hm dm.me.at_ dm.me.fn Fo hr hbi (passAt tk))) ha hb hm).imp fun _ _ _ h => te_neR S h
theorem rt_neR {r : R2} {g : D → D → Option PV} {qual : Str} {st : Stmt} (go : Good X.prog X.w X.K X.mg X.base G k m 2 ps [] F) (dm : DefM X.K G m "__eq__" qual st ps) (T : RatC X.K (G.clA 3)) (hn : PySem.W.findIn X.K (.ref (G.clA 3)) "__ne__" = some (some (.builtin "object.__ne__"))) (hr : Room (k + 1) X.A) (tk : Takes X W)
    (ho : OpR X (compareOp .NotEq) r) (S : OpS X.K G r g) (ha : PE X a (tE X.K G W fa)) (hb : PE X b (tE X.K G W fb)) (hm : behindInMarks .NotEq b = false) : PT X (.Compare a [.NotEq] [b] pos) (tT X.K G W (tOf (eNeR g F fa fb))) := by
  obtain ⟨fd, Fo, hk, hbi⟩ := go.ex
  exact (pt_cmpS (opOrS (opRS_of ho) (ne_ownS hn T.hm dm.me.at_ dm.me.fn Fo hr hbi (passAt tk))) ha hb hm).imp fun _ _ _ h => te_neR S (tt_of h)
theorem re_new2 {fa : Ea} (g : GoodN X.prog X.w X.K X.mg X.base G k FI) (hN : G.clF 3 = [("n" : Str), ("d" : Str)]) (hr : Room (k + 1) X.A) (hg : Gl X x) (hm : X.mg x = some (.ref (G.clA 3))) (tk : Takes X W) (ha : PA X [a, b] (tA X.K G W fa)) (hdb : (x == ("__debug__" : Str)) = false := by decide)
    (he : starEach [a, b] X.env = (false, eval a X.env) :: starEach [b] X.env := by rfl) (hpl : (backTo pos (starEach [b] X.env)).any (·.1) = false := by rfl) : PE X (.Call (.Name x p) [a, b] [] pos) (tE X.K G W (eNew 3 2 2 FI [] fa)) := by
  obtain ⟨f, fd, Fo, M, b0, b1⟩ := g.ex
  exact re_new (dd := []) M Fo hN hr hg hm b0 .nil (fun Z => (show RepL X.K G Z [] [] from rfl)) tk ha hdb he hpl
theorem re_new1 {fa : Ea} (g : GoodN X.prog X.w X.K X.mg X.base G k FI) (hN : G.clF 3 = [("n" : Str), ("d" : Str)]) (hr : Room (k + 1) X.A) (hg : Gl X x) (hm : X.mg x = some (.ref (G.clA 3))) (tk : Takes X W) (ha : PA X [a] (tA X.K G W fa)) (hdb : (x == ("__debug__" : Str)) = false := by decide)
    (he : starEach [a] X.env = (false, eval a X.env) :: starEach [] X.env := by rfl) (hpl : (backTo pos (starEach [] X.env)).any (·.1) = false := by rfl) : PE X (.Call (.Name x p) [a] [] pos) (tE X.K G W (eNew 3 2 2 FI [.int 1] fa)) := by
  obtain ⟨f, fd, Fo, M, b0, ds, v, b1⟩ := g.ex
  exact re_new (dd := [.int 1]) M Fo hN hr hg hm b1 v (fun Z => (show RepL X.K G Z [.int 1] [.int 1] from ⟨_, _, rfl, rfl, rfl⟩)) tk ha hdb he hpl
end
end Rf
end
section
set_option Elab.async false
set_option linter.all false
set_option maxRecDepth 100000
set_option maxHeartbeats 4000000
/-! Rf, part V: how mirror terms are worked out, step by step. -/
namespace Rf
open PySem PySem.Spec PyProof.Rows L2
section
variable {ρ ρ1 ρ2 ρ3 ρ4 ρw : Rho} {pa pb pv : PV} {d da db e : D} {fa fb fc f : Ev} {fr : Ea} {ds : List D} {x : Xc}
theorem v_fz {i : Nat} (h : ρ[i]? = some (.fz d)) : eVar i ρ = .ok (.fz d, ρ) := by
  unfold eVar
  rw [h]
theorem v_ow {i : Nat} {b : Bool} {xs : List D} (h : ρ[i]? = some (.ow b xs)) : eVar i ρ = .ok (.at i, ρ) := by
  unfold eVar
  rw [h]
theorem v_c : eC d ρ = .ok (.fz d, ρ) := rfl
theorem v_op {g : D → D → Option PV} (h1 : fa ρ = .ok (pa, ρ1)) (h2 : fb ρ1 = .ok (pb, ρ2)) (h3 : look ρ2 pa = some da) (h4 : look ρ2 pb = some db) (h5 : g da db = some pv) : eOp g fa fb ρ = .ok (pv, ρ2) := by
  show (fa ρ).bind _ = _
  rw [h1]
  show (fb ρ1).bind _ = _
  rw [h2]
  show opV g pa pb ρ2 = _
  unfold opV
  rw [h3, h4]
  simp only []
  rw [h5]
theorem v_u {g : D → Option PV} (h1 : fa ρ = .ok (pa, ρ1)) (h3 : look ρ1 pa = some da) (h5 : g da = some pv) : eU g fa ρ = .ok (pv, ρ1) := by
  show (fa ρ).bind _ = _
  rw [h1]
  show opU g pa ρ1 = _
  unfold opU
  rw [h3]
  simp only []
  rw [h5]
theorem v_nil : aNil ρ = .ok ([], ρ) := rfl
theorem v_cons (h1 : f ρ = .ok (pv, ρ1)) (h2 : useV pv ρ1 = some (d, ρ2)) (h3 : fr ρ2 = .ok (ds, ρ3)) : aCons f fr ρ = .ok (d :: ds, ρ3) := by
  show (f ρ).bind _ = _
  rw [h1]
  show (match useV pv ρ1 with | some (d, ρ2) => (fr ρ2).bind fun (ds, ρ3) => R.ok (d :: ds, ρ3) | none => .no) = _
  rw [h2]
  show (fr ρ2).bind _ = _
  rw [h3]
  rfl
theorem v_call {n : Nat} {F : Fn} {dd : List D} (h1 : fr ρ = .ok (ds, ρ1)) (h2 : ((ds ++ dd).length == n) = true) (h3 : F (ds ++ dd) = .ok pv) : eCall n F dd fr ρ = .ok (pv, ρ1) := by
  show (fr ρ).bind _ = _
  rw [h1]
  show (if ((ds ++ dd).length == n) = true then callK ρ1 (F (ds ++ dd)) else .no) = _
  rw [if_pos h2, h3]
  rfl
theorem v_call0 {n : Nat} {F : Fn} (h1 : fr ρ = .ok (ds, ρ1)) (h2 : (ds.length == n) = true) (h3 : F ds = .ok pv) : eCall n F [] fr ρ = .ok (pv, ρ1) :=
  v_call h1 (by rw [List.append_nil]; exact h2) (by rw [List.append_nil]; exact h3)
theorem v_callx {n : Nat} {F : Fn} (h1 : fr ρ = .ok (ds, ρ1)) (h2 : (ds.length == n) = true) (h3 : F ds = .exc x) : eCall n F [] fr ρ = .exc x := by
  show (fr ρ).bind _ = _
  rw [h1]
  show (if ((ds ++ []).length == n) = true then callK ρ1 (F (ds ++ [])) else .no) = _
  rw [List.append_nil, if_pos h2, h3]
  rfl
theorem v_callB {j n : Nat} {F : FnB} {c : Bool} {xs ys : List D} (h0 : isOw ρ[j]? = true) (h1 : fr ρ = .ok (ds, ρ1)) (h2 : ρ1[j]? = some (.ow c xs)) (h3 : (ds.length + 1 == n) = true) (h4 : F xs ds = .ok (pv, ys)) (h5 : ρ1.set j (.ow c ys) = ρ2) : eCallB j n F fr ρ = .ok (pv, ρ2) := by
  unfold eCallB
  cases e : ρ[j]? with
  | none => rw [e] at h0; cases h0
  | some k =>
    rw [e] at h0
    cases k with
    | un => cases h0
    | fz d => cases h0
    | ow b zs =>
      simp only []
      rw [h1]
      show callBK j n F (ds, ρ1) = _
      unfold callBK
      simp only [h2]
      rw [if_pos h3, h4]
      show R.ok (pv, ρ1.set j (.ow c ys)) = _
      rw [h5]
theorem v_callD {tab : Nat → Option (Nat × Fn)} {j m n : Nat} {F : Fn} (h0 : ρ[j]? = some (.fz (.fn m))) (h1 : tab m = some (n, F)) (h2 : fr ρ = .ok (ds, ρ1)) (h3 : (ds.length == n) = true) (h4 : F ds = .ok pv) : eCallD tab j fr ρ = .ok (pv, ρ1) := by
  unfold eCallD
  rw [h0]
  simp only []
  rw [h1]
  simp only []
  rw [h2]
  show (if (ds.length == n) = true then callK ρ1 (F ds) else .no) = _
  rw [if_pos h3, h4]
  rfl
theorem v_callDx {tab : Nat → Option (Nat × Fn)} {j m n : Nat} {F : Fn} (h0 : ρ[j]? = some (.fz (.fn m))) (h1 : tab m = some (n, F)) (h2 : fr ρ = .ok (ds, ρ1)) (h3 : (ds.length == n) = true) (h4 : F ds = .exc x) : eCallD tab j fr ρ = .exc x := by
  unfold eCallD
  rw [h0]
  simp only []
  rw [h1]
  simp only []
  rw [h2]
  show (if (ds.length == n) = true then callK ρ1 (F ds) else .no) = _
  rw [if_pos h3, h4]
  rfl
theorem v_tup (h : fr ρ = .ok (ds, ρ1)) (g : szOk ds.length = true) : eTup fr ρ = .ok (.fz (.tup ds), ρ1) := by
  show (fr ρ).bind _ = _
  rw [h]
  show (if szOk ds.length = true then R.ok (PV.fz (.tup ds), ρ1) else .no) = _
  rw [if_pos g]
theorem v_lst (h : fr ρ = .ok (ds, ρ1)) (g : szOk ds.length = true) : eLst fr ρ = .ok (.fr ds, ρ1) := by
  show (fr ρ).bind _ = _
  rw [h]
  show (if szOk ds.length = true then R.ok (PV.fr ds, ρ1) else .no) = _
  rw [if_pos g]
theorem v_oN : oNone ρ = .ok (none, ρ) := rfl
theorem v_oS {i : Int} (h : f ρ = .ok (.fz (.int i), ρ1)) : oSome f ρ = .ok (some i, ρ1) := by
  show (f ρ).bind _ = _
  rw [h]
  rfl
theorem v_sl {fl fh : Eo} {lo hi : Option Int} (h1 : fa ρ = .ok (pa, ρ1)) (h2 : fl ρ1 = .ok (lo, ρ2)) (h3 : fh ρ2 = .ok (hi, ρ3)) (h4 : look ρ3 pa = some da) (h5 : gSl da lo hi = some pv) : eSl fa fl fh ρ = .ok (pv, ρ3) := by
  show (fa ρ).bind _ = _
  rw [h1]
  show (fl ρ1).bind _ = _
  rw [h2]
  show (fh ρ2).bind _ = _
  rw [h3]
  show slK pa lo (hi, ρ3) = _
  unfold slK
  simp only []
  rw [h4]
  simp only []
  rw [h5]
theorem v_andT {r : R (PV × Rho)} (h : fa ρ = .ok (.fz (.bl true), ρ1)) (g : fb ρ1 = r) : eAndV fa fb ρ = r := by
  show (fa ρ).bind _ = _
  rw [h]
  exact g
theorem v_andF (h : fa ρ = .ok (.fz (.bl false), ρ1)) : eAndV fa fb ρ = .ok (.fz (.bl false), ρ1) := by
  show (fa ρ).bind _ = _
  rw [h]
  rfl
theorem v_ch {g g' : D → D → Option PV} {dc : D} {pc : PV} (h1 : fa ρ = .ok (pa, ρ1)) (h2 : fb ρ1 = .ok (pb, ρ2)) (h3 : look ρ2 pa = some da) (h4 : look ρ2 pb = some db) (h5 : g da db = some (.fz (.bl true)))
    (h6 : fc ρ2 = .ok (pc, ρ3)) (h7 : look ρ3 pb = some e) (h8 : look ρ3 pc = some dc) (h9 : g' e dc = some pv) : eChain g g' fa fb fc ρ = .ok (pv, ρ3) := by
  show (fa ρ).bind _ = _
  rw [h1]
  show (fb ρ1).bind _ = _
  rw [h2]
  show (opV g pa pb ρ2).bind (chK g' fc pb) = _
  unfold opV
  rw [h3, h4]
  simp only []
  rw [h5]
  show (fc ρ2).bind _ = _
  rw [h6]
  show opV g' pb pc ρ3 = _
  unfold opV
  rw [h7, h8]
  simp only []
  rw [h9]
theorem v_if {tc : Et} {b : Bool} {r : R (PV × Rho)} (h : tc ρ = .ok (b, ρ1)) (g : (if b then fa ρ1 else fb ρ1) = r) : eIfF tc fa fb ρ = r := by
  show (tc ρ).bind _ = _
  rw [h]
  cases b <;> exact g
theorem v_consx (h1 : f ρ = .exc x) : aCons f fr ρ = .exc x := by
  show (f ρ).bind _ = _
  rw [h1]
  rfl
theorem v_consx2 (h1 : f ρ = .ok (pv, ρ1)) (h2 : useV pv ρ1 = some (d, ρ2)) (h3 : fr ρ2 = .exc x) : aCons f fr ρ = .exc x := by
  show (f ρ).bind _ = _
  rw [h1]
  show (match useV pv ρ1 with | some (d, ρ2) => (fr ρ2).bind fun (ds, ρ3) => R.ok (d :: ds, ρ3) | none => .no) = _
  rw [h2]
  show (fr ρ2).bind _ = _
  rw [h3]
  rfl
theorem v_tupx (h : fr ρ = .exc x) : eTup fr ρ = .exc x := by
  show (fr ρ).bind _ = _
  rw [h]
  rfl
theorem v_tx (h : f ρ = .exc x) : tOf f ρ = .exc x := by
  show (f ρ).bind _ = _
  rw [h]
  rfl
theorem v_retx (h : f ρ = .exc x) : sRet f ρ = .exc x := by
  show (f ρ).bind _ = _
  rw [h]
  rfl
/-! iterations -/
theorem v_seqT {xs : List D} (h : fa ρ = .ok (pa, ρ1)) (g : useV pa ρ1 = some (.tup xs, ρ2)) : iSeq fa ρ = .ok (xs, ρ2) := by
  show (fa ρ).bind _ = _
  rw [h]
  show seqOf (useV pa ρ1) = _
  rw [g]
  rfl
theorem v_seqL {xs : List D} (h : fa ρ = .ok (pa, ρ1)) (g : useV pa ρ1 = some (.lst xs, ρ2)) : iSeq fa ρ = .ok (xs, ρ2) := by
  show (fa ρ).bind _ = _
  rw [h]
  show seqOf (useV pa ρ1) = _
  rw [g]
  rfl
abbrev nI (i : Nat) : D := .int (i : Int)
theorem v_rg1' {j : Int} (h : fr ρ = .ok ([.int j], ρ1)) (g0 : 0 ≤ j) (g : j < 1000000) : iRg1 fr ρ = .ok (rangeD 0 j.toNat, ρ1) := by
  unfold iRg1
  rw [h]
  have e : (decide (-4611686018427387904 ≤ j) && decide (j < 4611686018427387904)) = true := by
    rw [Bool.and_eq_true]
    exact ⟨decide_eq_true (by omega), decide_eq_true (by omega)⟩
  show (if (decide (-4611686018427387904 ≤ j) && decide (j < 4611686018427387904)) = true then R.ok (rangeD 0 j.toNat, ρ1) else .no) = _
  rw [if_pos e]
theorem rangeD_nI (n : Nat) : rangeD 0 n = (List.range n).map nI := by
  unfold rangeD
  simp
theorem v_rg1 {n : Nat} (h : fr ρ = .ok ([.int (n : Int)], ρ1)) (g : n < 1000000) : iRg1 fr ρ = .ok ((List.range n).map nI, ρ1) := by
  rw [v_rg1' h (by omega) (by omega), Int.toNat_natCast, rangeD_nI]
theorem v_zpT {xs ys : List D} (h : fr ρ = .ok ([.tup xs, .tup ys], ρ1)) : iZp fr ρ = .ok (zipD xs ys, ρ1) := by
  show (fr ρ).bind _ = _
  rw [h]
  rfl
theorem v_zpL {xs ys : List D} (h : fr ρ = .ok ([.lst xs, .lst ys], ρ1)) : iZp fr ρ = .ok (zipD xs ys, ρ1) := by
  show (fr ρ).bind _ = _
  rw [h]
  rfl
/-! comprehensions -/
theorem lcGo_map {α : Type} {t : Tg} {fe : Ev} {vs : List Nat} {c g : α → D} : ∀ {L : List α}, (∀ a, a ∈ L → ∃ ρa ρb, bindT t (c a) ρ = some ρa ∧ fe ρa = .ok (.fz (g a), ρb) ∧ wipeR ρb vs = ρ) →
    lcGo t tYesF fe vs (L.map c) ρ = .ok (L.map g, ρ)
  | [], _ => rfl
  | a :: L, h => by
    obtain ⟨ρa, ρb, e1, e2, e3⟩ := h a List.mem_cons_self
    rw [List.map_cons, lcGo, e1]
    simp only [tYesF]
    rw [e2]
    simp only [useV]
    rw [e3, lcGo_map (L := L) (fun b hb => h b (List.mem_cons_of_mem _ hb))]
    rfl
theorem v_lc {α : Type} {fi : Ei} {t : Tg} {fe : Ev} {vs : List Nat} {c g : α → D} {L : List α} (h1 : fi ρ = .ok (L.map c, ρ1)) (h2 : noOwn ρ1 vs = true) (h3 : L.length < 1000000) (h4 : wipeR ρ1 vs = ρw)
    (h5 : ∀ a, a ∈ L → ∃ ρa ρb, bindT t (c a) ρw = some ρa ∧ fe ρa = .ok (.fz (g a), ρb) ∧ wipeR ρb vs = ρw) (h6 : backR ρw ρ1 vs = ρ2) : eLc vs fi t tYesF fe ρ = .ok (.fr (L.map g), ρ2) := by
  show (fi ρ).bind _ = _
  rw [h1]
  show lcK vs t tYesF fe (L.map c, ρ1) = _
  unfold lcK
  simp only []
  rw [if_pos (by rw [Bool.and_eq_true, h2, List.length_map]; exact ⟨rfl, Nat.ble_eq_true_of_le (by omega)⟩), h4, lcGo_map h5]
  show R.ok (PV.fr (L.map g), backR ρw ρ1 vs) = _
  rw [h6]
/-! tests -/
theorem v_t {b : Bool} (h : f ρ = .ok (.fz (.bl b), ρ1)) : tOf f ρ = .ok (b, ρ1) := by
  show (f ρ).bind _ = _
  rw [h]
  rfl
theorem v_not {t : Et} {b : Bool} (h : t ρ = .ok (b, ρ1)) : tNotF t ρ = .ok (!b, ρ1) := by
  show (t ρ).bind _ = _
  rw [h]
  rfl
theorem v_orT {t t' : Et} (h : t ρ = .ok (true, ρ1)) : tOrF t t' ρ = .ok (true, ρ1) := by
  show (t ρ).bind _ = _
  rw [h]
  rfl
theorem v_orF {t t' : Et} {r : R (Bool × Rho)} (h : t ρ = .ok (false, ρ1)) (g : t' ρ1 = r) : tOrF t t' ρ = r := by
  show (t ρ).bind _ = _
  rw [h]
  exact g
theorem v_tandF {t t' : Et} (h : t ρ = .ok (false, ρ1)) : tAndF t t' ρ = .ok (false, ρ1) := by
  show (t ρ).bind _ = _
  rw [h]
  rfl
theorem v_tandT {t t' : Et} {r : R (Bool × Rho)} (h : t ρ = .ok (true, ρ1)) (g : t' ρ1 = r) : tAndF t t' ρ = r := by
  show (t ρ).bind _ = _
  rw [h]
  exact g
/-! statements -/
theorem v_seq {s s' : Es} {r : R (Fl × Rho)} (h : s ρ = .ok (.nx, ρ1)) (g : s' ρ1 = r) : sSeq s s' ρ = r := by
  show seqK s' (s ρ) = _
  rw [h]
  exact g
theorem v_seqx {s s' : Es} (h : s ρ = .exc x) : sSeq s s' ρ = .exc x := by
  show seqK s' (s ρ) = _
  rw [h]
  rfl
theorem v_seqR {s s' : Es} (h : s ρ = .ok (.rt pv, ρ1)) : sSeq s s' ρ = .ok (.rt pv, ρ1) := by
  show seqK s' (s ρ) = _
  rw [h]
  rfl
theorem v_set {i : Nat} {r : R (Fl × Rho)} (h : f ρ = .ok (pv, ρ1)) (g : setK i (pv, ρ1) = r) : sSet i f ρ = r := by
  show (f ρ).bind _ = _
  rw [h]
  exact g
theorem v_ret {r : R (Fl × Rho)} (h : f ρ = .ok (pv, ρ1)) (g : retK (pv, ρ1) = r) : sRet f ρ = r := by
  show (f ρ).bind _ = _
  rw [h]
  exact g
theorem v_ex (h : f ρ = .ok (pv, ρ1)) : sExpr f ρ = .ok (.nx, ρ1) := by
  show (f ρ).bind _ = _
  rw [h]
  rfl
theorem v_exx (h : f ρ = .exc x) : sExpr f ρ = .exc x := by
  show (f ρ).bind _ = _
  rw [h]
  rfl
theorem v_sifT {t : Et} {a b : Es} {r : R (Fl × Rho)} (h : t ρ = .ok (true, ρ1)) (g : a ρ1 = r) : sIf t a b ρ = r := by
  show (t ρ).bind _ = _
  rw [h]
  exact g
theorem v_sifF {t : Et} {a b : Es} {r : R (Fl × Rho)} (h : t ρ = .ok (false, ρ1)) (g : b ρ1 = r) : sIf t a b ρ = r := by
  show (t ρ).bind _ = _
  rw [h]
  exact g
theorem v_sapp {j : Nat} {r : R (Fl × Rho)} {c : Bool} {xs : List D} (h0 : ρ[j]? = some (.ow c xs)) (h : f ρ = .ok (pv, ρ1)) (g : appK j (useV pv ρ1) = r) : sApp j f ρ = r := by
  unfold sApp
  rw [h0]
  show (f ρ).bind _ = _
  rw [h]
  exact g
theorem v_for {fi : Ei} {t : Tg} {body : Es} {r : R (Fl × Rho)} (h : fi ρ = .ok (ds, ρ1)) (g : forGo t body ds ρ1 = r) : sFor fi t body ρ = r := by
  show (fi ρ).bind _ = _
  rw [h]
  exact g
theorem forGo_nx {t : Tg} {body : Es} {r : R (Fl × Rho)} (h : bindT t d ρ = some ρ1) (h2 : body ρ1 = .ok (.nx, ρ2)) (h3 : forGo t body ds ρ2 = r) : forGo t body (d :: ds) ρ = r := by
  rw [forGo, h]
  simp only []
  rw [h2]
  exact h3
/-- the loop whose body keeps I -/
theorem forGo_inv {t : Tg} {body : Es} (I : Rho → Prop) : ∀ {ds : List D}, (∀ d ρ, d ∈ ds → I ρ → ∃ ρ1 ρ2, bindT t d ρ = some ρ1 ∧ body ρ1 = .ok (.nx, ρ2) ∧ I ρ2) → ∀ {ρ : Rho}, I ρ → ∃ ρ2, forGo t body ds ρ = .ok (.nx, ρ2) ∧ I ρ2
  | [], _, ρ, h => ⟨ρ, rfl, h⟩
  | d :: ds, hs, ρ, h => by
    obtain ⟨ρ1, ρ2, e1, e2, e3⟩ := hs d ρ List.mem_cons_self h
    obtain ⟨ρ3, e4, e5⟩ := forGo_inv I (fun d ρ hd => hs d ρ (List.mem_cons_of_mem _ hd)) e3
    exact ⟨ρ3, forGo_nx e1 e2 e4, e5⟩
/-- the loop over a range, told by its count -/
theorem forGo_rg {t : Tg} {body : Es} (I : Nat → Rho → Prop) : ∀ {n : Nat}, (∀ i ρ, i < n → I i ρ → ∃ ρ1 ρ2, bindT t (.int (i : Int)) ρ = some ρ1 ∧ body ρ1 = .ok (.nx, ρ2) ∧ I (i + 1) ρ2) → ∀ {ρ : Rho}, I 0 ρ → ∃ ρ2, forGo t body ((List.range n).map nI) ρ = .ok (.nx, ρ2) ∧ I n ρ2 := by
  intro n hs ρ h0
  have key : ∀ (m k : Nat), k + m = n → ∀ ρ, I k ρ → ∃ ρ2, forGo t body ((List.range' k m).map nI) ρ = .ok (.nx, ρ2) ∧ I n ρ2 := by
    intro m
    induction m with
    | zero =>
      intro k hk ρ h
      have e : k = n := by omega
      subst e
      exact ⟨ρ, rfl, h⟩
    | succ m ih =>
      intro k hk ρ h
      obtain ⟨ρ1, ρ2, e1, e2, e3⟩ := hs k ρ (by omega) h
      obtain ⟨ρ3, e4, e5⟩ := ih (k + 1) (by omega) ρ2 e3
      refine ⟨ρ3, ?_, e5⟩
      rw [List.range'_succ, List.map_cons]
      exact forGo_nx e1 e2 e4
  rw [List.range_eq_range']
  exact key n 0 (by omega) ρ h0
/-! ints -/
abbrev IL (xs : List Int) : List D := xs.map .int
theorem sum_map {xs : List Int} : gSum (.lst (IL xs)) = some (.fz (.int xs.sum)) := by
  show (intsD (IL xs)).map _ = _
  rw [intsD_map]
  rfl
theorem ix_nat {xs : List Int} {k : Nat} (h : k < xs.length) : gIx (.tup (IL xs)) (.int (k : Int)) = some (.fz (.int (xs.getD k 0))) := by
  have hi : ixN (IL xs).length (k : Int) = some k := by
    unfold ixN
    rw [List.length_map]
    simp [h]
  show ((ixN (IL xs).length (k : Int)).bind fun j => (IL xs)[j]?).map PV.fz = _
  rw [hi]
  simp [List.getD, h]
theorem ix_natL {xs : List Int} {k : Nat} (h : k < xs.length) : gIx (.lst (IL xs)) (.int (k : Int)) = some (.fz (.int (xs.getD k 0))) := by
  rw [← ix_nat h]
  rfl
theorem zip_map (xs ys : List Int) : zipD (IL xs) (IL ys) = (xs.zip ys).map fun q => .tup [.int q.1, .int q.2] := by
  induction xs generalizing ys with
  | nil => rfl
  | cons x xs ih =>
    cases ys with
    | nil => rfl
    | cons y ys =>
      show D.tup [.int x, .int y] :: zipD (IL xs) (IL ys) = _
      rw [ih]
      rfl
end
end Rf
end
section
set_option Elab.async false
set_option linter.all false
set_option maxRecDepth 100000
set_option maxHeartbeats 4000000
/-! Rf, part Q: pure twins: what a def is worth as a plain function of ints (pc.py prints twins and their proofs). -/
namespace Rf
open PySem PySem.Spec PyProof.Rows L2
theorem blt_dec {a b : Nat} : Nat.blt a b = decide (a < b) := by
  rw [Bool.eq_iff_iff, Nat.blt_eq, decide_eq_true_eq]
def PL (c : Cell) : Prop := fixed (some c) = false
theorem pl_fz {d : D} : PL (.fz d) := rfl
theorem pl_un : PL .un := rfl
theorem set_R {ρ ρ' : Rho} {i : Nat} {c k : Cell} (h : ρ[i]? = some c) (hc : PL c) (e : ρ.set i k = ρ') : setR i k ρ = some ρ' := by
  have l : i < ρ.length := by
    rcases Nat.lt_or_ge i ρ.length with l | l
    · exact l
    · rw [List.getElem?_eq_none l] at h; cases h
  unfold setR
  rw [h, show fixed (some c) = false from hc, blt_dec, decide_eq_true l, e]
  rfl
theorem set_fz {ρ ρ' : Rho} {i : Nat} {c : Cell} {d : D} (h : ρ[i]? = some c) (hc : PL c) (e : ρ.set i (.fz d) = ρ') : setK i (.fz d, ρ) = .ok (.nx, ρ') := by
  show (match setR i (.fz d) ρ with | some ρ1 => R.ok (Fl.nx, ρ1) | none => .no) = _
  rw [set_R h hc e]
theorem set_fr {ρ ρ' : Rho} {i : Nat} {c : Cell} {xs : List D} (h : ρ[i]? = some c) (hc : PL c) (e : ρ.set i (.ow false xs) = ρ') : setK i (.fr xs, ρ) = .ok (.nx, ρ') := by
  show (match setR i (.ow false xs) ρ with | some ρ1 => R.ok (Fl.nx, ρ1) | none => .no) = _
  rw [set_R h hc e]
theorem bindL_c {i : Nat} {is : List Nat} {d : D} {ds : List D} {ρ ρ1 : Rho} {r : Option Rho} (h : setR i (.fz d) ρ = some ρ1) (g : bindL is ds ρ1 = r) : bindL (i :: is) (d :: ds) ρ = r := by
  rw [bindL, h]
  exact g
theorem v_par {i j : Nat} {fa fb : Ev} {pa pb pa' pb' : PV} {ρ ρ1 ρ2 ρ3 ρ4 ρ5 ρ6 : Rho} (h1 : fa ρ = .ok (pa, ρ1)) (u1 : uPV (pa, ρ1) = .ok (pa', ρ2)) (h2 : fb ρ2 = .ok (pb, ρ3)) (u2 : uPV (pb, ρ3) = .ok (pb', ρ4)) (s1 : setK i (pa', ρ4) = .ok (.nx, ρ5)) (s2 : setK j (pb', ρ5) = .ok (.nx, ρ6)) : sPar i j fa fb ρ = .ok (.nx, ρ6) := by
  show ((fa ρ).bind uPV).bind _ = _
  rw [h1]
  show (uPV (pa, ρ1)).bind _ = _
  rw [u1]
  show ((fb ρ2).bind uPV).bind _ = _
  rw [h2]
  show (uPV (pb, ρ3)).bind _ = _
  rw [u2]
  show (setK i (pa', ρ4)).bind (fun q => setK j (pb', q.2)) = _
  rw [s1]
  exact s2
theorem v_par3 {i j l : Nat} {fa : Ea} {a b c : D} {ρ ρ1 ρ2 : Rho} (h1 : fa ρ = .ok ([a, b, c], ρ1)) (h2 : bindL [i, j, l] [a, b, c] ρ1 = some ρ2) : sPar3 i j l fa ρ = .ok (.nx, ρ2) := by
  show (fa ρ).bind _ = _
  rw [h1]
  show (match bindL [i, j, l] [a, b, c] ρ1 with | some ρ1 => R.ok (Fl.nx, ρ1) | none => .no) = _
  rw [h2]
theorem v_unpT {is : List Nat} {f : Ev} {xs : List D} {ρ ρ1 ρ2 : Rho} (h1 : f ρ = .ok (.fz (.tup xs), ρ1)) (h2 : bindL is xs ρ1 = some ρ2) : sUnp is f ρ = .ok (.nx, ρ2) := by
  show (f ρ).bind _ = _
  rw [h1]
  show (match bindL is xs ρ1 with | some ρ1 => R.ok (Fl.nx, ρ1) | none => .no) = _
  rw [h2]
theorem whGo_mono {tc : Et} {body : Es} : ∀ {n m : Nat} {ρ : Rho} {r : Fl × Rho}, n ≤ m → whGo tc body n ρ = .ok r → whGo tc body m ρ = .ok r
  | 0, _, _, _, _, h => by simp [whGo] at h
  | n + 1, 0, _, _, l, _ => by omega
  | n + 1, m + 1, ρ, r, l, h => by
    rw [whGo] at h ⊢
    cases e : tc ρ with
    | no => rw [e] at h; exact h
    | exc x => rw [e] at h; exact h
    | ok q =>
      obtain ⟨b, ρ1⟩ := q
      rw [e] at h
      cases b with
      | false => exact h
      | true =>
        simp only [] at h ⊢
        cases e2 : body ρ1 with
        | no => rw [e2] at h; exact h
        | exc x => rw [e2] at h; exact h
        | ok q2 =>
          obtain ⟨fl, ρ2⟩ := q2
          rw [e2] at h
          cases fl with
          | nx => exact whGo_mono (by omega) h
          | ct => exact whGo_mono (by omega) h
          | bk => exact h
          | rt pv => exact h
/-! ### int operators -/
theorem gMul2_int {i j : Int} (h : mulOk i j = true) : gMul2 (.int i) (.int j) = some (.fz (.int (i * j))) := by
  show (if mulOk i j = true then some (PV.fz (D.int (i * j))) else none) = _
  rw [if_pos h]
theorem gDiv_int {i j : Int} (h : divOk j = true) : gDiv (.int i) (.int j) = some (.fz (.int (i / j))) := by
  show (if divOk j = true then some (PV.fz (D.int (i / j))) else none) = _
  rw [if_pos h]
theorem gMod_int {i j : Int} (h : decide (0 < j) = true) : gMod (.int i) (.int j) = some (.fz (.int (i % j))) := by
  show (if decide (0 < j) = true then some (PV.fz (D.int (i % j))) else none) = _
  rw [if_pos h]
section
variable {f fa fb fc : Ev} {ρ ρ1 ρ2 : Rho} {x y : Int}
theorem v_opR {g : D → D → Option PV} {F : Fn} {pv : PV} {pa pb : PV} {db : D} (h1 : fa ρ = .ok (pa, ρ1)) (h2 : fb ρ1 = .ok (pb, ρ2)) (h3 : look ρ2 pa = some (.int x)) (h4 : look ρ2 pb = some db) (h5 : g (.int x) db = some pv) : eOpR g F fa fb ρ = .ok (pv, ρ2) := by
  unfold eOpR
  rw [h1]
  show (fb ρ1).bind _ = _
  rw [h2]
  show opRK g F pa pb ρ2 = _
  unfold opRK opV
  rw [h3, h4]
  simp only [h5]
theorem v_neR {g : D → D → Option PV} {F : Fn} {pv : PV} {pa pb : PV} {db : D} (h1 : fa ρ = .ok (pa, ρ1)) (h2 : fb ρ1 = .ok (pb, ρ2)) (h3 : look ρ2 pa = some (.int x)) (h4 : look ρ2 pb = some db) (h5 : g (.int x) db = some pv) : eNeR g F fa fb ρ = .ok (pv, ρ2) := by
  unfold eNeR
  rw [h1]
  show (fb ρ1).bind _ = _
  rw [h2]
  show neRK g F pa pb ρ2 = _
  unfold neRK opV
  rw [h3, h4]
  simp only [h5]
theorem v_uR {g : D → Option PV} {F : Fn} {pv : PV} {pa : PV} (h1 : fa ρ = .ok (pa, ρ1)) (h3 : look ρ1 pa = some (.int x)) (h5 : g (.int x) = some pv) : eUR g F fa ρ = .ok (pv, ρ1) := by
  unfold eUR
  rw [h1]
  show opUK g F pa ρ1 = _
  unfold opUK opU
  rw [h3]
  simp only [h5]
theorem v_ifS {tc : Et} {b : Bool} (h : tc ρ = .ok (b, ρ)) (ha : fa ρ = .ok (.fz (.int x), ρ)) (hb : fb ρ = .ok (.fz (.int y), ρ)) : eIfF tc fa fb ρ = .ok (.fz (.int (if b then x else y)), ρ) := by
  refine v_if h ?_
  cases b
  · exact hb
  · exact ha
theorem v_ifR {x' y' : Int} {tc : Et} {b : Bool} (h : tc ρ = .ok (b, ρ)) (ha : fa ρ = .ok (.fz (.obj 3 [.int x, .int x']), ρ)) (hb : fb ρ = .ok (.fz (.obj 3 [.int y, .int y']), ρ)) : eIfF tc fa fb ρ = .ok (.fz (.obj 3 [.int (if b then x else y), .int (if b then x' else y')]), ρ) := by
  refine v_if h ?_
  cases b
  · exact hb
  · exact ha
theorem v_opRR {g : D → D → Option PV} {F : Fn} {pv : PV} {pa pb : PV} {xs ys : List D} (h1 : fa ρ = .ok (pa, ρ1)) (h2 : fb ρ1 = .ok (pb, ρ2)) (h3 : look ρ2 pa = some (.obj 3 xs)) (h4 : look ρ2 pb = some (.obj 3 ys)) (h5 : F [.obj 3 xs, .obj 3 ys] = .ok pv) : eOpR g F fa fb ρ = .ok (pv, ρ2) := by
  unfold eOpR
  rw [h1]
  show (fb ρ1).bind _ = _
  rw [h2]
  show opRK g F pa pb ρ2 = _
  unfold opRK
  rw [h3, h4]
  show callK ρ2 (F [.obj 3 xs, .obj 3 ys]) = _
  rw [h5]
  rfl
theorem v_neRR {g : D → D → Option PV} {F : Fn} {b : Bool} {pa pb : PV} {xs ys : List D} (h1 : fa ρ = .ok (pa, ρ1)) (h2 : fb ρ1 = .ok (pb, ρ2)) (h3 : look ρ2 pa = some (.obj 3 xs)) (h4 : look ρ2 pb = some (.obj 3 ys)) (h5 : F [.obj 3 xs, .obj 3 ys] = .ok (.fz (.bl b))) : eNeR g F fa fb ρ = .ok (.fz (.bl (!b)), ρ2) := by
  unfold eNeR
  rw [h1]
  show (fb ρ1).bind _ = _
  rw [h2]
  show neRK g F pa pb ρ2 = _
  unfold neRK
  rw [h3, h4]
  show neK (callK ρ2 (F [.obj 3 xs, .obj 3 ys])) = _
  rw [h5]
  rfl
theorem v_uRR {g : D → Option PV} {F : Fn} {pv : PV} {pa : PV} {xs : List D} (h1 : fa ρ = .ok (pa, ρ1)) (h3 : look ρ1 pa = some (.obj 3 xs)) (h5 : F [.obj 3 xs] = .ok pv) : eUR g F fa ρ = .ok (pv, ρ1) := by
  unfold eUR
  rw [h1]
  show opUK g F pa ρ1 = _
  unfold opUK
  rw [h3]
  show callK ρ1 (F [.obj 3 xs]) = _
  rw [h5]
  rfl
theorem v_new2 {FI : List D → R (List D)} {fr : Ea} {a b u v : D} (h : fr ρ = .ok ([a, b], ρ1)) (e : FI [a, b] = .ok [u, v]) : eNew 3 2 2 FI [] fr ρ = .ok (.fz (.obj 3 [u, v]), ρ1) := by
  unfold eNew
  rw [h]
  show newK 3 2 ρ1 (FI [a, b]) = _
  rw [e]
  rfl
theorem v_new1 {FI : List D → R (List D)} {fr : Ea} {a b u v : D} (h : fr ρ = .ok ([a], ρ1)) (e : FI [a, b] = .ok [u, v]) : eNew 3 2 2 FI [b] fr ρ = .ok (.fz (.obj 3 [u, v]), ρ1) := by
  unfold eNew
  rw [h]
  show newK 3 2 ρ1 (FI [a, b]) = _
  rw [e]
  rfl
theorem v_meth {n : Nat} {F : Fn} {fr : Ea} {xs ds : List D} {pv : PV} (h1 : fa ρ = .ok (.fz (.obj 3 xs), ρ1)) (h2 : fr ρ1 = .ok (ds, ρ2)) (h3 : (ds.length + 1 == n) = true) (h4 : F (.obj 3 xs :: ds) = .ok pv) : eMeth n F fa fr ρ = .ok (pv, ρ2) := by
  unfold eMeth
  rw [h1]
  show (fr ρ1).bind _ = _
  rw [h2]
  show (if (ds.length + 1 == n) = true then callK ρ2 (F (.obj 3 xs :: ds)) else .no) = _
  rw [if_pos h3, h4]
  rfl
theorem v_ifE {α : Type} {enc : α → D} {u v : α} {tc : Et} {b : Bool} (h : tc ρ = .ok (b, ρ)) (ha : fa ρ = .ok (.fz (enc u), ρ)) (hb : fb ρ = .ok (.fz (enc v), ρ)) : eIfF tc fa fb ρ = .ok (.fz (enc (if b then u else v)), ρ) := by
  refine v_if h ?_
  cases b
  · exact hb
  · exact ha
theorem v_orS {t t' : Et} {a b : Bool} (h : t ρ = .ok (a, ρ)) (h' : t' ρ = .ok (b, ρ)) : tOrF t t' ρ = .ok (a || b, ρ) := by
  cases a
  · exact v_orF h h'
  · exact v_orT h
theorem v_andS {t t' : Et} {a b : Bool} (h : t ρ = .ok (a, ρ)) (h' : t' ρ = .ok (b, ρ)) : tAndF t t' ρ = .ok (a && b, ρ) := by
  cases a
  · exact v_tandF h
  · exact v_tandT h h'
theorem v_andVS {a b : Bool} (h : fa ρ = .ok (.fz (.bl a), ρ)) (h' : fb ρ = .ok (.fz (.bl b), ρ)) : eAndV fa fb ρ = .ok (.fz (.bl (a && b)), ρ) := by
  cases a
  · exact v_andF h
  · exact v_andT h h'
theorem v_rg2 {fr : Ea} {i j : Int} (h : fr ρ = .ok ([.int i, .int j], ρ)) (g : (decide (-1000000000 ≤ i) && (decide (i ≤ 1000000000) && (decide (-1000000000 ≤ j) && decide (j ≤ 1000000000)))) = true) : iRg2 fr ρ = .ok (rangeD i (j - i).toNat, ρ) := by
  rw [Bool.and_eq_true, Bool.and_eq_true, Bool.and_eq_true] at g
  obtain ⟨g1, g2, g3, g4⟩ := g
  have g1 := of_decide_eq_true g1
  have g2 := of_decide_eq_true g2
  have g3 := of_decide_eq_true g3
  have g4 := of_decide_eq_true g4
  unfold iRg2
  rw [h]
  have e : ((decide (-4611686018427387904 ≤ i) && decide (i < 4611686018427387904)) && (decide (-4611686018427387904 ≤ j) && decide (j < 4611686018427387904))) = true := by
    rw [Bool.and_eq_true, Bool.and_eq_true, Bool.and_eq_true]
    exact ⟨⟨decide_eq_true (by omega), decide_eq_true (by omega)⟩, decide_eq_true (by omega), decide_eq_true (by omega)⟩
  show (if ((decide (-4611686018427387904 ≤ i) && decide (i < 4611686018427387904)) && (decide (-4611686018427387904 ≤ j) && decide (j < 4611686018427387904))) = true then R.ok (rangeD i (j - i).toNat, ρ) else .no) = _
  rw [if_pos e]
theorem v_rg1S {fr : Ea} {j : Int} (h : fr ρ = .ok ([.int j], ρ)) (g : (decide (-1000000000 ≤ j) && decide (j ≤ 1000000000)) = true) : iRg1 fr ρ = .ok (rangeD 0 (j - 0).toNat, ρ) := by
  rw [Bool.and_eq_true] at g
  obtain ⟨g3, g4⟩ := g
  have g3 := of_decide_eq_true g3
  have g4 := of_decide_eq_true g4
  unfold iRg1
  rw [h]
  have e : (decide (-4611686018427387904 ≤ j) && decide (j < 4611686018427387904)) = true := by
    rw [Bool.and_eq_true]
    exact ⟨decide_eq_true (by omega), decide_eq_true (by omega)⟩
  rw [Int.sub_zero]
  show (if (decide (-4611686018427387904 ≤ j) && decide (j < 4611686018427387904)) = true then R.ok (rangeD 0 j.toNat, ρ) else .no) = _
  rw [if_pos e]
end
/-! ### twins -/
section
variable {α β : Type}
def gd (g : Bool) (o : Option α) : Option α := match g with
  | true => o
  | false => none
def bd (o : Option β) (k : β → Option α) : Option α := match o with
  | some b => k b
  | none => none
def lt (v : β) (k : β → Option α) : Option α := k v
def oI : R PV → Option Int
  | .ok (.fz (.int i)) => some i
  | _ => none
def oN : R PV → Option Unit
  | .ok (.fz .non) => some ()
  | _ => none
def oB : R PV → Option Bool
  | .ok (.fz (.bl b)) => some b
  | _ => none
theorem oI_eq : ∀ {r : R PV} {i : Int}, oI r = some i → r = .ok (.fz (.int i))
  | .ok (.fz (.int _)), _, h => by cases h; rfl
theorem oN_eq : ∀ {r : R PV} {i : Unit}, oN r = some i → r = .ok (.fz .non)
  | .ok (.fz .non), _, _ => rfl
theorem oB_eq : ∀ {r : R PV} {i : Bool}, oB r = some i → r = .ok (.fz (.bl i))
  | .ok (.fz (.bl _)), _, h => by cases h; rfl
def JS (st : Es) (ρ : Rho) (o : Option α) (P : α → R (Fl × Rho) → Prop) : Prop := ∀ a, o = some a → P a (st ρ)
/-- a body that returns -/
def PR (enc : α → D) (v : α) (r : R (Fl × Rho)) : Prop := ∃ ρ', r = .ok (.rt (.fz (enc v)), ρ')
/-- a block that goes on -/
def PI (I : α → Rho → Prop) (s : α) (r : R (Fl × Rho)) : Prop := ∃ ρ', r = .ok (.nx, ρ') ∧ I s ρ'
/-- a loop's body that goes on or breaks -/
def PB (I : α → Rho → Prop) (s : Bool × α) (r : R (Fl × Rho)) : Prop := ∃ ρ', r = .ok (if s.1 then .bk else .nx, ρ') ∧ I s.2 ρ'
variable {st s1 s2 rest fb : Es} {ρ ρ1 : Rho} {o oa ob : Option α} {P : α → R (Fl × Rho) → Prop} {enc : α → D} {I : α → Rho → Prop} {t tc : Et} {b g : Bool}
theorem js_gd (h : g = true → JS st ρ o P) : JS st ρ (gd g o) P := fun a e => by
  cases g with
  | true => exact h rfl a e
  | false => cases e
theorem js_bd {o : Option β} {k : β → Option α} (h : ∀ x, o = some x → JS st ρ (k x) P) : JS st ρ (bd o k) P := fun a e => by
  cases o with
  | none => cases e
  | some x => exact h x rfl a e
theorem js_lt {v : β} {k : β → Option α} (h : ∀ x, v = x → JS st ρ (k x) P) : JS st ρ (lt v k) P := h v rfl
theorem js_no : JS st ρ (none : Option α) P := fun _ e => by cases e
theorem js_st (e : st ρ = .ok (.nx, ρ1)) (n : JS rest ρ1 o P) : JS (sSeq st rest) ρ o P := fun a h => by
  have q := n a h
  have r : sSeq st rest ρ = rest ρ1 := v_seq e rfl
  rw [r]
  exact q
theorem js_ret {f : Ev} {v : α} (e : f ρ = .ok (.fz (enc v), ρ1)) : JS (sRet f) ρ (some v) (PR enc) := fun a h => by
  cases h
  exact ⟨ρ1, v_ret e rfl⟩
theorem js_end {s : α} (e : st ρ = .ok (.nx, ρ1)) (h : I s ρ1) : JS st ρ (some s) (PI I) := fun a q => by
  cases q
  exact ⟨ρ1, e, h⟩
theorem js_endB {s : α} (e : st ρ = .ok (.nx, ρ1)) (h : I s ρ1) : JS st ρ (some (false, s)) (PB I) := fun a q => by
  cases q
  exact ⟨ρ1, e, h⟩
/-- if t: return .. -/
theorem js_ifR (ht : t ρ = .ok (b, ρ)) (ha : b = true → JS s1 ρ oa (PR enc)) (hb : b = false → JS rest ρ ob (PR enc)) : JS (sSeq (sIf t s1 sNil) rest) ρ (if b then oa else ob) (PR enc) := fun a h => by
  cases b with
  | true =>
    obtain ⟨ρ', e⟩ := ha rfl a h
    exact ⟨ρ', v_seqR (v_sifT ht e)⟩
  | false =>
    have q := hb rfl a h
    have r : sSeq (sIf t s1 sNil) rest ρ = rest ρ := v_seq (v_sifF ht rfl) rfl
    rw [r]
    exact q
/-- if t: return ..; else: return .. at the end -/
theorem js_ifE (ht : t ρ = .ok (b, ρ)) (ha : b = true → JS s1 ρ oa P) (hb : b = false → JS s2 ρ ob P) : JS (sIf t s1 s2) ρ (if b then oa else ob) P := fun a h => by
  cases b with
  | true =>
    have q := ha rfl a h
    have r : sIf t s1 s2 ρ = s1 ρ := v_sifT ht rfl
    rw [r]
    exact q
  | false =>
    have q := hb rfl a h
    have r : sIf t s1 s2 ρ = s2 ρ := v_sifF ht rfl
    rw [r]
    exact q
theorem v_seqBk {s : Es} {ρ1 : Rho} (h : s ρ = .ok (.bk, ρ1)) : sSeq s rest ρ = .ok (.bk, ρ1) := by
  show seqK rest (s ρ) = _
  rw [h]
  rfl
/-- if t: break -/
theorem js_ifB {s : α} (ht : t ρ = .ok (b, ρ)) (ha : b = true → I s ρ) {ob : Option (Bool × α)} (hb : b = false → JS rest ρ ob (PB I)) : JS (sSeq (sIf t sBrk sNil) rest) ρ (if b then some (true, s) else ob) (PB I) := fun a h => by
  cases b with
  | true =>
    cases h
    exact ⟨ρ, v_seqBk (v_sifT ht rfl), ha rfl⟩
  | false =>
    have q := hb rfl a h
    have r : sSeq (sIf t sBrk sNil) rest ρ = rest ρ := v_seq (v_sifF ht rfl) rfl
    rw [r]
    exact q
theorem js_ifM {J : β → Rho → Prop} {oa ob : Option β} {k : β → Option α} (ht : t ρ = .ok (b, ρ)) (ha : b = true → JS s1 ρ oa (PI J)) (hb : b = false → JS s2 ρ ob (PI J)) (n : ∀ s ρ', J s ρ' → JS rest ρ' (k s) P) :
    JS (sSeq (sIf t s1 s2) rest) ρ (bd (if b then oa else ob) k) P := js_bd fun s hs => by
  cases b with
  | true =>
    obtain ⟨ρ', e, h⟩ := ha rfl s hs
    exact js_st (v_sifT ht e) (n s ρ' h)
  | false =>
    obtain ⟨ρ', e, h⟩ := hb rfl s hs
    exact js_st (v_sifF ht e) (n s ρ' h)
/-! loops -/
def aFor (body : Int → α → Option α) : Nat → Int → α → Option α
  | 0, _, s => some s
  | n + 1, i, s => match body i s with
    | some s' => aFor body n (i + 1) s'
    | none => none
def aForB (body : Int → α → Option (Bool × α)) : Nat → Int → α → Option α
  | 0, _, s => some s
  | n + 1, i, s => match body i s with
    | some (true, s') => some s'
    | some (false, s') => aForB body n (i + 1) s'
    | none => none
def aWh (c : α → Option Bool) (body : α → Option α) : Nat → α → Option α
  | 0, _ => none
  | n + 1, s => match c s with
    | some true => match body s with
      | some s' => aWh c body n s'
      | none => none
    | some false => some s
    | none => none
theorem rangeD_succ (i : Int) (n : Nat) : rangeD i (n + 1) = .int i :: rangeD (i + 1) n := by
  unfold rangeD
  rw [List.range_succ_eq_map, List.map_cons, List.map_map]
  congr 1
  · rw [show ((0 : Nat) : Int) = 0 from rfl, Int.add_zero]
  · apply List.map_congr_left
    intro k _
    show D.int (i + ((k + 1 : Nat) : Int)) = D.int (i + 1 + (k : Int))
    congr 1
    omega
theorem for_go {tg : Tg} {bf : Int → α → Option α} (hb : ∀ i s ρ', I s ρ' → ∃ ρ1, bindT tg (.int i) ρ' = some ρ1 ∧ JS fb ρ1 (bf i s) (PI I)) : ∀ (n : Nat) (i : Int) (s a : α) (ρ : Rho), I s ρ → aFor bf n i s = some a → ∃ ρ', forGo tg fb (rangeD i n) ρ = .ok (.nx, ρ') ∧ I a ρ'
  | 0, i, s, a, ρ, h, e => by cases e; exact ⟨ρ, rfl, h⟩
  | n + 1, i, s, a, ρ, h, e => by
    obtain ⟨ρ1, e1, j⟩ := hb i s ρ h
    rw [aFor] at e
    cases hs : bf i s with
    | none => rw [hs] at e; cases e
    | some s' =>
      rw [hs] at e
      obtain ⟨ρ2, e2, h2⟩ := j s' hs
      obtain ⟨ρ3, e3, h3⟩ := for_go hb n (i + 1) s' a ρ2 h2 e
      refine ⟨ρ3, ?_, h3⟩
      rw [rangeD_succ]
      exact forGo_nx e1 e2 e3
theorem for_goB {tg : Tg} {bf : Int → α → Option (Bool × α)} (hb : ∀ i s ρ', I s ρ' → ∃ ρ1, bindT tg (.int i) ρ' = some ρ1 ∧ JS fb ρ1 (bf i s) (PB I)) : ∀ (n : Nat) (i : Int) (s a : α) (ρ : Rho), I s ρ → aForB bf n i s = some a → ∃ ρ', forGo tg fb (rangeD i n) ρ = .ok (.nx, ρ') ∧ I a ρ'
  | 0, i, s, a, ρ, h, e => by cases e; exact ⟨ρ, rfl, h⟩
  | n + 1, i, s, a, ρ, h, e => by
    obtain ⟨ρ1, e1, j⟩ := hb i s ρ h
    rw [aForB] at e
    cases hs : bf i s with
    | none => rw [hs] at e; cases e
    | some q =>
      obtain ⟨w, s'⟩ := q
      rw [hs] at e
      obtain ⟨ρ2, e2, h2⟩ := j (w, s') hs
      rw [rangeD_succ]
      cases w with
      | true =>
        cases e
        refine ⟨ρ2, ?_, h2⟩
        rw [forGo, e1]
        simp only []
        rw [e2]
        rfl
      | false =>
        obtain ⟨ρ3, e3, h3⟩ := for_goB hb n (i + 1) s' a ρ2 h2 e
        exact ⟨ρ3, forGo_nx e1 e2 e3, h3⟩
theorem js_for {J : β → Rho → Prop} {tg : Tg} {fi : Ei} {lo : Int} {n : Nat} {s0 : β} {bf : Int → β → Option β} {k : β → Option α} (hi : fi ρ = .ok (rangeD lo n, ρ)) (h0 : J s0 ρ) (hb : ∀ i s ρ', J s ρ' → ∃ ρ1, bindT tg (.int i) ρ' = some ρ1 ∧ JS fb ρ1 (bf i s) (PI J))
    (nx : ∀ s ρ', J s ρ' → JS rest ρ' (k s) P) : JS (sSeq (sFor fi tg fb) rest) ρ (bd (aFor bf n lo s0) k) P := js_bd fun s hs => by
  obtain ⟨ρ', e, h⟩ := for_go hb n lo s0 s ρ h0 hs
  exact js_st (v_for hi e) (nx s ρ' h)
theorem js_forB {J : β → Rho → Prop} {tg : Tg} {fi : Ei} {lo : Int} {n : Nat} {s0 : β} {bf : Int → β → Option (Bool × β)} {k : β → Option α} (hi : fi ρ = .ok (rangeD lo n, ρ)) (h0 : J s0 ρ) (hb : ∀ i s ρ', J s ρ' → ∃ ρ1, bindT tg (.int i) ρ' = some ρ1 ∧ JS fb ρ1 (bf i s) (PB J))
    (nx : ∀ s ρ', J s ρ' → JS rest ρ' (k s) P) : JS (sSeq (sFor fi tg fb) rest) ρ (bd (aForB bf n lo s0) k) P := js_bd fun s hs => by
  obtain ⟨ρ', e, h⟩ := for_goB hb n lo s0 s ρ h0 hs
  exact js_st (v_for hi e) (nx s ρ' h)
theorem wh_go {c : α → Option Bool} {bf : α → Option α} (hc : ∀ s ρ' b, I s ρ' → c s = some b → tc ρ' = .ok (b, ρ')) (hb : ∀ s ρ', I s ρ' → JS fb ρ' (bf s) (PI I)) : ∀ (n : Nat) (s a : α) (ρ : Rho), I s ρ → aWh c bf n s = some a → ∃ ρ', whGo tc fb n ρ = .ok (.nx, ρ') ∧ I a ρ'
  | 0, s, a, ρ, h, e => by cases e
  | n + 1, s, a, ρ, h, e => by
    rw [aWh] at e
    rw [whGo]
    cases hcs : c s with
    | none => rw [hcs] at e; cases e
    | some b =>
      rw [hcs] at e
      rw [hc s ρ b h hcs]
      cases b with
      | false => cases e; exact ⟨ρ, rfl, h⟩
      | true =>
        simp only [] at e ⊢
        cases hs : bf s with
        | none => rw [hs] at e; cases e
        | some s' =>
          rw [hs] at e
          obtain ⟨ρ2, e2, h2⟩ := hb s ρ h s' hs
          rw [e2]
          exact wh_go hc hb n s' a ρ2 h2 e
theorem js_wh {J : β → Rho → Prop} {N n : Nat} {s0 : β} {c : β → Option Bool} {bf : β → Option β} {k : β → Option α} (hn : n ≤ N) (h0 : J s0 ρ) (hc : ∀ s ρ' b, J s ρ' → c s = some b → tc ρ' = .ok (b, ρ')) (hb : ∀ s ρ', J s ρ' → JS fb ρ' (bf s) (PI J))
    (nx : ∀ s ρ', J s ρ' → JS rest ρ' (k s) P) : JS (sSeq (sWhile N tc fb) rest) ρ (bd (aWh c bf n s0) k) P := js_bd fun s hs => by
  obtain ⟨ρ', e, h⟩ := wh_go hc hb n s0 s ρ h0 hs
  exact js_st (show whGo tc fb N ρ = _ from whGo_mono hn e) (nx s ρ' h)
theorem out_eq {F : R PV} {r : R (Fl × Rho)} {v : α} (e : F = outF r) (h : PR enc v r) : F = .ok (.fz (enc v)) := by
  obtain ⟨ρ', e'⟩ := h
  rw [e, e']
  rfl
/-- c s guarded: g s is what must hold -/
theorem gd_some {g : Bool} {o : Option α} {a : α} (h : gd g o = some a) : g = true ∧ o = some a := by
  cases g with
  | true => exact ⟨rfl, h⟩
  | false => cases h
theorem bd_some {o : Option β} {k : β → Option α} {a : α} (h : bd o k = some a) : ∃ b, o = some b ∧ k b = some a := by
  cases o with
  | none => cases h
  | some b => exact ⟨b, rfl, h⟩
theorem an1 {a b : Bool} (h : (a && b) = true) : a = true := by
  cases a
  · cases h
  · rfl
theorem an2 {a b : Bool} (h : (a && b) = true) : b = true := by
  cases a
  · cases h
  · exact h
theorem vi {f : Ev} {ρ : Rho} {x y : Int} (h : f ρ = .ok (.fz (.int x), ρ)) (e : x = y) : f ρ = .ok (.fz (.int y), ρ) := by
  subst e
  exact h
theorem js_ifF {s1 : Es} {oa : Option α} (ht : t ρ = .ok (b, ρ)) (hb : b = false → JS rest ρ oa P) : JS (sSeq (sIf t s1 sNil) rest) ρ (if b then none else oa) P := fun a h => by
  cases b with
  | true => cases h
  | false =>
    have q := hb rfl a h
    have r : sSeq (sIf t s1 sNil) rest ρ = rest ρ := v_seq (v_sifF ht rfl) rfl
    rw [r]
    exact q
theorem js_ifF1 {s1 : Es} {oa : Option α} (ht : t ρ = .ok (b, ρ)) (hb : b = false → JS sNil ρ oa P) : JS (sIf t s1 sNil) ρ (if b then none else oa) P := fun a h => by
  cases b with
  | true => cases h
  | false =>
    have q := hb rfl a h
    have r : sIf t s1 sNil ρ = sNil ρ := v_sifF ht rfl
    rw [r]
    exact q
theorem js_skF {s1 : Es} (ht : t ρ = .ok (false, ρ)) (h : JS rest ρ o P) : JS (sSeq (sIf t s1 sNil) rest) ρ o P := fun a e => by
  have q := h a e
  have r : sSeq (sIf t s1 sNil) rest ρ = rest ρ := v_seq (v_sifF ht rfl) rfl
  rw [r]
  exact q
theorem js_skT {s1 s2 : Es} (ht : t ρ = .ok (true, ρ)) (h : JS s1 ρ o (PR enc)) : JS (sSeq (sIf t s1 s2) rest) ρ o (PR enc) := fun a e => by
  obtain ⟨ρ', q⟩ := h a e
  exact ⟨ρ', v_seqR (v_sifT ht q)⟩
/-! loops over a few things, one by one -/
def GoJ (tg : Tg) (fb : Es) (ds : List D) (rest : Es) (ρ : Rho) (o : Option α) (P : α → R (Fl × Rho) → Prop) : Prop := ∀ a, o = some a → ∃ ρ', forGo tg fb ds ρ = .ok (.nx, ρ') ∧ P a (rest ρ')
theorem js_forU {tg : Tg} {fi : Ei} {ds : List D} (hi : fi ρ = .ok (ds, ρ)) (h : GoJ tg fb ds rest ρ o P) : JS (sSeq (sFor fi tg fb) rest) ρ o P := fun a e => by
  obtain ⟨ρ', e1, e2⟩ := h a e
  have r : sSeq (sFor fi tg fb) rest ρ = rest ρ' := v_seq (v_for hi e1) rfl
  rw [r]
  exact e2
theorem go_nil {tg : Tg} (h : JS rest ρ o P) : GoJ tg fb [] rest ρ o P := fun a e => ⟨ρ, rfl, h a e⟩
theorem go_cons {J : β → Rho → Prop} {tg : Tg} {d : D} {ds : List D} {o1 : Option β} {k : β → Option α} (e : bindT tg d ρ = some ρ1) (h : JS fb ρ1 o1 (PI J)) (n : ∀ s ρ', J s ρ' → GoJ tg fb ds rest ρ' (k s) P) : GoJ tg fb (d :: ds) rest ρ (bd o1 k) P := fun a q => by
  obtain ⟨s, q1, q2⟩ := bd_some q
  obtain ⟨ρ2, e2, h2⟩ := h s q1
  obtain ⟨ρ3, e3, h3⟩ := n s ρ2 h2 a q2
  exact ⟨ρ3, forGo_nx e e2 e3, h3⟩
theorem seq_nil {s : Es} {ρ : Rho} : sSeq s sNil ρ = s ρ := by
  show seqK sNil (s ρ) = s ρ
  cases h : s ρ with
  | no => rfl
  | exc x => rfl
  | ok p =>
    obtain ⟨fl, ρ1⟩ := p
    cases fl <;> rfl
/-! a law's turn -/
def JN (st : Es) (ρ : Rho) (P : Rho → Prop) : Prop := ∃ ρ2, st ρ = .ok (.nx, ρ2) ∧ P ρ2
theorem jn_st {P : Rho → Prop} (e : st ρ = .ok (.nx, ρ1)) (n : JN rest ρ1 P) : JN (sSeq st rest) ρ P := by
  obtain ⟨ρ2, e2, h⟩ := n
  exact ⟨ρ2, v_seq e e2, h⟩
theorem jn_if {P : Rho → Prop} {body : Es} (ht : t ρ = .ok (b, ρ)) (hT : b = true → JN body ρ fun ρ' => JN rest ρ' P) (hF : b = false → JN rest ρ P) : JN (sSeq (sIf t body sNil) rest) ρ P := by
  cases b with
  | true =>
    obtain ⟨ρ1, e1, ρ2, e2, h⟩ := hT rfl
    exact ⟨ρ2, v_seq (v_sifT ht e1) e2, h⟩
  | false => exact jn_st (v_sifF ht rfl) (hF rfl)
theorem jn_end {P : Rho → Prop} (e : st ρ = .ok (.nx, ρ1)) (n : P ρ1) : JN st ρ P := ⟨ρ1, e, n⟩
end
section
variable {a b c : Ev} {ρ : Rho}
theorem v_chS {x y z : Int} {g g' : D → D → Option PV} {b1 b2 : Bool} (h1 : a ρ = .ok (.fz (.int x), ρ)) (h2 : b ρ = .ok (.fz (.int y), ρ)) (h3 : c ρ = .ok (.fz (.int z), ρ)) (e1 : g (.int x) (.int y) = some (.fz (.bl b1))) (e2 : g' (.int y) (.int z) = some (.fz (.bl b2))) : eChain g g' a b c ρ = .ok (.fz (.bl (b1 && b2)), ρ) := by
  cases b1 with
  | true => exact v_ch h1 h2 rfl rfl e1 h3 rfl rfl e2
  | false =>
    unfold eChain
    rw [h1]
    show (b ρ).bind _ = _
    rw [h2]
    show (opV g (.fz (.int x)) (.fz (.int y)) ρ).bind (chK g' c (.fz (.int y))) = _
    unfold opV
    simp only [look]
    rw [e1]
    rfl
end
/-! ### lists -/
abbrev rD (r : Int × Int) : D := .obj 3 [.int r.1, .int r.2]
abbrev RL (xs : List (Int × Int)) : List D := xs.map rD
abbrev BL (xs : List Bool) : List D := xs.map .bl
theorem dz {i n : Int} (h0 : 0 ≤ i) (h1 : i < n) : (decide (0 ≤ i) && decide (i < n)) = true := by
  rw [Bool.and_eq_true]
  exact ⟨decide_eq_true h0, decide_eq_true h1⟩
theorem ixN_c {n : Nat} {i : Int} (h : (decide (0 ≤ i) && decide (i < (n : Int))) = true) : ixN n i = some i.toNat := by
  rw [Bool.and_eq_true] at h
  have h0 := of_decide_eq_true h.1
  have h1 := of_decide_eq_true h.2
  unfold ixN
  simp [h0, h1]
theorem ix_gen {α : Type} {enc : α → D} {xs : List α} {i : Int} (d : α) (h : (decide (0 ≤ i) && decide (i < (xs.length : Int))) = true) : ((ixN (xs.map enc).length i).bind fun j => (xs.map enc)[j]?).map PV.fz = some (.fz (enc (xs.getD i.toNat d))) := by
  rw [List.length_map, ixN_c h]
  rw [Bool.and_eq_true] at h
  have h0 := of_decide_eq_true h.1
  have h1 := of_decide_eq_true h.2
  have hl : i.toNat < xs.length := by omega
  simp [List.getD, hl]
theorem ix_cT {xs : List Int} {i n : Int} (e : (xs.length : Int) = n) (h : (decide (0 ≤ i) && decide (i < n)) = true) : gIx (.tup (IL xs)) (.int i) = some (.fz (.int (xs.getD i.toNat 0))) := by
  subst e
  exact ix_gen 0 h
theorem ix_cL {xs : List Int} {i n : Int} (e : (xs.length : Int) = n) (h : (decide (0 ≤ i) && decide (i < n)) = true) : gIx (.lst (IL xs)) (.int i) = some (.fz (.int (xs.getD i.toNat 0))) := by
  subst e
  exact ix_gen 0 h
theorem ix_rT {xs : List (Int × Int)} {i : Int} (h : (decide (0 ≤ i) && decide (i < (xs.length : Int))) = true) : gIx (.tup (RL xs)) (.int i) = some (.fz (rD (xs.getD i.toNat (0, 1)))) := ix_gen (0, 1) h
theorem ix_rL {xs : List (Int × Int)} {i : Int} (h : (decide (0 ≤ i) && decide (i < (xs.length : Int))) = true) : gIx (.lst (RL xs)) (.int i) = some (.fz (rD (xs.getD i.toNat (0, 1)))) := ix_gen (0, 1) h
theorem all_L {xs : List Bool} : gAll (.lst (BL xs)) = some (.fz (.bl (xs.all id))) := by
  show (blsD (BL xs)).map _ = _
  rw [blsD_map]
  rfl
theorem any_L {xs : List Bool} : gAny (.lst (BL xs)) = some (.fz (.bl (xs.any id))) := by
  show (blsD (BL xs)).map _ = _
  rw [blsD_map]
  rfl
theorem len_Ti (xs : List Int) : gLen (.tup (IL xs)) = some (.fz (.int (xs.length : Int))) := by
  show some (PV.fz (D.int ((IL xs).length : Nat))) = _
  rw [List.length_map]
theorem len_Li (xs : List Int) : gLen (.lst (IL xs)) = some (.fz (.int (xs.length : Int))) := by
  show some (PV.fz (D.int ((IL xs).length : Nat))) = _
  rw [List.length_map]
theorem len_Tr (xs : List (Int × Int)) : gLen (.tup (RL xs)) = some (.fz (.int (xs.length : Int))) := by
  show some (PV.fz (D.int ((RL xs).length : Nat))) = _
  rw [List.length_map]
theorem len_Lr (xs : List (Int × Int)) : gLen (.lst (RL xs)) = some (.fz (.int (xs.length : Int))) := by
  show some (PV.fz (D.int ((RL xs).length : Nat))) = _
  rw [List.length_map]
def aLc {α : Type} (f : Int → Option α) : Nat → Int → Option (List α)
  | 0, _ => some []
  | n + 1, i => match f i with
    | some v => match aLc f n (i + 1) with
      | some vs => some (v :: vs)
      | none => none
    | none => none
theorem lc_goS {α : Type} {enc : α → D} {t : Tg} {fe : Ev} {vs : List Nat} {f : Int → Option α} {ρw : Rho} (h5 : ∀ i v, f i = some v → ∃ ρa ρb, bindT t (.int i) ρw = some ρa ∧ fe ρa = .ok (.fz (enc v), ρb) ∧ wipeR ρb vs = ρw) :
    ∀ (n : Nat) (i : Int) (xs : List α), aLc f n i = some xs → lcGo t tYesF fe vs (rangeD i n) ρw = .ok (xs.map enc, ρw)
  | 0, i, xs, h => by cases h; rfl
  | n + 1, i, xs, h => by
    rw [aLc] at h
    cases hf : f i with
    | none => rw [hf] at h; cases h
    | some v =>
      rw [hf] at h
      simp only [] at h
      cases hr : aLc f n (i + 1) with
      | none => rw [hr] at h; cases h
      | some ys =>
        rw [hr] at h
        cases h
        obtain ⟨ρa, ρb, e1, e2, e3⟩ := h5 i v hf
        rw [rangeD_succ, lcGo, e1]
        simp only [tYesF]
        rw [e2]
        simp only [useV]
        rw [e3, lc_goS h5 n (i + 1) ys hr]
        rfl
theorem v_lcS {α : Type} {enc : α → D} {fi : Ei} {t : Tg} {fe : Ev} {vs : List Nat} {ρ ρw : Rho} {f : Int → Option α} {lo : Int} {n : Nat} {xs : List α} (h1 : fi ρ = .ok (rangeD lo n, ρ)) (h2 : noOwn ρ vs = true) (g : szOk n = true) (h4 : wipeR ρ vs = ρw)
    (h5 : ∀ i v, f i = some v → ∃ ρa ρb, bindT t (.int i) ρw = some ρa ∧ fe ρa = .ok (.fz (enc v), ρb) ∧ wipeR ρb vs = ρw) (h6 : backR ρw ρ vs = ρ) (h : aLc f n lo = some xs) : eLc vs fi t tYesF fe ρ = .ok (.fr (xs.map enc), ρ) := by
  show (fi ρ).bind _ = _
  rw [h1]
  show lcK vs t tYesF fe (rangeD lo n, ρ) = _
  unfold lcK
  simp only []
  rw [if_pos (by rw [Bool.and_eq_true, h2, rangeD_length]; exact ⟨rfl, g⟩), h4, lc_goS h5 n lo xs h]
  show R.ok (PV.fr (xs.map enc), backR ρw ρ vs) = _
  rw [h6]
theorem v_app {α : Type} {enc : α → D} {j : Nat} {f : Ev} {c : Bool} {xs : List α} {v : α} {ρ ρ1 : Rho} (h0 : ρ[j]? = some (.ow c (xs.map enc))) (h : f ρ = .ok (.fz (enc v), ρ)) (g : szOk (xs.map enc).length = true) (e : ρ.set j (.ow c ((xs ++ [v]).map enc)) = ρ1) : sApp j f ρ = .ok (.nx, ρ1) := by
  refine v_sapp h0 h ?_
  show (match ρ[j]? with
    | some (.ow c xs) => if szOk xs.length then R.ok (Fl.nx, ρ.set j (.ow c (xs ++ [enc v]))) else .no
    | _ => .no) = _
  rw [h0]
  simp only []
  rw [if_pos g, ← e, List.map_append]
  rfl
theorem v_appi {j : Nat} {f : Ev} {c : Bool} {xs : List Int} {v : Int} {ρ ρ1 : Rho} (h0 : ρ[j]? = some (.ow c (IL xs))) (h : f ρ = .ok (.fz (.int v), ρ)) (g : szOk (IL xs).length = true) (e : ρ.set j (.ow c (IL (xs ++ [v]))) = ρ1) : sApp j f ρ = .ok (.nx, ρ1) := v_app (enc := D.int) h0 h g e
theorem v_appr {j : Nat} {f : Ev} {c : Bool} {xs : List (Int × Int)} {v : Int × Int} {ρ ρ1 : Rho} (h0 : ρ[j]? = some (.ow c (RL xs))) (h : f ρ = .ok (.fz (rD v), ρ)) (g : szOk (RL xs).length = true) (e : ρ.set j (.ow c (RL (xs ++ [v]))) = ρ1) : sApp j f ρ = .ok (.nx, ρ1) := v_app (enc := rD) h0 h g e
end Rf
end
section
set_option Elab.async false
set_option linter.all false
set_option maxRecDepth 100000
set_option maxHeartbeats 4000000
/-! Rf, part U: sum of a tuple of ints. -/
namespace L2
open PySem PySem.Spec PyProof.Rows
section
variable {prog : Program} {w : World} {A : Around} {E : Value → Shared → Prop} {s : Shared}
theorem preSum_getD (ns : List Int) : ∀ n, n ≤ ns.length → PySem.preSum (fun j => ns.getD j 0) n = (ns.take n).sum
  | 0, _ => rfl
  | n + 1, h => by
    have e : ns.take (n + 1) = ns.take n ++ [ns[n]] := by rw [List.take_append_getElem]
    rw [PySem.preSum, preSum_getD ns n (by omega), e, List.sum_append]
    simp [List.getD, List.getElem?_eq_getElem (show n < ns.length by omega)]
theorem sumT_raw {t : Addr} {its : List Value} {ns : List Int} {Q : Value → Shared → Prop} (hh : A.handled = none) (hl : s.heap.IsTuple t its.toArray) (hv : Vals (ns.map V.int) its)
    (h : ∀ h' tk t', (∀ b o, s.heap.get? b = some o → h'.get? b = some o) → Q (.int ns.sum t') { s with heap := h', toks := tk }) : wpAny (model prog w) A (call (.builtin "sum") [.ref t]) Q E s := by
  have ll : t < s.heap.objs.size := by obtain ⟨o, ho, _⟩ := hl; exact Heap.lt_size ho
  have hlen : its.length = ns.length := by rw [← hv.length, List.length_map]
  refine call_sum_walkG (wpAny_pyIter_tuple hl ?_)
  have h0 : (s.heap.push { cls := .type "tuple_iterator", data := .fields #[.ref t, .int 0 0] }).get? s.heap.objs.size = some { cls := .type "tuple_iterator", data := .fields #[.ref t, .int 0 0] } := Heap.get?_push_size _ rfl
  have hT : (s.heap.push { cls := .type "tuple_iterator", data := .fields #[.ref t, .int 0 0] }).IsTuple t its.toArray := hl.at fun o e => Heap.get?_push_of_some _ e
  refine ⟨_, _, _, _, _, _, fun j => ns.getD j 0, rfl, Walks.tuple (A := A.in1) hh s.heap.objs.size t (Nat.ne_of_lt ll) its.toArray, ⟨⟨_, h0, rfl, rfl⟩, hT⟩, fun b hb => ?_, fun i v hi => ?_, fun h' tk t' hk => ?_⟩
  · rcases List.mem_cons.mp hb with rfl | hb
    · exact Heap.lt_size h0
    · rw [List.mem_singleton.mp hb]
      obtain ⟨o, ho, _⟩ := hT
      exact Heap.lt_size ho
  · have hi' : its[i]? = some v := by simpa using hi
    have lt : i < its.length := (List.getElem?_eq_some_iff.mp hi').1
    have ln : i < ns.length := by omega
    have hx : (ns.map V.int)[i]? = some (V.int (ns[i])) := by rw [List.getElem?_map, List.getElem?_eq_getElem ln]; rfl
    obtain ⟨u, hu, ru⟩ := hv.get hx
    rw [hi'] at hu
    cases hu
    obtain ⟨tk, e⟩ := (show ∃ t, v = Value.int (ns[i]) t from ru)
    exact ⟨tk, by rw [e]; simp [List.getD, List.getElem?_eq_getElem ln]⟩
  · have e : PySem.preSum (fun j => ns.getD j 0) its.toArray.size = ns.sum := by
      rw [List.size_toArray, preSum_getD ns _ (by omega), List.take_of_length_le (by omega)]
    rw [e]
    exact h h' tk t' fun b o e => hk b o (fun hm => Nat.ne_of_lt (Heap.lt_size e) (List.mem_singleton.mp hm)) (Heap.get?_push_of_some _ e)
end
section
variable {X : Cx}
def rSumT (K : PySem.W.Frag) : List V → Hp → VK → Prop := fun vs H Q => (∃ (a : Addr) (ns : List Int), vs = [V.ref a] ∧ SqT K H a (ns.map V.int) ∧ Q (.int ns.sum) H) ∨ rSum K vs H Q
theorem cr_sumT (hc : X.calm = true) : CallR X (.builtin "sum") (rSumT X.K) := by
  intro pins s σ H vs us Q I r h
  rcases h with h | h
  · obtain ⟨a, ns, rfl, hs, q⟩ := h
    obtain ⟨its, rv, hl, _⟩ := I.tuple hs
    rw [Vals.ref1 r]
    exact sumT_raw (I.ok.hd hc) hl rv fun h' tk t' hk => ⟨.int _, H, I.kept hk, ⟨_, rfl⟩, q⟩
  · exact cr_sum hc pins s σ H vs us Q I r h
end
end L2
namespace Rf
open PySem PySem.Spec PyProof.Rows L2
def gSum2 : D → Option PV
  | .tup xs => (intsD xs).map fun ns => .fz (.int ns.sum)
  | d => gSum d
section
variable {K : PySem.W.Frag} {G : Wd}
theorem uns_sum2 : UnS K G (fun x H Q => rSumT K [x] H Q) gSum2 := by
  intro Z H da x pv Q s ha hg q
  unfold gSum2 at hg
  split at hg
  · rename_i xs
    rw [Option.map_eq_some_iff] at hg
    obtain ⟨ns, hn, rfl⟩ := hg
    obtain ⟨a, vs, rfl, sa, ra⟩ := pk_tup ha
    have e := intsD_eq hn
    subst e
    rw [RepL.ints ra] at sa
    exact .inl ⟨a, ns, rfl, Same.seqT s sa, q _ _ _ (.same rfl)⟩
  · exact .inr (uns_sum Z H da x pv Q s ha hg q)
end
theorem sum_T {xs : List Int} : gSum2 (.tup (IL xs)) = some (.fz (.int xs.sum)) := by
  show (intsD (IL xs)).map _ = _
  rw [intsD_map]
  rfl
theorem sum_L {xs : List Int} : gSum2 (.lst (IL xs)) = some (.fz (.int xs.sum)) := sum_map
end Rf
end
section
set_option Elab.async false
set_option linter.all false
set_option maxRecDepth 100000
set_option maxHeartbeats 4000000
/-! Rf, part W: blocks with draws, comprehensions with a test, == of rows of ints. -/
namespace Rf
open PySem PySem.Spec PyProof.Rows L2
def PF (c : Cell) : Prop := isOw (some c) = false
theorem pf_fz {d : D} : PF (.fz d) := rfl
theorem pf_un : PF .un := rfl
theorem pf_pl {c : Cell} (h : PF c) : PL c := by
  cases c with
  | ow b xs => cases h
  | _ => rfl
theorem noOwn1 {ρ : Rho} {i : Nat} {c : Cell} (h : ρ[i]? = some c) (hp : PF c) : noOwn ρ [i] = true := by
  unfold noOwn noOwn
  rw [h]
  cases c with
  | ow b xs => cases hp
  | _ => rfl
/-! comprehensions with a test -/
def aLcF {α : Type} (f : Int → Option (Option α)) : Nat → Int → Option (List α)
  | 0, _ => some []
  | n + 1, i => match f i with
    | some none => aLcF f n (i + 1)
    | some (some v) => match aLcF f n (i + 1) with
      | some vs => some (v :: vs)
      | none => none
    | none => none
theorem lcF_fin {α : Type} {b : Bool} {x : α} {v : Option α} {enc : α → D} {fe : Ev} {vs : List Nat} {ρa ρw : Rho} (hv : (if b then some (some x) else some none) = some v) (hw : wipeR ρa vs = ρw) (e : ∃ ρb, fe ρa = .ok (.fz (enc x), ρb) ∧ wipeR ρb vs = ρw) :
    (b = false ∧ v = none ∧ wipeR ρa vs = ρw) ∨ ∃ y ρb, b = true ∧ v = some y ∧ fe ρa = .ok (.fz (enc y), ρb) ∧ wipeR ρb vs = ρw := by
  cases b with
  | false => cases hv; exact .inl ⟨rfl, rfl, hw⟩
  | true =>
    cases hv
    obtain ⟨ρb, e1, e2⟩ := e
    exact .inr ⟨x, ρb, rfl, rfl, e1, e2⟩
theorem lc_goF {α : Type} {enc : α → D} {t : Tg} {ft : Et} {fe : Ev} {vs : List Nat} {f : Int → Option (Option α)} {ρw : Rho}
    (h5 : ∀ i v, f i = some v → ∃ (ρa : Rho) (b : Bool), bindT t (.int i) ρw = some ρa ∧ ft ρa = .ok (b, ρa) ∧ ((b = false ∧ v = none ∧ wipeR ρa vs = ρw) ∨ ∃ y ρb, b = true ∧ v = some y ∧ fe ρa = .ok (.fz (enc y), ρb) ∧ wipeR ρb vs = ρw)) :
    ∀ (n : Nat) (i : Int) (xs : List α), aLcF f n i = some xs → lcGo t ft fe vs (rangeD i n) ρw = .ok (xs.map enc, ρw)
  | 0, i, xs, h => by cases h; rfl
  | n + 1, i, xs, h => by
    rw [aLcF] at h
    cases hf : f i with
    | none => rw [hf] at h; cases h
    | some v =>
      rw [hf] at h
      obtain ⟨ρa, b, e1, e2, e3⟩ := h5 i v hf
      rw [rangeD_succ, lcGo, e1]
      simp only []
      rw [e2]
      rcases e3 with ⟨rfl, rfl, e4⟩ | ⟨y, ρb, rfl, rfl, e4, e5⟩
      · simp only []
        rw [e4]
        exact lc_goF h5 n (i + 1) xs h
      · simp only [] at h ⊢
        cases hr : aLcF f n (i + 1) with
        | none => rw [hr] at h; cases h
        | some ys =>
          rw [hr] at h
          cases h
          rw [e4]
          simp only [useV]
          rw [e5, lc_goF h5 n (i + 1) ys hr]
          rfl
theorem v_lcF {α : Type} {enc : α → D} {fi : Ei} {t : Tg} {ft : Et} {fe : Ev} {vs : List Nat} {ρ ρw : Rho} {f : Int → Option (Option α)} {lo : Int} {n : Nat} {xs : List α} (h1 : fi ρ = .ok (rangeD lo n, ρ)) (h2 : noOwn ρ vs = true) (g : szOk n = true) (h4 : wipeR ρ vs = ρw)
    (h5 : ∀ i v, f i = some v → ∃ (ρa : Rho) (b : Bool), bindT t (.int i) ρw = some ρa ∧ ft ρa = .ok (b, ρa) ∧ ((b = false ∧ v = none ∧ wipeR ρa vs = ρw) ∨ ∃ y ρb, b = true ∧ v = some y ∧ fe ρa = .ok (.fz (enc y), ρb) ∧ wipeR ρb vs = ρw)) (h6 : backR ρw ρ vs = ρ) (h : aLcF f n lo = some xs) : eLc vs fi t ft fe ρ = .ok (.fr (xs.map enc), ρ) := by
  show (fi ρ).bind _ = _
  rw [h1]
  show lcK vs t ft fe (rangeD lo n, ρ) = _
  unfold lcK
  simp only []
  rw [if_pos (by rw [Bool.and_eq_true, h2, rangeD_length]; exact ⟨rfl, g⟩), h4, lc_goF h5 n lo xs h]
  show R.ok (PV.fr (xs.map enc), backR ρw ρ vs) = _
  rw [h6]
/-! == of rows of ints -/
theorem toPs_IL : ∀ xs : List Int, toPs (IL xs) = some (xs.map PyData.int)
  | [] => by
    show toPs [] = _
    rw [toPs.eq_def]
    rfl
  | x :: xs => by
    show toPs (.int x :: IL xs) = _
    rw [toPs.eq_def]
    simp only []
    rw [toPs_IL xs, toP.eq_def]
    rfl
theorem lay_IL : ∀ xs : List Int, PyData.canLayAll0 (xs.map PyData.int) = true ∧ PyData.depthAll (xs.map PyData.int) = 0
  | [] => by simp [PyData.canLayAll0, PyData.depthAll]
  | x :: xs => by simp [PyData.canLayAll0, PyData.depthAll, PyData.canLay0, PyData.depth, lay_IL xs]
theorem eqv_IL : ∀ xs ys : List Int, PyData.eqvAll (xs.map PyData.int) (ys.map PyData.int) = decide (xs = ys)
  | [], [] => by simp [PyData.eqvAll]
  | [], _ :: _ => by simp [PyData.eqvAll]
  | _ :: _, [] => by simp [PyData.eqvAll]
  | x :: xs, y :: ys => by
    rw [List.map_cons, List.map_cons, PyData.eqvAll, eqv_IL xs ys]
    simp [PyData.eqv]
    rfl
theorem eqD_T (xs ys : List Int) : eqD (.tup (IL xs)) (.tup (IL ys)) = some (decide (xs = ys)) := by
  show eqP _ _ = _
  simp [eqP, toP, toPs_IL, SeqAt.shaped, PyData.canLay0, PyData.depth, lay_IL, PyData.eqv, eqv_IL]
theorem eqD_L (xs ys : List Int) : eqD (.lst (IL xs)) (.lst (IL ys)) = some (decide (xs = ys)) := by
  show eqP _ _ = _
  simp [eqP, toP, toPs_IL, SeqAt.shaped, PyData.canLay0, PyData.depth, lay_IL, PyData.eqv, eqv_IL]
theorem ne_T {xs ys : List Int} (h : xs = ys) : gNe (.tup (IL xs)) (.tup (IL ys)) = some (.fz (.bl false)) := by
  unfold gNe
  rw [eqD_T]
  simp [h]
theorem ne_L {xs ys : List Int} (h : xs = ys) : gNe (.lst (IL xs)) (.lst (IL ys)) = some (.fz (.bl false)) := by
  unfold gNe
  rw [eqD_L]
  simp [h]
theorem ne_TT {xs ys : List Int} : gNe (.tup (IL xs)) (.tup (IL ys)) = some (.fz (.bl (!(decide (xs = ys))))) := by
  unfold gNe
  rw [eqD_T]
  rfl
theorem eq_TT {xs ys : List Int} : gEq (.tup (IL xs)) (.tup (IL ys)) = some (.fz (.bl (decide (xs = ys)))) := by
  unfold gEq
  rw [eqD_T]
  rfl
theorem v_ifTr {tc : Et} {fa fb : Ev} {ρ ρ1 : Rho} {r : R (PV × Rho)} (h : tc ρ = .ok (true, ρ1)) (g : fa ρ1 = r) : eIfF tc fa fb ρ = r := v_if h (by rw [if_pos rfl]; exact g)
theorem v_ifFa {tc : Et} {fa fb : Ev} {ρ ρ1 : Rho} {r : R (PV × Rho)} (h : tc ρ = .ok (false, ρ1)) (g : fb ρ1 = r) : eIfF tc fa fb ρ = r := v_if h (by rw [if_neg Bool.false_ne_true]; exact g)
/-! checks by numbers -/
def cC (v lo hi : Int) : Option Unit := if (decide (lo ≤ v) && decide (v ≤ hi)) = true then some () else none
theorem cC_some {v lo hi : Int} {u : Unit} (h : cC v lo hi = some u) : (decide (lo ≤ v) && decide (v ≤ hi)) = true := by
  unfold cC at h
  split at h
  · assumption
  · cases h
def yes1 {α : Type} (_ : α) : Option Bool := some true
def yesU {α : Type} (_ : α) : Option Unit := some ()
/-! remembered values -/
def memo (A : Int → Int → Int → Option Int) (T : Int → Int → List Int) (k p n : Int) : Option Int := if decide (0 ≤ k) then (match (T p n)[k.toNat]? with
  | some v => some v
  | none => A k p n) else A k p n
theorem memo_eq {A : Int → Int → Int → Option Int} {T : Int → Int → List Int} {KEYS : List (Int × Int)} (hk : ∀ p n, T p n ≠ [] → (p, n) ∈ KEYS)
    (tab : (KEYS.all fun q => (List.range (T q.1 q.2).length).all fun (k : Nat) => decide (A (k : Int) q.1 q.2 = (T q.1 q.2)[k]?)) = true) {k p n v : Int} (h : memo A T k p n = some v) : A k p n = some v := by
  unfold memo at h
  split at h
  · rename_i h0
    have h0 := of_decide_eq_true h0
    split at h
    · rename_i w hw
      cases h
      have ne : T p n ≠ [] := fun e => by rw [e] at hw; simp at hw
      have h1 := List.all_eq_true.1 tab _ (hk p n ne)
      have lt : k.toNat < (T p n).length := (List.getElem?_eq_some_iff.1 hw).1
      have h2 := of_decide_eq_true (List.all_eq_true.1 h1 k.toNat (List.mem_range.2 lt))
      have e : ((k.toNat : Nat) : Int) = k := by omega
      rw [e] at h2
      exact h2.trans hw
    · exact h
  · exact h
/-! values remembered in one number, eight bits a value (0: none) -/
def tget (B i : Nat) : Nat := Nat.mod (Nat.shiftRight B (Nat.mul 8 i)) 256
def memoG (A : Int × Int → Option Int) (B : Nat) (x : Int × Int) : Option Int := match x.1 + 64, x.2 with
  | .ofNat k, .ofNat d => cond (Nat.ble k 159 && Nat.ble d 13) (match tget B (Nat.add (Nat.mul 160 d) k) with
    | 0 => A x
    | v + 1 => some (Int.ofNat v)) (A x)
  | _, _ => A x
def tabG (A : Int × Int → Option Int) (B : Nat) : Bool := (List.range 14).all fun d => (List.range 160).all fun k => match tget B (Nat.add (Nat.mul 160 d) k) with
  | 0 => true
  | v + 1 => decide (A (Int.ofNat k - 64, Int.ofNat d) = some (Int.ofNat v))
theorem memoG_eq {A : Int × Int → Option Int} {B : Nat} (tab : tabG A B = true) {x : Int × Int} {v : Int} (h : memoG A B x = some v) : A x = some v := by
  obtain ⟨a, b⟩ := x
  unfold memoG at h
  dsimp only at h
  split at h
  · rename_i k d hk
    cases hb : (Nat.ble k 159 && Nat.ble d 13) with
    | false => rw [hb] at h; exact h
    | true =>
      rw [hb] at h
      simp only [Bool.and_eq_true, Nat.ble_eq] at hb
      have t := List.all_eq_true.1 (List.all_eq_true.1 tab d (List.mem_range.2 (by omega))) k (List.mem_range.2 (by omega))
      have hx : a = Int.ofNat k - 64 := by omega
      rw [hx] at h ⊢
      dsimp only [cond] at h
      split at h
      · exact h
      · rename_i w hw
        rw [hw] at t
        cases h
        exact of_decide_eq_true t
  · exact h
theorem memoG_0 {A : Int × Int → Option Int} : tabG A 0 = true := by
  unfold tabG
  have e : ∀ i, tget 0 i = 0 := fun i => by
    unfold tget
    show (0 >>> (8 * i)) % 256 = 0
    simp
  simp [e]
end Rf
end
section
set_option Elab.async false
set_option linter.all false
set_option maxRecDepth 100000
set_option maxHeartbeats 4000000
/-! Rf, part S: enumerate(zip(xs, ys)) over two lists. -/
namespace RS
open PySem
open PySem.Sem (wp)
open AutoSeq1 (wpAny_loadPart')
abbrev IsZipG (h : Heap) (z TI TO : Addr) (f0 f1 : Value) : Prop :=
  h.get? z = some { cls := .type "zip", dict := none, data := .fields #[f0, f1, .bool false, .ref TI, .ref TO], slots := #[] }
section
variable {prog : Program} {w : World} {A : Around} {E : Value → Shared → Prop} {s : Shared}
theorem dead {a : Addr} {Q : Option Obj → Shared → Prop} (ho : s.heap.get? a = none) (h : Q none s) : wpAny (model prog w) A (loadIfAlive a) Q E s := by
  have h' : Q (s.heap.get? a) s := by rw [ho]; exact h
  exact fun _ _ _ => h'
theorem free_zip {z TI TO : Addr} {f0 f1 : Value} {Q : Bool → Shared → Prop} (hz : IsZipG s.heap z TI TO f0 f1) (hf : f0 = .none ∨ ∃ T : Addr, f0 = rawInt T ∧ s.heap.get? T = none) (h : Q true s) :
    wpAny (model prog w) A (Builtin.SmallTypes.ownedTupleIsFree (.ref z)) Q E s := by
  unfold Builtin.SmallTypes.ownedTupleIsFree
  rcases hf with rfl | ⟨T, rfl, hT⟩
  · exact wpAny_bind (wpAny_field hz rfl (x := .none) rfl (wpAny_pure h))
  · refine wpAny_bind (wpAny_field hz rfl (x := rawInt T) rfl ?_)
    show wpAny _ _ (loadIfAlive ((T : Int).toNat) >>= _) _ _ _
    rw [Int.toNat_natCast]
    refine wpAny_bind (dead hT ?_)
    simp only [Option.isNone_none, if_true]
    exact wpAny_pure h
theorem zipG_next_item {z TI TO i1 i2 l1 l2 : Addr} {f0 f1 : Value} {k1 k2 : Nat} {xs ys : Array Value} {x y a b : Value} {Q : Value → Shared → Prop} (D : ZipApart z TI TO i1 i2 l1 l2)
    (hz : IsZipG s.heap z TI TO f0 f1) (hf : f0 = .none ∨ ∃ T : Addr, f0 = rawInt T ∧ s.heap.get? T = none) (hTI : IsPair s.heap TI (.ref i1) (.ref i2)) (hTO : IsPair s.heap TO a b)
    (h1 : s.heap.IsListIter i1 l1 k1) (h2 : s.heap.IsListIter i2 l2 k2) (hl1 : s.heap.IsList l1 xs) (hl2 : s.heap.IsList l2 ys) (hx : xs[k1]? = some x) (hy : ys[k2]? = some y)
    (hQ : ∀ h', IsZip h' z TI TO (rawInt s.heap.objs.size) → IsPair h' TO x y → h'.IsListIter i1 l1 (k1 + 1) → h'.IsListIter i2 l2 (k2 + 1) → IsPair h' s.heap.objs.size x y → h'.objs.size = s.heap.objs.size + 1 →
      (∀ c o, c ≠ z → c ≠ TO → c ≠ i1 → c ≠ i2 → s.heap.get? c = some o → h'.get? c = some o) → Q (.ref s.heap.objs.size) { s with heap := h' }) :
    wpAny (model prog w) A (Builtin.«zip.__next__» ⟨[.ref z], []⟩) (fun fin s' => ∃ v, fin = .done (.ret v) ∧ Q v s') E s := by
  show wpAny _ _ (field (.ref z) 2 >>= _) _ _ _
  refine wpAny_bind (wpAny_field hz rfl (x := .bool false) rfl ?_)
  show wpAny _ _ (field (.ref z) 3 >>= _) _ _ _
  refine wpAny_bind (wpAny_field hz rfl (x := .ref TI) rfl ?_)
  refine wpAny_bind (wpAny_seqItems hTI rfl ?_)
  show wpAny _ _ (Builtin.SmallTypes.ownedTupleIsFree (.ref z) >>= _) _ _ _
  refine wpAny_bind (free_zip hz hf ?_)
  simp only [if_true]
  refine wpAny_bind (wpAny_rule ?_)
  refine wpAny_bind (wpAny_field hz rfl (x := .ref TO) rfl ?_)
  refine wpAny_bind (wpAny_setField_rec hz (by simp) fun h₁ hz₁ hs₁ => ?_)
  replace hz₁ : IsZipG h₁ z TI TO .ellipsis f1 := hz₁
  refine wpAny_bind ?_
  simp only [List.zipIdx_cons, List.zipIdx_nil, List.forIn_cons, List.forIn_nil]
  refine wpAny_bind (wpAny_bind (wpAny_onRaise ?_))
  show wpAny _ _ (Builtin.SmallTypes.nextOf (.ref i1) >>= _) _ _ _
  refine wpAny_bind (wpAny_nextOf_list_item (h1.extBut hs₁.extBut D.i1z) (hl1.extBut hs₁.extBut D.l1z) hx fun h₂ h1₂ hs₂ => wpAny_pure ?_)
  have hTO₂ : IsPair h₂ TO a b := hs₂.extBut _ _ D.TOi1 (hs₁.extBut _ _ D.TOz hTO)
  refine wpAny_bind (wpAny_seqItems hTO₂ rfl ?_)
  refine wpAny_bind (wpAny_updateSeq_pair hTO₂ fun h₃ hTO₃ hs₃ => ?_)
  replace hTO₃ : IsPair h₃ TO x b := hTO₃
  refine wpAny_bind (wpAny_letGo (wpAny_pure ?_))
  refine wpAny_bind (wpAny_bind (wpAny_onRaise ?_))
  show wpAny _ _ (Builtin.SmallTypes.nextOf (.ref i2) >>= _) _ _ _
  refine wpAny_bind (wpAny_nextOf_list_item (((h2.extBut hs₁.extBut D.i2z).extBut hs₂.extBut D.i12.symm).extBut hs₃.extBut D.TOi2.symm)
    (((hl2.extBut hs₁.extBut D.l2z).extBut hs₂.extBut D.l2i1).extBut hs₃.extBut D.l2TO) hy fun h₄ h2₄ hs₄ => wpAny_pure ?_)
  have hTO₄ : IsPair h₄ TO x b := hs₄.extBut _ _ D.TOi2 hTO₃
  refine wpAny_bind (wpAny_seqItems hTO₄ rfl ?_)
  refine wpAny_bind (wpAny_updateSeq_pair hTO₄ fun h₅ hTO₅ hs₅ => ?_)
  replace hTO₅ : IsPair h₅ TO x y := hTO₅
  refine wpAny_bind (wpAny_letGo (wpAny_pure (wpAny_pure ?_)))
  refine wpAny_bind (wpAny_seqItems hTO₅ rfl ?_)
  refine wpAny_bind (wpAny_newTuple ?_)
  have hsz : h₅.objs.size = s.heap.objs.size := by rw [hs₅.1, hs₄.1, hs₃.1, hs₂.1, hs₁.1]
  have hz₅ : IsZipG h₅ z TI TO .ellipsis f1 := hs₅.extBut _ _ D.TOz.symm (hs₄.extBut _ _ D.i2z.symm (hs₃.extBut _ _ D.TOz.symm (hs₂.extBut _ _ D.i1z.symm hz₁)))
  have hk₅ : ∀ c o, c ≠ z → c ≠ TO → c ≠ i1 → c ≠ i2 → s.heap.get? c = some o → h₅.get? c = some o := fun c o c1 c2 c3 c4 e =>
    hs₅.extBut _ _ c2 (hs₄.extBut _ _ c4 (hs₃.extBut _ _ c2 (hs₂.extBut _ _ c3 (hs₁.extBut _ _ c1 e))))
  have h1₅ : h₅.IsListIter i1 l1 (k1 + 1) := ((h1₂.extBut hs₃.extBut D.TOi1.symm).extBut hs₄.extBut D.i12).extBut hs₅.extBut D.TOi1.symm
  have h2₅ : h₅.IsListIter i2 l2 (k2 + 1) := h2₄.extBut hs₅.extBut D.TOi2.symm
  have hzlt : z < h₅.objs.size := Heap.lt_size hz₅
  show wpAny _ _ (Builtin.SmallTypes.ownedTupleHandOut (.ref z) (.ref h₅.objs.size) >>= _) _ _ _
  refine wpAny_bind ?_
  unfold Builtin.SmallTypes.ownedTupleHandOut
  have hz₆ : IsZipG (h₅.push { cls := .type "tuple", data := .seq #[x, y] }) z TI TO .ellipsis f1 := Heap.get?_push_of_some _ hz₅
  refine wpAny_bind (wpAny_setField_rec hz₆ (by simp) fun h₇ hz₇ hs₇ => ?_)
  replace hz₇ : IsZipG h₇ z TI TO (rawInt h₅.objs.size) f1 := hz₇
  refine wpAny_setField_rec hz₇ (by simp) fun h₈ hz₈ hs₈ => ?_
  replace hz₈ : IsZip h₈ z TI TO (rawInt h₅.objs.size) := hz₈
  have up : ∀ c o, c ≠ z → h₅.get? c = some o → h₈.get? c = some o := fun c o c1 e => hs₈.extBut _ _ c1 (hs₇.extBut _ _ c1 (Heap.get?_push_of_some _ e))
  have hT₈ : IsPair h₈ h₅.objs.size x y := hs₈.extBut _ _ (Nat.ne_of_gt hzlt) (hs₇.extBut _ _ (Nat.ne_of_gt hzlt) (Heap.get?_push_size _ rfl))
  have hz8 : h₈.objs.size = h₅.objs.size + 1 := by rw [hs₈.1, hs₇.1, Heap.size_push]
  rw [hsz] at hz₈ hT₈ hz8
  refine wpAny_pure ⟨_, rfl, ?_⟩
  show Q (.ref h₅.objs.size) _
  rw [hsz]
  exact hQ h₈ hz₈ (up _ _ D.TOz hTO₅) (h1₅.at fun o e => up _ o D.i1z e) (h2₅.at fun o e => up _ o D.i2z e) hT₈ hz8 fun c o c1 c2 c3 c4 e => up c o c1 (hk₅ c o c1 c2 c3 c4 e)
theorem zipG_next_end {z TI TO i1 i2 l1 l2 : Addr} {f0 f1 : Value} {k1 k2 : Nat} {xs ys : Array Value} {a b : Value} {Q : Fin → Shared → Prop} (hh : A.handled = none) (D : ZipApart z TI TO i1 i2 l1 l2)
    (hz : IsZipG s.heap z TI TO f0 f1) (hf : f0 = .none ∨ ∃ T : Addr, f0 = rawInt T ∧ s.heap.get? T = none) (hTI : IsPair s.heap TI (.ref i1) (.ref i2)) (hTO : IsPair s.heap TO a b)
    (h1 : s.heap.IsListIter i1 l1 k1) (h2 : s.heap.IsListIter i2 l2 k2) (hl1 : s.heap.IsList l1 xs) (hl2 : s.heap.IsList l2 ys) (hend : xs[k1]? = none ∨ ys[k2]? = none)
    (hE : ∀ h' e, (∀ c o, c ≠ z → c ≠ TO → c ≠ i1 → c ≠ i2 → s.heap.get? c = some o → h'.get? c = some o) → (∃ o, h'.get? e = some o ∧ o.cls = .type "StopIteration") → E (.ref e) { s with heap := h' }) :
    wpAny (model prog w) A (Builtin.«zip.__next__» ⟨[.ref z], []⟩) Q E s := by
  show wpAny _ _ (field (.ref z) 2 >>= _) _ _ _
  refine wpAny_bind (wpAny_field hz rfl (x := .bool false) rfl ?_)
  show wpAny _ _ (field (.ref z) 3 >>= _) _ _ _
  refine wpAny_bind (wpAny_field hz rfl (x := .ref TI) rfl ?_)
  refine wpAny_bind (wpAny_seqItems hTI rfl ?_)
  show wpAny _ _ (Builtin.SmallTypes.ownedTupleIsFree (.ref z) >>= _) _ _ _
  refine wpAny_bind (free_zip hz hf ?_)
  simp only [if_true]
  refine wpAny_bind (wpAny_rule ?_)
  refine wpAny_bind (wpAny_field hz rfl (x := .ref TO) rfl ?_)
  refine wpAny_bind (wpAny_setField_rec hz (by simp) fun h₁ hz₁ hs₁ => ?_)
  replace hz₁ : IsZipG h₁ z TI TO .ellipsis f1 := hz₁
  refine wpAny_bind ?_
  simp only [List.zipIdx_cons, List.zipIdx_nil, List.forIn_cons, List.forIn_nil]
  refine wpAny_bind (wpAny_bind (wpAny_onRaise ?_))
  show wpAny _ _ (Builtin.SmallTypes.nextOf (.ref i1) >>= _) _ _ _
  cases hx : xs[k1]? with
  | none =>
    refine wpAny_bind (wpAny_nextOf_list_end hh (h1.extBut hs₁.extBut D.i1z) (hl1.extBut hs₁.extBut D.l1z) hx fun h₂ e hs₂ he => ?_)
    obtain ⟨oe, hoe, hce⟩ := he
    have hz₂ : IsZipG h₂ z TI TO .ellipsis f1 := hs₂ _ _ D.i1z.symm hz₁
    have hez : e ≠ z := fun x => by subst x; rw [hz₂] at hoe; cases hoe; simp at hce
    refine wpAny_setField_rec hz₂ (by simp) fun h₃ _ hs₃ => hE h₃ e (fun c o c1 _ c3 _ x => hs₃.extBut _ _ c1 (hs₂ _ _ c3 (hs₁.extBut _ _ c1 x))) ⟨oe, hs₃.extBut _ _ hez hoe, hce⟩
  | some x =>
    have hy : ys[k2]? = none := by rcases hend with h | h; rw [hx] at h; cases h; exact h
    refine wpAny_bind (wpAny_nextOf_list_item (h1.extBut hs₁.extBut D.i1z) (hl1.extBut hs₁.extBut D.l1z) hx fun h₂ h1₂ hs₂ => wpAny_pure ?_)
    have hTO₂ : IsPair h₂ TO a b := hs₂.extBut _ _ D.TOi1 (hs₁.extBut _ _ D.TOz hTO)
    refine wpAny_bind (wpAny_seqItems hTO₂ rfl ?_)
    refine wpAny_bind (wpAny_updateSeq_pair hTO₂ fun h₃ hTO₃ hs₃ => ?_)
    refine wpAny_bind (wpAny_letGo (wpAny_pure ?_))
    refine wpAny_bind (wpAny_bind (wpAny_onRaise ?_))
    show wpAny _ _ (Builtin.SmallTypes.nextOf (.ref i2) >>= _) _ _ _
    refine wpAny_bind (wpAny_nextOf_list_end hh (((h2.extBut hs₁.extBut D.i2z).extBut hs₂.extBut D.i12.symm).extBut hs₃.extBut D.TOi2.symm)
      (((hl2.extBut hs₁.extBut D.l2z).extBut hs₂.extBut D.l2i1).extBut hs₃.extBut D.l2TO) hy fun h₄ e hs₄ he => ?_)
    obtain ⟨oe, hoe, hce⟩ := he
    have hz₄ : IsZipG h₄ z TI TO .ellipsis f1 := hs₄ _ _ D.i2z.symm (hs₃.extBut _ _ D.TOz.symm (hs₂.extBut _ _ D.i1z.symm hz₁))
    have hez : e ≠ z := fun x => by subst x; rw [hz₄] at hoe; cases hoe; simp at hce
    refine wpAny_setField_rec hz₄ (by simp) fun h₅ _ hs₅ => hE h₅ e (fun c o c1 c2 c3 c4 x => hs₅.extBut _ _ c1 (hs₄ _ _ c4 (hs₃.extBut _ _ c2 (hs₂.extBut _ _ c3 (hs₁.extBut _ _ c1 x))))) ⟨oe, hs₅.extBut _ _ hez hoe, hce⟩
/-- a zip of two lists ahead of turn k, whatever it still holds -/
structure ZS (z TI TO i1 i2 a b : Addr) (k : Nat) (h : Heap) : Prop where
  zip : ∃ f0 f1, IsZipG h z TI TO f0 f1 ∧ (f0 = .none ∨ ∃ (T : Addr) (f : Bool), f0 = rawInt T ∧ f1 = .bool f)
  ti : IsPair h TI (.ref i1) (.ref i2)
  to : ∃ x y, IsPair h TO x y
  l1 : h.IsListIter i1 a k
  l2 : h.IsListIter i2 b k
theorem ZS.keep {z TI TO i1 i2 a b : Addr} {k : Nat} {h h' : Heap} (st : ZS z TI TO i1 i2 a b k h) (f : ∀ c ∈ [z, TI, TO, i1, i2], ∀ o, h.get? c = some o → h'.get? c = some o) : ZS z TI TO i1 i2 a b k h' := by
  obtain ⟨⟨f0, f1, hz, hf⟩, hTI, ⟨x, y, hTO⟩, h1, h2⟩ := st
  exact ⟨⟨f0, f1, f z (by simp) _ hz, hf⟩, f TI (by simp) _ hTI, ⟨x, y, f TO (by simp) _ hTO⟩, h1.at fun o q => f i1 (by simp) o q, h2.at fun o q => f i2 (by simp) o q⟩
theorem zipS_next_item {z TI TO i1 i2 l1 l2 : Addr} {k : Nat} {xs ys : Array Value} {x y : Value} {Q : Value → Shared → Prop} (D : ZipApart z TI TO i1 i2 l1 l2) (st : ZS z TI TO i1 i2 l1 l2 k s.heap)
    (hl1 : s.heap.IsList l1 xs) (hl2 : s.heap.IsList l2 ys) (hx : xs[k]? = some x) (hy : ys[k]? = some y)
    (hQ : ∀ h', ZS z TI TO i1 i2 l1 l2 (k + 1) h' → IsPair h' s.heap.objs.size x y → h'.objs.size = s.heap.objs.size + 1 →
      (∀ c o, c ≠ z → c ≠ TO → c ≠ i1 → c ≠ i2 → s.heap.get? c = some o → h'.get? c = some o) → Q (.ref s.heap.objs.size) { s with heap := h' }) :
    wpAny (model prog w) A (Builtin.«zip.__next__» ⟨[.ref z], []⟩) (fun fin s' => ∃ v, fin = .done (.ret v) ∧ Q v s') E s := by
  obtain ⟨⟨f0, f1, hz, hf⟩, hTI, ⟨a, b, hTO⟩, h1, h2⟩ := st
  have fr : (f0 = .none ∨ ∃ T : Addr, f0 = rawInt T ∧ s.heap.get? T = none) → wpAny (model prog w) A (Builtin.«zip.__next__» ⟨[.ref z], []⟩) (fun fin s' => ∃ v, fin = .done (.ret v) ∧ Q v s') E s := fun hf =>
    zipG_next_item D hz hf hTI hTO h1 h2 hl1 hl2 hx hy fun h' z' TO' a1 a2 hp hs hk =>
      hQ h' ⟨⟨_, _, z', .inr ⟨_, false, rfl, rfl⟩⟩, hk _ _ D.TIz D.TITO D.TIi1 D.TIi2 hTI, ⟨x, y, TO'⟩, a1, a2⟩ hp hs hk
  rcases hf with hf | ⟨T, f, rfl, rfl⟩
  · exact fr (.inl hf)
  · cases hT : s.heap.get? T with
    | none => exact fr (.inr ⟨T, rfl, hT⟩)
    | some oT =>
      exact zip_next_item_held D hz hT hTI h1 h2 hl1 hl2 hx hy fun h' z' a1 a2 hp hs hk =>
        hQ h' ⟨⟨_, _, z', .inr ⟨T, true, rfl, rfl⟩⟩, hk _ _ D.TIz D.TIi1 D.TIi2 hTI, ⟨a, b, hk _ _ D.TOz D.TOi1 D.TOi2 hTO⟩, a1, a2⟩ hp hs fun c o c1 _ c3 c4 q => hk c o c1 c3 c4 q
theorem zipS_next_end {z TI TO i1 i2 l1 l2 : Addr} {k : Nat} {xs ys : Array Value} {Q : Fin → Shared → Prop} (hh : A.handled = none) (D : ZipApart z TI TO i1 i2 l1 l2) (st : ZS z TI TO i1 i2 l1 l2 k s.heap)
    (hl1 : s.heap.IsList l1 xs) (hl2 : s.heap.IsList l2 ys) (hend : xs[k]? = none ∨ ys[k]? = none)
    (hE : ∀ h' e, (∀ c o, c ≠ z → c ≠ TO → c ≠ i1 → c ≠ i2 → s.heap.get? c = some o → h'.get? c = some o) → (∃ o, h'.get? e = some o ∧ o.cls = .type "StopIteration") → E (.ref e) { s with heap := h' }) :
    wpAny (model prog w) A (Builtin.«zip.__next__» ⟨[.ref z], []⟩) Q E s := by
  obtain ⟨⟨f0, f1, hz, hf⟩, hTI, ⟨a, b, hTO⟩, h1, h2⟩ := st
  rcases hf with hf | ⟨T, f, rfl, rfl⟩
  · exact zipG_next_end hh D hz (.inl hf) hTI hTO h1 h2 hl1 hl2 hend hE
  · cases hT : s.heap.get? T with
    | none => exact zipG_next_end hh D hz (.inr ⟨T, rfl, hT⟩) hTI hTO h1 h2 hl1 hl2 hend hE
    | some oT => exact zip_next_end_held hh D hz hT hTI h1 h2 hl1 hl2 hend fun h' e hk he => hE h' e (fun c o c1 _ c3 c4 q => hk c o c1 c3 c4 q) he
theorem nextOf_zip_item {z TI TO i1 i2 l1 l2 : Addr} {k : Nat} {xs ys : Array Value} {x y : Value} {Q : Value → Shared → Prop} (D : ZipApart z TI TO i1 i2 l1 l2) (st : ZS z TI TO i1 i2 l1 l2 k s.heap)
    (hl1 : s.heap.IsList l1 xs) (hl2 : s.heap.IsList l2 ys) (hx : xs[k]? = some x) (hy : ys[k]? = some y)
    (hQ : ∀ h', ZS z TI TO i1 i2 l1 l2 (k + 1) h' → IsPair h' s.heap.objs.size x y → h'.objs.size = s.heap.objs.size + 1 →
      (∀ c o, c ≠ z → c ≠ TO → c ≠ i1 → c ≠ i2 → s.heap.get? c = some o → h'.get? c = some o) → Q (.ref s.heap.objs.size) { s with heap := h' }) :
    wpAny (model prog w) A (Builtin.SmallTypes.nextOf (.ref z)) Q E s := by
  obtain ⟨f0, f1, hz, hf⟩ := st.zip
  have hT : s.TypeIs (.ref z) "zip" := ⟨_, hz, rfl⟩
  unfold Builtin.SmallTypes.nextOf
  exact wpAny_bind (wpAny_callSpecial?_slot (name := Str.ofString "__next__") hT F.slot_zip_next
    (wpAny_call_entry F.slot_zip_next hT F.entry_zip_next (zipS_next_item D st hl1 hl2 hx hy fun h' a1 a2 a3 a4 => wpAny_pure (hQ h' a1 a2 a3 a4)) (F.args_zip_next_1 _)))
theorem nextOf_zip_end {z TI TO i1 i2 l1 l2 : Addr} {k : Nat} {xs ys : Array Value} {Q : Value → Shared → Prop} (hh : A.handled = none) (D : ZipApart z TI TO i1 i2 l1 l2) (st : ZS z TI TO i1 i2 l1 l2 k s.heap)
    (hl1 : s.heap.IsList l1 xs) (hl2 : s.heap.IsList l2 ys) (hend : xs[k]? = none ∨ ys[k]? = none)
    (hE : ∀ h' e, (∀ c o, c ≠ z → c ≠ TO → c ≠ i1 → c ≠ i2 → s.heap.get? c = some o → h'.get? c = some o) → (∃ o, h'.get? e = some o ∧ o.cls = .type "StopIteration") → E (.ref e) { s with heap := h' }) :
    wpAny (model prog w) A (Builtin.SmallTypes.nextOf (.ref z)) Q E s := by
  obtain ⟨f0, f1, hz, hf⟩ := st.zip
  have hT : s.TypeIs (.ref z) "zip" := ⟨_, hz, rfl⟩
  unfold Builtin.SmallTypes.nextOf
  exact wpAny_bind (wpAny_callSpecial?_slot (name := Str.ofString "__next__") hT F.slot_zip_next
    (wpAny_call_entry F.slot_zip_next hT F.entry_zip_next (zipS_next_end hh D st hl1 hl2 hend hE) (F.args_zip_next_1 _)))
theorem enum_next_zip {e z TI TO i1 i2 l1 l2 : Addr} {i : Nat} {xs ys : Array Value} {x y old : Value} {Q : Value → Shared → Prop} (D : ZipApart z TI TO i1 i2 l1 l2) (he : IsEnum s.heap e z i old) (st : ZS z TI TO i1 i2 l1 l2 i s.heap)
    (hl1 : s.heap.IsList l1 xs) (hl2 : s.heap.IsList l2 ys) (hx : xs[i]? = some x) (hy : ys[i]? = some y) (hne : e ∉ [z, TI, TO, i1, i2])
    (hQ : ∀ h1 h' tk, ZS z TI TO i1 i2 l1 l2 (i + 1) h1 → IsPair h1 s.heap.objs.size x y → h1.objs.size = s.heap.objs.size + 1 → (∀ c o, c ≠ z → c ≠ TO → c ≠ i1 → c ≠ i2 → s.heap.get? c = some o → h1.get? c = some o) →
      IsEnumOut h' e z ((i : Int) + 1) (.ref s.heap.objs.size) (s.heap.objs.size + 1) → h'.get? (s.heap.objs.size + 1) = some { cls := .type "tuple", data := .seq #[.int i tk, .ref s.heap.objs.size] } →
      (∀ b o, b ≠ e → h1.get? b = some o → h'.get? b = some o) → Q (.ref (s.heap.objs.size + 1)) { s with heap := h', toks := tk + 1 }) :
    wpAny (model prog w) A (Builtin.«enumerate.__next__» ⟨[.ref e], []⟩) (fun fin s' => ∃ v, fin = .done (.ret v) ∧ Q v s') E s := by
  obtain ⟨hp, g, d, tk, os⟩ := s
  have n1 : e ≠ z := fun q => hne (by simp [q])
  have n2 : e ≠ TO := fun q => hne (by simp [q])
  have n3 : e ≠ i1 := fun q => hne (by simp [q])
  have n4 : e ≠ i2 := fun q => hne (by simp [q])
  show wpAny _ _ (field (.ref e) 2 >>= _) _ _ _
  refine wpAny_bind (wpAny_field he rfl (x := .ref z) rfl ?_)
  refine wpAny_bind (nextOf_zip_item D st hl1 hl2 hx hy fun h₁ st₁ hp₁ hsz₁ hk₁ => ?_)
  have he₁ : IsEnum h₁ e z i old := hk₁ e _ n1 n2 n3 n4 he
  replace hsz₁ : h₁.objs.size = hp.objs.size + 1 := hsz₁
  generalize hxr : (Value.ref hp.objs.size) = xr
  show wpAny _ _ (field (.ref e) 3 >>= _) _ _ ⟨h₁, g, d, tk, os⟩
  refine wpAny_bind (wpAny_field he₁ rfl (x := rawInt i) rfl ?_)
  show wpAny _ _ (field (.ref e) 4 >>= _) _ _ ⟨h₁, g, d, tk, os⟩
  refine wpAny_bind (wpAny_field he₁ rfl (x := .none) rfl ?_)
  show wpAny _ _ (mkInt i >>= _) _ _ ⟨h₁, g, d, tk, os⟩
  refine wpAny_bind (wpAny_mkInt ?_)
  show wpAny _ _ (setField (.ref e) 3 (rawInt ((i : Int) + 1)) >>= _) _ _ ⟨h₁, g, d, tk + 1, os⟩
  refine wpAny_bind (wpAny_setField_rec he₁ (by simp) fun h₂ he₂ hs₂ => ?_)
  replace hs₂ : Heap.SameBut e h₁ h₂ := hs₂
  replace he₂ : IsEnum h₂ e z ((i : Int) + 1) old := he₂
  show wpAny _ _ (setField (.ref e) 4 .none >>= _) _ _ ⟨h₂, g, d, tk + 1, os⟩
  refine wpAny_bind (wpAny_setField_rec he₂ (by simp) fun h₃ he₃ hs₃ => ?_)
  replace hs₃ : Heap.SameBut e h₂ h₃ := hs₃
  replace he₃ : IsEnum h₃ e z ((i : Int) + 1) old := he₃
  show wpAny _ _ (newTuple [.int i tk, xr] >>= _) _ _ ⟨h₃, g, d, tk + 1, os⟩
  refine wpAny_bind (wpAny_newTuple ?_)
  have he₄ : IsEnum (h₃.push { cls := .type "tuple", data := .seq #[.int i tk, xr] }) e z ((i : Int) + 1) old := Heap.get?_push_of_some _ he₃
  generalize hh₄ : h₃.push { cls := .type "tuple", data := .seq #[.int i tk, xr] } = h₄ at he₄
  have hsz : h₃.objs.size = hp.objs.size + 1 := by rw [hs₃.1, hs₂.1, hsz₁]
  have hel : e < hp.objs.size := Heap.lt_size he
  have ht₄ : h₄.get? (hp.objs.size + 1) = some { cls := .type "tuple", data := .seq #[.int i tk, xr] } := by rw [← hh₄, ← hsz]; exact Heap.get?_push_size _ rfl
  have hk₄ : ∀ b o, b ≠ e → h₁.get? b = some o → h₄.get? b = some o := fun b o hbe hb => by
    rw [← hh₄]; exact Heap.get?_push_of_some _ (hs₃.extBut b o hbe (hs₂.extBut b o hbe hb))
  show wpAny _ _ (Builtin.SmallTypes.ownedTupleIsFree (.ref e) >>= _) _ _ ⟨h₄, g, d, tk + 1, os⟩
  rw [hsz]
  refine wpAny_bind ?_
  · unfold Builtin.SmallTypes.ownedTupleIsFree
    refine wpAny_bind (wpAny_field he₄ rfl (x := .none) rfl (wpAny_pure ?_))
    simp only [if_true]
    refine wpAny_bind (wpAny_rule ?_)
    refine wpAny_bind (wpAny_field he₄ rfl (x := old) rfl ?_)
    refine wpAny_bind (wpAny_setField_rec he₄ (by simp) fun h₅ he₅ hs₅ => ?_)
    replace hs₅ : Heap.SameBut e h₄ h₅ := hs₅
    replace he₅ : IsEnum h₅ e z ((i : Int) + 1) xr := he₅
    show wpAny _ _ (Builtin.SmallTypes.ownedTupleHandOut (.ref e) (.ref (hp.objs.size + 1)) >>= _) _ _ ⟨h₅, g, d, tk + 1, os⟩
    refine wpAny_bind ?_
    · unfold Builtin.SmallTypes.ownedTupleHandOut
      refine wpAny_bind (wpAny_setField_rec he₅ (by simp) fun h₆ he₆ hs₆ => ?_)
      replace hs₆ : Heap.SameBut e h₅ h₆ := hs₆
      replace he₆ : IsEnumOut h₆ e z ((i : Int) + 1) xr (hp.objs.size + 1) := he₆
      refine wpAny_setField_rec he₆ (by simp) fun h₇ he₇ hs₇ => ?_
      replace hs₇ : Heap.SameBut e h₆ h₇ := hs₇
      replace he₇ : IsEnumOut h₇ e z ((i : Int) + 1) xr (hp.objs.size + 1) := he₇
      subst hxr
      refine wpAny_bind (wpAny_letGo (wpAny_pure ⟨_, rfl, hQ h₁ h₇ tk st₁ hp₁ hsz₁ hk₁ he₇ ?_ ?_⟩))
      · have hn : hp.objs.size + 1 ≠ e := Nat.ne_of_gt (Nat.lt_succ_of_lt hel)
        exact hs₇.extBut _ _ hn (hs₆.extBut _ _ hn (hs₅.extBut _ _ hn ht₄))
      · exact fun b o hbe hb => hs₇.extBut b o hbe (hs₆.extBut b o hbe (hs₅.extBut b o hbe (hk₄ b o hbe hb)))
theorem meets_enumerate_newZ (z TI TO : Addr) :
    Meets (Builtin.«enumerate.__new__» ⟨[.type "enumerate", .ref z], []⟩) (fun _ R s => IsZip s.heap z TI TO .none ∧
      R (.ok (.ret (.ref s.heap.objs.size))) { s with heap := s.heap.push { cls := .type "enumerate", data := .fields #[.none, .bool false, .ref z, rawInt 0, .none, .none] } }) :=
  .of_wp fun prog w A R s h => by
    obtain ⟨hp, g, d, tk, os⟩ := s; obtain ⟨hz, h⟩ := h
    have hsub := sub_enumerate
    have hL : IsZip (Shared.heap ⟨hp, g, d, tk, os⟩) z TI TO .none := hz
    wp_walk using wpAny_loadPart' hL
    refine wpAny_stack_any fun st => wpAny_pure ?_
    split
    · rename_i c _ _ _ _ _
      cases (c == Value.type "enumerate")
      · wp_walk using wpAny_loadPart' hL, wpAny_pyIter_zip hL
        exact ⟨_, rfl, h⟩
      · wp_walk using wpAny_loadPart' hL, wpAny_pyIter_zip hL
        exact ⟨_, rfl, h⟩
    · wp_walk using wpAny_loadPart' hL, wpAny_pyIter_zip hL
      exact ⟨_, rfl, h⟩
theorem call_enumerate_zip {z TI TO : Addr} {Q : Value → Shared → Prop} (hz : IsZip s.heap z TI TO .none)
    (h : ∀ h', IsEnum h' s.heap.objs.size z 0 .none → (∀ b o, s.heap.get? b = some o → h'.get? b = some o) → Q (.ref s.heap.objs.size) { s with heap := h' }) :
    wpAny (model prog w) A (call (.type "enumerate") [.ref z]) Q E s := by
  refine callType_new F.called_enumerate (by decide) (F.typeCall_enumerate_1 _) (F.newCall_enumerate_1 _) (fun obj => F.args_object_init_2 obj _) F.entry_enumerate_new
    (meets_enumerate_newZ z TI TO) ⟨hz, ?_⟩
  have he : IsEnum (s.heap.push { cls := .type "enumerate", data := .fields #[.none, .bool false, .ref z, rawInt 0, .none, .none] }) s.heap.objs.size z 0 .none :=
    Heap.get?_push_size s.heap rfl
  exact ⟨⟨_, he, rfl⟩, h _ he fun b o x => Heap.get?_push_of_some _ x⟩
end
end RS
namespace L2
open PySem PySem.Spec PyProof.Rows RS
/-- the lists at a and b as they stand at each turn; each item a new pair of the number and a new pair -/
def IteZ (K : PySem.W.Frag) (a b : Addr) : It :=
  ⟨(Itz K a b).go, fun i H v H' => ∃ T1 T2 x y, v = .ref T2 ∧ H T1 = none ∧ upd H T1 (.tup [x, y]) T2 = none ∧ H' = upd (upd H T1 (.tup [x, y])) T2 (.tup [.int (i : Nat), .ref T1]) ∧
    (∀ xs, SqL K H a xs → xs[i]? = some x) ∧ ∀ ys, SqL K H b ys → ys[i]? = some y, (Itz K a b).stop⟩
theorem turn_enumZ {P : Program} {w : World} {K : PySem.W.Frag} {elts : List Expr} {kk : Nat} {tpos : Pos} {a b e z TI TO i1 i2 : Addr} (D : ZipApart z TI TO i1 i2 a b) (hne : e ∉ [z, TI, TO, i1, i2]) :
    Turn P w K (.Tuple elts kk tpos) (IteZ K a b) [e, z, TI, TO, i1, i2] e (fun i h => (∃ old, IsEnum h e z ((i : Nat) : Int) old) ∧ ZS z TI TO i1 i2 a b i h) where
  mem := by simp
  obj := fun i h st c hc => by
    obtain ⟨⟨old, he⟩, ⟨⟨f0, f1, hz, hf⟩, hTI, ⟨x, y, hTO⟩, ⟨o1, e1, _, d1⟩, ⟨o2, e2, _, d2⟩⟩⟩ := st
    have e' : c = e ∨ c = z ∨ c = TI ∨ c = TO ∨ c = i1 ∨ c = i2 := by simpa using hc
    rcases e' with q | q | q | q | q | q
    · rw [q]; exact ⟨_, he, fun v q => nomatch q⟩
    · rw [q]; exact ⟨_, hz, fun v q => nomatch q⟩
    · rw [q]; exact ⟨_, hTI, fun v q => nomatch q⟩
    · rw [q]; exact ⟨_, hTO, fun v q => nomatch q⟩
    · rw [q]; exact ⟨o1, e1, fun v q => by rw [d1] at q; cases q⟩
    · rw [q]; exact ⟨o2, e2, fun v q => by rw [d2] at q; cases q⟩
  keep := fun i h h' st k => by
    obtain ⟨⟨old, he⟩, hs⟩ := st
    exact ⟨⟨old, k e (by simp) _ he⟩, hs.keep fun c hc o q => k c (List.mem_cons_of_mem _ hc) o q⟩
  item := by
    intro X hP hw hK hc i pins s σ H E I hf st hg
    subst hP hw hK
    obtain ⟨⟨old, he⟩, hs⟩ := st
    obtain ⟨xs, ys, x, y, hqx, hqy, hx, hy⟩ := hg
    obtain ⟨its, rv, p, _⟩ := I.list hqx
    obtain ⟨its2, rv2, p2, _⟩ := I.list hqy
    obtain ⟨u, hu, ru⟩ := rv.get hx
    obtain ⟨u2, hu2, ru2⟩ := rv2.get hy
    have hT : s.TypeIs (.ref e) "enumerate" := ⟨_, he, rfl⟩
    have hlt : ∀ c ∈ [e, z, TI, TO, i1, i2], c < s.heap.objs.size := fun c hcm => by
      obtain ⟨⟨f0, f1, hz, _⟩, hTI, ⟨_, _, hTO⟩, ⟨_, e1, _⟩, ⟨_, e2, _⟩⟩ := hs
      have e' : c = e ∨ c = z ∨ c = TI ∨ c = TO ∨ c = i1 ∨ c = i2 := by simpa using hcm
      rcases e' with q | q | q | q | q | q
      · rw [q]; exact Heap.lt_size he
      · rw [q]; exact Heap.lt_size hz
      · rw [q]; exact Heap.lt_size hTI
      · rw [q]; exact Heap.lt_size hTO
      · rw [q]; exact Heap.lt_size e1
      · rw [q]; exact Heap.lt_size e2
    unfold pyNext
    refine wpAny_bind (wpAny_attempt (wpAny_callSpecial?_slot (name := Str.ofString "__next__") hT F.slot_enumerate_next
      (wpAny_call_entry F.slot_enumerate_next hT F.entry_enumerate_next
        (enum_next_zip D he hs p.isList p2.isList (x := u) (y := u2) (by simpa using hu) (by simpa using hu2) hne fun h1 h' tk st1 hp1 hsz1 hk1 ho hT2 hk => wpAny_pure ?_) (F.args_enumerate_next_1 _))))
    refine ⟨_, rfl, wpAny_letOwnedTupleGo_enum (s := { s with heap := h', toks := tk + 1 }) ho fun h'' he' sb => ?_⟩
    have hel : e < s.heap.objs.size := hlt e (by simp)
    have new1 : ObjOk X.prog X.w (upd H s.heap.objs.size (.tup [x, y])) h1 s.heap.objs.size (.tup [x, y]) :=
      ⟨by show 2 ≤ sizeLine; decide, [u, u2], .cons ru (.cons ru2 .nil), ⟨_, hp1, rfl, _, rfl⟩⟩
    have I0 : Inv X pins σ (upd H s.heap.objs.size (.tup [x, y])) { s with heap := h1 } :=
      I.turnedNew (t' := s.toks) (ch := [z, TI, TO, i1, i2]) (fun c o hb q => hk1 c o (fun q' => hb (by simp [q'])) (fun q' => hb (by simp [q'])) (fun q' => hb (by simp [q'])) (fun q' => hb (by simp [q'])) q)
        (fun c hcm => hf c (List.mem_cons_of_mem _ hcm)) (Nat.le_refl _) new1
    have kk : ∀ b o, b ≠ e → h1.get? b = some o → h''.get? b = some o := fun b o hbe q => (sb.2 b hbe).trans (hk b o hbe q)
    have hT3 : h''.get? (s.heap.objs.size + 1) = some { cls := .type "tuple", data := .seq #[.int i tk, .ref s.heap.objs.size] } := (sb.2 _ (Nat.ne_of_gt (Nat.lt_succ_of_lt hel))).trans hT2
    have new2 : ObjOk X.prog X.w (upd (upd H s.heap.objs.size (.tup [x, y])) (s.heap.objs.size + 1) (.tup [.int (i : Nat), .ref s.heap.objs.size])) h'' (s.heap.objs.size + 1) (.tup [.int (i : Nat), .ref s.heap.objs.size]) :=
      ⟨by show 2 ≤ sizeLine; decide, [.int i tk, .ref s.heap.objs.size], .cons ⟨_, rfl⟩ (.cons rfl .nil), ⟨_, hT3, rfl, _, rfl⟩⟩
    have n1 : ∀ c ∈ [e, z, TI, TO, i1, i2], upd H s.heap.objs.size (.tup [x, y]) c = none := fun c hcm => by
      rw [upd_ne (Nat.ne_of_lt (hlt c hcm))]
      exact (hf c hcm).1
    have I1 : Inv X pins σ (upd (upd H s.heap.objs.size (.tup [x, y])) (s.heap.objs.size + 1) (.tup [.int (i : Nat), .ref s.heap.objs.size])) { s with heap := h'', toks := tk + 1 } :=
      I0.turnedNew (t' := tk + 1) (ch := [e]) (fun c o hb q => kk c o (fun q' => hb (by simp [q'])) q)
        (fun c hcm => by
          have hce : c = e := by simpa using hcm
          subst hce
          exact ⟨n1 c (by simp), (hf c (by simp)).2⟩) (Nat.le_of_eq hsz1) new2
    refine ⟨.ref (s.heap.objs.size + 1), _, I1, rfl, ⟨_, _, x, y, rfl, I.hok.fresh (Nat.le_refl _), I0.hok.fresh (Nat.le_of_eq hsz1), rfl, fun l hl => by rw [I.list_inj hl hqx]; exact hx, fun l hl => by rw [I.list_inj hl hqy]; exact hy⟩, ⟨⟨.ref s.heap.objs.size, ?_⟩, st1.keep fun c hcm o q => kk c o (fun q' => hne (q' ▸ hcm)) q⟩, fun c hcm => ?_⟩
    · have e1 : ((i + 1 : Nat) : Int) = (i : Int) + 1 := by omega
      rw [e1]; exact he'
    · rw [upd_ne (Nat.ne_of_lt (Nat.lt_succ_of_lt (hlt c hcm)))]
      exact n1 c hcm
  done := by
    intro X hP hw hK hc i pins s σ H E I hf st hg
    subst hP hw hK
    obtain ⟨⟨old, he⟩, hs⟩ := st
    obtain ⟨xs, ys, hqx, hqy, hend⟩ := hg
    obtain ⟨its, rv, p, _⟩ := I.list hqx
    obtain ⟨its2, rv2, p2, _⟩ := I.list hqy
    have l1 := rv.length
    have l2 := rv2.length
    have hend' : its.toArray[i]? = none ∨ its2.toArray[i]? = none := by
      rcases hend with q | q
      · exact .inl (by simp; omega)
      · exact .inr (by simp; omega)
    have hT : s.TypeIs (.ref e) "enumerate" := ⟨_, he, rfl⟩
    unfold pyNext
    refine wpAny_bind (wpAny_attempt (wpAny_callSpecial?_slot (name := Str.ofString "__next__") hT F.slot_enumerate_next
      (wpAny_call_entry F.slot_enumerate_next hT F.entry_enumerate_next ?_ (F.args_enumerate_next_1 _))))
    show wpAny _ _ (field (.ref e) 2 >>= _) _ _ _
    refine wpAny_bind (wpAny_field he rfl (x := .ref z) rfl ?_)
    refine wpAny_bind (nextOf_zip_end (I.ok.hd hc) D hs p.isList p2.isList hend' fun h' x eb hx' => ?_)
    obtain ⟨o, ho, hc'⟩ := hx'
    refine wpAny_bind (wpAny_isInstance (T := "StopIteration") (b := true) ⟨o, ho, hc'⟩ isSubtype_stop ?_)
    exact wpAny_pure ⟨rfl, I.turnedL (t' := s.toks) (ch := [z, TI, TO, i1, i2]) (fun c o hb q =>
      eb c o (fun q' => hb (by simp [q'])) (fun q' => hb (by simp [q'])) (fun q' => hb (by simp [q'])) (fun q' => hb (by simp [q'])) q) (fun c hcm => hf c (List.mem_cons_of_mem _ hcm))⟩
  self := fun A i s Q E st h => let ⟨⟨_, he⟩, _⟩ := st; wpAny_pyIter_enum he h
def iEnZ (K : PySem.W.Frag) (ta : TA) : TI := fun σ H R => ta σ H fun vs H1 => ∃ a b xs ys, vs = [.ref a, .ref b] ∧ SqL K H1 a xs ∧ SqL K H1 b ys ∧ R (IteZ K a b) H1
theorem pi_enumZ {X : Cx} {e1 e2 : Expr} {ta : TA} {p p2 pos pos2 tpos : Pos} {elts : List Expr} {kk : Nat} (hg : Gl X "enumerate") (hm : X.mg "enumerate" = none) (hg2 : Gl X "zip") (hm2 : X.mg "zip" = none) (ha : PA X [e1, e2] ta)
    (hs : starEach [e1, e2] X.env = (false, eval e1 X.env) :: starEach [e2] X.env := by rfl) (hpl : (backTo pos2 (starEach [e2] X.env)).any (·.1) = false := by rfl) :
    PI X (.Tuple elts kk tpos) (.Call (.Name "enumerate" p) [.Call (.Name "zip" p2) [e1, e2] [] pos2] [] pos) (iEnZ X.K ta) := by
  refine ⟨fun pins s σ H R I h => ?_⟩
  refine Call_ (ld_blt I hg hm boot_enumerate (PyProof.Rows.callWith_type1 ?_ rfl rfl))
  show wpAny _ _ (spliced ((false, eval (.Call (.Name "zip" p2) [e1, e2] [] pos2) X.env) :: [])) _ _ s
  refine Calls.spliced_cons (Call_ (ld_blt I hg2 hm2 PyProof.Rows.boot_zip (PyProof.Rows.callWith_type1 (thn (ha.run pos2 pins s σ H _ I h) fun us s1 ⟨vs, H1, I1, r1, q1⟩ => ?_) hs hpl)))
  obtain ⟨a, b, xs, ys, ex, hqx, hqy, q⟩ := q1
  subst ex
  cases r1 with
  | cons r rr =>
    cases rr with
    | cons r' rr =>
      cases rr
      cases r
      cases r'
      obtain ⟨its, rv, p1, _⟩ := I1.list hqx
      obtain ⟨its2, rv2, p2, _⟩ := I1.list hqy
      refine call_zip_2 p1.isList p2.isList fun h' hz hTI hTO h1 h2 hsz hk => Calls.spliced_nil ?_
      refine call_enumerate_zip hz fun h2' he hk2 => wpAny_pyIter_enum he ?_
      have I2 : Inv X pins σ H1 { s1 with heap := h2' } := I1.kept (t' := s1.toks) fun b o q => hk2 b o (hk b o q)
      have hsz' : h'.objs.size = s1.heap.objs.size + 5 := hsz
      have hne : h'.objs.size ∉ [s1.heap.objs.size + 4, s1.heap.objs.size + 2, s1.heap.objs.size + 3, s1.heap.objs.size, s1.heap.objs.size + 1] := fun hc => by
        have e' : h'.objs.size = s1.heap.objs.size + 4 ∨ h'.objs.size = s1.heap.objs.size + 2 ∨ h'.objs.size = s1.heap.objs.size + 3 ∨ h'.objs.size = s1.heap.objs.size ∨ h'.objs.size = s1.heap.objs.size + 1 := by simpa using hc
        have n : ∀ m : Nat, m < 5 → h'.objs.size ≠ s1.heap.objs.size + m := fun m hm z => absurd (Nat.add_left_cancel (hsz'.symm.trans z)) (Nat.ne_of_gt hm)
        rcases e' with z | z | z | z | z
        · exact n 4 (by decide) z
        · exact n 2 (by decide) z
        · exact n 3 (by decide) z
        · exact n 0 (by decide) z
        · exact n 1 (by decide) z
      refine ⟨h'.objs.size, [h'.objs.size, s1.heap.objs.size + 4, s1.heap.objs.size + 2, s1.heap.objs.size + 3, s1.heap.objs.size, s1.heap.objs.size + 1], _, _, H1, rfl, I2,
        turn_enumZ (PySem.W.ktu_apart s1.heap.objs.size a b p1.lt p2.lt) hne, ⟨⟨.none, he⟩, (⟨⟨_, _, hz, .inl rfl⟩, hTI, ⟨_, _, hTO⟩, h1, h2⟩ : ZS (s1.heap.objs.size + 4) (s1.heap.objs.size + 2) (s1.heap.objs.size + 3) s1.heap.objs.size (s1.heap.objs.size + 1) a b 0 h').keep fun c _ o q => hk2 c o q⟩, fun c hcm => ?_, q⟩
      have e' : c = h'.objs.size ∨ c = s1.heap.objs.size + 4 ∨ c = s1.heap.objs.size + 2 ∨ c = s1.heap.objs.size + 3 ∨ c = s1.heap.objs.size ∨ c = s1.heap.objs.size + 1 := by simpa using hcm
      have hle : s1.heap.objs.size ≤ c := by
        rcases e' with z | z | z | z | z | z
        · rw [z, hsz']; exact Nat.le_add_right _ _
        · rw [z]; exact Nat.le_add_right _ _
        · rw [z]; exact Nat.le_add_right _ _
        · rw [z]; exact Nat.le_add_right _ _
        · rw [z]; exact Nat.le_refl _
        · rw [z]; exact Nat.le_add_right _ _
      exact I1.fpOk hle (I1.hok.fresh hle)
end L2
namespace Rf
open PySem PySem.Spec PyProof.Rows L2
section
variable {K : PySem.W.Frag} {G : Wd} {Z : Hp}
theorem it_enzL {a b : Addr} {xs ys : List V} {ds es : List D} (q : SqL K Z a xs) (q2 : SqL K Z b ys) (r : RepL K G Z ds xs) (r2 : RepL K G Z es ys) : ItOk K G Z (enumD 0 (zipD ds es)) (IteZ K a b) where
  goes := fun i H hi s => (it_zipL q q2 r r2).goes i H (by rw [enumD_length] at hi; exact hi) s
  stops := fun H s => by rw [enumD_length]; exact (it_zipL q q2 r r2).stops H s
  yields := fun i H x H' d Z1 e s s1 y => by
    obtain ⟨d0, rfl, e0⟩ := enumD_get e
    obtain ⟨d1, d2, rfl, e1, e2⟩ := zipD_get e0
    obtain ⟨T1, T2, x1, x2, rfl, hT1, hT2, rfl, h1, h2⟩ := y
    obtain ⟨v1, f1, f2⟩ := r.get e1
    obtain ⟨v2, g1, g2⟩ := r2.get e2
    rw [h1 xs ((s.trans s1).seq q)] at f1
    rw [h2 ys ((s.trans s1).seq q2)] at g1
    cases f1
    cases g1
    have m1 : Same Z1 (upd Z1 T1 (.tup [x1, x2])) := same_newZ (Same.none s1 hT1)
    have s2 : Same (upd Z1 T1 (.tup [x1, x2])) (upd H T1 (.tup [x1, x2])) := same_upd1 (s1.trans (same_newZ hT1)) upd_same
    have m2 : Same (upd Z1 T1 (.tup [x1, x2])) (upd (upd Z1 T1 (.tup [x1, x2])) T2 (.tup [.int (i : Nat), .ref T1])) := same_newZ (Same.none s2 hT2)
    have rp : Rep K G (upd Z1 T1 (.tup [x1, x2])) (.tup [d1, d2]) (.ref T1) := ⟨T1, [x1, x2], rfl, .inl (.inl upd_same), x1, [x2], rfl, Rep.mono (s.trans m1) _ _ f2, x2, [], rfl, Rep.mono (s.trans m1) _ _ g2, rfl⟩
    rw [Nat.zero_add]
    exact ⟨_, .newZ2 hT1 hT2 ⟨T2, [.int (i : Nat), .ref T1], rfl, .inl (.inl upd_same), .int (i : Nat), [.ref T1], rfl, rfl, .ref T1, [], rfl, Rep.mono m2 _ _ rp, rfl⟩⟩
end
def ez2 : List D × Rho → R (List D × Rho)
  | ([.lst xs, .lst ys], ρ) => .ok (enumD 0 (zipD xs ys), ρ)
  | _ => .no
def iEz (fa : Ea) : Ei := fun ρ => (fa ρ).bind ez2
section
variable {X : Cx} {G : Wd} {W : WX} {p p2 pos pos2 tpos : Pos} {e e2 : Expr}
theorem ri_enumz {fa : Ea} {elts : List Expr} {kk : Nat} (hg : Gl X "enumerate") (hm : X.mg "enumerate" = none) (hg2 : Gl X "zip") (hm2 : X.mg "zip" = none) (ha : PA X [e, e2] (tA X.K G W fa))
    (hs : starEach [e, e2] X.env = (false, eval e X.env) :: starEach [e2] X.env := by rfl) (hpl : (backTo pos2 (starEach [e2] X.env)).any (·.1) = false := by rfl) :
    L2.PI X (.Tuple elts kk tpos) (.Call (.Name "enumerate" p) [.Call (.Name "zip" p2) [e, e2] [] pos2] [] pos) (tI X.K G W (iEz fa)) := (pi_enumZ hg hm hg2 hm2 ha hs hpl).imp fun σ H Q h => by
  refine ti_bindA h fun B Z Φ ρ1 H1 vs ds k r q => ?_
  unfold ez2 at q
  split at q
  · rename_i xs ys ρ' ee
    cases ee
    obtain ⟨v, us, rfl, r1, r2⟩ := r
    obtain ⟨a, as, rfl, sa, ra⟩ := r1
    obtain ⟨v2, us2, rfl, r3, r4⟩ := (r2 : RepL X.K G Z [_] us)
    obtain ⟨b, bs, rfl, sb, rb⟩ := r3
    cases (show us2 = [] from r4)
    exact ⟨a, b, as, bs, rfl, .inl (.inl (k.zh _ _ sa)), .inl (.inl (k.zh _ _ sb)), q Z H1 _ Ext.refl k (it_enzL (.inl (.inl sa)) (.inl (.inl sb)) ra rb)⟩
  · exact q.elim
end
variable {ρ ρ1 : Rho}
theorem v_ez {fr : Ea} {xs ys : List D} (h : fr ρ = .ok ([.lst xs, .lst ys], ρ1)) : iEz fr ρ = .ok (enumD 0 (zipD xs ys), ρ1) := by
  unfold iEz
  rw [h]
  rfl
theorem pt_of {X : Cx} {e : Expr} {t : TT} (h : L2.PW X e t) : L2.PT X e t := h.pt
end Rf
end
section
set_option Elab.async false
set_option linter.all false
set_option maxRecDepth 100000
set_option maxHeartbeats 4000000
/-! Rf, part K: twins that walk lists. -/
namespace Rf
open PySem PySem.Spec PyProof.Rows L2
def aL {τ α : Type} (f : τ → Option α) : List τ → Option (List α)
  | [] => some []
  | x :: xs => match f x with
    | some v => match aL f xs with
      | some vs => some (v :: vs)
      | none => none
    | none => none
def aLF {τ α : Type} (f : τ → Option (Option α)) : List τ → Option (List α)
  | [] => some []
  | x :: xs => match f x with
    | some none => aLF f xs
    | some (some v) => match aLF f xs with
      | some vs => some (v :: vs)
      | none => none
    | none => none
def aForL {τ β : Type} (f : τ → β → Option β) : List τ → β → Option β
  | [], s => some s
  | x :: xs, s => match f x s with
    | some s' => aForL f xs s'
    | none => none
theorem lc_goL {τ α : Type} {enc : α → D} {c : τ → D} {t : Tg} {fe : Ev} {vs : List Nat} {f : τ → Option α} {ρw : Rho} (h5 : ∀ i v, f i = some v → ∃ ρa ρb, bindT t (c i) ρw = some ρa ∧ fe ρa = .ok (.fz (enc v), ρb) ∧ wipeR ρb vs = ρw) :
    ∀ (L : List τ) (xs : List α), aL f L = some xs → lcGo t tYesF fe vs (L.map c) ρw = .ok (xs.map enc, ρw)
  | [], xs, h => by cases h; rfl
  | i :: L, xs, h => by
    rw [aL] at h
    cases hf : f i with
    | none => rw [hf] at h; cases h
    | some v =>
      rw [hf] at h
      simp only [] at h
      cases hr : aL f L with
      | none => rw [hr] at h; cases h
      | some ys =>
        rw [hr] at h
        cases h
        obtain ⟨ρa, ρb, e1, e2, e3⟩ := h5 i v hf
        rw [List.map_cons, lcGo, e1]
        simp only [tYesF]
        rw [e2]
        simp only [useV]
        rw [e3, lc_goL h5 L ys hr]
        rfl
theorem v_lcL {τ α : Type} {enc : α → D} {c : τ → D} {fi : Ei} {t : Tg} {fe : Ev} {vs : List Nat} {ρ ρ1 ρw : Rho} {f : τ → Option α} {L : List τ} {xs : List α} (h1 : fi ρ = .ok (L.map c, ρ1)) (h2 : noOwn ρ1 vs = true) (g : szOk L.length = true) (h4 : wipeR ρ1 vs = ρw)
    (h5 : ∀ i v, f i = some v → ∃ ρa ρb, bindT t (c i) ρw = some ρa ∧ fe ρa = .ok (.fz (enc v), ρb) ∧ wipeR ρb vs = ρw) (h6 : backR ρw ρ1 vs = ρ1) (h : aL f L = some xs) : eLc vs fi t tYesF fe ρ = .ok (.fr (xs.map enc), ρ1) := by
  show (fi ρ).bind _ = _
  rw [h1]
  show lcK vs t tYesF fe (L.map c, ρ1) = _
  unfold lcK
  simp only []
  rw [if_pos (by rw [Bool.and_eq_true, h2, List.length_map]; exact ⟨rfl, g⟩), h4, lc_goL h5 L xs h]
  show R.ok (PV.fr (xs.map enc), backR ρw ρ1 vs) = _
  rw [h6]
theorem lc_goLF {τ α : Type} {enc : α → D} {c : τ → D} {t : Tg} {ft : Et} {fe : Ev} {vs : List Nat} {f : τ → Option (Option α)} {ρw : Rho}
    (h5 : ∀ i v, f i = some v → ∃ (ρa : Rho) (b : Bool), bindT t (c i) ρw = some ρa ∧ ft ρa = .ok (b, ρa) ∧ ((b = false ∧ v = none ∧ wipeR ρa vs = ρw) ∨ ∃ y ρb, b = true ∧ v = some y ∧ fe ρa = .ok (.fz (enc y), ρb) ∧ wipeR ρb vs = ρw)) :
    ∀ (L : List τ) (xs : List α), aLF f L = some xs → lcGo t ft fe vs (L.map c) ρw = .ok (xs.map enc, ρw)
  | [], xs, h => by cases h; rfl
  | i :: L, xs, h => by
    rw [aLF] at h
    cases hf : f i with
    | none => rw [hf] at h; cases h
    | some v =>
      rw [hf] at h
      obtain ⟨ρa, b, e1, e2, e3⟩ := h5 i v hf
      rw [List.map_cons, lcGo, e1]
      simp only []
      rw [e2]
      rcases e3 with ⟨rfl, rfl, e4⟩ | ⟨y, ρb, rfl, rfl, e4, e5⟩
      · simp only []
        rw [e4]
        exact lc_goLF h5 L xs h
      · simp only [] at h ⊢
        cases hr : aLF f L with
        | none => rw [hr] at h; cases h
        | some ys =>
          rw [hr] at h
          cases h
          rw [e4]
          simp only [useV]
          rw [e5, lc_goLF h5 L ys hr]
          rfl
theorem v_lcLF {τ α : Type} {enc : α → D} {c : τ → D} {fi : Ei} {t : Tg} {ft : Et} {fe : Ev} {vs : List Nat} {ρ ρ1 ρw : Rho} {f : τ → Option (Option α)} {L : List τ} {xs : List α} (h1 : fi ρ = .ok (L.map c, ρ1)) (h2 : noOwn ρ1 vs = true) (g : szOk L.length = true) (h4 : wipeR ρ1 vs = ρw)
    (h5 : ∀ i v, f i = some v → ∃ (ρa : Rho) (b : Bool), bindT t (c i) ρw = some ρa ∧ ft ρa = .ok (b, ρa) ∧ ((b = false ∧ v = none ∧ wipeR ρa vs = ρw) ∨ ∃ y ρb, b = true ∧ v = some y ∧ fe ρa = .ok (.fz (enc y), ρb) ∧ wipeR ρb vs = ρw)) (h6 : backR ρw ρ1 vs = ρ1) (h : aLF f L = some xs) : eLc vs fi t ft fe ρ = .ok (.fr (xs.map enc), ρ1) := by
  show (fi ρ).bind _ = _
  rw [h1]
  show lcK vs t ft fe (L.map c, ρ1) = _
  unfold lcK
  simp only []
  rw [if_pos (by rw [Bool.and_eq_true, h2, List.length_map]; exact ⟨rfl, g⟩), h4, lc_goLF h5 L xs h]
  show R.ok (PV.fr (xs.map enc), backR ρw ρ1 vs) = _
  rw [h6]
section
variable {α β τ : Type} {rest fb : Es} {ρ : Rho} {P : α → R (Fl × Rho) → Prop}
theorem for_goL {J : β → Rho → Prop} {tg : Tg} {c : τ → D} {bf : τ → β → Option β} (hb : ∀ i s ρ', J s ρ' → ∃ ρ1, bindT tg (c i) ρ' = some ρ1 ∧ JS fb ρ1 (bf i s) (PI J)) : ∀ (L : List τ) (s s' : β) (ρ : Rho), J s ρ → aForL bf L s = some s' → ∃ ρ', forGo tg fb (L.map c) ρ = .ok (.nx, ρ') ∧ J s' ρ'
  | [], s, s', ρ, hs, h => by cases h; exact ⟨ρ, rfl, hs⟩
  | i :: L, s, s', ρ, hs, h => by
    rw [aForL] at h
    obtain ⟨ρ1, e1, e2⟩ := hb i s ρ hs
    cases hf : bf i s with
    | none => rw [hf] at h; cases h
    | some s1 =>
      rw [hf] at h
      obtain ⟨ρ2, e3, e4⟩ := e2 s1 hf
      obtain ⟨ρ3, e5, e6⟩ := for_goL hb L s1 s' ρ2 e4 h
      exact ⟨ρ3, forGo_nx e1 e3 e5, e6⟩
theorem js_forL {J : β → Rho → Prop} {tg : Tg} {c : τ → D} {fi : Ei} {L : List τ} {s0 : β} {bf : τ → β → Option β} {k : β → Option α} {ρ1 : Rho} (hi : fi ρ = .ok (L.map c, ρ1)) (h0 : J s0 ρ1)
    (hb : ∀ i s ρ', J s ρ' → ∃ ρ2, bindT tg (c i) ρ' = some ρ2 ∧ JS fb ρ2 (bf i s) (PI J)) (n : ∀ s ρ', J s ρ' → JS rest ρ' (k s) P) : JS (sSeq (sFor fi tg fb) rest) ρ (bd (aForL bf L s0) k) P := by
  refine js_bd fun s hs => ?_
  obtain ⟨ρ2, e, hj⟩ := for_goL hb L s0 s ρ1 h0 hs
  exact js_st (v_for hi e) (n s ρ2 hj)
/-- a list of one's own as the answer -/
def PRL (enc : τ → D) (v : List τ) (r : R (Fl × Rho)) : Prop := ∃ ρ', r = .ok (.rt (.fr (v.map enc)), ρ')
theorem js_retL {f : Ev} {enc : τ → D} {v : List τ} {j : Nat} {ρ1 : Rho} (e : f ρ = .ok (.at j, ρ1)) (h : ρ1[j]? = some (.ow false (v.map enc))) : JS (sRet f) ρ (some v) (PRL enc) := fun a q => by
  cases q
  refine ⟨ρ1.set j .un, v_ret e ?_⟩
  show (match ρ1[j]? with
    | some (.ow false xs) => R.ok (Fl.rt (.fr xs), ρ1.set j .un)
    | _ => .no) = _
  rw [h]
theorem out_eqL {F : R PV} {r : R (Fl × Rho)} {enc : τ → D} {v : List τ} (e : F = outF r) (h : PRL enc v r) : F = .ok (.fr (v.map enc)) := by
  obtain ⟨ρ', e'⟩ := h
  rw [e, e']
  rfl
theorem js_ifT1 {J : β → Rho → Prop} {t : Et} {s1 s2 : Es} {o1 : Option β} {k : β → Option α} (ht : t ρ = .ok (true, ρ)) (h : JS s1 ρ o1 (PI J)) (n : ∀ s ρ', J s ρ' → JS rest ρ' (k s) P) : JS (sSeq (sIf t s1 s2) rest) ρ (bd o1 k) P := by
  refine js_bd fun s hs => ?_
  obtain ⟨ρ2, e, hj⟩ := h s hs
  exact js_st (v_sifT ht e) (n s ρ2 hj)
end
/-- the numbers from lo, two by two -/
def rg2s (lo : Int) (n : Nat) : List Int := (List.range n).map fun (i : Nat) => lo + (i : Int) * 2
theorem v_rg3 {fr : Ea} {i j : Int} {ρ : Rho} (h : fr ρ = .ok ([.int i, .int j, .int 2], ρ)) (g : ((decide (-1000000 ≤ i) && decide (i ≤ 1000000)) && (decide (-1000000 ≤ j) && decide (j ≤ 1000000))) = true) : iRg3 fr ρ = .ok ((rg2s i ((j - i + 1) / 2).toNat).map D.int, ρ) := by
  show (fr ρ).bind rg3 = _
  rw [h]
  show rg3 ([.int i, .int j, .int 2], ρ) = _
  unfold rg3
  simp only []
  rw [if_neg (by simp), if_pos (by rw [g]; rfl)]
  show R.ok (rangeC i 2 _, ρ) = _
  unfold rangeC rg2s
  rw [List.map_map]
  rfl
theorem cut1 {α : Type} (enc : α → D) (xs : List α) : cutD (xs.map enc) (some 1) none = (xs.drop 1).map enc := by
  unfold cutD HT.sIx
  cases xs with
  | nil => simp
  | cons x xs =>
    simp
    exact List.take_of_length_le (by simp)
theorem v_sl1 {α : Type} {enc : α → D} {xs : List α} {fa : Ev} {ρ ρ1 : Rho} {pa : PV} (h1 : fa ρ = .ok (pa, ρ1)) (h4 : look ρ1 pa = some (.lst (xs.map enc))) : eSl fa (oSome (eC (.int 1))) oNone ρ = .ok (.fr ((xs.drop 1).map enc), ρ1) :=
  v_sl h1 (v_oS v_c) v_oN h4 (by
    show some (PV.fr (cutD (xs.map enc) (some 1) none)) = _
    rw [cut1])
/-- enumerate(zip(xs, ys)) -/
def enz : Int → List (Int × Int) → List (Int × Int) → List (Int × (Int × Int) × (Int × Int))
  | n, a :: as, b :: bs => (n, a, b) :: enz (n + 1) as bs
  | _, _, _ => []
def enzD (q : Int × (Int × Int) × (Int × Int)) : D := .tup [.int q.1, .tup [rD q.2.1, rD q.2.2]]
theorem enz_map : ∀ (n : Nat) (as bs : List (Int × Int)), enumD n (zipD (RL as) (RL bs)) = (enz (n : Int) as bs).map enzD
  | n, [], bs => by cases bs <;> rfl
  | n, a :: as, [] => rfl
  | n, a :: as, b :: bs => by
    show D.tup [.int (n : Int), .tup [rD a, rD b]] :: enumD (n + 1) (zipD (RL as) (RL bs)) = enzD (n, a, b) :: (enz ((n : Int) + 1) as bs).map enzD
    rw [enz_map (n + 1) as bs]
    rfl
theorem v_ezr {fr : Ea} {xs ys : List (Int × Int)} {ρ ρ1 : Rho} (h : fr ρ = .ok ([.lst (RL xs), .lst (RL ys)], ρ1)) : iEz fr ρ = .ok ((enz 0 xs ys).map enzD, ρ1) := by
  rw [v_ez h, enz_map 0 xs ys]
  rfl
theorem int_b (b : Bool) : gInt (.bl b) = some (.fz (.int (if b then 1 else 0))) := rfl
def oR : R PV → Option (Int × Int)
  | .ok (.fz (.obj 3 [.int a, .int b])) => some (a, b)
  | _ => none
theorem v_notF {t : Et} {ρ ρ1 : Rho} (h : t ρ = .ok (false, ρ1)) : tNotF t ρ = .ok (true, ρ1) := v_not h
theorem v_notT {t : Et} {ρ ρ1 : Rho} (h : t ρ = .ok (true, ρ1)) : tNotF t ρ = .ok (false, ρ1) := v_not h
def eqL (xs ys : List Int) : Option Unit := gd (decide (xs = ys) && decide (xs.length < 1000)) (some ())
end Rf
end
section
set_option Elab.async false
set_option linter.all false
set_option maxRecDepth 100000
set_option maxHeartbeats 0
/-! ### the text -/
namespace L59
open PySem PySem.Spec PyProof.Rows L2 Rf
def topS (i : Nat) : Stmt := PySem.Challenge.pw_localroads_k59_whole_numbers_of_bernoull.main.body.getD i (.Pass ⟨0, 0, 0, 0⟩)
abbrev s__wall : Stmt := topS 0
abbrev s_is_integer : Stmt := topS 6
abbrev s_is_count : Stmt := topS 7
abbrev s_check_count : Stmt := topS 8
abbrev s_common : Stmt := topS 9
abbrev s_binomial : Stmt := topS 10
abbrev s_is_prime : Stmt := topS 11
abbrev s_check_prime : Stmt := topS 12
abbrev s_check_ratio : Stmt := topS 15
abbrev s_check_place : Stmt := topS 18
abbrev s_bernoulli : Stmt := topS 21
abbrev s_numbers_to : Stmt := topS 22
abbrev s_bernoulli_by_triangle : Stmt := topS 23
abbrev s_bernoulli_value : Stmt := topS 24
abbrev s_power_sum : Stmt := topS 25
abbrev s_lower_primes : Stmt := topS 26
abbrev s_check_even : Stmt := topS 27
abbrev s_whole_part : Stmt := topS 28
abbrev s_bad_indexes : Stmt := topS 29
abbrev s_half_numbers : Stmt := topS 30
abbrev s__law_state : Stmt := topS 32
abbrev s__law_take : Stmt := topS 33
abbrev s__law_same : Stmt := topS 34
abbrev s__law_told : Stmt := topS 35
abbrev s__law_is_told : Stmt := topS 36
abbrev s__law_tells : Stmt := topS 37
abbrev s__law_value : Stmt := topS 38
abbrev s__law_bads : Stmt := topS 39
abbrev s__law_choose : Stmt := topS 40
abbrev s__law_raised : Stmt := topS 41
abbrev s__law_number : Stmt := topS 42
abbrev s__law_sum : Stmt := topS 43
abbrev s__law_product : Stmt := topS 44
abbrev s__law_power : Stmt := topS 45
abbrev s_law : Stmt := topS 46
abbrev s_init : Stmt := classSt (topS 4) 0
abbrev s_Rinit : Stmt := classSt (topS 14) 0
abbrev s_Ratio_add : Stmt := classSt (topS 14) 1
abbrev s_Ratio_sub : Stmt := classSt (topS 14) 2
abbrev s_Ratio_mul : Stmt := classSt (topS 14) 3
abbrev s_Ratio_neg : Stmt := classSt (topS 14) 4
abbrev s_Ratio_eq : Stmt := classSt (topS 14) 5
abbrev s_Ratio_times : Stmt := classSt (topS 14) 9
abbrev s_Ratio_is_zero : Stmt := classSt (topS 14) 11
/-! ### the mirror -/
def B__wall : Es := sWhile 1000000 (tOf (eC (.bl true))) (sNil)
def F__wall : Fn := Rf.fnOf 1 B__wall
def B_is_integer : Es := sRet (eAndV (eU (gIsi2 .int) (eVar 0)) (eU gNot (eU (gIsi2 .bool) (eVar 0))))
def F_is_integer : Fn := Rf.fnOf 1 B_is_integer
def B_common : Es := sSeq (sPar 0 1 (eU gAbs (eVar 0)) (eU gAbs (eVar 1)))
  (sSeq (sWhile 1000000 (tOf (eOp gGt (eVar 1) (eC (.int 0)))) (sPar 0 1 (eVar 1) (eOp gMod (eVar 0) (eVar 1))))
  (sRet (eVar 0)))
def F_common : Fn := Rf.fnOf 2 B_common
def B_binomial : Es := sSeq (sIf (tOrF (tOf (eOp gLt (eVar 1) (eC (.int 0)))) (tOf (eOp gGt (eVar 1) (eVar 0)))) (sRet (eC (.int 0))) (sNil))
  (sSeq (sSet 2 (eC (.int 1)))
  (sSeq (sFor (iRg1 (aCons (eVar 1) (aNil))) (.nm 3) (sSet 2 (eOp gDiv (eOp gMul2 (eVar 2) (eOp Rf.gSub (eVar 0) (eVar 3))) (eOp gAdd (eVar 3) (eC (.int 1))))))
  (sRet (eVar 2))))
def F_binomial : Fn := Rf.fnOf 4 B_binomial
def B_check_ratio : Es := sIf (tNotF (tOf (eU gIsR (eVar 0)))) (sMal) (sNil)
def F_check_ratio : Fn := Rf.fnOf 1 B_check_ratio
def B__law_state : Es := sSeq (sSet 1 (eC (.int 0)))
  (sSeq (sSet 2 (eC (.int 1)))
  (sSeq (sFor (iSeq (eSl (eVar 0) (oNone) (oSome (eC (.int 63))))) (.nm 3) (sSeq (sSet 1 (eOp gAdd (eOp gMul2 (eVar 1) (eC (.int 1000003))) (eU gAbs (eVar 3))))
  (sSet 2 (eOp gMod (eU gInt (eOp gAdd (eOp gMul2 (eVar 2) (eC (.int 48271))) (eVar 3))) (eC (.int 2147483647))))))
  (sRet (eLst (aCons (eVar 1) (aCons (eIfF (tOf (eOp gNe (eVar 2) (eC (.int 1973665155)))) (eVar 2) (eC (.int 7))) (aNil)))))))
def F__law_state : Fn := Rf.fnOf 4 B__law_state
def B__law_take : Es := sSeq (sIf (tOf (eOp gGt (eOp gIx (eVar 0) (eC (.int 0))) (eC (.int 0)))) (sSeq (sSet 2 (eOp gMod (eU gInt (eOp gIx (eVar 0) (eC (.int 0)))) (eVar 1)))
  (sSeq (sSto 0 (eC (.int 0)) (eOp gDiv (eOp gIx (eVar 0) (eC (.int 0))) (eVar 1)))
  (sRet (eVar 2)))) (sNil))
  (sSeq (sSto 0 (eC (.int 1)) (eOp gMod (eU gInt (eOp gAdd (eOp gMul2 (eOp gIx (eVar 0) (eC (.int 1))) (eC (.int 48271))) (eC (.int 11)))) (eC (.int 2147483647))))
  (sRet (eOp gMod (eU gInt (eOp gDiv (eOp gIx (eVar 0) (eC (.int 1))) (eC (.int 7)))) (eVar 1))))
def F__law_take : FnB := fnBOf 3 B__law_take
def B__law_choose : Es := sSeq (sIf (tOrF (tOf (eOp gLt (eVar 1) (eC (.int 0)))) (tOf (eOp gGt (eVar 1) (eVar 0)))) (sRet (eC (.int 0))) (sNil))
  (sSeq (sSet 2 (eC (.int 1)))
  (sSeq (sFor (iRg1 (aCons (eVar 1) (aNil))) (.nm 3) (sSet 2 (eOp gDiv (eOp gMul2 (eVar 2) (eOp Rf.gSub (eVar 0) (eVar 3))) (eOp gAdd (eVar 3) (eC (.int 1))))))
  (sRet (eVar 2))))
def F__law_choose : Fn := Rf.fnOf 4 B__law_choose
def B__law_raised : Es := sSeq (sSet 2 (eC (.int 1)))
  (sSeq (sFor (iRg1 (aCons (eVar 1) (aNil))) (.nm 3) (sSet 2 (eOp gMul2 (eVar 2) (eVar 0))))
  (sRet (eVar 2)))
def F__law_raised : Fn := Rf.fnOf 4 B__law_raised
def B_Ratio_eq : Es := sRet (eAndV (eU gIsR (eVar 1)) (eAndV (eOp gEq (eU (gFld 0) (eVar 0)) (eU (gFld 0) (eVar 1))) (eOp gEq (eU (gFld 1) (eVar 0)) (eU (gFld 1) (eVar 1)))))
def F_Ratio_eq : Fn := Rf.fnOf 2 B_Ratio_eq
def B_Ratio_is_zero : Es := sRet (eOp gEq (eU (gFld 0) (eVar 0)) (eC (.int 0)))
def F_Ratio_is_zero : Fn := Rf.fnOf 1 B_Ratio_is_zero
def B_is_count : Es := sRet (eAndV (eCall 1 F_is_integer [] (aCons (eVar 0) (aNil))) (eChain gLe gLe (eVar 1) (eVar 0) (eVar 2)))
def F_is_count : Fn := Rf.fnOf 3 B_is_count
def B_is_prime : Es := sSeq (sIf (tOrF (tNotF (tOf (eCall 1 F_is_integer [] (aCons (eVar 0) (aNil))))) (tOf (eOp gLt (eVar 0) (eC (.int 2))))) (sRet (eC (.bl false))) (sNil))
  (sSeq (sSet 1 (eC (.int 2)))
  (sSeq (sWhile 1000000 (tOf (eOp gLe (eOp gMul2 (eVar 1) (eVar 1)) (eVar 0))) (sSeq (sIf (tOf (eOp gEq (eOp gMod (eVar 0) (eVar 1)) (eC (.int 0)))) (sRet (eC (.bl false))) (sNil))
  (sSet 1 (eOp gAdd (eVar 1) (eC (.int 1))))))
  (sRet (eC (.bl true)))))
def F_is_prime : Fn := Rf.fnOf 2 B_is_prime
def B_check_count : Es := sIf (tNotF (tOf (eCall 3 F_is_count [] (aCons (eVar 0) (aCons (eVar 1) (aCons (eVar 2) (aNil))))))) (sMal) (sNil)
def F_check_count : Fn := Rf.fnOf 3 B_check_count
def B_check_prime : Es := sIf (tOrF (tNotF (tOf (eCall 3 F_is_count [] (aCons (eVar 0) (aCons (eC (.int 2)) (aCons (eVar 1) (aNil))))))) (tNotF (tOf (eCall 1 F_is_prime [] (aCons (eVar 0) (aNil)))))) (sMal) (sNil)
def F_check_prime : Fn := Rf.fnOf 2 B_check_prime
def I1_Ratio : Es := sIf (tOrF (tNotF (tOf (eCall 1 F_is_integer [] (aCons (eVar 1) (aNil))))) (tNotF (tOf (eCall 1 F_is_integer [] (aCons (eVar 2) (aNil)))))) (sMal) (sNil)
def I2_Ratio : Es := sIf (tOf (eOp gEq (eVar 2) (eC (.int 0)))) (sRfd (aCons (eC (.str "zero")) (aNil))) (sNil)
def I3_Ratio : Es := sSet 3 (eCall 2 F_common [] (aCons (eVar 1) (aCons (eVar 2) (aNil))))
def I4_Ratio : Ev := eIfF (tOf (eOp gGt (eVar 2) (eC (.int 0)))) (eOp gDiv (eVar 1) (eVar 3)) (eOp gDiv (eU gNeg (eVar 1)) (eVar 3))
def I5_Ratio : Ev := eOp gDiv (eU gAbs (eVar 2)) (eVar 3)
def FI_Ratio : List D → R (List D) := iniOf 4 (sSeq I1_Ratio (sSeq I2_Ratio I3_Ratio)) I4_Ratio I5_Ratio
def B_check_place : Es := sExpr (eCall 2 F_check_prime [] (aCons (eVar 0) (aCons (eC (.int 997)) (aNil))))
def F_check_place : Fn := Rf.fnOf 1 B_check_place
def B_check_even : Es := sSeq (sExpr (eCall 3 F_check_count [] (aCons (eVar 0) (aCons (eC (.int 2)) (aCons (eC (.int 120)) (aNil))))))
  (sIf (tOf (eOp gNe (eOp gMod (eVar 0) (eC (.int 2))) (eC (.int 0)))) (sMal) (sNil))
def F_check_even : Fn := Rf.fnOf 1 B_check_even
def B_lower_primes : Es := sSeq (sExpr (eCall 1 F_check_even [] (aCons (eVar 0) (aNil))))
  (sRet (eU gTup (eLc [1] (iRg2 (aCons (eC (.int 2)) (aCons (eOp gAdd (eVar 0) (eC (.int 2))) (aNil)))) (.nm 1) (tAndF (tOf (eCall 1 F_is_prime [] (aCons (eVar 1) (aNil)))) (tOf (eOp gEq (eOp gMod (eVar 0) (eOp Rf.gSub (eVar 1) (eC (.int 1)))) (eC (.int 0))))) (eVar 1))))
def F_lower_primes : Fn := Rf.fnOf 2 B_lower_primes
def B_Ratio_add : Es := sSeq (sExpr (eCall 1 F_check_ratio [] (aCons (eVar 1) (aNil))))
  (sRet (eNew 3 2 2 FI_Ratio [] (aCons (eOp gAdd (eOp gMul2 (eU (gFld 0) (eVar 0)) (eU (gFld 1) (eVar 1))) (eOp gMul2 (eU (gFld 0) (eVar 1)) (eU (gFld 1) (eVar 0)))) (aCons (eOp gMul2 (eU (gFld 1) (eVar 0)) (eU (gFld 1) (eVar 1))) (aNil)))))
def F_Ratio_add : Fn := Rf.fnOf 2 B_Ratio_add
def B_Ratio_sub : Es := sSeq (sExpr (eCall 1 F_check_ratio [] (aCons (eVar 1) (aNil))))
  (sRet (eNew 3 2 2 FI_Ratio [] (aCons (eOp Rf.gSub (eOp gMul2 (eU (gFld 0) (eVar 0)) (eU (gFld 1) (eVar 1))) (eOp gMul2 (eU (gFld 0) (eVar 1)) (eU (gFld 1) (eVar 0)))) (aCons (eOp gMul2 (eU (gFld 1) (eVar 0)) (eU (gFld 1) (eVar 1))) (aNil)))))
def F_Ratio_sub : Fn := Rf.fnOf 2 B_Ratio_sub
def B_Ratio_mul : Es := sSeq (sExpr (eCall 1 F_check_ratio [] (aCons (eVar 1) (aNil))))
  (sRet (eNew 3 2 2 FI_Ratio [] (aCons (eOp gMul2 (eU (gFld 0) (eVar 0)) (eU (gFld 0) (eVar 1))) (aCons (eOp gMul2 (eU (gFld 1) (eVar 0)) (eU (gFld 1) (eVar 1))) (aNil)))))
def F_Ratio_mul : Fn := Rf.fnOf 2 B_Ratio_mul
def B_Ratio_neg : Es := sRet (eNew 3 2 2 FI_Ratio [] (aCons (eU gNeg (eU (gFld 0) (eVar 0))) (aCons (eU (gFld 1) (eVar 0)) (aNil))))
def F_Ratio_neg : Fn := Rf.fnOf 1 B_Ratio_neg
def B_Ratio_times : Es := sRet (eNew 3 2 2 FI_Ratio [] (aCons (eOp gMul2 (eU (gFld 0) (eVar 0)) (eVar 1)) (aCons (eU (gFld 1) (eVar 0)) (aNil))))
def F_Ratio_times : Fn := Rf.fnOf 2 B_Ratio_times
def B_numbers_to : Es := sSeq (sSet 1 (eLst (aCons (eNew 3 2 2 FI_Ratio [.int 1] (aCons (eC (.int 1)) (aNil))) (aNil))))
  (sSeq (sFor (iRg2 (aCons (eC (.int 1)) (aCons (eOpR gAdd F_Ratio_add (eVar 0) (eC (.int 1))) (aNil)))) (.nm 2) (sIf (tAndF (tOf (eOp gGt (eVar 2) (eC (.int 1)))) (tOf (eOp gEq (eOp gMod (eVar 2) (eC (.int 2))) (eC (.int 1))))) (sApp 1 (eNew 3 2 2 FI_Ratio [.int 1] (aCons (eC (.int 0)) (aNil)))) (sSeq (sSet 3 (eNew 3 2 2 FI_Ratio [.int 1] (aCons (eC (.int 0)) (aNil))))
  (sSeq (sFor (iRg1 (aCons (eVar 2) (aNil))) (.nm 4) (sIf (tNotF (tOf (eMeth 1 F_Ratio_is_zero (eOp gIx (eVar 1) (eVar 4)) aNil))) (sSet 3 (eOpR gAdd F_Ratio_add (eVar 3) (eMeth 2 F_Ratio_times (eOp gIx (eVar 1) (eVar 4)) (aCons (eCall 2 F_binomial [] (aCons (eOpR gAdd F_Ratio_add (eVar 2) (eC (.int 1))) (aCons (eVar 4) (aNil)))) (aNil))))) (sNil)))
  (sApp 1 (eOpR gMul2 F_Ratio_mul (eUR gNeg F_Ratio_neg (eVar 3)) (eNew 3 2 2 FI_Ratio [] (aCons (eC (.int 1)) (aCons (eOpR gAdd F_Ratio_add (eVar 2) (eC (.int 1))) (aNil))))))))))
  (sRet (eVar 1)))
def F_numbers_to : Fn := Rf.fnOf 5 B_numbers_to
def B_bernoulli_by_triangle : Es := sSeq (sExpr (eCall 3 F_check_count [] (aCons (eVar 0) (aCons (eC (.int 0)) (aCons (eC (.int 120)) (aNil))))))
  (sSeq (sSet 1 (eLc [3] (iRg1 (aCons (eOpR gAdd F_Ratio_add (eVar 0) (eC (.int 1))) (aNil))) (.nm 3) (tYesF) (eNew 3 2 2 FI_Ratio [] (aCons (eC (.int 1)) (aCons (eOpR gAdd F_Ratio_add (eVar 3) (eC (.int 1))) (aNil))))))
  (sSeq (sFor (iRg1 (aCons (eVar 0) (aNil))) (.nm 2) (sSet 1 (eLc [3, 4, 5] (iEz (aCons (eVar 1) (aCons (eSl (eVar 1) (oSome (eC (.int 1))) (oNone)) (aNil)))) (.tq 3 [4, 5]) (tYesF) (eMeth 2 F_Ratio_times (eOpR Rf.gSub F_Ratio_sub (eVar 4) (eVar 5)) (aCons (eOpR gAdd F_Ratio_add (eVar 3) (eC (.int 1))) (aNil))))))
  (sRet (eIfF (tOf (eOp gEq (eVar 0) (eC (.int 1)))) (eUR gNeg F_Ratio_neg (eOp gIx (eVar 1) (eC (.int 0)))) (eOp gIx (eVar 1) (eC (.int 0)))))))
def F_bernoulli_by_triangle : Fn := Rf.fnOf 6 B_bernoulli_by_triangle
def B__law_number : Es := sRet (eNew 3 2 2 FI_Ratio [] (aCons (eOpR Rf.gSub F_Ratio_sub (eCallB 0 2 F__law_take (aCons (eOpR gAdd F_Ratio_add (eOpR gMul2 F_Ratio_mul (eC (.int 2)) (eVar 1)) (eC (.int 1))) (aNil))) (eVar 1)) (aCons (eOpR gAdd F_Ratio_add (eC (.int 1)) (eCallB 0 2 F__law_take (aCons (eC (.int 3)) (aNil)))) (aNil))))
def F__law_number : FnB := fnBOf 2 B__law_number
def B__law_sum : Es := sSeq (sSet 1 (eNew 3 2 2 FI_Ratio [.int 1] (aCons (eC (.int 0)) (aNil))))
  (sSeq (sFor (iSeq (eVar 0)) (.nm 2) (sSet 1 (eOpR gAdd F_Ratio_add (eVar 1) (eVar 2))))
  (sRet (eVar 1)))
def F__law_sum : Fn := Rf.fnOf 3 B__law_sum
def B__law_product : Es := sSeq (sSet 1 (eNew 3 2 2 FI_Ratio [.int 1] (aCons (eC (.int 1)) (aNil))))
  (sSeq (sFor (iSeq (eVar 0)) (.nm 2) (sSet 1 (eOpR gMul2 F_Ratio_mul (eVar 1) (eVar 2))))
  (sRet (eVar 1)))
def F__law_product : Fn := Rf.fnOf 3 B__law_product
def B_bernoulli : Es := sSeq (sExpr (eCall 3 F_check_count [] (aCons (eVar 0) (aCons (eC (.int 0)) (aCons (eC (.int 120)) (aNil))))))
  (sRet (eOp gIx (eCall 1 F_numbers_to [] (aCons (eVar 0) (aNil))) (eVar 0)))
def F_bernoulli : Fn := Rf.fnOf 1 B_bernoulli
def B_bernoulli_value : Es := sSeq (sExpr (eCall 3 F_check_count [] (aCons (eVar 0) (aCons (eC (.int 0)) (aCons (eC (.int 40)) (aNil))))))
  (sSeq (sIf (tNotF (tOf (eU gIsR (eVar 1)))) (sSeq (sIf (tNotF (tOf (eCall 1 F_is_integer [] (aCons (eVar 1) (aNil))))) (sMal) (sNil))
  (sSet 1 (eNew 3 2 2 FI_Ratio [.int 1] (aCons (eVar 1) (aNil))))) (sNil))
  (sSeq (sPar 2 3 (eCall 1 F_numbers_to [] (aCons (eVar 0) (aNil))) (eNew 3 2 2 FI_Ratio [.int 1] (aCons (eC (.int 0)) (aNil))))
  (sSeq (sFor (iRg1 (aCons (eOpR gAdd F_Ratio_add (eVar 0) (eC (.int 1))) (aNil))) (.nm 4) (sSet 3 (eOpR gAdd F_Ratio_add (eOpR gMul2 F_Ratio_mul (eVar 3) (eVar 1)) (eMeth 2 F_Ratio_times (eOp gIx (eVar 2) (eVar 4)) (aCons (eCall 2 F_binomial [] (aCons (eVar 0) (aCons (eVar 4) (aNil)))) (aNil))))))
  (sRet (eVar 3)))))
def F_bernoulli_value : Fn := Rf.fnOf 5 B_bernoulli_value
def B_bad_indexes : Es := sSeq (sExpr (eCall 1 F_check_place [] (aCons (eVar 0) (aNil))))
  (sSeq (sIf (tOrF (tOf (eOp gLt (eVar 0) (eC (.int 3)))) (tOf (eOp gGt (eVar 0) (eC (.int 113))))) (sMal) (sNil))
  (sSeq (sSet 1 (eCall 1 F_numbers_to [] (aCons (eOp gMax (eOpR Rf.gSub F_Ratio_sub (eVar 0) (eC (.int 3))) (eC (.int 0))) (aNil))))
  (sRet (eU gTup (eLc [2] (iRg3 (aCons (eC (.int 2)) (aCons (eOpR Rf.gSub F_Ratio_sub (eVar 0) (eC (.int 2))) (aCons (eC (.int 2)) (aNil))))) (.nm 2) (tOf (eOp gEq (eOp gMod (eU (gFld 0) (eOp gIx (eVar 1) (eVar 2))) (eVar 0)) (eC (.int 0)))) (eVar 2))))))
def F_bad_indexes : Fn := Rf.fnOf 3 B_bad_indexes
def B_half_numbers : Es := sSeq (sExpr (eCall 1 F_check_even [] (aCons (eVar 0) (aNil))))
  (sSeq (sSet 1 (eCall 1 F_numbers_to [] (aCons (eVar 0) (aNil))))
  (sRet (eU gTup (eLc [2] (iRg3 (aCons (eC (.int 2)) (aCons (eOpR gAdd F_Ratio_add (eVar 0) (eC (.int 1))) (aCons (eC (.int 2)) (aNil))))) (.nm 2) (tYesF) (eU (gFld 1) (eOp gIx (eVar 1) (eVar 2)))))))
def F_half_numbers : Fn := Rf.fnOf 3 B_half_numbers
def F__law_same_0 : Fn := fun _ => .no
def B__law_same_1 : Es := sSeq (sIf (tOf (eU (gIsi2 .list) (eVar 1))) (sRet (eAndV (eU (gIsi2 .list) (eVar 0)) (eCall 2 F__law_same_0 [] (aCons (eU gTup (eVar 0)) (aCons (eU gTup (eVar 1)) (aNil)))))) (sNil))
  (sSeq (sIf (tOf (eU (gIsi2 .tuple) (eVar 1))) (sRet (eAndV (eU (gIsi2 .tuple) (eVar 0)) (eAndV (eOp gEq (eU gLen (eVar 0)) (eU gLen (eVar 1))) (eU gAll (eLc [2] (iRg1 (aCons (eU gLen (eVar 1)) (aNil))) (.nm 2) (tYesF) (eCall 2 F__law_same_0 [] (aCons (eOp gIx (eVar 0) (eVar 2)) (aCons (eOp gIx (eVar 1) (eVar 2)) (aNil))))))))) (sNil))
  (sSeq (sIf (tOf (eOp gIsN (eVar 1) (eC .non))) (sRet (eOp gIsN (eVar 0) (eC .non))) (sNil))
  (sSeq (sIf (tOf (eU (gIsi2 .bool) (eVar 1))) (sRet (eAndV (eU (gIsi2 .bool) (eVar 0)) (eOpR gEq F_Ratio_eq (eVar 0) (eVar 1)))) (sNil))
  (sSeq (sIf (tOf (eU (gIsi2 .str) (eVar 1))) (sRet (eAndV (eU (gIsi2 .str) (eVar 0)) (eOpR gEq F_Ratio_eq (eVar 0) (eVar 1)))) (sNil))
  (sSeq (sIf (tOf (eU (gIsi2 .int) (eVar 1))) (sRet (eAndV (eU (gIsi2 .int) (eVar 0)) (eAndV (eU gNot (eU (gIsi2 .bool) (eVar 0))) (eOpR gEq F_Ratio_eq (eVar 0) (eVar 1))))) (sNil))
  (sRet (eAndV (eU gNot (eU (gIsi2 .int) (eVar 0))) (eOpR gEq F_Ratio_eq (eVar 0) (eVar 1)))))))))
def F__law_same_1 : Fn := Rf.fnOf 3 B__law_same_1
def B__law_same_2 : Es := sSeq (sIf (tOf (eU (gIsi2 .list) (eVar 1))) (sRet (eAndV (eU (gIsi2 .list) (eVar 0)) (eCall 2 F__law_same_1 [] (aCons (eU gTup (eVar 0)) (aCons (eU gTup (eVar 1)) (aNil)))))) (sNil))
  (sSeq (sIf (tOf (eU (gIsi2 .tuple) (eVar 1))) (sRet (eAndV (eU (gIsi2 .tuple) (eVar 0)) (eAndV (eOp gEq (eU gLen (eVar 0)) (eU gLen (eVar 1))) (eU gAll (eLc [2] (iRg1 (aCons (eU gLen (eVar 1)) (aNil))) (.nm 2) (tYesF) (eCall 2 F__law_same_1 [] (aCons (eOp gIx (eVar 0) (eVar 2)) (aCons (eOp gIx (eVar 1) (eVar 2)) (aNil))))))))) (sNil))
  (sSeq (sIf (tOf (eOp gIsN (eVar 1) (eC .non))) (sRet (eOp gIsN (eVar 0) (eC .non))) (sNil))
  (sSeq (sIf (tOf (eU (gIsi2 .bool) (eVar 1))) (sRet (eAndV (eU (gIsi2 .bool) (eVar 0)) (eOpR gEq F_Ratio_eq (eVar 0) (eVar 1)))) (sNil))
  (sSeq (sIf (tOf (eU (gIsi2 .str) (eVar 1))) (sRet (eAndV (eU (gIsi2 .str) (eVar 0)) (eOpR gEq F_Ratio_eq (eVar 0) (eVar 1)))) (sNil))
  (sSeq (sIf (tOf (eU (gIsi2 .int) (eVar 1))) (sRet (eAndV (eU (gIsi2 .int) (eVar 0)) (eAndV (eU gNot (eU (gIsi2 .bool) (eVar 0))) (eOpR gEq F_Ratio_eq (eVar 0) (eVar 1))))) (sNil))
  (sRet (eAndV (eU gNot (eU (gIsi2 .int) (eVar 0))) (eOpR gEq F_Ratio_eq (eVar 0) (eVar 1)))))))))
def F__law_same_2 : Fn := Rf.fnOf 3 B__law_same_2
def B__law_same_3 : Es := sSeq (sIf (tOf (eU (gIsi2 .list) (eVar 1))) (sRet (eAndV (eU (gIsi2 .list) (eVar 0)) (eCall 2 F__law_same_2 [] (aCons (eU gTup (eVar 0)) (aCons (eU gTup (eVar 1)) (aNil)))))) (sNil))
  (sSeq (sIf (tOf (eU (gIsi2 .tuple) (eVar 1))) (sRet (eAndV (eU (gIsi2 .tuple) (eVar 0)) (eAndV (eOp gEq (eU gLen (eVar 0)) (eU gLen (eVar 1))) (eU gAll (eLc [2] (iRg1 (aCons (eU gLen (eVar 1)) (aNil))) (.nm 2) (tYesF) (eCall 2 F__law_same_2 [] (aCons (eOp gIx (eVar 0) (eVar 2)) (aCons (eOp gIx (eVar 1) (eVar 2)) (aNil))))))))) (sNil))
  (sSeq (sIf (tOf (eOp gIsN (eVar 1) (eC .non))) (sRet (eOp gIsN (eVar 0) (eC .non))) (sNil))
  (sSeq (sIf (tOf (eU (gIsi2 .bool) (eVar 1))) (sRet (eAndV (eU (gIsi2 .bool) (eVar 0)) (eOpR gEq F_Ratio_eq (eVar 0) (eVar 1)))) (sNil))
  (sSeq (sIf (tOf (eU (gIsi2 .str) (eVar 1))) (sRet (eAndV (eU (gIsi2 .str) (eVar 0)) (eOpR gEq F_Ratio_eq (eVar 0) (eVar 1)))) (sNil))
  (sSeq (sIf (tOf (eU (gIsi2 .int) (eVar 1))) (sRet (eAndV (eU (gIsi2 .int) (eVar 0)) (eAndV (eU gNot (eU (gIsi2 .bool) (eVar 0))) (eOpR gEq F_Ratio_eq (eVar 0) (eVar 1))))) (sNil))
  (sRet (eAndV (eU gNot (eU (gIsi2 .int) (eVar 0))) (eOpR gEq F_Ratio_eq (eVar 0) (eVar 1)))))))))
def F__law_same_3 : Fn := Rf.fnOf 3 B__law_same_3
def B__law_same_4 : Es := sSeq (sIf (tOf (eU (gIsi2 .list) (eVar 1))) (sRet (eAndV (eU (gIsi2 .list) (eVar 0)) (eCall 2 F__law_same_3 [] (aCons (eU gTup (eVar 0)) (aCons (eU gTup (eVar 1)) (aNil)))))) (sNil))
  (sSeq (sIf (tOf (eU (gIsi2 .tuple) (eVar 1))) (sRet (eAndV (eU (gIsi2 .tuple) (eVar 0)) (eAndV (eOp gEq (eU gLen (eVar 0)) (eU gLen (eVar 1))) (eU gAll (eLc [2] (iRg1 (aCons (eU gLen (eVar 1)) (aNil))) (.nm 2) (tYesF) (eCall 2 F__law_same_3 [] (aCons (eOp gIx (eVar 0) (eVar 2)) (aCons (eOp gIx (eVar 1) (eVar 2)) (aNil))))))))) (sNil))
  (sSeq (sIf (tOf (eOp gIsN (eVar 1) (eC .non))) (sRet (eOp gIsN (eVar 0) (eC .non))) (sNil))
  (sSeq (sIf (tOf (eU (gIsi2 .bool) (eVar 1))) (sRet (eAndV (eU (gIsi2 .bool) (eVar 0)) (eOpR gEq F_Ratio_eq (eVar 0) (eVar 1)))) (sNil))
  (sSeq (sIf (tOf (eU (gIsi2 .str) (eVar 1))) (sRet (eAndV (eU (gIsi2 .str) (eVar 0)) (eOpR gEq F_Ratio_eq (eVar 0) (eVar 1)))) (sNil))
  (sSeq (sIf (tOf (eU (gIsi2 .int) (eVar 1))) (sRet (eAndV (eU (gIsi2 .int) (eVar 0)) (eAndV (eU gNot (eU (gIsi2 .bool) (eVar 0))) (eOpR gEq F_Ratio_eq (eVar 0) (eVar 1))))) (sNil))
  (sRet (eAndV (eU gNot (eU (gIsi2 .int) (eVar 0))) (eOpR gEq F_Ratio_eq (eVar 0) (eVar 1)))))))))
def F__law_same_4 : Fn := Rf.fnOf 3 B__law_same_4
abbrev F__law_same : Fn := F__law_same_4
def B__law_power : Es := sRet (eCall 1 F__law_product [] (aCons (eLc [2] (iRg1 (aCons (eVar 1) (aNil))) (.nm 2) (tYesF) (eVar 0)) (aNil)))
def F__law_power : Fn := Rf.fnOf 3 B__law_power
def B_power_sum : Es := sSeq (sExpr (eCall 3 F_check_count [] (aCons (eVar 0) (aCons (eC (.int 0)) (aCons (eC (.int 40)) (aNil))))))
  (sSeq (sExpr (eCall 3 F_check_count [] (aCons (eVar 1) (aCons (eC (.int 0)) (aCons (eC (.int 1000)) (aNil))))))
  (sSeq (sIf (tOf (eOp gEq (eVar 0) (eC (.int 0)))) (sRet (eVar 1)) (sNil))
  (sRet (eU (gFld 0) (eOpR gMul2 F_Ratio_mul (eOpR Rf.gSub F_Ratio_sub (eCall 2 F_bernoulli_value [] (aCons (eOpR gAdd F_Ratio_add (eVar 0) (eC (.int 1))) (aCons (eVar 1) (aNil)))) (eCall 1 F_bernoulli [] (aCons (eOpR gAdd F_Ratio_add (eVar 0) (eC (.int 1))) (aNil)))) (eNew 3 2 2 FI_Ratio [] (aCons (eC (.int 1)) (aCons (eOpR gAdd F_Ratio_add (eVar 0) (eC (.int 1))) (aNil)))))))))
def F_power_sum : Fn := Rf.fnOf 2 B_power_sum
def B_whole_part : Es := sSeq (sSet 1 (eCall 1 F_bernoulli [] (aCons (eVar 0) (aNil))))
  (sSeq (sFor (iSeq (eCall 1 F_lower_primes [] (aCons (eVar 0) (aNil)))) (.nm 2) (sSet 1 (eOpR gAdd F_Ratio_add (eVar 1) (eNew 3 2 2 FI_Ratio [] (aCons (eC (.int 1)) (aCons (eVar 2) (aNil)))))))
  (sRet (eU (gFld 0) (eVar 1))))
def F_whole_part : Fn := Rf.fnOf 3 B_whole_part
def B__law_is_told : Es := sRet (eAndV (eOp gEq (eOp gIx (eVar 0) (eC (.int 0))) (eC (.str "told"))) (eCall 2 F__law_same [] (aCons (eOp gIx (eVar 0) (eC (.int 1))) (aCons (eVar 1) (aNil)))))
def F__law_is_told : Fn := Rf.fnOf 2 B__law_is_told
def tab : Nat → Option (Nat × Fn)
  | 10 => some (1, F_bernoulli)
  | 11 => some (1, F_numbers_to)
  | 12 => some (1, F_bernoulli_by_triangle)
  | 13 => some (2, F_bernoulli_value)
  | 14 => some (2, F_power_sum)
  | 15 => some (1, F_lower_primes)
  | 17 => some (1, F_whole_part)
  | 18 => some (1, F_bad_indexes)
  | 19 => some (1, F_half_numbers)
  | _ => none
def B__law_told : Es := fun ρ => if ρ.length == 3 then sTry 3 (.tup [.str "malformed", .non]) d2R (sSeq (sIf (tOf (eOp gEq (eU gLen (eVar 1)) (eC (.int 0)))) (sRet (eTup (aCons (eC (.str "told")) (aCons (fun _ => .no) (aNil))))) (sNil))
  (sSeq (sIf (tOf (eOp gEq (eU gLen (eVar 1)) (eC (.int 1)))) (sRet (eTup (aCons (eC (.str "told")) (aCons (eCallD tab 0 (aCons (eOp gIx (eVar 1) (eC (.int 0))) (aNil))) (aNil))))) (sNil))
  (sSeq (sIf (tOf (eOp gEq (eU gLen (eVar 1)) (eC (.int 2)))) (sRet (eTup (aCons (eC (.str "told")) (aCons (eCallD tab 0 (aCons (eOp gIx (eVar 1) (eC (.int 0))) (aCons (eOp gIx (eVar 1) (eC (.int 1))) (aNil)))) (aNil))))) (sNil))
  (sSeq (sIf (tOf (eOp gEq (eU gLen (eVar 1)) (eC (.int 3)))) (sRet (eTup (aCons (eC (.str "told")) (aCons (eCallD tab 0 (aCons (eOp gIx (eVar 1) (eC (.int 0))) (aCons (eOp gIx (eVar 1) (eC (.int 1))) (aCons (eOp gIx (eVar 1) (eC (.int 2))) (aNil))))) (aNil))))) (sNil))
  (sSeq (sIf (tOf (eOp gEq (eU gLen (eVar 1)) (eC (.int 4)))) (sRet (eTup (aCons (eC (.str "told")) (aCons (eCallD tab 0 (aCons (eOp gIx (eVar 1) (eC (.int 0))) (aCons (eOp gIx (eVar 1) (eC (.int 1))) (aCons (eOp gIx (eVar 1) (eC (.int 2))) (aCons (eOp gIx (eVar 1) (eC (.int 3))) (aNil)))))) (aNil))))) (sNil))
  (sSeq (sIf (tOf (eOp gEq (eU gLen (eVar 1)) (eC (.int 5)))) (sRet (eTup (aCons (eC (.str "told")) (aCons (eCallD tab 0 (aCons (eOp gIx (eVar 1) (eC (.int 0))) (aCons (eOp gIx (eVar 1) (eC (.int 1))) (aCons (eOp gIx (eVar 1) (eC (.int 2))) (aCons (eOp gIx (eVar 1) (eC (.int 3))) (aCons (eOp gIx (eVar 1) (eC (.int 4))) (aNil))))))) (aNil))))) (sNil))
  (sRet (eTup (aCons (eC (.str "told")) (aCons (eCallD tab 0 (aCons (eOp gIx (eVar 1) (eC (.int 0))) (aCons (eOp gIx (eVar 1) (eC (.int 1))) (aCons (eOp gIx (eVar 1) (eC (.int 2))) (aCons (eOp gIx (eVar 1) (eC (.int 3))) (aCons (eOp gIx (eVar 1) (eC (.int 4))) (aCons (eOp gIx (eVar 1) (eC (.int 5))) (aNil)))))))) (aNil))))))))))) ρ else .no
def F__law_told : Fn := Rf.fnOf 3 B__law_told
def B__law_tells : Es := sRet (eCall 2 F__law_is_told [] (aCons (eCall 2 F__law_told [] (aCons (eVar 0) (aCons (eVar 1) (aNil)))) (aCons (eVar 2) (aNil))))
def F__law_tells : Fn := Rf.fnOf 3 B__law_tells
def B__law_value : Es := sSeq (sSet 2 (eCall 2 F__law_told [] (aCons (eVar 0) (aCons (eVar 1) (aNil)))))
  (sRet (eIfF (tOf (eOp gEq (eOp gIx (eVar 2) (eC (.int 0))) (eC (.str "told")))) (eOp gIx (eVar 2) (eC (.int 1))) (eVar 2)))
def F__law_value : Fn := Rf.fnOf 3 B__law_value
def B__law_bads : Es := sSeq (sFor (iSeq (eVar 3)) (.nm 4) (sSeq (sSet 5 (eU gLst (eVar 1)))
  (sSeq (sSto 5 (eVar 2) (eVar 4))
  (sIf (tOf (eOp gNe (eCall 2 F__law_told [] (aCons (eVar 0) (aCons (eU gTup (eVar 5)) (aNil)))) (eTup (aCons (eC (.str "malformed")) (aCons (eC .non) (aNil)))))) (sRet (eC (.bl false))) (sNil)))))
  (sRet (eC (.bl true)))
def F__law_bads : Fn := Rf.fnOf 6 B__law_bads
def B_law : Es := sSeq (sSet 1 (eCall 1 F__law_state [] (aCons (eVar 0) (aNil))))
  (sSeq (sFor (iRg1 (aCons (eC (.int 3)) (aNil))) (.nm 2) (sSeq (sSet 3 (eCallB 1 2 F__law_take (aCons (eC (.int 21)) (aNil))))
  (sSeq (sSet 4 (eCall 2 F__law_value [] (aCons (eC (.fn 11)) (aCons (eTup (aCons (eVar 3) (aNil))) (aNil)))))
  (sSeq (sIf (tOrF (tOf (eOp gNe (eU gLen (eVar 4)) (eOpR gAdd F_Ratio_add (eVar 3) (eC (.int 1))))) (tOf (eU gAny (eLc [9] (iRg1 (aCons (eOpR gAdd F_Ratio_add (eVar 3) (eC (.int 1))) (aNil))) (.nm 9) (tYesF) (eNeR gNe F_Ratio_eq (eCall 1 F__law_sum [] (aCons (eLc [8] (iRg1 (aCons (eOpR gAdd F_Ratio_add (eVar 9) (eC (.int 1))) (aNil))) (.nm 8) (tYesF) (eOpR gMul2 F_Ratio_mul (eOp gIx (eVar 4) (eVar 8)) (eNew 3 2 2 FI_Ratio [.int 1] (aCons (eCall 2 F__law_choose [] (aCons (eOpR gAdd F_Ratio_add (eVar 9) (eC (.int 1))) (aCons (eVar 8) (aNil)))) (aNil))))) (aNil))) (eNew 3 2 2 FI_Ratio [.int 1] (aCons (eU gInt (eOp gEq (eVar 9) (eC (.int 0)))) (aNil)))))))) (sRet (eC (.bl false))) (sNil))
  (sSeq (sIf (tOrF (tNotF (tOf (eCall 3 F__law_tells [] (aCons (eC (.fn 10)) (aCons (eTup (aCons (eVar 3) (aNil))) (aCons (eOp gIx (eVar 4) (eVar 3)) (aNil))))))) (tNotF (tOf (eCall 3 F__law_tells [] (aCons (eC (.fn 12)) (aCons (eTup (aCons (eVar 3) (aNil))) (aCons (eOp gIx (eVar 4) (eVar 3)) (aNil)))))))) (sRet (eC (.bl false))) (sNil))
  (sSeq (sSet 5 (eOp gIx (eLst (aCons (eCallB 1 2 F__law_number (aCons (eC (.int 9)) (aNil))) (aCons (eOpR Rf.gSub F_Ratio_sub (eCallB 1 2 F__law_take (aCons (eC (.int 19)) (aNil))) (eC (.int 9))) (aNil)))) (eCallB 1 2 F__law_take (aCons (eC (.int 2)) (aNil)))))
  (sSeq (sSet 6 (eIfF (tOf (eU gIsR (eVar 5))) (eVar 5) (eNew 3 2 2 FI_Ratio [.int 1] (aCons (eVar 5) (aNil)))))
  (sSeq (sSet 7 (eCall 1 F__law_sum [] (aCons (eLc [8] (iRg1 (aCons (eOpR gAdd F_Ratio_add (eVar 3) (eC (.int 1))) (aNil))) (.nm 8) (tYesF) (eOpR gMul2 F_Ratio_mul (eOpR gMul2 F_Ratio_mul (eOp gIx (eVar 4) (eVar 8)) (eNew 3 2 2 FI_Ratio [.int 1] (aCons (eCall 2 F__law_choose [] (aCons (eVar 3) (aCons (eVar 8) (aNil)))) (aNil)))) (eCall 2 F__law_power [] (aCons (eVar 6) (aCons (eOpR Rf.gSub F_Ratio_sub (eVar 3) (eVar 8)) (aNil)))))) (aNil))))
  (sSeq (sIf (tOrF (tNotF (tOf (eCall 3 F__law_tells [] (aCons (eC (.fn 13)) (aCons (eTup (aCons (eVar 3) (aCons (eVar 5) (aNil)))) (aCons (eVar 7) (aNil))))))) (tOf (eNeR gNe F_Ratio_eq (eOpR Rf.gSub F_Ratio_sub (eCall 2 F__law_value [] (aCons (eC (.fn 13)) (aCons (eTup (aCons (eVar 3) (aCons (eOpR gAdd F_Ratio_add (eVar 6) (eNew 3 2 2 FI_Ratio [.int 1] (aCons (eC (.int 1)) (aNil)))) (aNil)))) (aNil)))) (eVar 7)) (eIfF (tOf (eOp gGt (eVar 3) (eC (.int 0)))) (eOpR gMul2 F_Ratio_mul (eNew 3 2 2 FI_Ratio [.int 1] (aCons (eVar 3) (aNil))) (eCall 2 F__law_power [] (aCons (eVar 6) (aCons (eOpR Rf.gSub F_Ratio_sub (eVar 3) (eC (.int 1))) (aNil))))) (eNew 3 2 2 FI_Ratio [.int 1] (aCons (eC (.int 0)) (aNil))))))) (sRet (eC (.bl false))) (sNil))
  (sSeq (sUnp [8, 9] (eTup (aCons (eCallB 1 2 F__law_take (aCons (eC (.int 9)) (aNil))) (aCons (eCallB 1 2 F__law_take (aCons (eC (.int 30)) (aNil))) (aNil)))))
  (sSeq (sIf (tNotF (tOf (eCall 3 F__law_tells [] (aCons (eC (.fn 14)) (aCons (eTup (aCons (eVar 8) (aCons (eVar 9) (aNil)))) (aCons (eU gSum2 (eLc [18] (iRg1 (aCons (eVar 9) (aNil))) (.nm 18) (tYesF) (eCall 2 F__law_raised [] (aCons (eVar 18) (aCons (eVar 8) (aNil)))))) (aNil))))))) (sRet (eC (.bl false))) (sNil))
  (sSeq (sSet 10 (eOpR gMul2 F_Ratio_mul (eC (.int 2)) (eOpR gAdd F_Ratio_add (eC (.int 1)) (eCallB 1 2 F__law_take (aCons (eC (.int 12)) (aNil))))))
  (sSeq (sSet 11 (eLc [15] (iRg2 (aCons (eC (.int 2)) (aCons (eOpR gAdd F_Ratio_add (eVar 10) (eC (.int 2))) (aNil)))) (.nm 15) (tAndF (tOf (eU gAll (eLc [19] (iRg2 (aCons (eC (.int 2)) (aCons (eVar 15) (aNil)))) (.nm 19) (tYesF) (eOp gNe (eOp gMod (eU gInt (eVar 15)) (eVar 19)) (eC (.int 0)))))) (tOf (eOp gEq (eOp gMod (eU gInt (eVar 10)) (eOpR Rf.gSub F_Ratio_sub (eVar 15) (eC (.int 1)))) (eC (.int 0))))) (eVar 15)))
  (sSeq (sSet 12 (eCall 2 F__law_value [] (aCons (eC (.fn 10)) (aCons (eTup (aCons (eVar 10) (aNil))) (aNil)))))
  (sSeq (sSet 13 (eOpR gAdd F_Ratio_add (eVar 12) (eCall 1 F__law_sum [] (aCons (eLc [15] (iSeq (eVar 11)) (.nm 15) (tYesF) (eNew 3 2 2 FI_Ratio [] (aCons (eC (.int 1)) (aCons (eVar 15) (aNil))))) (aNil)))))
  (sSeq (sSet 14 (eC (.int 1)))
  (sSeq (sFor (iSeq (eVar 11)) (.nm 15) (sSet 14 (eOpR gMul2 F_Ratio_mul (eVar 14) (eVar 15))))
  (sSeq (sIf (tOrF (tNotF (tOf (eCall 3 F__law_tells [] (aCons (eC (.fn 15)) (aCons (eTup (aCons (eVar 10) (aNil))) (aCons (eU gTup (eVar 11)) (aNil))))))) (tOrF (tOf (eOp gNe (eU (gFld 1) (eVar 13)) (eC (.int 1)))) (tOrF (tNotF (tOf (eCall 3 F__law_tells [] (aCons (eC (.fn 17)) (aCons (eTup (aCons (eVar 10) (aNil))) (aCons (eU (gFld 0) (eVar 13)) (aNil))))))) (tOf (eOp gNe (eU (gFld 1) (eVar 12)) (eVar 14)))))) (sRet (eC (.bl false))) (sNil))
  (sSeq (sIf (tNotF (tOf (eCall 3 F__law_tells [] (aCons (eC (.fn 19)) (aCons (eTup (aCons (eVar 10) (aNil))) (aCons (eU gTup (eLc [18] (iRg3 (aCons (eC (.int 2)) (aCons (eOpR gAdd F_Ratio_add (eVar 10) (eC (.int 1))) (aCons (eC (.int 2)) (aNil))))) (.nm 18) (tYesF) (eU (gFld 1) (eCall 2 F__law_value [] (aCons (eC (.fn 10)) (aCons (eTup (aCons (eVar 18) (aNil))) (aNil))))))) (aNil))))))) (sRet (eC (.bl false))) (sNil))
  (sSeq (sSet 16 (eOp gIx (eLst (aCons (eC (.int 3)) (aCons (eC (.int 5)) (aCons (eC (.int 7)) (aCons (eC (.int 11)) (aCons (eC (.int 13)) (aCons (eC (.int 17)) (aCons (eC (.int 19)) (aCons (eC (.int 23)) (aCons (eC (.int 37)) (aNil))))))))))) (eCallB 1 2 F__law_take (aCons (eC (.int 9)) (aNil)))))
  (sIf (tNotF (tOf (eCall 3 F__law_tells [] (aCons (eC (.fn 18)) (aCons (eTup (aCons (eVar 16) (aNil))) (aCons (eU gTup (eLc [18] (iRg3 (aCons (eC (.int 2)) (aCons (eOpR Rf.gSub F_Ratio_sub (eVar 16) (eC (.int 2))) (aCons (eC (.int 2)) (aNil))))) (.nm 18) (tOf (eOp gEq (eOp gMod (eU gInt (eU (gFld 0) (eCall 2 F__law_value [] (aCons (eC (.fn 10)) (aCons (eTup (aCons (eVar 18) (aNil))) (aNil)))))) (eVar 16)) (eC (.int 0)))) (eVar 18))) (aNil))))))) (sRet (eC (.bl false))) (sNil))))))))))))))))))))))
  (sSeq (sFor (iSeq (eTup (aCons (eC (.fn 10)) (aCons (eC (.fn 12)) (aNil))))) (.nm 17) (sIf (tNotF (tOf (eCall 4 F__law_bads [] (aCons (eVar 17) (aCons (eTup (aCons (eC (.int 3)) (aNil))) (aCons (eC (.int 0)) (aCons (eLst (aCons (eU gNeg (eC (.int 1))) (aCons (eC (.int 121)) (aCons (eC .non) (aCons (eC (.bl true)) (aNil)))))) (aNil)))))))) (sRet (eC (.bl false))) (sNil)))
  (sSeq (sFor (iSeq (eTup (aCons (eC (.fn 15)) (aCons (eC (.fn 17)) (aCons (eC (.fn 19)) (aNil)))))) (.nm 17) (sIf (tNotF (tOf (eCall 4 F__law_bads [] (aCons (eVar 17) (aCons (eTup (aCons (eC (.int 4)) (aNil))) (aCons (eC (.int 0)) (aCons (eLst (aCons (eC (.int 0)) (aCons (eC (.int 3)) (aCons (eC (.int 122)) (aCons (eC .non) (aCons (eC (.bl true)) (aNil))))))) (aNil)))))))) (sRet (eC (.bl false))) (sNil)))
  (sRet (eAndV (eCall 4 F__law_bads [] (aCons (eC (.fn 13)) (aCons (eTup (aCons (eC (.int 3)) (aCons (eC (.int 1)) (aNil)))) (aCons (eC (.int 0)) (aCons (eLst (aCons (eU gNeg (eC (.int 1))) (aCons (eC (.int 41)) (aCons (eC .non) (aNil))))) (aNil)))))) (eAndV (eCall 4 F__law_bads [] (aCons (eC (.fn 13)) (aCons (eTup (aCons (eC (.int 3)) (aCons (eC (.int 1)) (aNil)))) (aCons (eC (.int 1)) (aCons (eLst (aCons (eC .non) (aCons (eC (.bl true)) (aCons (eC (.str "1")) (aNil))))) (aNil)))))) (eAndV (eCall 4 F__law_bads [] (aCons (eC (.fn 14)) (aCons (eTup (aCons (eC (.int 3)) (aCons (eC (.int 5)) (aNil)))) (aCons (eC (.int 0)) (aCons (eLst (aCons (eU gNeg (eC (.int 1))) (aCons (eC (.int 41)) (aCons (eC .non) (aNil))))) (aNil)))))) (eAndV (eCall 4 F__law_bads [] (aCons (eC (.fn 14)) (aCons (eTup (aCons (eC (.int 3)) (aCons (eC (.int 5)) (aNil)))) (aCons (eC (.int 1)) (aCons (eLst (aCons (eU gNeg (eC (.int 1))) (aCons (eC (.int 1001)) (aCons (eC (.bl true)) (aNil))))) (aNil)))))) (eAndV (eCall 4 F__law_bads [] (aCons (eC (.fn 18)) (aCons (eTup (aCons (eC (.int 7)) (aNil))) (aCons (eC (.int 0)) (aCons (eLst (aCons (eC (.int 2)) (aCons (eC (.int 4)) (aCons (eC (.int 127)) (aCons (eC .non) (aNil)))))) (aNil)))))) (eOp gEq (eCall 2 F__law_value [] (aCons (eC (.fn 18)) (aCons (eTup (aCons (eC (.int 37)) (aNil))) (aNil)))) (eTup (aCons (eC (.int 32)) (aNil)))))))))))))
def F_law : Fn := Rf.fnOf 20 B_law
end L59
end
section
set_option Elab.async false
set_option linter.all false
set_option maxRecDepth 100000
set_option maxHeartbeats 0
namespace L59
open PySem PySem.Spec PyProof.Rows L2 Rf
/-! ### what the top leaves -/
structure Tx (K : PySem.W.Frag) (mg : Str → Option Value) (G : Wd) : Prop where
  d__wall : Def K G 0 "_wall" s__wall ["k"] []
  m__wall : mg "_wall" = some (.ref (G.fnA 0))
  d_is_integer : Def K G 1 "is_integer" s_is_integer ["value"] []
  m_is_integer : mg "is_integer" = some (.ref (G.fnA 1))
  d_is_count : Def K G 2 "is_count" s_is_count ["value", "low", "high"] []
  m_is_count : mg "is_count" = some (.ref (G.fnA 2))
  d_check_count : Def K G 3 "check_count" s_check_count ["value", "low", "high"] []
  m_check_count : mg "check_count" = some (.ref (G.fnA 3))
  d_common : Def K G 4 "common" s_common ["a", "b"] []
  m_common : mg "common" = some (.ref (G.fnA 4))
  d_binomial : Def K G 5 "binomial" s_binomial ["n", "k"] []
  m_binomial : mg "binomial" = some (.ref (G.fnA 5))
  d_is_prime : Def K G 6 "is_prime" s_is_prime ["n"] []
  m_is_prime : mg "is_prime" = some (.ref (G.fnA 6))
  d_check_prime : Def K G 7 "check_prime" s_check_prime ["p", "high"] []
  m_check_prime : mg "check_prime" = some (.ref (G.fnA 7))
  d_check_ratio : Def K G 8 "check_ratio" s_check_ratio ["value"] []
  m_check_ratio : mg "check_ratio" = some (.ref (G.fnA 8))
  d_check_place : Def K G 9 "check_place" s_check_place ["p"] []
  m_check_place : mg "check_place" = some (.ref (G.fnA 9))
  d_bernoulli : Def K G 10 "bernoulli" s_bernoulli ["n"] []
  m_bernoulli : mg "bernoulli" = some (.ref (G.fnA 10))
  d_numbers_to : Def K G 11 "numbers_to" s_numbers_to ["n"] []
  m_numbers_to : mg "numbers_to" = some (.ref (G.fnA 11))
  d_bernoulli_by_triangle : Def K G 12 "bernoulli_by_triangle" s_bernoulli_by_triangle ["n"] []
  m_bernoulli_by_triangle : mg "bernoulli_by_triangle" = some (.ref (G.fnA 12))
  d_bernoulli_value : Def K G 13 "bernoulli_value" s_bernoulli_value ["n", "x"] []
  m_bernoulli_value : mg "bernoulli_value" = some (.ref (G.fnA 13))
  d_power_sum : Def K G 14 "power_sum" s_power_sum ["k", "n"] []
  m_power_sum : mg "power_sum" = some (.ref (G.fnA 14))
  d_lower_primes : Def K G 15 "lower_primes" s_lower_primes ["n"] []
  m_lower_primes : mg "lower_primes" = some (.ref (G.fnA 15))
  d_check_even : Def K G 16 "check_even" s_check_even ["n"] []
  m_check_even : mg "check_even" = some (.ref (G.fnA 16))
  d_whole_part : Def K G 17 "whole_part" s_whole_part ["n"] []
  m_whole_part : mg "whole_part" = some (.ref (G.fnA 17))
  d_bad_indexes : Def K G 18 "bad_indexes" s_bad_indexes ["p"] []
  m_bad_indexes : mg "bad_indexes" = some (.ref (G.fnA 18))
  d_half_numbers : Def K G 19 "half_numbers" s_half_numbers ["n"] []
  m_half_numbers : mg "half_numbers" = some (.ref (G.fnA 19))
  d__law_state : Def K G 20 "_law_state" s__law_state ["script"] []
  m__law_state : mg "_law_state" = some (.ref (G.fnA 20))
  d__law_take : Def K G 21 "_law_take" s__law_take ["state", "m"] []
  m__law_take : mg "_law_take" = some (.ref (G.fnA 21))
  d__law_same : Def K G 22 "_law_same" s__law_same ["value", "due"] []
  m__law_same : mg "_law_same" = some (.ref (G.fnA 22))
  d__law_told : Def K G 23 "_law_told" s__law_told ["f", "given"] []
  m__law_told : mg "_law_told" = some (.ref (G.fnA 23))
  d__law_is_told : Def K G 24 "_law_is_told" s__law_is_told ["pair", "due"] []
  m__law_is_told : mg "_law_is_told" = some (.ref (G.fnA 24))
  d__law_tells : Def K G 25 "_law_tells" s__law_tells ["f", "given", "due"] []
  m__law_tells : mg "_law_tells" = some (.ref (G.fnA 25))
  d__law_value : Def K G 26 "_law_value" s__law_value ["f", "given"] []
  m__law_value : mg "_law_value" = some (.ref (G.fnA 26))
  d__law_bads : Def K G 27 "_law_bads" s__law_bads ["f", "given", "at", "bads"] []
  m__law_bads : mg "_law_bads" = some (.ref (G.fnA 27))
  d__law_choose : Def K G 28 "_law_choose" s__law_choose ["n", "k"] []
  m__law_choose : mg "_law_choose" = some (.ref (G.fnA 28))
  d__law_raised : Def K G 29 "_law_raised" s__law_raised ["a", "k"] []
  m__law_raised : mg "_law_raised" = some (.ref (G.fnA 29))
  d__law_number : Def K G 30 "_law_number" s__law_number ["state", "top"] []
  m__law_number : mg "_law_number" = some (.ref (G.fnA 30))
  d__law_sum : Def K G 31 "_law_sum" s__law_sum ["items"] []
  m__law_sum : mg "_law_sum" = some (.ref (G.fnA 31))
  d__law_product : Def K G 32 "_law_product" s__law_product ["items"] []
  m__law_product : mg "_law_product" = some (.ref (G.fnA 32))
  d__law_power : Def K G 33 "_law_power" s__law_power ["x", "k"] []
  m__law_power : mg "_law_power" = some (.ref (G.fnA 33))
  d_law : Def K G 34 "law" s_law ["script"] []
  m_law : mg "law" = some (.ref (G.fnA 34))
  n_abs : mg "abs" = none
  n_all : mg "all" = none
  n_any : mg "any" = none
  n_bool : mg "bool" = none
  n_enumerate : mg "enumerate" = none
  n_int : mg "int" = none
  n_isinstance : mg "isinstance" = none
  n_len : mg "len" = none
  n_list : mg "list" = none
  n_max : mg "max" = none
  n_range : mg "range" = none
  n_str : mg "str" = none
  n_sum : mg "sum" = none
  n_tuple : mg "tuple" = none
  n_zip : mg "zip" = none
  c_MOST_PRIME : ∃ t, mg "MOST_PRIME" = some (.int 997 t)
  c_MOST_INDEX : ∃ t, mg "MOST_INDEX" = some (.int 120 t)
  gT : mg "Ratio" = some (.ref (G.clA 3))
  rT : RatC K (G.clA 3)
  cF : G.clF 3 = [("n" : Str), ("d" : Str)]
  sfR : PySem.W.selfFirst K (G.clA 3) = true
  neR : PySem.W.findIn K (.ref (G.clA 3)) "__ne__" = some (some (.builtin "object.__ne__"))
  d_Rinit : DefN K G s_Rinit
  d_Ratio_add : DefM K G 100 "__add__" "Ratio.__add__" s_Ratio_add ["self", "other"]
  d_Ratio_sub : DefM K G 101 "__sub__" "Ratio.__sub__" s_Ratio_sub ["self", "other"]
  d_Ratio_mul : DefM K G 102 "__mul__" "Ratio.__mul__" s_Ratio_mul ["self", "other"]
  d_Ratio_neg : DefM K G 103 "__neg__" "Ratio.__neg__" s_Ratio_neg ["self"]
  d_Ratio_eq : DefM K G 104 "__eq__" "Ratio.__eq__" s_Ratio_eq ["self", "other"]
  d_Ratio_times : DefM K G 105 "times" "Ratio.times" s_Ratio_times ["self", "k"]
  d_Ratio_is_zero : DefM K G 106 "is_zero" "Ratio.is_zero" s_Ratio_is_zero ["self"]
  gM : mg "Malformed" = some (.ref (G.clA 0))
  gR : mg "Refused" = some (.ref (G.clA 1))
  xM : PySem.W.excIn K (G.clA 0) [.type "ValueError", .type "Exception", .type "BaseException", .type "object"] "ValueError.__new__" = true
  kM : PySem.W.keepIn K (.ref (G.clA 0)) = true
  bM : PySem.W.subIn K (.ref (G.clA 0)) (.type "BaseException") = some true
  tM : PySem.W.typeIn K (.ref (G.clA 0)) = some (.type "type")
  eMM : PySem.W.exmOne K (.ref (G.clA 0)) (.ref (G.clA 0)) = some true
  gF : mg "Fault" = some (.ref (G.clA 2))
  rC : RfdC K (G.clA 1) (G.clA 2)
  d_init : DefI K (G.clA 1) s_init
  eRM : PySem.W.exmOne K (.ref (G.clA 1)) (.ref (G.clA 0)) = some false
  eRR : PySem.W.exmOne K (.ref (G.clA 1)) (.ref (G.clA 1)) = some true
/-! ### the derivations -/
section
variable {P : Program} {w : World} {K : PySem.W.Frag} {mg : Str → Option Value} {base : Heap} {G : Wd}
theorem sc_init : FnScope ["self", "reason"] ["self", "reason"] (defScope s_init) := ⟨rfl, rfl, rfl, by decide +kernel, rfl, by decide +kernel, by decide +kernel⟩
theorem ok_init (T : Tx K mg G) : GoodI P w K mg base (G.clA 1) 1 :=
  goodI_of (st := s_init) T.d_init sc_init T.rC fun f cdv A outer s H E => pss_init T.rC rfl rfl (by first | exact Or.inl rfl | exact Or.inr (Or.inl rfl)) (by first | exact Or.inl rfl | exact Or.inr (Or.inl rfl)) (by rfl) T.gF
theorem tx9 {a : Addr} (T : Tx K mg G) : Tx K mg (G9 G a) := {
  d__wall := ⟨T.d__wall.ex⟩
  m__wall := T.m__wall
  d_is_integer := ⟨T.d_is_integer.ex⟩
  m_is_integer := T.m_is_integer
  d_is_count := ⟨T.d_is_count.ex⟩
  m_is_count := T.m_is_count
  d_check_count := ⟨T.d_check_count.ex⟩
  m_check_count := T.m_check_count
  d_common := ⟨T.d_common.ex⟩
  m_common := T.m_common
  d_binomial := ⟨T.d_binomial.ex⟩
  m_binomial := T.m_binomial
  d_is_prime := ⟨T.d_is_prime.ex⟩
  m_is_prime := T.m_is_prime
  d_check_prime := ⟨T.d_check_prime.ex⟩
  m_check_prime := T.m_check_prime
  d_check_ratio := ⟨T.d_check_ratio.ex⟩
  m_check_ratio := T.m_check_ratio
  d_check_place := ⟨T.d_check_place.ex⟩
  m_check_place := T.m_check_place
  d_bernoulli := ⟨T.d_bernoulli.ex⟩
  m_bernoulli := T.m_bernoulli
  d_numbers_to := ⟨T.d_numbers_to.ex⟩
  m_numbers_to := T.m_numbers_to
  d_bernoulli_by_triangle := ⟨T.d_bernoulli_by_triangle.ex⟩
  m_bernoulli_by_triangle := T.m_bernoulli_by_triangle
  d_bernoulli_value := ⟨T.d_bernoulli_value.ex⟩
  m_bernoulli_value := T.m_bernoulli_value
  d_power_sum := ⟨T.d_power_sum.ex⟩
  m_power_sum := T.m_power_sum
  d_lower_primes := ⟨T.d_lower_primes.ex⟩
  m_lower_primes := T.m_lower_primes
  d_check_even := ⟨T.d_check_even.ex⟩
  m_check_even := T.m_check_even
  d_whole_part := ⟨T.d_whole_part.ex⟩
  m_whole_part := T.m_whole_part
  d_bad_indexes := ⟨T.d_bad_indexes.ex⟩
  m_bad_indexes := T.m_bad_indexes
  d_half_numbers := ⟨T.d_half_numbers.ex⟩
  m_half_numbers := T.m_half_numbers
  d__law_state := ⟨T.d__law_state.ex⟩
  m__law_state := T.m__law_state
  d__law_take := ⟨T.d__law_take.ex⟩
  m__law_take := T.m__law_take
  d__law_same := ⟨T.d__law_same.ex⟩
  m__law_same := T.m__law_same
  d__law_told := ⟨T.d__law_told.ex⟩
  m__law_told := T.m__law_told
  d__law_is_told := ⟨T.d__law_is_told.ex⟩
  m__law_is_told := T.m__law_is_told
  d__law_tells := ⟨T.d__law_tells.ex⟩
  m__law_tells := T.m__law_tells
  d__law_value := ⟨T.d__law_value.ex⟩
  m__law_value := T.m__law_value
  d__law_bads := ⟨T.d__law_bads.ex⟩
  m__law_bads := T.m__law_bads
  d__law_choose := ⟨T.d__law_choose.ex⟩
  m__law_choose := T.m__law_choose
  d__law_raised := ⟨T.d__law_raised.ex⟩
  m__law_raised := T.m__law_raised
  d__law_number := ⟨T.d__law_number.ex⟩
  m__law_number := T.m__law_number
  d__law_sum := ⟨T.d__law_sum.ex⟩
  m__law_sum := T.m__law_sum
  d__law_product := ⟨T.d__law_product.ex⟩
  m__law_product := T.m__law_product
  d__law_power := ⟨T.d__law_power.ex⟩
  m__law_power := T.m__law_power
  d_law := ⟨T.d_law.ex⟩
  m_law := T.m_law
  n_abs := T.n_abs
  n_all := T.n_all
  n_any := T.n_any
  n_bool := T.n_bool
  n_enumerate := T.n_enumerate
  n_int := T.n_int
  n_isinstance := T.n_isinstance
  n_len := T.n_len
  n_list := T.n_list
  n_max := T.n_max
  n_range := T.n_range
  n_str := T.n_str
  n_sum := T.n_sum
  n_tuple := T.n_tuple
  n_zip := T.n_zip
  c_MOST_PRIME := T.c_MOST_PRIME
  c_MOST_INDEX := T.c_MOST_INDEX
  gM := T.gM
  gR := T.gR
  xM := T.xM
  kM := T.kM
  bM := T.bM
  tM := T.tM
  eMM := T.eMM
  gF := T.gF
  rC := T.rC
  d_init := T.d_init
  eRM := T.eRM
  eRR := T.eRR
  gT := T.gT
  rT := T.rT
  cF := T.cF
  sfR := T.sfR
  neR := T.neR
  d_Rinit := ⟨T.d_Rinit.ex⟩
  d_Ratio_add := ⟨T.d_Ratio_add.ex, T.d_Ratio_add.me⟩
  d_Ratio_sub := ⟨T.d_Ratio_sub.ex, T.d_Ratio_sub.me⟩
  d_Ratio_mul := ⟨T.d_Ratio_mul.ex, T.d_Ratio_mul.me⟩
  d_Ratio_neg := ⟨T.d_Ratio_neg.ex, T.d_Ratio_neg.me⟩
  d_Ratio_eq := ⟨T.d_Ratio_eq.ex, T.d_Ratio_eq.me⟩
  d_Ratio_times := ⟨T.d_Ratio_times.ex, T.d_Ratio_times.me⟩
  d_Ratio_is_zero := ⟨T.d_Ratio_is_zero.ex, T.d_Ratio_is_zero.me⟩
  }
abbrev N__wall : List Str := ["k"]
theorem sc__wall : FnScope N__wall ["k"] (defScope s__wall) := ⟨rfl, rfl, rfl, by decide +kernel, rfl, by decide +kernel, by decide +kernel⟩
theorem ok__wall (T : Tx K mg G) : Good P w K mg base G 1 0 1 ["k"] [] F__wall :=
  good_of (N := N__wall) T.d__wall sc__wall rfl fun f cdv A outer s H E hr => by
    have nd := sc__wall.nd
    have tk : Takes (cxOf (L2.CX P w) P w K mg base N__wall "_wall" (defScope s__wall) f cdv A outer s H E) (fun cls d _ H => E cls d H) := takes_of rfl rfl rfl rfl
    have hp : PassesOwn (model P w) (cxOf (L2.CX P w) P w K mg base N__wall "_wall" (defScope s__wall) f cdv A outer s H E).A (cxOf (L2.CX P w) P w K mg base N__wall "_wall" (defScope s__wall) f cdv A outer s H E).env (cxOf (L2.CX P w) P w K mg base N__wall "_wall" (defScope s__wall) f cdv A outer s H E).xe := PassesOwn.leaving
    exact rs_one (rs_while (n := 1000000) hp (rt_val (re_bl)) (rs_one (rs_pass)))
abbrev N_is_integer : List Str := ["value"]
theorem sc_is_integer : FnScope N_is_integer ["value"] (defScope s_is_integer) := ⟨rfl, rfl, rfl, by decide +kernel, rfl, by decide +kernel, by decide +kernel⟩
theorem ok_is_integer (T : Tx K mg G) : Good P w K mg base G 1 1 1 ["value"] [] F_is_integer :=
  good_of (N := N_is_integer) T.d_is_integer sc_is_integer rfl fun f cdv A outer s H E hr => by
    have nd := sc_is_integer.nd
    have tk : Takes (cxOf (L2.CX P w) P w K mg base N_is_integer "is_integer" (defScope s_is_integer) f cdv A outer s H E) (fun cls d _ H => E cls d H) := takes_of rfl rfl rfl rfl
    have hp : PassesOwn (model P w) (cxOf (L2.CX P w) P w K mg base N_is_integer "is_integer" (defScope s_is_integer) f cdv A outer s H E).A (cxOf (L2.CX P w) P w K mg base N_is_integer "is_integer" (defScope s_is_integer) f cdv A outer s H E).env (cxOf (L2.CX P w) P w K mg base N_is_integer "is_integer" (defScope s_is_integer) f cdv A outer s H E).xe := PassesOwn.leaving
    exact rs_one (rs_ret (re_and (re_isi2 T.rT .int (by rfl) T.n_isinstance (by rfl) T.n_int (by decide +kernel) (ev 0)) (re_one (re_not (re_isi2 T.rT .bool (by rfl) T.n_isinstance (by rfl) T.n_bool (by decide +kernel) (ev 0))))))
abbrev N_common : List Str := ["a", "b"]
theorem sc_common : FnScope N_common ["a", "b"] (defScope s_common) := ⟨rfl, rfl, rfl, by decide +kernel, rfl, by decide +kernel, by decide +kernel⟩
theorem ok_common (T : Tx K mg G) : Good P w K mg base G 1 4 2 ["a", "b"] [] F_common :=
  good_of (N := N_common) T.d_common sc_common rfl fun f cdv A outer s H E hr => by
    have nd := sc_common.nd
    have tk : Takes (cxOf (L2.CX P w) P w K mg base N_common "common" (defScope s_common) f cdv A outer s H E) (fun cls d _ H => E cls d H) := takes_of rfl rfl rfl rfl
    have hp : PassesOwn (model P w) (cxOf (L2.CX P w) P w K mg base N_common "common" (defScope s_common) f cdv A outer s H E).A (cxOf (L2.CX P w) P w K mg base N_common "common" (defScope s_common) f cdv A outer s H E).env (cxOf (L2.CX P w) P w K mg base N_common "common" (defScope s_common) f cdv A outer s H E).xe := PassesOwn.leaving
    exact rs_cons (rs_par (i := 0) (j := 1) rfl nd rfl rfl (by decide) rfl rfl (re_b1 call_abs uns_abs (by rfl) T.n_abs (by decide +kernel) (ev 0)) (re_b1 call_abs uns_abs (by rfl) T.n_abs (by decide +kernel) (ev 1)) (by rfl))
        (rs_cons (rs_while (n := 1000000) hp (rt_cmp op_gt ops_gt (ev 1) (re_int) (nomark _)) (rs_one (rs_par (i := 0) (j := 1) rfl nd rfl rfl (by decide) rfl rfl (ev 1) (re_op op_mod ops_mod (ev 0) (ev 1)) (by rfl))))
        (rs_one (rs_ret (ev 0))))
abbrev N_binomial : List Str := ["n", "k", "found", "i"]
theorem sc_binomial : FnScope N_binomial ["n", "k"] (defScope s_binomial) := ⟨rfl, rfl, rfl, by decide +kernel, rfl, by decide +kernel, by decide +kernel⟩
theorem ok_binomial (T : Tx K mg G) : Good P w K mg base G 1 5 2 ["n", "k"] [] F_binomial :=
  good_of (N := N_binomial) T.d_binomial sc_binomial rfl fun f cdv A outer s H E hr => by
    have nd := sc_binomial.nd
    have tk : Takes (cxOf (L2.CX P w) P w K mg base N_binomial "binomial" (defScope s_binomial) f cdv A outer s H E) (fun cls d _ H => E cls d H) := takes_of rfl rfl rfl rfl
    have hp : PassesOwn (model P w) (cxOf (L2.CX P w) P w K mg base N_binomial "binomial" (defScope s_binomial) f cdv A outer s H E).A (cxOf (L2.CX P w) P w K mg base N_binomial "binomial" (defScope s_binomial) f cdv A outer s H E).env (cxOf (L2.CX P w) P w K mg base N_binomial "binomial" (defScope s_binomial) f cdv A outer s H E).xe := PassesOwn.leaving
    exact rs_cons (rs_if (pt_of (rw_or (rt_cmp op_lt ops_lt (ev 1) (re_int) (nomark _)) (rw_or1 (rt_cmp op_gt ops_gt (ev 1) (ev 0) (nomark _))))) (rs_one (rs_ret (re_int))) (rs_nil))
        (rs_cons (rs_set (i := 2) nd rfl (by first | exact Or.inl rfl | exact Or.inr rfl) (re_int) (by first | exact .inl rfl | exact .inr rfl))
        (rs_cons (rs_for' (.nm 3) hp (ri_range1 (by rfl) T.n_range (ra_cons (ev 1) (ra_nil))) (pg_name (i := 3) nd rfl (by first | exact Or.inl rfl | exact Or.inr rfl) (by first | exact .inl rfl | exact .inr rfl)) (rs_one (rs_set (i := 2) nd rfl (by first | exact Or.inl rfl | exact Or.inr rfl) (re_op op_fdivW ops_div (re_op opr_mul2 ops_mul2 (ev 2) (re_op op_sub ops_sub (ev 0) (ev 3))) (re_op opr_add ops_add (ev 3) (re_int))) (by first | exact .inl rfl | exact .inr rfl))))
        (rs_one (rs_ret (ev 2)))))
abbrev N_check_ratio : List Str := ["value"]
theorem sc_check_ratio : FnScope N_check_ratio ["value"] (defScope s_check_ratio) := ⟨rfl, rfl, rfl, by decide +kernel, rfl, by decide +kernel, by decide +kernel⟩
theorem ok_check_ratio (T : Tx K mg G) : Good P w K mg base G 1 8 1 ["value"] [] F_check_ratio :=
  good_of (N := N_check_ratio) T.d_check_ratio sc_check_ratio rfl fun f cdv A outer s H E hr => by
    have nd := sc_check_ratio.nd
    have tk : Takes (cxOf (L2.CX P w) P w K mg base N_check_ratio "check_ratio" (defScope s_check_ratio) f cdv A outer s H E) (fun cls d _ H => E cls d H) := takes_of rfl rfl rfl rfl
    have hp : PassesOwn (model P w) (cxOf (L2.CX P w) P w K mg base N_check_ratio "check_ratio" (defScope s_check_ratio) f cdv A outer s H E).A (cxOf (L2.CX P w) P w K mg base N_check_ratio "check_ratio" (defScope s_check_ratio) f cdv A outer s H E).env (cxOf (L2.CX P w) P w K mg base N_check_ratio "check_ratio" (defScope s_check_ratio) f cdv A outer s H E).xe := PassesOwn.leaving
    exact rs_one (rs_if (rt_not (rt_val (re_isR T.rT (by rfl) T.n_isinstance (by rfl) T.gT (ev 0)))) (rs_one (rs_mal rfl rfl tk PySem.F.excBase_ValueError T.xM T.gM T.kM (raises_own T.bM T.tM) (by rfl))) (rs_nil))
abbrev N__law_state : List Str := ["script", "seed", "total", "cell"]
theorem sc__law_state : FnScope N__law_state ["script"] (defScope s__law_state) := ⟨rfl, rfl, rfl, by decide +kernel, rfl, by decide +kernel, by decide +kernel⟩
theorem ok__law_state (T : Tx K mg G) : Good P w K mg base G 1 20 1 ["script"] [] F__law_state :=
  good_of (N := N__law_state) T.d__law_state sc__law_state rfl fun f cdv A outer s H E hr => by
    have nd := sc__law_state.nd
    have tk : Takes (cxOf (L2.CX P w) P w K mg base N__law_state "_law_state" (defScope s__law_state) f cdv A outer s H E) (fun cls d _ H => E cls d H) := takes_of rfl rfl rfl rfl
    have hp : PassesOwn (model P w) (cxOf (L2.CX P w) P w K mg base N__law_state "_law_state" (defScope s__law_state) f cdv A outer s H E).A (cxOf (L2.CX P w) P w K mg base N__law_state "_law_state" (defScope s__law_state) f cdv A outer s H E).env (cxOf (L2.CX P w) P w K mg base N__law_state "_law_state" (defScope s__law_state) f cdv A outer s H E).xe := PassesOwn.leaving
    exact rs_cons (rs_set (i := 1) nd rfl (by first | exact Or.inl rfl | exact Or.inr rfl) (re_int) (by first | exact .inl rfl | exact .inr rfl))
        (rs_cons (rs_set (i := 2) nd rfl (by first | exact Or.inl rfl | exact Or.inr rfl) (re_int) (by first | exact .inl rfl | exact .inr rfl))
        (rs_cons (rs_for' (.nm 3) hp (ri_seq (re_sl (ev 0) (ro_none) (ro_some (re_int)))) (pg_name (i := 3) nd rfl (by first | exact Or.inl rfl | exact Or.inr rfl) (by first | exact .inl rfl | exact .inr rfl)) (rs_cons (rs_set (i := 1) nd rfl (by first | exact Or.inl rfl | exact Or.inr rfl) (re_op opr_add ops_add (re_op opr_mul2 ops_mul2 (ev 1) (re_int)) (re_b1 call_abs uns_abs (by rfl) T.n_abs (by decide +kernel) (ev 3))) (by first | exact .inl rfl | exact .inr rfl))
        (rs_one (rs_set (i := 2) nd rfl (by first | exact Or.inl rfl | exact Or.inr rfl) (re_op op_mod ops_mod (re_t1 call_int1 uns_int (by rfl) T.n_int (by decide +kernel) (re_op opr_add ops_add (re_op opr_mul2 ops_mul2 (ev 2) (re_int)) (ev 3))) (re_int)) (by first | exact .inl rfl | exact .inr rfl)))))
        (rs_one (rs_ret (re_lst (ra_cons (ev 1) (ra_cons (re_if (rt_cmp (opr_ne hr.units) ops_ne (ev 2) (re_int) (nomark _)) (ev 2) (re_int)) (ra_nil))))))))
abbrev N__law_take : List Str := ["state", "m", "value"]
theorem sc__law_take : FnScope N__law_take ["state", "m"] (defScope s__law_take) := ⟨rfl, rfl, rfl, by decide +kernel, rfl, by decide +kernel, by decide +kernel⟩
theorem ok__law_take (T : Tx K mg G) : GoodB P w K mg base G 1 21 2 ["state", "m"] F__law_take :=
  goodB_of (N := N__law_take) T.d__law_take sc__law_take rfl fun f cdv A outer s H E hr => by
    have nd := sc__law_take.nd
    have tk : Takes (cxOf (L2.CX P w) P w K mg base N__law_take "_law_take" (defScope s__law_take) f cdv A outer s H E) (fun cls d _ H => E cls d H) := takes_of rfl rfl rfl rfl
    have hp : PassesOwn (model P w) (cxOf (L2.CX P w) P w K mg base N__law_take "_law_take" (defScope s__law_take) f cdv A outer s H E).A (cxOf (L2.CX P w) P w K mg base N__law_take "_law_take" (defScope s__law_take) f cdv A outer s H E).env (cxOf (L2.CX P w) P w K mg base N__law_take "_law_take" (defScope s__law_take) f cdv A outer s H E).xe := PassesOwn.leaving
    exact rs_cons (rs_if (rt_cmp op_gt ops_gt (re_ix ixr_any ops_ix (ev 0) (re_int) (fun _ _ => rfl)) (re_int) (nomark _)) (rs_cons (rs_set (i := 2) nd rfl (by first | exact Or.inl rfl | exact Or.inr rfl) (re_op op_mod ops_mod (re_t1 call_int1 uns_int (by rfl) T.n_int (by decide +kernel) (re_ix ixr_any ops_ix (ev 0) (re_int) (fun _ _ => rfl))) (ev 1)) (by first | exact .inl rfl | exact .inr rfl))
        (rs_cons (rs_sto (j := 0) rfl (by first | exact Or.inl rfl | exact Or.inr (Or.inl rfl)) (re_op op_fdivW ops_div (re_ix ixr_any ops_ix (ev 0) (re_int) (fun _ _ => rfl)) (ev 1)) (re_int) (ps_asg (re_op op_fdivW ops_div (re_ix ixr_any ops_ix (ev 0) (re_int) (fun _ _ => rfl)) (ev 1)) (pg_sub (pv 0) (re_int) set_list)))
        (rs_one (rs_ret (ev 2))))) (rs_nil))
        (rs_cons (rs_sto (j := 0) rfl (by first | exact Or.inl rfl | exact Or.inr (Or.inl rfl)) (re_op op_mod ops_mod (re_t1 call_int1 uns_int (by rfl) T.n_int (by decide +kernel) (re_op opr_add ops_add (re_op opr_mul2 ops_mul2 (re_ix ixr_any ops_ix (ev 0) (re_int) (fun _ _ => rfl)) (re_int)) (re_int))) (re_int)) (re_int) (ps_asg (re_op op_mod ops_mod (re_t1 call_int1 uns_int (by rfl) T.n_int (by decide +kernel) (re_op opr_add ops_add (re_op opr_mul2 ops_mul2 (re_ix ixr_any ops_ix (ev 0) (re_int) (fun _ _ => rfl)) (re_int)) (re_int))) (re_int)) (pg_sub (pv 0) (re_int) set_list)))
        (rs_one (rs_ret (re_op op_mod ops_mod (re_t1 call_int1 uns_int (by rfl) T.n_int (by decide +kernel) (re_op op_fdivW ops_div (re_ix ixr_any ops_ix (ev 0) (re_int) (fun _ _ => rfl)) (re_int))) (ev 1)))))
abbrev N__law_choose : List Str := ["n", "k", "total", "t"]
theorem sc__law_choose : FnScope N__law_choose ["n", "k"] (defScope s__law_choose) := ⟨rfl, rfl, rfl, by decide +kernel, rfl, by decide +kernel, by decide +kernel⟩
theorem ok__law_choose (T : Tx K mg G) : Good P w K mg base G 1 28 2 ["n", "k"] [] F__law_choose :=
  good_of (N := N__law_choose) T.d__law_choose sc__law_choose rfl fun f cdv A outer s H E hr => by
    have nd := sc__law_choose.nd
    have tk : Takes (cxOf (L2.CX P w) P w K mg base N__law_choose "_law_choose" (defScope s__law_choose) f cdv A outer s H E) (fun cls d _ H => E cls d H) := takes_of rfl rfl rfl rfl
    have hp : PassesOwn (model P w) (cxOf (L2.CX P w) P w K mg base N__law_choose "_law_choose" (defScope s__law_choose) f cdv A outer s H E).A (cxOf (L2.CX P w) P w K mg base N__law_choose "_law_choose" (defScope s__law_choose) f cdv A outer s H E).env (cxOf (L2.CX P w) P w K mg base N__law_choose "_law_choose" (defScope s__law_choose) f cdv A outer s H E).xe := PassesOwn.leaving
    exact rs_cons (rs_if (pt_of (rw_or (rt_cmp op_lt ops_lt (ev 1) (re_int) (nomark _)) (rw_or1 (rt_cmp op_gt ops_gt (ev 1) (ev 0) (nomark _))))) (rs_one (rs_ret (re_int))) (rs_nil))
        (rs_cons (rs_set (i := 2) nd rfl (by first | exact Or.inl rfl | exact Or.inr rfl) (re_int) (by first | exact .inl rfl | exact .inr rfl))
        (rs_cons (rs_for' (.nm 3) hp (ri_range1 (by rfl) T.n_range (ra_cons (ev 1) (ra_nil))) (pg_name (i := 3) nd rfl (by first | exact Or.inl rfl | exact Or.inr rfl) (by first | exact .inl rfl | exact .inr rfl)) (rs_one (rs_set (i := 2) nd rfl (by first | exact Or.inl rfl | exact Or.inr rfl) (re_op op_fdivW ops_div (re_op opr_mul2 ops_mul2 (ev 2) (re_op op_sub ops_sub (ev 0) (ev 3))) (re_op opr_add ops_add (ev 3) (re_int))) (by first | exact .inl rfl | exact .inr rfl))))
        (rs_one (rs_ret (ev 2)))))
abbrev N__law_raised : List Str := ["a", "k", "total", "t"]
theorem sc__law_raised : FnScope N__law_raised ["a", "k"] (defScope s__law_raised) := ⟨rfl, rfl, rfl, by decide +kernel, rfl, by decide +kernel, by decide +kernel⟩
theorem ok__law_raised (T : Tx K mg G) : Good P w K mg base G 1 29 2 ["a", "k"] [] F__law_raised :=
  good_of (N := N__law_raised) T.d__law_raised sc__law_raised rfl fun f cdv A outer s H E hr => by
    have nd := sc__law_raised.nd
    have tk : Takes (cxOf (L2.CX P w) P w K mg base N__law_raised "_law_raised" (defScope s__law_raised) f cdv A outer s H E) (fun cls d _ H => E cls d H) := takes_of rfl rfl rfl rfl
    have hp : PassesOwn (model P w) (cxOf (L2.CX P w) P w K mg base N__law_raised "_law_raised" (defScope s__law_raised) f cdv A outer s H E).A (cxOf (L2.CX P w) P w K mg base N__law_raised "_law_raised" (defScope s__law_raised) f cdv A outer s H E).env (cxOf (L2.CX P w) P w K mg base N__law_raised "_law_raised" (defScope s__law_raised) f cdv A outer s H E).xe := PassesOwn.leaving
    exact rs_cons (rs_set (i := 2) nd rfl (by first | exact Or.inl rfl | exact Or.inr rfl) (re_int) (by first | exact .inl rfl | exact .inr rfl))
        (rs_cons (rs_for' (.nm 3) hp (ri_range1 (by rfl) T.n_range (ra_cons (ev 1) (ra_nil))) (pg_name (i := 3) nd rfl (by first | exact Or.inl rfl | exact Or.inr rfl) (by first | exact .inl rfl | exact .inr rfl)) (rs_one (rs_set (i := 2) nd rfl (by first | exact Or.inl rfl | exact Or.inr rfl) (re_op opr_mul2 ops_mul2 (ev 2) (ev 0)) (by first | exact .inl rfl | exact .inr rfl))))
        (rs_one (rs_ret (ev 2))))
abbrev N_Ratio_eq : List Str := ["self", "other"]
theorem sc_Ratio_eq : FnScope N_Ratio_eq ["self", "other"] (defScope s_Ratio_eq) := ⟨rfl, rfl, rfl, by decide +kernel, rfl, by decide +kernel, by decide +kernel⟩
theorem ok_Ratio_eq (T : Tx K mg G) : Good P w K mg base G 1 104 2 ["self", "other"] [] F_Ratio_eq :=
  goodM_of (N := N_Ratio_eq) T.d_Ratio_eq sc_Ratio_eq rfl fun f cdv A outer s H E hr => by
    have nd := sc_Ratio_eq.nd
    have tk : Takes (cxOf (L2.CX P w) P w K mg base N_Ratio_eq "Ratio.__eq__" (defScope s_Ratio_eq) f cdv A outer s H E) (fun cls d _ H => E cls d H) := takes_of rfl rfl rfl rfl
    have hp : PassesOwn (model P w) (cxOf (L2.CX P w) P w K mg base N_Ratio_eq "Ratio.__eq__" (defScope s_Ratio_eq) f cdv A outer s H E).A (cxOf (L2.CX P w) P w K mg base N_Ratio_eq "Ratio.__eq__" (defScope s_Ratio_eq) f cdv A outer s H E).env (cxOf (L2.CX P w) P w K mg base N_Ratio_eq "Ratio.__eq__" (defScope s_Ratio_eq) f cdv A outer s H E).xe := PassesOwn.leaving
    exact rs_one (rs_ret (re_and (re_isR T.rT (by rfl) T.n_isinstance (by rfl) T.gT (ev 1)) (re_and (re_cmp (opr_eq hr.units) ops_eq (re_fld T.rT T.cF (by decide) (ev 0)) (re_fld T.rT T.cF (by decide) (ev 1)) (nomark _)) (re_one (re_cmp (opr_eq hr.units) ops_eq (re_fld T.rT T.cF (by decide) (ev 0)) (re_fld T.rT T.cF (by decide) (ev 1)) (nomark _))))))
abbrev N_Ratio_is_zero : List Str := ["self"]
theorem sc_Ratio_is_zero : FnScope N_Ratio_is_zero ["self"] (defScope s_Ratio_is_zero) := ⟨rfl, rfl, rfl, by decide +kernel, rfl, by decide +kernel, by decide +kernel⟩
theorem ok_Ratio_is_zero (T : Tx K mg G) : Good P w K mg base G 1 106 1 ["self"] [] F_Ratio_is_zero :=
  goodM_of (N := N_Ratio_is_zero) T.d_Ratio_is_zero sc_Ratio_is_zero rfl fun f cdv A outer s H E hr => by
    have nd := sc_Ratio_is_zero.nd
    have tk : Takes (cxOf (L2.CX P w) P w K mg base N_Ratio_is_zero "Ratio.is_zero" (defScope s_Ratio_is_zero) f cdv A outer s H E) (fun cls d _ H => E cls d H) := takes_of rfl rfl rfl rfl
    have hp : PassesOwn (model P w) (cxOf (L2.CX P w) P w K mg base N_Ratio_is_zero "Ratio.is_zero" (defScope s_Ratio_is_zero) f cdv A outer s H E).A (cxOf (L2.CX P w) P w K mg base N_Ratio_is_zero "Ratio.is_zero" (defScope s_Ratio_is_zero) f cdv A outer s H E).env (cxOf (L2.CX P w) P w K mg base N_Ratio_is_zero "Ratio.is_zero" (defScope s_Ratio_is_zero) f cdv A outer s H E).xe := PassesOwn.leaving
    exact rs_one (rs_ret (re_cmp (opr_eq hr.units) ops_eq (re_fld T.rT T.cF (by decide) (ev 0)) (re_int) (nomark _)))
abbrev N_is_count : List Str := ["value", "low", "high"]
theorem sc_is_count : FnScope N_is_count ["value", "low", "high"] (defScope s_is_count) := ⟨rfl, rfl, rfl, by decide +kernel, rfl, by decide +kernel, by decide +kernel⟩
theorem ok_is_count (T : Tx K mg G) : Good P w K mg base G 2 2 3 ["value", "low", "high"] [] F_is_count :=
  good_of (N := N_is_count) T.d_is_count sc_is_count rfl fun f cdv A outer s H E hr => by
    have nd := sc_is_count.nd
    have tk : Takes (cxOf (L2.CX P w) P w K mg base N_is_count "is_count" (defScope s_is_count) f cdv A outer s H E) (fun cls d _ H => E cls d H) := takes_of rfl rfl rfl rfl
    have hp : PassesOwn (model P w) (cxOf (L2.CX P w) P w K mg base N_is_count "is_count" (defScope s_is_count) f cdv A outer s H E).A (cxOf (L2.CX P w) P w K mg base N_is_count "is_count" (defScope s_is_count) f cdv A outer s H E).env (cxOf (L2.CX P w) P w K mg base N_is_count "is_count" (defScope s_is_count) f cdv A outer s H E).xe := PassesOwn.leaving
    exact rs_one (rs_ret (re_and (ecall0 (ok_is_integer T) (hr.mono (by decide)) tk T.m_is_integer (ra_cons (ev 0) (ra_nil))) (re_one (re_chain op_le op_le ops_le ops_le (ev 1) (ev 0) (ev 2)))))
abbrev N_is_prime : List Str := ["n", "p"]
theorem sc_is_prime : FnScope N_is_prime ["n"] (defScope s_is_prime) := ⟨rfl, rfl, rfl, by decide +kernel, rfl, by decide +kernel, by decide +kernel⟩
theorem ok_is_prime (T : Tx K mg G) : Good P w K mg base G 2 6 1 ["n"] [] F_is_prime :=
  good_of (N := N_is_prime) T.d_is_prime sc_is_prime rfl fun f cdv A outer s H E hr => by
    have nd := sc_is_prime.nd
    have tk : Takes (cxOf (L2.CX P w) P w K mg base N_is_prime "is_prime" (defScope s_is_prime) f cdv A outer s H E) (fun cls d _ H => E cls d H) := takes_of rfl rfl rfl rfl
    have hp : PassesOwn (model P w) (cxOf (L2.CX P w) P w K mg base N_is_prime "is_prime" (defScope s_is_prime) f cdv A outer s H E).A (cxOf (L2.CX P w) P w K mg base N_is_prime "is_prime" (defScope s_is_prime) f cdv A outer s H E).env (cxOf (L2.CX P w) P w K mg base N_is_prime "is_prime" (defScope s_is_prime) f cdv A outer s H E).xe := PassesOwn.leaving
    exact rs_cons (rs_if (pt_of (rw_or (rt_not (rt_val (ecall0 (ok_is_integer T) (hr.mono (by decide)) tk T.m_is_integer (ra_cons (ev 0) (ra_nil))))) (rw_or1 (rt_cmp op_lt ops_lt (ev 0) (re_int) (nomark _))))) (rs_one (rs_ret (re_bl))) (rs_nil))
        (rs_cons (rs_set (i := 1) nd rfl (by first | exact Or.inl rfl | exact Or.inr rfl) (re_int) (by first | exact .inl rfl | exact .inr rfl))
        (rs_cons (rs_while (n := 1000000) hp (rt_cmp op_le ops_le (re_op opr_mul2 ops_mul2 (ev 1) (ev 1)) (ev 0) (nomark _)) (rs_cons (rs_if (rt_cmp (opr_eq hr.units) ops_eq (re_op op_mod ops_mod (ev 0) (ev 1)) (re_int) (nomark _)) (rs_one (rs_ret (re_bl))) (rs_nil))
        (rs_one (rs_set (i := 1) nd rfl (by first | exact Or.inl rfl | exact Or.inr rfl) (re_op opr_add ops_add (ev 1) (re_int)) (by first | exact .inl rfl | exact .inr rfl)))))
        (rs_one (rs_ret (re_bl)))))
abbrev N_check_count : List Str := ["value", "low", "high"]
theorem sc_check_count : FnScope N_check_count ["value", "low", "high"] (defScope s_check_count) := ⟨rfl, rfl, rfl, by decide +kernel, rfl, by decide +kernel, by decide +kernel⟩
theorem ok_check_count (T : Tx K mg G) : Good P w K mg base G 3 3 3 ["value", "low", "high"] [] F_check_count :=
  good_of (N := N_check_count) T.d_check_count sc_check_count rfl fun f cdv A outer s H E hr => by
    have nd := sc_check_count.nd
    have tk : Takes (cxOf (L2.CX P w) P w K mg base N_check_count "check_count" (defScope s_check_count) f cdv A outer s H E) (fun cls d _ H => E cls d H) := takes_of rfl rfl rfl rfl
    have hp : PassesOwn (model P w) (cxOf (L2.CX P w) P w K mg base N_check_count "check_count" (defScope s_check_count) f cdv A outer s H E).A (cxOf (L2.CX P w) P w K mg base N_check_count "check_count" (defScope s_check_count) f cdv A outer s H E).env (cxOf (L2.CX P w) P w K mg base N_check_count "check_count" (defScope s_check_count) f cdv A outer s H E).xe := PassesOwn.leaving
    exact rs_one (rs_if (rt_not (rt_val (ecall0 (ok_is_count T) (hr.mono (by decide)) tk T.m_is_count (ra_cons (ev 0) (ra_cons (ev 1) (ra_cons (ev 2) (ra_nil))))))) (rs_one (rs_mal rfl rfl tk PySem.F.excBase_ValueError T.xM T.gM T.kM (raises_own T.bM T.tM) (by rfl))) (rs_nil))
abbrev N_check_prime : List Str := ["p", "high"]
theorem sc_check_prime : FnScope N_check_prime ["p", "high"] (defScope s_check_prime) := ⟨rfl, rfl, rfl, by decide +kernel, rfl, by decide +kernel, by decide +kernel⟩
theorem ok_check_prime (T : Tx K mg G) : Good P w K mg base G 3 7 2 ["p", "high"] [] F_check_prime :=
  good_of (N := N_check_prime) T.d_check_prime sc_check_prime rfl fun f cdv A outer s H E hr => by
    have nd := sc_check_prime.nd
    have tk : Takes (cxOf (L2.CX P w) P w K mg base N_check_prime "check_prime" (defScope s_check_prime) f cdv A outer s H E) (fun cls d _ H => E cls d H) := takes_of rfl rfl rfl rfl
    have hp : PassesOwn (model P w) (cxOf (L2.CX P w) P w K mg base N_check_prime "check_prime" (defScope s_check_prime) f cdv A outer s H E).A (cxOf (L2.CX P w) P w K mg base N_check_prime "check_prime" (defScope s_check_prime) f cdv A outer s H E).env (cxOf (L2.CX P w) P w K mg base N_check_prime "check_prime" (defScope s_check_prime) f cdv A outer s H E).xe := PassesOwn.leaving
    exact rs_one (rs_if (pt_of (rw_or (rt_not (rt_val (ecall0 (ok_is_count T) (hr.mono (by decide)) tk T.m_is_count (ra_cons (ev 0) (ra_cons (re_int) (ra_cons (ev 1) (ra_nil))))))) (rw_or1 (rt_not (rt_val (ecall0 (ok_is_prime T) (hr.mono (by decide)) tk T.m_is_prime (ra_cons (ev 0) (ra_nil)))))))) (rs_one (rs_mal rfl rfl tk PySem.F.excBase_ValueError T.xM T.gM T.kM (raises_own T.bM T.tM) (by rfl))) (rs_nil))
abbrev N_Rinit : List Str := ["self", "n", "d", "g"]
theorem sc_Rinit : FnScope N_Rinit ["self", "n", "d"] (defScope s_Rinit) := ⟨rfl, rfl, rfl, by decide +kernel, rfl, by decide +kernel, by decide +kernel⟩
theorem ok_Rinit (T0 : Tx K mg G) : GoodN P w K mg base G 3 FI_Ratio :=
  goodN_of (N := N_Rinit) (f1 := I1_Ratio) (f2 := I2_Ratio) (f3 := I3_Ratio) (e1 := I4_Ratio) (e2 := I5_Ratio) T0.d_Rinit sc_Rinit T0.rT fun a f cdv A outer s H E hr => by
    have T := tx9 (a := a) T0
    have nd := sc_Rinit.nd
    have tk : Takes (cxOf (L2.CX P w) P w K mg base N_Rinit "Ratio.__init__" (defScope s_Rinit) f cdv A outer s H E) (fun cls d _ H => E cls d H) := takes_of rfl rfl rfl rfl
    have hp : PassesOwn (model P w) (cxOf (L2.CX P w) P w K mg base N_Rinit "Ratio.__init__" (defScope s_Rinit) f cdv A outer s H E).A (cxOf (L2.CX P w) P w K mg base N_Rinit "Ratio.__init__" (defScope s_Rinit) f cdv A outer s H E).env (cxOf (L2.CX P w) P w K mg base N_Rinit "Ratio.__init__" (defScope s_Rinit) f cdv A outer s H E).xe := PassesOwn.leaving
    exact pss_cons (rs_if (pt_of (rw_or (rt_not (rt_val (ecall0 (ok_is_integer T) (hr.mono (by decide)) tk T.m_is_integer (ra_cons (ev 1) (ra_nil))))) (rw_or1 (rt_not (rt_val (ecall0 (ok_is_integer T) (hr.mono (by decide)) tk T.m_is_integer (ra_cons (ev 2) (ra_nil)))))))) (rs_one (rs_mal rfl rfl tk PySem.F.excBase_ValueError T.xM T.gM T.kM (raises_own T.bM T.tM) (by rfl))) (rs_nil))
        (pss_cons (rs_if (rt_cmp (opr_eq hr.units) ops_eq (ev 2) (re_int) (nomark _)) (rs_one (rs_rfd' T.rC (ok_init T) (hr.mono (by decide)) rfl tk (by rfl) T.gR (ra_cons (re_str) (ra_nil)))) (rs_nil))
        (pss_cons (rs_set (i := 3) nd rfl (by first | exact Or.inl rfl | exact Or.inr rfl) (ecall0 (ok_common T) (hr.mono (by decide)) tk T.m_common (ra_cons (ev 1) (ra_cons (ev 2) (ra_nil)))) (by first | exact .inl rfl | exact .inr rfl))
        (pss_cons (ps_fld (pv 0) (re_if (rt_cmp op_gt ops_gt (ev 2) (re_int) (nomark _)) (re_op op_fdivW ops_div (ev 1) (ev 3)) (re_op op_fdivW ops_div (re_un un_neg uns_neg (ev 1)) (ev 3))) (by rfl))
        (pss_one (ps_fld (pv 0) (re_op op_fdivW ops_div (re_b1 call_abs uns_abs (by rfl) T.n_abs (by decide +kernel) (ev 2)) (ev 3)) (by rfl))))))
abbrev N_check_place : List Str := ["p"]
theorem sc_check_place : FnScope N_check_place ["p"] (defScope s_check_place) := ⟨rfl, rfl, rfl, by decide +kernel, rfl, by decide +kernel, by decide +kernel⟩
theorem ok_check_place (T : Tx K mg G) : Good P w K mg base G 4 9 1 ["p"] [] F_check_place :=
  good_of (N := N_check_place) T.d_check_place sc_check_place rfl fun f cdv A outer s H E hr => by
    have nd := sc_check_place.nd
    have tk : Takes (cxOf (L2.CX P w) P w K mg base N_check_place "check_place" (defScope s_check_place) f cdv A outer s H E) (fun cls d _ H => E cls d H) := takes_of rfl rfl rfl rfl
    have hp : PassesOwn (model P w) (cxOf (L2.CX P w) P w K mg base N_check_place "check_place" (defScope s_check_place) f cdv A outer s H E).A (cxOf (L2.CX P w) P w K mg base N_check_place "check_place" (defScope s_check_place) f cdv A outer s H E).env (cxOf (L2.CX P w) P w K mg base N_check_place "check_place" (defScope s_check_place) f cdv A outer s H E).xe := PassesOwn.leaving
    exact rs_one (rs_expr (ecall0 (ok_check_prime T) (hr.mono (by decide)) tk T.m_check_prime (ra_cons (ev 0) (ra_cons (re_gint (by rfl) T.c_MOST_PRIME) (ra_nil)))))
abbrev N_check_even : List Str := ["n"]
theorem sc_check_even : FnScope N_check_even ["n"] (defScope s_check_even) := ⟨rfl, rfl, rfl, by decide +kernel, rfl, by decide +kernel, by decide +kernel⟩
theorem ok_check_even (T : Tx K mg G) : Good P w K mg base G 4 16 1 ["n"] [] F_check_even :=
  good_of (N := N_check_even) T.d_check_even sc_check_even rfl fun f cdv A outer s H E hr => by
    have nd := sc_check_even.nd
    have tk : Takes (cxOf (L2.CX P w) P w K mg base N_check_even "check_even" (defScope s_check_even) f cdv A outer s H E) (fun cls d _ H => E cls d H) := takes_of rfl rfl rfl rfl
    have hp : PassesOwn (model P w) (cxOf (L2.CX P w) P w K mg base N_check_even "check_even" (defScope s_check_even) f cdv A outer s H E).A (cxOf (L2.CX P w) P w K mg base N_check_even "check_even" (defScope s_check_even) f cdv A outer s H E).env (cxOf (L2.CX P w) P w K mg base N_check_even "check_even" (defScope s_check_even) f cdv A outer s H E).xe := PassesOwn.leaving
    exact rs_cons (rs_expr (ecall0 (ok_check_count T) (hr.mono (by decide)) tk T.m_check_count (ra_cons (ev 0) (ra_cons (re_int) (ra_cons (re_gint (by rfl) T.c_MOST_INDEX) (ra_nil))))))
        (rs_one (rs_if (rt_cmp (opr_ne hr.units) ops_ne (re_op op_mod ops_mod (ev 0) (re_int)) (re_int) (nomark _)) (rs_one (rs_mal rfl rfl tk PySem.F.excBase_ValueError T.xM T.gM T.kM (raises_own T.bM T.tM) (by rfl))) (rs_nil)))
abbrev N_lower_primes : List Str := ["n", "p"]
def sc_lower_primes_0 : PySem.Scope := { kind := PySem.ScopeKind.function, names := [(PySem.Str.ofString ".0", PySem.NameKind.local), (PySem.Str.ofString "p", PySem.NameKind.local), (PySem.Str.ofString "is_prime", PySem.NameKind.globalImplicit), (PySem.Str.ofString "n", PySem.NameKind.cell)], isGenerator := false, isCoroutine := false, more := [] : PySem.Scope }
theorem sc_lower_primes : FnScope N_lower_primes ["n"] (defScope s_lower_primes) := ⟨rfl, rfl, rfl, by decide +kernel, rfl, by decide +kernel, by decide +kernel⟩
theorem ok_lower_primes (T : Tx K mg G) : Good P w K mg base G 5 15 1 ["n"] [] F_lower_primes :=
  good_of (N := N_lower_primes) T.d_lower_primes sc_lower_primes rfl fun f cdv A outer s H E hr => by
    have nd := sc_lower_primes.nd
    have tk : Takes (cxOf (L2.CX P w) P w K mg base N_lower_primes "lower_primes" (defScope s_lower_primes) f cdv A outer s H E) (fun cls d _ H => E cls d H) := takes_of rfl rfl rfl rfl
    have hp : PassesOwn (model P w) (cxOf (L2.CX P w) P w K mg base N_lower_primes "lower_primes" (defScope s_lower_primes) f cdv A outer s H E).A (cxOf (L2.CX P w) P w K mg base N_lower_primes "lower_primes" (defScope s_lower_primes) f cdv A outer s H E).env (cxOf (L2.CX P w) P w K mg base N_lower_primes "lower_primes" (defScope s_lower_primes) f cdv A outer s H E).xe := PassesOwn.leaving
    exact rs_cons (rs_expr (ecall0 (ok_check_even T) (hr.mono (by decide)) tk T.m_check_even (ra_cons (ev 0) (ra_nil))))
        (rs_one (rs_ret (re_t1 call_tuple_of uns_tup (by rfl) T.n_tuple (by decide +kernel) (re_lc (own := [("p", 1)]) (t := .nm 1) rfl nd (ri_range2 (by rfl) T.n_range (ra_cons (re_int) (ra_cons (re_op opr_add ops_add (ev 0) (re_int)) (ra_nil)))) (blkOk_by (own := [("p", 1)]) (N := N_lower_primes) (sc := (defScope s_lower_primes)) (by decide +kernel)) (fun _ _ _ _ _ => pg_name (i := 1) nd rfl (by first | exact Or.inl rfl | exact Or.inr rfl) (by first | exact .inl rfl | exact .inr rfl)) (fun _ _ _ _ _ => rts_one (pt_of (rw_and (rt_val (ecall0 (ok_is_prime T) (hr.mono (by decide)) takes0 T.m_is_prime (ra_cons (ev 1) (ra_nil)))) (rw_and1 (rt_cmp (opr_eq hr.units) ops_eq (re_op op_mod ops_mod (ev 0) (re_op op_sub ops_sub (ev 1) (re_int))) (re_int) (nomark _)))))) (fun _ _ _ _ _ => ev 1) (by decide)))))
abbrev N_Ratio_add : List Str := ["self", "other"]
theorem sc_Ratio_add : FnScope N_Ratio_add ["self", "other"] (defScope s_Ratio_add) := ⟨rfl, rfl, rfl, by decide +kernel, rfl, by decide +kernel, by decide +kernel⟩
theorem ok_Ratio_add (T : Tx K mg G) : Good P w K mg base G 5 100 2 ["self", "other"] [] F_Ratio_add :=
  goodM_of (N := N_Ratio_add) T.d_Ratio_add sc_Ratio_add rfl fun f cdv A outer s H E hr => by
    have nd := sc_Ratio_add.nd
    have tk : Takes (cxOf (L2.CX P w) P w K mg base N_Ratio_add "Ratio.__add__" (defScope s_Ratio_add) f cdv A outer s H E) (fun cls d _ H => E cls d H) := takes_of rfl rfl rfl rfl
    have hp : PassesOwn (model P w) (cxOf (L2.CX P w) P w K mg base N_Ratio_add "Ratio.__add__" (defScope s_Ratio_add) f cdv A outer s H E).A (cxOf (L2.CX P w) P w K mg base N_Ratio_add "Ratio.__add__" (defScope s_Ratio_add) f cdv A outer s H E).env (cxOf (L2.CX P w) P w K mg base N_Ratio_add "Ratio.__add__" (defScope s_Ratio_add) f cdv A outer s H E).xe := PassesOwn.leaving
    exact rs_cons (rs_expr (ecall0 (ok_check_ratio T) (hr.mono (by decide)) tk T.m_check_ratio (ra_cons (ev 1) (ra_nil))))
        (rs_one (rs_ret (re_new2 (ok_Rinit T) T.cF (hr.mono (by decide)) (by rfl) T.gT tk (ra_cons (re_op opr_add ops_add (re_op opr_mul2 ops_mul2 (re_fld T.rT T.cF (by decide) (ev 0)) (re_fld T.rT T.cF (by decide) (ev 1))) (re_op opr_mul2 ops_mul2 (re_fld T.rT T.cF (by decide) (ev 1)) (re_fld T.rT T.cF (by decide) (ev 0)))) (ra_cons (re_op opr_mul2 ops_mul2 (re_fld T.rT T.cF (by decide) (ev 0)) (re_fld T.rT T.cF (by decide) (ev 1))) (ra_nil))))))
abbrev N_Ratio_sub : List Str := ["self", "other"]
theorem sc_Ratio_sub : FnScope N_Ratio_sub ["self", "other"] (defScope s_Ratio_sub) := ⟨rfl, rfl, rfl, by decide +kernel, rfl, by decide +kernel, by decide +kernel⟩
theorem ok_Ratio_sub (T : Tx K mg G) : Good P w K mg base G 5 101 2 ["self", "other"] [] F_Ratio_sub :=
  goodM_of (N := N_Ratio_sub) T.d_Ratio_sub sc_Ratio_sub rfl fun f cdv A outer s H E hr => by
    have nd := sc_Ratio_sub.nd
    have tk : Takes (cxOf (L2.CX P w) P w K mg base N_Ratio_sub "Ratio.__sub__" (defScope s_Ratio_sub) f cdv A outer s H E) (fun cls d _ H => E cls d H) := takes_of rfl rfl rfl rfl
    have hp : PassesOwn (model P w) (cxOf (L2.CX P w) P w K mg base N_Ratio_sub "Ratio.__sub__" (defScope s_Ratio_sub) f cdv A outer s H E).A (cxOf (L2.CX P w) P w K mg base N_Ratio_sub "Ratio.__sub__" (defScope s_Ratio_sub) f cdv A outer s H E).env (cxOf (L2.CX P w) P w K mg base N_Ratio_sub "Ratio.__sub__" (defScope s_Ratio_sub) f cdv A outer s H E).xe := PassesOwn.leaving
    exact rs_cons (rs_expr (ecall0 (ok_check_ratio T) (hr.mono (by decide)) tk T.m_check_ratio (ra_cons (ev 1) (ra_nil))))
        (rs_one (rs_ret (re_new2 (ok_Rinit T) T.cF (hr.mono (by decide)) (by rfl) T.gT tk (ra_cons (re_op op_sub ops_sub (re_op opr_mul2 ops_mul2 (re_fld T.rT T.cF (by decide) (ev 0)) (re_fld T.rT T.cF (by decide) (ev 1))) (re_op opr_mul2 ops_mul2 (re_fld T.rT T.cF (by decide) (ev 1)) (re_fld T.rT T.cF (by decide) (ev 0)))) (ra_cons (re_op opr_mul2 ops_mul2 (re_fld T.rT T.cF (by decide) (ev 0)) (re_fld T.rT T.cF (by decide) (ev 1))) (ra_nil))))))
abbrev N_Ratio_mul : List Str := ["self", "other"]
theorem sc_Ratio_mul : FnScope N_Ratio_mul ["self", "other"] (defScope s_Ratio_mul) := ⟨rfl, rfl, rfl, by decide +kernel, rfl, by decide +kernel, by decide +kernel⟩
theorem ok_Ratio_mul (T : Tx K mg G) : Good P w K mg base G 5 102 2 ["self", "other"] [] F_Ratio_mul :=
  goodM_of (N := N_Ratio_mul) T.d_Ratio_mul sc_Ratio_mul rfl fun f cdv A outer s H E hr => by
    have nd := sc_Ratio_mul.nd
    have tk : Takes (cxOf (L2.CX P w) P w K mg base N_Ratio_mul "Ratio.__mul__" (defScope s_Ratio_mul) f cdv A outer s H E) (fun cls d _ H => E cls d H) := takes_of rfl rfl rfl rfl
    have hp : PassesOwn (model P w) (cxOf (L2.CX P w) P w K mg base N_Ratio_mul "Ratio.__mul__" (defScope s_Ratio_mul) f cdv A outer s H E).A (cxOf (L2.CX P w) P w K mg base N_Ratio_mul "Ratio.__mul__" (defScope s_Ratio_mul) f cdv A outer s H E).env (cxOf (L2.CX P w) P w K mg base N_Ratio_mul "Ratio.__mul__" (defScope s_Ratio_mul) f cdv A outer s H E).xe := PassesOwn.leaving
    exact rs_cons (rs_expr (ecall0 (ok_check_ratio T) (hr.mono (by decide)) tk T.m_check_ratio (ra_cons (ev 1) (ra_nil))))
        (rs_one (rs_ret (re_new2 (ok_Rinit T) T.cF (hr.mono (by decide)) (by rfl) T.gT tk (ra_cons (re_op opr_mul2 ops_mul2 (re_fld T.rT T.cF (by decide) (ev 0)) (re_fld T.rT T.cF (by decide) (ev 1))) (ra_cons (re_op opr_mul2 ops_mul2 (re_fld T.rT T.cF (by decide) (ev 0)) (re_fld T.rT T.cF (by decide) (ev 1))) (ra_nil))))))
abbrev N_Ratio_neg : List Str := ["self"]
theorem sc_Ratio_neg : FnScope N_Ratio_neg ["self"] (defScope s_Ratio_neg) := ⟨rfl, rfl, rfl, by decide +kernel, rfl, by decide +kernel, by decide +kernel⟩
theorem ok_Ratio_neg (T : Tx K mg G) : Good P w K mg base G 5 103 1 ["self"] [] F_Ratio_neg :=
  goodM_of (N := N_Ratio_neg) T.d_Ratio_neg sc_Ratio_neg rfl fun f cdv A outer s H E hr => by
    have nd := sc_Ratio_neg.nd
    have tk : Takes (cxOf (L2.CX P w) P w K mg base N_Ratio_neg "Ratio.__neg__" (defScope s_Ratio_neg) f cdv A outer s H E) (fun cls d _ H => E cls d H) := takes_of rfl rfl rfl rfl
    have hp : PassesOwn (model P w) (cxOf (L2.CX P w) P w K mg base N_Ratio_neg "Ratio.__neg__" (defScope s_Ratio_neg) f cdv A outer s H E).A (cxOf (L2.CX P w) P w K mg base N_Ratio_neg "Ratio.__neg__" (defScope s_Ratio_neg) f cdv A outer s H E).env (cxOf (L2.CX P w) P w K mg base N_Ratio_neg "Ratio.__neg__" (defScope s_Ratio_neg) f cdv A outer s H E).xe := PassesOwn.leaving
    exact rs_one (rs_ret (re_new2 (ok_Rinit T) T.cF (hr.mono (by decide)) (by rfl) T.gT tk (ra_cons (re_un un_neg uns_neg (re_fld T.rT T.cF (by decide) (ev 0))) (ra_cons (re_fld T.rT T.cF (by decide) (ev 0)) (ra_nil)))))
abbrev N_Ratio_times : List Str := ["self", "k"]
theorem sc_Ratio_times : FnScope N_Ratio_times ["self", "k"] (defScope s_Ratio_times) := ⟨rfl, rfl, rfl, by decide +kernel, rfl, by decide +kernel, by decide +kernel⟩
theorem ok_Ratio_times (T : Tx K mg G) : Good P w K mg base G 5 105 2 ["self", "k"] [] F_Ratio_times :=
  goodM_of (N := N_Ratio_times) T.d_Ratio_times sc_Ratio_times rfl fun f cdv A outer s H E hr => by
    have nd := sc_Ratio_times.nd
    have tk : Takes (cxOf (L2.CX P w) P w K mg base N_Ratio_times "Ratio.times" (defScope s_Ratio_times) f cdv A outer s H E) (fun cls d _ H => E cls d H) := takes_of rfl rfl rfl rfl
    have hp : PassesOwn (model P w) (cxOf (L2.CX P w) P w K mg base N_Ratio_times "Ratio.times" (defScope s_Ratio_times) f cdv A outer s H E).A (cxOf (L2.CX P w) P w K mg base N_Ratio_times "Ratio.times" (defScope s_Ratio_times) f cdv A outer s H E).env (cxOf (L2.CX P w) P w K mg base N_Ratio_times "Ratio.times" (defScope s_Ratio_times) f cdv A outer s H E).xe := PassesOwn.leaving
    exact rs_one (rs_ret (re_new2 (ok_Rinit T) T.cF (hr.mono (by decide)) (by rfl) T.gT tk (ra_cons (re_op opr_mul2 ops_mul2 (re_fld T.rT T.cF (by decide) (ev 0)) (ev 1)) (ra_cons (re_fld T.rT T.cF (by decide) (ev 0)) (ra_nil)))))
abbrev N_numbers_to : List Str := ["n", "found", "k", "total", "i"]
theorem sc_numbers_to : FnScope N_numbers_to ["n"] (defScope s_numbers_to) := ⟨rfl, rfl, rfl, by decide +kernel, rfl, by decide +kernel, by decide +kernel⟩
theorem ok_numbers_to (T : Tx K mg G) : Good P w K mg base G 6 11 1 ["n"] [] F_numbers_to :=
  good_of (N := N_numbers_to) T.d_numbers_to sc_numbers_to rfl fun f cdv A outer s H E hr => by
    have nd := sc_numbers_to.nd
    have tk : Takes (cxOf (L2.CX P w) P w K mg base N_numbers_to "numbers_to" (defScope s_numbers_to) f cdv A outer s H E) (fun cls d _ H => E cls d H) := takes_of rfl rfl rfl rfl
    have hp : PassesOwn (model P w) (cxOf (L2.CX P w) P w K mg base N_numbers_to "numbers_to" (defScope s_numbers_to) f cdv A outer s H E).A (cxOf (L2.CX P w) P w K mg base N_numbers_to "numbers_to" (defScope s_numbers_to) f cdv A outer s H E).env (cxOf (L2.CX P w) P w K mg base N_numbers_to "numbers_to" (defScope s_numbers_to) f cdv A outer s H E).xe := PassesOwn.leaving
    exact rs_cons (rs_set (i := 1) nd rfl (by first | exact Or.inl rfl | exact Or.inr rfl) (re_lst (ra_cons (re_new1 (ok_Rinit T) T.cF (hr.mono (by decide)) (by rfl) T.gT tk (ra_cons (re_int) (ra_nil))) (ra_nil))) (by first | exact .inl rfl | exact .inr rfl))
        (rs_cons (rs_for' (.nm 2) hp (ri_range2 (by rfl) T.n_range (ra_cons (re_int) (ra_cons (re_opR (ok_Ratio_add T) T.sfR T.d_Ratio_add rfl (hr.mono (by decide)) tk opr_add ops_add (ev 0) (re_int)) (ra_nil)))) (pg_name (i := 2) nd rfl (by first | exact Or.inl rfl | exact Or.inr rfl) (by first | exact .inl rfl | exact .inr rfl)) (rs_one (rs_if (pt_of (rw_and (rt_cmp op_gt ops_gt (ev 2) (re_int) (nomark _)) (rw_and1 (rt_cmp (opr_eq hr.units) ops_eq (re_op op_mod ops_mod (ev 2) (re_int)) (re_int) (nomark _))))) (rs_one (rs_app' 1 (re_new1 (ok_Rinit T) T.cF (hr.mono (by decide)) (by rfl) T.gT tk (ra_cons (re_int) (ra_nil))) (hcall := pe_bm PySem.F.plainAttrs_list PySem.F.slot_list_append PySem.F.type_list_append mt_append (pv 1) (pa_cons (re_new1 (ok_Rinit T) T.cF (hr.mono (by decide)) (by rfl) T.gT tk (ra_cons (re_int) (ra_nil))) pa_nil)))) (rs_cons (rs_set (i := 3) nd rfl (by first | exact Or.inl rfl | exact Or.inr rfl) (re_new1 (ok_Rinit T) T.cF (hr.mono (by decide)) (by rfl) T.gT tk (ra_cons (re_int) (ra_nil))) (by first | exact .inl rfl | exact .inr rfl))
        (rs_cons (rs_for' (.nm 4) hp (ri_range1 (by rfl) T.n_range (ra_cons (ev 2) (ra_nil))) (pg_name (i := 4) nd rfl (by first | exact Or.inl rfl | exact Or.inr rfl) (by first | exact .inl rfl | exact .inr rfl)) (rs_one (rs_if (rt_not (rt_val (re_meth0 (ok_Ratio_is_zero T) T.d_Ratio_is_zero T.rT T.cF (by decide) (hr.mono (by decide)) tk (re_ix ixr_any ops_ix (ev 1) (ev 4) (fun _ _ => rfl))))) (rs_one (rs_set (i := 3) nd rfl (by first | exact Or.inl rfl | exact Or.inr rfl) (re_opR (ok_Ratio_add T) T.sfR T.d_Ratio_add rfl (hr.mono (by decide)) tk opr_add ops_add (ev 3) (re_meth (ok_Ratio_times T) T.d_Ratio_times T.rT T.cF (by decide) (hr.mono (by decide)) tk (re_ix ixr_any ops_ix (ev 1) (ev 4) (fun _ _ => rfl)) (ra_cons (ecall0 (ok_binomial T) (hr.mono (by decide)) tk T.m_binomial (ra_cons (re_opR (ok_Ratio_add T) T.sfR T.d_Ratio_add rfl (hr.mono (by decide)) tk opr_add ops_add (ev 2) (re_int)) (ra_cons (ev 4) (ra_nil)))) (ra_nil)))) (by first | exact .inl rfl | exact .inr rfl))) (rs_nil))))
        (rs_one (rs_app' 1 (re_opR (ok_Ratio_mul T) T.sfR T.d_Ratio_mul rfl (hr.mono (by decide)) tk opr_mul2 ops_mul2 (re_negR (ok_Ratio_neg T) T.d_Ratio_neg (hr.mono (by decide)) tk un_neg uns_neg (ev 3)) (re_new2 (ok_Rinit T) T.cF (hr.mono (by decide)) (by rfl) T.gT tk (ra_cons (re_int) (ra_cons (re_opR (ok_Ratio_add T) T.sfR T.d_Ratio_add rfl (hr.mono (by decide)) tk opr_add ops_add (ev 2) (re_int)) (ra_nil))))) (hcall := pe_bm PySem.F.plainAttrs_list PySem.F.slot_list_append PySem.F.type_list_append mt_append (pv 1) (pa_cons (re_opR (ok_Ratio_mul T) T.sfR T.d_Ratio_mul rfl (hr.mono (by decide)) tk opr_mul2 ops_mul2 (re_negR (ok_Ratio_neg T) T.d_Ratio_neg (hr.mono (by decide)) tk un_neg uns_neg (ev 3)) (re_new2 (ok_Rinit T) T.cF (hr.mono (by decide)) (by rfl) T.gT tk (ra_cons (re_int) (ra_cons (re_opR (ok_Ratio_add T) T.sfR T.d_Ratio_add rfl (hr.mono (by decide)) tk opr_add ops_add (ev 2) (re_int)) (ra_nil))))) pa_nil)))))))))
        (rs_one (rs_ret (ev 1))))
abbrev N_bernoulli_by_triangle : List Str := ["n", "row", "_", "k", "a", "b"]
def sc_bernoulli_by_triangle_0 : PySem.Scope := { kind := PySem.ScopeKind.function, names := [(PySem.Str.ofString ".0", PySem.NameKind.local), (PySem.Str.ofString "k", PySem.NameKind.local), (PySem.Str.ofString "Ratio", PySem.NameKind.globalImplicit)], isGenerator := false, isCoroutine := false, more := [] : PySem.Scope }
def sc_bernoulli_by_triangle_1 : PySem.Scope := { kind := PySem.ScopeKind.function, names := [(PySem.Str.ofString ".0", PySem.NameKind.local), (PySem.Str.ofString "k", PySem.NameKind.local), (PySem.Str.ofString "a", PySem.NameKind.local), (PySem.Str.ofString "b", PySem.NameKind.local)], isGenerator := false, isCoroutine := false, more := [] : PySem.Scope }
theorem sc_bernoulli_by_triangle : FnScope N_bernoulli_by_triangle ["n"] (defScope s_bernoulli_by_triangle) := ⟨rfl, rfl, rfl, by decide +kernel, rfl, by decide +kernel, by decide +kernel⟩
theorem ok_bernoulli_by_triangle (T : Tx K mg G) : Good P w K mg base G 6 12 1 ["n"] [] F_bernoulli_by_triangle :=
  good_of (N := N_bernoulli_by_triangle) T.d_bernoulli_by_triangle sc_bernoulli_by_triangle rfl fun f cdv A outer s H E hr => by
    have nd := sc_bernoulli_by_triangle.nd
    have tk : Takes (cxOf (L2.CX P w) P w K mg base N_bernoulli_by_triangle "bernoulli_by_triangle" (defScope s_bernoulli_by_triangle) f cdv A outer s H E) (fun cls d _ H => E cls d H) := takes_of rfl rfl rfl rfl
    have hp : PassesOwn (model P w) (cxOf (L2.CX P w) P w K mg base N_bernoulli_by_triangle "bernoulli_by_triangle" (defScope s_bernoulli_by_triangle) f cdv A outer s H E).A (cxOf (L2.CX P w) P w K mg base N_bernoulli_by_triangle "bernoulli_by_triangle" (defScope s_bernoulli_by_triangle) f cdv A outer s H E).env (cxOf (L2.CX P w) P w K mg base N_bernoulli_by_triangle "bernoulli_by_triangle" (defScope s_bernoulli_by_triangle) f cdv A outer s H E).xe := PassesOwn.leaving
    exact rs_cons (rs_expr (ecall0 (ok_check_count T) (hr.mono (by decide)) tk T.m_check_count (ra_cons (ev 0) (ra_cons (re_int) (ra_cons (re_gint (by rfl) T.c_MOST_INDEX) (ra_nil))))))
        (rs_cons (rs_setLc (i := 1) (own := [("k", 3)]) (t := .nm 3) rfl nd rfl rfl (sw_true rfl rfl rfl (by decide +kernel)) (ri_range1 (by rfl) T.n_range (ra_cons (re_opR (ok_Ratio_add T) T.sfR T.d_Ratio_add rfl (hr.mono (by decide)) tk opr_add ops_add (ev 0) (re_int)) (ra_nil))) (blkOk_by (own := [("k", 3)]) (N := N_bernoulli_by_triangle) (sc := (defScope s_bernoulli_by_triangle)) (by decide +kernel)) (fun _ _ _ _ _ => pg_name (i := 3) nd rfl (by first | exact Or.inl rfl | exact Or.inr rfl) (by first | exact .inl rfl | exact .inr rfl)) (fun _ _ _ _ _ => rts_nil) (fun _ _ _ _ _ => re_new2 (ok_Rinit T) T.cF (hr.mono (by decide)) (by rfl) T.gT takes0 (ra_cons (re_int) (ra_cons (re_opR (ok_Ratio_add T) T.sfR T.d_Ratio_add rfl (hr.mono (by decide)) takes0 opr_add ops_add (ev 3) (re_int)) (ra_nil)))) (by decide))
        (rs_cons (rs_for' (.nm 2) hp (ri_range1 (by rfl) T.n_range (ra_cons (ev 0) (ra_nil))) (pg_name (i := 2) nd rfl (by first | exact Or.inl rfl | exact Or.inr rfl) (by first | exact .inl rfl | exact .inr rfl)) (rs_one (rs_setLc (i := 1) (own := [("k", 3), ("a", 4), ("b", 5)]) (t := .tq 3 [4, 5]) rfl nd rfl rfl (sw_true rfl rfl rfl (by decide +kernel)) (ri_enumz (by rfl) T.n_enumerate (by rfl) T.n_zip (ra_cons (ev 1) (ra_cons (re_sl (ev 1) (ro_some (re_int)) (ro_none)) (ra_nil)))) (blkOk_by (own := [("k", 3), ("a", 4), ("b", 5)]) (N := N_bernoulli_by_triangle) (sc := (defScope s_bernoulli_by_triangle)) (by decide +kernel)) (fun _ _ _ _ _ => pg_tup (n := 2) rfl (pgs_cons (pg_name (i := 3) nd rfl (by first | exact Or.inl rfl | exact Or.inr rfl) (by first | exact .inl rfl | exact .inr rfl)) (pgs_cons (pg_tup rfl (pgs_cons (pg_name (i := 4) nd rfl (by first | exact Or.inl rfl | exact Or.inr rfl) (by first | exact .inl rfl | exact .inr rfl)) (pgs_cons (pg_name (i := 5) nd rfl (by first | exact Or.inl rfl | exact Or.inr rfl) (by first | exact .inl rfl | exact .inr rfl)) (pgs_nil)))) pgs_nil))) (fun _ _ _ _ _ => rts_nil) (fun _ _ _ _ _ => re_meth (ok_Ratio_times T) T.d_Ratio_times T.rT T.cF (by decide) (hr.mono (by decide)) takes0 (re_opR (ok_Ratio_sub T) T.sfR T.d_Ratio_sub rfl (hr.mono (by decide)) takes0 op_sub ops_sub (ev 4) (ev 5)) (ra_cons (re_opR (ok_Ratio_add T) T.sfR T.d_Ratio_add rfl (hr.mono (by decide)) takes0 opr_add ops_add (ev 3) (re_int)) (ra_nil))) (by decide))))
        (rs_one (rs_ret (re_if (rt_cmp (opr_eq hr.units) ops_eq (ev 0) (re_int) (nomark _)) (re_negR (ok_Ratio_neg T) T.d_Ratio_neg (hr.mono (by decide)) tk un_neg uns_neg (re_ix ixr_any ops_ix (ev 1) (re_int) (fun _ _ => rfl))) (re_ix ixr_any ops_ix (ev 1) (re_int) (fun _ _ => rfl)))))))
abbrev N__law_number : List Str := ["state", "top"]
theorem sc__law_number : FnScope N__law_number ["state", "top"] (defScope s__law_number) := ⟨rfl, rfl, rfl, by decide +kernel, rfl, by decide +kernel, by decide +kernel⟩
theorem ok__law_number (T : Tx K mg G) : GoodB P w K mg base G 6 30 2 ["state", "top"] F__law_number :=
  goodB_of (N := N__law_number) T.d__law_number sc__law_number rfl fun f cdv A outer s H E hr => by
    have nd := sc__law_number.nd
    have tk : Takes (cxOf (L2.CX P w) P w K mg base N__law_number "_law_number" (defScope s__law_number) f cdv A outer s H E) (fun cls d _ H => E cls d H) := takes_of rfl rfl rfl rfl
    have hp : PassesOwn (model P w) (cxOf (L2.CX P w) P w K mg base N__law_number "_law_number" (defScope s__law_number) f cdv A outer s H E).A (cxOf (L2.CX P w) P w K mg base N__law_number "_law_number" (defScope s__law_number) f cdv A outer s H E).env (cxOf (L2.CX P w) P w K mg base N__law_number "_law_number" (defScope s__law_number) f cdv A outer s H E).xe := PassesOwn.leaving
    exact rs_one (rs_ret (re_new2 (ok_Rinit T) T.cF (hr.mono (by decide)) (by rfl) T.gT tk (ra_cons (re_opR (ok_Ratio_sub T) T.sfR T.d_Ratio_sub rfl (hr.mono (by decide)) tk op_sub ops_sub (ecallB (j := 0) (ok__law_take T) (hr.mono (by decide)) tk T.m__law_take (ra_cons (re_opR (ok_Ratio_add T) T.sfR T.d_Ratio_add rfl (hr.mono (by decide)) tk opr_add ops_add (re_opR (ok_Ratio_mul T) T.sfR T.d_Ratio_mul rfl (hr.mono (by decide)) tk opr_mul2 ops_mul2 (re_int) (ev 1)) (re_int)) (ra_nil))) (ev 1)) (ra_cons (re_opR (ok_Ratio_add T) T.sfR T.d_Ratio_add rfl (hr.mono (by decide)) tk opr_add ops_add (re_int) (ecallB (j := 0) (ok__law_take T) (hr.mono (by decide)) tk T.m__law_take (ra_cons (re_int) (ra_nil)))) (ra_nil)))))
abbrev N__law_sum : List Str := ["items", "total", "x"]
theorem sc__law_sum : FnScope N__law_sum ["items"] (defScope s__law_sum) := ⟨rfl, rfl, rfl, by decide +kernel, rfl, by decide +kernel, by decide +kernel⟩
theorem ok__law_sum (T : Tx K mg G) : Good P w K mg base G 6 31 1 ["items"] [] F__law_sum :=
  good_of (N := N__law_sum) T.d__law_sum sc__law_sum rfl fun f cdv A outer s H E hr => by
    have nd := sc__law_sum.nd
    have tk : Takes (cxOf (L2.CX P w) P w K mg base N__law_sum "_law_sum" (defScope s__law_sum) f cdv A outer s H E) (fun cls d _ H => E cls d H) := takes_of rfl rfl rfl rfl
    have hp : PassesOwn (model P w) (cxOf (L2.CX P w) P w K mg base N__law_sum "_law_sum" (defScope s__law_sum) f cdv A outer s H E).A (cxOf (L2.CX P w) P w K mg base N__law_sum "_law_sum" (defScope s__law_sum) f cdv A outer s H E).env (cxOf (L2.CX P w) P w K mg base N__law_sum "_law_sum" (defScope s__law_sum) f cdv A outer s H E).xe := PassesOwn.leaving
    exact rs_cons (rs_set (i := 1) nd rfl (by first | exact Or.inl rfl | exact Or.inr rfl) (re_new1 (ok_Rinit T) T.cF (hr.mono (by decide)) (by rfl) T.gT tk (ra_cons (re_int) (ra_nil))) (by first | exact .inl rfl | exact .inr rfl))
        (rs_cons (rs_for' (.nm 2) hp (ri_seq (ev 0)) (pg_name (i := 2) nd rfl (by first | exact Or.inl rfl | exact Or.inr rfl) (by first | exact .inl rfl | exact .inr rfl)) (rs_one (rs_set (i := 1) nd rfl (by first | exact Or.inl rfl | exact Or.inr rfl) (re_opR (ok_Ratio_add T) T.sfR T.d_Ratio_add rfl (hr.mono (by decide)) tk opr_add ops_add (ev 1) (ev 2)) (by first | exact .inl rfl | exact .inr rfl))))
        (rs_one (rs_ret (ev 1))))
abbrev N__law_product : List Str := ["items", "found", "x"]
theorem sc__law_product : FnScope N__law_product ["items"] (defScope s__law_product) := ⟨rfl, rfl, rfl, by decide +kernel, rfl, by decide +kernel, by decide +kernel⟩
theorem ok__law_product (T : Tx K mg G) : Good P w K mg base G 6 32 1 ["items"] [] F__law_product :=
  good_of (N := N__law_product) T.d__law_product sc__law_product rfl fun f cdv A outer s H E hr => by
    have nd := sc__law_product.nd
    have tk : Takes (cxOf (L2.CX P w) P w K mg base N__law_product "_law_product" (defScope s__law_product) f cdv A outer s H E) (fun cls d _ H => E cls d H) := takes_of rfl rfl rfl rfl
    have hp : PassesOwn (model P w) (cxOf (L2.CX P w) P w K mg base N__law_product "_law_product" (defScope s__law_product) f cdv A outer s H E).A (cxOf (L2.CX P w) P w K mg base N__law_product "_law_product" (defScope s__law_product) f cdv A outer s H E).env (cxOf (L2.CX P w) P w K mg base N__law_product "_law_product" (defScope s__law_product) f cdv A outer s H E).xe := PassesOwn.leaving
    exact rs_cons (rs_set (i := 1) nd rfl (by first | exact Or.inl rfl | exact Or.inr rfl) (re_new1 (ok_Rinit T) T.cF (hr.mono (by decide)) (by rfl) T.gT tk (ra_cons (re_int) (ra_nil))) (by first | exact .inl rfl | exact .inr rfl))
        (rs_cons (rs_for' (.nm 2) hp (ri_seq (ev 0)) (pg_name (i := 2) nd rfl (by first | exact Or.inl rfl | exact Or.inr rfl) (by first | exact .inl rfl | exact .inr rfl)) (rs_one (rs_set (i := 1) nd rfl (by first | exact Or.inl rfl | exact Or.inr rfl) (re_opR (ok_Ratio_mul T) T.sfR T.d_Ratio_mul rfl (hr.mono (by decide)) tk opr_mul2 ops_mul2 (ev 1) (ev 2)) (by first | exact .inl rfl | exact .inr rfl))))
        (rs_one (rs_ret (ev 1))))
abbrev N_bernoulli : List Str := ["n"]
theorem sc_bernoulli : FnScope N_bernoulli ["n"] (defScope s_bernoulli) := ⟨rfl, rfl, rfl, by decide +kernel, rfl, by decide +kernel, by decide +kernel⟩
theorem ok_bernoulli (T : Tx K mg G) : Good P w K mg base G 7 10 1 ["n"] [] F_bernoulli :=
  good_of (N := N_bernoulli) T.d_bernoulli sc_bernoulli rfl fun f cdv A outer s H E hr => by
    have nd := sc_bernoulli.nd
    have tk : Takes (cxOf (L2.CX P w) P w K mg base N_bernoulli "bernoulli" (defScope s_bernoulli) f cdv A outer s H E) (fun cls d _ H => E cls d H) := takes_of rfl rfl rfl rfl
    have hp : PassesOwn (model P w) (cxOf (L2.CX P w) P w K mg base N_bernoulli "bernoulli" (defScope s_bernoulli) f cdv A outer s H E).A (cxOf (L2.CX P w) P w K mg base N_bernoulli "bernoulli" (defScope s_bernoulli) f cdv A outer s H E).env (cxOf (L2.CX P w) P w K mg base N_bernoulli "bernoulli" (defScope s_bernoulli) f cdv A outer s H E).xe := PassesOwn.leaving
    exact rs_cons (rs_expr (ecall0 (ok_check_count T) (hr.mono (by decide)) tk T.m_check_count (ra_cons (ev 0) (ra_cons (re_int) (ra_cons (re_gint (by rfl) T.c_MOST_INDEX) (ra_nil))))))
        (rs_one (rs_ret (re_ix ixr_any ops_ix (ecall0 (ok_numbers_to T) (hr.mono (by decide)) tk T.m_numbers_to (ra_cons (ev 0) (ra_nil))) (ev 0) (fun _ _ => rfl))))
abbrev N_bernoulli_value : List Str := ["n", "x", "own", "found", "k"]
theorem sc_bernoulli_value : FnScope N_bernoulli_value ["n", "x"] (defScope s_bernoulli_value) := ⟨rfl, rfl, rfl, by decide +kernel, rfl, by decide +kernel, by decide +kernel⟩
theorem ok_bernoulli_value (T : Tx K mg G) : Good P w K mg base G 7 13 2 ["n", "x"] [] F_bernoulli_value :=
  good_of (N := N_bernoulli_value) T.d_bernoulli_value sc_bernoulli_value rfl fun f cdv A outer s H E hr => by
    have nd := sc_bernoulli_value.nd
    have tk : Takes (cxOf (L2.CX P w) P w K mg base N_bernoulli_value "bernoulli_value" (defScope s_bernoulli_value) f cdv A outer s H E) (fun cls d _ H => E cls d H) := takes_of rfl rfl rfl rfl
    have hp : PassesOwn (model P w) (cxOf (L2.CX P w) P w K mg base N_bernoulli_value "bernoulli_value" (defScope s_bernoulli_value) f cdv A outer s H E).A (cxOf (L2.CX P w) P w K mg base N_bernoulli_value "bernoulli_value" (defScope s_bernoulli_value) f cdv A outer s H E).env (cxOf (L2.CX P w) P w K mg base N_bernoulli_value "bernoulli_value" (defScope s_bernoulli_value) f cdv A outer s H E).xe := PassesOwn.leaving
    exact rs_cons (rs_expr (ecall0 (ok_check_count T) (hr.mono (by decide)) tk T.m_check_count (ra_cons (ev 0) (ra_cons (re_int) (ra_cons (re_int) (ra_nil))))))
        (rs_cons (rs_if (rt_not (rt_val (re_isR T.rT (by rfl) T.n_isinstance (by rfl) T.gT (ev 1)))) (rs_cons (rs_if (rt_not (rt_val (ecall0 (ok_is_integer T) (hr.mono (by decide)) tk T.m_is_integer (ra_cons (ev 1) (ra_nil))))) (rs_one (rs_mal rfl rfl tk PySem.F.excBase_ValueError T.xM T.gM T.kM (raises_own T.bM T.tM) (by rfl))) (rs_nil))
        (rs_one (rs_set (i := 1) nd rfl (by first | exact Or.inl rfl | exact Or.inr rfl) (re_new1 (ok_Rinit T) T.cF (hr.mono (by decide)) (by rfl) T.gT tk (ra_cons (ev 1) (ra_nil))) (by first | exact .inl rfl | exact .inr rfl)))) (rs_nil))
        (rs_cons (rs_par (i := 2) (j := 3) rfl nd rfl rfl (by decide) rfl rfl (ecall0 (ok_numbers_to T) (hr.mono (by decide)) tk T.m_numbers_to (ra_cons (ev 0) (ra_nil))) (re_new1 (ok_Rinit T) T.cF (hr.mono (by decide)) (by rfl) T.gT tk (ra_cons (re_int) (ra_nil))) (by rfl))
        (rs_cons (rs_for' (.nm 4) hp (ri_range1 (by rfl) T.n_range (ra_cons (re_opR (ok_Ratio_add T) T.sfR T.d_Ratio_add rfl (hr.mono (by decide)) tk opr_add ops_add (ev 0) (re_int)) (ra_nil))) (pg_name (i := 4) nd rfl (by first | exact Or.inl rfl | exact Or.inr rfl) (by first | exact .inl rfl | exact .inr rfl)) (rs_one (rs_set (i := 3) nd rfl (by first | exact Or.inl rfl | exact Or.inr rfl) (re_opR (ok_Ratio_add T) T.sfR T.d_Ratio_add rfl (hr.mono (by decide)) tk opr_add ops_add (re_opR (ok_Ratio_mul T) T.sfR T.d_Ratio_mul rfl (hr.mono (by decide)) tk opr_mul2 ops_mul2 (ev 3) (ev 1)) (re_meth (ok_Ratio_times T) T.d_Ratio_times T.rT T.cF (by decide) (hr.mono (by decide)) tk (re_ix ixr_any ops_ix (ev 2) (ev 4) (fun _ _ => rfl)) (ra_cons (ecall0 (ok_binomial T) (hr.mono (by decide)) tk T.m_binomial (ra_cons (ev 0) (ra_cons (ev 4) (ra_nil)))) (ra_nil)))) (by first | exact .inl rfl | exact .inr rfl))))
        (rs_one (rs_ret (ev 3))))))
abbrev N_bad_indexes : List Str := ["p", "own", "n"]
def sc_bad_indexes_0 : PySem.Scope := { kind := PySem.ScopeKind.function, names := [(PySem.Str.ofString ".0", PySem.NameKind.local), (PySem.Str.ofString "n", PySem.NameKind.local), (PySem.Str.ofString "own", PySem.NameKind.cell), (PySem.Str.ofString "p", PySem.NameKind.cell)], isGenerator := false, isCoroutine := false, more := [] : PySem.Scope }
theorem sc_bad_indexes : FnScope N_bad_indexes ["p"] (defScope s_bad_indexes) := ⟨rfl, rfl, rfl, by decide +kernel, rfl, by decide +kernel, by decide +kernel⟩
theorem ok_bad_indexes (T : Tx K mg G) : Good P w K mg base G 7 18 1 ["p"] [] F_bad_indexes :=
  good_of (N := N_bad_indexes) T.d_bad_indexes sc_bad_indexes rfl fun f cdv A outer s H E hr => by
    have nd := sc_bad_indexes.nd
    have tk : Takes (cxOf (L2.CX P w) P w K mg base N_bad_indexes "bad_indexes" (defScope s_bad_indexes) f cdv A outer s H E) (fun cls d _ H => E cls d H) := takes_of rfl rfl rfl rfl
    have hp : PassesOwn (model P w) (cxOf (L2.CX P w) P w K mg base N_bad_indexes "bad_indexes" (defScope s_bad_indexes) f cdv A outer s H E).A (cxOf (L2.CX P w) P w K mg base N_bad_indexes "bad_indexes" (defScope s_bad_indexes) f cdv A outer s H E).env (cxOf (L2.CX P w) P w K mg base N_bad_indexes "bad_indexes" (defScope s_bad_indexes) f cdv A outer s H E).xe := PassesOwn.leaving
    exact rs_cons (rs_expr (ecall0 (ok_check_place T) (hr.mono (by decide)) tk T.m_check_place (ra_cons (ev 0) (ra_nil))))
        (rs_cons (rs_if (pt_of (rw_or (rt_cmp op_lt ops_lt (ev 0) (re_int) (nomark _)) (rw_or1 (rt_cmp op_gt ops_gt (ev 0) (re_int) (nomark _))))) (rs_one (rs_mal rfl rfl tk PySem.F.excBase_ValueError T.xM T.gM T.kM (raises_own T.bM T.tM) (by rfl))) (rs_nil))
        (rs_cons (rs_set (i := 1) nd rfl (by first | exact Or.inl rfl | exact Or.inr rfl) (ecall0 (ok_numbers_to T) (hr.mono (by decide)) tk T.m_numbers_to (ra_cons (re_b2 (call_max2 rfl) ops_max (by rfl) T.n_max (by decide +kernel) (re_opR (ok_Ratio_sub T) T.sfR T.d_Ratio_sub rfl (hr.mono (by decide)) tk op_sub ops_sub (ev 0) (re_int)) (re_int)) (ra_nil))) (by first | exact .inl rfl | exact .inr rfl))
        (rs_one (rs_ret (re_t1 call_tuple_of uns_tup (by rfl) T.n_tuple (by decide +kernel) (re_lc (own := [("n", 2)]) (t := .nm 2) rfl nd (ri_range3 (by rfl) T.n_range (ra_cons (re_int) (ra_cons (re_opR (ok_Ratio_sub T) T.sfR T.d_Ratio_sub rfl (hr.mono (by decide)) tk op_sub ops_sub (ev 0) (re_int)) (ra_cons (re_int) (ra_nil))))) (blkOk_by (own := [("n", 2)]) (N := N_bad_indexes) (sc := (defScope s_bad_indexes)) (by decide +kernel)) (fun _ _ _ _ _ => pg_name (i := 2) nd rfl (by first | exact Or.inl rfl | exact Or.inr rfl) (by first | exact .inl rfl | exact .inr rfl)) (fun _ _ _ _ _ => rts_one (rt_cmp (opr_eq hr.units) ops_eq (re_op op_mod ops_mod (re_fld T.rT T.cF (by decide) (re_ix ixr_any ops_ix (ev 1) (ev 2) (fun _ _ => rfl))) (ev 0)) (re_int) (nomark _))) (fun _ _ _ _ _ => ev 2) (by decide)))))))
abbrev N_half_numbers : List Str := ["n", "own", "k"]
def sc_half_numbers_0 : PySem.Scope := { kind := PySem.ScopeKind.function, names := [(PySem.Str.ofString ".0", PySem.NameKind.local), (PySem.Str.ofString "k", PySem.NameKind.local), (PySem.Str.ofString "own", PySem.NameKind.cell)], isGenerator := false, isCoroutine := false, more := [] : PySem.Scope }
theorem sc_half_numbers : FnScope N_half_numbers ["n"] (defScope s_half_numbers) := ⟨rfl, rfl, rfl, by decide +kernel, rfl, by decide +kernel, by decide +kernel⟩
theorem ok_half_numbers (T : Tx K mg G) : Good P w K mg base G 7 19 1 ["n"] [] F_half_numbers :=
  good_of (N := N_half_numbers) T.d_half_numbers sc_half_numbers rfl fun f cdv A outer s H E hr => by
    have nd := sc_half_numbers.nd
    have tk : Takes (cxOf (L2.CX P w) P w K mg base N_half_numbers "half_numbers" (defScope s_half_numbers) f cdv A outer s H E) (fun cls d _ H => E cls d H) := takes_of rfl rfl rfl rfl
    have hp : PassesOwn (model P w) (cxOf (L2.CX P w) P w K mg base N_half_numbers "half_numbers" (defScope s_half_numbers) f cdv A outer s H E).A (cxOf (L2.CX P w) P w K mg base N_half_numbers "half_numbers" (defScope s_half_numbers) f cdv A outer s H E).env (cxOf (L2.CX P w) P w K mg base N_half_numbers "half_numbers" (defScope s_half_numbers) f cdv A outer s H E).xe := PassesOwn.leaving
    exact rs_cons (rs_expr (ecall0 (ok_check_even T) (hr.mono (by decide)) tk T.m_check_even (ra_cons (ev 0) (ra_nil))))
        (rs_cons (rs_set (i := 1) nd rfl (by first | exact Or.inl rfl | exact Or.inr rfl) (ecall0 (ok_numbers_to T) (hr.mono (by decide)) tk T.m_numbers_to (ra_cons (ev 0) (ra_nil))) (by first | exact .inl rfl | exact .inr rfl))
        (rs_one (rs_ret (re_t1 call_tuple_of uns_tup (by rfl) T.n_tuple (by decide +kernel) (re_lc (own := [("k", 2)]) (t := .nm 2) rfl nd (ri_range3 (by rfl) T.n_range (ra_cons (re_int) (ra_cons (re_opR (ok_Ratio_add T) T.sfR T.d_Ratio_add rfl (hr.mono (by decide)) tk opr_add ops_add (ev 0) (re_int)) (ra_cons (re_int) (ra_nil))))) (blkOk_by (own := [("k", 2)]) (N := N_half_numbers) (sc := (defScope s_half_numbers)) (by decide +kernel)) (fun _ _ _ _ _ => pg_name (i := 2) nd rfl (by first | exact Or.inl rfl | exact Or.inr rfl) (by first | exact .inl rfl | exact .inr rfl)) (fun _ _ _ _ _ => rts_nil) (fun _ _ _ _ _ => re_fld T.rT T.cF (by decide) (re_ix ixr_any ops_ix (ev 1) (ev 2) (fun _ _ => rfl))) (by decide))))))
abbrev N__law_same : List Str := ["value", "due", "k"]
def sc__law_same_0 : PySem.Scope := { kind := PySem.ScopeKind.function, names := [(PySem.Str.ofString ".0", PySem.NameKind.local), (PySem.Str.ofString "k", PySem.NameKind.local), (PySem.Str.ofString "_law_same", PySem.NameKind.globalImplicit), (PySem.Str.ofString "due", PySem.NameKind.cell), (PySem.Str.ofString "value", PySem.NameKind.cell)], isGenerator := false, isCoroutine := false, more := [] : PySem.Scope }
theorem sc__law_same : FnScope N__law_same ["value", "due"] (defScope s__law_same) := ⟨rfl, rfl, rfl, by decide +kernel, rfl, by decide +kernel, by decide +kernel⟩
theorem ok__law_same_0 (T : Tx K mg G) : Good P w K mg base G 3 22 2 ["value", "due"] [] F__law_same_0 := good_no T.d__law_same sc__law_same
theorem ok__law_same_1 (T : Tx K mg G) : Good P w K mg base G 4 22 2 ["value", "due"] [] F__law_same_1 :=
  good_of (N := N__law_same) T.d__law_same sc__law_same rfl fun f cdv A outer s H E hr => by
    have nd := sc__law_same.nd
    have tk : Takes (cxOf (L2.CX P w) P w K mg base N__law_same "_law_same" (defScope s__law_same) f cdv A outer s H E) (fun cls d _ H => E cls d H) := takes_of rfl rfl rfl rfl
    have hp : PassesOwn (model P w) (cxOf (L2.CX P w) P w K mg base N__law_same "_law_same" (defScope s__law_same) f cdv A outer s H E).A (cxOf (L2.CX P w) P w K mg base N__law_same "_law_same" (defScope s__law_same) f cdv A outer s H E).env (cxOf (L2.CX P w) P w K mg base N__law_same "_law_same" (defScope s__law_same) f cdv A outer s H E).xe := PassesOwn.leaving
    exact rs_cons (rs_if (rt_val (re_isi2 T.rT .list (by rfl) T.n_isinstance (by rfl) T.n_list (by decide +kernel) (ev 1))) (rs_one (rs_ret (re_and (re_isi2 T.rT .list (by rfl) T.n_isinstance (by rfl) T.n_list (by decide +kernel) (ev 0)) (re_one (ecall0 (ok__law_same_0 T) (hr.mono (by decide)) tk T.m__law_same (ra_cons (re_t1 call_tuple_of uns_tup (by rfl) T.n_tuple (by decide +kernel) (ev 0)) (ra_cons (re_t1 call_tuple_of uns_tup (by rfl) T.n_tuple (by decide +kernel) (ev 1)) (ra_nil)))))))) (rs_nil))
        (rs_cons (rs_if (rt_val (re_isi2 T.rT .tuple (by rfl) T.n_isinstance (by rfl) T.n_tuple (by decide +kernel) (ev 1))) (rs_one (rs_ret (re_and (re_isi2 T.rT .tuple (by rfl) T.n_isinstance (by rfl) T.n_tuple (by decide +kernel) (ev 0)) (re_and (re_cmp (opr_eq hr.units) ops_eq (re_b1 call_len_seq uns_len (by rfl) T.n_len PySem.boot_len (ev 0)) (re_b1 call_len_seq uns_len (by rfl) T.n_len PySem.boot_len (ev 1)) (nomark _)) (re_one (re_b1 (cr_all rfl) uns_all (by rfl) T.n_all (by decide +kernel) (re_lc (own := [("k", 2)]) (t := .nm 2) rfl nd (ri_range1 (by rfl) T.n_range (ra_cons (re_b1 call_len_seq uns_len (by rfl) T.n_len PySem.boot_len (ev 1)) (ra_nil))) (blkOk_by (own := [("k", 2)]) (N := N__law_same) (sc := (defScope s__law_same)) (by decide +kernel)) (fun _ _ _ _ _ => pg_name (i := 2) nd rfl (by first | exact Or.inl rfl | exact Or.inr rfl) (by first | exact .inl rfl | exact .inr rfl)) (fun _ _ _ _ _ => rts_nil) (fun _ _ _ _ _ => ecall0 (ok__law_same_0 T) (hr.mono (by decide)) takes0 T.m__law_same (ra_cons (re_ix ixr_any ops_ix (ev 0) (ev 2) (fun _ _ => rfl)) (ra_cons (re_ix ixr_any ops_ix (ev 1) (ev 2) (fun _ _ => rfl)) (ra_nil)))) (by decide)))))))) (rs_nil))
        (rs_cons (rs_if (rt_cmp op_isN ops_isN (ev 1) re_non (nomark _)) (rs_one (rs_ret (re_cmp op_isN ops_isN (ev 0) re_non (nomark _)))) (rs_nil))
        (rs_cons (rs_if (rt_val (re_isi2 T.rT .bool (by rfl) T.n_isinstance (by rfl) T.n_bool (by decide +kernel) (ev 1))) (rs_one (rs_ret (re_and (re_isi2 T.rT .bool (by rfl) T.n_isinstance (by rfl) T.n_bool (by decide +kernel) (ev 0)) (re_one (re_eqR (ok_Ratio_eq T) T.d_Ratio_eq (hr.mono (by decide)) tk (opr_eq hr.units) ops_eq (ev 0) (ev 1) (nomark _)))))) (rs_nil))
        (rs_cons (rs_if (rt_val (re_isi2 T.rT .str (by rfl) T.n_isinstance (by rfl) T.n_str (by decide +kernel) (ev 1))) (rs_one (rs_ret (re_and (re_isi2 T.rT .str (by rfl) T.n_isinstance (by rfl) T.n_str (by decide +kernel) (ev 0)) (re_one (re_eqR (ok_Ratio_eq T) T.d_Ratio_eq (hr.mono (by decide)) tk (opr_eq hr.units) ops_eq (ev 0) (ev 1) (nomark _)))))) (rs_nil))
        (rs_cons (rs_if (rt_val (re_isi2 T.rT .int (by rfl) T.n_isinstance (by rfl) T.n_int (by decide +kernel) (ev 1))) (rs_one (rs_ret (re_and (re_isi2 T.rT .int (by rfl) T.n_isinstance (by rfl) T.n_int (by decide +kernel) (ev 0)) (re_and (re_not (re_isi2 T.rT .bool (by rfl) T.n_isinstance (by rfl) T.n_bool (by decide +kernel) (ev 0))) (re_one (re_eqR (ok_Ratio_eq T) T.d_Ratio_eq (hr.mono (by decide)) tk (opr_eq hr.units) ops_eq (ev 0) (ev 1) (nomark _))))))) (rs_nil))
        (rs_one (rs_ret (re_and (re_not (re_isi2 T.rT .int (by rfl) T.n_isinstance (by rfl) T.n_int (by decide +kernel) (ev 0))) (re_one (re_eqR (ok_Ratio_eq T) T.d_Ratio_eq (hr.mono (by decide)) tk (opr_eq hr.units) ops_eq (ev 0) (ev 1) (nomark _)))))))))))
theorem ok__law_same_2 (T : Tx K mg G) : Good P w K mg base G 5 22 2 ["value", "due"] [] F__law_same_2 :=
  good_of (N := N__law_same) T.d__law_same sc__law_same rfl fun f cdv A outer s H E hr => by
    have nd := sc__law_same.nd
    have tk : Takes (cxOf (L2.CX P w) P w K mg base N__law_same "_law_same" (defScope s__law_same) f cdv A outer s H E) (fun cls d _ H => E cls d H) := takes_of rfl rfl rfl rfl
    have hp : PassesOwn (model P w) (cxOf (L2.CX P w) P w K mg base N__law_same "_law_same" (defScope s__law_same) f cdv A outer s H E).A (cxOf (L2.CX P w) P w K mg base N__law_same "_law_same" (defScope s__law_same) f cdv A outer s H E).env (cxOf (L2.CX P w) P w K mg base N__law_same "_law_same" (defScope s__law_same) f cdv A outer s H E).xe := PassesOwn.leaving
    exact rs_cons (rs_if (rt_val (re_isi2 T.rT .list (by rfl) T.n_isinstance (by rfl) T.n_list (by decide +kernel) (ev 1))) (rs_one (rs_ret (re_and (re_isi2 T.rT .list (by rfl) T.n_isinstance (by rfl) T.n_list (by decide +kernel) (ev 0)) (re_one (ecall0 (ok__law_same_1 T) (hr.mono (by decide)) tk T.m__law_same (ra_cons (re_t1 call_tuple_of uns_tup (by rfl) T.n_tuple (by decide +kernel) (ev 0)) (ra_cons (re_t1 call_tuple_of uns_tup (by rfl) T.n_tuple (by decide +kernel) (ev 1)) (ra_nil)))))))) (rs_nil))
        (rs_cons (rs_if (rt_val (re_isi2 T.rT .tuple (by rfl) T.n_isinstance (by rfl) T.n_tuple (by decide +kernel) (ev 1))) (rs_one (rs_ret (re_and (re_isi2 T.rT .tuple (by rfl) T.n_isinstance (by rfl) T.n_tuple (by decide +kernel) (ev 0)) (re_and (re_cmp (opr_eq hr.units) ops_eq (re_b1 call_len_seq uns_len (by rfl) T.n_len PySem.boot_len (ev 0)) (re_b1 call_len_seq uns_len (by rfl) T.n_len PySem.boot_len (ev 1)) (nomark _)) (re_one (re_b1 (cr_all rfl) uns_all (by rfl) T.n_all (by decide +kernel) (re_lc (own := [("k", 2)]) (t := .nm 2) rfl nd (ri_range1 (by rfl) T.n_range (ra_cons (re_b1 call_len_seq uns_len (by rfl) T.n_len PySem.boot_len (ev 1)) (ra_nil))) (blkOk_by (own := [("k", 2)]) (N := N__law_same) (sc := (defScope s__law_same)) (by decide +kernel)) (fun _ _ _ _ _ => pg_name (i := 2) nd rfl (by first | exact Or.inl rfl | exact Or.inr rfl) (by first | exact .inl rfl | exact .inr rfl)) (fun _ _ _ _ _ => rts_nil) (fun _ _ _ _ _ => ecall0 (ok__law_same_1 T) (hr.mono (by decide)) takes0 T.m__law_same (ra_cons (re_ix ixr_any ops_ix (ev 0) (ev 2) (fun _ _ => rfl)) (ra_cons (re_ix ixr_any ops_ix (ev 1) (ev 2) (fun _ _ => rfl)) (ra_nil)))) (by decide)))))))) (rs_nil))
        (rs_cons (rs_if (rt_cmp op_isN ops_isN (ev 1) re_non (nomark _)) (rs_one (rs_ret (re_cmp op_isN ops_isN (ev 0) re_non (nomark _)))) (rs_nil))
        (rs_cons (rs_if (rt_val (re_isi2 T.rT .bool (by rfl) T.n_isinstance (by rfl) T.n_bool (by decide +kernel) (ev 1))) (rs_one (rs_ret (re_and (re_isi2 T.rT .bool (by rfl) T.n_isinstance (by rfl) T.n_bool (by decide +kernel) (ev 0)) (re_one (re_eqR (ok_Ratio_eq T) T.d_Ratio_eq (hr.mono (by decide)) tk (opr_eq hr.units) ops_eq (ev 0) (ev 1) (nomark _)))))) (rs_nil))
        (rs_cons (rs_if (rt_val (re_isi2 T.rT .str (by rfl) T.n_isinstance (by rfl) T.n_str (by decide +kernel) (ev 1))) (rs_one (rs_ret (re_and (re_isi2 T.rT .str (by rfl) T.n_isinstance (by rfl) T.n_str (by decide +kernel) (ev 0)) (re_one (re_eqR (ok_Ratio_eq T) T.d_Ratio_eq (hr.mono (by decide)) tk (opr_eq hr.units) ops_eq (ev 0) (ev 1) (nomark _)))))) (rs_nil))
        (rs_cons (rs_if (rt_val (re_isi2 T.rT .int (by rfl) T.n_isinstance (by rfl) T.n_int (by decide +kernel) (ev 1))) (rs_one (rs_ret (re_and (re_isi2 T.rT .int (by rfl) T.n_isinstance (by rfl) T.n_int (by decide +kernel) (ev 0)) (re_and (re_not (re_isi2 T.rT .bool (by rfl) T.n_isinstance (by rfl) T.n_bool (by decide +kernel) (ev 0))) (re_one (re_eqR (ok_Ratio_eq T) T.d_Ratio_eq (hr.mono (by decide)) tk (opr_eq hr.units) ops_eq (ev 0) (ev 1) (nomark _))))))) (rs_nil))
        (rs_one (rs_ret (re_and (re_not (re_isi2 T.rT .int (by rfl) T.n_isinstance (by rfl) T.n_int (by decide +kernel) (ev 0))) (re_one (re_eqR (ok_Ratio_eq T) T.d_Ratio_eq (hr.mono (by decide)) tk (opr_eq hr.units) ops_eq (ev 0) (ev 1) (nomark _)))))))))))
theorem ok__law_same_3 (T : Tx K mg G) : Good P w K mg base G 6 22 2 ["value", "due"] [] F__law_same_3 :=
  good_of (N := N__law_same) T.d__law_same sc__law_same rfl fun f cdv A outer s H E hr => by
    have nd := sc__law_same.nd
    have tk : Takes (cxOf (L2.CX P w) P w K mg base N__law_same "_law_same" (defScope s__law_same) f cdv A outer s H E) (fun cls d _ H => E cls d H) := takes_of rfl rfl rfl rfl
    have hp : PassesOwn (model P w) (cxOf (L2.CX P w) P w K mg base N__law_same "_law_same" (defScope s__law_same) f cdv A outer s H E).A (cxOf (L2.CX P w) P w K mg base N__law_same "_law_same" (defScope s__law_same) f cdv A outer s H E).env (cxOf (L2.CX P w) P w K mg base N__law_same "_law_same" (defScope s__law_same) f cdv A outer s H E).xe := PassesOwn.leaving
    exact rs_cons (rs_if (rt_val (re_isi2 T.rT .list (by rfl) T.n_isinstance (by rfl) T.n_list (by decide +kernel) (ev 1))) (rs_one (rs_ret (re_and (re_isi2 T.rT .list (by rfl) T.n_isinstance (by rfl) T.n_list (by decide +kernel) (ev 0)) (re_one (ecall0 (ok__law_same_2 T) (hr.mono (by decide)) tk T.m__law_same (ra_cons (re_t1 call_tuple_of uns_tup (by rfl) T.n_tuple (by decide +kernel) (ev 0)) (ra_cons (re_t1 call_tuple_of uns_tup (by rfl) T.n_tuple (by decide +kernel) (ev 1)) (ra_nil)))))))) (rs_nil))
        (rs_cons (rs_if (rt_val (re_isi2 T.rT .tuple (by rfl) T.n_isinstance (by rfl) T.n_tuple (by decide +kernel) (ev 1))) (rs_one (rs_ret (re_and (re_isi2 T.rT .tuple (by rfl) T.n_isinstance (by rfl) T.n_tuple (by decide +kernel) (ev 0)) (re_and (re_cmp (opr_eq hr.units) ops_eq (re_b1 call_len_seq uns_len (by rfl) T.n_len PySem.boot_len (ev 0)) (re_b1 call_len_seq uns_len (by rfl) T.n_len PySem.boot_len (ev 1)) (nomark _)) (re_one (re_b1 (cr_all rfl) uns_all (by rfl) T.n_all (by decide +kernel) (re_lc (own := [("k", 2)]) (t := .nm 2) rfl nd (ri_range1 (by rfl) T.n_range (ra_cons (re_b1 call_len_seq uns_len (by rfl) T.n_len PySem.boot_len (ev 1)) (ra_nil))) (blkOk_by (own := [("k", 2)]) (N := N__law_same) (sc := (defScope s__law_same)) (by decide +kernel)) (fun _ _ _ _ _ => pg_name (i := 2) nd rfl (by first | exact Or.inl rfl | exact Or.inr rfl) (by first | exact .inl rfl | exact .inr rfl)) (fun _ _ _ _ _ => rts_nil) (fun _ _ _ _ _ => ecall0 (ok__law_same_2 T) (hr.mono (by decide)) takes0 T.m__law_same (ra_cons (re_ix ixr_any ops_ix (ev 0) (ev 2) (fun _ _ => rfl)) (ra_cons (re_ix ixr_any ops_ix (ev 1) (ev 2) (fun _ _ => rfl)) (ra_nil)))) (by decide)))))))) (rs_nil))
        (rs_cons (rs_if (rt_cmp op_isN ops_isN (ev 1) re_non (nomark _)) (rs_one (rs_ret (re_cmp op_isN ops_isN (ev 0) re_non (nomark _)))) (rs_nil))
        (rs_cons (rs_if (rt_val (re_isi2 T.rT .bool (by rfl) T.n_isinstance (by rfl) T.n_bool (by decide +kernel) (ev 1))) (rs_one (rs_ret (re_and (re_isi2 T.rT .bool (by rfl) T.n_isinstance (by rfl) T.n_bool (by decide +kernel) (ev 0)) (re_one (re_eqR (ok_Ratio_eq T) T.d_Ratio_eq (hr.mono (by decide)) tk (opr_eq hr.units) ops_eq (ev 0) (ev 1) (nomark _)))))) (rs_nil))
        (rs_cons (rs_if (rt_val (re_isi2 T.rT .str (by rfl) T.n_isinstance (by rfl) T.n_str (by decide +kernel) (ev 1))) (rs_one (rs_ret (re_and (re_isi2 T.rT .str (by rfl) T.n_isinstance (by rfl) T.n_str (by decide +kernel) (ev 0)) (re_one (re_eqR (ok_Ratio_eq T) T.d_Ratio_eq (hr.mono (by decide)) tk (opr_eq hr.units) ops_eq (ev 0) (ev 1) (nomark _)))))) (rs_nil))
        (rs_cons (rs_if (rt_val (re_isi2 T.rT .int (by rfl) T.n_isinstance (by rfl) T.n_int (by decide +kernel) (ev 1))) (rs_one (rs_ret (re_and (re_isi2 T.rT .int (by rfl) T.n_isinstance (by rfl) T.n_int (by decide +kernel) (ev 0)) (re_and (re_not (re_isi2 T.rT .bool (by rfl) T.n_isinstance (by rfl) T.n_bool (by decide +kernel) (ev 0))) (re_one (re_eqR (ok_Ratio_eq T) T.d_Ratio_eq (hr.mono (by decide)) tk (opr_eq hr.units) ops_eq (ev 0) (ev 1) (nomark _))))))) (rs_nil))
        (rs_one (rs_ret (re_and (re_not (re_isi2 T.rT .int (by rfl) T.n_isinstance (by rfl) T.n_int (by decide +kernel) (ev 0))) (re_one (re_eqR (ok_Ratio_eq T) T.d_Ratio_eq (hr.mono (by decide)) tk (opr_eq hr.units) ops_eq (ev 0) (ev 1) (nomark _)))))))))))
theorem ok__law_same_4 (T : Tx K mg G) : Good P w K mg base G 7 22 2 ["value", "due"] [] F__law_same_4 :=
  good_of (N := N__law_same) T.d__law_same sc__law_same rfl fun f cdv A outer s H E hr => by
    have nd := sc__law_same.nd
    have tk : Takes (cxOf (L2.CX P w) P w K mg base N__law_same "_law_same" (defScope s__law_same) f cdv A outer s H E) (fun cls d _ H => E cls d H) := takes_of rfl rfl rfl rfl
    have hp : PassesOwn (model P w) (cxOf (L2.CX P w) P w K mg base N__law_same "_law_same" (defScope s__law_same) f cdv A outer s H E).A (cxOf (L2.CX P w) P w K mg base N__law_same "_law_same" (defScope s__law_same) f cdv A outer s H E).env (cxOf (L2.CX P w) P w K mg base N__law_same "_law_same" (defScope s__law_same) f cdv A outer s H E).xe := PassesOwn.leaving
    exact rs_cons (rs_if (rt_val (re_isi2 T.rT .list (by rfl) T.n_isinstance (by rfl) T.n_list (by decide +kernel) (ev 1))) (rs_one (rs_ret (re_and (re_isi2 T.rT .list (by rfl) T.n_isinstance (by rfl) T.n_list (by decide +kernel) (ev 0)) (re_one (ecall0 (ok__law_same_3 T) (hr.mono (by decide)) tk T.m__law_same (ra_cons (re_t1 call_tuple_of uns_tup (by rfl) T.n_tuple (by decide +kernel) (ev 0)) (ra_cons (re_t1 call_tuple_of uns_tup (by rfl) T.n_tuple (by decide +kernel) (ev 1)) (ra_nil)))))))) (rs_nil))
        (rs_cons (rs_if (rt_val (re_isi2 T.rT .tuple (by rfl) T.n_isinstance (by rfl) T.n_tuple (by decide +kernel) (ev 1))) (rs_one (rs_ret (re_and (re_isi2 T.rT .tuple (by rfl) T.n_isinstance (by rfl) T.n_tuple (by decide +kernel) (ev 0)) (re_and (re_cmp (opr_eq hr.units) ops_eq (re_b1 call_len_seq uns_len (by rfl) T.n_len PySem.boot_len (ev 0)) (re_b1 call_len_seq uns_len (by rfl) T.n_len PySem.boot_len (ev 1)) (nomark _)) (re_one (re_b1 (cr_all rfl) uns_all (by rfl) T.n_all (by decide +kernel) (re_lc (own := [("k", 2)]) (t := .nm 2) rfl nd (ri_range1 (by rfl) T.n_range (ra_cons (re_b1 call_len_seq uns_len (by rfl) T.n_len PySem.boot_len (ev 1)) (ra_nil))) (blkOk_by (own := [("k", 2)]) (N := N__law_same) (sc := (defScope s__law_same)) (by decide +kernel)) (fun _ _ _ _ _ => pg_name (i := 2) nd rfl (by first | exact Or.inl rfl | exact Or.inr rfl) (by first | exact .inl rfl | exact .inr rfl)) (fun _ _ _ _ _ => rts_nil) (fun _ _ _ _ _ => ecall0 (ok__law_same_3 T) (hr.mono (by decide)) takes0 T.m__law_same (ra_cons (re_ix ixr_any ops_ix (ev 0) (ev 2) (fun _ _ => rfl)) (ra_cons (re_ix ixr_any ops_ix (ev 1) (ev 2) (fun _ _ => rfl)) (ra_nil)))) (by decide)))))))) (rs_nil))
        (rs_cons (rs_if (rt_cmp op_isN ops_isN (ev 1) re_non (nomark _)) (rs_one (rs_ret (re_cmp op_isN ops_isN (ev 0) re_non (nomark _)))) (rs_nil))
        (rs_cons (rs_if (rt_val (re_isi2 T.rT .bool (by rfl) T.n_isinstance (by rfl) T.n_bool (by decide +kernel) (ev 1))) (rs_one (rs_ret (re_and (re_isi2 T.rT .bool (by rfl) T.n_isinstance (by rfl) T.n_bool (by decide +kernel) (ev 0)) (re_one (re_eqR (ok_Ratio_eq T) T.d_Ratio_eq (hr.mono (by decide)) tk (opr_eq hr.units) ops_eq (ev 0) (ev 1) (nomark _)))))) (rs_nil))
        (rs_cons (rs_if (rt_val (re_isi2 T.rT .str (by rfl) T.n_isinstance (by rfl) T.n_str (by decide +kernel) (ev 1))) (rs_one (rs_ret (re_and (re_isi2 T.rT .str (by rfl) T.n_isinstance (by rfl) T.n_str (by decide +kernel) (ev 0)) (re_one (re_eqR (ok_Ratio_eq T) T.d_Ratio_eq (hr.mono (by decide)) tk (opr_eq hr.units) ops_eq (ev 0) (ev 1) (nomark _)))))) (rs_nil))
        (rs_cons (rs_if (rt_val (re_isi2 T.rT .int (by rfl) T.n_isinstance (by rfl) T.n_int (by decide +kernel) (ev 1))) (rs_one (rs_ret (re_and (re_isi2 T.rT .int (by rfl) T.n_isinstance (by rfl) T.n_int (by decide +kernel) (ev 0)) (re_and (re_not (re_isi2 T.rT .bool (by rfl) T.n_isinstance (by rfl) T.n_bool (by decide +kernel) (ev 0))) (re_one (re_eqR (ok_Ratio_eq T) T.d_Ratio_eq (hr.mono (by decide)) tk (opr_eq hr.units) ops_eq (ev 0) (ev 1) (nomark _))))))) (rs_nil))
        (rs_one (rs_ret (re_and (re_not (re_isi2 T.rT .int (by rfl) T.n_isinstance (by rfl) T.n_int (by decide +kernel) (ev 0))) (re_one (re_eqR (ok_Ratio_eq T) T.d_Ratio_eq (hr.mono (by decide)) tk (opr_eq hr.units) ops_eq (ev 0) (ev 1) (nomark _)))))))))))
theorem ok__law_same (T : Tx K mg G) : Good P w K mg base G 7 22 2 ["value", "due"] [] F__law_same := ok__law_same_4 T
abbrev N__law_power : List Str := ["x", "k", "t"]
def sc__law_power_0 : PySem.Scope := { kind := PySem.ScopeKind.function, names := [(PySem.Str.ofString ".0", PySem.NameKind.local), (PySem.Str.ofString "t", PySem.NameKind.local), (PySem.Str.ofString "x", PySem.NameKind.cell)], isGenerator := false, isCoroutine := false, more := [] : PySem.Scope }
theorem sc__law_power : FnScope N__law_power ["x", "k"] (defScope s__law_power) := ⟨rfl, rfl, rfl, by decide +kernel, rfl, by decide +kernel, by decide +kernel⟩
theorem ok__law_power (T : Tx K mg G) : Good P w K mg base G 7 33 2 ["x", "k"] [] F__law_power :=
  good_of (N := N__law_power) T.d__law_power sc__law_power rfl fun f cdv A outer s H E hr => by
    have nd := sc__law_power.nd
    have tk : Takes (cxOf (L2.CX P w) P w K mg base N__law_power "_law_power" (defScope s__law_power) f cdv A outer s H E) (fun cls d _ H => E cls d H) := takes_of rfl rfl rfl rfl
    have hp : PassesOwn (model P w) (cxOf (L2.CX P w) P w K mg base N__law_power "_law_power" (defScope s__law_power) f cdv A outer s H E).A (cxOf (L2.CX P w) P w K mg base N__law_power "_law_power" (defScope s__law_power) f cdv A outer s H E).env (cxOf (L2.CX P w) P w K mg base N__law_power "_law_power" (defScope s__law_power) f cdv A outer s H E).xe := PassesOwn.leaving
    exact rs_one (rs_ret (ecall0 (ok__law_product T) (hr.mono (by decide)) tk T.m__law_product (ra_cons (re_lc (own := [("t", 2)]) (t := .nm 2) rfl nd (ri_range1 (by rfl) T.n_range (ra_cons (ev 1) (ra_nil))) (blkOk_by (own := [("t", 2)]) (N := N__law_power) (sc := (defScope s__law_power)) (by decide +kernel)) (fun _ _ _ _ _ => pg_name (i := 2) nd rfl (by first | exact Or.inl rfl | exact Or.inr rfl) (by first | exact .inl rfl | exact .inr rfl)) (fun _ _ _ _ _ => rts_nil) (fun _ _ _ _ _ => ev 0) (by decide)) (ra_nil))))
abbrev N_power_sum : List Str := ["k", "n"]
theorem sc_power_sum : FnScope N_power_sum ["k", "n"] (defScope s_power_sum) := ⟨rfl, rfl, rfl, by decide +kernel, rfl, by decide +kernel, by decide +kernel⟩
theorem ok_power_sum (T : Tx K mg G) : Good P w K mg base G 8 14 2 ["k", "n"] [] F_power_sum :=
  good_of (N := N_power_sum) T.d_power_sum sc_power_sum rfl fun f cdv A outer s H E hr => by
    have nd := sc_power_sum.nd
    have tk : Takes (cxOf (L2.CX P w) P w K mg base N_power_sum "power_sum" (defScope s_power_sum) f cdv A outer s H E) (fun cls d _ H => E cls d H) := takes_of rfl rfl rfl rfl
    have hp : PassesOwn (model P w) (cxOf (L2.CX P w) P w K mg base N_power_sum "power_sum" (defScope s_power_sum) f cdv A outer s H E).A (cxOf (L2.CX P w) P w K mg base N_power_sum "power_sum" (defScope s_power_sum) f cdv A outer s H E).env (cxOf (L2.CX P w) P w K mg base N_power_sum "power_sum" (defScope s_power_sum) f cdv A outer s H E).xe := PassesOwn.leaving
    exact rs_cons (rs_expr (ecall0 (ok_check_count T) (hr.mono (by decide)) tk T.m_check_count (ra_cons (ev 0) (ra_cons (re_int) (ra_cons (re_int) (ra_nil))))))
        (rs_cons (rs_expr (ecall0 (ok_check_count T) (hr.mono (by decide)) tk T.m_check_count (ra_cons (ev 1) (ra_cons (re_int) (ra_cons (re_int) (ra_nil))))))
        (rs_cons (rs_if (rt_cmp (opr_eq hr.units) ops_eq (ev 0) (re_int) (nomark _)) (rs_one (rs_ret (ev 1))) (rs_nil))
        (rs_one (rs_ret (re_fld T.rT T.cF (by decide) (re_opR (ok_Ratio_mul T) T.sfR T.d_Ratio_mul rfl (hr.mono (by decide)) tk opr_mul2 ops_mul2 (re_opR (ok_Ratio_sub T) T.sfR T.d_Ratio_sub rfl (hr.mono (by decide)) tk op_sub ops_sub (ecall0 (ok_bernoulli_value T) (hr.mono (by decide)) tk T.m_bernoulli_value (ra_cons (re_opR (ok_Ratio_add T) T.sfR T.d_Ratio_add rfl (hr.mono (by decide)) tk opr_add ops_add (ev 0) (re_int)) (ra_cons (ev 1) (ra_nil)))) (ecall0 (ok_bernoulli T) (hr.mono (by decide)) tk T.m_bernoulli (ra_cons (re_opR (ok_Ratio_add T) T.sfR T.d_Ratio_add rfl (hr.mono (by decide)) tk opr_add ops_add (ev 0) (re_int)) (ra_nil)))) (re_new2 (ok_Rinit T) T.cF (hr.mono (by decide)) (by rfl) T.gT tk (ra_cons (re_int) (ra_cons (re_opR (ok_Ratio_add T) T.sfR T.d_Ratio_add rfl (hr.mono (by decide)) tk opr_add ops_add (ev 0) (re_int)) (ra_nil))))))))))
abbrev N_whole_part : List Str := ["n", "found", "p"]
theorem sc_whole_part : FnScope N_whole_part ["n"] (defScope s_whole_part) := ⟨rfl, rfl, rfl, by decide +kernel, rfl, by decide +kernel, by decide +kernel⟩
theorem ok_whole_part (T : Tx K mg G) : Good P w K mg base G 8 17 1 ["n"] [] F_whole_part :=
  good_of (N := N_whole_part) T.d_whole_part sc_whole_part rfl fun f cdv A outer s H E hr => by
    have nd := sc_whole_part.nd
    have tk : Takes (cxOf (L2.CX P w) P w K mg base N_whole_part "whole_part" (defScope s_whole_part) f cdv A outer s H E) (fun cls d _ H => E cls d H) := takes_of rfl rfl rfl rfl
    have hp : PassesOwn (model P w) (cxOf (L2.CX P w) P w K mg base N_whole_part "whole_part" (defScope s_whole_part) f cdv A outer s H E).A (cxOf (L2.CX P w) P w K mg base N_whole_part "whole_part" (defScope s_whole_part) f cdv A outer s H E).env (cxOf (L2.CX P w) P w K mg base N_whole_part "whole_part" (defScope s_whole_part) f cdv A outer s H E).xe := PassesOwn.leaving
    exact rs_cons (rs_set (i := 1) nd rfl (by first | exact Or.inl rfl | exact Or.inr rfl) (ecall0 (ok_bernoulli T) (hr.mono (by decide)) tk T.m_bernoulli (ra_cons (ev 0) (ra_nil))) (by first | exact .inl rfl | exact .inr rfl))
        (rs_cons (rs_for' (.nm 2) hp (ri_seq (ecall0 (ok_lower_primes T) (hr.mono (by decide)) tk T.m_lower_primes (ra_cons (ev 0) (ra_nil)))) (pg_name (i := 2) nd rfl (by first | exact Or.inl rfl | exact Or.inr rfl) (by first | exact .inl rfl | exact .inr rfl)) (rs_one (rs_set (i := 1) nd rfl (by first | exact Or.inl rfl | exact Or.inr rfl) (re_opR (ok_Ratio_add T) T.sfR T.d_Ratio_add rfl (hr.mono (by decide)) tk opr_add ops_add (ev 1) (re_new2 (ok_Rinit T) T.cF (hr.mono (by decide)) (by rfl) T.gT tk (ra_cons (re_int) (ra_cons (ev 2) (ra_nil))))) (by first | exact .inl rfl | exact .inr rfl))))
        (rs_one (rs_ret (re_fld T.rT T.cF (by decide) (ev 1)))))
abbrev N__law_is_told : List Str := ["pair", "due"]
theorem sc__law_is_told : FnScope N__law_is_told ["pair", "due"] (defScope s__law_is_told) := ⟨rfl, rfl, rfl, by decide +kernel, rfl, by decide +kernel, by decide +kernel⟩
theorem ok__law_is_told (T : Tx K mg G) : Good P w K mg base G 8 24 2 ["pair", "due"] [] F__law_is_told :=
  good_of (N := N__law_is_told) T.d__law_is_told sc__law_is_told rfl fun f cdv A outer s H E hr => by
    have nd := sc__law_is_told.nd
    have tk : Takes (cxOf (L2.CX P w) P w K mg base N__law_is_told "_law_is_told" (defScope s__law_is_told) f cdv A outer s H E) (fun cls d _ H => E cls d H) := takes_of rfl rfl rfl rfl
    have hp : PassesOwn (model P w) (cxOf (L2.CX P w) P w K mg base N__law_is_told "_law_is_told" (defScope s__law_is_told) f cdv A outer s H E).A (cxOf (L2.CX P w) P w K mg base N__law_is_told "_law_is_told" (defScope s__law_is_told) f cdv A outer s H E).env (cxOf (L2.CX P w) P w K mg base N__law_is_told "_law_is_told" (defScope s__law_is_told) f cdv A outer s H E).xe := PassesOwn.leaving
    exact rs_one (rs_ret (re_and (re_cmp (opr_eq hr.units) ops_eq (re_ix ixr_any ops_ix (ev 0) (re_int) (fun _ _ => rfl)) (re_str) (nomark _)) (re_one (ecall0 (ok__law_same T) (hr.mono (by decide)) tk T.m__law_same (ra_cons (re_ix ixr_any ops_ix (ev 0) (re_int) (fun _ _ => rfl)) (ra_cons (ev 1) (ra_nil)))))))
theorem tab_held {X : Cx} {mg : Str → Option Value} {K : PySem.W.Frag} {G : Wd} (T : Tx K mg G) (hK : X.K = K := by rfl) (hmg : X.mg = mg := by rfl) : ∀ m n F, tab m = some (n, F) → Held' X G 8 m n F := by
  subst hK hmg
  intro m n F h
  unfold tab at h
  split at h
  · cases h
    exact held_mono (held_of (ok_bernoulli T)) (by decide)
  · cases h
    exact held_mono (held_of (ok_numbers_to T)) (by decide)
  · cases h
    exact held_mono (held_of (ok_bernoulli_by_triangle T)) (by decide)
  · cases h
    exact held_mono (held_of (ok_bernoulli_value T)) (by decide)
  · cases h
    exact held_mono (held_of (ok_power_sum T)) (by decide)
  · cases h
    exact held_mono (held_of (ok_lower_primes T)) (by decide)
  · cases h
    exact held_mono (held_of (ok_whole_part T)) (by decide)
  · cases h
    exact held_mono (held_of (ok_bad_indexes T)) (by decide)
  · cases h
    exact held_mono (held_of (ok_half_numbers T)) (by decide)
  · cases h
abbrev N__law_told : List Str := ["f", "given", "error"]
theorem sc__law_told : FnScope N__law_told ["f", "given"] (defScope s__law_told) := ⟨rfl, rfl, rfl, by decide +kernel, rfl, by decide +kernel, by decide +kernel⟩
theorem ok__law_told (T : Tx K mg G) : Good P w K mg base G 9 23 2 ["f", "given"] [] F__law_told :=
  good_of (N := N__law_told) T.d__law_told sc__law_told rfl fun f cdv A outer s H E hr => by
    have nd := sc__law_told.nd
    have tk : Takes (cxOf (L2.CX P w) P w K mg base N__law_told "_law_told" (defScope s__law_told) f cdv A outer s H E) (fun cls d _ H => E cls d H) := takes_of rfl rfl rfl rfl
    have hp : PassesOwn (model P w) (cxOf (L2.CX P w) P w K mg base N__law_told "_law_told" (defScope s__law_told) f cdv A outer s H E).A (cxOf (L2.CX P w) P w K mg base N__law_told "_law_told" (defScope s__law_told) f cdv A outer s H E).env (cxOf (L2.CX P w) P w K mg base N__law_told "_law_told" (defScope s__law_told) f cdv A outer s H E).xe := PassesOwn.leaving
    have hrD := hr
    exact rs_one (rs_try (f1 := sRet (eTup (aCons (eC (.str "malformed")) (aCons (eC .non) (aNil))))) (i := 2) (ts2 := fun a cls d => tErr a cls d (G.clA 1) 2) rfl rfl nd rfl rfl ⟨rfl, by decide, .inl T.gM⟩ ⟨rfl, by decide, .inl T.gR⟩ (fun W pn xe tk2 hp2 => rs_cons (rs_if (rt_cmp (opr_eq hr.units) ops_eq (re_b1 call_len_seq uns_len (by rfl) T.n_len PySem.boot_len (ev 1)) (re_int) (nomark _)) (rs_one (rs_ret (re_tup (ra_cons (re_str) (ra_cons (re_never) (ra_nil)))))) (rs_nil))
        (rs_cons (rs_if (rt_cmp (opr_eq hr.units) ops_eq (re_b1 call_len_seq uns_len (by rfl) T.n_len PySem.boot_len (ev 1)) (re_int) (nomark _)) (rs_one (rs_ret (re_tup (ra_cons (re_str) (ra_cons (re_callD (tab_held T) hrD rfl (by first | exact Or.inl rfl | exact Or.inr (Or.inl rfl)) tk2 (ra_cons (re_ix ixr_any ops_ix (ev 1) (re_int) (fun _ _ => rfl)) (ra_nil))) (ra_nil)))))) (rs_nil))
        (rs_cons (rs_if (rt_cmp (opr_eq hr.units) ops_eq (re_b1 call_len_seq uns_len (by rfl) T.n_len PySem.boot_len (ev 1)) (re_int) (nomark _)) (rs_one (rs_ret (re_tup (ra_cons (re_str) (ra_cons (re_callD (tab_held T) hrD rfl (by first | exact Or.inl rfl | exact Or.inr (Or.inl rfl)) tk2 (ra_cons (re_ix ixr_any ops_ix (ev 1) (re_int) (fun _ _ => rfl)) (ra_cons (re_ix ixr_any ops_ix (ev 1) (re_int) (fun _ _ => rfl)) (ra_nil)))) (ra_nil)))))) (rs_nil))
        (rs_cons (rs_if (rt_cmp (opr_eq hr.units) ops_eq (re_b1 call_len_seq uns_len (by rfl) T.n_len PySem.boot_len (ev 1)) (re_int) (nomark _)) (rs_one (rs_ret (re_tup (ra_cons (re_str) (ra_cons (re_callD (tab_held T) hrD rfl (by first | exact Or.inl rfl | exact Or.inr (Or.inl rfl)) tk2 (ra_cons (re_ix ixr_any ops_ix (ev 1) (re_int) (fun _ _ => rfl)) (ra_cons (re_ix ixr_any ops_ix (ev 1) (re_int) (fun _ _ => rfl)) (ra_cons (re_ix ixr_any ops_ix (ev 1) (re_int) (fun _ _ => rfl)) (ra_nil))))) (ra_nil)))))) (rs_nil))
        (rs_cons (rs_if (rt_cmp (opr_eq hr.units) ops_eq (re_b1 call_len_seq uns_len (by rfl) T.n_len PySem.boot_len (ev 1)) (re_int) (nomark _)) (rs_one (rs_ret (re_tup (ra_cons (re_str) (ra_cons (re_callD (tab_held T) hrD rfl (by first | exact Or.inl rfl | exact Or.inr (Or.inl rfl)) tk2 (ra_cons (re_ix ixr_any ops_ix (ev 1) (re_int) (fun _ _ => rfl)) (ra_cons (re_ix ixr_any ops_ix (ev 1) (re_int) (fun _ _ => rfl)) (ra_cons (re_ix ixr_any ops_ix (ev 1) (re_int) (fun _ _ => rfl)) (ra_cons (re_ix ixr_any ops_ix (ev 1) (re_int) (fun _ _ => rfl)) (ra_nil)))))) (ra_nil)))))) (rs_nil))
        (rs_cons (rs_if (rt_cmp (opr_eq hr.units) ops_eq (re_b1 call_len_seq uns_len (by rfl) T.n_len PySem.boot_len (ev 1)) (re_int) (nomark _)) (rs_one (rs_ret (re_tup (ra_cons (re_str) (ra_cons (re_callD (tab_held T) hrD rfl (by first | exact Or.inl rfl | exact Or.inr (Or.inl rfl)) tk2 (ra_cons (re_ix ixr_any ops_ix (ev 1) (re_int) (fun _ _ => rfl)) (ra_cons (re_ix ixr_any ops_ix (ev 1) (re_int) (fun _ _ => rfl)) (ra_cons (re_ix ixr_any ops_ix (ev 1) (re_int) (fun _ _ => rfl)) (ra_cons (re_ix ixr_any ops_ix (ev 1) (re_int) (fun _ _ => rfl)) (ra_cons (re_ix ixr_any ops_ix (ev 1) (re_int) (fun _ _ => rfl)) (ra_nil))))))) (ra_nil)))))) (rs_nil))
        (rs_one (rs_ret (re_tup (ra_cons (re_str) (ra_cons (re_callD (tab_held T) hrD rfl (by first | exact Or.inl rfl | exact Or.inr (Or.inl rfl)) tk2 (ra_cons (re_ix ixr_any ops_ix (ev 1) (re_int) (fun _ _ => rfl)) (ra_cons (re_ix ixr_any ops_ix (ev 1) (re_int) (fun _ _ => rfl)) (ra_cons (re_ix ixr_any ops_ix (ev 1) (re_int) (fun _ _ => rfl)) (ra_cons (re_ix ixr_any ops_ix (ev 1) (re_int) (fun _ _ => rfl)) (ra_cons (re_ix ixr_any ops_ix (ev 1) (re_int) (fun _ _ => rfl)) (ra_cons (re_ix ixr_any ops_ix (ev 1) (re_int) (fun _ _ => rfl)) (ra_nil)))))))) (ra_nil)))))))))))) (fun _ _ _ _ _ _ _ => rs_one (rs_ret (re_tup (ra_cons (re_str) (ra_cons (re_non) (ra_nil)))))) (fun _ _ _ _ _ hz hf => pss_err T.rC hz hf rfl (by first | exact Or.inl rfl | exact Or.inr (Or.inl rfl))) rfl (fun _ _ _ _ _ _ _ _ _ _ e n na rx zh fh k => err_ok rfl (by decide) e n na rx zh fh k) T.eMM (fun _ => ⟨T.eRM, T.eRR⟩) rfl)
abbrev N__law_tells : List Str := ["f", "given", "due"]
theorem sc__law_tells : FnScope N__law_tells ["f", "given", "due"] (defScope s__law_tells) := ⟨rfl, rfl, rfl, by decide +kernel, rfl, by decide +kernel, by decide +kernel⟩
theorem ok__law_tells (T : Tx K mg G) : Good P w K mg base G 10 25 3 ["f", "given", "due"] [] F__law_tells :=
  good_of (N := N__law_tells) T.d__law_tells sc__law_tells rfl fun f cdv A outer s H E hr => by
    have nd := sc__law_tells.nd
    have tk : Takes (cxOf (L2.CX P w) P w K mg base N__law_tells "_law_tells" (defScope s__law_tells) f cdv A outer s H E) (fun cls d _ H => E cls d H) := takes_of rfl rfl rfl rfl
    have hp : PassesOwn (model P w) (cxOf (L2.CX P w) P w K mg base N__law_tells "_law_tells" (defScope s__law_tells) f cdv A outer s H E).A (cxOf (L2.CX P w) P w K mg base N__law_tells "_law_tells" (defScope s__law_tells) f cdv A outer s H E).env (cxOf (L2.CX P w) P w K mg base N__law_tells "_law_tells" (defScope s__law_tells) f cdv A outer s H E).xe := PassesOwn.leaving
    exact rs_one (rs_ret (ecall0 (ok__law_is_told T) (hr.mono (by decide)) tk T.m__law_is_told (ra_cons (ecall0 (ok__law_told T) (hr.mono (by decide)) tk T.m__law_told (ra_cons (ev 0) (ra_cons (ev 1) (ra_nil)))) (ra_cons (ev 2) (ra_nil)))))
abbrev N__law_value : List Str := ["f", "given", "told"]
theorem sc__law_value : FnScope N__law_value ["f", "given"] (defScope s__law_value) := ⟨rfl, rfl, rfl, by decide +kernel, rfl, by decide +kernel, by decide +kernel⟩
theorem ok__law_value (T : Tx K mg G) : Good P w K mg base G 10 26 2 ["f", "given"] [] F__law_value :=
  good_of (N := N__law_value) T.d__law_value sc__law_value rfl fun f cdv A outer s H E hr => by
    have nd := sc__law_value.nd
    have tk : Takes (cxOf (L2.CX P w) P w K mg base N__law_value "_law_value" (defScope s__law_value) f cdv A outer s H E) (fun cls d _ H => E cls d H) := takes_of rfl rfl rfl rfl
    have hp : PassesOwn (model P w) (cxOf (L2.CX P w) P w K mg base N__law_value "_law_value" (defScope s__law_value) f cdv A outer s H E).A (cxOf (L2.CX P w) P w K mg base N__law_value "_law_value" (defScope s__law_value) f cdv A outer s H E).env (cxOf (L2.CX P w) P w K mg base N__law_value "_law_value" (defScope s__law_value) f cdv A outer s H E).xe := PassesOwn.leaving
    exact rs_cons (rs_set (i := 2) nd rfl (by first | exact Or.inl rfl | exact Or.inr rfl) (ecall0 (ok__law_told T) (hr.mono (by decide)) tk T.m__law_told (ra_cons (ev 0) (ra_cons (ev 1) (ra_nil)))) (by first | exact .inl rfl | exact .inr rfl))
        (rs_one (rs_ret (re_if (rt_cmp (opr_eq hr.units) ops_eq (re_ix ixr_any ops_ix (ev 2) (re_int) (fun _ _ => rfl)) (re_str) (nomark _)) (re_ix ixr_any ops_ix (ev 2) (re_int) (fun _ _ => rfl)) (ev 2))))
abbrev N__law_bads : List Str := ["f", "given", "at", "bads", "bad", "own"]
theorem sc__law_bads : FnScope N__law_bads ["f", "given", "at", "bads"] (defScope s__law_bads) := ⟨rfl, rfl, rfl, by decide +kernel, rfl, by decide +kernel, by decide +kernel⟩
theorem ok__law_bads (T : Tx K mg G) : Good P w K mg base G 10 27 4 ["f", "given", "at", "bads"] [] F__law_bads :=
  good_of (N := N__law_bads) T.d__law_bads sc__law_bads rfl fun f cdv A outer s H E hr => by
    have nd := sc__law_bads.nd
    have tk : Takes (cxOf (L2.CX P w) P w K mg base N__law_bads "_law_bads" (defScope s__law_bads) f cdv A outer s H E) (fun cls d _ H => E cls d H) := takes_of rfl rfl rfl rfl
    have hp : PassesOwn (model P w) (cxOf (L2.CX P w) P w K mg base N__law_bads "_law_bads" (defScope s__law_bads) f cdv A outer s H E).A (cxOf (L2.CX P w) P w K mg base N__law_bads "_law_bads" (defScope s__law_bads) f cdv A outer s H E).env (cxOf (L2.CX P w) P w K mg base N__law_bads "_law_bads" (defScope s__law_bads) f cdv A outer s H E).xe := PassesOwn.leaving
    exact rs_cons (rs_for' (.nm 4) hp (ri_seq (ev 3)) (pg_name (i := 4) nd rfl (by first | exact Or.inl rfl | exact Or.inr rfl) (by first | exact .inl rfl | exact .inr rfl)) (rs_cons (rs_set (i := 5) nd rfl (by first | exact Or.inl rfl | exact Or.inr rfl) (re_t1 call_list_of uns_lst (by rfl) T.n_list (by decide +kernel) (ev 1)) (by first | exact .inl rfl | exact .inr rfl))
        (rs_cons (rs_sto (j := 5) rfl (by first | exact Or.inl rfl | exact Or.inr (Or.inl rfl)) (ev 4) (ev 2) (ps_asg (ev 4) (pg_sub (pv 5) (ev 2) set_list)))
        (rs_one (rs_if (rt_cmp (opr_ne hr.units) ops_ne (ecall0 (ok__law_told T) (hr.mono (by decide)) tk T.m__law_told (ra_cons (ev 0) (ra_cons (re_t1 call_tuple_of uns_tup (by rfl) T.n_tuple (by decide +kernel) (ev 5)) (ra_nil)))) (re_tup (ra_cons (re_str) (ra_cons (re_non) (ra_nil)))) (nomark _)) (rs_one (rs_ret (re_bl))) (rs_nil))))))
        (rs_one (rs_ret (re_bl)))
abbrev N_law : List Str := ["script", "state", "turn", "n", "numbers", "x", "y", "due", "k", "m", "even", "primes", "own", "whole", "low", "q", "p", "act", "j", "r"]
def sc_law_0 : PySem.Scope := { kind := PySem.ScopeKind.function, names := [(PySem.Str.ofString ".0", PySem.NameKind.local), (PySem.Str.ofString "m", PySem.NameKind.cell), (PySem.Str.ofString "_law_sum", PySem.NameKind.globalImplicit), (PySem.Str.ofString "range", PySem.NameKind.globalImplicit), (PySem.Str.ofString "Ratio", PySem.NameKind.globalImplicit), (PySem.Str.ofString "int", PySem.NameKind.globalImplicit), (PySem.Str.ofString "numbers", PySem.NameKind.cell)], isGenerator := false, isCoroutine := false, more := [] : PySem.Scope }
def sc_law_1 : PySem.Scope := { kind := PySem.ScopeKind.function, names := [(PySem.Str.ofString ".0", PySem.NameKind.local), (PySem.Str.ofString "k", PySem.NameKind.local), (PySem.Str.ofString "Ratio", PySem.NameKind.globalImplicit), (PySem.Str.ofString "_law_choose", PySem.NameKind.globalImplicit), (PySem.Str.ofString "m", PySem.NameKind.cell), (PySem.Str.ofString "numbers", PySem.NameKind.cell)], isGenerator := false, isCoroutine := false, more := [] : PySem.Scope }
def sc_law_2 : PySem.Scope := { kind := PySem.ScopeKind.function, names := [(PySem.Str.ofString ".0", PySem.NameKind.local), (PySem.Str.ofString "k", PySem.NameKind.local), (PySem.Str.ofString "Ratio", PySem.NameKind.globalImplicit), (PySem.Str.ofString "_law_choose", PySem.NameKind.globalImplicit), (PySem.Str.ofString "_law_power", PySem.NameKind.globalImplicit), (PySem.Str.ofString "n", PySem.NameKind.cell), (PySem.Str.ofString "numbers", PySem.NameKind.cell), (PySem.Str.ofString "y", PySem.NameKind.cell)], isGenerator := false, isCoroutine := false, more := [] : PySem.Scope }
def sc_law_3 : PySem.Scope := { kind := PySem.ScopeKind.function, names := [(PySem.Str.ofString ".0", PySem.NameKind.local), (PySem.Str.ofString "j", PySem.NameKind.local), (PySem.Str.ofString "_law_raised", PySem.NameKind.globalImplicit), (PySem.Str.ofString "k", PySem.NameKind.cell)], isGenerator := false, isCoroutine := false, more := [] : PySem.Scope }
def sc_law_4 : PySem.Scope := { kind := PySem.ScopeKind.function, names := [(PySem.Str.ofString ".0", PySem.NameKind.local), (PySem.Str.ofString "q", PySem.NameKind.cell), (PySem.Str.ofString "all", PySem.NameKind.globalImplicit), (PySem.Str.ofString "range", PySem.NameKind.globalImplicit), (PySem.Str.ofString "int", PySem.NameKind.globalImplicit), (PySem.Str.ofString "even", PySem.NameKind.cell)], isGenerator := false, isCoroutine := false, more := [] : PySem.Scope }
def sc_law_5 : PySem.Scope := { kind := PySem.ScopeKind.function, names := [(PySem.Str.ofString ".0", PySem.NameKind.local), (PySem.Str.ofString "r", PySem.NameKind.local), (PySem.Str.ofString "int", PySem.NameKind.globalImplicit), (PySem.Str.ofString "q", PySem.NameKind.cell)], isGenerator := false, isCoroutine := false, more := [] : PySem.Scope }
def sc_law_6 : PySem.Scope := { kind := PySem.ScopeKind.function, names := [(PySem.Str.ofString ".0", PySem.NameKind.local), (PySem.Str.ofString "q", PySem.NameKind.local), (PySem.Str.ofString "Ratio", PySem.NameKind.globalImplicit)], isGenerator := false, isCoroutine := false, more := [] : PySem.Scope }
def sc_law_7 : PySem.Scope := { kind := PySem.ScopeKind.function, names := [(PySem.Str.ofString ".0", PySem.NameKind.local), (PySem.Str.ofString "j", PySem.NameKind.local), (PySem.Str.ofString "_law_value", PySem.NameKind.globalImplicit), (PySem.Str.ofString "bernoulli", PySem.NameKind.globalImplicit)], isGenerator := false, isCoroutine := false, more := [] : PySem.Scope }
def sc_law_8 : PySem.Scope := { kind := PySem.ScopeKind.function, names := [(PySem.Str.ofString ".0", PySem.NameKind.local), (PySem.Str.ofString "j", PySem.NameKind.local), (PySem.Str.ofString "int", PySem.NameKind.globalImplicit), (PySem.Str.ofString "_law_value", PySem.NameKind.globalImplicit), (PySem.Str.ofString "bernoulli", PySem.NameKind.globalImplicit), (PySem.Str.ofString "p", PySem.NameKind.cell)], isGenerator := false, isCoroutine := false, more := [] : PySem.Scope }
theorem sc_law : FnScope N_law ["script"] (defScope s_law) := ⟨rfl, rfl, rfl, by decide +kernel, rfl, by decide +kernel, by decide +kernel⟩
theorem law_fn (T : Tx K mg G) {f : Addr} {fd : FuncData} (F : Fun K "law" "law" s_law f fd) : FnOk P w K mg base (L2.CX P w) 11 f fd ["script"] (spF K G 1 F_law) :=
  fn_ok (N := N_law) F sc_law fun cdv A outer s H E hr => by
    have nd := sc_law.nd
    have tk : Takes (cxOf (L2.CX P w) P w K mg base N_law "law" (defScope s_law) f cdv A outer s H E) (fun cls d _ H => E cls d H) := takes_of rfl rfl rfl rfl
    have hp : PassesOwn (model P w) (cxOf (L2.CX P w) P w K mg base N_law "law" (defScope s_law) f cdv A outer s H E).A (cxOf (L2.CX P w) P w K mg base N_law "law" (defScope s_law) f cdv A outer s H E).env (cxOf (L2.CX P w) P w K mg base N_law "law" (defScope s_law) f cdv A outer s H E).xe := PassesOwn.leaving
    exact rs_cons (rs_set (i := 1) nd rfl (by first | exact Or.inl rfl | exact Or.inr rfl) (ecall0 (ok__law_state T) (hr.mono (by decide)) tk T.m__law_state (ra_cons (ev 0) (ra_nil))) (by first | exact .inl rfl | exact .inr rfl))
        (rs_cons (rs_for' (.nm 2) hp (ri_range1 (by rfl) T.n_range (ra_cons (re_int) (ra_nil))) (pg_name (i := 2) nd rfl (by first | exact Or.inl rfl | exact Or.inr rfl) (by first | exact .inl rfl | exact .inr rfl)) (rs_cons (rs_set (i := 3) nd rfl (by first | exact Or.inl rfl | exact Or.inr rfl) (ecallB (j := 1) (ok__law_take T) (hr.mono (by decide)) tk T.m__law_take (ra_cons (re_int) (ra_nil))) (by first | exact .inl rfl | exact .inr rfl))
        (rs_cons (rs_set (i := 4) nd rfl (by first | exact Or.inl rfl | exact Or.inr rfl) (ecall0 (ok__law_value T) (hr.mono (by decide)) tk T.m__law_value (ra_cons (re_gfn (n := 11) (by rfl) T.m_numbers_to) (ra_cons (re_tup (ra_cons (ev 3) (ra_nil))) (ra_nil)))) (by first | exact .inl rfl | exact .inr rfl))
        (rs_cons (rs_if (pt_of (rw_or (rt_cmp (opr_ne hr.units) ops_ne (re_b1 call_len_seq uns_len (by rfl) T.n_len PySem.boot_len (ev 4)) (re_opR (ok_Ratio_add T) T.sfR T.d_Ratio_add rfl (hr.mono (by decide)) tk opr_add ops_add (ev 3) (re_int)) (nomark _)) (rw_or1 (rt_val (re_b1 (cr_any rfl) uns_any (by rfl) T.n_any (by decide +kernel) (re_lc (own := [("m", 9)]) (t := .nm 9) rfl nd (ri_range1 (by rfl) T.n_range (ra_cons (re_opR (ok_Ratio_add T) T.sfR T.d_Ratio_add rfl (hr.mono (by decide)) tk opr_add ops_add (ev 3) (re_int)) (ra_nil))) (blkOk_by (own := [("m", 9)]) (N := N_law) (sc := (defScope s_law)) (by decide +kernel)) (fun _ _ _ _ _ => pg_name (i := 9) nd rfl (by first | exact Or.inl rfl | exact Or.inr rfl) (by first | exact .inl rfl | exact .inr rfl)) (fun _ _ _ _ _ => rts_nil) (fun _ _ _ _ _ => re_neR (ok_Ratio_eq T) T.d_Ratio_eq T.rT T.neR (hr.mono (by decide)) takes0 (opr_ne hr.units) ops_ne (ecall0 (ok__law_sum T) (hr.mono (by decide)) takes0 T.m__law_sum (ra_cons (re_lc (own := [("k", 8)]) (t := .nm 8) rfl nd (ri_range1 (by rfl) T.n_range (ra_cons (re_opR (ok_Ratio_add T) T.sfR T.d_Ratio_add rfl (hr.mono (by decide)) takes0 opr_add ops_add (ev 9) (re_int)) (ra_nil))) (blkOk_by (own := [("k", 8)]) (N := N_law) (sc := sc_law_0) (by decide +kernel)) (fun _ _ _ _ _ => pg_name (i := 8) nd rfl (by first | exact Or.inl rfl | exact Or.inr rfl) (by first | exact .inl rfl | exact .inr rfl)) (fun _ _ _ _ _ => rts_nil) (fun _ _ _ _ _ => re_opR (ok_Ratio_mul T) T.sfR T.d_Ratio_mul rfl (hr.mono (by decide)) takes0 opr_mul2 ops_mul2 (re_ix ixr_any ops_ix (ev 4) (ev 8) (fun _ _ => rfl)) (re_new1 (ok_Rinit T) T.cF (hr.mono (by decide)) (by rfl) T.gT takes0 (ra_cons (ecall0 (ok__law_choose T) (hr.mono (by decide)) takes0 T.m__law_choose (ra_cons (re_opR (ok_Ratio_add T) T.sfR T.d_Ratio_add rfl (hr.mono (by decide)) takes0 opr_add ops_add (ev 9) (re_int)) (ra_cons (ev 8) (ra_nil)))) (ra_nil)))) (by decide)) (ra_nil))) (re_new1 (ok_Rinit T) T.cF (hr.mono (by decide)) (by rfl) T.gT takes0 (ra_cons (re_t1 call_int1 uns_int (by rfl) T.n_int (by decide +kernel) (re_cmp (opr_eq hr.units) ops_eq (ev 9) (re_int) (nomark _))) (ra_nil))) (nomark _)) (by decide))))))) (rs_one (rs_ret (re_bl))) (rs_nil))
        (rs_cons (rs_if (pt_of (rw_or (rt_not (rt_val (ecall0 (ok__law_tells T) (hr.mono (by decide)) tk T.m__law_tells (ra_cons (re_gfn (n := 10) (by rfl) T.m_bernoulli) (ra_cons (re_tup (ra_cons (ev 3) (ra_nil))) (ra_cons (re_ix ixr_any ops_ix (ev 4) (ev 3) (fun _ _ => rfl)) (ra_nil))))))) (rw_or1 (rt_not (rt_val (ecall0 (ok__law_tells T) (hr.mono (by decide)) tk T.m__law_tells (ra_cons (re_gfn (n := 12) (by rfl) T.m_bernoulli_by_triangle) (ra_cons (re_tup (ra_cons (ev 3) (ra_nil))) (ra_cons (re_ix ixr_any ops_ix (ev 4) (ev 3) (fun _ _ => rfl)) (ra_nil)))))))))) (rs_one (rs_ret (re_bl))) (rs_nil))
        (rs_cons (rs_set (i := 5) nd rfl (by first | exact Or.inl rfl | exact Or.inr rfl) (re_ix ixr_any ops_ix (re_lst (ra_cons (ecallB (j := 1) (ok__law_number T) (hr.mono (by decide)) tk T.m__law_number (ra_cons (re_int) (ra_nil))) (ra_cons (re_opR (ok_Ratio_sub T) T.sfR T.d_Ratio_sub rfl (hr.mono (by decide)) tk op_sub ops_sub (ecallB (j := 1) (ok__law_take T) (hr.mono (by decide)) tk T.m__law_take (ra_cons (re_int) (ra_nil))) (re_int)) (ra_nil)))) (ecallB (j := 1) (ok__law_take T) (hr.mono (by decide)) tk T.m__law_take (ra_cons (re_int) (ra_nil))) (fun _ _ => rfl)) (by first | exact .inl rfl | exact .inr rfl))
        (rs_cons (rs_set (i := 6) nd rfl (by first | exact Or.inl rfl | exact Or.inr rfl) (re_if (rt_val (re_isR T.rT (by rfl) T.n_isinstance (by rfl) T.gT (ev 5))) (ev 5) (re_new1 (ok_Rinit T) T.cF (hr.mono (by decide)) (by rfl) T.gT tk (ra_cons (ev 5) (ra_nil)))) (by first | exact .inl rfl | exact .inr rfl))
        (rs_cons (rs_set (i := 7) nd rfl (by first | exact Or.inl rfl | exact Or.inr rfl) (ecall0 (ok__law_sum T) (hr.mono (by decide)) tk T.m__law_sum (ra_cons (re_lc (own := [("k", 8)]) (t := .nm 8) rfl nd (ri_range1 (by rfl) T.n_range (ra_cons (re_opR (ok_Ratio_add T) T.sfR T.d_Ratio_add rfl (hr.mono (by decide)) tk opr_add ops_add (ev 3) (re_int)) (ra_nil))) (blkOk_by (own := [("k", 8)]) (N := N_law) (sc := (defScope s_law)) (by decide +kernel)) (fun _ _ _ _ _ => pg_name (i := 8) nd rfl (by first | exact Or.inl rfl | exact Or.inr rfl) (by first | exact .inl rfl | exact .inr rfl)) (fun _ _ _ _ _ => rts_nil) (fun _ _ _ _ _ => re_opR (ok_Ratio_mul T) T.sfR T.d_Ratio_mul rfl (hr.mono (by decide)) takes0 opr_mul2 ops_mul2 (re_opR (ok_Ratio_mul T) T.sfR T.d_Ratio_mul rfl (hr.mono (by decide)) takes0 opr_mul2 ops_mul2 (re_ix ixr_any ops_ix (ev 4) (ev 8) (fun _ _ => rfl)) (re_new1 (ok_Rinit T) T.cF (hr.mono (by decide)) (by rfl) T.gT takes0 (ra_cons (ecall0 (ok__law_choose T) (hr.mono (by decide)) takes0 T.m__law_choose (ra_cons (ev 3) (ra_cons (ev 8) (ra_nil)))) (ra_nil)))) (ecall0 (ok__law_power T) (hr.mono (by decide)) takes0 T.m__law_power (ra_cons (ev 6) (ra_cons (re_opR (ok_Ratio_sub T) T.sfR T.d_Ratio_sub rfl (hr.mono (by decide)) takes0 op_sub ops_sub (ev 3) (ev 8)) (ra_nil))))) (by decide)) (ra_nil))) (by first | exact .inl rfl | exact .inr rfl))
        (rs_cons (rs_if (pt_of (rw_or (rt_not (rt_val (ecall0 (ok__law_tells T) (hr.mono (by decide)) tk T.m__law_tells (ra_cons (re_gfn (n := 13) (by rfl) T.m_bernoulli_value) (ra_cons (re_tup (ra_cons (ev 3) (ra_cons (ev 5) (ra_nil)))) (ra_cons (ev 7) (ra_nil))))))) (rw_or1 (rt_neR (ok_Ratio_eq T) T.d_Ratio_eq T.rT T.neR (hr.mono (by decide)) tk (opr_ne hr.units) ops_ne (re_opR (ok_Ratio_sub T) T.sfR T.d_Ratio_sub rfl (hr.mono (by decide)) tk op_sub ops_sub (ecall0 (ok__law_value T) (hr.mono (by decide)) tk T.m__law_value (ra_cons (re_gfn (n := 13) (by rfl) T.m_bernoulli_value) (ra_cons (re_tup (ra_cons (ev 3) (ra_cons (re_opR (ok_Ratio_add T) T.sfR T.d_Ratio_add rfl (hr.mono (by decide)) tk opr_add ops_add (ev 6) (re_new1 (ok_Rinit T) T.cF (hr.mono (by decide)) (by rfl) T.gT tk (ra_cons (re_int) (ra_nil)))) (ra_nil)))) (ra_nil)))) (ev 7)) (re_if (rt_cmp op_gt ops_gt (ev 3) (re_int) (nomark _)) (re_opR (ok_Ratio_mul T) T.sfR T.d_Ratio_mul rfl (hr.mono (by decide)) tk opr_mul2 ops_mul2 (re_new1 (ok_Rinit T) T.cF (hr.mono (by decide)) (by rfl) T.gT tk (ra_cons (ev 3) (ra_nil))) (ecall0 (ok__law_power T) (hr.mono (by decide)) tk T.m__law_power (ra_cons (ev 6) (ra_cons (re_opR (ok_Ratio_sub T) T.sfR T.d_Ratio_sub rfl (hr.mono (by decide)) tk op_sub ops_sub (ev 3) (re_int)) (ra_nil))))) (re_new1 (ok_Rinit T) T.cF (hr.mono (by decide)) (by rfl) T.gT tk (ra_cons (re_int) (ra_nil)))) (nomark _))))) (rs_one (rs_ret (re_bl))) (rs_nil))
        (rs_cons (rs_unp (is := [8, 9]) (re_tup (ra_cons (ecallB (j := 1) (ok__law_take T) (hr.mono (by decide)) tk T.m__law_take (ra_cons (re_int) (ra_nil))) (ra_cons (ecallB (j := 1) (ok__law_take T) (hr.mono (by decide)) tk T.m__law_take (ra_cons (re_int) (ra_nil))) (ra_nil)))) (pg_tup rfl (pgs_cons (pg_name (i := 8) nd rfl (by first | exact Or.inl rfl | exact Or.inr rfl) (by first | exact .inl rfl | exact .inr rfl)) (pgs_cons (pg_name (i := 9) nd rfl (by first | exact Or.inl rfl | exact Or.inr rfl) (by first | exact .inl rfl | exact .inr rfl)) (pgs_nil)))) (pg_unl rfl (pgs_cons (pg_name (i := 8) nd rfl (by first | exact Or.inl rfl | exact Or.inr rfl) (by first | exact .inl rfl | exact .inr rfl)) (pgs_cons (pg_name (i := 9) nd rfl (by first | exact Or.inl rfl | exact Or.inr rfl) (by first | exact .inl rfl | exact .inr rfl)) (pgs_nil)))))
        (rs_cons (rs_if (rt_not (rt_val (ecall0 (ok__law_tells T) (hr.mono (by decide)) tk T.m__law_tells (ra_cons (re_gfn (n := 14) (by rfl) T.m_power_sum) (ra_cons (re_tup (ra_cons (ev 8) (ra_cons (ev 9) (ra_nil)))) (ra_cons (re_b1 (cr_sumT rfl) uns_sum2 (by rfl) T.n_sum (by decide +kernel) (re_lc (own := [("j", 18)]) (t := .nm 18) rfl nd (ri_range1 (by rfl) T.n_range (ra_cons (ev 9) (ra_nil))) (blkOk_by (own := [("j", 18)]) (N := N_law) (sc := (defScope s_law)) (by decide +kernel)) (fun _ _ _ _ _ => pg_name (i := 18) nd rfl (by first | exact Or.inl rfl | exact Or.inr rfl) (by first | exact .inl rfl | exact .inr rfl)) (fun _ _ _ _ _ => rts_nil) (fun _ _ _ _ _ => ecall0 (ok__law_raised T) (hr.mono (by decide)) takes0 T.m__law_raised (ra_cons (ev 18) (ra_cons (ev 8) (ra_nil)))) (by decide))) (ra_nil))))))) (rs_one (rs_ret (re_bl))) (rs_nil))
        (rs_cons (rs_set (i := 10) nd rfl (by first | exact Or.inl rfl | exact Or.inr rfl) (re_opR (ok_Ratio_mul T) T.sfR T.d_Ratio_mul rfl (hr.mono (by decide)) tk opr_mul2 ops_mul2 (re_int) (re_opR (ok_Ratio_add T) T.sfR T.d_Ratio_add rfl (hr.mono (by decide)) tk opr_add ops_add (re_int) (ecallB (j := 1) (ok__law_take T) (hr.mono (by decide)) tk T.m__law_take (ra_cons (re_int) (ra_nil))))) (by first | exact .inl rfl | exact .inr rfl))
        (rs_cons (rs_setLc (i := 11) (own := [("q", 15)]) (t := .nm 15) rfl nd rfl rfl (sw_true rfl rfl rfl (by decide +kernel)) (ri_range2 (by rfl) T.n_range (ra_cons (re_int) (ra_cons (re_opR (ok_Ratio_add T) T.sfR T.d_Ratio_add rfl (hr.mono (by decide)) tk opr_add ops_add (ev 10) (re_int)) (ra_nil)))) (blkOk_by (own := [("q", 15)]) (N := N_law) (sc := (defScope s_law)) (by decide +kernel)) (fun _ _ _ _ _ => pg_name (i := 15) nd rfl (by first | exact Or.inl rfl | exact Or.inr rfl) (by first | exact .inl rfl | exact .inr rfl)) (fun _ _ _ _ _ => rts_one (pt_of (rw_and (rt_val (re_b1 (cr_all rfl) uns_all (by rfl) T.n_all (by decide +kernel) (re_lc (own := [("r", 19)]) (t := .nm 19) rfl nd (ri_range2 (by rfl) T.n_range (ra_cons (re_int) (ra_cons (ev 15) (ra_nil)))) (blkOk_by (own := [("r", 19)]) (N := N_law) (sc := sc_law_4) (by decide +kernel)) (fun _ _ _ _ _ => pg_name (i := 19) nd rfl (by first | exact Or.inl rfl | exact Or.inr rfl) (by first | exact .inl rfl | exact .inr rfl)) (fun _ _ _ _ _ => rts_nil) (fun _ _ _ _ _ => re_cmp (opr_ne hr.units) ops_ne (re_op op_mod ops_mod (re_t1 call_int1 uns_int (by rfl) T.n_int (by decide +kernel) (ev 15)) (ev 19)) (re_int) (nomark _)) (by decide)))) (rw_and1 (rt_cmp (opr_eq hr.units) ops_eq (re_op op_mod ops_mod (re_t1 call_int1 uns_int (by rfl) T.n_int (by decide +kernel) (ev 10)) (re_opR (ok_Ratio_sub T) T.sfR T.d_Ratio_sub rfl (hr.mono (by decide)) takes0 op_sub ops_sub (ev 15) (re_int))) (re_int) (nomark _)))))) (fun _ _ _ _ _ => ev 15) (by decide))
        (rs_cons (rs_set (i := 12) nd rfl (by first | exact Or.inl rfl | exact Or.inr rfl) (ecall0 (ok__law_value T) (hr.mono (by decide)) tk T.m__law_value (ra_cons (re_gfn (n := 10) (by rfl) T.m_bernoulli) (ra_cons (re_tup (ra_cons (ev 10) (ra_nil))) (ra_nil)))) (by first | exact .inl rfl | exact .inr rfl))
        (rs_cons (rs_set (i := 13) nd rfl (by first | exact Or.inl rfl | exact Or.inr rfl) (re_opR (ok_Ratio_add T) T.sfR T.d_Ratio_add rfl (hr.mono (by decide)) tk opr_add ops_add (ev 12) (ecall0 (ok__law_sum T) (hr.mono (by decide)) tk T.m__law_sum (ra_cons (re_lc (own := [("q", 15)]) (t := .nm 15) rfl nd (ri_seq (ev 11)) (blkOk_by (own := [("q", 15)]) (N := N_law) (sc := (defScope s_law)) (by decide +kernel)) (fun _ _ _ _ _ => pg_name (i := 15) nd rfl (by first | exact Or.inl rfl | exact Or.inr rfl) (by first | exact .inl rfl | exact .inr rfl)) (fun _ _ _ _ _ => rts_nil) (fun _ _ _ _ _ => re_new2 (ok_Rinit T) T.cF (hr.mono (by decide)) (by rfl) T.gT takes0 (ra_cons (re_int) (ra_cons (ev 15) (ra_nil)))) (by decide)) (ra_nil)))) (by first | exact .inl rfl | exact .inr rfl))
        (rs_cons (rs_set (i := 14) nd rfl (by first | exact Or.inl rfl | exact Or.inr rfl) (re_int) (by first | exact .inl rfl | exact .inr rfl))
        (rs_cons (rs_for' (.nm 15) hp (ri_seq (ev 11)) (pg_name (i := 15) nd rfl (by first | exact Or.inl rfl | exact Or.inr rfl) (by first | exact .inl rfl | exact .inr rfl)) (rs_one (rs_set (i := 14) nd rfl (by first | exact Or.inl rfl | exact Or.inr rfl) (re_opR (ok_Ratio_mul T) T.sfR T.d_Ratio_mul rfl (hr.mono (by decide)) tk opr_mul2 ops_mul2 (ev 14) (ev 15)) (by first | exact .inl rfl | exact .inr rfl))))
        (rs_cons (rs_if (pt_of (rw_or (rt_not (rt_val (ecall0 (ok__law_tells T) (hr.mono (by decide)) tk T.m__law_tells (ra_cons (re_gfn (n := 15) (by rfl) T.m_lower_primes) (ra_cons (re_tup (ra_cons (ev 10) (ra_nil))) (ra_cons (re_t1 call_tuple_of uns_tup (by rfl) T.n_tuple (by decide +kernel) (ev 11)) (ra_nil))))))) (rw_or (rt_cmp (opr_ne hr.units) ops_ne (re_fld T.rT T.cF (by decide) (ev 13)) (re_int) (nomark _)) (rw_or (rt_not (rt_val (ecall0 (ok__law_tells T) (hr.mono (by decide)) tk T.m__law_tells (ra_cons (re_gfn (n := 17) (by rfl) T.m_whole_part) (ra_cons (re_tup (ra_cons (ev 10) (ra_nil))) (ra_cons (re_fld T.rT T.cF (by decide) (ev 13)) (ra_nil))))))) (rw_or1 (rt_cmp (opr_ne hr.units) ops_ne (re_fld T.rT T.cF (by decide) (ev 12)) (ev 14) (nomark _))))))) (rs_one (rs_ret (re_bl))) (rs_nil))
        (rs_cons (rs_if (rt_not (rt_val (ecall0 (ok__law_tells T) (hr.mono (by decide)) tk T.m__law_tells (ra_cons (re_gfn (n := 19) (by rfl) T.m_half_numbers) (ra_cons (re_tup (ra_cons (ev 10) (ra_nil))) (ra_cons (re_t1 call_tuple_of uns_tup (by rfl) T.n_tuple (by decide +kernel) (re_lc (own := [("j", 18)]) (t := .nm 18) rfl nd (ri_range3 (by rfl) T.n_range (ra_cons (re_int) (ra_cons (re_opR (ok_Ratio_add T) T.sfR T.d_Ratio_add rfl (hr.mono (by decide)) tk opr_add ops_add (ev 10) (re_int)) (ra_cons (re_int) (ra_nil))))) (blkOk_by (own := [("j", 18)]) (N := N_law) (sc := (defScope s_law)) (by decide +kernel)) (fun _ _ _ _ _ => pg_name (i := 18) nd rfl (by first | exact Or.inl rfl | exact Or.inr rfl) (by first | exact .inl rfl | exact .inr rfl)) (fun _ _ _ _ _ => rts_nil) (fun _ _ _ _ _ => re_fld T.rT T.cF (by decide) (ecall0 (ok__law_value T) (hr.mono (by decide)) takes0 T.m__law_value (ra_cons (re_gfn (n := 10) (by rfl) T.m_bernoulli) (ra_cons (re_tup (ra_cons (ev 18) (ra_nil))) (ra_nil))))) (by decide))) (ra_nil))))))) (rs_one (rs_ret (re_bl))) (rs_nil))
        (rs_cons (rs_set (i := 16) nd rfl (by first | exact Or.inl rfl | exact Or.inr rfl) (re_ix ixr_any ops_ix (re_lst (ra_cons (re_int) (ra_cons (re_int) (ra_cons (re_int) (ra_cons (re_int) (ra_cons (re_int) (ra_cons (re_int) (ra_cons (re_int) (ra_cons (re_int) (ra_cons (re_int) (ra_nil))))))))))) (ecallB (j := 1) (ok__law_take T) (hr.mono (by decide)) tk T.m__law_take (ra_cons (re_int) (ra_nil))) (fun _ _ => rfl)) (by first | exact .inl rfl | exact .inr rfl))
        (rs_one (rs_if (rt_not (rt_val (ecall0 (ok__law_tells T) (hr.mono (by decide)) tk T.m__law_tells (ra_cons (re_gfn (n := 18) (by rfl) T.m_bad_indexes) (ra_cons (re_tup (ra_cons (ev 16) (ra_nil))) (ra_cons (re_t1 call_tuple_of uns_tup (by rfl) T.n_tuple (by decide +kernel) (re_lc (own := [("j", 18)]) (t := .nm 18) rfl nd (ri_range3 (by rfl) T.n_range (ra_cons (re_int) (ra_cons (re_opR (ok_Ratio_sub T) T.sfR T.d_Ratio_sub rfl (hr.mono (by decide)) tk op_sub ops_sub (ev 16) (re_int)) (ra_cons (re_int) (ra_nil))))) (blkOk_by (own := [("j", 18)]) (N := N_law) (sc := (defScope s_law)) (by decide +kernel)) (fun _ _ _ _ _ => pg_name (i := 18) nd rfl (by first | exact Or.inl rfl | exact Or.inr rfl) (by first | exact .inl rfl | exact .inr rfl)) (fun _ _ _ _ _ => rts_one (rt_cmp (opr_eq hr.units) ops_eq (re_op op_mod ops_mod (re_t1 call_int1 uns_int (by rfl) T.n_int (by decide +kernel) (re_fld T.rT T.cF (by decide) (ecall0 (ok__law_value T) (hr.mono (by decide)) takes0 T.m__law_value (ra_cons (re_gfn (n := 10) (by rfl) T.m_bernoulli) (ra_cons (re_tup (ra_cons (ev 18) (ra_nil))) (ra_nil)))))) (ev 16)) (re_int) (nomark _))) (fun _ _ _ _ _ => ev 18) (by decide))) (ra_nil))))))) (rs_one (rs_ret (re_bl))) (rs_nil)))))))))))))))))))))))
        (rs_cons (rs_for' (.nm 17) hp (ri_seq (re_tup (ra_cons (re_gfn (n := 10) (by rfl) T.m_bernoulli) (ra_cons (re_gfn (n := 12) (by rfl) T.m_bernoulli_by_triangle) (ra_nil))))) (pg_name (i := 17) nd rfl (by first | exact Or.inl rfl | exact Or.inr rfl) (by first | exact .inl rfl | exact .inr rfl)) (rs_one (rs_if (rt_not (rt_val (ecall0 (ok__law_bads T) (hr.mono (by decide)) tk T.m__law_bads (ra_cons (ev 17) (ra_cons (re_tup (ra_cons (re_int) (ra_nil))) (ra_cons (re_int) (ra_cons (re_lst (ra_cons (re_un un_neg uns_neg (re_int)) (ra_cons (re_int) (ra_cons (re_non) (ra_cons (re_bl) (ra_nil)))))) (ra_nil)))))))) (rs_one (rs_ret (re_bl))) (rs_nil))))
        (rs_cons (rs_for' (.nm 17) hp (ri_seq (re_tup (ra_cons (re_gfn (n := 15) (by rfl) T.m_lower_primes) (ra_cons (re_gfn (n := 17) (by rfl) T.m_whole_part) (ra_cons (re_gfn (n := 19) (by rfl) T.m_half_numbers) (ra_nil)))))) (pg_name (i := 17) nd rfl (by first | exact Or.inl rfl | exact Or.inr rfl) (by first | exact .inl rfl | exact .inr rfl)) (rs_one (rs_if (rt_not (rt_val (ecall0 (ok__law_bads T) (hr.mono (by decide)) tk T.m__law_bads (ra_cons (ev 17) (ra_cons (re_tup (ra_cons (re_int) (ra_nil))) (ra_cons (re_int) (ra_cons (re_lst (ra_cons (re_int) (ra_cons (re_int) (ra_cons (re_int) (ra_cons (re_non) (ra_cons (re_bl) (ra_nil))))))) (ra_nil)))))))) (rs_one (rs_ret (re_bl))) (rs_nil))))
        (rs_one (rs_ret (re_and (ecall0 (ok__law_bads T) (hr.mono (by decide)) tk T.m__law_bads (ra_cons (re_gfn (n := 13) (by rfl) T.m_bernoulli_value) (ra_cons (re_tup (ra_cons (re_int) (ra_cons (re_int) (ra_nil)))) (ra_cons (re_int) (ra_cons (re_lst (ra_cons (re_un un_neg uns_neg (re_int)) (ra_cons (re_int) (ra_cons (re_non) (ra_nil))))) (ra_nil)))))) (re_and (ecall0 (ok__law_bads T) (hr.mono (by decide)) tk T.m__law_bads (ra_cons (re_gfn (n := 13) (by rfl) T.m_bernoulli_value) (ra_cons (re_tup (ra_cons (re_int) (ra_cons (re_int) (ra_nil)))) (ra_cons (re_int) (ra_cons (re_lst (ra_cons (re_non) (ra_cons (re_bl) (ra_cons (re_str) (ra_nil))))) (ra_nil)))))) (re_and (ecall0 (ok__law_bads T) (hr.mono (by decide)) tk T.m__law_bads (ra_cons (re_gfn (n := 14) (by rfl) T.m_power_sum) (ra_cons (re_tup (ra_cons (re_int) (ra_cons (re_int) (ra_nil)))) (ra_cons (re_int) (ra_cons (re_lst (ra_cons (re_un un_neg uns_neg (re_int)) (ra_cons (re_int) (ra_cons (re_non) (ra_nil))))) (ra_nil)))))) (re_and (ecall0 (ok__law_bads T) (hr.mono (by decide)) tk T.m__law_bads (ra_cons (re_gfn (n := 14) (by rfl) T.m_power_sum) (ra_cons (re_tup (ra_cons (re_int) (ra_cons (re_int) (ra_nil)))) (ra_cons (re_int) (ra_cons (re_lst (ra_cons (re_un un_neg uns_neg (re_int)) (ra_cons (re_int) (ra_cons (re_bl) (ra_nil))))) (ra_nil)))))) (re_and (ecall0 (ok__law_bads T) (hr.mono (by decide)) tk T.m__law_bads (ra_cons (re_gfn (n := 18) (by rfl) T.m_bad_indexes) (ra_cons (re_tup (ra_cons (re_int) (ra_nil))) (ra_cons (re_int) (ra_cons (re_lst (ra_cons (re_int) (ra_cons (re_int) (ra_cons (re_int) (ra_cons (re_non) (ra_nil)))))) (ra_nil)))))) (re_one (re_cmp (opr_eq hr.units) ops_eq (ecall0 (ok__law_value T) (hr.mono (by decide)) tk T.m__law_value (ra_cons (re_gfn (n := 18) (by rfl) T.m_bad_indexes) (ra_cons (re_tup (ra_cons (re_int) (ra_nil))) (ra_nil)))) (re_tup (ra_cons (re_int) (ra_nil))) (nomark _)))))))))))))
end
end L59
end
section
set_option Elab.async false
set_option linter.all false
set_option maxRecDepth 100000
set_option maxHeartbeats 4000000
namespace L59
open PySem PySem.Spec PyProof.Rows L2 Rf
theorem outF_rt {r : R (Fl × Rho)} {d : D} {ρ : Rho} (h : r = .ok (.rt (.fz d), ρ)) : outF r = .ok (.fz d) := by rw [h]; rfl
theorem yes_eq {v : Int} {b : Bool} (h : yes1 v = some b) : F_is_integer [.int v] = .ok (.fz (.bl b)) := by cases h; rfl
theorem yesU_eq {v : Int × Int} {u : Unit} (h : yesU v = some u) : F_check_ratio [.obj 3 [.int v.1, .int v.2]] = .ok (.fz .non) := rfl
theorem cC_eq {v lo hi : Int} {u : Unit} (h : cC v lo hi = some u) : F_check_count [.int v, .int lo, .int hi] = .ok (.fz .non) := by
  have hb := cC_some h
  have e : F_is_count [.int v, .int lo, .int hi] = .ok (.fz (.bl true)) := by
    refine outF_rt (ρ := [.fz (.int v), .fz (.int lo), .fz (.int hi)]) ?_
    have ch : eChain gLe gLe (eVar 1) (eVar 0) (eVar 2) [.fz (.int v), .fz (.int lo), .fz (.int hi)] = .ok (.fz (.bl true), [.fz (.int v), .fz (.int lo), .fz (.int hi)]) := by
      rw [← hb]
      exact v_chS (v_fz rfl) (v_fz rfl) (v_fz rfl) rfl rfl
    exact v_ret (v_andT (v_call0 (v_cons (v_fz rfl) rfl v_nil) rfl (yes_eq rfl)) ch) rfl
  have b : B_check_count [.fz (.int v), .fz (.int lo), .fz (.int hi)] = .ok (.nx, [.fz (.int v), .fz (.int lo), .fz (.int hi)]) :=
    v_sifF (v_not (v_t (v_call0 (v_cons (v_fz rfl) rfl (v_cons (v_fz rfl) rfl (v_cons (v_fz rfl) rfl v_nil))) rfl e))) rfl
  show outF (B_check_count [.fz (.int v), .fz (.int lo), .fz (.int hi)]) = _
  rw [b]
  rfl
def A_common (a0 : Int) (a1 : Int) : Option (Int) :=
  lt (if a0 < 0 then -(a0) else a0) fun xx1 => lt (if a1 < 0 then -(a1) else a1) fun xx3 => bd (aWh (fun ⟨yy5, yy6⟩ => some (decide (0 < yy6))) (fun ⟨yy5, yy6⟩ => gd (decide (0 < yy6)) (lt (yy5 % yy6) fun xx7 => some (yy6, xx7))) 300 (xx1, xx3)) fun ⟨yy5, yy6⟩ => some (yy5)
theorem sim_common {a0 : Int} {a1 : Int} {v : Int} (h : A_common a0 a1 = some v) : F_common [.int a0, .int a1] = .ok (.fz (D.int v)) := by
  have key : JS B_common [.fz (.int a0), .fz (.int a1)] (A_common a0 a1) (PR D.int) := by
    unfold B_common A_common
    refine js_lt fun xx1 ee2 => ?_
    refine js_lt fun xx3 ee4 => ?_
    refine js_st (v_par (vi (v_u (v_fz rfl) rfl rfl) ee2) rfl (vi (v_u (v_fz rfl) rfl rfl) ee4) rfl rfl rfl) ?_
    refine js_wh (J := (fun (s : Int × Int) (ρ : Rho) => ∃ (yy5 : Int) (yy6 : Int), s = (yy5, yy6) ∧ ρ = [.fz (.int yy5), .fz (.int yy6)])) (n := 300) (by decide) ⟨_, _, rfl, rfl⟩ ?_ ?_ ?_
    · intro s ρ' b hI hc
      obtain ⟨yy5, yy6, rfl, rfl⟩ := hI
      cases hc
      exact (v_t (v_op (v_fz rfl) v_c rfl rfl rfl))
    · intro s ρ' hI
      obtain ⟨yy5, yy6, rfl, rfl⟩ := hI
      try dsimp only
      refine js_gd fun hgg9 => ?_
      refine js_lt fun xx7 ee8 => ?_
      exact js_end (v_par (v_fz rfl) rfl (vi (v_op (v_fz rfl) (v_fz rfl) rfl rfl (gMod_int hgg9)) ee8) rfl rfl rfl) ⟨_, _, rfl, rfl⟩
    · intro s ρ' hI
      obtain ⟨yy5, yy6, rfl, rfl⟩ := hI
      try dsimp only
      exact js_ret (v := yy5) (v_fz rfl)
  exact out_eq (F := F_common [.int a0, .int a1]) (r := B_common [.fz (.int a0), .fz (.int a1)]) rfl (key v h)
theorem cwN : ∀ (k n a b : Nat), b < 2 ^ k → 2 * k + 1 ≤ n → aWh (fun (⟨yy5, yy6⟩ : Int × Int) => some (decide (0 < yy6))) (fun ⟨yy5, yy6⟩ => gd (decide (0 < yy6)) (lt (yy5 % yy6) fun xx7 => some (yy6, xx7))) n ((a : Int), (b : Int)) = some (((Nat.gcd a b : Nat) : Int), 0) := by
  have z : ∀ n a : Nat, aWh (fun (⟨yy5, yy6⟩ : Int × Int) => some (decide (0 < yy6))) (fun ⟨yy5, yy6⟩ => gd (decide (0 < yy6)) (lt (yy5 % yy6) fun xx7 => some (yy6, xx7))) (n + 1) ((a : Int), ((0 : Nat) : Int)) = some (((Nat.gcd a 0 : Nat) : Int), 0) := fun n a => by
    rw [aWh, Nat.gcd_zero_right]
    rfl
  have st : ∀ n a b : Nat, 0 < b → aWh (fun (⟨yy5, yy6⟩ : Int × Int) => some (decide (0 < yy6))) (fun ⟨yy5, yy6⟩ => gd (decide (0 < yy6)) (lt (yy5 % yy6) fun xx7 => some (yy6, xx7))) (n + 1) ((a : Int), (b : Int)) = aWh (fun (⟨yy5, yy6⟩ : Int × Int) => some (decide (0 < yy6))) (fun ⟨yy5, yy6⟩ => gd (decide (0 < yy6)) (lt (yy5 % yy6) fun xx7 => some (yy6, xx7))) n ((b : Int), ((a % b : Nat) : Int)) := fun n a b hb => by
    have h : decide ((0 : Int) < (b : Int)) = true := decide_eq_true (by omega)
    rw [aWh]
    simp only [h, gd, lt]
    rfl
  have g : ∀ a b : Nat, Nat.gcd a b = Nat.gcd b (a % b) := fun a b => by rw [Nat.gcd_comm a b, Nat.gcd_rec b a, Nat.gcd_comm]
  intro k
  induction k with
  | zero =>
    intro n a b hb hn
    obtain rfl : b = 0 := by simpa using hb
    obtain ⟨m, rfl⟩ : ∃ m, n = m + 1 := ⟨n - 1, by omega⟩
    exact z m a
  | succ k ih =>
    intro n a b hb hn
    obtain ⟨m, rfl⟩ : ∃ m, n = m + 1 + 1 := ⟨n - 2, by omega⟩
    rcases Nat.eq_zero_or_pos b with rfl | h0
    · exact z _ a
    rw [st _ a b h0, g a b]
    rcases Nat.eq_zero_or_pos (a % b) with h1 | h1
    · rw [h1]; exact z _ b
    have h2 : a % b < b := Nat.mod_lt _ h0
    rw [st _ b (a % b) h1, g b (a % b)]
    refine ih m _ _ ?_ (by omega)
    have h3 : b % (a % b) < a % b := Nat.mod_lt _ h1
    have h4 : a % b + b % (a % b) ≤ b := by
      have h5 := Nat.mod_add_div b (a % b)
      have h6 : 1 ≤ b / (a % b) := Nat.div_pos (Nat.le_of_lt h2) h1
      have h7 : a % b * 1 ≤ a % b * (b / (a % b)) := Nat.mul_le_mul_left _ h6
      omega
    have h8 : 2 ^ (k + 1) = 2 * 2 ^ k := by rw [Nat.pow_succ]; omega
    omega
theorem absN (a : Int) : (if a < 0 then -(a) else a) = ((a.natAbs : Nat) : Int) := by
  split <;> omega
def M_common (a b : Int) : Option Int := cond (Nat.blt b.natAbs 1393796574908163946345982392040522594123776) (some (Int.ofNat (Nat.gcd a.natAbs b.natAbs))) (A_common a b)
theorem sim_M_common {a b v : Int} (h : M_common a b = some v) : F_common [.int a, .int b] = .ok (.fz (.int v)) := by
  refine sim_common ?_
  unfold M_common at h
  cases hb : Nat.blt b.natAbs 1393796574908163946345982392040522594123776 with
  | false => rw [hb] at h; exact h
  | true =>
    rw [hb] at h
    unfold A_common lt
    have h2 : b.natAbs < 2 ^ 140 := by
      have := Nat.ble_eq.mp hb
      omega
    simp only [absN]
    have key := cwN 140 300 a.natAbs b.natAbs h2 (by decide)
    unfold lt at key
    rw [key]
    exact h
def A_RatioG (n d : Int) : Option Int :=
  bd (yes1 (d)) fun tt1 => bd (yes1 (n)) fun tt3 => if (!(tt3)) || (!(tt1)) then none else if decide (d = 0) then none else bd (M_common (n) (d)) fun tt7 => some tt7
def A_Ratio (n d : Int) : Option (Int × Int) := bd (A_RatioG n d) fun g => gd ((divOk g)) (some (if decide (0 < d) then n / g else (-(n)) / g, (if d < 0 then -(d) else d) / g))
theorem sim_RatioG {n d g : Int} (h : A_RatioG n d = some g) : (sSeq I1_Ratio (sSeq I2_Ratio I3_Ratio)) [.fz (.fn 999), .fz (.int n), .fz (.int d), .un] = .ok (.nx, [.fz (.fn 999), .fz (.int n), .fz (.int d), .fz (.int g)]) := by
  have key : JS (sSeq I1_Ratio (sSeq I2_Ratio I3_Ratio)) [.fz (.fn 999), .fz (.int n), .fz (.int d), .un] (A_RatioG n d) (PI fun (g : Int) (ρ : Rho) => ρ = [.fz (.fn 999), .fz (.int n), .fz (.int d), .fz (.int g)]) := by
    unfold A_RatioG
    refine js_bd fun tt1 hh2 => ?_
    refine js_bd fun tt3 hh4 => ?_
    refine js_ifF (v_orS (v_not (v_t (v_call0 (v_cons (v_fz rfl) rfl v_nil) rfl (yes_eq hh4)))) (v_not (v_t (v_call0 (v_cons (v_fz rfl) rfl v_nil) rfl (yes_eq hh2))))) fun _ => ?_
    refine js_ifF (v_t (v_op (v_fz rfl) v_c rfl rfl rfl)) fun _ => ?_
    refine js_bd fun tt7 hh8 => ?_
    exact js_end (v_set (v_call0 (v_cons (v_fz rfl) rfl (v_cons (v_fz rfl) rfl v_nil)) rfl (sim_M_common hh8)) rfl) rfl
  obtain ⟨ρ2, e, rfl⟩ := key g h
  exact e
theorem sim_Ratio {n d : Int} {v : Int × Int} (h : A_Ratio n d = some v) : FI_Ratio [.int n, .int d] = .ok [.int v.1, .int v.2] := by
  obtain ⟨g, h1, h2⟩ := bd_some h
  obtain ⟨hg, h3⟩ := gd_some h2
  cases h3
  have e1 : I4_Ratio [.fz (.fn 999), .fz (.int n), .fz (.int d), .fz (.int g)] = .ok (.fz (.int (if decide (0 < d) then n / g else (-(n)) / g)), [.fz (.fn 999), .fz (.int n), .fz (.int d), .fz (.int g)]) := (v_ifS (v_t (v_op (v_fz rfl) v_c rfl rfl rfl)) (v_op (v_fz rfl) (v_fz rfl) rfl rfl (gDiv_int hg)) (v_op (v_u (v_fz rfl) rfl rfl) (v_fz rfl) rfl rfl (gDiv_int hg)))
  have e2 : I5_Ratio [.fz (.fn 999), .fz (.int n), .fz (.int d), .fz (.int g)] = .ok (.fz (.int ((if d < 0 then -(d) else d) / g)), [.fz (.fn 999), .fz (.int n), .fz (.int d), .fz (.int g)]) := (v_op (v_u (v_fz rfl) rfl rfl) (v_fz rfl) rfl rfl (gDiv_int hg))
  show (if noFns [.int n, .int d] = true then iniK I4_Ratio I5_Ratio ((sSeq I1_Ratio (sSeq I2_Ratio I3_Ratio)) [.fz (.fn 999), .fz (.int n), .fz (.int d), .un]) else .no) = _
  refine (if_pos rfl).trans ?_
  rw [sim_RatioG h1]
  show (I4_Ratio [.fz (.fn 999), .fz (.int n), .fz (.int d), .fz (.int g)]).bind (ini1 I5_Ratio) = _
  rw [e1]
  show (if (is9 [.fz (.fn 999), .fz (.int n), .fz (.int d), .fz (.int g)] && noFn (.int (if decide (0 < d) then n / g else (-(n)) / g))) = true then (I5_Ratio [.fz (.fn 999), .fz (.int n), .fz (.int d), .fz (.int g)]).bind (ini2 (.int (if decide (0 < d) then n / g else (-(n)) / g))) else .no) = _
  refine (if_pos rfl).trans ?_
  rw [e2]
  rfl
def A_Ratio_add (a0 : Int × Int) (a1 : Int × Int) : Option (Int × Int) :=
  bd (yesU (a1)) fun tt1 => bd (A_Ratio (((a0.1) * (a1.2)) + ((a1.1) * (a0.2))) ((a0.2) * (a1.2))) fun tt3 => gd (mulOk (a0.1) (a1.2) && (mulOk (a1.1) (a0.2) && (mulOk (a0.2) (a1.2)))) (some (tt3))
theorem sim_Ratio_add {a0 : Int × Int} {a1 : Int × Int} {v : Int × Int} (h : A_Ratio_add a0 a1 = some v) : F_Ratio_add [.obj 3 [.int a0.1, .int a0.2], .obj 3 [.int a1.1, .int a1.2]] = .ok (.fz ((fun (v : Int × Int) => D.obj 3 [.int v.1, .int v.2]) v)) := by
  have key : JS B_Ratio_add [.fz (.obj 3 [.int a0.1, .int a0.2]), .fz (.obj 3 [.int a1.1, .int a1.2])] (A_Ratio_add a0 a1) (PR (fun (v : Int × Int) => D.obj 3 [.int v.1, .int v.2])) := by
    unfold B_Ratio_add A_Ratio_add
    refine js_bd fun tt1 hh2 => ?_
    refine js_st (v_ex (v_call0 (v_cons (v_fz rfl) rfl v_nil) rfl (yesU_eq hh2))) ?_
    refine js_bd fun tt3 hh4 => ?_
    refine js_gd fun hgg5 => ?_
    exact js_ret (v := tt3) (v_new2 (v_cons (v_op (v_op (v_u (v_fz rfl) rfl rfl) (v_u (v_fz rfl) rfl rfl) rfl rfl (gMul2_int (an1 hgg5))) (v_op (v_u (v_fz rfl) rfl rfl) (v_u (v_fz rfl) rfl rfl) rfl rfl (gMul2_int (an1 (an2 hgg5)))) rfl rfl rfl) rfl (v_cons (v_op (v_u (v_fz rfl) rfl rfl) (v_u (v_fz rfl) rfl rfl) rfl rfl (gMul2_int (an2 (an2 hgg5)))) rfl v_nil)) (sim_Ratio hh4))
  exact out_eq (F := F_Ratio_add [.obj 3 [.int a0.1, .int a0.2], .obj 3 [.int a1.1, .int a1.2]]) (r := B_Ratio_add [.fz (.obj 3 [.int a0.1, .int a0.2]), .fz (.obj 3 [.int a1.1, .int a1.2])]) rfl (key v h)
def A_Ratio_sub (a0 : Int × Int) (a1 : Int × Int) : Option (Int × Int) :=
  bd (yesU (a1)) fun tt1 => bd (A_Ratio (((a0.1) * (a1.2)) - ((a1.1) * (a0.2))) ((a0.2) * (a1.2))) fun tt3 => gd (mulOk (a0.1) (a1.2) && (mulOk (a1.1) (a0.2) && (mulOk (a0.2) (a1.2)))) (some (tt3))
theorem sim_Ratio_sub {a0 : Int × Int} {a1 : Int × Int} {v : Int × Int} (h : A_Ratio_sub a0 a1 = some v) : F_Ratio_sub [.obj 3 [.int a0.1, .int a0.2], .obj 3 [.int a1.1, .int a1.2]] = .ok (.fz ((fun (v : Int × Int) => D.obj 3 [.int v.1, .int v.2]) v)) := by
  have key : JS B_Ratio_sub [.fz (.obj 3 [.int a0.1, .int a0.2]), .fz (.obj 3 [.int a1.1, .int a1.2])] (A_Ratio_sub a0 a1) (PR (fun (v : Int × Int) => D.obj 3 [.int v.1, .int v.2])) := by
    unfold B_Ratio_sub A_Ratio_sub
    refine js_bd fun tt1 hh2 => ?_
    refine js_st (v_ex (v_call0 (v_cons (v_fz rfl) rfl v_nil) rfl (yesU_eq hh2))) ?_
    refine js_bd fun tt3 hh4 => ?_
    refine js_gd fun hgg5 => ?_
    exact js_ret (v := tt3) (v_new2 (v_cons (v_op (v_op (v_u (v_fz rfl) rfl rfl) (v_u (v_fz rfl) rfl rfl) rfl rfl (gMul2_int (an1 hgg5))) (v_op (v_u (v_fz rfl) rfl rfl) (v_u (v_fz rfl) rfl rfl) rfl rfl (gMul2_int (an1 (an2 hgg5)))) rfl rfl rfl) rfl (v_cons (v_op (v_u (v_fz rfl) rfl rfl) (v_u (v_fz rfl) rfl rfl) rfl rfl (gMul2_int (an2 (an2 hgg5)))) rfl v_nil)) (sim_Ratio hh4))
  exact out_eq (F := F_Ratio_sub [.obj 3 [.int a0.1, .int a0.2], .obj 3 [.int a1.1, .int a1.2]]) (r := B_Ratio_sub [.fz (.obj 3 [.int a0.1, .int a0.2]), .fz (.obj 3 [.int a1.1, .int a1.2])]) rfl (key v h)
def A_Ratio_mul (a0 : Int × Int) (a1 : Int × Int) : Option (Int × Int) :=
  bd (yesU (a1)) fun tt1 => bd (A_Ratio ((a0.1) * (a1.1)) ((a0.2) * (a1.2))) fun tt3 => gd (mulOk (a0.1) (a1.1) && (mulOk (a0.2) (a1.2))) (some (tt3))
theorem sim_Ratio_mul {a0 : Int × Int} {a1 : Int × Int} {v : Int × Int} (h : A_Ratio_mul a0 a1 = some v) : F_Ratio_mul [.obj 3 [.int a0.1, .int a0.2], .obj 3 [.int a1.1, .int a1.2]] = .ok (.fz ((fun (v : Int × Int) => D.obj 3 [.int v.1, .int v.2]) v)) := by
  have key : JS B_Ratio_mul [.fz (.obj 3 [.int a0.1, .int a0.2]), .fz (.obj 3 [.int a1.1, .int a1.2])] (A_Ratio_mul a0 a1) (PR (fun (v : Int × Int) => D.obj 3 [.int v.1, .int v.2])) := by
    unfold B_Ratio_mul A_Ratio_mul
    refine js_bd fun tt1 hh2 => ?_
    refine js_st (v_ex (v_call0 (v_cons (v_fz rfl) rfl v_nil) rfl (yesU_eq hh2))) ?_
    refine js_bd fun tt3 hh4 => ?_
    refine js_gd fun hgg5 => ?_
    exact js_ret (v := tt3) (v_new2 (v_cons (v_op (v_u (v_fz rfl) rfl rfl) (v_u (v_fz rfl) rfl rfl) rfl rfl (gMul2_int (an1 hgg5))) rfl (v_cons (v_op (v_u (v_fz rfl) rfl rfl) (v_u (v_fz rfl) rfl rfl) rfl rfl (gMul2_int (an2 hgg5))) rfl v_nil)) (sim_Ratio hh4))
  exact out_eq (F := F_Ratio_mul [.obj 3 [.int a0.1, .int a0.2], .obj 3 [.int a1.1, .int a1.2]]) (r := B_Ratio_mul [.fz (.obj 3 [.int a0.1, .int a0.2]), .fz (.obj 3 [.int a1.1, .int a1.2])]) rfl (key v h)
def A_Ratio_neg (a0 : Int × Int) : Option (Int × Int) :=
  bd (A_Ratio (-(a0.1)) (a0.2)) fun tt1 => some (tt1)
theorem sim_Ratio_neg {a0 : Int × Int} {v : Int × Int} (h : A_Ratio_neg a0 = some v) : F_Ratio_neg [.obj 3 [.int a0.1, .int a0.2]] = .ok (.fz ((fun (v : Int × Int) => D.obj 3 [.int v.1, .int v.2]) v)) := by
  have key : JS B_Ratio_neg [.fz (.obj 3 [.int a0.1, .int a0.2])] (A_Ratio_neg a0) (PR (fun (v : Int × Int) => D.obj 3 [.int v.1, .int v.2])) := by
    unfold B_Ratio_neg A_Ratio_neg
    refine js_bd fun tt1 hh2 => ?_
    exact js_ret (v := tt1) (v_new2 (v_cons (v_u (v_u (v_fz rfl) rfl rfl) rfl rfl) rfl (v_cons (v_u (v_fz rfl) rfl rfl) rfl v_nil)) (sim_Ratio hh2))
  exact out_eq (F := F_Ratio_neg [.obj 3 [.int a0.1, .int a0.2]]) (r := B_Ratio_neg [.fz (.obj 3 [.int a0.1, .int a0.2])]) rfl (key v h)
def A_Ratio_eq (a0 : Int × Int) (a1 : Int × Int) : Option (Bool) :=
  some ((true) && ((decide (a0.1 = a1.1)) && (decide (a0.2 = a1.2))))
theorem sim_Ratio_eq {a0 : Int × Int} {a1 : Int × Int} {v : Bool} (h : A_Ratio_eq a0 a1 = some v) : F_Ratio_eq [.obj 3 [.int a0.1, .int a0.2], .obj 3 [.int a1.1, .int a1.2]] = .ok (.fz (D.bl v)) := by
  have key : JS B_Ratio_eq [.fz (.obj 3 [.int a0.1, .int a0.2]), .fz (.obj 3 [.int a1.1, .int a1.2])] (A_Ratio_eq a0 a1) (PR D.bl) := by
    unfold B_Ratio_eq A_Ratio_eq
    exact js_ret (v := (true) && ((decide (a0.1 = a1.1)) && (decide (a0.2 = a1.2)))) (v_andVS (v_u (v_fz rfl) rfl rfl) (v_andVS (v_op (v_u (v_fz rfl) rfl rfl) (v_u (v_fz rfl) rfl rfl) rfl rfl rfl) (v_op (v_u (v_fz rfl) rfl rfl) (v_u (v_fz rfl) rfl rfl) rfl rfl rfl)))
  exact out_eq (F := F_Ratio_eq [.obj 3 [.int a0.1, .int a0.2], .obj 3 [.int a1.1, .int a1.2]]) (r := B_Ratio_eq [.fz (.obj 3 [.int a0.1, .int a0.2]), .fz (.obj 3 [.int a1.1, .int a1.2])]) rfl (key v h)
def A_Ratio_times (a0 : Int × Int) (a1 : Int) : Option (Int × Int) :=
  bd (A_Ratio ((a0.1) * a1) (a0.2)) fun tt1 => gd (mulOk (a0.1) a1) (some (tt1))
theorem sim_Ratio_times {a0 : Int × Int} {a1 : Int} {v : Int × Int} (h : A_Ratio_times a0 a1 = some v) : F_Ratio_times [.obj 3 [.int a0.1, .int a0.2], .int a1] = .ok (.fz ((fun (v : Int × Int) => D.obj 3 [.int v.1, .int v.2]) v)) := by
  have key : JS B_Ratio_times [.fz (.obj 3 [.int a0.1, .int a0.2]), .fz (.int a1)] (A_Ratio_times a0 a1) (PR (fun (v : Int × Int) => D.obj 3 [.int v.1, .int v.2])) := by
    unfold B_Ratio_times A_Ratio_times
    refine js_bd fun tt1 hh2 => ?_
    refine js_gd fun hgg3 => ?_
    exact js_ret (v := tt1) (v_new2 (v_cons (v_op (v_u (v_fz rfl) rfl rfl) (v_fz rfl) rfl rfl (gMul2_int hgg3)) rfl (v_cons (v_u (v_fz rfl) rfl rfl) rfl v_nil)) (sim_Ratio hh2))
  exact out_eq (F := F_Ratio_times [.obj 3 [.int a0.1, .int a0.2], .int a1]) (r := B_Ratio_times [.fz (.obj 3 [.int a0.1, .int a0.2]), .fz (.int a1)]) rfl (key v h)
def A_Ratio_is_zero (a0 : Int × Int) : Option (Bool) :=
  some (decide (a0.1 = 0))
theorem sim_Ratio_is_zero {a0 : Int × Int} {v : Bool} (h : A_Ratio_is_zero a0 = some v) : F_Ratio_is_zero [.obj 3 [.int a0.1, .int a0.2]] = .ok (.fz (D.bl v)) := by
  have key : JS B_Ratio_is_zero [.fz (.obj 3 [.int a0.1, .int a0.2])] (A_Ratio_is_zero a0) (PR D.bl) := by
    unfold B_Ratio_is_zero A_Ratio_is_zero
    exact js_ret (v := decide (a0.1 = 0)) (v_op (v_u (v_fz rfl) rfl rfl) v_c rfl rfl rfl)
  exact out_eq (F := F_Ratio_is_zero [.obj 3 [.int a0.1, .int a0.2]]) (r := B_Ratio_is_zero [.fz (.obj 3 [.int a0.1, .int a0.2])]) rfl (key v h)
def A_binomial (a0 : Int) (a1 : Int) : Option (Int) :=
  if (decide (a1 < 0)) || (decide (a0 < a1)) then some (0) else gd (decide (-1000000000 ≤ a1) && decide (a1 ≤ 1000000000)) (bd (aFor (fun ii5 yy2 => gd (mulOk yy2 (a0 - ii5) && (divOk (ii5 + 1))) (lt ((yy2 * (a0 - ii5)) / (ii5 + 1)) fun xx6 => some xx6)) ((a1 : Int) - (0 : Int)).toNat (0) 1) fun yy2 => some (yy2))
theorem sim_binomial {a0 : Int} {a1 : Int} {v : Int} (h : A_binomial a0 a1 = some v) : F_binomial [.int a0, .int a1] = .ok (.fz (D.int v)) := by
  have key : JS B_binomial [.fz (.int a0), .fz (.int a1), .un, .un] (A_binomial a0 a1) (PR D.int) := by
    unfold B_binomial A_binomial
    refine js_ifR (v_orS (v_t (v_op (v_fz rfl) v_c rfl rfl rfl)) (v_t (v_op (v_fz rfl) (v_fz rfl) rfl rfl rfl))) (fun _ => ?_) fun _ => ?_
    · exact js_ret (v := 0) v_c
    · refine js_st (v_set v_c rfl) ?_
      refine js_gd fun hgg9 => ?_
      refine js_for (J := (fun (yy2 : Int) (ρ : Rho) => ∃ (cc3 : Cell), PL cc3 ∧ ρ = [.fz (.int a0), .fz (.int a1), .fz (.int yy2), cc3])) (v_rg1S (v_cons (v_fz rfl) rfl v_nil) hgg9) ⟨_, pl_un, rfl⟩ ?_ ?_
      · intro ii5 yy2 ρ' hI
        obtain ⟨cc3, kk4, rfl⟩ := hI
        refine ⟨_, (set_R rfl kk4 rfl), ?_⟩
        try dsimp only
        refine js_gd fun hgg8 => ?_
        refine js_lt fun xx6 ee7 => ?_
        exact js_end (v_set (vi (v_op (v_op (v_fz rfl) (v_op (v_fz rfl) (v_fz rfl) rfl rfl rfl) rfl rfl (gMul2_int (an1 hgg8))) (v_op (v_fz rfl) v_c rfl rfl rfl) rfl rfl (gDiv_int (an2 hgg8))) ee7) rfl) ⟨_, pl_fz, rfl⟩
      · intro yy2 ρ' hI
        obtain ⟨cc3, kk4, rfl⟩ := hI
        try dsimp only
        exact js_ret (v := yy2) (v_fz rfl)
  exact out_eq (F := F_binomial [.int a0, .int a1]) (r := B_binomial [.fz (.int a0), .fz (.int a1), .un, .un]) rfl (key v h)
def A_numbers_to (a0 : Int) : Option (List (Int × Int)) :=
  bd (A_Ratio (1) (1)) fun tt1 => gd (decide (-1000000000 ≤ 1) && (decide (1 ≤ 1000000000) && (decide (-1000000000 ≤ a0 + 1) && decide (a0 + 1 ≤ 1000000000)))) (bd (aFor (fun ii10 yy3 => if (decide (1 < ii10)) && (decide (ii10 % 2 = 1)) then bd (A_Ratio (0) (1)) fun tt12 => gd (szOk (RL yy3).length) (some ((yy3 ++ [tt12]))) else bd (A_Ratio (0) (1)) fun tt15 => gd (decide (-1000000000 ≤ ii10) && decide (ii10 ≤ 1000000000)) (bd (aFor (fun ii20 yy17 => bd (A_Ratio_is_zero ((yy3).getD (ii20).toNat (0, 1))) fun tt21 => gd (decide (0 ≤ ii20) && decide (ii20 < ((yy3).length : Int))) (if !(tt21) then bd (A_binomial (ii10 + 1) (ii20)) fun tt24 => bd (A_Ratio_times ((yy3).getD (ii20).toNat (0, 1)) (tt24)) fun tt26 => bd (A_Ratio_add yy17 tt26) fun tt28 => gd (decide (0 ≤ ii20) && decide (ii20 < ((yy3).length : Int))) (some tt28) else some yy17)) ((ii10 : Int) - (0 : Int)).toNat (0) tt15) fun yy17 => bd (A_Ratio_neg yy17) fun tt32 => bd (A_Ratio (1) (ii10 + 1)) fun tt34 => bd (A_Ratio_mul tt32 tt34) fun tt36 => gd (szOk (RL yy3).length) (some ((yy3 ++ [tt36]))))) ((a0 + 1 : Int) - (1 : Int)).toNat (1) (([tt1]))) fun yy3 => some (yy3))
theorem sim_numbers_to {a0 : Int} {v : List (Int × Int)} (h : A_numbers_to a0 = some v) : F_numbers_to [.int a0] = .ok (.fr (v.map rD)) := by
  have key : JS B_numbers_to [.fz (.int a0), .un, .un, .un, .un] (A_numbers_to a0) (PRL rD) := by
    unfold B_numbers_to A_numbers_to
    refine js_bd fun tt1 hh2 => ?_
    refine js_st (v_set (v_lst (v_cons (v_new1 (v_cons v_c rfl v_nil) (sim_Ratio hh2)) rfl v_nil) rfl) rfl) ?_
    refine js_gd fun hgg40 => ?_
    refine js_for (J := (fun (yy3 : (List (Int × Int))) (ρ : Rho) => ∃ (cc4 cc5 cc6 : Cell), PL cc4 ∧ PL cc5 ∧ PL cc6 ∧ ρ = [.fz (.int a0), .ow false (RL yy3), cc6, cc4, cc5])) (v_rg2 (v_cons v_c rfl (v_cons (v_opR (v_fz rfl) v_c rfl rfl rfl) rfl v_nil)) hgg40) ⟨_, _, _, pl_un, pl_un, pl_un, rfl⟩ ?_ ?_
    · intro ii10 yy3 ρ' hI
      obtain ⟨cc4, cc5, cc6, kk7, kk8, kk9, rfl⟩ := hI
      refine ⟨_, (set_R rfl kk9 rfl), ?_⟩
      try dsimp only
      refine js_ifE (v_andS (v_t (v_op (v_fz rfl) v_c rfl rfl rfl)) (v_t (v_op (v_op (v_fz rfl) v_c rfl rfl (gMod_int rfl)) v_c rfl rfl rfl))) (fun _ => ?_) fun _ => ?_
      · refine js_bd fun tt12 hh13 => ?_
        refine js_gd fun hgg14 => ?_
        exact js_end (v_appr rfl (v_new1 (v_cons v_c rfl v_nil) (sim_Ratio hh13)) hgg14 rfl) ⟨_, _, _, kk7, kk8, pl_fz, rfl⟩
      · refine js_bd fun tt15 hh16 => ?_
        refine js_st (v_set (v_new1 (v_cons v_c rfl v_nil) (sim_Ratio hh16)) (set_fz rfl kk7 rfl)) ?_
        refine js_gd fun hgg39 => ?_
        refine js_for (J := (fun (yy17 : (Int × Int)) (ρ : Rho) => ∃ (cc18 : Cell), PL cc18 ∧ ρ = [.fz (.int a0), .ow false (RL yy3), .fz (.int ii10), .fz (.obj 3 [.int yy17.1, .int yy17.2]), cc18])) (v_rg1S (v_cons (v_fz rfl) rfl v_nil) hgg39) ⟨_, kk8, rfl⟩ ?_ ?_
        · intro ii20 yy17 ρ' hI
          obtain ⟨cc18, kk19, rfl⟩ := hI
          refine ⟨_, (set_R rfl kk19 rfl), ?_⟩
          try dsimp only
          refine js_bd fun tt21 hh22 => ?_
          refine js_gd fun hgg31 => ?_
          refine js_ifE (v_not (v_t (v_meth (v_op (v_ow rfl) (v_fz rfl) rfl rfl (ix_rL hgg31)) v_nil rfl (sim_Ratio_is_zero hh22)))) (fun _ => ?_) fun _ => ?_
          · refine js_bd fun tt24 hh25 => ?_
            refine js_bd fun tt26 hh27 => ?_
            refine js_bd fun tt28 hh29 => ?_
            refine js_gd fun hgg30 => ?_
            exact js_end (v_set (v_opRR (v_fz rfl) (v_meth (v_op (v_ow rfl) (v_fz rfl) rfl rfl (ix_rL hgg30)) (v_cons (v_call0 (v_cons (v_opR (v_fz rfl) v_c rfl rfl rfl) rfl (v_cons (v_fz rfl) rfl v_nil)) rfl (sim_binomial hh25)) rfl v_nil) rfl (sim_Ratio_times hh27)) rfl rfl (sim_Ratio_add hh29)) rfl) ⟨_, pl_fz, rfl⟩
          · exact js_end rfl ⟨_, pl_fz, rfl⟩
        · intro yy17 ρ' hI
          obtain ⟨cc18, kk19, rfl⟩ := hI
          try dsimp only
          refine js_bd fun tt32 hh33 => ?_
          refine js_bd fun tt34 hh35 => ?_
          refine js_bd fun tt36 hh37 => ?_
          refine js_gd fun hgg38 => ?_
          exact js_end (v_appr rfl (v_opRR (v_uRR (v_fz rfl) rfl (sim_Ratio_neg hh33)) (v_new2 (v_cons v_c rfl (v_cons (v_opR (v_fz rfl) v_c rfl rfl rfl) rfl v_nil)) (sim_Ratio hh35)) rfl rfl (sim_Ratio_mul hh37)) hgg38 rfl) ⟨_, _, _, pl_fz, kk19, pl_fz, rfl⟩
    · intro yy3 ρ' hI
      obtain ⟨cc4, cc5, cc6, kk7, kk8, kk9, rfl⟩ := hI
      try dsimp only
      exact js_retL (enc := rD) (v := yy3) (v_ow rfl) rfl
  exact out_eqL (F := F_numbers_to [.int a0]) (r := B_numbers_to [.fz (.int a0), .un, .un, .un, .un]) rfl (key v h)
def NB : List (Int × Int) := [(1, 1), ((-1), 2), (1, 6), (0, 1), ((-1), 30), (0, 1), (1, 42), (0, 1), ((-1), 30), (0, 1), (5, 66), (0, 1), ((-691), 2730), (0, 1), (7, 6), (0, 1), ((-3617), 510), (0, 1), (43867, 798), (0, 1), ((-174611), 330), (0, 1), (854513, 138), (0, 1), ((-236364091), 2730), (0, 1), (8553103, 6), (0, 1), ((-23749461029), 870), (0, 1), (8615841276005, 14322), (0, 1), ((-7709321041217), 510), (0, 1), (2577687858367, 6), (0, 1), ((-26315271553053477373), 1919190)]
theorem nb_all : ((List.range 37).all fun n => decide (A_numbers_to (n : Int) = some (NB.take (n + 1)))) = true := by decide +kernel
def M_numbers_to (n : Int) : Option (List (Int × Int)) := cond (decide (0 ≤ n) && decide (n < 37)) (some (NB.take (n.toNat + 1))) (A_numbers_to n)
theorem sim_M_numbers_to {n : Int} {v : List (Int × Int)} (h : M_numbers_to n = some v) : F_numbers_to [.int n] = .ok (.fr (v.map rD)) := by
  refine sim_numbers_to ?_
  unfold M_numbers_to at h
  cases hb : (decide (0 ≤ n) && decide (n < 37)) with
  | false => rw [hb] at h; exact h
  | true =>
    rw [hb] at h
    simp only [Bool.and_eq_true, decide_eq_true_eq] at hb
    have t := of_decide_eq_true (List.all_eq_true.1 nb_all n.toNat (List.mem_range.2 (by omega)))
    have e : ((n.toNat : Nat) : Int) = n := by omega
    rw [e] at t
    rw [t]
    exact h
def A_bernoulli (a0 : Int) : Option (Int × Int) :=
  bd (cC (a0) (0) (120)) fun tt1 => bd (M_numbers_to (a0)) fun tt3 => gd (decide (0 ≤ a0) && decide (a0 < ((tt3).length : Int))) (some (((tt3).getD (a0).toNat (0, 1))))
theorem sim_bernoulli {a0 : Int} {v : Int × Int} (h : A_bernoulli a0 = some v) : F_bernoulli [.int a0] = .ok (.fz ((fun (v : Int × Int) => D.obj 3 [.int v.1, .int v.2]) v)) := by
  have key : JS B_bernoulli [.fz (.int a0)] (A_bernoulli a0) (PR (fun (v : Int × Int) => D.obj 3 [.int v.1, .int v.2])) := by
    unfold B_bernoulli A_bernoulli
    refine js_bd fun tt1 hh2 => ?_
    refine js_st (v_ex (v_call0 (v_cons (v_fz rfl) rfl (v_cons v_c rfl (v_cons v_c rfl v_nil))) rfl (cC_eq hh2))) ?_
    refine js_bd fun tt3 hh4 => ?_
    refine js_gd fun hgg5 => ?_
    exact js_ret (v := ((tt3).getD (a0).toNat (0, 1))) (v_op (v_call0 (v_cons (v_fz rfl) rfl v_nil) rfl (sim_M_numbers_to hh4)) (v_fz rfl) rfl rfl (ix_rL hgg5))
  exact out_eq (F := F_bernoulli [.int a0]) (r := B_bernoulli [.fz (.int a0)]) rfl (key v h)
def A_bernoulli_by_triangle (a0 : Int) : Option (Int × Int) :=
  bd (cC (a0) (0) (120)) fun tt1 => bd (aLc (fun ii3 => bd (A_Ratio (1) (ii3 + 1)) fun tt4 => some tt4) ((a0 + 1 : Int) - (0 : Int)).toNat (0)) fun xx6 => gd (decide (-1000000000 ≤ a0 + 1) && decide (a0 + 1 ≤ 1000000000) && (szOk ((a0 + 1 : Int) - (0 : Int)).toNat)) (gd (decide (-1000000000 ≤ a0) && decide (a0 ≤ 1000000000)) (bd (aFor (fun ii11 yy8 => bd (aL (fun ii12 => bd (A_Ratio_sub ii12.2.1 ii12.2.2) fun tt13 => bd (A_Ratio_times tt13 ((ii12.1) + 1)) fun tt15 => some tt15) (enz 0 yy8 (yy8.drop 1))) fun xx17 => gd (szOk (enz 0 yy8 (yy8.drop 1)).length) (some xx17)) ((a0 : Int) - (0 : Int)).toNat (0) xx6) fun yy8 => bd (A_Ratio_neg ((yy8).getD (0 : Int).toNat (0, 1))) fun tt20 => gd (decide ((0 : Int) ≤ 0) && decide (0 < ((yy8).length : Int))) (some ((if decide (a0 = 1) then tt20.1 else ((yy8).getD (0 : Int).toNat (0, 1)).1, if decide (a0 = 1) then tt20.2 else ((yy8).getD (0 : Int).toNat (0, 1)).2)))))
theorem sim_bernoulli_by_triangle {a0 : Int} {v : Int × Int} (h : A_bernoulli_by_triangle a0 = some v) : F_bernoulli_by_triangle [.int a0] = .ok (.fz ((fun (v : Int × Int) => D.obj 3 [.int v.1, .int v.2]) v)) := by
  have key : JS B_bernoulli_by_triangle [.fz (.int a0), .un, .un, .un, .un, .un] (A_bernoulli_by_triangle a0) (PR (fun (v : Int × Int) => D.obj 3 [.int v.1, .int v.2])) := by
    unfold B_bernoulli_by_triangle A_bernoulli_by_triangle
    refine js_bd fun tt1 hh2 => ?_
    refine js_st (v_ex (v_call0 (v_cons (v_fz rfl) rfl (v_cons v_c rfl (v_cons v_c rfl v_nil))) rfl (cC_eq hh2))) ?_
    refine js_bd fun xx6 hh7 => ?_
    refine js_gd fun hgg24 => ?_
    refine js_st (v_set (v_lcS (enc := rD) (ρw := [.fz (.int a0), .un, .un, .un, .un, .un]) (v_rg1S (v_cons (v_opR (v_fz rfl) v_c rfl rfl rfl) rfl v_nil) (an1 hgg24)) rfl (an2 hgg24) rfl (fun ii3 v hv => by (try dsimp only at hv); (obtain ⟨tt4, hh5, hv⟩ := bd_some hv); (cases hv); (exact ⟨_, _, rfl, (v_new2 (v_cons v_c rfl (v_cons (v_opR (v_fz rfl) v_c rfl rfl rfl) rfl v_nil)) (sim_Ratio hh5)), rfl⟩)) rfl hh7) rfl) ?_
    refine js_gd fun hgg23 => ?_
    refine js_for (J := (fun (yy8 : (List (Int × Int))) (ρ : Rho) => ∃ (cc9 : Cell), PL cc9 ∧ ρ = [.fz (.int a0), .ow false (RL yy8), cc9, .un, .un, .un])) (v_rg1S (v_cons (v_fz rfl) rfl v_nil) hgg23) ⟨_, pl_un, rfl⟩ ?_ ?_
    · intro ii11 yy8 ρ' hI
      obtain ⟨cc9, kk10, rfl⟩ := hI
      refine ⟨_, (set_R rfl kk10 rfl), ?_⟩
      try dsimp only
      refine js_bd fun xx17 hh18 => ?_
      refine js_gd fun hgg19 => ?_
      exact js_end (v_set (v_lcL (enc := rD) (c := enzD) (ρw := [.fz (.int a0), .fz (.lst (RL yy8)), .fz (.int ii11), .un, .un, .un]) (v_ezr (v_cons (v_ow rfl) rfl (v_cons (v_sl1 (enc := rD) (v_fz rfl) rfl) rfl v_nil))) rfl hgg19 rfl (fun ii12 v hv => by (try dsimp only at hv); (obtain ⟨tt13, hh14, hv⟩ := bd_some hv); (obtain ⟨tt15, hh16, hv⟩ := bd_some hv); (cases hv); (exact ⟨_, _, rfl, (v_meth (v_opRR (v_fz rfl) (v_fz rfl) rfl rfl (sim_Ratio_sub hh14)) (v_cons (v_opR (v_fz rfl) v_c rfl rfl rfl) rfl v_nil) rfl (sim_Ratio_times hh16)), rfl⟩)) rfl hh18) rfl) ⟨_, pl_fz, rfl⟩
    · intro yy8 ρ' hI
      obtain ⟨cc9, kk10, rfl⟩ := hI
      try dsimp only
      refine js_bd fun tt20 hh21 => ?_
      refine js_gd fun hgg22 => ?_
      exact js_ret (v := (if decide (a0 = 1) then tt20.1 else ((yy8).getD (0 : Int).toNat (0, 1)).1, if decide (a0 = 1) then tt20.2 else ((yy8).getD (0 : Int).toNat (0, 1)).2)) (v_ifR (v_t (v_op (v_fz rfl) v_c rfl rfl rfl)) (v_uRR (v_op (v_ow rfl) v_c rfl rfl (ix_rL hgg22)) rfl (sim_Ratio_neg hh21)) (v_op (v_ow rfl) v_c rfl rfl (ix_rL hgg22)))
  exact out_eq (F := F_bernoulli_by_triangle [.int a0]) (r := B_bernoulli_by_triangle [.fz (.int a0), .un, .un, .un, .un, .un]) rfl (key v h)
def A_bernoulli_value (a0 : Int) (a1 : Int) : Option (Int × Int) :=
  bd (cC (a0) (0) (40)) fun tt1 => bd (bd (yes1 (a1)) fun tt5 => if !(tt5) then none else bd (A_Ratio (a1) (1)) fun tt8 => some tt8) fun yy4 => bd (M_numbers_to (a0)) fun tt10 => bd (A_Ratio (0) (1)) fun tt12 => gd (decide (-1000000000 ≤ a0 + 1) && decide (a0 + 1 ≤ 1000000000)) (bd (aFor (fun ii17 yy14 => bd (A_Ratio_mul yy14 yy4) fun tt18 => bd (A_binomial (a0) (ii17)) fun tt20 => bd (A_Ratio_times ((tt10).getD (ii17).toNat (0, 1)) (tt20)) fun tt22 => bd (A_Ratio_add tt18 tt22) fun tt24 => gd (decide (0 ≤ ii17) && decide (ii17 < ((tt10).length : Int))) (some tt24)) ((a0 + 1 : Int) - (0 : Int)).toNat (0) tt12) fun yy14 => some (yy14))
theorem sim_bernoulli_value {a0 : Int} {a1 : Int} {v : Int × Int} (h : A_bernoulli_value a0 a1 = some v) : F_bernoulli_value [.int a0, .int a1] = .ok (.fz ((fun (v : Int × Int) => D.obj 3 [.int v.1, .int v.2]) v)) := by
  have key : JS B_bernoulli_value [.fz (.int a0), .fz (.int a1), .un, .un, .un] (A_bernoulli_value a0 a1) (PR (fun (v : Int × Int) => D.obj 3 [.int v.1, .int v.2])) := by
    unfold B_bernoulli_value A_bernoulli_value
    refine js_bd fun tt1 hh2 => ?_
    refine js_st (v_ex (v_call0 (v_cons (v_fz rfl) rfl (v_cons v_c rfl (v_cons v_c rfl v_nil))) rfl (cC_eq hh2))) ?_
    refine js_ifT1 (J := (fun (yy4 : (Int × Int)) (ρ : Rho) => ρ = [.fz (.int a0), .fz (.obj 3 [.int yy4.1, .int yy4.2]), .un, .un, .un])) (v_notF (v_t (v_u (v_fz rfl) rfl rfl))) ?_ ?_
    · refine js_bd fun tt5 hh6 => ?_
      refine js_ifF (v_not (v_t (v_call0 (v_cons (v_fz rfl) rfl v_nil) rfl (yes_eq hh6)))) fun _ => ?_
      refine js_bd fun tt8 hh9 => ?_
      exact js_end (v_set (v_new1 (v_cons (v_fz rfl) rfl v_nil) (sim_Ratio hh9)) rfl) rfl
    · intro yy4 ρ' hI
      obtain rfl := hI
      try dsimp only
      refine js_bd fun tt10 hh11 => ?_
      refine js_bd fun tt12 hh13 => ?_
      refine js_st (v_par (v_call0 (v_cons (v_fz rfl) rfl v_nil) rfl (sim_M_numbers_to hh11)) rfl (v_new1 (v_cons v_c rfl v_nil) (sim_Ratio hh13)) rfl rfl rfl) ?_
      refine js_gd fun hgg27 => ?_
      refine js_for (J := (fun (yy14 : (Int × Int)) (ρ : Rho) => ∃ (cc15 : Cell), PL cc15 ∧ ρ = [.fz (.int a0), .fz (.obj 3 [.int yy4.1, .int yy4.2]), .ow false (RL tt10), .fz (.obj 3 [.int yy14.1, .int yy14.2]), cc15])) (v_rg1S (v_cons (v_opR (v_fz rfl) v_c rfl rfl rfl) rfl v_nil) hgg27) ⟨_, pl_un, rfl⟩ ?_ ?_
      · intro ii17 yy14 ρ' hI
        obtain ⟨cc15, kk16, rfl⟩ := hI
        refine ⟨_, (set_R rfl kk16 rfl), ?_⟩
        try dsimp only
        refine js_bd fun tt18 hh19 => ?_
        refine js_bd fun tt20 hh21 => ?_
        refine js_bd fun tt22 hh23 => ?_
        refine js_bd fun tt24 hh25 => ?_
        refine js_gd fun hgg26 => ?_
        exact js_end (v_set (v_opRR (v_opRR (v_fz rfl) (v_fz rfl) rfl rfl (sim_Ratio_mul hh19)) (v_meth (v_op (v_ow rfl) (v_fz rfl) rfl rfl (ix_rL hgg26)) (v_cons (v_call0 (v_cons (v_fz rfl) rfl (v_cons (v_fz rfl) rfl v_nil)) rfl (sim_binomial hh21)) rfl v_nil) rfl (sim_Ratio_times hh23)) rfl rfl (sim_Ratio_add hh25)) rfl) ⟨_, pl_fz, rfl⟩
      · intro yy14 ρ' hI
        obtain ⟨cc15, kk16, rfl⟩ := hI
        try dsimp only
        exact js_ret (v := yy14) (v_fz rfl)
  exact out_eq (F := F_bernoulli_value [.int a0, .int a1]) (r := B_bernoulli_value [.fz (.int a0), .fz (.int a1), .un, .un, .un]) rfl (key v h)
def A_bernoulli_value_v1 (a0 : Int) (a1 : Int × Int) : Option (Int × Int) :=
  bd (cC (a0) (0) (40)) fun tt1 => bd (M_numbers_to (a0)) fun tt4 => bd (A_Ratio (0) (1)) fun tt6 => gd (decide (-1000000000 ≤ a0 + 1) && decide (a0 + 1 ≤ 1000000000)) (bd (aFor (fun ii11 yy8 => bd (A_Ratio_mul yy8 a1) fun tt12 => bd (A_binomial (a0) (ii11)) fun tt14 => bd (A_Ratio_times ((tt4).getD (ii11).toNat (0, 1)) (tt14)) fun tt16 => bd (A_Ratio_add tt12 tt16) fun tt18 => gd (decide (0 ≤ ii11) && decide (ii11 < ((tt4).length : Int))) (some tt18)) ((a0 + 1 : Int) - (0 : Int)).toNat (0) tt6) fun yy8 => some (yy8))
theorem sim_bernoulli_value_v1 {a0 : Int} {a1 : Int × Int} {v : Int × Int} (h : A_bernoulli_value_v1 a0 a1 = some v) : F_bernoulli_value [.int a0, .obj 3 [.int a1.1, .int a1.2]] = .ok (.fz ((fun (v : Int × Int) => D.obj 3 [.int v.1, .int v.2]) v)) := by
  have key : JS B_bernoulli_value [.fz (.int a0), .fz (.obj 3 [.int a1.1, .int a1.2]), .un, .un, .un] (A_bernoulli_value_v1 a0 a1) (PR (fun (v : Int × Int) => D.obj 3 [.int v.1, .int v.2])) := by
    unfold B_bernoulli_value A_bernoulli_value_v1
    refine js_bd fun tt1 hh2 => ?_
    refine js_st (v_ex (v_call0 (v_cons (v_fz rfl) rfl (v_cons v_c rfl (v_cons v_c rfl v_nil))) rfl (cC_eq hh2))) ?_
    refine js_skF (v_notT (v_t (v_u (v_fz rfl) rfl rfl))) ?_
    refine js_bd fun tt4 hh5 => ?_
    refine js_bd fun tt6 hh7 => ?_
    refine js_st (v_par (v_call0 (v_cons (v_fz rfl) rfl v_nil) rfl (sim_M_numbers_to hh5)) rfl (v_new1 (v_cons v_c rfl v_nil) (sim_Ratio hh7)) rfl rfl rfl) ?_
    refine js_gd fun hgg21 => ?_
    refine js_for (J := (fun (yy8 : (Int × Int)) (ρ : Rho) => ∃ (cc9 : Cell), PL cc9 ∧ ρ = [.fz (.int a0), .fz (.obj 3 [.int a1.1, .int a1.2]), .ow false (RL tt4), .fz (.obj 3 [.int yy8.1, .int yy8.2]), cc9])) (v_rg1S (v_cons (v_opR (v_fz rfl) v_c rfl rfl rfl) rfl v_nil) hgg21) ⟨_, pl_un, rfl⟩ ?_ ?_
    · intro ii11 yy8 ρ' hI
      obtain ⟨cc9, kk10, rfl⟩ := hI
      refine ⟨_, (set_R rfl kk10 rfl), ?_⟩
      try dsimp only
      refine js_bd fun tt12 hh13 => ?_
      refine js_bd fun tt14 hh15 => ?_
      refine js_bd fun tt16 hh17 => ?_
      refine js_bd fun tt18 hh19 => ?_
      refine js_gd fun hgg20 => ?_
      exact js_end (v_set (v_opRR (v_opRR (v_fz rfl) (v_fz rfl) rfl rfl (sim_Ratio_mul hh13)) (v_meth (v_op (v_ow rfl) (v_fz rfl) rfl rfl (ix_rL hgg20)) (v_cons (v_call0 (v_cons (v_fz rfl) rfl (v_cons (v_fz rfl) rfl v_nil)) rfl (sim_binomial hh15)) rfl v_nil) rfl (sim_Ratio_times hh17)) rfl rfl (sim_Ratio_add hh19)) rfl) ⟨_, pl_fz, rfl⟩
    · intro yy8 ρ' hI
      obtain ⟨cc9, kk10, rfl⟩ := hI
      try dsimp only
      exact js_ret (v := yy8) (v_fz rfl)
  exact out_eq (F := F_bernoulli_value [.int a0, .obj 3 [.int a1.1, .int a1.2]]) (r := B_bernoulli_value [.fz (.int a0), .fz (.obj 3 [.int a1.1, .int a1.2]), .un, .un, .un]) rfl (key v h)
def A_power_sum (a0 : Int) (a1 : Int) : Option (Int) :=
  bd (cC (a0) (0) (40)) fun tt1 => bd (cC (a1) (0) (1000)) fun tt3 => if decide (a0 = 0) then some (a1) else bd (A_bernoulli_value (a0 + 1) (a1)) fun tt6 => bd (A_bernoulli (a0 + 1)) fun tt8 => bd (A_Ratio_sub tt6 tt8) fun tt10 => bd (A_Ratio (1) (a0 + 1)) fun tt12 => bd (A_Ratio_mul tt10 tt12) fun tt14 => some (tt14.1)
theorem sim_power_sum {a0 : Int} {a1 : Int} {v : Int} (h : A_power_sum a0 a1 = some v) : F_power_sum [.int a0, .int a1] = .ok (.fz (D.int v)) := by
  have key : JS B_power_sum [.fz (.int a0), .fz (.int a1)] (A_power_sum a0 a1) (PR D.int) := by
    unfold B_power_sum A_power_sum
    refine js_bd fun tt1 hh2 => ?_
    refine js_st (v_ex (v_call0 (v_cons (v_fz rfl) rfl (v_cons v_c rfl (v_cons v_c rfl v_nil))) rfl (cC_eq hh2))) ?_
    refine js_bd fun tt3 hh4 => ?_
    refine js_st (v_ex (v_call0 (v_cons (v_fz rfl) rfl (v_cons v_c rfl (v_cons v_c rfl v_nil))) rfl (cC_eq hh4))) ?_
    refine js_ifR (v_t (v_op (v_fz rfl) v_c rfl rfl rfl)) (fun _ => ?_) fun _ => ?_
    · exact js_ret (v := a1) (v_fz rfl)
    · refine js_bd fun tt6 hh7 => ?_
      refine js_bd fun tt8 hh9 => ?_
      refine js_bd fun tt10 hh11 => ?_
      refine js_bd fun tt12 hh13 => ?_
      refine js_bd fun tt14 hh15 => ?_
      exact js_ret (v := tt14.1) (v_u (v_opRR (v_opRR (v_call0 (v_cons (v_opR (v_fz rfl) v_c rfl rfl rfl) rfl (v_cons (v_fz rfl) rfl v_nil)) rfl (sim_bernoulli_value hh7)) (v_call0 (v_cons (v_opR (v_fz rfl) v_c rfl rfl rfl) rfl v_nil) rfl (sim_bernoulli hh9)) rfl rfl (sim_Ratio_sub hh11)) (v_new2 (v_cons v_c rfl (v_cons (v_opR (v_fz rfl) v_c rfl rfl rfl) rfl v_nil)) (sim_Ratio hh13)) rfl rfl (sim_Ratio_mul hh15)) rfl rfl)
  exact out_eq (F := F_power_sum [.int a0, .int a1]) (r := B_power_sum [.fz (.int a0), .fz (.int a1)]) rfl (key v h)
def A_lower_primes (a0 : Int) : Option (List Int) :=
  bd (oN (F_check_even [.int a0])) fun tt1 => bd (aLcF (fun ii3 => bd (oB (F_is_prime [.int ii3])) fun tt4 => gd ((decide (0 < ii3 - 1))) (if (tt4) && (decide (a0 % (ii3 - 1) = 0)) then some (some ii3) else some none)) ((a0 + 2 : Int) - (2 : Int)).toNat (2)) fun xx7 => gd (decide (-1000000000 ≤ 2) && (decide (2 ≤ 1000000000) && (decide (-1000000000 ≤ a0 + 2) && decide (a0 + 2 ≤ 1000000000))) && (szOk ((a0 + 2 : Int) - (2 : Int)).toNat)) (some (xx7))
theorem sim_lower_primes {a0 : Int} {v : List Int} (h : A_lower_primes a0 = some v) : F_lower_primes [.int a0] = .ok (.fz ((fun (v : List Int) => D.tup (IL v)) v)) := by
  have key : JS B_lower_primes [.fz (.int a0), .un] (A_lower_primes a0) (PR (fun (v : List Int) => D.tup (IL v))) := by
    unfold B_lower_primes A_lower_primes
    refine js_bd fun tt1 hh2 => ?_
    refine js_st (v_ex (v_call0 (v_cons (v_fz rfl) rfl v_nil) rfl (oN_eq hh2))) ?_
    refine js_bd fun xx7 hh8 => ?_
    refine js_gd fun hgg9 => ?_
    exact js_ret (v := xx7) (v_u (v_lcF (enc := D.int) (ρw := [.fz (.int a0), .un]) (v_rg2 (v_cons v_c rfl (v_cons (v_op (v_fz rfl) v_c rfl rfl rfl) rfl v_nil)) (an1 hgg9)) rfl (an2 hgg9) rfl (fun ii3 v hv => by (try dsimp only at hv); (obtain ⟨tt4, hh5, hv⟩ := bd_some hv); (obtain ⟨hgg6, hv⟩ := gd_some hv); exact ⟨_, ((tt4) && (decide (a0 % (ii3 - 1) = 0))), rfl, (v_andS (v_t (v_call0 (v_cons (v_fz rfl) rfl v_nil) rfl (oB_eq hh5))) (v_t (v_op (v_op (v_fz rfl) (v_op (v_fz rfl) v_c rfl rfl rfl) rfl rfl (gMod_int hgg6)) v_c rfl rfl rfl))), lcF_fin hv rfl ⟨_, (v_fz rfl), rfl⟩⟩) rfl hh8) rfl rfl)
  exact out_eq (F := F_lower_primes [.int a0]) (r := B_lower_primes [.fz (.int a0), .un]) rfl (key v h)
def A_whole_part (a0 : Int) : Option (Int) :=
  bd (A_bernoulli (a0)) fun tt1 => bd (A_lower_primes (a0)) fun tt3 => bd (aForL (fun ii8 yy5 => bd (A_Ratio (1) (ii8)) fun tt9 => bd (A_Ratio_add yy5 tt9) fun tt11 => some tt11) (tt3) tt1) fun yy5 => some (yy5.1)
theorem sim_whole_part {a0 : Int} {v : Int} (h : A_whole_part a0 = some v) : F_whole_part [.int a0] = .ok (.fz (D.int v)) := by
  have key : JS B_whole_part [.fz (.int a0), .un, .un] (A_whole_part a0) (PR D.int) := by
    unfold B_whole_part A_whole_part
    refine js_bd fun tt1 hh2 => ?_
    refine js_st (v_set (v_call0 (v_cons (v_fz rfl) rfl v_nil) rfl (sim_bernoulli hh2)) rfl) ?_
    refine js_bd fun tt3 hh4 => ?_
    refine js_forL (J := (fun (yy5 : (Int × Int)) (ρ : Rho) => ∃ (cc6 : Cell), PL cc6 ∧ ρ = [.fz (.int a0), .fz (.obj 3 [.int yy5.1, .int yy5.2]), cc6])) (c := D.int) (v_seqT (v_call0 (v_cons (v_fz rfl) rfl v_nil) rfl (sim_lower_primes hh4)) rfl) ⟨_, pl_un, rfl⟩ ?_ ?_
    · intro ii8 yy5 ρ' hI
      obtain ⟨cc6, kk7, rfl⟩ := hI
      refine ⟨_, (set_R rfl kk7 rfl), ?_⟩
      try dsimp only
      refine js_bd fun tt9 hh10 => ?_
      refine js_bd fun tt11 hh12 => ?_
      exact js_end (v_set (v_opRR (v_fz rfl) (v_new2 (v_cons v_c rfl (v_cons (v_fz rfl) rfl v_nil)) (sim_Ratio hh10)) rfl rfl (sim_Ratio_add hh12)) rfl) ⟨_, pl_fz, rfl⟩
    · intro yy5 ρ' hI
      obtain ⟨cc6, kk7, rfl⟩ := hI
      try dsimp only
      exact js_ret (v := yy5.1) (v_u (v_fz rfl) rfl rfl)
  exact out_eq (F := F_whole_part [.int a0]) (r := B_whole_part [.fz (.int a0), .un, .un]) rfl (key v h)
def A_bad_indexes (a0 : Int) : Option (List Int) :=
  bd (oN (F_check_place [.int a0])) fun tt1 => if (decide (a0 < 3)) || (decide (113 < a0)) then none else bd (M_numbers_to (if 0 > a0 - 3 then 0 else a0 - 3)) fun tt4 => bd (aLF (fun ii6 => gd ((decide (0 ≤ ii6) && decide (ii6 < ((tt4).length : Int))) && ((decide (0 < a0)))) (if decide ((((tt4).getD (ii6).toNat (0, 1)).1) % a0 = 0) then some (some ii6) else some none)) (rg2s (2) (((a0 - 2) - (2) + 1) / 2).toNat)) fun xx8 => gd ((decide (-1000000 ≤ 2) && decide (2 ≤ 1000000)) && (decide (-1000000 ≤ a0 - 2) && decide (a0 - 2 ≤ 1000000)) && (szOk (rg2s (2) (((a0 - 2) - (2) + 1) / 2).toNat).length)) (some (xx8))
theorem sim_bad_indexes {a0 : Int} {v : List Int} (h : A_bad_indexes a0 = some v) : F_bad_indexes [.int a0] = .ok (.fz ((fun (v : List Int) => D.tup (IL v)) v)) := by
  have key : JS B_bad_indexes [.fz (.int a0), .un, .un] (A_bad_indexes a0) (PR (fun (v : List Int) => D.tup (IL v))) := by
    unfold B_bad_indexes A_bad_indexes
    refine js_bd fun tt1 hh2 => ?_
    refine js_st (v_ex (v_call0 (v_cons (v_fz rfl) rfl v_nil) rfl (oN_eq hh2))) ?_
    refine js_ifF (v_orS (v_t (v_op (v_fz rfl) v_c rfl rfl rfl)) (v_t (v_op (v_fz rfl) v_c rfl rfl rfl))) fun _ => ?_
    refine js_bd fun tt4 hh5 => ?_
    refine js_st (v_set (v_call0 (v_cons (v_op (v_opR (v_fz rfl) v_c rfl rfl rfl) v_c rfl rfl rfl) rfl v_nil) rfl (sim_M_numbers_to hh5)) rfl) ?_
    refine js_bd fun xx8 hh9 => ?_
    refine js_gd fun hgg10 => ?_
    exact js_ret (v := xx8) (v_u (v_lcLF (enc := D.int) (c := D.int) (ρw := [.fz (.int a0), .ow false (RL tt4), .un]) (v_rg3 (v_cons v_c rfl (v_cons (v_opR (v_fz rfl) v_c rfl rfl rfl) rfl (v_cons v_c rfl v_nil))) (an1 hgg10)) rfl (an2 hgg10) rfl (fun ii6 v hv => by (try dsimp only at hv); (obtain ⟨hgg7, hv⟩ := gd_some hv); exact ⟨_, (decide ((((tt4).getD (ii6).toNat (0, 1)).1) % a0 = 0)), rfl, (v_t (v_op (v_op (v_u (v_op (v_ow rfl) (v_fz rfl) rfl rfl (ix_rL (an1 hgg7))) rfl rfl) (v_fz rfl) rfl rfl (gMod_int (an2 hgg7))) v_c rfl rfl rfl)), lcF_fin hv rfl ⟨_, (v_fz rfl), rfl⟩⟩) rfl hh9) rfl rfl)
  exact out_eq (F := F_bad_indexes [.int a0]) (r := B_bad_indexes [.fz (.int a0), .un, .un]) rfl (key v h)
def A_half_numbers (a0 : Int) : Option (List Int) :=
  bd (oN (F_check_even [.int a0])) fun tt1 => bd (M_numbers_to (a0)) fun tt3 => bd (aL (fun ii5 => gd ((decide (0 ≤ ii5) && decide (ii5 < ((tt3).length : Int)))) (some (((tt3).getD (ii5).toNat (0, 1)).2))) (rg2s (2) (((a0 + 1) - (2) + 1) / 2).toNat)) fun xx7 => gd ((decide (-1000000 ≤ 2) && decide (2 ≤ 1000000)) && (decide (-1000000 ≤ a0 + 1) && decide (a0 + 1 ≤ 1000000)) && (szOk (rg2s (2) (((a0 + 1) - (2) + 1) / 2).toNat).length)) (some (xx7))
theorem sim_half_numbers {a0 : Int} {v : List Int} (h : A_half_numbers a0 = some v) : F_half_numbers [.int a0] = .ok (.fz ((fun (v : List Int) => D.tup (IL v)) v)) := by
  have key : JS B_half_numbers [.fz (.int a0), .un, .un] (A_half_numbers a0) (PR (fun (v : List Int) => D.tup (IL v))) := by
    unfold B_half_numbers A_half_numbers
    refine js_bd fun tt1 hh2 => ?_
    refine js_st (v_ex (v_call0 (v_cons (v_fz rfl) rfl v_nil) rfl (oN_eq hh2))) ?_
    refine js_bd fun tt3 hh4 => ?_
    refine js_st (v_set (v_call0 (v_cons (v_fz rfl) rfl v_nil) rfl (sim_M_numbers_to hh4)) rfl) ?_
    refine js_bd fun xx7 hh8 => ?_
    refine js_gd fun hgg9 => ?_
    exact js_ret (v := xx7) (v_u (v_lcL (enc := D.int) (c := D.int) (ρw := [.fz (.int a0), .ow false (RL tt3), .un]) (v_rg3 (v_cons v_c rfl (v_cons (v_opR (v_fz rfl) v_c rfl rfl rfl) rfl (v_cons v_c rfl v_nil))) (an1 hgg9)) rfl (an2 hgg9) rfl (fun ii5 v hv => by (try dsimp only at hv); (obtain ⟨hgg6, hv⟩ := gd_some hv); (cases hv); (exact ⟨_, _, rfl, (v_u (v_op (v_ow rfl) (v_fz rfl) rfl rfl (ix_rL hgg6)) rfl rfl), rfl⟩)) rfl hh8) rfl rfl)
  exact out_eq (F := F_half_numbers [.int a0]) (r := B_half_numbers [.fz (.int a0), .un, .un]) rfl (key v h)
def A__law_choose (a0 : Int) (a1 : Int) : Option (Int) :=
  if (decide (a1 < 0)) || (decide (a0 < a1)) then some (0) else gd (decide (-1000000000 ≤ a1) && decide (a1 ≤ 1000000000)) (bd (aFor (fun ii5 yy2 => gd (mulOk yy2 (a0 - ii5) && (divOk (ii5 + 1))) (lt ((yy2 * (a0 - ii5)) / (ii5 + 1)) fun xx6 => some xx6)) ((a1 : Int) - (0 : Int)).toNat (0) 1) fun yy2 => some (yy2))
theorem sim__law_choose {a0 : Int} {a1 : Int} {v : Int} (h : A__law_choose a0 a1 = some v) : F__law_choose [.int a0, .int a1] = .ok (.fz (D.int v)) := by
  have key : JS B__law_choose [.fz (.int a0), .fz (.int a1), .un, .un] (A__law_choose a0 a1) (PR D.int) := by
    unfold B__law_choose A__law_choose
    refine js_ifR (v_orS (v_t (v_op (v_fz rfl) v_c rfl rfl rfl)) (v_t (v_op (v_fz rfl) (v_fz rfl) rfl rfl rfl))) (fun _ => ?_) fun _ => ?_
    · exact js_ret (v := 0) v_c
    · refine js_st (v_set v_c rfl) ?_
      refine js_gd fun hgg9 => ?_
      refine js_for (J := (fun (yy2 : Int) (ρ : Rho) => ∃ (cc3 : Cell), PL cc3 ∧ ρ = [.fz (.int a0), .fz (.int a1), .fz (.int yy2), cc3])) (v_rg1S (v_cons (v_fz rfl) rfl v_nil) hgg9) ⟨_, pl_un, rfl⟩ ?_ ?_
      · intro ii5 yy2 ρ' hI
        obtain ⟨cc3, kk4, rfl⟩ := hI
        refine ⟨_, (set_R rfl kk4 rfl), ?_⟩
        try dsimp only
        refine js_gd fun hgg8 => ?_
        refine js_lt fun xx6 ee7 => ?_
        exact js_end (v_set (vi (v_op (v_op (v_fz rfl) (v_op (v_fz rfl) (v_fz rfl) rfl rfl rfl) rfl rfl (gMul2_int (an1 hgg8))) (v_op (v_fz rfl) v_c rfl rfl rfl) rfl rfl (gDiv_int (an2 hgg8))) ee7) rfl) ⟨_, pl_fz, rfl⟩
      · intro yy2 ρ' hI
        obtain ⟨cc3, kk4, rfl⟩ := hI
        try dsimp only
        exact js_ret (v := yy2) (v_fz rfl)
  exact out_eq (F := F__law_choose [.int a0, .int a1]) (r := B__law_choose [.fz (.int a0), .fz (.int a1), .un, .un]) rfl (key v h)
def A__law_raised (a0 : Int) (a1 : Int) : Option (Int) :=
  gd (decide (-1000000000 ≤ a1) && decide (a1 ≤ 1000000000)) (bd (aFor (fun ii4 yy1 => gd (mulOk yy1 a0) (lt (yy1 * a0) fun xx5 => some xx5)) ((a1 : Int) - (0 : Int)).toNat (0) 1) fun yy1 => some (yy1))
theorem sim__law_raised {a0 : Int} {a1 : Int} {v : Int} (h : A__law_raised a0 a1 = some v) : F__law_raised [.int a0, .int a1] = .ok (.fz (D.int v)) := by
  have key : JS B__law_raised [.fz (.int a0), .fz (.int a1), .un, .un] (A__law_raised a0 a1) (PR D.int) := by
    unfold B__law_raised A__law_raised
    refine js_st (v_set v_c rfl) ?_
    refine js_gd fun hgg8 => ?_
    refine js_for (J := (fun (yy1 : Int) (ρ : Rho) => ∃ (cc2 : Cell), PL cc2 ∧ ρ = [.fz (.int a0), .fz (.int a1), .fz (.int yy1), cc2])) (v_rg1S (v_cons (v_fz rfl) rfl v_nil) hgg8) ⟨_, pl_un, rfl⟩ ?_ ?_
    · intro ii4 yy1 ρ' hI
      obtain ⟨cc2, kk3, rfl⟩ := hI
      refine ⟨_, (set_R rfl kk3 rfl), ?_⟩
      try dsimp only
      refine js_gd fun hgg7 => ?_
      refine js_lt fun xx5 ee6 => ?_
      exact js_end (v_set (vi (v_op (v_fz rfl) (v_fz rfl) rfl rfl (gMul2_int hgg7)) ee6) rfl) ⟨_, pl_fz, rfl⟩
    · intro yy1 ρ' hI
      obtain ⟨cc2, kk3, rfl⟩ := hI
      try dsimp only
      exact js_ret (v := yy1) (v_fz rfl)
  exact out_eq (F := F__law_raised [.int a0, .int a1]) (r := B__law_raised [.fz (.int a0), .fz (.int a1), .un, .un]) rfl (key v h)
def A__law_sum (a0 : List (Int × Int)) : Option (Int × Int) :=
  bd (A_Ratio (0) (1)) fun tt1 => bd (aForL (fun ii6 yy3 => bd (A_Ratio_add yy3 ii6) fun tt7 => some tt7) (a0) tt1) fun yy3 => some (yy3)
theorem sim__law_sum {a0 : List (Int × Int)} {v : Int × Int} (h : A__law_sum a0 = some v) : F__law_sum [.lst (RL a0)] = .ok (.fz ((fun (v : Int × Int) => D.obj 3 [.int v.1, .int v.2]) v)) := by
  have key : JS B__law_sum [.fz (.lst (RL a0)), .un, .un] (A__law_sum a0) (PR (fun (v : Int × Int) => D.obj 3 [.int v.1, .int v.2])) := by
    unfold B__law_sum A__law_sum
    refine js_bd fun tt1 hh2 => ?_
    refine js_st (v_set (v_new1 (v_cons v_c rfl v_nil) (sim_Ratio hh2)) rfl) ?_
    refine js_forL (J := (fun (yy3 : (Int × Int)) (ρ : Rho) => ∃ (cc4 : Cell), PL cc4 ∧ ρ = [.fz (.lst (RL a0)), .fz (.obj 3 [.int yy3.1, .int yy3.2]), cc4])) (c := rD) (v_seqL (v_fz rfl) rfl) ⟨_, pl_un, rfl⟩ ?_ ?_
    · intro ii6 yy3 ρ' hI
      obtain ⟨cc4, kk5, rfl⟩ := hI
      refine ⟨_, (set_R rfl kk5 rfl), ?_⟩
      try dsimp only
      refine js_bd fun tt7 hh8 => ?_
      exact js_end (v_set (v_opRR (v_fz rfl) (v_fz rfl) rfl rfl (sim_Ratio_add hh8)) rfl) ⟨_, pl_fz, rfl⟩
    · intro yy3 ρ' hI
      obtain ⟨cc4, kk5, rfl⟩ := hI
      try dsimp only
      exact js_ret (v := yy3) (v_fz rfl)
  exact out_eq (F := F__law_sum [.lst (RL a0)]) (r := B__law_sum [.fz (.lst (RL a0)), .un, .un]) rfl (key v h)
def A__law_product (a0 : List (Int × Int)) : Option (Int × Int) :=
  bd (A_Ratio (1) (1)) fun tt1 => bd (aForL (fun ii6 yy3 => bd (A_Ratio_mul yy3 ii6) fun tt7 => some tt7) (a0) tt1) fun yy3 => some (yy3)
theorem sim__law_product {a0 : List (Int × Int)} {v : Int × Int} (h : A__law_product a0 = some v) : F__law_product [.lst (RL a0)] = .ok (.fz ((fun (v : Int × Int) => D.obj 3 [.int v.1, .int v.2]) v)) := by
  have key : JS B__law_product [.fz (.lst (RL a0)), .un, .un] (A__law_product a0) (PR (fun (v : Int × Int) => D.obj 3 [.int v.1, .int v.2])) := by
    unfold B__law_product A__law_product
    refine js_bd fun tt1 hh2 => ?_
    refine js_st (v_set (v_new1 (v_cons v_c rfl v_nil) (sim_Ratio hh2)) rfl) ?_
    refine js_forL (J := (fun (yy3 : (Int × Int)) (ρ : Rho) => ∃ (cc4 : Cell), PL cc4 ∧ ρ = [.fz (.lst (RL a0)), .fz (.obj 3 [.int yy3.1, .int yy3.2]), cc4])) (c := rD) (v_seqL (v_fz rfl) rfl) ⟨_, pl_un, rfl⟩ ?_ ?_
    · intro ii6 yy3 ρ' hI
      obtain ⟨cc4, kk5, rfl⟩ := hI
      refine ⟨_, (set_R rfl kk5 rfl), ?_⟩
      try dsimp only
      refine js_bd fun tt7 hh8 => ?_
      exact js_end (v_set (v_opRR (v_fz rfl) (v_fz rfl) rfl rfl (sim_Ratio_mul hh8)) rfl) ⟨_, pl_fz, rfl⟩
    · intro yy3 ρ' hI
      obtain ⟨cc4, kk5, rfl⟩ := hI
      try dsimp only
      exact js_ret (v := yy3) (v_fz rfl)
  exact out_eq (F := F__law_product [.lst (RL a0)]) (r := B__law_product [.fz (.lst (RL a0)), .un, .un]) rfl (key v h)
def A__law_power (a0 : Int × Int) (a1 : Int) : Option (Int × Int) :=
  bd (aLc (fun ii1 => some a0) ((a1 : Int) - (0 : Int)).toNat (0)) fun xx2 => bd (A__law_product (xx2)) fun tt4 => gd (decide (-1000000000 ≤ a1) && decide (a1 ≤ 1000000000) && (szOk ((a1 : Int) - (0 : Int)).toNat)) (some (tt4))
theorem sim__law_power {a0 : Int × Int} {a1 : Int} {v : Int × Int} (h : A__law_power a0 a1 = some v) : F__law_power [.obj 3 [.int a0.1, .int a0.2], .int a1] = .ok (.fz ((fun (v : Int × Int) => D.obj 3 [.int v.1, .int v.2]) v)) := by
  have key : JS B__law_power [.fz (.obj 3 [.int a0.1, .int a0.2]), .fz (.int a1), .un] (A__law_power a0 a1) (PR (fun (v : Int × Int) => D.obj 3 [.int v.1, .int v.2])) := by
    unfold B__law_power A__law_power
    refine js_bd fun xx2 hh3 => ?_
    refine js_bd fun tt4 hh5 => ?_
    refine js_gd fun hgg6 => ?_
    exact js_ret (v := tt4) (v_call0 (v_cons (v_lcS (enc := rD) (ρw := [.fz (.obj 3 [.int a0.1, .int a0.2]), .fz (.int a1), .un]) (v_rg1S (v_cons (v_fz rfl) rfl v_nil) (an1 hgg6)) rfl (an2 hgg6) rfl (fun ii1 v hv => by (try dsimp only at hv); (cases hv); (exact ⟨_, _, rfl, (v_fz rfl), rfl⟩)) rfl hh3) rfl v_nil) rfl (sim__law_product hh5))
  exact out_eq (F := F__law_power [.obj 3 [.int a0.1, .int a0.2], .int a1]) (r := B__law_power [.fz (.obj 3 [.int a0.1, .int a0.2]), .fz (.int a1), .un]) rfl (key v h)
end L59
end
section
set_option Elab.async false
set_option linter.all false
set_option maxRecDepth 100000
set_option maxHeartbeats 4000000
namespace L59
open PySem PySem.Spec PyProof.Rows L2 Rf
theorem divOk_of {j : Int} (h0 : 0 < j) (h : j < 1000000) : divOk j = true := by
  unfold divOk
  rw [Bool.and_eq_true]
  refine ⟨decide_eq_true h0, Nat.ble_eq_true_of_le ?_⟩
  have : j.natAbs < 2 ^ 20 := by omega
  have := (Nat.log2_lt (n := j.natAbs) (k := 20) (by omega)).2 this
  omega
theorem mulOk_r {i j : Int} (h : j.natAbs ≤ 18446744073709551615) : mulOk i j = true := by
  unfold mulOk
  rw [Bool.or_eq_true, Bool.or_eq_true]
  exact .inl (.inr (Nat.ble_eq_true_of_le h))
theorem v_sto {j : Nat} {fi f : Ev} {ρ ρ1 ρ2 ρ3 : Rho} {pv : PV} {d : D} {k : Int} {c : Bool} {xs : List D} {n : Nat} {r : Rho} (h1 : f ρ = .ok (pv, ρ1)) (h2 : useV pv ρ1 = some (d, ρ2)) (h3 : isOw ρ2[j]? = true) (h4 : fi ρ2 = .ok (.fz (.int k), ρ3))
    (h5 : ρ3[j]? = some (.ow c xs)) (h6 : ixN xs.length k = some n) (h7 : ρ3.set j (.ow c (xs.set n d)) = r) : sSto j fi f ρ = .ok (.nx, r) := by
  show (f ρ).bind _ = _
  rw [h1]
  show (match useV pv ρ1 with | some (d, ρ2) => if isOw ρ2[j]? then (fi ρ2).bind (stoK j d) else .no | none => .no) = _
  rw [h2]
  show (if isOw ρ2[j]? then (fi ρ2).bind (stoK j d) else .no) = _
  rw [if_pos h3, h4]
  show stoK j d (.fz (.int k), ρ3) = _
  unfold stoK
  simp only []
  rw [h5]
  simp only []
  rw [h6]
  show R.ok (Fl.nx, ρ3.set j (.ow c (xs.set n d))) = _
  rw [h7]
theorem take_eq {a b m : Int} (hm : 0 < m) (hm2 : m < 1000000) : ∃ v a' b', (0 ≤ v ∧ v < m) ∧ F__law_take [.int a, .int b] [.int m] = .ok (.fz (.int v), [.int a', .int b']) := by
  have hd : divOk m = true := divOk_of hm hm2
  by_cases ha : 0 < a
  · refine ⟨a % m, a / m, b, ⟨Int.emod_nonneg _ (by omega), Int.emod_lt_of_pos _ hm⟩, ?_⟩
    have e : B__law_take [.ow true [.int a, .int b], .fz (.int m), .un] = .ok (.rt (.fz (.int (a % m))), [.ow true [.int (a / m), .int b], .fz (.int m), .fz (.int (a % m))]) := by
      refine v_seqR (v_sifT (v_t (v_op (v_op (v_ow rfl) v_c rfl rfl rfl) v_c rfl rfl ?_)) (v_seq (v_set (v_op (v_u (v_op (v_ow rfl) v_c rfl rfl rfl) rfl rfl) (v_fz rfl) rfl rfl (gMod_int (decide_eq_true hm))) rfl) (v_seq (v_sto (v_op (v_op (v_ow rfl) v_c rfl rfl rfl) (v_fz rfl) rfl rfl (gDiv_int hd)) rfl rfl v_c rfl rfl rfl) (v_ret (v_fz rfl) rfl))))
      show some (PV.fz (.bl (decide (0 < a)))) = _
      rw [decide_eq_true ha]
    show outB (B__law_take [.ow true [.int a, .int b], .fz (.int m), .un]) = _
    rw [e]
    rfl
  · refine ⟨((b * 48271 + 11) % 2147483647 / 7) % m, a, (b * 48271 + 11) % 2147483647, ⟨Int.emod_nonneg _ (by omega), Int.emod_lt_of_pos _ hm⟩, ?_⟩
    have e : B__law_take [.ow true [.int a, .int b], .fz (.int m), .un] = .ok (.rt (.fz (.int (((b * 48271 + 11) % 2147483647 / 7) % m))), [.ow true [.int a, .int ((b * 48271 + 11) % 2147483647)], .fz (.int m), .un]) := by
      refine v_seq (v_sifF (v_t (v_op (v_op (v_ow rfl) v_c rfl rfl rfl) v_c rfl rfl ?_)) rfl) (v_seq (v_sto (v_op (v_u (v_op (v_op (v_op (v_ow rfl) v_c rfl rfl rfl) v_c rfl rfl (gMul2_int (mulOk_r (by decide)))) v_c rfl rfl rfl) rfl rfl) v_c rfl rfl (gMod_int rfl)) rfl rfl v_c rfl rfl rfl) (v_ret (v_op (v_u (v_op (v_op (v_ow rfl) v_c rfl rfl rfl) v_c rfl rfl (gDiv_int rfl)) rfl rfl) (v_fz rfl) rfl rfl (gMod_int (decide_eq_true hm))) rfl))
      show some (PV.fz (.bl (decide (0 < a)))) = _
      rw [decide_eq_false ha]
    show outB (B__law_take [.ow true [.int a, .int b], .fz (.int m), .un]) = _
    rw [e]
    rfl
theorem mem_cut {xs : List D} {lo hi : Option Int} {d : D} (h : d ∈ Rf.cutD xs lo hi) : d ∈ xs := List.mem_of_mem_drop (List.mem_of_mem_take h)
theorem state_eq (ns : List Int) : ∃ a b : Int, F__law_state [.lck (IL ns)] = .ok (.fr [.int a, .int b]) := by
  obtain ⟨ρ2, e1, a, b, c, _, rfl⟩ := forGo_inv (t := .nm 3) (body := sSeq (sSet 1 (eOp gAdd (eOp gMul2 (eVar 1) (eC (.int 1000003))) (eU gAbs (eVar 3))))
  (sSet 2 (eOp gMod (eU gInt (eOp gAdd (eOp gMul2 (eVar 2) (eC (.int 48271))) (eVar 3))) (eC (.int 2147483647))))) (ds := Rf.cutD (IL ns) none (some 63))
    (fun ρ => ∃ (a b : Int) (c : Cell), (c = .un ∨ ∃ d, c = .fz d) ∧ ρ = [.fz (.lck (IL ns)), .fz (.int a), .fz (.int b), c]) (fun d ρ hd hI => by
    obtain ⟨a, b, c, hc, rfl⟩ := hI
    obtain ⟨i, _, rfl⟩ := List.mem_map.1 (mem_cut hd)
    refine ⟨[.fz (.lck (IL ns)), .fz (.int a), .fz (.int b), .fz (.int i)], [.fz (.lck (IL ns)), .fz (.int (a * 1000003 + if i < 0 then -i else i)), .fz (.int ((b * 48271 + i) % 2147483647)), .fz (.int i)], ?_, ?_, ?_⟩
    · rcases hc with rfl | ⟨d, rfl⟩ <;> rfl
    · exact v_seq (v_set (v_op (v_op (v_fz rfl) v_c rfl rfl (gMul2_int (mulOk_r (by decide)))) (v_u (v_fz rfl) rfl rfl) rfl rfl rfl) rfl) (v_set (v_op (v_u (v_op (v_op (v_fz rfl) v_c rfl rfl (gMul2_int (mulOk_r (by decide)))) (v_fz rfl) rfl rfl rfl) rfl rfl) v_c rfl rfl (gMod_int rfl)) rfl)
    · exact ⟨_, _, _, .inr ⟨_, rfl⟩, rfl⟩) (ρ := [.fz (.lck (IL ns)), .fz (.int 0), .fz (.int 1), .un]) ⟨0, 1, .un, .inl rfl, rfl⟩
  refine ⟨a, if b = 1973665155 then 7 else b, ?_⟩
  have t : B__law_state [.fz (.lck (IL ns)), .un, .un, .un] = .ok (.rt (.fr [.int a, .int (if b = 1973665155 then 7 else b)]), [.fz (.lck (IL ns)), .fz (.int a), .fz (.int b), c]) := by
    refine v_seq (v_set v_c rfl) (v_seq (v_set v_c rfl) (v_seq (v_for (v_seqL (v_sl (v_fz rfl) v_oN (v_oS v_c) rfl rfl) rfl) e1) (v_ret (v_lst (v_cons (v_fz rfl) rfl (v_cons (v_if (r := .ok (.fz (.int (if b = 1973665155 then 7 else b)), [.fz (.lck (IL ns)), .fz (.int a), .fz (.int b), c])) (v_t (v_op (v_fz rfl) v_c rfl rfl rfl)) ?_) rfl v_nil)) rfl) rfl)))
    by_cases h : b = 1973665155
    · rw [if_pos h]
      subst h
      rfl
    · rw [if_neg h]
      have e : (!decide (b = 1973665155)) = true := by simp [h]
      rw [e]
      rfl
  show outF (B__law_state [.fz (.lck (IL ns)), .un, .un, .un]) = _
  rw [t]
  rfl
theorem tryK_ok {n : Nat} {d1 : D} {d2 : Str → Option D} {r : R (Fl × Rho)} {q : Fl × Rho} (h : r = .ok q) : tryK n d1 d2 r = .ok q := by rw [h]; rfl
theorem tryK_x {n : Nat} {d1 : D} {d2 : Str → Option D} {r : R (Fl × Rho)} (h : r = .exc .mal) : tryK n d1 d2 r = .ok (.rt (.fz d1), List.replicate n .un) := by rw [h]; rfl
abbrev badV : D := .tup [.str "malformed", .non]
def isT : R PV → Bool
  | .ok (.fz (.bl true)) => true
  | _ => false
theorem isT_eq : ∀ {r : R PV}, isT r = true → r = .ok (.fz (.bl true))
  | .ok (.fz (.bl true)), _ => rfl
theorem same_int (i j : Int) : F__law_same [.int i, .int j] = .ok (.fz (.bl (decide (i = j)))) := by kernel_rfl
theorem tells_b {m : Nat} {args : List D} {v w : Int} (h : F__law_told [.fn m, .tup args] = .ok (.fz (.tup [.str "told", .int v]))) : F__law_tells [.fn m, .tup args, .int w] = .ok (.fz (.bl (decide (v = w)))) := by
  have b1 : B__law_is_told [.fz (.tup [.str "told", .int v]), .fz (.int w)] = .ok (.rt (.fz (.bl (decide (v = w)))), [.fz (.tup [.str "told", .int v]), .fz (.int w)]) :=
    v_ret (v_andT (v_op (v_op (v_fz rfl) v_c rfl rfl rfl) v_c rfl rfl rfl) (v_call0 (v_cons (v_op (v_fz rfl) v_c rfl rfl rfl) rfl (v_cons (v_fz rfl) rfl v_nil)) rfl (same_int v w))) rfl
  have b : B__law_tells [.fz (.fn m), .fz (.tup args), .fz (.int w)] = .ok (.rt (.fz (.bl (decide (v = w)))), [.fz (.fn m), .fz (.tup args), .fz (.int w)]) :=
    v_ret (v_call0 (v_cons (v_call0 (v_cons (v_fz rfl) rfl (v_cons (v_fz rfl) rfl v_nil)) rfl h) rfl (v_cons (v_fz rfl) rfl v_nil)) rfl (outF_rt b1)) rfl
  exact outF_rt b
theorem tells_g {m : Nat} {args : List D} {v w : D} {b : Bool} (h : F__law_told [.fn m, .tup args] = .ok (.fz (.tup [.str "told", v]))) (hs : F__law_same [v, w] = .ok (.fz (.bl b))) : F__law_tells [.fn m, .tup args, w] = .ok (.fz (.bl b)) := by
  have b1 : B__law_is_told [.fz (.tup [.str "told", v]), .fz w] = .ok (.rt (.fz (.bl b)), [.fz (.tup [.str "told", v]), .fz w]) :=
    v_ret (v_andT (v_op (v_op (v_fz rfl) v_c rfl rfl rfl) v_c rfl rfl rfl) (v_call0 (v_cons (v_op (v_fz rfl) v_c rfl rfl rfl) rfl (v_cons (v_fz rfl) rfl v_nil)) rfl hs)) rfl
  have b : B__law_tells [.fz (.fn m), .fz (.tup args), .fz w] = .ok (.rt (.fz (.bl b)), [.fz (.fn m), .fz (.tup args), .fz w]) :=
    v_ret (v_call0 (v_cons (v_call0 (v_cons (v_fz rfl) rfl (v_cons (v_fz rfl) rfl v_nil)) rfl h) rfl (v_cons (v_fz rfl) rfl v_nil)) rfl (outF_rt b1)) rfl
  exact outF_rt b
theorem same_rat {r s : Int × Int} {b : Bool} (h : A_Ratio_eq r s = some b) : F__law_same [.obj 3 [.int r.1, .int r.2], .obj 3 [.int s.1, .int s.2]] = .ok (.fz (.bl b)) := by
  have e : eOpR gEq F_Ratio_eq (eVar 0) (eVar 1) [.fz (.obj 3 [.int r.1, .int r.2]), .fz (.obj 3 [.int s.1, .int s.2]), .un] = .ok (.fz (.bl b), [.fz (.obj 3 [.int r.1, .int r.2]), .fz (.obj 3 [.int s.1, .int s.2]), .un]) := v_opRR (v_fz rfl) (v_fz rfl) rfl rfl (sim_Ratio_eq h)
  have t : B__law_same_4 [.fz (.obj 3 [.int r.1, .int r.2]), .fz (.obj 3 [.int s.1, .int s.2]), .un] = .ok (.rt (.fz (.bl b)), [.fz (.obj 3 [.int r.1, .int r.2]), .fz (.obj 3 [.int s.1, .int s.2]), .un]) := by
    iterate 6 refine v_seq (v_sifF (v_t (by first | exact v_u (v_fz rfl) rfl rfl | exact v_op (v_fz rfl) v_c rfl rfl rfl)) rfl) ?_
    exact v_ret (v_andT (v_u (v_u (v_fz rfl) rfl rfl) rfl rfl) e) rfl
  exact outF_rt t
theorem told1 {m : Nat} {F : Fn} {a v : D} (ht : tab m = some (1, F)) (h : F [a] = .ok (.fz v)) : F__law_told [.fn m, .tup [a]] = .ok (.fz (.tup [.str "told", v])) := by
  show outF (tryK 3 badV d2R _) = _
  exact outF_rt (tryK_ok (v_seq (v_sifF (v_t (v_op (v_u (v_fz rfl) rfl rfl) v_c rfl rfl rfl)) rfl) (v_seqR (v_sifT (v_t (v_op (v_u (v_fz rfl) rfl rfl) v_c rfl rfl rfl)) (v_ret (v_tup (v_cons v_c rfl (v_cons (v_callD rfl ht (v_cons (v_op (v_fz rfl) v_c rfl rfl rfl) rfl v_nil) rfl h) rfl v_nil)) rfl) rfl)))))
theorem val1 {m : Nat} {F : Fn} {a v : D} (ht : tab m = some (1, F)) (h : F [a] = .ok (.fz v)) : F__law_value [.fn m, .tup [a]] = .ok (.fz v) := by
  have e : B__law_value [.fz (.fn m), .fz (.tup [a]), .un] = .ok (.rt (.fz v), [.fz (.fn m), .fz (.tup [a]), .fz (.tup [.str "told", v])]) :=
    v_seq (v_set (v_call0 (v_cons (v_fz rfl) rfl (v_cons (v_fz rfl) rfl v_nil)) rfl (told1 ht h)) rfl) (v_ret (v_if (v_t (v_op (v_op (v_fz rfl) v_c rfl rfl rfl) v_c rfl rfl rfl)) (v_op (v_fz rfl) v_c rfl rfl rfl)) rfl)
  exact outF_rt e
theorem tells1 {m : Nat} {F : Fn} {a : D} {v w : Int} (ht : tab m = some (1, F)) (h : F [a] = .ok (.fz (.int v))) : F__law_tells [.fn m, .tup [a], .int w] = .ok (.fz (.bl (decide (v = w)))) := tells_b (told1 ht h)
theorem told2 {m : Nat} {F : Fn} {a b v : D} (ht : tab m = some (2, F)) (h : F [a, b] = .ok (.fz v)) : F__law_told [.fn m, .tup [a, b]] = .ok (.fz (.tup [.str "told", v])) := by
  show outF (tryK 3 badV d2R _) = _
  exact outF_rt (tryK_ok (v_seq (v_sifF (v_t (v_op (v_u (v_fz rfl) rfl rfl) v_c rfl rfl rfl)) rfl) (v_seq (v_sifF (v_t (v_op (v_u (v_fz rfl) rfl rfl) v_c rfl rfl rfl)) rfl) (v_seqR (v_sifT (v_t (v_op (v_u (v_fz rfl) rfl rfl) v_c rfl rfl rfl)) (v_ret (v_tup (v_cons v_c rfl (v_cons (v_callD rfl ht (v_cons (v_op (v_fz rfl) v_c rfl rfl rfl) rfl (v_cons (v_op (v_fz rfl) v_c rfl rfl rfl) rfl v_nil)) rfl h) rfl v_nil)) rfl) rfl))))))
theorem val2 {m : Nat} {F : Fn} {a b v : D} (ht : tab m = some (2, F)) (h : F [a, b] = .ok (.fz v)) : F__law_value [.fn m, .tup [a, b]] = .ok (.fz v) := by
  have e : B__law_value [.fz (.fn m), .fz (.tup [a, b]), .un] = .ok (.rt (.fz v), [.fz (.fn m), .fz (.tup [a, b]), .fz (.tup [.str "told", v])]) :=
    v_seq (v_set (v_call0 (v_cons (v_fz rfl) rfl (v_cons (v_fz rfl) rfl v_nil)) rfl (told2 ht h)) rfl) (v_ret (v_if (v_t (v_op (v_op (v_fz rfl) v_c rfl rfl rfl) v_c rfl rfl rfl)) (v_op (v_fz rfl) v_c rfl rfl rfl)) rfl)
  exact outF_rt e
theorem tells2 {m : Nat} {F : Fn} {a b : D} {v w : Int} (ht : tab m = some (2, F)) (h : F [a, b] = .ok (.fz (.int v))) : F__law_tells [.fn m, .tup [a, b], .int w] = .ok (.fz (.bl (decide (v = w)))) := tells_b (told2 ht h)
theorem told3 {m : Nat} {F : Fn} {a b c v : D} (ht : tab m = some (3, F)) (h : F [a, b, c] = .ok (.fz v)) : F__law_told [.fn m, .tup [a, b, c]] = .ok (.fz (.tup [.str "told", v])) := by
  show outF (tryK 3 badV d2R _) = _
  exact outF_rt (tryK_ok (v_seq (v_sifF (v_t (v_op (v_u (v_fz rfl) rfl rfl) v_c rfl rfl rfl)) rfl) (v_seq (v_sifF (v_t (v_op (v_u (v_fz rfl) rfl rfl) v_c rfl rfl rfl)) rfl) (v_seq (v_sifF (v_t (v_op (v_u (v_fz rfl) rfl rfl) v_c rfl rfl rfl)) rfl) (v_seqR (v_sifT (v_t (v_op (v_u (v_fz rfl) rfl rfl) v_c rfl rfl rfl)) (v_ret (v_tup (v_cons v_c rfl (v_cons (v_callD rfl ht (v_cons (v_op (v_fz rfl) v_c rfl rfl rfl) rfl (v_cons (v_op (v_fz rfl) v_c rfl rfl rfl) rfl (v_cons (v_op (v_fz rfl) v_c rfl rfl rfl) rfl v_nil))) rfl h) rfl v_nil)) rfl) rfl)))))))
theorem val3 {m : Nat} {F : Fn} {a b c v : D} (ht : tab m = some (3, F)) (h : F [a, b, c] = .ok (.fz v)) : F__law_value [.fn m, .tup [a, b, c]] = .ok (.fz v) := by
  have e : B__law_value [.fz (.fn m), .fz (.tup [a, b, c]), .un] = .ok (.rt (.fz v), [.fz (.fn m), .fz (.tup [a, b, c]), .fz (.tup [.str "told", v])]) :=
    v_seq (v_set (v_call0 (v_cons (v_fz rfl) rfl (v_cons (v_fz rfl) rfl v_nil)) rfl (told3 ht h)) rfl) (v_ret (v_if (v_t (v_op (v_op (v_fz rfl) v_c rfl rfl rfl) v_c rfl rfl rfl)) (v_op (v_fz rfl) v_c rfl rfl rfl)) rfl)
  exact outF_rt e
theorem tells3 {m : Nat} {F : Fn} {a b c : D} {v w : Int} (ht : tab m = some (3, F)) (h : F [a, b, c] = .ok (.fz (.int v))) : F__law_tells [.fn m, .tup [a, b, c], .int w] = .ok (.fz (.bl (decide (v = w)))) := tells_b (told3 ht h)
theorem told4 {m : Nat} {F : Fn} {a b c d v : D} (ht : tab m = some (4, F)) (h : F [a, b, c, d] = .ok (.fz v)) : F__law_told [.fn m, .tup [a, b, c, d]] = .ok (.fz (.tup [.str "told", v])) := by
  show outF (tryK 3 badV d2R _) = _
  exact outF_rt (tryK_ok (v_seq (v_sifF (v_t (v_op (v_u (v_fz rfl) rfl rfl) v_c rfl rfl rfl)) rfl) (v_seq (v_sifF (v_t (v_op (v_u (v_fz rfl) rfl rfl) v_c rfl rfl rfl)) rfl) (v_seq (v_sifF (v_t (v_op (v_u (v_fz rfl) rfl rfl) v_c rfl rfl rfl)) rfl) (v_seq (v_sifF (v_t (v_op (v_u (v_fz rfl) rfl rfl) v_c rfl rfl rfl)) rfl) (v_seqR (v_sifT (v_t (v_op (v_u (v_fz rfl) rfl rfl) v_c rfl rfl rfl)) (v_ret (v_tup (v_cons v_c rfl (v_cons (v_callD rfl ht (v_cons (v_op (v_fz rfl) v_c rfl rfl rfl) rfl (v_cons (v_op (v_fz rfl) v_c rfl rfl rfl) rfl (v_cons (v_op (v_fz rfl) v_c rfl rfl rfl) rfl (v_cons (v_op (v_fz rfl) v_c rfl rfl rfl) rfl v_nil)))) rfl h) rfl v_nil)) rfl) rfl))))))))
theorem val4 {m : Nat} {F : Fn} {a b c d v : D} (ht : tab m = some (4, F)) (h : F [a, b, c, d] = .ok (.fz v)) : F__law_value [.fn m, .tup [a, b, c, d]] = .ok (.fz v) := by
  have e : B__law_value [.fz (.fn m), .fz (.tup [a, b, c, d]), .un] = .ok (.rt (.fz v), [.fz (.fn m), .fz (.tup [a, b, c, d]), .fz (.tup [.str "told", v])]) :=
    v_seq (v_set (v_call0 (v_cons (v_fz rfl) rfl (v_cons (v_fz rfl) rfl v_nil)) rfl (told4 ht h)) rfl) (v_ret (v_if (v_t (v_op (v_op (v_fz rfl) v_c rfl rfl rfl) v_c rfl rfl rfl)) (v_op (v_fz rfl) v_c rfl rfl rfl)) rfl)
  exact outF_rt e
theorem tells4 {m : Nat} {F : Fn} {a b c d : D} {v w : Int} (ht : tab m = some (4, F)) (h : F [a, b, c, d] = .ok (.fz (.int v))) : F__law_tells [.fn m, .tup [a, b, c, d], .int w] = .ok (.fz (.bl (decide (v = w)))) := tells_b (told4 ht h)
theorem told5 {m : Nat} {F : Fn} {a b c d e v : D} (ht : tab m = some (5, F)) (h : F [a, b, c, d, e] = .ok (.fz v)) : F__law_told [.fn m, .tup [a, b, c, d, e]] = .ok (.fz (.tup [.str "told", v])) := by
  show outF (tryK 3 badV d2R _) = _
  exact outF_rt (tryK_ok (v_seq (v_sifF (v_t (v_op (v_u (v_fz rfl) rfl rfl) v_c rfl rfl rfl)) rfl) (v_seq (v_sifF (v_t (v_op (v_u (v_fz rfl) rfl rfl) v_c rfl rfl rfl)) rfl) (v_seq (v_sifF (v_t (v_op (v_u (v_fz rfl) rfl rfl) v_c rfl rfl rfl)) rfl) (v_seq (v_sifF (v_t (v_op (v_u (v_fz rfl) rfl rfl) v_c rfl rfl rfl)) rfl) (v_seq (v_sifF (v_t (v_op (v_u (v_fz rfl) rfl rfl) v_c rfl rfl rfl)) rfl) (v_seqR (v_sifT (v_t (v_op (v_u (v_fz rfl) rfl rfl) v_c rfl rfl rfl)) (v_ret (v_tup (v_cons v_c rfl (v_cons (v_callD rfl ht (v_cons (v_op (v_fz rfl) v_c rfl rfl rfl) rfl (v_cons (v_op (v_fz rfl) v_c rfl rfl rfl) rfl (v_cons (v_op (v_fz rfl) v_c rfl rfl rfl) rfl (v_cons (v_op (v_fz rfl) v_c rfl rfl rfl) rfl (v_cons (v_op (v_fz rfl) v_c rfl rfl rfl) rfl v_nil))))) rfl h) rfl v_nil)) rfl) rfl)))))))))
theorem val5 {m : Nat} {F : Fn} {a b c d e v : D} (ht : tab m = some (5, F)) (h : F [a, b, c, d, e] = .ok (.fz v)) : F__law_value [.fn m, .tup [a, b, c, d, e]] = .ok (.fz v) := by
  have e : B__law_value [.fz (.fn m), .fz (.tup [a, b, c, d, e]), .un] = .ok (.rt (.fz v), [.fz (.fn m), .fz (.tup [a, b, c, d, e]), .fz (.tup [.str "told", v])]) :=
    v_seq (v_set (v_call0 (v_cons (v_fz rfl) rfl (v_cons (v_fz rfl) rfl v_nil)) rfl (told5 ht h)) rfl) (v_ret (v_if (v_t (v_op (v_op (v_fz rfl) v_c rfl rfl rfl) v_c rfl rfl rfl)) (v_op (v_fz rfl) v_c rfl rfl rfl)) rfl)
  exact outF_rt e
theorem tells5 {m : Nat} {F : Fn} {a b c d e : D} {v w : Int} (ht : tab m = some (5, F)) (h : F [a, b, c, d, e] = .ok (.fz (.int v))) : F__law_tells [.fn m, .tup [a, b, c, d, e], .int w] = .ok (.fz (.bl (decide (v = w)))) := tells_b (told5 ht h)
theorem same3_int (i : Int) : F__law_same_3 [.int i, .int i] = .ok (.fz (.bl true)) := by
  have e : F__law_same_3 [.int i, .int i] = .ok (.fz (.bl (decide (i = i)))) := by kernel_rfl
  rw [e, decide_eq_true rfl]
theorem all_true (L : List Nat) : gAll (.lst (L.map fun _ => D.bl true)) = some (.fz (.bl true)) := by
  have e : (L.map fun _ => D.bl true) = BL (L.map fun _ => true) := by
    show _ = (L.map fun _ => true).map D.bl
    rw [List.map_map]
    rfl
  rw [e, all_L]
  simp
theorem same_T (xs : List Int) (h : xs.length < 1000) : F__law_same [.tup (IL xs), .tup (IL xs)] = .ok (.fz (.bl true)) := by
  have b : B__law_same_4 [.fz (.tup (IL xs)), .fz (.tup (IL xs)), .un] = .ok (.rt (.fz (.bl true)), [.fz (.tup (IL xs)), .fz (.tup (IL xs)), .un]) := by
    refine v_seq (v_sifF (v_t (v_u (v_fz rfl) rfl rfl)) rfl) (v_seqR (v_sifT (v_t (v_u (v_fz rfl) rfl rfl)) (v_ret (pv := .fz (.bl true)) (v_andT (v_u (v_fz rfl) rfl rfl) (v_andT (v_op (v_u (v_fz rfl) rfl (len_Ti xs)) (v_u (v_fz rfl) rfl (len_Ti xs)) rfl rfl (by show some (PV.fz (D.bl (decide ((xs.length : Int) = (xs.length : Int))))) = _; rw [decide_eq_true rfl])) (v_u (v_lc (L := List.range xs.length) (c := nI) (g := fun _ => .bl true) (v_rg1 (n := xs.length) (v_cons (v_u (v_fz rfl) rfl (len_Ti xs)) rfl v_nil) (by omega)) rfl (by rw [List.length_range]; omega) rfl (fun k hk => ⟨[.fz (.tup (IL xs)), .fz (.tup (IL xs)), .fz (.int k)], [.fz (.tup (IL xs)), .fz (.tup (IL xs)), .fz (.int k)], rfl, ?_, rfl⟩) rfl) rfl (all_true _)))) rfl)))
    rw [List.mem_range] at hk
    exact v_call0 (v_cons (v_op (v_fz rfl) (v_fz rfl) rfl rfl (ix_nat hk)) rfl (v_cons (v_op (v_fz rfl) (v_fz rfl) rfl rfl (ix_nat hk)) rfl v_nil)) rfl (same3_int _)
  show outF (B__law_same_4 [.fz (.tup (IL xs)), .fz (.tup (IL xs)), .un]) = _
  rw [b]
  rfl
theorem same_it {xs ys : List Int} {u : Unit} (h : eqL xs ys = some u) : F__law_same [.tup (IL xs), .tup (IL ys)] = .ok (.fz (.bl true)) := by
  obtain ⟨h1, _⟩ := gd_some h
  simp only [Bool.and_eq_true, decide_eq_true_eq] at h1
  rw [← h1.1]
  exact same_T xs h1.2
theorem told1L {m : Nat} {F : Fn} {a : D} {xs : List D} (ht : tab m = some (1, F)) (h : F [a] = .ok (.fr xs)) : F__law_told [.fn m, .tup [a]] = .ok (.fz (.tup [.str "told", .lst xs])) := by
  show outF (tryK 3 badV d2R _) = _
  exact outF_rt (tryK_ok (v_seq (v_sifF (v_t (v_op (v_u (v_fz rfl) rfl rfl) v_c rfl rfl rfl)) rfl) (v_seqR (v_sifT (v_t (v_op (v_u (v_fz rfl) rfl rfl) v_c rfl rfl rfl)) (v_ret (v_tup (v_cons v_c rfl (v_cons (v_callD rfl ht (v_cons (v_op (v_fz rfl) v_c rfl rfl rfl) rfl v_nil) rfl h) rfl v_nil)) rfl) rfl)))))
theorem val1L {m : Nat} {F : Fn} {a : D} {xs : List D} (ht : tab m = some (1, F)) (h : F [a] = .ok (.fr xs)) : F__law_value [.fn m, .tup [a]] = .ok (.fz (.lst xs)) := by
  have e : B__law_value [.fz (.fn m), .fz (.tup [a]), .un] = .ok (.rt (.fz (.lst xs)), [.fz (.fn m), .fz (.tup [a]), .fz (.tup [.str "told", .lst xs])]) :=
    v_seq (v_set (v_call0 (v_cons (v_fz rfl) rfl (v_cons (v_fz rfl) rfl v_nil)) rfl (told1L ht h)) rfl) (v_ret (v_if (v_t (v_op (v_op (v_fz rfl) v_c rfl rfl rfl) v_c rfl rfl rfl)) (v_op (v_fz rfl) v_c rfl rfl rfl)) rfl)
  exact outF_rt e
theorem num_eq9 (a b : Int) : ∃ (v w a' b' : Int), (0 ≤ v ∧ v < 19) ∧ (0 ≤ w ∧ w < 3) ∧ ∀ t : Int × Int, A_Ratio (v - 9) (1 + w) = some t → F__law_number [.int a, .int b] [.int 9] = .ok (.fz (rD t), [.int a', .int b']) := by
  obtain ⟨v, a1, b1, hv, e1⟩ := take_eq (a := a) (b := b) (m := 19) (by decide) (by decide)
  obtain ⟨w, a', b', hw, e2⟩ := take_eq (a := a1) (b := b1) (m := 3) (by decide) (by decide)
  refine ⟨v, w, a', b', hv, hw, fun t h => ?_⟩
  have t' : B__law_number [.ow true [.int a, .int b], .fz (.int 9)] = .ok (.rt (.fz (rD t)), [.ow true [.int a', .int b'], .fz (.int 9)]) :=
    v_ret (v_new2 (v_cons (v_opR (v_callB rfl (v_cons (v_opR (v_opR v_c (v_fz rfl) rfl rfl (gMul2_int rfl)) v_c rfl rfl rfl) rfl v_nil) rfl rfl e1 rfl) (v_fz rfl) rfl rfl rfl) rfl (v_cons (v_opR v_c (v_callB rfl (v_cons v_c rfl v_nil) rfl rfl e2 rfl) rfl rfl rfl) rfl v_nil)) (sim_Ratio h)) rfl
  show outB (B__law_number [.ow true [.int a, .int b], .fz (.int 9)]) = _
  rw [t']
  rfl
end L59
end
section
set_option Elab.async false
set_option linter.all false
set_option maxRecDepth 100000
set_option maxHeartbeats 4000000
namespace L59
open PySem PySem.Spec PyProof.Rows L2 Rf
abbrev S0 : Es := sSet 3 (eCallB 1 2 F__law_take (aCons (eC (.int 21)) (aNil)))
abbrev S1 : Es := sSet 4 (eCall 2 F__law_value [] (aCons (eC (.fn 11)) (aCons (eTup (aCons (eVar 3) (aNil))) (aNil))))
abbrev S2 : Es := sIf (tOrF (tOf (eOp gNe (eU gLen (eVar 4)) (eOpR gAdd F_Ratio_add (eVar 3) (eC (.int 1))))) (tOf (eU gAny (eLc [9] (iRg1 (aCons (eOpR gAdd F_Ratio_add (eVar 3) (eC (.int 1))) (aNil))) (.nm 9) (tYesF) (eNeR gNe F_Ratio_eq (eCall 1 F__law_sum [] (aCons (eLc [8] (iRg1 (aCons (eOpR gAdd F_Ratio_add (eVar 9) (eC (.int 1))) (aNil))) (.nm 8) (tYesF) (eOpR gMul2 F_Ratio_mul (eOp gIx (eVar 4) (eVar 8)) (eNew 3 2 2 FI_Ratio [.int 1] (aCons (eCall 2 F__law_choose [] (aCons (eOpR gAdd F_Ratio_add (eVar 9) (eC (.int 1))) (aCons (eVar 8) (aNil)))) (aNil))))) (aNil))) (eNew 3 2 2 FI_Ratio [.int 1] (aCons (eU gInt (eOp gEq (eVar 9) (eC (.int 0)))) (aNil)))))))) (sRet (eC (.bl false))) (sNil)
abbrev S3 : Es := sIf (tOrF (tNotF (tOf (eCall 3 F__law_tells [] (aCons (eC (.fn 10)) (aCons (eTup (aCons (eVar 3) (aNil))) (aCons (eOp gIx (eVar 4) (eVar 3)) (aNil))))))) (tNotF (tOf (eCall 3 F__law_tells [] (aCons (eC (.fn 12)) (aCons (eTup (aCons (eVar 3) (aNil))) (aCons (eOp gIx (eVar 4) (eVar 3)) (aNil)))))))) (sRet (eC (.bl false))) (sNil)
abbrev S4 : Es := sSet 5 (eOp gIx (eLst (aCons (eCallB 1 2 F__law_number (aCons (eC (.int 9)) (aNil))) (aCons (eOpR Rf.gSub F_Ratio_sub (eCallB 1 2 F__law_take (aCons (eC (.int 19)) (aNil))) (eC (.int 9))) (aNil)))) (eCallB 1 2 F__law_take (aCons (eC (.int 2)) (aNil))))
abbrev S5 : Es := sSet 6 (eIfF (tOf (eU gIsR (eVar 5))) (eVar 5) (eNew 3 2 2 FI_Ratio [.int 1] (aCons (eVar 5) (aNil))))
abbrev S6 : Es := sSet 7 (eCall 1 F__law_sum [] (aCons (eLc [8] (iRg1 (aCons (eOpR gAdd F_Ratio_add (eVar 3) (eC (.int 1))) (aNil))) (.nm 8) (tYesF) (eOpR gMul2 F_Ratio_mul (eOpR gMul2 F_Ratio_mul (eOp gIx (eVar 4) (eVar 8)) (eNew 3 2 2 FI_Ratio [.int 1] (aCons (eCall 2 F__law_choose [] (aCons (eVar 3) (aCons (eVar 8) (aNil)))) (aNil)))) (eCall 2 F__law_power [] (aCons (eVar 6) (aCons (eOpR Rf.gSub F_Ratio_sub (eVar 3) (eVar 8)) (aNil)))))) (aNil)))
abbrev S7 : Es := sIf (tOrF (tNotF (tOf (eCall 3 F__law_tells [] (aCons (eC (.fn 13)) (aCons (eTup (aCons (eVar 3) (aCons (eVar 5) (aNil)))) (aCons (eVar 7) (aNil))))))) (tOf (eNeR gNe F_Ratio_eq (eOpR Rf.gSub F_Ratio_sub (eCall 2 F__law_value [] (aCons (eC (.fn 13)) (aCons (eTup (aCons (eVar 3) (aCons (eOpR gAdd F_Ratio_add (eVar 6) (eNew 3 2 2 FI_Ratio [.int 1] (aCons (eC (.int 1)) (aNil)))) (aNil)))) (aNil)))) (eVar 7)) (eIfF (tOf (eOp gGt (eVar 3) (eC (.int 0)))) (eOpR gMul2 F_Ratio_mul (eNew 3 2 2 FI_Ratio [.int 1] (aCons (eVar 3) (aNil))) (eCall 2 F__law_power [] (aCons (eVar 6) (aCons (eOpR Rf.gSub F_Ratio_sub (eVar 3) (eC (.int 1))) (aNil))))) (eNew 3 2 2 FI_Ratio [.int 1] (aCons (eC (.int 0)) (aNil))))))) (sRet (eC (.bl false))) (sNil)
abbrev S8 : Es := sUnp [8, 9] (eTup (aCons (eCallB 1 2 F__law_take (aCons (eC (.int 9)) (aNil))) (aCons (eCallB 1 2 F__law_take (aCons (eC (.int 30)) (aNil))) (aNil))))
abbrev S9 : Es := sIf (tNotF (tOf (eCall 3 F__law_tells [] (aCons (eC (.fn 14)) (aCons (eTup (aCons (eVar 8) (aCons (eVar 9) (aNil)))) (aCons (eU gSum2 (eLc [18] (iRg1 (aCons (eVar 9) (aNil))) (.nm 18) (tYesF) (eCall 2 F__law_raised [] (aCons (eVar 18) (aCons (eVar 8) (aNil)))))) (aNil))))))) (sRet (eC (.bl false))) (sNil)
abbrev S10 : Es := sSet 10 (eOpR gMul2 F_Ratio_mul (eC (.int 2)) (eOpR gAdd F_Ratio_add (eC (.int 1)) (eCallB 1 2 F__law_take (aCons (eC (.int 12)) (aNil)))))
abbrev S11 : Es := sSet 11 (eLc [15] (iRg2 (aCons (eC (.int 2)) (aCons (eOpR gAdd F_Ratio_add (eVar 10) (eC (.int 2))) (aNil)))) (.nm 15) (tAndF (tOf (eU gAll (eLc [19] (iRg2 (aCons (eC (.int 2)) (aCons (eVar 15) (aNil)))) (.nm 19) (tYesF) (eOp gNe (eOp gMod (eU gInt (eVar 15)) (eVar 19)) (eC (.int 0)))))) (tOf (eOp gEq (eOp gMod (eU gInt (eVar 10)) (eOpR Rf.gSub F_Ratio_sub (eVar 15) (eC (.int 1)))) (eC (.int 0))))) (eVar 15))
abbrev S12 : Es := sSet 12 (eCall 2 F__law_value [] (aCons (eC (.fn 10)) (aCons (eTup (aCons (eVar 10) (aNil))) (aNil))))
abbrev S13 : Es := sSet 13 (eOpR gAdd F_Ratio_add (eVar 12) (eCall 1 F__law_sum [] (aCons (eLc [15] (iSeq (eVar 11)) (.nm 15) (tYesF) (eNew 3 2 2 FI_Ratio [] (aCons (eC (.int 1)) (aCons (eVar 15) (aNil))))) (aNil))))
abbrev S14 : Es := sSet 14 (eC (.int 1))
abbrev S15 : Es := sFor (iSeq (eVar 11)) (.nm 15) (sSet 14 (eOpR gMul2 F_Ratio_mul (eVar 14) (eVar 15)))
abbrev S16 : Es := sIf (tOrF (tNotF (tOf (eCall 3 F__law_tells [] (aCons (eC (.fn 15)) (aCons (eTup (aCons (eVar 10) (aNil))) (aCons (eU gTup (eVar 11)) (aNil))))))) (tOrF (tOf (eOp gNe (eU (gFld 1) (eVar 13)) (eC (.int 1)))) (tOrF (tNotF (tOf (eCall 3 F__law_tells [] (aCons (eC (.fn 17)) (aCons (eTup (aCons (eVar 10) (aNil))) (aCons (eU (gFld 0) (eVar 13)) (aNil))))))) (tOf (eOp gNe (eU (gFld 1) (eVar 12)) (eVar 14)))))) (sRet (eC (.bl false))) (sNil)
abbrev S17 : Es := sIf (tNotF (tOf (eCall 3 F__law_tells [] (aCons (eC (.fn 19)) (aCons (eTup (aCons (eVar 10) (aNil))) (aCons (eU gTup (eLc [18] (iRg3 (aCons (eC (.int 2)) (aCons (eOpR gAdd F_Ratio_add (eVar 10) (eC (.int 1))) (aCons (eC (.int 2)) (aNil))))) (.nm 18) (tYesF) (eU (gFld 1) (eCall 2 F__law_value [] (aCons (eC (.fn 10)) (aCons (eTup (aCons (eVar 18) (aNil))) (aNil))))))) (aNil))))))) (sRet (eC (.bl false))) (sNil)
abbrev S18 : Es := sSet 16 (eOp gIx (eLst (aCons (eC (.int 3)) (aCons (eC (.int 5)) (aCons (eC (.int 7)) (aCons (eC (.int 11)) (aCons (eC (.int 13)) (aCons (eC (.int 17)) (aCons (eC (.int 19)) (aCons (eC (.int 23)) (aCons (eC (.int 37)) (aNil))))))))))) (eCallB 1 2 F__law_take (aCons (eC (.int 9)) (aNil))))
abbrev S19 : Es := sIf (tNotF (tOf (eCall 3 F__law_tells [] (aCons (eC (.fn 18)) (aCons (eTup (aCons (eVar 16) (aNil))) (aCons (eU gTup (eLc [18] (iRg3 (aCons (eC (.int 2)) (aCons (eOpR Rf.gSub F_Ratio_sub (eVar 16) (eC (.int 2))) (aCons (eC (.int 2)) (aNil))))) (.nm 18) (tOf (eOp gEq (eOp gMod (eU gInt (eU (gFld 0) (eCall 2 F__law_value [] (aCons (eC (.fn 10)) (aCons (eTup (aCons (eVar 18) (aNil))) (aNil)))))) (eVar 16)) (eC (.int 0)))) (eVar 18))) (aNil))))))) (sRet (eC (.bl false))) (sNil)
abbrev TB : Es := sSeq S0 (sSeq S1 (sSeq S2 (sSeq S3 (sSeq S4 (sSeq S5 (sSeq S6 (sSeq S7 (sSeq S8 (sSeq S9 (sSeq S10 (sSeq S11 (sSeq S12 (sSeq S13 (sSeq S14 (sSeq S15 (sSeq S16 (sSeq S17 (sSeq S18 (S19)))))))))))))))))))
theorem st0 {ns : List Int} {sa sb : Int} {c2 c3 c4 c5 c6 c7 c8 c9 c10 c11 c12 c13 c14 c15 c16 c17 : Cell} {P : Rho → Prop} {rest : Es} (h2 : PL c2) (h3 : PL c3) (h4 : PL c4) (h5 : PL c5) (h6 : PL c6) (h7 : PL c7) (h8 : PF c8) (h9 : PF c9) (h10 : PL c10) (h11 : PL c11) (h12 : PL c12) (h13 : PL c13) (h14 : PL c14) (h15 : PF c15) (h16 : PL c16) (h17 : PL c17) (mva0 : (0 : Int) < (21 : Int)) (mva1 : (21 : Int) < 1000000) (n : ∀ va a' b' : Int, 0 ≤ va → va < (21 : Int) → JN rest [.fz (.lck (IL ns)), .ow false [.int a', .int b'], c2, .fz (.int va), c4, c5, c6, c7, c8, c9, c10, c11, c12, c13, c14, c15, c16, c17, .un, .un] P) : JN (sSeq S0 rest) [.fz (.lck (IL ns)), .ow false [.int sa, .int sb], c2, c3, c4, c5, c6, c7, c8, c9, c10, c11, c12, c13, c14, c15, c16, c17, .un, .un] P := by
  obtain ⟨va, a', b', ⟨va0, va1⟩, edva⟩ := take_eq (a := sa) (b := sb) mva0 mva1
  have e : S0 [.fz (.lck (IL ns)), .ow false [.int sa, .int sb], c2, c3, c4, c5, c6, c7, c8, c9, c10, c11, c12, c13, c14, c15, c16, c17, .un, .un] = .ok (.nx, [.fz (.lck (IL ns)), .ow false [.int a', .int b'], c2, .fz (.int va), c4, c5, c6, c7, c8, c9, c10, c11, c12, c13, c14, c15, c16, c17, .un, .un]) := by
    unfold S0
    exact (v_set (v_callB rfl (v_cons v_c rfl v_nil) rfl rfl edva rfl) (set_fz rfl h3 rfl))
  exact jn_st e (n va a' b' va0 va1)
def Q1 (n_0 : Int) : Option ((List (Int × Int))) :=
  bd (M_numbers_to (n_0)) fun tt1 => some tt1
theorem st1 {ns : List Int} {sa sb : Int} {n_0 : Int} {c2 c4 c5 c6 c7 c8 c9 c10 c11 c12 c13 c14 c15 c16 c17 : Cell} {P : Rho → Prop} {rest : Es} {s : (List (Int × Int))} (q : Q1 n_0 = some s) (h2 : PL c2) (h4 : PL c4) (h5 : PL c5) (h6 : PL c6) (h7 : PL c7) (h8 : PF c8) (h9 : PF c9) (h10 : PL c10) (h11 : PL c11) (h12 : PL c12) (h13 : PL c13) (h14 : PL c14) (h15 : PF c15) (h16 : PL c16) (h17 : PL c17) (n :  JN rest [.fz (.lck (IL ns)), .ow false [.int sa, .int sb], c2, .fz (.int n_0), .fz (.lst (RL s)), c5, c6, c7, c8, c9, c10, c11, c12, c13, c14, c15, c16, c17, .un, .un] P) : JN (sSeq S1 rest) [.fz (.lck (IL ns)), .ow false [.int sa, .int sb], c2, .fz (.int n_0), c4, c5, c6, c7, c8, c9, c10, c11, c12, c13, c14, c15, c16, c17, .un, .un] P := by
  have key : JS (sSeq S1 sNil) [.fz (.lck (IL ns)), .ow false [.int sa, .int sb], c2, .fz (.int n_0), c4, c5, c6, c7, c8, c9, c10, c11, c12, c13, c14, c15, c16, c17, .un, .un] (Q1 n_0) (PI (fun (s : (List (Int × Int))) (ρ : Rho) => ∃ (numbers_1 : (List (Int × Int))), s = numbers_1 ∧ ρ = [.fz (.lck (IL ns)), .ow false [.int sa, .int sb], c2, .fz (.int n_0), .fz (.lst (RL numbers_1)), c5, c6, c7, c8, c9, c10, c11, c12, c13, c14, c15, c16, c17, .un, .un])) := by
    unfold Q1
    refine js_bd fun tt1 hh2 => ?_
    refine js_st (v_set (v_call0 (v_cons v_c rfl (v_cons (v_tup (v_cons (v_fz rfl) rfl v_nil) rfl) rfl v_nil)) rfl (val1L rfl (sim_M_numbers_to hh2))) (set_fz rfl h4 rfl)) ?_
    exact js_end rfl ⟨_, rfl, rfl⟩
  obtain ⟨ρ2, e, numbers_1, es, rfl⟩ := key s q
  subst es
  exact jn_st (by rw [seq_nil] at e; exact e) (n )
def Q2 (n_0 : Int) (numbers_1 : List (Int × Int)) : Option (Unit) :=
  bd (aLc (fun ii1 => bd (aLc (fun ii2 => bd (A__law_choose (ii1 + 1) (ii2)) fun tt3 => bd (A_Ratio (tt3) (1)) fun tt5 => bd (A_Ratio_mul ((numbers_1).getD (ii2).toNat (0, 1)) tt5) fun tt7 => gd ((decide (0 ≤ ii2) && decide (ii2 < ((numbers_1).length : Int)))) (some tt7)) ((ii1 + 1 : Int) - (0 : Int)).toNat (0)) fun xx10 => bd (A__law_sum (xx10)) fun tt12 => bd (A_Ratio (if decide (ii1 = 0) then 1 else 0) (1)) fun tt14 => bd (A_Ratio_eq tt12 tt14) fun tt16 => gd ((decide (-1000000000 ≤ ii1 + 1) && decide (ii1 + 1 ≤ 1000000000)) && ((szOk ((ii1 + 1 : Int) - (0 : Int)).toNat))) (some (!(tt16)))) ((n_0 + 1 : Int) - (0 : Int)).toNat (0)) fun xx19 => gd (decide (-1000000000 ≤ n_0 + 1) && decide (n_0 + 1 ≤ 1000000000) && (szOk ((n_0 + 1 : Int) - (0 : Int)).toNat)) (if (!(decide ((numbers_1.length : Int) = n_0 + 1))) || (xx19.any id) then none else some ())
theorem st2 {ns : List Int} {sa sb : Int} {n_0 : Int} {numbers_1 : List (Int × Int)} {c2 c5 c6 c7 c8 c9 c10 c11 c12 c13 c14 c15 c16 c17 : Cell} {P : Rho → Prop} {rest : Es} {s : Unit} (q : Q2 n_0 numbers_1 = some s) (h2 : PL c2) (h5 : PL c5) (h6 : PL c6) (h7 : PL c7) (h8 : PF c8) (h9 : PF c9) (h10 : PL c10) (h11 : PL c11) (h12 : PL c12) (h13 : PL c13) (h14 : PL c14) (h15 : PF c15) (h16 : PL c16) (h17 : PL c17) (n :  JN rest [.fz (.lck (IL ns)), .ow false [.int sa, .int sb], c2, .fz (.int n_0), .fz (.lst (RL numbers_1)), c5, c6, c7, c8, c9, c10, c11, c12, c13, c14, c15, c16, c17, .un, .un] P) : JN (sSeq S2 rest) [.fz (.lck (IL ns)), .ow false [.int sa, .int sb], c2, .fz (.int n_0), .fz (.lst (RL numbers_1)), c5, c6, c7, c8, c9, c10, c11, c12, c13, c14, c15, c16, c17, .un, .un] P := by
  have key : JS (sSeq S2 sNil) [.fz (.lck (IL ns)), .ow false [.int sa, .int sb], c2, .fz (.int n_0), .fz (.lst (RL numbers_1)), c5, c6, c7, c8, c9, c10, c11, c12, c13, c14, c15, c16, c17, .un, .un] (Q2 n_0 numbers_1) (PI (fun (s : Unit) (ρ : Rho) => s = () ∧ ρ = [.fz (.lck (IL ns)), .ow false [.int sa, .int sb], c2, .fz (.int n_0), .fz (.lst (RL numbers_1)), c5, c6, c7, c8, c9, c10, c11, c12, c13, c14, c15, c16, c17, .un, .un])) := by
    unfold Q2
    refine js_bd fun xx19 hh20 => ?_
    refine js_gd fun hgg22 => ?_
    refine js_ifF (v_orS (v_t (v_op (v_u (v_fz rfl) rfl (len_Lr _)) (v_opR (v_fz rfl) v_c rfl rfl rfl) rfl rfl rfl)) (v_t (v_u (v_lcS (enc := D.bl) (ρw := [.fz (.lck (IL ns)), .ow false [.int sa, .int sb], c2, .fz (.int n_0), .fz (.lst (RL numbers_1)), c5, c6, c7, c8, .un, c10, c11, c12, c13, c14, c15, c16, c17, .un, .un]) (v_rg1S (v_cons (v_opR (v_fz rfl) v_c rfl rfl rfl) rfl v_nil) (an1 hgg22)) (noOwn1 rfl h9) (an2 hgg22) rfl (fun ii1 v hv => by (try dsimp only at hv); (obtain ⟨xx10, hh11, hv⟩ := bd_some hv); (obtain ⟨tt12, hh13, hv⟩ := bd_some hv); (obtain ⟨tt14, hh15, hv⟩ := bd_some hv); (obtain ⟨tt16, hh17, hv⟩ := bd_some hv); (obtain ⟨hgg18, hv⟩ := gd_some hv); (cases hv); (exact ⟨_, _, rfl, (v_neRR (v_call0 (v_cons (v_lcS (enc := rD) (ρw := [.fz (.lck (IL ns)), .ow false [.int sa, .int sb], c2, .fz (.int n_0), .fz (.lst (RL numbers_1)), c5, c6, c7, .un, .fz (.int ii1), c10, c11, c12, c13, c14, c15, c16, c17, .un, .un]) (v_rg1S (v_cons (v_opR (v_fz rfl) v_c rfl rfl rfl) rfl v_nil) (an1 hgg18)) (noOwn1 rfl h8) (an2 hgg18) rfl (fun ii2 v hv => by (try dsimp only at hv); (obtain ⟨tt3, hh4, hv⟩ := bd_some hv); (obtain ⟨tt5, hh6, hv⟩ := bd_some hv); (obtain ⟨tt7, hh8, hv⟩ := bd_some hv); (obtain ⟨hgg9, hv⟩ := gd_some hv); (cases hv); (exact ⟨_, _, rfl, (v_opRR (v_op (v_fz rfl) (v_fz rfl) rfl rfl (ix_rL hgg9)) (v_new1 (v_cons (v_call0 (v_cons (v_opR (v_fz rfl) v_c rfl rfl rfl) rfl (v_cons (v_fz rfl) rfl v_nil)) rfl (sim__law_choose hh4)) rfl v_nil) (sim_Ratio hh6)) rfl rfl (sim_Ratio_mul hh8)), rfl⟩)) rfl hh11) rfl v_nil) rfl (sim__law_sum hh13)) (v_new1 (v_cons (v_u (v_op (v_fz rfl) v_c rfl rfl rfl) rfl (int_b _)) rfl v_nil) (sim_Ratio hh15)) rfl rfl (sim_Ratio_eq hh17)), rfl⟩)) rfl hh20) rfl any_L))) fun _ => ?_
    exact js_end rfl ⟨rfl, rfl⟩
  obtain ⟨ρ2, e, es, rfl⟩ := key s q
  exact jn_st (by rw [seq_nil] at e; exact e) (n )
def Q3 (n_0 : Int) (numbers_1 : List (Int × Int)) : Option (Unit) :=
  bd (A_bernoulli_by_triangle (n_0)) fun tt1 => bd (A_Ratio_eq tt1 ((numbers_1).getD (n_0).toNat (0, 1))) fun tt3 => bd (A_bernoulli (n_0)) fun tt5 => bd (A_Ratio_eq tt5 ((numbers_1).getD (n_0).toNat (0, 1))) fun tt7 => gd (decide (0 ≤ n_0) && decide (n_0 < ((numbers_1).length : Int))) (if (!(tt7)) || (!(tt3)) then none else some ())
theorem st3 {ns : List Int} {sa sb : Int} {n_0 : Int} {numbers_1 : List (Int × Int)} {c2 c5 c6 c7 c8 c9 c10 c11 c12 c13 c14 c15 c16 c17 : Cell} {P : Rho → Prop} {rest : Es} {s : Unit} (q : Q3 n_0 numbers_1 = some s) (h2 : PL c2) (h5 : PL c5) (h6 : PL c6) (h7 : PL c7) (h8 : PF c8) (h9 : PF c9) (h10 : PL c10) (h11 : PL c11) (h12 : PL c12) (h13 : PL c13) (h14 : PL c14) (h15 : PF c15) (h16 : PL c16) (h17 : PL c17) (n :  JN rest [.fz (.lck (IL ns)), .ow false [.int sa, .int sb], c2, .fz (.int n_0), .fz (.lst (RL numbers_1)), c5, c6, c7, c8, c9, c10, c11, c12, c13, c14, c15, c16, c17, .un, .un] P) : JN (sSeq S3 rest) [.fz (.lck (IL ns)), .ow false [.int sa, .int sb], c2, .fz (.int n_0), .fz (.lst (RL numbers_1)), c5, c6, c7, c8, c9, c10, c11, c12, c13, c14, c15, c16, c17, .un, .un] P := by
  have key : JS (sSeq S3 sNil) [.fz (.lck (IL ns)), .ow false [.int sa, .int sb], c2, .fz (.int n_0), .fz (.lst (RL numbers_1)), c5, c6, c7, c8, c9, c10, c11, c12, c13, c14, c15, c16, c17, .un, .un] (Q3 n_0 numbers_1) (PI (fun (s : Unit) (ρ : Rho) => s = () ∧ ρ = [.fz (.lck (IL ns)), .ow false [.int sa, .int sb], c2, .fz (.int n_0), .fz (.lst (RL numbers_1)), c5, c6, c7, c8, c9, c10, c11, c12, c13, c14, c15, c16, c17, .un, .un])) := by
    unfold Q3
    refine js_bd fun tt1 hh2 => ?_
    refine js_bd fun tt3 hh4 => ?_
    refine js_bd fun tt5 hh6 => ?_
    refine js_bd fun tt7 hh8 => ?_
    refine js_gd fun hgg10 => ?_
    refine js_ifF (v_orS (v_not (v_t (v_call0 (v_cons v_c rfl (v_cons (v_tup (v_cons (v_fz rfl) rfl v_nil) rfl) rfl (v_cons (v_op (v_fz rfl) (v_fz rfl) rfl rfl (ix_rL hgg10)) rfl v_nil))) rfl (tells_g (told1 rfl (sim_bernoulli hh6)) (same_rat hh8))))) (v_not (v_t (v_call0 (v_cons v_c rfl (v_cons (v_tup (v_cons (v_fz rfl) rfl v_nil) rfl) rfl (v_cons (v_op (v_fz rfl) (v_fz rfl) rfl rfl (ix_rL hgg10)) rfl v_nil))) rfl (tells_g (told1 rfl (sim_bernoulli_by_triangle hh2)) (same_rat hh4)))))) fun _ => ?_
    exact js_end rfl ⟨rfl, rfl⟩
  obtain ⟨ρ2, e, es, rfl⟩ := key s q
  exact jn_st (by rw [seq_nil] at e; exact e) (n )
theorem st4 {ns : List Int} {sa sb : Int} {n_0 : Int} {numbers_1 : List (Int × Int)} {c2 c5 c6 c7 c8 c9 c10 c11 c12 c13 c14 c15 c16 c17 : Cell} {P : Rho → Prop} {rest : Es} (h2 : PL c2) (h5 : PL c5) (h6 : PL c6) (h7 : PL c7) (h8 : PF c8) (h9 : PF c9) (h10 : PL c10) (h11 : PL c11) (h12 : PL c12) (h13 : PL c13) (h14 : PL c14) (h15 : PF c15) (h16 : PL c16) (h17 : PL c17) (mvb0 : (0 : Int) < (19 : Int)) (mvb1 : (19 : Int) < 1000000) (mvc0 : (0 : Int) < (2 : Int)) (mvc1 : (2 : Int) < 1000000) (hna : ∀ v w : Int, 0 ≤ v → v < 19 → 0 ≤ w → w < 3 → ∃ t, A_Ratio (v - 9) (1 + w) = some t) (n0 : ∀ (va wa : Int) (ta : Int × Int), 0 ≤ va → va < 19 → 0 ≤ wa → wa < 3 → A_Ratio (va - 9) (1 + wa) = some ta → ∀ vb : Int, 0 ≤ vb → vb < 19 → ∀ a' b' : Int, JN rest [.fz (.lck (IL ns)), .ow false [.int a', .int b'], c2, .fz (.int n_0), .fz (.lst (RL numbers_1)), .fz (.obj 3 [.int ta.1, .int ta.2]), c6, c7, c8, c9, c10, c11, c12, c13, c14, c15, c16, c17, .un, .un] P) (n1 : ∀ (va wa : Int) (ta : Int × Int), 0 ≤ va → va < 19 → 0 ≤ wa → wa < 3 → A_Ratio (va - 9) (1 + wa) = some ta → ∀ vb : Int, 0 ≤ vb → vb < 19 → ∀ a' b' : Int, JN rest [.fz (.lck (IL ns)), .ow false [.int a', .int b'], c2, .fz (.int n_0), .fz (.lst (RL numbers_1)), .fz (.int (vb - 9)), c6, c7, c8, c9, c10, c11, c12, c13, c14, c15, c16, c17, .un, .un] P) : JN (sSeq S4 rest) [.fz (.lck (IL ns)), .ow false [.int sa, .int sb], c2, .fz (.int n_0), .fz (.lst (RL numbers_1)), c5, c6, c7, c8, c9, c10, c11, c12, c13, c14, c15, c16, c17, .un, .un] P := by
  obtain ⟨va, wa, a0, b0, ⟨va0, va1⟩, ⟨wa0, wa1⟩, edva⟩ := num_eq9 sa sb
  obtain ⟨ta, hta⟩ := hna va wa va0 va1 wa0 wa1
  obtain ⟨vb, a1, b1, ⟨vb0, vb1⟩, edvb⟩ := take_eq (a := a0) (b := b0) mvb0 mvb1
  obtain ⟨vc, a', b', ⟨vc0, vc1⟩, edvc⟩ := take_eq (a := a1) (b := b1) mvc0 mvc1
  have hv : vc = 0 ∨ vc = 1 := by omega
  rcases hv with rfl | rfl
  · have e : S4 [.fz (.lck (IL ns)), .ow false [.int sa, .int sb], c2, .fz (.int n_0), .fz (.lst (RL numbers_1)), c5, c6, c7, c8, c9, c10, c11, c12, c13, c14, c15, c16, c17, .un, .un] = .ok (.nx, [.fz (.lck (IL ns)), .ow false [.int a', .int b'], c2, .fz (.int n_0), .fz (.lst (RL numbers_1)), .fz (.obj 3 [.int ta.1, .int ta.2]), c6, c7, c8, c9, c10, c11, c12, c13, c14, c15, c16, c17, .un, .un]) := by
      unfold S4
      exact (v_set (v_op (v_lst (v_cons (v_callB rfl (v_cons v_c rfl v_nil) rfl rfl (edva ta hta) rfl) rfl (v_cons (v_opR (v_callB rfl (v_cons v_c rfl v_nil) rfl rfl edvb rfl) v_c rfl rfl rfl) rfl v_nil)) rfl) (v_callB rfl (v_cons v_c rfl v_nil) rfl rfl edvc rfl) rfl rfl rfl) (set_fz rfl h5 rfl))
    exact jn_st e (n0 va wa ta va0 va1 wa0 wa1 hta vb vb0 vb1 a' b')
  · have e : S4 [.fz (.lck (IL ns)), .ow false [.int sa, .int sb], c2, .fz (.int n_0), .fz (.lst (RL numbers_1)), c5, c6, c7, c8, c9, c10, c11, c12, c13, c14, c15, c16, c17, .un, .un] = .ok (.nx, [.fz (.lck (IL ns)), .ow false [.int a', .int b'], c2, .fz (.int n_0), .fz (.lst (RL numbers_1)), .fz (.int (vb - 9)), c6, c7, c8, c9, c10, c11, c12, c13, c14, c15, c16, c17, .un, .un]) := by
      unfold S4
      exact (v_set (v_op (v_lst (v_cons (v_callB rfl (v_cons v_c rfl v_nil) rfl rfl (edva ta hta) rfl) rfl (v_cons (v_opR (v_callB rfl (v_cons v_c rfl v_nil) rfl rfl edvb rfl) v_c rfl rfl rfl) rfl v_nil)) rfl) (v_callB rfl (v_cons v_c rfl v_nil) rfl rfl edvc rfl) rfl rfl rfl) (set_fz rfl h5 rfl))
    exact jn_st e (n1 va wa ta va0 va1 wa0 wa1 hta vb vb0 vb1 a' b')
def Q5a (x_4 : Int × Int) : Option ((Int × Int)) :=
  some x_4
theorem st5a {ns : List Int} {sa sb : Int} {n_0 : Int} {numbers_1 : List (Int × Int)} {x_4 : Int × Int} {c2 c6 c7 c8 c9 c10 c11 c12 c13 c14 c15 c16 c17 : Cell} {P : Rho → Prop} {rest : Es} {s : (Int × Int)} (q : Q5a x_4 = some s) (h2 : PL c2) (h6 : PL c6) (h7 : PL c7) (h8 : PF c8) (h9 : PF c9) (h10 : PL c10) (h11 : PL c11) (h12 : PL c12) (h13 : PL c13) (h14 : PL c14) (h15 : PF c15) (h16 : PL c16) (h17 : PL c17) (n :  JN rest [.fz (.lck (IL ns)), .ow false [.int sa, .int sb], c2, .fz (.int n_0), .fz (.lst (RL numbers_1)), .fz (.obj 3 [.int x_4.1, .int x_4.2]), .fz (.obj 3 [.int s.1, .int s.2]), c7, c8, c9, c10, c11, c12, c13, c14, c15, c16, c17, .un, .un] P) : JN (sSeq S5 rest) [.fz (.lck (IL ns)), .ow false [.int sa, .int sb], c2, .fz (.int n_0), .fz (.lst (RL numbers_1)), .fz (.obj 3 [.int x_4.1, .int x_4.2]), c6, c7, c8, c9, c10, c11, c12, c13, c14, c15, c16, c17, .un, .un] P := by
  have key : JS (sSeq S5 sNil) [.fz (.lck (IL ns)), .ow false [.int sa, .int sb], c2, .fz (.int n_0), .fz (.lst (RL numbers_1)), .fz (.obj 3 [.int x_4.1, .int x_4.2]), c6, c7, c8, c9, c10, c11, c12, c13, c14, c15, c16, c17, .un, .un] (Q5a x_4) (PI (fun (s : (Int × Int)) (ρ : Rho) => ∃ (y_5a : (Int × Int)), s = y_5a ∧ ρ = [.fz (.lck (IL ns)), .ow false [.int sa, .int sb], c2, .fz (.int n_0), .fz (.lst (RL numbers_1)), .fz (.obj 3 [.int x_4.1, .int x_4.2]), .fz (.obj 3 [.int y_5a.1, .int y_5a.2]), c7, c8, c9, c10, c11, c12, c13, c14, c15, c16, c17, .un, .un])) := by
    unfold Q5a
    refine js_st (v_set (v_ifTr (v_t (v_u (v_fz rfl) rfl rfl)) (v_fz rfl)) (set_fz rfl h6 rfl)) ?_
    exact js_end rfl ⟨_, rfl, rfl⟩
  obtain ⟨ρ2, e, y_5a, es, rfl⟩ := key s q
  subst es
  exact jn_st (by rw [seq_nil] at e; exact e) (n )
def Q6a (n_0 : Int) (numbers_1 : List (Int × Int)) (y_5a : Int × Int) : Option ((Int × Int)) :=
  bd (aLc (fun ii1 => bd (A__law_choose (n_0) (ii1)) fun tt2 => bd (A_Ratio (tt2) (1)) fun tt4 => bd (A_Ratio_mul ((numbers_1).getD (ii1).toNat (0, 1)) tt4) fun tt6 => bd (A__law_power (y_5a) (n_0 - ii1)) fun tt8 => bd (A_Ratio_mul tt6 tt8) fun tt10 => gd ((decide (0 ≤ ii1) && decide (ii1 < ((numbers_1).length : Int)))) (some tt10)) ((n_0 + 1 : Int) - (0 : Int)).toNat (0)) fun xx13 => bd (A__law_sum (xx13)) fun tt15 => gd (decide (-1000000000 ≤ n_0 + 1) && decide (n_0 + 1 ≤ 1000000000) && (szOk ((n_0 + 1 : Int) - (0 : Int)).toNat)) (some tt15)
theorem st6a {ns : List Int} {sa sb : Int} {n_0 : Int} {numbers_1 : List (Int × Int)} {x_4 : Int × Int} {y_5a : Int × Int} {c2 c7 c8 c9 c10 c11 c12 c13 c14 c15 c16 c17 : Cell} {P : Rho → Prop} {rest : Es} {s : (Int × Int)} (q : Q6a n_0 numbers_1 y_5a = some s) (h2 : PL c2) (h7 : PL c7) (h8 : PF c8) (h9 : PF c9) (h10 : PL c10) (h11 : PL c11) (h12 : PL c12) (h13 : PL c13) (h14 : PL c14) (h15 : PF c15) (h16 : PL c16) (h17 : PL c17) (n :  JN rest [.fz (.lck (IL ns)), .ow false [.int sa, .int sb], c2, .fz (.int n_0), .fz (.lst (RL numbers_1)), .fz (.obj 3 [.int x_4.1, .int x_4.2]), .fz (.obj 3 [.int y_5a.1, .int y_5a.2]), .fz (.obj 3 [.int s.1, .int s.2]), c8, c9, c10, c11, c12, c13, c14, c15, c16, c17, .un, .un] P) : JN (sSeq S6 rest) [.fz (.lck (IL ns)), .ow false [.int sa, .int sb], c2, .fz (.int n_0), .fz (.lst (RL numbers_1)), .fz (.obj 3 [.int x_4.1, .int x_4.2]), .fz (.obj 3 [.int y_5a.1, .int y_5a.2]), c7, c8, c9, c10, c11, c12, c13, c14, c15, c16, c17, .un, .un] P := by
  have key : JS (sSeq S6 sNil) [.fz (.lck (IL ns)), .ow false [.int sa, .int sb], c2, .fz (.int n_0), .fz (.lst (RL numbers_1)), .fz (.obj 3 [.int x_4.1, .int x_4.2]), .fz (.obj 3 [.int y_5a.1, .int y_5a.2]), c7, c8, c9, c10, c11, c12, c13, c14, c15, c16, c17, .un, .un] (Q6a n_0 numbers_1 y_5a) (PI (fun (s : (Int × Int)) (ρ : Rho) => ∃ (due_6a : (Int × Int)), s = due_6a ∧ ρ = [.fz (.lck (IL ns)), .ow false [.int sa, .int sb], c2, .fz (.int n_0), .fz (.lst (RL numbers_1)), .fz (.obj 3 [.int x_4.1, .int x_4.2]), .fz (.obj 3 [.int y_5a.1, .int y_5a.2]), .fz (.obj 3 [.int due_6a.1, .int due_6a.2]), c8, c9, c10, c11, c12, c13, c14, c15, c16, c17, .un, .un])) := by
    unfold Q6a
    refine js_bd fun xx13 hh14 => ?_
    refine js_bd fun tt15 hh16 => ?_
    refine js_gd fun hgg17 => ?_
    refine js_st (v_set (v_call0 (v_cons (v_lcS (enc := rD) (ρw := [.fz (.lck (IL ns)), .ow false [.int sa, .int sb], c2, .fz (.int n_0), .fz (.lst (RL numbers_1)), .fz (.obj 3 [.int x_4.1, .int x_4.2]), .fz (.obj 3 [.int y_5a.1, .int y_5a.2]), c7, .un, c9, c10, c11, c12, c13, c14, c15, c16, c17, .un, .un]) (v_rg1S (v_cons (v_opR (v_fz rfl) v_c rfl rfl rfl) rfl v_nil) (an1 hgg17)) (noOwn1 rfl h8) (an2 hgg17) rfl (fun ii1 v hv => by (try dsimp only at hv); (obtain ⟨tt2, hh3, hv⟩ := bd_some hv); (obtain ⟨tt4, hh5, hv⟩ := bd_some hv); (obtain ⟨tt6, hh7, hv⟩ := bd_some hv); (obtain ⟨tt8, hh9, hv⟩ := bd_some hv); (obtain ⟨tt10, hh11, hv⟩ := bd_some hv); (obtain ⟨hgg12, hv⟩ := gd_some hv); (cases hv); (exact ⟨_, _, rfl, (v_opRR (v_opRR (v_op (v_fz rfl) (v_fz rfl) rfl rfl (ix_rL hgg12)) (v_new1 (v_cons (v_call0 (v_cons (v_fz rfl) rfl (v_cons (v_fz rfl) rfl v_nil)) rfl (sim__law_choose hh3)) rfl v_nil) (sim_Ratio hh5)) rfl rfl (sim_Ratio_mul hh7)) (v_call0 (v_cons (v_fz rfl) rfl (v_cons (v_opR (v_fz rfl) (v_fz rfl) rfl rfl rfl) rfl v_nil)) rfl (sim__law_power hh9)) rfl rfl (sim_Ratio_mul hh11)), rfl⟩)) rfl hh14) rfl v_nil) rfl (sim__law_sum hh16)) (set_fz rfl h7 rfl)) ?_
    exact js_end rfl ⟨_, rfl, rfl⟩
  obtain ⟨ρ2, e, due_6a, es, rfl⟩ := key s q
  subst es
  exact jn_st (by rw [seq_nil] at e; exact e) (n )
def Q7a (n_0 : Int) (x_4 : Int × Int) (y_5a : Int × Int) (due_6a : Int × Int) : Option (Unit) :=
  bd (A_Ratio (1) (1)) fun tt1 => bd (A_Ratio_add y_5a tt1) fun tt3 => bd (A_bernoulli_value_v1 (n_0) (tt3)) fun tt5 => bd (A_Ratio_sub tt5 due_6a) fun tt7 => bd (A_Ratio (n_0) (1)) fun tt9 => bd (A__law_power (y_5a) (n_0 - 1)) fun tt11 => bd (A_Ratio_mul tt9 tt11) fun tt13 => bd (A_Ratio (0) (1)) fun tt15 => bd (A_Ratio_eq tt7 (if decide (0 < n_0) then tt13.1 else tt15.1, if decide (0 < n_0) then tt13.2 else tt15.2)) fun tt17 => bd (A_bernoulli_value_v1 (n_0) (x_4)) fun tt19 => bd (A_Ratio_eq tt19 due_6a) fun tt21 => if (!(tt21)) || (!(tt17)) then none else some ()
theorem st7a {ns : List Int} {sa sb : Int} {n_0 : Int} {numbers_1 : List (Int × Int)} {x_4 : Int × Int} {y_5a : Int × Int} {due_6a : Int × Int} {c2 c8 c9 c10 c11 c12 c13 c14 c15 c16 c17 : Cell} {P : Rho → Prop} {rest : Es} {s : Unit} (q : Q7a n_0 x_4 y_5a due_6a = some s) (h2 : PL c2) (h8 : PF c8) (h9 : PF c9) (h10 : PL c10) (h11 : PL c11) (h12 : PL c12) (h13 : PL c13) (h14 : PL c14) (h15 : PF c15) (h16 : PL c16) (h17 : PL c17) (n :  JN rest [.fz (.lck (IL ns)), .ow false [.int sa, .int sb], c2, .fz (.int n_0), .fz (.lst (RL numbers_1)), .fz (.obj 3 [.int x_4.1, .int x_4.2]), .fz (.obj 3 [.int y_5a.1, .int y_5a.2]), .fz (.obj 3 [.int due_6a.1, .int due_6a.2]), c8, c9, c10, c11, c12, c13, c14, c15, c16, c17, .un, .un] P) : JN (sSeq S7 rest) [.fz (.lck (IL ns)), .ow false [.int sa, .int sb], c2, .fz (.int n_0), .fz (.lst (RL numbers_1)), .fz (.obj 3 [.int x_4.1, .int x_4.2]), .fz (.obj 3 [.int y_5a.1, .int y_5a.2]), .fz (.obj 3 [.int due_6a.1, .int due_6a.2]), c8, c9, c10, c11, c12, c13, c14, c15, c16, c17, .un, .un] P := by
  have key : JS (sSeq S7 sNil) [.fz (.lck (IL ns)), .ow false [.int sa, .int sb], c2, .fz (.int n_0), .fz (.lst (RL numbers_1)), .fz (.obj 3 [.int x_4.1, .int x_4.2]), .fz (.obj 3 [.int y_5a.1, .int y_5a.2]), .fz (.obj 3 [.int due_6a.1, .int due_6a.2]), c8, c9, c10, c11, c12, c13, c14, c15, c16, c17, .un, .un] (Q7a n_0 x_4 y_5a due_6a) (PI (fun (s : Unit) (ρ : Rho) => s = () ∧ ρ = [.fz (.lck (IL ns)), .ow false [.int sa, .int sb], c2, .fz (.int n_0), .fz (.lst (RL numbers_1)), .fz (.obj 3 [.int x_4.1, .int x_4.2]), .fz (.obj 3 [.int y_5a.1, .int y_5a.2]), .fz (.obj 3 [.int due_6a.1, .int due_6a.2]), c8, c9, c10, c11, c12, c13, c14, c15, c16, c17, .un, .un])) := by
    unfold Q7a
    refine js_bd fun tt1 hh2 => ?_
    refine js_bd fun tt3 hh4 => ?_
    refine js_bd fun tt5 hh6 => ?_
    refine js_bd fun tt7 hh8 => ?_
    refine js_bd fun tt9 hh10 => ?_
    refine js_bd fun tt11 hh12 => ?_
    refine js_bd fun tt13 hh14 => ?_
    refine js_bd fun tt15 hh16 => ?_
    refine js_bd fun tt17 hh18 => ?_
    refine js_bd fun tt19 hh20 => ?_
    refine js_bd fun tt21 hh22 => ?_
    refine js_ifF (v_orS (v_not (v_t (v_call0 (v_cons v_c rfl (v_cons (v_tup (v_cons (v_fz rfl) rfl (v_cons (v_fz rfl) rfl v_nil)) rfl) rfl (v_cons (v_fz rfl) rfl v_nil))) rfl (tells_g (told2 rfl (sim_bernoulli_value_v1 hh20)) (same_rat hh22))))) (v_t (v_neRR (v_opRR (v_call0 (v_cons v_c rfl (v_cons (v_tup (v_cons (v_fz rfl) rfl (v_cons (v_opRR (v_fz rfl) (v_new1 (v_cons v_c rfl v_nil) (sim_Ratio hh2)) rfl rfl (sim_Ratio_add hh4)) rfl v_nil)) rfl) rfl v_nil)) rfl (val2 rfl (sim_bernoulli_value_v1 hh6))) (v_fz rfl) rfl rfl (sim_Ratio_sub hh8)) (v_ifR (v_t (v_op (v_fz rfl) v_c rfl rfl rfl)) (v_opRR (v_new1 (v_cons (v_fz rfl) rfl v_nil) (sim_Ratio hh10)) (v_call0 (v_cons (v_fz rfl) rfl (v_cons (v_opR (v_fz rfl) v_c rfl rfl rfl) rfl v_nil)) rfl (sim__law_power hh12)) rfl rfl (sim_Ratio_mul hh14)) (v_new1 (v_cons v_c rfl v_nil) (sim_Ratio hh16))) rfl rfl (sim_Ratio_eq hh18)))) fun _ => ?_
    exact js_end rfl ⟨rfl, rfl⟩
  obtain ⟨ρ2, e, es, rfl⟩ := key s q
  exact jn_st (by rw [seq_nil] at e; exact e) (n )
theorem st8a {ns : List Int} {sa sb : Int} {n_0 : Int} {numbers_1 : List (Int × Int)} {x_4 : Int × Int} {y_5a : Int × Int} {due_6a : Int × Int} {c2 c8 c9 c10 c11 c12 c13 c14 c15 c16 c17 : Cell} {P : Rho → Prop} {rest : Es} (h2 : PL c2) (h8 : PF c8) (h9 : PF c9) (h10 : PL c10) (h11 : PL c11) (h12 : PL c12) (h13 : PL c13) (h14 : PL c14) (h15 : PF c15) (h16 : PL c16) (h17 : PL c17) (mva0 : (0 : Int) < (9 : Int)) (mva1 : (9 : Int) < 1000000) (mvb0 : (0 : Int) < (30 : Int)) (mvb1 : (30 : Int) < 1000000) (n : ∀ va vb a' b' : Int, 0 ≤ va → va < (9 : Int) → 0 ≤ vb → vb < (30 : Int) → JN rest [.fz (.lck (IL ns)), .ow false [.int a', .int b'], c2, .fz (.int n_0), .fz (.lst (RL numbers_1)), .fz (.obj 3 [.int x_4.1, .int x_4.2]), .fz (.obj 3 [.int y_5a.1, .int y_5a.2]), .fz (.obj 3 [.int due_6a.1, .int due_6a.2]), .fz (.int va), .fz (.int vb), c10, c11, c12, c13, c14, c15, c16, c17, .un, .un] P) : JN (sSeq S8 rest) [.fz (.lck (IL ns)), .ow false [.int sa, .int sb], c2, .fz (.int n_0), .fz (.lst (RL numbers_1)), .fz (.obj 3 [.int x_4.1, .int x_4.2]), .fz (.obj 3 [.int y_5a.1, .int y_5a.2]), .fz (.obj 3 [.int due_6a.1, .int due_6a.2]), c8, c9, c10, c11, c12, c13, c14, c15, c16, c17, .un, .un] P := by
  obtain ⟨va, a0, b0, ⟨va0, va1⟩, edva⟩ := take_eq (a := sa) (b := sb) mva0 mva1
  obtain ⟨vb, a', b', ⟨vb0, vb1⟩, edvb⟩ := take_eq (a := a0) (b := b0) mvb0 mvb1
  have e : S8 [.fz (.lck (IL ns)), .ow false [.int sa, .int sb], c2, .fz (.int n_0), .fz (.lst (RL numbers_1)), .fz (.obj 3 [.int x_4.1, .int x_4.2]), .fz (.obj 3 [.int y_5a.1, .int y_5a.2]), .fz (.obj 3 [.int due_6a.1, .int due_6a.2]), c8, c9, c10, c11, c12, c13, c14, c15, c16, c17, .un, .un] = .ok (.nx, [.fz (.lck (IL ns)), .ow false [.int a', .int b'], c2, .fz (.int n_0), .fz (.lst (RL numbers_1)), .fz (.obj 3 [.int x_4.1, .int x_4.2]), .fz (.obj 3 [.int y_5a.1, .int y_5a.2]), .fz (.obj 3 [.int due_6a.1, .int due_6a.2]), .fz (.int va), .fz (.int vb), c10, c11, c12, c13, c14, c15, c16, c17, .un, .un]) := by
    unfold S8
    exact (by apply v_unpT; (exact (v_tup (v_cons (v_callB rfl (v_cons v_c rfl v_nil) rfl rfl edva rfl) rfl (v_cons (v_callB rfl (v_cons v_c rfl v_nil) rfl rfl edvb rfl) rfl v_nil)) rfl)); (exact (bindL_c (set_R rfl (pf_pl h8) rfl) (bindL_c (set_R rfl (pf_pl h9) rfl) rfl))))
  exact jn_st e (n va vb a' b' va0 va1 vb0 vb1)
def Q9a (k_8a : Int) (m_8a : Int) : Option (Unit) :=
  bd (aLc (fun ii1 => bd (A__law_raised (ii1) (k_8a)) fun tt2 => some tt2) ((m_8a : Int) - (0 : Int)).toNat (0)) fun xx4 => bd (A_power_sum (k_8a) (m_8a)) fun tt6 => gd (decide (-1000000000 ≤ m_8a) && decide (m_8a ≤ 1000000000) && (szOk ((m_8a : Int) - (0 : Int)).toNat)) (if !(decide (tt6 = xx4.sum)) then none else some ())
theorem st9a {ns : List Int} {sa sb : Int} {n_0 : Int} {numbers_1 : List (Int × Int)} {x_4 : Int × Int} {y_5a : Int × Int} {due_6a : Int × Int} {k_8a : Int} {m_8a : Int} {c2 c10 c11 c12 c13 c14 c15 c16 c17 : Cell} {P : Rho → Prop} {rest : Es} {s : Unit} (q : Q9a k_8a m_8a = some s) (h2 : PL c2) (h10 : PL c10) (h11 : PL c11) (h12 : PL c12) (h13 : PL c13) (h14 : PL c14) (h15 : PF c15) (h16 : PL c16) (h17 : PL c17) (n :  JN rest [.fz (.lck (IL ns)), .ow false [.int sa, .int sb], c2, .fz (.int n_0), .fz (.lst (RL numbers_1)), .fz (.obj 3 [.int x_4.1, .int x_4.2]), .fz (.obj 3 [.int y_5a.1, .int y_5a.2]), .fz (.obj 3 [.int due_6a.1, .int due_6a.2]), .fz (.int k_8a), .fz (.int m_8a), c10, c11, c12, c13, c14, c15, c16, c17, .un, .un] P) : JN (sSeq S9 rest) [.fz (.lck (IL ns)), .ow false [.int sa, .int sb], c2, .fz (.int n_0), .fz (.lst (RL numbers_1)), .fz (.obj 3 [.int x_4.1, .int x_4.2]), .fz (.obj 3 [.int y_5a.1, .int y_5a.2]), .fz (.obj 3 [.int due_6a.1, .int due_6a.2]), .fz (.int k_8a), .fz (.int m_8a), c10, c11, c12, c13, c14, c15, c16, c17, .un, .un] P := by
  have key : JS (sSeq S9 sNil) [.fz (.lck (IL ns)), .ow false [.int sa, .int sb], c2, .fz (.int n_0), .fz (.lst (RL numbers_1)), .fz (.obj 3 [.int x_4.1, .int x_4.2]), .fz (.obj 3 [.int y_5a.1, .int y_5a.2]), .fz (.obj 3 [.int due_6a.1, .int due_6a.2]), .fz (.int k_8a), .fz (.int m_8a), c10, c11, c12, c13, c14, c15, c16, c17, .un, .un] (Q9a k_8a m_8a) (PI (fun (s : Unit) (ρ : Rho) => s = () ∧ ρ = [.fz (.lck (IL ns)), .ow false [.int sa, .int sb], c2, .fz (.int n_0), .fz (.lst (RL numbers_1)), .fz (.obj 3 [.int x_4.1, .int x_4.2]), .fz (.obj 3 [.int y_5a.1, .int y_5a.2]), .fz (.obj 3 [.int due_6a.1, .int due_6a.2]), .fz (.int k_8a), .fz (.int m_8a), c10, c11, c12, c13, c14, c15, c16, c17, .un, .un])) := by
    unfold Q9a
    refine js_bd fun xx4 hh5 => ?_
    refine js_bd fun tt6 hh7 => ?_
    refine js_gd fun hgg9 => ?_
    refine js_ifF (v_not (v_t (v_call0 (v_cons v_c rfl (v_cons (v_tup (v_cons (v_fz rfl) rfl (v_cons (v_fz rfl) rfl v_nil)) rfl) rfl (v_cons (v_u (v_lcS (enc := D.int) (ρw := [.fz (.lck (IL ns)), .ow false [.int sa, .int sb], c2, .fz (.int n_0), .fz (.lst (RL numbers_1)), .fz (.obj 3 [.int x_4.1, .int x_4.2]), .fz (.obj 3 [.int y_5a.1, .int y_5a.2]), .fz (.obj 3 [.int due_6a.1, .int due_6a.2]), .fz (.int k_8a), .fz (.int m_8a), c10, c11, c12, c13, c14, c15, c16, c17, .un, .un]) (v_rg1S (v_cons (v_fz rfl) rfl v_nil) (an1 hgg9)) rfl (an2 hgg9) rfl (fun ii1 v hv => by (try dsimp only at hv); (obtain ⟨tt2, hh3, hv⟩ := bd_some hv); (cases hv); (exact ⟨_, _, rfl, (v_call0 (v_cons (v_fz rfl) rfl (v_cons (v_fz rfl) rfl v_nil)) rfl (sim__law_raised hh3)), rfl⟩)) rfl hh5) rfl sum_L) rfl v_nil))) rfl (tells2 rfl (sim_power_sum hh7))))) fun _ => ?_
    exact js_end rfl ⟨rfl, rfl⟩
  obtain ⟨ρ2, e, es, rfl⟩ := key s q
  exact jn_st (by rw [seq_nil] at e; exact e) (n )
theorem st10a {ns : List Int} {sa sb : Int} {n_0 : Int} {numbers_1 : List (Int × Int)} {x_4 : Int × Int} {y_5a : Int × Int} {due_6a : Int × Int} {k_8a : Int} {m_8a : Int} {c2 c10 c11 c12 c13 c14 c15 c16 c17 : Cell} {P : Rho → Prop} {rest : Es} (h2 : PL c2) (h10 : PL c10) (h11 : PL c11) (h12 : PL c12) (h13 : PL c13) (h14 : PL c14) (h15 : PF c15) (h16 : PL c16) (h17 : PL c17) (mva0 : (0 : Int) < (12 : Int)) (mva1 : (12 : Int) < 1000000) (n : ∀ va a' b' : Int, 0 ≤ va → va < (12 : Int) → ((mulOk 2 (1 + va))) = true ∧ JN rest [.fz (.lck (IL ns)), .ow false [.int a', .int b'], c2, .fz (.int n_0), .fz (.lst (RL numbers_1)), .fz (.obj 3 [.int x_4.1, .int x_4.2]), .fz (.obj 3 [.int y_5a.1, .int y_5a.2]), .fz (.obj 3 [.int due_6a.1, .int due_6a.2]), .fz (.int k_8a), .fz (.int m_8a), .fz (.int (2 * (1 + va))), c11, c12, c13, c14, c15, c16, c17, .un, .un] P) : JN (sSeq S10 rest) [.fz (.lck (IL ns)), .ow false [.int sa, .int sb], c2, .fz (.int n_0), .fz (.lst (RL numbers_1)), .fz (.obj 3 [.int x_4.1, .int x_4.2]), .fz (.obj 3 [.int y_5a.1, .int y_5a.2]), .fz (.obj 3 [.int due_6a.1, .int due_6a.2]), .fz (.int k_8a), .fz (.int m_8a), c10, c11, c12, c13, c14, c15, c16, c17, .un, .un] P := by
  obtain ⟨va, a', b', ⟨va0, va1⟩, edva⟩ := take_eq (a := sa) (b := sb) mva0 mva1
  obtain ⟨hg, nn⟩ := n va a' b' va0 va1
  have e : S10 [.fz (.lck (IL ns)), .ow false [.int sa, .int sb], c2, .fz (.int n_0), .fz (.lst (RL numbers_1)), .fz (.obj 3 [.int x_4.1, .int x_4.2]), .fz (.obj 3 [.int y_5a.1, .int y_5a.2]), .fz (.obj 3 [.int due_6a.1, .int due_6a.2]), .fz (.int k_8a), .fz (.int m_8a), c10, c11, c12, c13, c14, c15, c16, c17, .un, .un] = .ok (.nx, [.fz (.lck (IL ns)), .ow false [.int a', .int b'], c2, .fz (.int n_0), .fz (.lst (RL numbers_1)), .fz (.obj 3 [.int x_4.1, .int x_4.2]), .fz (.obj 3 [.int y_5a.1, .int y_5a.2]), .fz (.obj 3 [.int due_6a.1, .int due_6a.2]), .fz (.int k_8a), .fz (.int m_8a), .fz (.int (2 * (1 + va))), c11, c12, c13, c14, c15, c16, c17, .un, .un]) := by
    unfold S10
    exact (v_set (v_opR v_c (v_opR v_c (v_callB rfl (v_cons v_c rfl v_nil) rfl rfl edva rfl) rfl rfl rfl) rfl rfl (gMul2_int hg)) (set_fz rfl h10 rfl))
  exact jn_st e nn
def Q11a (even_10a : Int) : Option ((List Int)) :=
  bd (aLcF (fun ii1 => bd (aLc (fun ii2 => gd ((decide (0 < ii2))) (some (!(decide (ii1 % ii2 = 0))))) ((ii1 : Int) - (2 : Int)).toNat (2)) fun xx4 => gd ((decide (0 < ii1 - 1)) && ((decide (-1000000000 ≤ 2) && (decide (2 ≤ 1000000000) && (decide (-1000000000 ≤ ii1) && decide (ii1 ≤ 1000000000)))) && ((szOk ((ii1 : Int) - (2 : Int)).toNat)))) (if (xx4.all id) && (decide (even_10a % (ii1 - 1) = 0)) then some (some ii1) else some none)) ((even_10a + 2 : Int) - (2 : Int)).toNat (2)) fun xx7 => gd (decide (-1000000000 ≤ 2) && (decide (2 ≤ 1000000000) && (decide (-1000000000 ≤ even_10a + 2) && decide (even_10a + 2 ≤ 1000000000))) && (szOk ((even_10a + 2 : Int) - (2 : Int)).toNat)) (some xx7)
theorem st11a {ns : List Int} {sa sb : Int} {n_0 : Int} {numbers_1 : List (Int × Int)} {x_4 : Int × Int} {y_5a : Int × Int} {due_6a : Int × Int} {k_8a : Int} {m_8a : Int} {even_10a : Int} {c2 c11 c12 c13 c14 c15 c16 c17 : Cell} {P : Rho → Prop} {rest : Es} {s : (List Int)} (q : Q11a even_10a = some s) (h2 : PL c2) (h11 : PL c11) (h12 : PL c12) (h13 : PL c13) (h14 : PL c14) (h15 : PF c15) (h16 : PL c16) (h17 : PL c17) (n :  JN rest [.fz (.lck (IL ns)), .ow false [.int sa, .int sb], c2, .fz (.int n_0), .fz (.lst (RL numbers_1)), .fz (.obj 3 [.int x_4.1, .int x_4.2]), .fz (.obj 3 [.int y_5a.1, .int y_5a.2]), .fz (.obj 3 [.int due_6a.1, .int due_6a.2]), .fz (.int k_8a), .fz (.int m_8a), .fz (.int even_10a), .ow false (IL s), c12, c13, c14, c15, c16, c17, .un, .un] P) : JN (sSeq S11 rest) [.fz (.lck (IL ns)), .ow false [.int sa, .int sb], c2, .fz (.int n_0), .fz (.lst (RL numbers_1)), .fz (.obj 3 [.int x_4.1, .int x_4.2]), .fz (.obj 3 [.int y_5a.1, .int y_5a.2]), .fz (.obj 3 [.int due_6a.1, .int due_6a.2]), .fz (.int k_8a), .fz (.int m_8a), .fz (.int even_10a), c11, c12, c13, c14, c15, c16, c17, .un, .un] P := by
  have key : JS (sSeq S11 sNil) [.fz (.lck (IL ns)), .ow false [.int sa, .int sb], c2, .fz (.int n_0), .fz (.lst (RL numbers_1)), .fz (.obj 3 [.int x_4.1, .int x_4.2]), .fz (.obj 3 [.int y_5a.1, .int y_5a.2]), .fz (.obj 3 [.int due_6a.1, .int due_6a.2]), .fz (.int k_8a), .fz (.int m_8a), .fz (.int even_10a), c11, c12, c13, c14, c15, c16, c17, .un, .un] (Q11a even_10a) (PI (fun (s : (List Int)) (ρ : Rho) => ∃ (primes_11a : (List Int)), s = primes_11a ∧ ρ = [.fz (.lck (IL ns)), .ow false [.int sa, .int sb], c2, .fz (.int n_0), .fz (.lst (RL numbers_1)), .fz (.obj 3 [.int x_4.1, .int x_4.2]), .fz (.obj 3 [.int y_5a.1, .int y_5a.2]), .fz (.obj 3 [.int due_6a.1, .int due_6a.2]), .fz (.int k_8a), .fz (.int m_8a), .fz (.int even_10a), .ow false (IL primes_11a), c12, c13, c14, c15, c16, c17, .un, .un])) := by
    unfold Q11a
    refine js_bd fun xx7 hh8 => ?_
    refine js_gd fun hgg9 => ?_
    refine js_st (v_set (v_lcF (enc := D.int) (ρw := [.fz (.lck (IL ns)), .ow false [.int sa, .int sb], c2, .fz (.int n_0), .fz (.lst (RL numbers_1)), .fz (.obj 3 [.int x_4.1, .int x_4.2]), .fz (.obj 3 [.int y_5a.1, .int y_5a.2]), .fz (.obj 3 [.int due_6a.1, .int due_6a.2]), .fz (.int k_8a), .fz (.int m_8a), .fz (.int even_10a), c11, c12, c13, c14, .un, c16, c17, .un, .un]) (v_rg2 (v_cons v_c rfl (v_cons (v_opR (v_fz rfl) v_c rfl rfl rfl) rfl v_nil)) (an1 hgg9)) (noOwn1 rfl h15) (an2 hgg9) rfl (fun ii1 v hv => by (try dsimp only at hv); (obtain ⟨xx4, hh5, hv⟩ := bd_some hv); (obtain ⟨hgg6, hv⟩ := gd_some hv); exact ⟨_, ((xx4.all id) && (decide (even_10a % (ii1 - 1) = 0))), rfl, (v_andS (v_t (v_u (v_lcS (enc := D.bl) (ρw := [.fz (.lck (IL ns)), .ow false [.int sa, .int sb], c2, .fz (.int n_0), .fz (.lst (RL numbers_1)), .fz (.obj 3 [.int x_4.1, .int x_4.2]), .fz (.obj 3 [.int y_5a.1, .int y_5a.2]), .fz (.obj 3 [.int due_6a.1, .int due_6a.2]), .fz (.int k_8a), .fz (.int m_8a), .fz (.int even_10a), c11, c12, c13, c14, .fz (.int ii1), c16, c17, .un, .un]) (v_rg2 (v_cons v_c rfl (v_cons (v_fz rfl) rfl v_nil)) (an1 (an2 hgg6))) rfl (an2 (an2 hgg6)) rfl (fun ii2 v hv => by (try dsimp only at hv); (obtain ⟨hgg3, hv⟩ := gd_some hv); (cases hv); (exact ⟨_, _, rfl, (v_op (v_op (v_u (v_fz rfl) rfl rfl) (v_fz rfl) rfl rfl (gMod_int hgg3)) v_c rfl rfl rfl), rfl⟩)) rfl hh5) rfl all_L)) (v_t (v_op (v_op (v_u (v_fz rfl) rfl rfl) (v_opR (v_fz rfl) v_c rfl rfl rfl) rfl rfl (gMod_int (an1 hgg6))) v_c rfl rfl rfl))), lcF_fin hv rfl ⟨_, (v_fz rfl), rfl⟩⟩) rfl hh8) (set_fr rfl h11 rfl)) ?_
    exact js_end rfl ⟨_, rfl, rfl⟩
  obtain ⟨ρ2, e, primes_11a, es, rfl⟩ := key s q
  subst es
  exact jn_st (by rw [seq_nil] at e; exact e) (n )
def Q12a (even_10a : Int) : Option ((Int × Int)) :=
  bd (A_bernoulli (even_10a)) fun tt1 => some tt1
theorem st12a {ns : List Int} {sa sb : Int} {n_0 : Int} {numbers_1 : List (Int × Int)} {x_4 : Int × Int} {y_5a : Int × Int} {due_6a : Int × Int} {k_8a : Int} {m_8a : Int} {even_10a : Int} {primes_11a : List Int} {c2 c12 c13 c14 c15 c16 c17 : Cell} {P : Rho → Prop} {rest : Es} {s : (Int × Int)} (q : Q12a even_10a = some s) (h2 : PL c2) (h12 : PL c12) (h13 : PL c13) (h14 : PL c14) (h15 : PF c15) (h16 : PL c16) (h17 : PL c17) (n :  JN rest [.fz (.lck (IL ns)), .ow false [.int sa, .int sb], c2, .fz (.int n_0), .fz (.lst (RL numbers_1)), .fz (.obj 3 [.int x_4.1, .int x_4.2]), .fz (.obj 3 [.int y_5a.1, .int y_5a.2]), .fz (.obj 3 [.int due_6a.1, .int due_6a.2]), .fz (.int k_8a), .fz (.int m_8a), .fz (.int even_10a), .ow false (IL primes_11a), .fz (.obj 3 [.int s.1, .int s.2]), c13, c14, c15, c16, c17, .un, .un] P) : JN (sSeq S12 rest) [.fz (.lck (IL ns)), .ow false [.int sa, .int sb], c2, .fz (.int n_0), .fz (.lst (RL numbers_1)), .fz (.obj 3 [.int x_4.1, .int x_4.2]), .fz (.obj 3 [.int y_5a.1, .int y_5a.2]), .fz (.obj 3 [.int due_6a.1, .int due_6a.2]), .fz (.int k_8a), .fz (.int m_8a), .fz (.int even_10a), .ow false (IL primes_11a), c12, c13, c14, c15, c16, c17, .un, .un] P := by
  have key : JS (sSeq S12 sNil) [.fz (.lck (IL ns)), .ow false [.int sa, .int sb], c2, .fz (.int n_0), .fz (.lst (RL numbers_1)), .fz (.obj 3 [.int x_4.1, .int x_4.2]), .fz (.obj 3 [.int y_5a.1, .int y_5a.2]), .fz (.obj 3 [.int due_6a.1, .int due_6a.2]), .fz (.int k_8a), .fz (.int m_8a), .fz (.int even_10a), .ow false (IL primes_11a), c12, c13, c14, c15, c16, c17, .un, .un] (Q12a even_10a) (PI (fun (s : (Int × Int)) (ρ : Rho) => ∃ (own_12a : (Int × Int)), s = own_12a ∧ ρ = [.fz (.lck (IL ns)), .ow false [.int sa, .int sb], c2, .fz (.int n_0), .fz (.lst (RL numbers_1)), .fz (.obj 3 [.int x_4.1, .int x_4.2]), .fz (.obj 3 [.int y_5a.1, .int y_5a.2]), .fz (.obj 3 [.int due_6a.1, .int due_6a.2]), .fz (.int k_8a), .fz (.int m_8a), .fz (.int even_10a), .ow false (IL primes_11a), .fz (.obj 3 [.int own_12a.1, .int own_12a.2]), c13, c14, c15, c16, c17, .un, .un])) := by
    unfold Q12a
    refine js_bd fun tt1 hh2 => ?_
    refine js_st (v_set (v_call0 (v_cons v_c rfl (v_cons (v_tup (v_cons (v_fz rfl) rfl v_nil) rfl) rfl v_nil)) rfl (val1 rfl (sim_bernoulli hh2))) (set_fz rfl h12 rfl)) ?_
    exact js_end rfl ⟨_, rfl, rfl⟩
  obtain ⟨ρ2, e, own_12a, es, rfl⟩ := key s q
  subst es
  exact jn_st (by rw [seq_nil] at e; exact e) (n )
def Q13a (primes_11a : List Int) (own_12a : Int × Int) : Option ((Int × Int)) :=
  bd (aL (fun ii1 => bd (A_Ratio (1) (ii1)) fun tt2 => some tt2) (primes_11a)) fun xx4 => bd (A__law_sum (xx4)) fun tt6 => bd (A_Ratio_add own_12a tt6) fun tt8 => gd (szOk (primes_11a).length) (some tt8)
theorem st13a {ns : List Int} {sa sb : Int} {n_0 : Int} {numbers_1 : List (Int × Int)} {x_4 : Int × Int} {y_5a : Int × Int} {due_6a : Int × Int} {k_8a : Int} {m_8a : Int} {even_10a : Int} {primes_11a : List Int} {own_12a : Int × Int} {c2 c13 c14 c15 c16 c17 : Cell} {P : Rho → Prop} {rest : Es} {s : (Int × Int)} (q : Q13a primes_11a own_12a = some s) (h2 : PL c2) (h13 : PL c13) (h14 : PL c14) (h15 : PF c15) (h16 : PL c16) (h17 : PL c17) (n :  JN rest [.fz (.lck (IL ns)), .ow false [.int sa, .int sb], c2, .fz (.int n_0), .fz (.lst (RL numbers_1)), .fz (.obj 3 [.int x_4.1, .int x_4.2]), .fz (.obj 3 [.int y_5a.1, .int y_5a.2]), .fz (.obj 3 [.int due_6a.1, .int due_6a.2]), .fz (.int k_8a), .fz (.int m_8a), .fz (.int even_10a), .fz (.lst (IL primes_11a)), .fz (.obj 3 [.int own_12a.1, .int own_12a.2]), .fz (.obj 3 [.int s.1, .int s.2]), c14, c15, c16, c17, .un, .un] P) : JN (sSeq S13 rest) [.fz (.lck (IL ns)), .ow false [.int sa, .int sb], c2, .fz (.int n_0), .fz (.lst (RL numbers_1)), .fz (.obj 3 [.int x_4.1, .int x_4.2]), .fz (.obj 3 [.int y_5a.1, .int y_5a.2]), .fz (.obj 3 [.int due_6a.1, .int due_6a.2]), .fz (.int k_8a), .fz (.int m_8a), .fz (.int even_10a), .ow false (IL primes_11a), .fz (.obj 3 [.int own_12a.1, .int own_12a.2]), c13, c14, c15, c16, c17, .un, .un] P := by
  have key : JS (sSeq S13 sNil) [.fz (.lck (IL ns)), .ow false [.int sa, .int sb], c2, .fz (.int n_0), .fz (.lst (RL numbers_1)), .fz (.obj 3 [.int x_4.1, .int x_4.2]), .fz (.obj 3 [.int y_5a.1, .int y_5a.2]), .fz (.obj 3 [.int due_6a.1, .int due_6a.2]), .fz (.int k_8a), .fz (.int m_8a), .fz (.int even_10a), .ow false (IL primes_11a), .fz (.obj 3 [.int own_12a.1, .int own_12a.2]), c13, c14, c15, c16, c17, .un, .un] (Q13a primes_11a own_12a) (PI (fun (s : (Int × Int)) (ρ : Rho) => ∃ (whole_13a : (Int × Int)), s = whole_13a ∧ ρ = [.fz (.lck (IL ns)), .ow false [.int sa, .int sb], c2, .fz (.int n_0), .fz (.lst (RL numbers_1)), .fz (.obj 3 [.int x_4.1, .int x_4.2]), .fz (.obj 3 [.int y_5a.1, .int y_5a.2]), .fz (.obj 3 [.int due_6a.1, .int due_6a.2]), .fz (.int k_8a), .fz (.int m_8a), .fz (.int even_10a), .fz (.lst (IL primes_11a)), .fz (.obj 3 [.int own_12a.1, .int own_12a.2]), .fz (.obj 3 [.int whole_13a.1, .int whole_13a.2]), c14, c15, c16, c17, .un, .un])) := by
    unfold Q13a
    refine js_bd fun xx4 hh5 => ?_
    refine js_bd fun tt6 hh7 => ?_
    refine js_bd fun tt8 hh9 => ?_
    refine js_gd fun hgg10 => ?_
    refine js_st (v_set (v_opRR (v_fz rfl) (v_call0 (v_cons (v_lcL (enc := rD) (c := D.int) (ρw := [.fz (.lck (IL ns)), .ow false [.int sa, .int sb], c2, .fz (.int n_0), .fz (.lst (RL numbers_1)), .fz (.obj 3 [.int x_4.1, .int x_4.2]), .fz (.obj 3 [.int y_5a.1, .int y_5a.2]), .fz (.obj 3 [.int due_6a.1, .int due_6a.2]), .fz (.int k_8a), .fz (.int m_8a), .fz (.int even_10a), .fz (.lst (IL primes_11a)), .fz (.obj 3 [.int own_12a.1, .int own_12a.2]), c13, c14, .un, c16, c17, .un, .un]) (v_seqL (v_ow rfl) rfl) (noOwn1 rfl h15) hgg10 rfl (fun ii1 v hv => by (try dsimp only at hv); (obtain ⟨tt2, hh3, hv⟩ := bd_some hv); (cases hv); (exact ⟨_, _, rfl, (v_new2 (v_cons v_c rfl (v_cons (v_fz rfl) rfl v_nil)) (sim_Ratio hh3)), rfl⟩)) rfl hh5) rfl v_nil) rfl (sim__law_sum hh7)) rfl rfl (sim_Ratio_add hh9)) (set_fz rfl h13 rfl)) ?_
    exact js_end rfl ⟨_, rfl, rfl⟩
  obtain ⟨ρ2, e, whole_13a, es, rfl⟩ := key s q
  subst es
  exact jn_st (by rw [seq_nil] at e; exact e) (n )
def Q14a  : Option (Int) :=
  some 1
theorem st14a {ns : List Int} {sa sb : Int} {n_0 : Int} {numbers_1 : List (Int × Int)} {x_4 : Int × Int} {y_5a : Int × Int} {due_6a : Int × Int} {k_8a : Int} {m_8a : Int} {even_10a : Int} {primes_11a : List Int} {own_12a : Int × Int} {whole_13a : Int × Int} {c2 c14 c15 c16 c17 : Cell} {P : Rho → Prop} {rest : Es} {s : Int} (q : Q14a  = some s) (h2 : PL c2) (h14 : PL c14) (h15 : PF c15) (h16 : PL c16) (h17 : PL c17) (n :  JN rest [.fz (.lck (IL ns)), .ow false [.int sa, .int sb], c2, .fz (.int n_0), .fz (.lst (RL numbers_1)), .fz (.obj 3 [.int x_4.1, .int x_4.2]), .fz (.obj 3 [.int y_5a.1, .int y_5a.2]), .fz (.obj 3 [.int due_6a.1, .int due_6a.2]), .fz (.int k_8a), .fz (.int m_8a), .fz (.int even_10a), .fz (.lst (IL primes_11a)), .fz (.obj 3 [.int own_12a.1, .int own_12a.2]), .fz (.obj 3 [.int whole_13a.1, .int whole_13a.2]), .fz (.int s), c15, c16, c17, .un, .un] P) : JN (sSeq S14 rest) [.fz (.lck (IL ns)), .ow false [.int sa, .int sb], c2, .fz (.int n_0), .fz (.lst (RL numbers_1)), .fz (.obj 3 [.int x_4.1, .int x_4.2]), .fz (.obj 3 [.int y_5a.1, .int y_5a.2]), .fz (.obj 3 [.int due_6a.1, .int due_6a.2]), .fz (.int k_8a), .fz (.int m_8a), .fz (.int even_10a), .fz (.lst (IL primes_11a)), .fz (.obj 3 [.int own_12a.1, .int own_12a.2]), .fz (.obj 3 [.int whole_13a.1, .int whole_13a.2]), c14, c15, c16, c17, .un, .un] P := by
  have key : JS (sSeq S14 sNil) [.fz (.lck (IL ns)), .ow false [.int sa, .int sb], c2, .fz (.int n_0), .fz (.lst (RL numbers_1)), .fz (.obj 3 [.int x_4.1, .int x_4.2]), .fz (.obj 3 [.int y_5a.1, .int y_5a.2]), .fz (.obj 3 [.int due_6a.1, .int due_6a.2]), .fz (.int k_8a), .fz (.int m_8a), .fz (.int even_10a), .fz (.lst (IL primes_11a)), .fz (.obj 3 [.int own_12a.1, .int own_12a.2]), .fz (.obj 3 [.int whole_13a.1, .int whole_13a.2]), c14, c15, c16, c17, .un, .un] (Q14a ) (PI (fun (s : Int) (ρ : Rho) => ∃ (low_14a : Int), s = low_14a ∧ ρ = [.fz (.lck (IL ns)), .ow false [.int sa, .int sb], c2, .fz (.int n_0), .fz (.lst (RL numbers_1)), .fz (.obj 3 [.int x_4.1, .int x_4.2]), .fz (.obj 3 [.int y_5a.1, .int y_5a.2]), .fz (.obj 3 [.int due_6a.1, .int due_6a.2]), .fz (.int k_8a), .fz (.int m_8a), .fz (.int even_10a), .fz (.lst (IL primes_11a)), .fz (.obj 3 [.int own_12a.1, .int own_12a.2]), .fz (.obj 3 [.int whole_13a.1, .int whole_13a.2]), .fz (.int low_14a), c15, c16, c17, .un, .un])) := by
    unfold Q14a
    refine js_st (v_set v_c (set_fz rfl h14 rfl)) ?_
    exact js_end rfl ⟨_, rfl, rfl⟩
  obtain ⟨ρ2, e, low_14a, es, rfl⟩ := key s q
  subst es
  exact jn_st (by rw [seq_nil] at e; exact e) (n )
def Q15a (primes_11a : List Int) (low_14a : Int) : Option (Int) :=
  bd (aForL (fun ii4 yy1 => gd (mulOk yy1 ii4) (lt (yy1 * ii4) fun xx5 => some xx5)) (primes_11a) low_14a) fun yy1 => some yy1
theorem st15a {ns : List Int} {sa sb : Int} {n_0 : Int} {numbers_1 : List (Int × Int)} {x_4 : Int × Int} {y_5a : Int × Int} {due_6a : Int × Int} {k_8a : Int} {m_8a : Int} {even_10a : Int} {primes_11a : List Int} {own_12a : Int × Int} {whole_13a : Int × Int} {low_14a : Int} {c2 c15 c16 c17 : Cell} {P : Rho → Prop} {rest : Es} {s : Int} (q : Q15a primes_11a low_14a = some s) (h2 : PL c2) (h15 : PF c15) (h16 : PL c16) (h17 : PL c17) (n : ∀ d15, PF d15 → JN rest [.fz (.lck (IL ns)), .ow false [.int sa, .int sb], c2, .fz (.int n_0), .fz (.lst (RL numbers_1)), .fz (.obj 3 [.int x_4.1, .int x_4.2]), .fz (.obj 3 [.int y_5a.1, .int y_5a.2]), .fz (.obj 3 [.int due_6a.1, .int due_6a.2]), .fz (.int k_8a), .fz (.int m_8a), .fz (.int even_10a), .fz (.lst (IL primes_11a)), .fz (.obj 3 [.int own_12a.1, .int own_12a.2]), .fz (.obj 3 [.int whole_13a.1, .int whole_13a.2]), .fz (.int s), d15, c16, c17, .un, .un] P) : JN (sSeq S15 rest) [.fz (.lck (IL ns)), .ow false [.int sa, .int sb], c2, .fz (.int n_0), .fz (.lst (RL numbers_1)), .fz (.obj 3 [.int x_4.1, .int x_4.2]), .fz (.obj 3 [.int y_5a.1, .int y_5a.2]), .fz (.obj 3 [.int due_6a.1, .int due_6a.2]), .fz (.int k_8a), .fz (.int m_8a), .fz (.int even_10a), .fz (.lst (IL primes_11a)), .fz (.obj 3 [.int own_12a.1, .int own_12a.2]), .fz (.obj 3 [.int whole_13a.1, .int whole_13a.2]), .fz (.int low_14a), c15, c16, c17, .un, .un] P := by
  have key : JS (sSeq S15 sNil) [.fz (.lck (IL ns)), .ow false [.int sa, .int sb], c2, .fz (.int n_0), .fz (.lst (RL numbers_1)), .fz (.obj 3 [.int x_4.1, .int x_4.2]), .fz (.obj 3 [.int y_5a.1, .int y_5a.2]), .fz (.obj 3 [.int due_6a.1, .int due_6a.2]), .fz (.int k_8a), .fz (.int m_8a), .fz (.int even_10a), .fz (.lst (IL primes_11a)), .fz (.obj 3 [.int own_12a.1, .int own_12a.2]), .fz (.obj 3 [.int whole_13a.1, .int whole_13a.2]), .fz (.int low_14a), c15, c16, c17, .un, .un] (Q15a primes_11a low_14a) (PI (fun (s : Int) (ρ : Rho) => ∃ (low_15a : Int) (d15 : Cell), s = low_15a ∧ PF d15 ∧ ρ = [.fz (.lck (IL ns)), .ow false [.int sa, .int sb], c2, .fz (.int n_0), .fz (.lst (RL numbers_1)), .fz (.obj 3 [.int x_4.1, .int x_4.2]), .fz (.obj 3 [.int y_5a.1, .int y_5a.2]), .fz (.obj 3 [.int due_6a.1, .int due_6a.2]), .fz (.int k_8a), .fz (.int m_8a), .fz (.int even_10a), .fz (.lst (IL primes_11a)), .fz (.obj 3 [.int own_12a.1, .int own_12a.2]), .fz (.obj 3 [.int whole_13a.1, .int whole_13a.2]), .fz (.int low_15a), d15, c16, c17, .un, .un])) := by
    unfold Q15a
    refine js_forL (J := (fun (yy1 : Int) (ρ : Rho) => ∃ (cc2 : Cell), PF cc2 ∧ ρ = [.fz (.lck (IL ns)), .ow false [.int sa, .int sb], c2, .fz (.int n_0), .fz (.lst (RL numbers_1)), .fz (.obj 3 [.int x_4.1, .int x_4.2]), .fz (.obj 3 [.int y_5a.1, .int y_5a.2]), .fz (.obj 3 [.int due_6a.1, .int due_6a.2]), .fz (.int k_8a), .fz (.int m_8a), .fz (.int even_10a), .fz (.lst (IL primes_11a)), .fz (.obj 3 [.int own_12a.1, .int own_12a.2]), .fz (.obj 3 [.int whole_13a.1, .int whole_13a.2]), .fz (.int yy1), cc2, c16, c17, .un, .un])) (c := D.int) (v_seqL (v_fz rfl) rfl) ⟨_, h15, rfl⟩ ?_ ?_
    · intro ii4 yy1 ρ' hI
      obtain ⟨cc2, kk3, rfl⟩ := hI
      refine ⟨_, (set_R rfl (pf_pl kk3) rfl), ?_⟩
      try dsimp only
      refine js_gd fun hgg7 => ?_
      refine js_lt fun xx5 ee6 => ?_
      exact js_end (v_set (vi (v_opR (v_fz rfl) (v_fz rfl) rfl rfl (gMul2_int hgg7)) ee6) rfl) ⟨_, pf_fz, rfl⟩
    · intro yy1 ρ' hI
      obtain ⟨cc2, kk3, rfl⟩ := hI
      try dsimp only
      exact js_end rfl ⟨_, _, rfl, kk3, rfl⟩
  obtain ⟨ρ2, e, low_15a, d15, es, p15, rfl⟩ := key s q
  subst es
  exact jn_st (by rw [seq_nil] at e; exact e) (n _ p15)
def Q16a (even_10a : Int) (primes_11a : List Int) (own_12a : Int × Int) (whole_13a : Int × Int) (low_15a : Int) : Option (Unit) :=
  bd (A_whole_part (even_10a)) fun tt1 => bd (A_lower_primes (even_10a)) fun tt3 => bd (eqL tt3 primes_11a) fun tt5 => if (false) || ((!(decide (whole_13a.2 = 1))) || ((!(decide (tt1 = whole_13a.1))) || (!(decide (own_12a.2 = low_15a))))) then none else some ()
theorem st16a {ns : List Int} {sa sb : Int} {n_0 : Int} {numbers_1 : List (Int × Int)} {x_4 : Int × Int} {y_5a : Int × Int} {due_6a : Int × Int} {k_8a : Int} {m_8a : Int} {even_10a : Int} {primes_11a : List Int} {own_12a : Int × Int} {whole_13a : Int × Int} {low_15a : Int} {c2 c15 c16 c17 : Cell} {P : Rho → Prop} {rest : Es} {s : Unit} (q : Q16a even_10a primes_11a own_12a whole_13a low_15a = some s) (h2 : PL c2) (h15 : PF c15) (h16 : PL c16) (h17 : PL c17) (n :  JN rest [.fz (.lck (IL ns)), .ow false [.int sa, .int sb], c2, .fz (.int n_0), .fz (.lst (RL numbers_1)), .fz (.obj 3 [.int x_4.1, .int x_4.2]), .fz (.obj 3 [.int y_5a.1, .int y_5a.2]), .fz (.obj 3 [.int due_6a.1, .int due_6a.2]), .fz (.int k_8a), .fz (.int m_8a), .fz (.int even_10a), .fz (.lst (IL primes_11a)), .fz (.obj 3 [.int own_12a.1, .int own_12a.2]), .fz (.obj 3 [.int whole_13a.1, .int whole_13a.2]), .fz (.int low_15a), c15, c16, c17, .un, .un] P) : JN (sSeq S16 rest) [.fz (.lck (IL ns)), .ow false [.int sa, .int sb], c2, .fz (.int n_0), .fz (.lst (RL numbers_1)), .fz (.obj 3 [.int x_4.1, .int x_4.2]), .fz (.obj 3 [.int y_5a.1, .int y_5a.2]), .fz (.obj 3 [.int due_6a.1, .int due_6a.2]), .fz (.int k_8a), .fz (.int m_8a), .fz (.int even_10a), .fz (.lst (IL primes_11a)), .fz (.obj 3 [.int own_12a.1, .int own_12a.2]), .fz (.obj 3 [.int whole_13a.1, .int whole_13a.2]), .fz (.int low_15a), c15, c16, c17, .un, .un] P := by
  have key : JS (sSeq S16 sNil) [.fz (.lck (IL ns)), .ow false [.int sa, .int sb], c2, .fz (.int n_0), .fz (.lst (RL numbers_1)), .fz (.obj 3 [.int x_4.1, .int x_4.2]), .fz (.obj 3 [.int y_5a.1, .int y_5a.2]), .fz (.obj 3 [.int due_6a.1, .int due_6a.2]), .fz (.int k_8a), .fz (.int m_8a), .fz (.int even_10a), .fz (.lst (IL primes_11a)), .fz (.obj 3 [.int own_12a.1, .int own_12a.2]), .fz (.obj 3 [.int whole_13a.1, .int whole_13a.2]), .fz (.int low_15a), c15, c16, c17, .un, .un] (Q16a even_10a primes_11a own_12a whole_13a low_15a) (PI (fun (s : Unit) (ρ : Rho) => s = () ∧ ρ = [.fz (.lck (IL ns)), .ow false [.int sa, .int sb], c2, .fz (.int n_0), .fz (.lst (RL numbers_1)), .fz (.obj 3 [.int x_4.1, .int x_4.2]), .fz (.obj 3 [.int y_5a.1, .int y_5a.2]), .fz (.obj 3 [.int due_6a.1, .int due_6a.2]), .fz (.int k_8a), .fz (.int m_8a), .fz (.int even_10a), .fz (.lst (IL primes_11a)), .fz (.obj 3 [.int own_12a.1, .int own_12a.2]), .fz (.obj 3 [.int whole_13a.1, .int whole_13a.2]), .fz (.int low_15a), c15, c16, c17, .un, .un])) := by
    unfold Q16a
    refine js_bd fun tt1 hh2 => ?_
    refine js_bd fun tt3 hh4 => ?_
    refine js_bd fun tt5 hh6 => ?_
    refine js_ifF (v_orS (v_notT (v_t (v_call0 (v_cons v_c rfl (v_cons (v_tup (v_cons (v_fz rfl) rfl v_nil) rfl) rfl (v_cons (v_u (v_fz rfl) rfl rfl) rfl v_nil))) rfl (tells_g (told1 rfl (sim_lower_primes hh4)) (same_it hh6))))) (v_orS (v_t (v_op (v_u (v_fz rfl) rfl rfl) v_c rfl rfl rfl)) (v_orS (v_not (v_t (v_call0 (v_cons v_c rfl (v_cons (v_tup (v_cons (v_fz rfl) rfl v_nil) rfl) rfl (v_cons (v_u (v_fz rfl) rfl rfl) rfl v_nil))) rfl (tells1 rfl (sim_whole_part hh2))))) (v_t (v_op (v_u (v_fz rfl) rfl rfl) (v_fz rfl) rfl rfl rfl))))) fun _ => ?_
    exact js_end rfl ⟨rfl, rfl⟩
  obtain ⟨ρ2, e, es, rfl⟩ := key s q
  exact jn_st (by rw [seq_nil] at e; exact e) (n )
def Q17a (even_10a : Int) : Option (Unit) :=
  bd (aL (fun ii1 => bd (A_bernoulli (ii1)) fun tt2 => some tt2.2) (rg2s (2) (((even_10a + 1) - (2) + 1) / 2).toNat)) fun xx4 => bd (A_half_numbers (even_10a)) fun tt6 => bd (eqL tt6 xx4) fun tt8 => gd ((decide (-1000000 ≤ 2) && decide (2 ≤ 1000000)) && (decide (-1000000 ≤ even_10a + 1) && decide (even_10a + 1 ≤ 1000000)) && (szOk (rg2s (2) (((even_10a + 1) - (2) + 1) / 2).toNat).length)) (if false then none else some ())
theorem st17a {ns : List Int} {sa sb : Int} {n_0 : Int} {numbers_1 : List (Int × Int)} {x_4 : Int × Int} {y_5a : Int × Int} {due_6a : Int × Int} {k_8a : Int} {m_8a : Int} {even_10a : Int} {primes_11a : List Int} {own_12a : Int × Int} {whole_13a : Int × Int} {low_15a : Int} {c2 c15 c16 c17 : Cell} {P : Rho → Prop} {rest : Es} {s : Unit} (q : Q17a even_10a = some s) (h2 : PL c2) (h15 : PF c15) (h16 : PL c16) (h17 : PL c17) (n :  JN rest [.fz (.lck (IL ns)), .ow false [.int sa, .int sb], c2, .fz (.int n_0), .fz (.lst (RL numbers_1)), .fz (.obj 3 [.int x_4.1, .int x_4.2]), .fz (.obj 3 [.int y_5a.1, .int y_5a.2]), .fz (.obj 3 [.int due_6a.1, .int due_6a.2]), .fz (.int k_8a), .fz (.int m_8a), .fz (.int even_10a), .fz (.lst (IL primes_11a)), .fz (.obj 3 [.int own_12a.1, .int own_12a.2]), .fz (.obj 3 [.int whole_13a.1, .int whole_13a.2]), .fz (.int low_15a), c15, c16, c17, .un, .un] P) : JN (sSeq S17 rest) [.fz (.lck (IL ns)), .ow false [.int sa, .int sb], c2, .fz (.int n_0), .fz (.lst (RL numbers_1)), .fz (.obj 3 [.int x_4.1, .int x_4.2]), .fz (.obj 3 [.int y_5a.1, .int y_5a.2]), .fz (.obj 3 [.int due_6a.1, .int due_6a.2]), .fz (.int k_8a), .fz (.int m_8a), .fz (.int even_10a), .fz (.lst (IL primes_11a)), .fz (.obj 3 [.int own_12a.1, .int own_12a.2]), .fz (.obj 3 [.int whole_13a.1, .int whole_13a.2]), .fz (.int low_15a), c15, c16, c17, .un, .un] P := by
  have key : JS (sSeq S17 sNil) [.fz (.lck (IL ns)), .ow false [.int sa, .int sb], c2, .fz (.int n_0), .fz (.lst (RL numbers_1)), .fz (.obj 3 [.int x_4.1, .int x_4.2]), .fz (.obj 3 [.int y_5a.1, .int y_5a.2]), .fz (.obj 3 [.int due_6a.1, .int due_6a.2]), .fz (.int k_8a), .fz (.int m_8a), .fz (.int even_10a), .fz (.lst (IL primes_11a)), .fz (.obj 3 [.int own_12a.1, .int own_12a.2]), .fz (.obj 3 [.int whole_13a.1, .int whole_13a.2]), .fz (.int low_15a), c15, c16, c17, .un, .un] (Q17a even_10a) (PI (fun (s : Unit) (ρ : Rho) => s = () ∧ ρ = [.fz (.lck (IL ns)), .ow false [.int sa, .int sb], c2, .fz (.int n_0), .fz (.lst (RL numbers_1)), .fz (.obj 3 [.int x_4.1, .int x_4.2]), .fz (.obj 3 [.int y_5a.1, .int y_5a.2]), .fz (.obj 3 [.int due_6a.1, .int due_6a.2]), .fz (.int k_8a), .fz (.int m_8a), .fz (.int even_10a), .fz (.lst (IL primes_11a)), .fz (.obj 3 [.int own_12a.1, .int own_12a.2]), .fz (.obj 3 [.int whole_13a.1, .int whole_13a.2]), .fz (.int low_15a), c15, c16, c17, .un, .un])) := by
    unfold Q17a
    refine js_bd fun xx4 hh5 => ?_
    refine js_bd fun tt6 hh7 => ?_
    refine js_bd fun tt8 hh9 => ?_
    refine js_gd fun hgg11 => ?_
    refine js_ifF (v_notT (v_t (v_call0 (v_cons v_c rfl (v_cons (v_tup (v_cons (v_fz rfl) rfl v_nil) rfl) rfl (v_cons (v_u (v_lcL (enc := D.int) (c := D.int) (ρw := [.fz (.lck (IL ns)), .ow false [.int sa, .int sb], c2, .fz (.int n_0), .fz (.lst (RL numbers_1)), .fz (.obj 3 [.int x_4.1, .int x_4.2]), .fz (.obj 3 [.int y_5a.1, .int y_5a.2]), .fz (.obj 3 [.int due_6a.1, .int due_6a.2]), .fz (.int k_8a), .fz (.int m_8a), .fz (.int even_10a), .fz (.lst (IL primes_11a)), .fz (.obj 3 [.int own_12a.1, .int own_12a.2]), .fz (.obj 3 [.int whole_13a.1, .int whole_13a.2]), .fz (.int low_15a), c15, c16, c17, .un, .un]) (v_rg3 (v_cons v_c rfl (v_cons (v_opR (v_fz rfl) v_c rfl rfl rfl) rfl (v_cons v_c rfl v_nil))) (an1 hgg11)) rfl (an2 hgg11) rfl (fun ii1 v hv => by (try dsimp only at hv); (obtain ⟨tt2, hh3, hv⟩ := bd_some hv); (cases hv); (exact ⟨_, _, rfl, (v_u (v_call0 (v_cons v_c rfl (v_cons (v_tup (v_cons (v_fz rfl) rfl v_nil) rfl) rfl v_nil)) rfl (val1 rfl (sim_bernoulli hh3))) rfl rfl), rfl⟩)) rfl hh5) rfl rfl) rfl v_nil))) rfl (tells_g (told1 rfl (sim_half_numbers hh7)) (same_it hh9))))) fun _ => ?_
    exact js_end rfl ⟨rfl, rfl⟩
  obtain ⟨ρ2, e, es, rfl⟩ := key s q
  exact jn_st (by rw [seq_nil] at e; exact e) (n )
theorem st18a {ns : List Int} {sa sb : Int} {n_0 : Int} {numbers_1 : List (Int × Int)} {x_4 : Int × Int} {y_5a : Int × Int} {due_6a : Int × Int} {k_8a : Int} {m_8a : Int} {even_10a : Int} {primes_11a : List Int} {own_12a : Int × Int} {whole_13a : Int × Int} {low_15a : Int} {c2 c15 c16 c17 : Cell} {P : Rho → Prop} {rest : Es} (h2 : PL c2) (h15 : PF c15) (h16 : PL c16) (h17 : PL c17) (mva0 : (0 : Int) < (9 : Int)) (mva1 : (9 : Int) < 1000000) (n : ∀ va a' b' : Int, 0 ≤ va → va < (9 : Int) → JN rest [.fz (.lck (IL ns)), .ow false [.int a', .int b'], c2, .fz (.int n_0), .fz (.lst (RL numbers_1)), .fz (.obj 3 [.int x_4.1, .int x_4.2]), .fz (.obj 3 [.int y_5a.1, .int y_5a.2]), .fz (.obj 3 [.int due_6a.1, .int due_6a.2]), .fz (.int k_8a), .fz (.int m_8a), .fz (.int even_10a), .fz (.lst (IL primes_11a)), .fz (.obj 3 [.int own_12a.1, .int own_12a.2]), .fz (.obj 3 [.int whole_13a.1, .int whole_13a.2]), .fz (.int low_15a), c15, .fz (.int (([3, 5, 7, 11, 13, 17, 19, 23, 37] : List Int).getD (va).toNat 0)), c17, .un, .un] P) : JN (sSeq S18 rest) [.fz (.lck (IL ns)), .ow false [.int sa, .int sb], c2, .fz (.int n_0), .fz (.lst (RL numbers_1)), .fz (.obj 3 [.int x_4.1, .int x_4.2]), .fz (.obj 3 [.int y_5a.1, .int y_5a.2]), .fz (.obj 3 [.int due_6a.1, .int due_6a.2]), .fz (.int k_8a), .fz (.int m_8a), .fz (.int even_10a), .fz (.lst (IL primes_11a)), .fz (.obj 3 [.int own_12a.1, .int own_12a.2]), .fz (.obj 3 [.int whole_13a.1, .int whole_13a.2]), .fz (.int low_15a), c15, c16, c17, .un, .un] P := by
  obtain ⟨va, a', b', ⟨va0, va1⟩, edva⟩ := take_eq (a := sa) (b := sb) mva0 mva1
  have e : S18 [.fz (.lck (IL ns)), .ow false [.int sa, .int sb], c2, .fz (.int n_0), .fz (.lst (RL numbers_1)), .fz (.obj 3 [.int x_4.1, .int x_4.2]), .fz (.obj 3 [.int y_5a.1, .int y_5a.2]), .fz (.obj 3 [.int due_6a.1, .int due_6a.2]), .fz (.int k_8a), .fz (.int m_8a), .fz (.int even_10a), .fz (.lst (IL primes_11a)), .fz (.obj 3 [.int own_12a.1, .int own_12a.2]), .fz (.obj 3 [.int whole_13a.1, .int whole_13a.2]), .fz (.int low_15a), c15, c16, c17, .un, .un] = .ok (.nx, [.fz (.lck (IL ns)), .ow false [.int a', .int b'], c2, .fz (.int n_0), .fz (.lst (RL numbers_1)), .fz (.obj 3 [.int x_4.1, .int x_4.2]), .fz (.obj 3 [.int y_5a.1, .int y_5a.2]), .fz (.obj 3 [.int due_6a.1, .int due_6a.2]), .fz (.int k_8a), .fz (.int m_8a), .fz (.int even_10a), .fz (.lst (IL primes_11a)), .fz (.obj 3 [.int own_12a.1, .int own_12a.2]), .fz (.obj 3 [.int whole_13a.1, .int whole_13a.2]), .fz (.int low_15a), c15, .fz (.int (([3, 5, 7, 11, 13, 17, 19, 23, 37] : List Int).getD (va).toNat 0)), c17, .un, .un]) := by
    unfold S18
    exact (v_set (v_op (v_lst (v_cons v_c rfl (v_cons v_c rfl (v_cons v_c rfl (v_cons v_c rfl (v_cons v_c rfl (v_cons v_c rfl (v_cons v_c rfl (v_cons v_c rfl (v_cons v_c rfl v_nil))))))))) rfl) (v_callB rfl (v_cons v_c rfl v_nil) rfl rfl edva rfl) rfl rfl (ix_cL (xs := [3, 5, 7, 11, 13, 17, 19, 23, 37]) rfl (dz va0 va1))) (set_fz rfl h16 rfl))
  exact jn_st e (n va a' b' va0 va1)
def Q19a (p_18a : Int) : Option (Unit) :=
  bd (aLF (fun ii1 => bd (A_bernoulli (ii1)) fun tt2 => gd ((decide (0 < p_18a))) (if decide ((tt2.1) % p_18a = 0) then some (some ii1) else some none)) (rg2s (2) (((p_18a - 2) - (2) + 1) / 2).toNat)) fun xx5 => bd (A_bad_indexes (p_18a)) fun tt7 => bd (eqL tt7 xx5) fun tt9 => gd ((decide (-1000000 ≤ 2) && decide (2 ≤ 1000000)) && (decide (-1000000 ≤ p_18a - 2) && decide (p_18a - 2 ≤ 1000000)) && (szOk (rg2s (2) (((p_18a - 2) - (2) + 1) / 2).toNat).length)) (if false then none else some ())
theorem st19a {ns : List Int} {sa sb : Int} {n_0 : Int} {numbers_1 : List (Int × Int)} {x_4 : Int × Int} {y_5a : Int × Int} {due_6a : Int × Int} {k_8a : Int} {m_8a : Int} {even_10a : Int} {primes_11a : List Int} {own_12a : Int × Int} {whole_13a : Int × Int} {low_15a : Int} {p_18a : Int} {c2 c15 c17 : Cell} {P : Rho → Prop} {s : Unit} (q : Q19a p_18a = some s) (h2 : PL c2) (h15 : PF c15) (h17 : PL c17) (n :  P [.fz (.lck (IL ns)), .ow false [.int sa, .int sb], c2, .fz (.int n_0), .fz (.lst (RL numbers_1)), .fz (.obj 3 [.int x_4.1, .int x_4.2]), .fz (.obj 3 [.int y_5a.1, .int y_5a.2]), .fz (.obj 3 [.int due_6a.1, .int due_6a.2]), .fz (.int k_8a), .fz (.int m_8a), .fz (.int even_10a), .fz (.lst (IL primes_11a)), .fz (.obj 3 [.int own_12a.1, .int own_12a.2]), .fz (.obj 3 [.int whole_13a.1, .int whole_13a.2]), .fz (.int low_15a), c15, .fz (.int p_18a), c17, .un, .un]) : JN (S19) [.fz (.lck (IL ns)), .ow false [.int sa, .int sb], c2, .fz (.int n_0), .fz (.lst (RL numbers_1)), .fz (.obj 3 [.int x_4.1, .int x_4.2]), .fz (.obj 3 [.int y_5a.1, .int y_5a.2]), .fz (.obj 3 [.int due_6a.1, .int due_6a.2]), .fz (.int k_8a), .fz (.int m_8a), .fz (.int even_10a), .fz (.lst (IL primes_11a)), .fz (.obj 3 [.int own_12a.1, .int own_12a.2]), .fz (.obj 3 [.int whole_13a.1, .int whole_13a.2]), .fz (.int low_15a), c15, .fz (.int p_18a), c17, .un, .un] P := by
  have key : JS (sSeq S19 sNil) [.fz (.lck (IL ns)), .ow false [.int sa, .int sb], c2, .fz (.int n_0), .fz (.lst (RL numbers_1)), .fz (.obj 3 [.int x_4.1, .int x_4.2]), .fz (.obj 3 [.int y_5a.1, .int y_5a.2]), .fz (.obj 3 [.int due_6a.1, .int due_6a.2]), .fz (.int k_8a), .fz (.int m_8a), .fz (.int even_10a), .fz (.lst (IL primes_11a)), .fz (.obj 3 [.int own_12a.1, .int own_12a.2]), .fz (.obj 3 [.int whole_13a.1, .int whole_13a.2]), .fz (.int low_15a), c15, .fz (.int p_18a), c17, .un, .un] (Q19a p_18a) (PI (fun (s : Unit) (ρ : Rho) => s = () ∧ ρ = [.fz (.lck (IL ns)), .ow false [.int sa, .int sb], c2, .fz (.int n_0), .fz (.lst (RL numbers_1)), .fz (.obj 3 [.int x_4.1, .int x_4.2]), .fz (.obj 3 [.int y_5a.1, .int y_5a.2]), .fz (.obj 3 [.int due_6a.1, .int due_6a.2]), .fz (.int k_8a), .fz (.int m_8a), .fz (.int even_10a), .fz (.lst (IL primes_11a)), .fz (.obj 3 [.int own_12a.1, .int own_12a.2]), .fz (.obj 3 [.int whole_13a.1, .int whole_13a.2]), .fz (.int low_15a), c15, .fz (.int p_18a), c17, .un, .un])) := by
    unfold Q19a
    refine js_bd fun xx5 hh6 => ?_
    refine js_bd fun tt7 hh8 => ?_
    refine js_bd fun tt9 hh10 => ?_
    refine js_gd fun hgg12 => ?_
    refine js_ifF (v_notT (v_t (v_call0 (v_cons v_c rfl (v_cons (v_tup (v_cons (v_fz rfl) rfl v_nil) rfl) rfl (v_cons (v_u (v_lcLF (enc := D.int) (c := D.int) (ρw := [.fz (.lck (IL ns)), .ow false [.int sa, .int sb], c2, .fz (.int n_0), .fz (.lst (RL numbers_1)), .fz (.obj 3 [.int x_4.1, .int x_4.2]), .fz (.obj 3 [.int y_5a.1, .int y_5a.2]), .fz (.obj 3 [.int due_6a.1, .int due_6a.2]), .fz (.int k_8a), .fz (.int m_8a), .fz (.int even_10a), .fz (.lst (IL primes_11a)), .fz (.obj 3 [.int own_12a.1, .int own_12a.2]), .fz (.obj 3 [.int whole_13a.1, .int whole_13a.2]), .fz (.int low_15a), c15, .fz (.int p_18a), c17, .un, .un]) (v_rg3 (v_cons v_c rfl (v_cons (v_opR (v_fz rfl) v_c rfl rfl rfl) rfl (v_cons v_c rfl v_nil))) (an1 hgg12)) rfl (an2 hgg12) rfl (fun ii1 v hv => by (try dsimp only at hv); (obtain ⟨tt2, hh3, hv⟩ := bd_some hv); (obtain ⟨hgg4, hv⟩ := gd_some hv); exact ⟨_, (decide ((tt2.1) % p_18a = 0)), rfl, (v_t (v_op (v_op (v_u (v_u (v_call0 (v_cons v_c rfl (v_cons (v_tup (v_cons (v_fz rfl) rfl v_nil) rfl) rfl v_nil)) rfl (val1 rfl (sim_bernoulli hh3))) rfl rfl) rfl rfl) (v_fz rfl) rfl rfl (gMod_int hgg4)) v_c rfl rfl rfl)), lcF_fin hv rfl ⟨_, (v_fz rfl), rfl⟩⟩) rfl hh6) rfl rfl) rfl v_nil))) rfl (tells_g (told1 rfl (sim_bad_indexes hh8)) (same_it hh10))))) fun _ => ?_
    exact js_end rfl ⟨rfl, rfl⟩
  obtain ⟨ρ2, e, es, rfl⟩ := key s q
  exact jn_end (by rw [seq_nil] at e; exact e) (n )
def Q5b (x_4 : Int) : Option ((Int × Int)) :=
  bd (A_Ratio (x_4) (1)) fun tt1 => some tt1
theorem st5b {ns : List Int} {sa sb : Int} {n_0 : Int} {numbers_1 : List (Int × Int)} {x_4 : Int} {c2 c6 c7 c8 c9 c10 c11 c12 c13 c14 c15 c16 c17 : Cell} {P : Rho → Prop} {rest : Es} {s : (Int × Int)} (q : Q5b x_4 = some s) (h2 : PL c2) (h6 : PL c6) (h7 : PL c7) (h8 : PF c8) (h9 : PF c9) (h10 : PL c10) (h11 : PL c11) (h12 : PL c12) (h13 : PL c13) (h14 : PL c14) (h15 : PF c15) (h16 : PL c16) (h17 : PL c17) (n :  JN rest [.fz (.lck (IL ns)), .ow false [.int sa, .int sb], c2, .fz (.int n_0), .fz (.lst (RL numbers_1)), .fz (.int x_4), .fz (.obj 3 [.int s.1, .int s.2]), c7, c8, c9, c10, c11, c12, c13, c14, c15, c16, c17, .un, .un] P) : JN (sSeq S5 rest) [.fz (.lck (IL ns)), .ow false [.int sa, .int sb], c2, .fz (.int n_0), .fz (.lst (RL numbers_1)), .fz (.int x_4), c6, c7, c8, c9, c10, c11, c12, c13, c14, c15, c16, c17, .un, .un] P := by
  have key : JS (sSeq S5 sNil) [.fz (.lck (IL ns)), .ow false [.int sa, .int sb], c2, .fz (.int n_0), .fz (.lst (RL numbers_1)), .fz (.int x_4), c6, c7, c8, c9, c10, c11, c12, c13, c14, c15, c16, c17, .un, .un] (Q5b x_4) (PI (fun (s : (Int × Int)) (ρ : Rho) => ∃ (y_5b : (Int × Int)), s = y_5b ∧ ρ = [.fz (.lck (IL ns)), .ow false [.int sa, .int sb], c2, .fz (.int n_0), .fz (.lst (RL numbers_1)), .fz (.int x_4), .fz (.obj 3 [.int y_5b.1, .int y_5b.2]), c7, c8, c9, c10, c11, c12, c13, c14, c15, c16, c17, .un, .un])) := by
    unfold Q5b
    refine js_bd fun tt1 hh2 => ?_
    refine js_st (v_set (v_ifFa (v_t (v_u (v_fz rfl) rfl rfl)) (v_new1 (v_cons (v_fz rfl) rfl v_nil) (sim_Ratio hh2))) (set_fz rfl h6 rfl)) ?_
    exact js_end rfl ⟨_, rfl, rfl⟩
  obtain ⟨ρ2, e, y_5b, es, rfl⟩ := key s q
  subst es
  exact jn_st (by rw [seq_nil] at e; exact e) (n )
def Q6b (n_0 : Int) (numbers_1 : List (Int × Int)) (y_5b : Int × Int) : Option ((Int × Int)) :=
  bd (aLc (fun ii1 => bd (A__law_choose (n_0) (ii1)) fun tt2 => bd (A_Ratio (tt2) (1)) fun tt4 => bd (A_Ratio_mul ((numbers_1).getD (ii1).toNat (0, 1)) tt4) fun tt6 => bd (A__law_power (y_5b) (n_0 - ii1)) fun tt8 => bd (A_Ratio_mul tt6 tt8) fun tt10 => gd ((decide (0 ≤ ii1) && decide (ii1 < ((numbers_1).length : Int)))) (some tt10)) ((n_0 + 1 : Int) - (0 : Int)).toNat (0)) fun xx13 => bd (A__law_sum (xx13)) fun tt15 => gd (decide (-1000000000 ≤ n_0 + 1) && decide (n_0 + 1 ≤ 1000000000) && (szOk ((n_0 + 1 : Int) - (0 : Int)).toNat)) (some tt15)
theorem st6b {ns : List Int} {sa sb : Int} {n_0 : Int} {numbers_1 : List (Int × Int)} {x_4 : Int} {y_5b : Int × Int} {c2 c7 c8 c9 c10 c11 c12 c13 c14 c15 c16 c17 : Cell} {P : Rho → Prop} {rest : Es} {s : (Int × Int)} (q : Q6b n_0 numbers_1 y_5b = some s) (h2 : PL c2) (h7 : PL c7) (h8 : PF c8) (h9 : PF c9) (h10 : PL c10) (h11 : PL c11) (h12 : PL c12) (h13 : PL c13) (h14 : PL c14) (h15 : PF c15) (h16 : PL c16) (h17 : PL c17) (n :  JN rest [.fz (.lck (IL ns)), .ow false [.int sa, .int sb], c2, .fz (.int n_0), .fz (.lst (RL numbers_1)), .fz (.int x_4), .fz (.obj 3 [.int y_5b.1, .int y_5b.2]), .fz (.obj 3 [.int s.1, .int s.2]), c8, c9, c10, c11, c12, c13, c14, c15, c16, c17, .un, .un] P) : JN (sSeq S6 rest) [.fz (.lck (IL ns)), .ow false [.int sa, .int sb], c2, .fz (.int n_0), .fz (.lst (RL numbers_1)), .fz (.int x_4), .fz (.obj 3 [.int y_5b.1, .int y_5b.2]), c7, c8, c9, c10, c11, c12, c13, c14, c15, c16, c17, .un, .un] P := by
  have key : JS (sSeq S6 sNil) [.fz (.lck (IL ns)), .ow false [.int sa, .int sb], c2, .fz (.int n_0), .fz (.lst (RL numbers_1)), .fz (.int x_4), .fz (.obj 3 [.int y_5b.1, .int y_5b.2]), c7, c8, c9, c10, c11, c12, c13, c14, c15, c16, c17, .un, .un] (Q6b n_0 numbers_1 y_5b) (PI (fun (s : (Int × Int)) (ρ : Rho) => ∃ (due_6b : (Int × Int)), s = due_6b ∧ ρ = [.fz (.lck (IL ns)), .ow false [.int sa, .int sb], c2, .fz (.int n_0), .fz (.lst (RL numbers_1)), .fz (.int x_4), .fz (.obj 3 [.int y_5b.1, .int y_5b.2]), .fz (.obj 3 [.int due_6b.1, .int due_6b.2]), c8, c9, c10, c11, c12, c13, c14, c15, c16, c17, .un, .un])) := by
    unfold Q6b
    refine js_bd fun xx13 hh14 => ?_
    refine js_bd fun tt15 hh16 => ?_
    refine js_gd fun hgg17 => ?_
    refine js_st (v_set (v_call0 (v_cons (v_lcS (enc := rD) (ρw := [.fz (.lck (IL ns)), .ow false [.int sa, .int sb], c2, .fz (.int n_0), .fz (.lst (RL numbers_1)), .fz (.int x_4), .fz (.obj 3 [.int y_5b.1, .int y_5b.2]), c7, .un, c9, c10, c11, c12, c13, c14, c15, c16, c17, .un, .un]) (v_rg1S (v_cons (v_opR (v_fz rfl) v_c rfl rfl rfl) rfl v_nil) (an1 hgg17)) (noOwn1 rfl h8) (an2 hgg17) rfl (fun ii1 v hv => by (try dsimp only at hv); (obtain ⟨tt2, hh3, hv⟩ := bd_some hv); (obtain ⟨tt4, hh5, hv⟩ := bd_some hv); (obtain ⟨tt6, hh7, hv⟩ := bd_some hv); (obtain ⟨tt8, hh9, hv⟩ := bd_some hv); (obtain ⟨tt10, hh11, hv⟩ := bd_some hv); (obtain ⟨hgg12, hv⟩ := gd_some hv); (cases hv); (exact ⟨_, _, rfl, (v_opRR (v_opRR (v_op (v_fz rfl) (v_fz rfl) rfl rfl (ix_rL hgg12)) (v_new1 (v_cons (v_call0 (v_cons (v_fz rfl) rfl (v_cons (v_fz rfl) rfl v_nil)) rfl (sim__law_choose hh3)) rfl v_nil) (sim_Ratio hh5)) rfl rfl (sim_Ratio_mul hh7)) (v_call0 (v_cons (v_fz rfl) rfl (v_cons (v_opR (v_fz rfl) (v_fz rfl) rfl rfl rfl) rfl v_nil)) rfl (sim__law_power hh9)) rfl rfl (sim_Ratio_mul hh11)), rfl⟩)) rfl hh14) rfl v_nil) rfl (sim__law_sum hh16)) (set_fz rfl h7 rfl)) ?_
    exact js_end rfl ⟨_, rfl, rfl⟩
  obtain ⟨ρ2, e, due_6b, es, rfl⟩ := key s q
  subst es
  exact jn_st (by rw [seq_nil] at e; exact e) (n )
def Q7b (n_0 : Int) (x_4 : Int) (y_5b : Int × Int) (due_6b : Int × Int) : Option (Unit) :=
  bd (A_Ratio (1) (1)) fun tt1 => bd (A_Ratio_add y_5b tt1) fun tt3 => bd (A_bernoulli_value_v1 (n_0) (tt3)) fun tt5 => bd (A_Ratio_sub tt5 due_6b) fun tt7 => bd (A_Ratio (n_0) (1)) fun tt9 => bd (A__law_power (y_5b) (n_0 - 1)) fun tt11 => bd (A_Ratio_mul tt9 tt11) fun tt13 => bd (A_Ratio (0) (1)) fun tt15 => bd (A_Ratio_eq tt7 (if decide (0 < n_0) then tt13.1 else tt15.1, if decide (0 < n_0) then tt13.2 else tt15.2)) fun tt17 => bd (A_bernoulli_value (n_0) (x_4)) fun tt19 => bd (A_Ratio_eq tt19 due_6b) fun tt21 => if (!(tt21)) || (!(tt17)) then none else some ()
theorem st7b {ns : List Int} {sa sb : Int} {n_0 : Int} {numbers_1 : List (Int × Int)} {x_4 : Int} {y_5b : Int × Int} {due_6b : Int × Int} {c2 c8 c9 c10 c11 c12 c13 c14 c15 c16 c17 : Cell} {P : Rho → Prop} {rest : Es} {s : Unit} (q : Q7b n_0 x_4 y_5b due_6b = some s) (h2 : PL c2) (h8 : PF c8) (h9 : PF c9) (h10 : PL c10) (h11 : PL c11) (h12 : PL c12) (h13 : PL c13) (h14 : PL c14) (h15 : PF c15) (h16 : PL c16) (h17 : PL c17) (n :  JN rest [.fz (.lck (IL ns)), .ow false [.int sa, .int sb], c2, .fz (.int n_0), .fz (.lst (RL numbers_1)), .fz (.int x_4), .fz (.obj 3 [.int y_5b.1, .int y_5b.2]), .fz (.obj 3 [.int due_6b.1, .int due_6b.2]), c8, c9, c10, c11, c12, c13, c14, c15, c16, c17, .un, .un] P) : JN (sSeq S7 rest) [.fz (.lck (IL ns)), .ow false [.int sa, .int sb], c2, .fz (.int n_0), .fz (.lst (RL numbers_1)), .fz (.int x_4), .fz (.obj 3 [.int y_5b.1, .int y_5b.2]), .fz (.obj 3 [.int due_6b.1, .int due_6b.2]), c8, c9, c10, c11, c12, c13, c14, c15, c16, c17, .un, .un] P := by
  have key : JS (sSeq S7 sNil) [.fz (.lck (IL ns)), .ow false [.int sa, .int sb], c2, .fz (.int n_0), .fz (.lst (RL numbers_1)), .fz (.int x_4), .fz (.obj 3 [.int y_5b.1, .int y_5b.2]), .fz (.obj 3 [.int due_6b.1, .int due_6b.2]), c8, c9, c10, c11, c12, c13, c14, c15, c16, c17, .un, .un] (Q7b n_0 x_4 y_5b due_6b) (PI (fun (s : Unit) (ρ : Rho) => s = () ∧ ρ = [.fz (.lck (IL ns)), .ow false [.int sa, .int sb], c2, .fz (.int n_0), .fz (.lst (RL numbers_1)), .fz (.int x_4), .fz (.obj 3 [.int y_5b.1, .int y_5b.2]), .fz (.obj 3 [.int due_6b.1, .int due_6b.2]), c8, c9, c10, c11, c12, c13, c14, c15, c16, c17, .un, .un])) := by
    unfold Q7b
    refine js_bd fun tt1 hh2 => ?_
    refine js_bd fun tt3 hh4 => ?_
    refine js_bd fun tt5 hh6 => ?_
    refine js_bd fun tt7 hh8 => ?_
    refine js_bd fun tt9 hh10 => ?_
    refine js_bd fun tt11 hh12 => ?_
    refine js_bd fun tt13 hh14 => ?_
    refine js_bd fun tt15 hh16 => ?_
    refine js_bd fun tt17 hh18 => ?_
    refine js_bd fun tt19 hh20 => ?_
    refine js_bd fun tt21 hh22 => ?_
    refine js_ifF (v_orS (v_not (v_t (v_call0 (v_cons v_c rfl (v_cons (v_tup (v_cons (v_fz rfl) rfl (v_cons (v_fz rfl) rfl v_nil)) rfl) rfl (v_cons (v_fz rfl) rfl v_nil))) rfl (tells_g (told2 rfl (sim_bernoulli_value hh20)) (same_rat hh22))))) (v_t (v_neRR (v_opRR (v_call0 (v_cons v_c rfl (v_cons (v_tup (v_cons (v_fz rfl) rfl (v_cons (v_opRR (v_fz rfl) (v_new1 (v_cons v_c rfl v_nil) (sim_Ratio hh2)) rfl rfl (sim_Ratio_add hh4)) rfl v_nil)) rfl) rfl v_nil)) rfl (val2 rfl (sim_bernoulli_value_v1 hh6))) (v_fz rfl) rfl rfl (sim_Ratio_sub hh8)) (v_ifR (v_t (v_op (v_fz rfl) v_c rfl rfl rfl)) (v_opRR (v_new1 (v_cons (v_fz rfl) rfl v_nil) (sim_Ratio hh10)) (v_call0 (v_cons (v_fz rfl) rfl (v_cons (v_opR (v_fz rfl) v_c rfl rfl rfl) rfl v_nil)) rfl (sim__law_power hh12)) rfl rfl (sim_Ratio_mul hh14)) (v_new1 (v_cons v_c rfl v_nil) (sim_Ratio hh16))) rfl rfl (sim_Ratio_eq hh18)))) fun _ => ?_
    exact js_end rfl ⟨rfl, rfl⟩
  obtain ⟨ρ2, e, es, rfl⟩ := key s q
  exact jn_st (by rw [seq_nil] at e; exact e) (n )
theorem st8b {ns : List Int} {sa sb : Int} {n_0 : Int} {numbers_1 : List (Int × Int)} {x_4 : Int} {y_5b : Int × Int} {due_6b : Int × Int} {c2 c8 c9 c10 c11 c12 c13 c14 c15 c16 c17 : Cell} {P : Rho → Prop} {rest : Es} (h2 : PL c2) (h8 : PF c8) (h9 : PF c9) (h10 : PL c10) (h11 : PL c11) (h12 : PL c12) (h13 : PL c13) (h14 : PL c14) (h15 : PF c15) (h16 : PL c16) (h17 : PL c17) (mva0 : (0 : Int) < (9 : Int)) (mva1 : (9 : Int) < 1000000) (mvb0 : (0 : Int) < (30 : Int)) (mvb1 : (30 : Int) < 1000000) (n : ∀ va vb a' b' : Int, 0 ≤ va → va < (9 : Int) → 0 ≤ vb → vb < (30 : Int) → JN rest [.fz (.lck (IL ns)), .ow false [.int a', .int b'], c2, .fz (.int n_0), .fz (.lst (RL numbers_1)), .fz (.int x_4), .fz (.obj 3 [.int y_5b.1, .int y_5b.2]), .fz (.obj 3 [.int due_6b.1, .int due_6b.2]), .fz (.int va), .fz (.int vb), c10, c11, c12, c13, c14, c15, c16, c17, .un, .un] P) : JN (sSeq S8 rest) [.fz (.lck (IL ns)), .ow false [.int sa, .int sb], c2, .fz (.int n_0), .fz (.lst (RL numbers_1)), .fz (.int x_4), .fz (.obj 3 [.int y_5b.1, .int y_5b.2]), .fz (.obj 3 [.int due_6b.1, .int due_6b.2]), c8, c9, c10, c11, c12, c13, c14, c15, c16, c17, .un, .un] P := by
  obtain ⟨va, a0, b0, ⟨va0, va1⟩, edva⟩ := take_eq (a := sa) (b := sb) mva0 mva1
  obtain ⟨vb, a', b', ⟨vb0, vb1⟩, edvb⟩ := take_eq (a := a0) (b := b0) mvb0 mvb1
  have e : S8 [.fz (.lck (IL ns)), .ow false [.int sa, .int sb], c2, .fz (.int n_0), .fz (.lst (RL numbers_1)), .fz (.int x_4), .fz (.obj 3 [.int y_5b.1, .int y_5b.2]), .fz (.obj 3 [.int due_6b.1, .int due_6b.2]), c8, c9, c10, c11, c12, c13, c14, c15, c16, c17, .un, .un] = .ok (.nx, [.fz (.lck (IL ns)), .ow false [.int a', .int b'], c2, .fz (.int n_0), .fz (.lst (RL numbers_1)), .fz (.int x_4), .fz (.obj 3 [.int y_5b.1, .int y_5b.2]), .fz (.obj 3 [.int due_6b.1, .int due_6b.2]), .fz (.int va), .fz (.int vb), c10, c11, c12, c13, c14, c15, c16, c17, .un, .un]) := by
    unfold S8
    exact (by apply v_unpT; (exact (v_tup (v_cons (v_callB rfl (v_cons v_c rfl v_nil) rfl rfl edva rfl) rfl (v_cons (v_callB rfl (v_cons v_c rfl v_nil) rfl rfl edvb rfl) rfl v_nil)) rfl)); (exact (bindL_c (set_R rfl (pf_pl h8) rfl) (bindL_c (set_R rfl (pf_pl h9) rfl) rfl))))
  exact jn_st e (n va vb a' b' va0 va1 vb0 vb1)
def Q9b (k_8b : Int) (m_8b : Int) : Option (Unit) :=
  bd (aLc (fun ii1 => bd (A__law_raised (ii1) (k_8b)) fun tt2 => some tt2) ((m_8b : Int) - (0 : Int)).toNat (0)) fun xx4 => bd (A_power_sum (k_8b) (m_8b)) fun tt6 => gd (decide (-1000000000 ≤ m_8b) && decide (m_8b ≤ 1000000000) && (szOk ((m_8b : Int) - (0 : Int)).toNat)) (if !(decide (tt6 = xx4.sum)) then none else some ())
theorem st9b {ns : List Int} {sa sb : Int} {n_0 : Int} {numbers_1 : List (Int × Int)} {x_4 : Int} {y_5b : Int × Int} {due_6b : Int × Int} {k_8b : Int} {m_8b : Int} {c2 c10 c11 c12 c13 c14 c15 c16 c17 : Cell} {P : Rho → Prop} {rest : Es} {s : Unit} (q : Q9b k_8b m_8b = some s) (h2 : PL c2) (h10 : PL c10) (h11 : PL c11) (h12 : PL c12) (h13 : PL c13) (h14 : PL c14) (h15 : PF c15) (h16 : PL c16) (h17 : PL c17) (n :  JN rest [.fz (.lck (IL ns)), .ow false [.int sa, .int sb], c2, .fz (.int n_0), .fz (.lst (RL numbers_1)), .fz (.int x_4), .fz (.obj 3 [.int y_5b.1, .int y_5b.2]), .fz (.obj 3 [.int due_6b.1, .int due_6b.2]), .fz (.int k_8b), .fz (.int m_8b), c10, c11, c12, c13, c14, c15, c16, c17, .un, .un] P) : JN (sSeq S9 rest) [.fz (.lck (IL ns)), .ow false [.int sa, .int sb], c2, .fz (.int n_0), .fz (.lst (RL numbers_1)), .fz (.int x_4), .fz (.obj 3 [.int y_5b.1, .int y_5b.2]), .fz (.obj 3 [.int due_6b.1, .int due_6b.2]), .fz (.int k_8b), .fz (.int m_8b), c10, c11, c12, c13, c14, c15, c16, c17, .un, .un] P := by
  have key : JS (sSeq S9 sNil) [.fz (.lck (IL ns)), .ow false [.int sa, .int sb], c2, .fz (.int n_0), .fz (.lst (RL numbers_1)), .fz (.int x_4), .fz (.obj 3 [.int y_5b.1, .int y_5b.2]), .fz (.obj 3 [.int due_6b.1, .int due_6b.2]), .fz (.int k_8b), .fz (.int m_8b), c10, c11, c12, c13, c14, c15, c16, c17, .un, .un] (Q9b k_8b m_8b) (PI (fun (s : Unit) (ρ : Rho) => s = () ∧ ρ = [.fz (.lck (IL ns)), .ow false [.int sa, .int sb], c2, .fz (.int n_0), .fz (.lst (RL numbers_1)), .fz (.int x_4), .fz (.obj 3 [.int y_5b.1, .int y_5b.2]), .fz (.obj 3 [.int due_6b.1, .int due_6b.2]), .fz (.int k_8b), .fz (.int m_8b), c10, c11, c12, c13, c14, c15, c16, c17, .un, .un])) := by
    unfold Q9b
    refine js_bd fun xx4 hh5 => ?_
    refine js_bd fun tt6 hh7 => ?_
    refine js_gd fun hgg9 => ?_
    refine js_ifF (v_not (v_t (v_call0 (v_cons v_c rfl (v_cons (v_tup (v_cons (v_fz rfl) rfl (v_cons (v_fz rfl) rfl v_nil)) rfl) rfl (v_cons (v_u (v_lcS (enc := D.int) (ρw := [.fz (.lck (IL ns)), .ow false [.int sa, .int sb], c2, .fz (.int n_0), .fz (.lst (RL numbers_1)), .fz (.int x_4), .fz (.obj 3 [.int y_5b.1, .int y_5b.2]), .fz (.obj 3 [.int due_6b.1, .int due_6b.2]), .fz (.int k_8b), .fz (.int m_8b), c10, c11, c12, c13, c14, c15, c16, c17, .un, .un]) (v_rg1S (v_cons (v_fz rfl) rfl v_nil) (an1 hgg9)) rfl (an2 hgg9) rfl (fun ii1 v hv => by (try dsimp only at hv); (obtain ⟨tt2, hh3, hv⟩ := bd_some hv); (cases hv); (exact ⟨_, _, rfl, (v_call0 (v_cons (v_fz rfl) rfl (v_cons (v_fz rfl) rfl v_nil)) rfl (sim__law_raised hh3)), rfl⟩)) rfl hh5) rfl sum_L) rfl v_nil))) rfl (tells2 rfl (sim_power_sum hh7))))) fun _ => ?_
    exact js_end rfl ⟨rfl, rfl⟩
  obtain ⟨ρ2, e, es, rfl⟩ := key s q
  exact jn_st (by rw [seq_nil] at e; exact e) (n )
theorem st10b {ns : List Int} {sa sb : Int} {n_0 : Int} {numbers_1 : List (Int × Int)} {x_4 : Int} {y_5b : Int × Int} {due_6b : Int × Int} {k_8b : Int} {m_8b : Int} {c2 c10 c11 c12 c13 c14 c15 c16 c17 : Cell} {P : Rho → Prop} {rest : Es} (h2 : PL c2) (h10 : PL c10) (h11 : PL c11) (h12 : PL c12) (h13 : PL c13) (h14 : PL c14) (h15 : PF c15) (h16 : PL c16) (h17 : PL c17) (mva0 : (0 : Int) < (12 : Int)) (mva1 : (12 : Int) < 1000000) (n : ∀ va a' b' : Int, 0 ≤ va → va < (12 : Int) → ((mulOk 2 (1 + va))) = true ∧ JN rest [.fz (.lck (IL ns)), .ow false [.int a', .int b'], c2, .fz (.int n_0), .fz (.lst (RL numbers_1)), .fz (.int x_4), .fz (.obj 3 [.int y_5b.1, .int y_5b.2]), .fz (.obj 3 [.int due_6b.1, .int due_6b.2]), .fz (.int k_8b), .fz (.int m_8b), .fz (.int (2 * (1 + va))), c11, c12, c13, c14, c15, c16, c17, .un, .un] P) : JN (sSeq S10 rest) [.fz (.lck (IL ns)), .ow false [.int sa, .int sb], c2, .fz (.int n_0), .fz (.lst (RL numbers_1)), .fz (.int x_4), .fz (.obj 3 [.int y_5b.1, .int y_5b.2]), .fz (.obj 3 [.int due_6b.1, .int due_6b.2]), .fz (.int k_8b), .fz (.int m_8b), c10, c11, c12, c13, c14, c15, c16, c17, .un, .un] P := by
  obtain ⟨va, a', b', ⟨va0, va1⟩, edva⟩ := take_eq (a := sa) (b := sb) mva0 mva1
  obtain ⟨hg, nn⟩ := n va a' b' va0 va1
  have e : S10 [.fz (.lck (IL ns)), .ow false [.int sa, .int sb], c2, .fz (.int n_0), .fz (.lst (RL numbers_1)), .fz (.int x_4), .fz (.obj 3 [.int y_5b.1, .int y_5b.2]), .fz (.obj 3 [.int due_6b.1, .int due_6b.2]), .fz (.int k_8b), .fz (.int m_8b), c10, c11, c12, c13, c14, c15, c16, c17, .un, .un] = .ok (.nx, [.fz (.lck (IL ns)), .ow false [.int a', .int b'], c2, .fz (.int n_0), .fz (.lst (RL numbers_1)), .fz (.int x_4), .fz (.obj 3 [.int y_5b.1, .int y_5b.2]), .fz (.obj 3 [.int due_6b.1, .int due_6b.2]), .fz (.int k_8b), .fz (.int m_8b), .fz (.int (2 * (1 + va))), c11, c12, c13, c14, c15, c16, c17, .un, .un]) := by
    unfold S10
    exact (v_set (v_opR v_c (v_opR v_c (v_callB rfl (v_cons v_c rfl v_nil) rfl rfl edva rfl) rfl rfl rfl) rfl rfl (gMul2_int hg)) (set_fz rfl h10 rfl))
  exact jn_st e nn
def Q11b (even_10b : Int) : Option ((List Int)) :=
  bd (aLcF (fun ii1 => bd (aLc (fun ii2 => gd ((decide (0 < ii2))) (some (!(decide (ii1 % ii2 = 0))))) ((ii1 : Int) - (2 : Int)).toNat (2)) fun xx4 => gd ((decide (0 < ii1 - 1)) && ((decide (-1000000000 ≤ 2) && (decide (2 ≤ 1000000000) && (decide (-1000000000 ≤ ii1) && decide (ii1 ≤ 1000000000)))) && ((szOk ((ii1 : Int) - (2 : Int)).toNat)))) (if (xx4.all id) && (decide (even_10b % (ii1 - 1) = 0)) then some (some ii1) else some none)) ((even_10b + 2 : Int) - (2 : Int)).toNat (2)) fun xx7 => gd (decide (-1000000000 ≤ 2) && (decide (2 ≤ 1000000000) && (decide (-1000000000 ≤ even_10b + 2) && decide (even_10b + 2 ≤ 1000000000))) && (szOk ((even_10b + 2 : Int) - (2 : Int)).toNat)) (some xx7)
theorem st11b {ns : List Int} {sa sb : Int} {n_0 : Int} {numbers_1 : List (Int × Int)} {x_4 : Int} {y_5b : Int × Int} {due_6b : Int × Int} {k_8b : Int} {m_8b : Int} {even_10b : Int} {c2 c11 c12 c13 c14 c15 c16 c17 : Cell} {P : Rho → Prop} {rest : Es} {s : (List Int)} (q : Q11b even_10b = some s) (h2 : PL c2) (h11 : PL c11) (h12 : PL c12) (h13 : PL c13) (h14 : PL c14) (h15 : PF c15) (h16 : PL c16) (h17 : PL c17) (n :  JN rest [.fz (.lck (IL ns)), .ow false [.int sa, .int sb], c2, .fz (.int n_0), .fz (.lst (RL numbers_1)), .fz (.int x_4), .fz (.obj 3 [.int y_5b.1, .int y_5b.2]), .fz (.obj 3 [.int due_6b.1, .int due_6b.2]), .fz (.int k_8b), .fz (.int m_8b), .fz (.int even_10b), .ow false (IL s), c12, c13, c14, c15, c16, c17, .un, .un] P) : JN (sSeq S11 rest) [.fz (.lck (IL ns)), .ow false [.int sa, .int sb], c2, .fz (.int n_0), .fz (.lst (RL numbers_1)), .fz (.int x_4), .fz (.obj 3 [.int y_5b.1, .int y_5b.2]), .fz (.obj 3 [.int due_6b.1, .int due_6b.2]), .fz (.int k_8b), .fz (.int m_8b), .fz (.int even_10b), c11, c12, c13, c14, c15, c16, c17, .un, .un] P := by
  have key : JS (sSeq S11 sNil) [.fz (.lck (IL ns)), .ow false [.int sa, .int sb], c2, .fz (.int n_0), .fz (.lst (RL numbers_1)), .fz (.int x_4), .fz (.obj 3 [.int y_5b.1, .int y_5b.2]), .fz (.obj 3 [.int due_6b.1, .int due_6b.2]), .fz (.int k_8b), .fz (.int m_8b), .fz (.int even_10b), c11, c12, c13, c14, c15, c16, c17, .un, .un] (Q11b even_10b) (PI (fun (s : (List Int)) (ρ : Rho) => ∃ (primes_11b : (List Int)), s = primes_11b ∧ ρ = [.fz (.lck (IL ns)), .ow false [.int sa, .int sb], c2, .fz (.int n_0), .fz (.lst (RL numbers_1)), .fz (.int x_4), .fz (.obj 3 [.int y_5b.1, .int y_5b.2]), .fz (.obj 3 [.int due_6b.1, .int due_6b.2]), .fz (.int k_8b), .fz (.int m_8b), .fz (.int even_10b), .ow false (IL primes_11b), c12, c13, c14, c15, c16, c17, .un, .un])) := by
    unfold Q11b
    refine js_bd fun xx7 hh8 => ?_
    refine js_gd fun hgg9 => ?_
    refine js_st (v_set (v_lcF (enc := D.int) (ρw := [.fz (.lck (IL ns)), .ow false [.int sa, .int sb], c2, .fz (.int n_0), .fz (.lst (RL numbers_1)), .fz (.int x_4), .fz (.obj 3 [.int y_5b.1, .int y_5b.2]), .fz (.obj 3 [.int due_6b.1, .int due_6b.2]), .fz (.int k_8b), .fz (.int m_8b), .fz (.int even_10b), c11, c12, c13, c14, .un, c16, c17, .un, .un]) (v_rg2 (v_cons v_c rfl (v_cons (v_opR (v_fz rfl) v_c rfl rfl rfl) rfl v_nil)) (an1 hgg9)) (noOwn1 rfl h15) (an2 hgg9) rfl (fun ii1 v hv => by (try dsimp only at hv); (obtain ⟨xx4, hh5, hv⟩ := bd_some hv); (obtain ⟨hgg6, hv⟩ := gd_some hv); exact ⟨_, ((xx4.all id) && (decide (even_10b % (ii1 - 1) = 0))), rfl, (v_andS (v_t (v_u (v_lcS (enc := D.bl) (ρw := [.fz (.lck (IL ns)), .ow false [.int sa, .int sb], c2, .fz (.int n_0), .fz (.lst (RL numbers_1)), .fz (.int x_4), .fz (.obj 3 [.int y_5b.1, .int y_5b.2]), .fz (.obj 3 [.int due_6b.1, .int due_6b.2]), .fz (.int k_8b), .fz (.int m_8b), .fz (.int even_10b), c11, c12, c13, c14, .fz (.int ii1), c16, c17, .un, .un]) (v_rg2 (v_cons v_c rfl (v_cons (v_fz rfl) rfl v_nil)) (an1 (an2 hgg6))) rfl (an2 (an2 hgg6)) rfl (fun ii2 v hv => by (try dsimp only at hv); (obtain ⟨hgg3, hv⟩ := gd_some hv); (cases hv); (exact ⟨_, _, rfl, (v_op (v_op (v_u (v_fz rfl) rfl rfl) (v_fz rfl) rfl rfl (gMod_int hgg3)) v_c rfl rfl rfl), rfl⟩)) rfl hh5) rfl all_L)) (v_t (v_op (v_op (v_u (v_fz rfl) rfl rfl) (v_opR (v_fz rfl) v_c rfl rfl rfl) rfl rfl (gMod_int (an1 hgg6))) v_c rfl rfl rfl))), lcF_fin hv rfl ⟨_, (v_fz rfl), rfl⟩⟩) rfl hh8) (set_fr rfl h11 rfl)) ?_
    exact js_end rfl ⟨_, rfl, rfl⟩
  obtain ⟨ρ2, e, primes_11b, es, rfl⟩ := key s q
  subst es
  exact jn_st (by rw [seq_nil] at e; exact e) (n )
def Q12b (even_10b : Int) : Option ((Int × Int)) :=
  bd (A_bernoulli (even_10b)) fun tt1 => some tt1
theorem st12b {ns : List Int} {sa sb : Int} {n_0 : Int} {numbers_1 : List (Int × Int)} {x_4 : Int} {y_5b : Int × Int} {due_6b : Int × Int} {k_8b : Int} {m_8b : Int} {even_10b : Int} {primes_11b : List Int} {c2 c12 c13 c14 c15 c16 c17 : Cell} {P : Rho → Prop} {rest : Es} {s : (Int × Int)} (q : Q12b even_10b = some s) (h2 : PL c2) (h12 : PL c12) (h13 : PL c13) (h14 : PL c14) (h15 : PF c15) (h16 : PL c16) (h17 : PL c17) (n :  JN rest [.fz (.lck (IL ns)), .ow false [.int sa, .int sb], c2, .fz (.int n_0), .fz (.lst (RL numbers_1)), .fz (.int x_4), .fz (.obj 3 [.int y_5b.1, .int y_5b.2]), .fz (.obj 3 [.int due_6b.1, .int due_6b.2]), .fz (.int k_8b), .fz (.int m_8b), .fz (.int even_10b), .ow false (IL primes_11b), .fz (.obj 3 [.int s.1, .int s.2]), c13, c14, c15, c16, c17, .un, .un] P) : JN (sSeq S12 rest) [.fz (.lck (IL ns)), .ow false [.int sa, .int sb], c2, .fz (.int n_0), .fz (.lst (RL numbers_1)), .fz (.int x_4), .fz (.obj 3 [.int y_5b.1, .int y_5b.2]), .fz (.obj 3 [.int due_6b.1, .int due_6b.2]), .fz (.int k_8b), .fz (.int m_8b), .fz (.int even_10b), .ow false (IL primes_11b), c12, c13, c14, c15, c16, c17, .un, .un] P := by
  have key : JS (sSeq S12 sNil) [.fz (.lck (IL ns)), .ow false [.int sa, .int sb], c2, .fz (.int n_0), .fz (.lst (RL numbers_1)), .fz (.int x_4), .fz (.obj 3 [.int y_5b.1, .int y_5b.2]), .fz (.obj 3 [.int due_6b.1, .int due_6b.2]), .fz (.int k_8b), .fz (.int m_8b), .fz (.int even_10b), .ow false (IL primes_11b), c12, c13, c14, c15, c16, c17, .un, .un] (Q12b even_10b) (PI (fun (s : (Int × Int)) (ρ : Rho) => ∃ (own_12b : (Int × Int)), s = own_12b ∧ ρ = [.fz (.lck (IL ns)), .ow false [.int sa, .int sb], c2, .fz (.int n_0), .fz (.lst (RL numbers_1)), .fz (.int x_4), .fz (.obj 3 [.int y_5b.1, .int y_5b.2]), .fz (.obj 3 [.int due_6b.1, .int due_6b.2]), .fz (.int k_8b), .fz (.int m_8b), .fz (.int even_10b), .ow false (IL primes_11b), .fz (.obj 3 [.int own_12b.1, .int own_12b.2]), c13, c14, c15, c16, c17, .un, .un])) := by
    unfold Q12b
    refine js_bd fun tt1 hh2 => ?_
    refine js_st (v_set (v_call0 (v_cons v_c rfl (v_cons (v_tup (v_cons (v_fz rfl) rfl v_nil) rfl) rfl v_nil)) rfl (val1 rfl (sim_bernoulli hh2))) (set_fz rfl h12 rfl)) ?_
    exact js_end rfl ⟨_, rfl, rfl⟩
  obtain ⟨ρ2, e, own_12b, es, rfl⟩ := key s q
  subst es
  exact jn_st (by rw [seq_nil] at e; exact e) (n )
def Q13b (primes_11b : List Int) (own_12b : Int × Int) : Option ((Int × Int)) :=
  bd (aL (fun ii1 => bd (A_Ratio (1) (ii1)) fun tt2 => some tt2) (primes_11b)) fun xx4 => bd (A__law_sum (xx4)) fun tt6 => bd (A_Ratio_add own_12b tt6) fun tt8 => gd (szOk (primes_11b).length) (some tt8)
theorem st13b {ns : List Int} {sa sb : Int} {n_0 : Int} {numbers_1 : List (Int × Int)} {x_4 : Int} {y_5b : Int × Int} {due_6b : Int × Int} {k_8b : Int} {m_8b : Int} {even_10b : Int} {primes_11b : List Int} {own_12b : Int × Int} {c2 c13 c14 c15 c16 c17 : Cell} {P : Rho → Prop} {rest : Es} {s : (Int × Int)} (q : Q13b primes_11b own_12b = some s) (h2 : PL c2) (h13 : PL c13) (h14 : PL c14) (h15 : PF c15) (h16 : PL c16) (h17 : PL c17) (n :  JN rest [.fz (.lck (IL ns)), .ow false [.int sa, .int sb], c2, .fz (.int n_0), .fz (.lst (RL numbers_1)), .fz (.int x_4), .fz (.obj 3 [.int y_5b.1, .int y_5b.2]), .fz (.obj 3 [.int due_6b.1, .int due_6b.2]), .fz (.int k_8b), .fz (.int m_8b), .fz (.int even_10b), .fz (.lst (IL primes_11b)), .fz (.obj 3 [.int own_12b.1, .int own_12b.2]), .fz (.obj 3 [.int s.1, .int s.2]), c14, c15, c16, c17, .un, .un] P) : JN (sSeq S13 rest) [.fz (.lck (IL ns)), .ow false [.int sa, .int sb], c2, .fz (.int n_0), .fz (.lst (RL numbers_1)), .fz (.int x_4), .fz (.obj 3 [.int y_5b.1, .int y_5b.2]), .fz (.obj 3 [.int due_6b.1, .int due_6b.2]), .fz (.int k_8b), .fz (.int m_8b), .fz (.int even_10b), .ow false (IL primes_11b), .fz (.obj 3 [.int own_12b.1, .int own_12b.2]), c13, c14, c15, c16, c17, .un, .un] P := by
  have key : JS (sSeq S13 sNil) [.fz (.lck (IL ns)), .ow false [.int sa, .int sb], c2, .fz (.int n_0), .fz (.lst (RL numbers_1)), .fz (.int x_4), .fz (.obj 3 [.int y_5b.1, .int y_5b.2]), .fz (.obj 3 [.int due_6b.1, .int due_6b.2]), .fz (.int k_8b), .fz (.int m_8b), .fz (.int even_10b), .ow false (IL primes_11b), .fz (.obj 3 [.int own_12b.1, .int own_12b.2]), c13, c14, c15, c16, c17, .un, .un] (Q13b primes_11b own_12b) (PI (fun (s : (Int × Int)) (ρ : Rho) => ∃ (whole_13b : (Int × Int)), s = whole_13b ∧ ρ = [.fz (.lck (IL ns)), .ow false [.int sa, .int sb], c2, .fz (.int n_0), .fz (.lst (RL numbers_1)), .fz (.int x_4), .fz (.obj 3 [.int y_5b.1, .int y_5b.2]), .fz (.obj 3 [.int due_6b.1, .int due_6b.2]), .fz (.int k_8b), .fz (.int m_8b), .fz (.int even_10b), .fz (.lst (IL primes_11b)), .fz (.obj 3 [.int own_12b.1, .int own_12b.2]), .fz (.obj 3 [.int whole_13b.1, .int whole_13b.2]), c14, c15, c16, c17, .un, .un])) := by
    unfold Q13b
    refine js_bd fun xx4 hh5 => ?_
    refine js_bd fun tt6 hh7 => ?_
    refine js_bd fun tt8 hh9 => ?_
    refine js_gd fun hgg10 => ?_
    refine js_st (v_set (v_opRR (v_fz rfl) (v_call0 (v_cons (v_lcL (enc := rD) (c := D.int) (ρw := [.fz (.lck (IL ns)), .ow false [.int sa, .int sb], c2, .fz (.int n_0), .fz (.lst (RL numbers_1)), .fz (.int x_4), .fz (.obj 3 [.int y_5b.1, .int y_5b.2]), .fz (.obj 3 [.int due_6b.1, .int due_6b.2]), .fz (.int k_8b), .fz (.int m_8b), .fz (.int even_10b), .fz (.lst (IL primes_11b)), .fz (.obj 3 [.int own_12b.1, .int own_12b.2]), c13, c14, .un, c16, c17, .un, .un]) (v_seqL (v_ow rfl) rfl) (noOwn1 rfl h15) hgg10 rfl (fun ii1 v hv => by (try dsimp only at hv); (obtain ⟨tt2, hh3, hv⟩ := bd_some hv); (cases hv); (exact ⟨_, _, rfl, (v_new2 (v_cons v_c rfl (v_cons (v_fz rfl) rfl v_nil)) (sim_Ratio hh3)), rfl⟩)) rfl hh5) rfl v_nil) rfl (sim__law_sum hh7)) rfl rfl (sim_Ratio_add hh9)) (set_fz rfl h13 rfl)) ?_
    exact js_end rfl ⟨_, rfl, rfl⟩
  obtain ⟨ρ2, e, whole_13b, es, rfl⟩ := key s q
  subst es
  exact jn_st (by rw [seq_nil] at e; exact e) (n )
def Q14b  : Option (Int) :=
  some 1
theorem st14b {ns : List Int} {sa sb : Int} {n_0 : Int} {numbers_1 : List (Int × Int)} {x_4 : Int} {y_5b : Int × Int} {due_6b : Int × Int} {k_8b : Int} {m_8b : Int} {even_10b : Int} {primes_11b : List Int} {own_12b : Int × Int} {whole_13b : Int × Int} {c2 c14 c15 c16 c17 : Cell} {P : Rho → Prop} {rest : Es} {s : Int} (q : Q14b  = some s) (h2 : PL c2) (h14 : PL c14) (h15 : PF c15) (h16 : PL c16) (h17 : PL c17) (n :  JN rest [.fz (.lck (IL ns)), .ow false [.int sa, .int sb], c2, .fz (.int n_0), .fz (.lst (RL numbers_1)), .fz (.int x_4), .fz (.obj 3 [.int y_5b.1, .int y_5b.2]), .fz (.obj 3 [.int due_6b.1, .int due_6b.2]), .fz (.int k_8b), .fz (.int m_8b), .fz (.int even_10b), .fz (.lst (IL primes_11b)), .fz (.obj 3 [.int own_12b.1, .int own_12b.2]), .fz (.obj 3 [.int whole_13b.1, .int whole_13b.2]), .fz (.int s), c15, c16, c17, .un, .un] P) : JN (sSeq S14 rest) [.fz (.lck (IL ns)), .ow false [.int sa, .int sb], c2, .fz (.int n_0), .fz (.lst (RL numbers_1)), .fz (.int x_4), .fz (.obj 3 [.int y_5b.1, .int y_5b.2]), .fz (.obj 3 [.int due_6b.1, .int due_6b.2]), .fz (.int k_8b), .fz (.int m_8b), .fz (.int even_10b), .fz (.lst (IL primes_11b)), .fz (.obj 3 [.int own_12b.1, .int own_12b.2]), .fz (.obj 3 [.int whole_13b.1, .int whole_13b.2]), c14, c15, c16, c17, .un, .un] P := by
  have key : JS (sSeq S14 sNil) [.fz (.lck (IL ns)), .ow false [.int sa, .int sb], c2, .fz (.int n_0), .fz (.lst (RL numbers_1)), .fz (.int x_4), .fz (.obj 3 [.int y_5b.1, .int y_5b.2]), .fz (.obj 3 [.int due_6b.1, .int due_6b.2]), .fz (.int k_8b), .fz (.int m_8b), .fz (.int even_10b), .fz (.lst (IL primes_11b)), .fz (.obj 3 [.int own_12b.1, .int own_12b.2]), .fz (.obj 3 [.int whole_13b.1, .int whole_13b.2]), c14, c15, c16, c17, .un, .un] (Q14b ) (PI (fun (s : Int) (ρ : Rho) => ∃ (low_14b : Int), s = low_14b ∧ ρ = [.fz (.lck (IL ns)), .ow false [.int sa, .int sb], c2, .fz (.int n_0), .fz (.lst (RL numbers_1)), .fz (.int x_4), .fz (.obj 3 [.int y_5b.1, .int y_5b.2]), .fz (.obj 3 [.int due_6b.1, .int due_6b.2]), .fz (.int k_8b), .fz (.int m_8b), .fz (.int even_10b), .fz (.lst (IL primes_11b)), .fz (.obj 3 [.int own_12b.1, .int own_12b.2]), .fz (.obj 3 [.int whole_13b.1, .int whole_13b.2]), .fz (.int low_14b), c15, c16, c17, .un, .un])) := by
    unfold Q14b
    refine js_st (v_set v_c (set_fz rfl h14 rfl)) ?_
    exact js_end rfl ⟨_, rfl, rfl⟩
  obtain ⟨ρ2, e, low_14b, es, rfl⟩ := key s q
  subst es
  exact jn_st (by rw [seq_nil] at e; exact e) (n )
def Q15b (primes_11b : List Int) (low_14b : Int) : Option (Int) :=
  bd (aForL (fun ii4 yy1 => gd (mulOk yy1 ii4) (lt (yy1 * ii4) fun xx5 => some xx5)) (primes_11b) low_14b) fun yy1 => some yy1
theorem st15b {ns : List Int} {sa sb : Int} {n_0 : Int} {numbers_1 : List (Int × Int)} {x_4 : Int} {y_5b : Int × Int} {due_6b : Int × Int} {k_8b : Int} {m_8b : Int} {even_10b : Int} {primes_11b : List Int} {own_12b : Int × Int} {whole_13b : Int × Int} {low_14b : Int} {c2 c15 c16 c17 : Cell} {P : Rho → Prop} {rest : Es} {s : Int} (q : Q15b primes_11b low_14b = some s) (h2 : PL c2) (h15 : PF c15) (h16 : PL c16) (h17 : PL c17) (n : ∀ d15, PF d15 → JN rest [.fz (.lck (IL ns)), .ow false [.int sa, .int sb], c2, .fz (.int n_0), .fz (.lst (RL numbers_1)), .fz (.int x_4), .fz (.obj 3 [.int y_5b.1, .int y_5b.2]), .fz (.obj 3 [.int due_6b.1, .int due_6b.2]), .fz (.int k_8b), .fz (.int m_8b), .fz (.int even_10b), .fz (.lst (IL primes_11b)), .fz (.obj 3 [.int own_12b.1, .int own_12b.2]), .fz (.obj 3 [.int whole_13b.1, .int whole_13b.2]), .fz (.int s), d15, c16, c17, .un, .un] P) : JN (sSeq S15 rest) [.fz (.lck (IL ns)), .ow false [.int sa, .int sb], c2, .fz (.int n_0), .fz (.lst (RL numbers_1)), .fz (.int x_4), .fz (.obj 3 [.int y_5b.1, .int y_5b.2]), .fz (.obj 3 [.int due_6b.1, .int due_6b.2]), .fz (.int k_8b), .fz (.int m_8b), .fz (.int even_10b), .fz (.lst (IL primes_11b)), .fz (.obj 3 [.int own_12b.1, .int own_12b.2]), .fz (.obj 3 [.int whole_13b.1, .int whole_13b.2]), .fz (.int low_14b), c15, c16, c17, .un, .un] P := by
  have key : JS (sSeq S15 sNil) [.fz (.lck (IL ns)), .ow false [.int sa, .int sb], c2, .fz (.int n_0), .fz (.lst (RL numbers_1)), .fz (.int x_4), .fz (.obj 3 [.int y_5b.1, .int y_5b.2]), .fz (.obj 3 [.int due_6b.1, .int due_6b.2]), .fz (.int k_8b), .fz (.int m_8b), .fz (.int even_10b), .fz (.lst (IL primes_11b)), .fz (.obj 3 [.int own_12b.1, .int own_12b.2]), .fz (.obj 3 [.int whole_13b.1, .int whole_13b.2]), .fz (.int low_14b), c15, c16, c17, .un, .un] (Q15b primes_11b low_14b) (PI (fun (s : Int) (ρ : Rho) => ∃ (low_15b : Int) (d15 : Cell), s = low_15b ∧ PF d15 ∧ ρ = [.fz (.lck (IL ns)), .ow false [.int sa, .int sb], c2, .fz (.int n_0), .fz (.lst (RL numbers_1)), .fz (.int x_4), .fz (.obj 3 [.int y_5b.1, .int y_5b.2]), .fz (.obj 3 [.int due_6b.1, .int due_6b.2]), .fz (.int k_8b), .fz (.int m_8b), .fz (.int even_10b), .fz (.lst (IL primes_11b)), .fz (.obj 3 [.int own_12b.1, .int own_12b.2]), .fz (.obj 3 [.int whole_13b.1, .int whole_13b.2]), .fz (.int low_15b), d15, c16, c17, .un, .un])) := by
    unfold Q15b
    refine js_forL (J := (fun (yy1 : Int) (ρ : Rho) => ∃ (cc2 : Cell), PF cc2 ∧ ρ = [.fz (.lck (IL ns)), .ow false [.int sa, .int sb], c2, .fz (.int n_0), .fz (.lst (RL numbers_1)), .fz (.int x_4), .fz (.obj 3 [.int y_5b.1, .int y_5b.2]), .fz (.obj 3 [.int due_6b.1, .int due_6b.2]), .fz (.int k_8b), .fz (.int m_8b), .fz (.int even_10b), .fz (.lst (IL primes_11b)), .fz (.obj 3 [.int own_12b.1, .int own_12b.2]), .fz (.obj 3 [.int whole_13b.1, .int whole_13b.2]), .fz (.int yy1), cc2, c16, c17, .un, .un])) (c := D.int) (v_seqL (v_fz rfl) rfl) ⟨_, h15, rfl⟩ ?_ ?_
    · intro ii4 yy1 ρ' hI
      obtain ⟨cc2, kk3, rfl⟩ := hI
      refine ⟨_, (set_R rfl (pf_pl kk3) rfl), ?_⟩
      try dsimp only
      refine js_gd fun hgg7 => ?_
      refine js_lt fun xx5 ee6 => ?_
      exact js_end (v_set (vi (v_opR (v_fz rfl) (v_fz rfl) rfl rfl (gMul2_int hgg7)) ee6) rfl) ⟨_, pf_fz, rfl⟩
    · intro yy1 ρ' hI
      obtain ⟨cc2, kk3, rfl⟩ := hI
      try dsimp only
      exact js_end rfl ⟨_, _, rfl, kk3, rfl⟩
  obtain ⟨ρ2, e, low_15b, d15, es, p15, rfl⟩ := key s q
  subst es
  exact jn_st (by rw [seq_nil] at e; exact e) (n _ p15)
def Q16b (even_10b : Int) (primes_11b : List Int) (own_12b : Int × Int) (whole_13b : Int × Int) (low_15b : Int) : Option (Unit) :=
  bd (A_whole_part (even_10b)) fun tt1 => bd (A_lower_primes (even_10b)) fun tt3 => bd (eqL tt3 primes_11b) fun tt5 => if (false) || ((!(decide (whole_13b.2 = 1))) || ((!(decide (tt1 = whole_13b.1))) || (!(decide (own_12b.2 = low_15b))))) then none else some ()
theorem st16b {ns : List Int} {sa sb : Int} {n_0 : Int} {numbers_1 : List (Int × Int)} {x_4 : Int} {y_5b : Int × Int} {due_6b : Int × Int} {k_8b : Int} {m_8b : Int} {even_10b : Int} {primes_11b : List Int} {own_12b : Int × Int} {whole_13b : Int × Int} {low_15b : Int} {c2 c15 c16 c17 : Cell} {P : Rho → Prop} {rest : Es} {s : Unit} (q : Q16b even_10b primes_11b own_12b whole_13b low_15b = some s) (h2 : PL c2) (h15 : PF c15) (h16 : PL c16) (h17 : PL c17) (n :  JN rest [.fz (.lck (IL ns)), .ow false [.int sa, .int sb], c2, .fz (.int n_0), .fz (.lst (RL numbers_1)), .fz (.int x_4), .fz (.obj 3 [.int y_5b.1, .int y_5b.2]), .fz (.obj 3 [.int due_6b.1, .int due_6b.2]), .fz (.int k_8b), .fz (.int m_8b), .fz (.int even_10b), .fz (.lst (IL primes_11b)), .fz (.obj 3 [.int own_12b.1, .int own_12b.2]), .fz (.obj 3 [.int whole_13b.1, .int whole_13b.2]), .fz (.int low_15b), c15, c16, c17, .un, .un] P) : JN (sSeq S16 rest) [.fz (.lck (IL ns)), .ow false [.int sa, .int sb], c2, .fz (.int n_0), .fz (.lst (RL numbers_1)), .fz (.int x_4), .fz (.obj 3 [.int y_5b.1, .int y_5b.2]), .fz (.obj 3 [.int due_6b.1, .int due_6b.2]), .fz (.int k_8b), .fz (.int m_8b), .fz (.int even_10b), .fz (.lst (IL primes_11b)), .fz (.obj 3 [.int own_12b.1, .int own_12b.2]), .fz (.obj 3 [.int whole_13b.1, .int whole_13b.2]), .fz (.int low_15b), c15, c16, c17, .un, .un] P := by
  have key : JS (sSeq S16 sNil) [.fz (.lck (IL ns)), .ow false [.int sa, .int sb], c2, .fz (.int n_0), .fz (.lst (RL numbers_1)), .fz (.int x_4), .fz (.obj 3 [.int y_5b.1, .int y_5b.2]), .fz (.obj 3 [.int due_6b.1, .int due_6b.2]), .fz (.int k_8b), .fz (.int m_8b), .fz (.int even_10b), .fz (.lst (IL primes_11b)), .fz (.obj 3 [.int own_12b.1, .int own_12b.2]), .fz (.obj 3 [.int whole_13b.1, .int whole_13b.2]), .fz (.int low_15b), c15, c16, c17, .un, .un] (Q16b even_10b primes_11b own_12b whole_13b low_15b) (PI (fun (s : Unit) (ρ : Rho) => s = () ∧ ρ = [.fz (.lck (IL ns)), .ow false [.int sa, .int sb], c2, .fz (.int n_0), .fz (.lst (RL numbers_1)), .fz (.int x_4), .fz (.obj 3 [.int y_5b.1, .int y_5b.2]), .fz (.obj 3 [.int due_6b.1, .int due_6b.2]), .fz (.int k_8b), .fz (.int m_8b), .fz (.int even_10b), .fz (.lst (IL primes_11b)), .fz (.obj 3 [.int own_12b.1, .int own_12b.2]), .fz (.obj 3 [.int whole_13b.1, .int whole_13b.2]), .fz (.int low_15b), c15, c16, c17, .un, .un])) := by
    unfold Q16b
    refine js_bd fun tt1 hh2 => ?_
    refine js_bd fun tt3 hh4 => ?_
    refine js_bd fun tt5 hh6 => ?_
    refine js_ifF (v_orS (v_notT (v_t (v_call0 (v_cons v_c rfl (v_cons (v_tup (v_cons (v_fz rfl) rfl v_nil) rfl) rfl (v_cons (v_u (v_fz rfl) rfl rfl) rfl v_nil))) rfl (tells_g (told1 rfl (sim_lower_primes hh4)) (same_it hh6))))) (v_orS (v_t (v_op (v_u (v_fz rfl) rfl rfl) v_c rfl rfl rfl)) (v_orS (v_not (v_t (v_call0 (v_cons v_c rfl (v_cons (v_tup (v_cons (v_fz rfl) rfl v_nil) rfl) rfl (v_cons (v_u (v_fz rfl) rfl rfl) rfl v_nil))) rfl (tells1 rfl (sim_whole_part hh2))))) (v_t (v_op (v_u (v_fz rfl) rfl rfl) (v_fz rfl) rfl rfl rfl))))) fun _ => ?_
    exact js_end rfl ⟨rfl, rfl⟩
  obtain ⟨ρ2, e, es, rfl⟩ := key s q
  exact jn_st (by rw [seq_nil] at e; exact e) (n )
def Q17b (even_10b : Int) : Option (Unit) :=
  bd (aL (fun ii1 => bd (A_bernoulli (ii1)) fun tt2 => some tt2.2) (rg2s (2) (((even_10b + 1) - (2) + 1) / 2).toNat)) fun xx4 => bd (A_half_numbers (even_10b)) fun tt6 => bd (eqL tt6 xx4) fun tt8 => gd ((decide (-1000000 ≤ 2) && decide (2 ≤ 1000000)) && (decide (-1000000 ≤ even_10b + 1) && decide (even_10b + 1 ≤ 1000000)) && (szOk (rg2s (2) (((even_10b + 1) - (2) + 1) / 2).toNat).length)) (if false then none else some ())
theorem st17b {ns : List Int} {sa sb : Int} {n_0 : Int} {numbers_1 : List (Int × Int)} {x_4 : Int} {y_5b : Int × Int} {due_6b : Int × Int} {k_8b : Int} {m_8b : Int} {even_10b : Int} {primes_11b : List Int} {own_12b : Int × Int} {whole_13b : Int × Int} {low_15b : Int} {c2 c15 c16 c17 : Cell} {P : Rho → Prop} {rest : Es} {s : Unit} (q : Q17b even_10b = some s) (h2 : PL c2) (h15 : PF c15) (h16 : PL c16) (h17 : PL c17) (n :  JN rest [.fz (.lck (IL ns)), .ow false [.int sa, .int sb], c2, .fz (.int n_0), .fz (.lst (RL numbers_1)), .fz (.int x_4), .fz (.obj 3 [.int y_5b.1, .int y_5b.2]), .fz (.obj 3 [.int due_6b.1, .int due_6b.2]), .fz (.int k_8b), .fz (.int m_8b), .fz (.int even_10b), .fz (.lst (IL primes_11b)), .fz (.obj 3 [.int own_12b.1, .int own_12b.2]), .fz (.obj 3 [.int whole_13b.1, .int whole_13b.2]), .fz (.int low_15b), c15, c16, c17, .un, .un] P) : JN (sSeq S17 rest) [.fz (.lck (IL ns)), .ow false [.int sa, .int sb], c2, .fz (.int n_0), .fz (.lst (RL numbers_1)), .fz (.int x_4), .fz (.obj 3 [.int y_5b.1, .int y_5b.2]), .fz (.obj 3 [.int due_6b.1, .int due_6b.2]), .fz (.int k_8b), .fz (.int m_8b), .fz (.int even_10b), .fz (.lst (IL primes_11b)), .fz (.obj 3 [.int own_12b.1, .int own_12b.2]), .fz (.obj 3 [.int whole_13b.1, .int whole_13b.2]), .fz (.int low_15b), c15, c16, c17, .un, .un] P := by
  have key : JS (sSeq S17 sNil) [.fz (.lck (IL ns)), .ow false [.int sa, .int sb], c2, .fz (.int n_0), .fz (.lst (RL numbers_1)), .fz (.int x_4), .fz (.obj 3 [.int y_5b.1, .int y_5b.2]), .fz (.obj 3 [.int due_6b.1, .int due_6b.2]), .fz (.int k_8b), .fz (.int m_8b), .fz (.int even_10b), .fz (.lst (IL primes_11b)), .fz (.obj 3 [.int own_12b.1, .int own_12b.2]), .fz (.obj 3 [.int whole_13b.1, .int whole_13b.2]), .fz (.int low_15b), c15, c16, c17, .un, .un] (Q17b even_10b) (PI (fun (s : Unit) (ρ : Rho) => s = () ∧ ρ = [.fz (.lck (IL ns)), .ow false [.int sa, .int sb], c2, .fz (.int n_0), .fz (.lst (RL numbers_1)), .fz (.int x_4), .fz (.obj 3 [.int y_5b.1, .int y_5b.2]), .fz (.obj 3 [.int due_6b.1, .int due_6b.2]), .fz (.int k_8b), .fz (.int m_8b), .fz (.int even_10b), .fz (.lst (IL primes_11b)), .fz (.obj 3 [.int own_12b.1, .int own_12b.2]), .fz (.obj 3 [.int whole_13b.1, .int whole_13b.2]), .fz (.int low_15b), c15, c16, c17, .un, .un])) := by
    unfold Q17b
    refine js_bd fun xx4 hh5 => ?_
    refine js_bd fun tt6 hh7 => ?_
    refine js_bd fun tt8 hh9 => ?_
    refine js_gd fun hgg11 => ?_
    refine js_ifF (v_notT (v_t (v_call0 (v_cons v_c rfl (v_cons (v_tup (v_cons (v_fz rfl) rfl v_nil) rfl) rfl (v_cons (v_u (v_lcL (enc := D.int) (c := D.int) (ρw := [.fz (.lck (IL ns)), .ow false [.int sa, .int sb], c2, .fz (.int n_0), .fz (.lst (RL numbers_1)), .fz (.int x_4), .fz (.obj 3 [.int y_5b.1, .int y_5b.2]), .fz (.obj 3 [.int due_6b.1, .int due_6b.2]), .fz (.int k_8b), .fz (.int m_8b), .fz (.int even_10b), .fz (.lst (IL primes_11b)), .fz (.obj 3 [.int own_12b.1, .int own_12b.2]), .fz (.obj 3 [.int whole_13b.1, .int whole_13b.2]), .fz (.int low_15b), c15, c16, c17, .un, .un]) (v_rg3 (v_cons v_c rfl (v_cons (v_opR (v_fz rfl) v_c rfl rfl rfl) rfl (v_cons v_c rfl v_nil))) (an1 hgg11)) rfl (an2 hgg11) rfl (fun ii1 v hv => by (try dsimp only at hv); (obtain ⟨tt2, hh3, hv⟩ := bd_some hv); (cases hv); (exact ⟨_, _, rfl, (v_u (v_call0 (v_cons v_c rfl (v_cons (v_tup (v_cons (v_fz rfl) rfl v_nil) rfl) rfl v_nil)) rfl (val1 rfl (sim_bernoulli hh3))) rfl rfl), rfl⟩)) rfl hh5) rfl rfl) rfl v_nil))) rfl (tells_g (told1 rfl (sim_half_numbers hh7)) (same_it hh9))))) fun _ => ?_
    exact js_end rfl ⟨rfl, rfl⟩
  obtain ⟨ρ2, e, es, rfl⟩ := key s q
  exact jn_st (by rw [seq_nil] at e; exact e) (n )
theorem st18b {ns : List Int} {sa sb : Int} {n_0 : Int} {numbers_1 : List (Int × Int)} {x_4 : Int} {y_5b : Int × Int} {due_6b : Int × Int} {k_8b : Int} {m_8b : Int} {even_10b : Int} {primes_11b : List Int} {own_12b : Int × Int} {whole_13b : Int × Int} {low_15b : Int} {c2 c15 c16 c17 : Cell} {P : Rho → Prop} {rest : Es} (h2 : PL c2) (h15 : PF c15) (h16 : PL c16) (h17 : PL c17) (mva0 : (0 : Int) < (9 : Int)) (mva1 : (9 : Int) < 1000000) (n : ∀ va a' b' : Int, 0 ≤ va → va < (9 : Int) → JN rest [.fz (.lck (IL ns)), .ow false [.int a', .int b'], c2, .fz (.int n_0), .fz (.lst (RL numbers_1)), .fz (.int x_4), .fz (.obj 3 [.int y_5b.1, .int y_5b.2]), .fz (.obj 3 [.int due_6b.1, .int due_6b.2]), .fz (.int k_8b), .fz (.int m_8b), .fz (.int even_10b), .fz (.lst (IL primes_11b)), .fz (.obj 3 [.int own_12b.1, .int own_12b.2]), .fz (.obj 3 [.int whole_13b.1, .int whole_13b.2]), .fz (.int low_15b), c15, .fz (.int (([3, 5, 7, 11, 13, 17, 19, 23, 37] : List Int).getD (va).toNat 0)), c17, .un, .un] P) : JN (sSeq S18 rest) [.fz (.lck (IL ns)), .ow false [.int sa, .int sb], c2, .fz (.int n_0), .fz (.lst (RL numbers_1)), .fz (.int x_4), .fz (.obj 3 [.int y_5b.1, .int y_5b.2]), .fz (.obj 3 [.int due_6b.1, .int due_6b.2]), .fz (.int k_8b), .fz (.int m_8b), .fz (.int even_10b), .fz (.lst (IL primes_11b)), .fz (.obj 3 [.int own_12b.1, .int own_12b.2]), .fz (.obj 3 [.int whole_13b.1, .int whole_13b.2]), .fz (.int low_15b), c15, c16, c17, .un, .un] P := by
  obtain ⟨va, a', b', ⟨va0, va1⟩, edva⟩ := take_eq (a := sa) (b := sb) mva0 mva1
  have e : S18 [.fz (.lck (IL ns)), .ow false [.int sa, .int sb], c2, .fz (.int n_0), .fz (.lst (RL numbers_1)), .fz (.int x_4), .fz (.obj 3 [.int y_5b.1, .int y_5b.2]), .fz (.obj 3 [.int due_6b.1, .int due_6b.2]), .fz (.int k_8b), .fz (.int m_8b), .fz (.int even_10b), .fz (.lst (IL primes_11b)), .fz (.obj 3 [.int own_12b.1, .int own_12b.2]), .fz (.obj 3 [.int whole_13b.1, .int whole_13b.2]), .fz (.int low_15b), c15, c16, c17, .un, .un] = .ok (.nx, [.fz (.lck (IL ns)), .ow false [.int a', .int b'], c2, .fz (.int n_0), .fz (.lst (RL numbers_1)), .fz (.int x_4), .fz (.obj 3 [.int y_5b.1, .int y_5b.2]), .fz (.obj 3 [.int due_6b.1, .int due_6b.2]), .fz (.int k_8b), .fz (.int m_8b), .fz (.int even_10b), .fz (.lst (IL primes_11b)), .fz (.obj 3 [.int own_12b.1, .int own_12b.2]), .fz (.obj 3 [.int whole_13b.1, .int whole_13b.2]), .fz (.int low_15b), c15, .fz (.int (([3, 5, 7, 11, 13, 17, 19, 23, 37] : List Int).getD (va).toNat 0)), c17, .un, .un]) := by
    unfold S18
    exact (v_set (v_op (v_lst (v_cons v_c rfl (v_cons v_c rfl (v_cons v_c rfl (v_cons v_c rfl (v_cons v_c rfl (v_cons v_c rfl (v_cons v_c rfl (v_cons v_c rfl (v_cons v_c rfl v_nil))))))))) rfl) (v_callB rfl (v_cons v_c rfl v_nil) rfl rfl edva rfl) rfl rfl (ix_cL (xs := [3, 5, 7, 11, 13, 17, 19, 23, 37]) rfl (dz va0 va1))) (set_fz rfl h16 rfl))
  exact jn_st e (n va a' b' va0 va1)
def Q19b (p_18b : Int) : Option (Unit) :=
  bd (aLF (fun ii1 => bd (A_bernoulli (ii1)) fun tt2 => gd ((decide (0 < p_18b))) (if decide ((tt2.1) % p_18b = 0) then some (some ii1) else some none)) (rg2s (2) (((p_18b - 2) - (2) + 1) / 2).toNat)) fun xx5 => bd (A_bad_indexes (p_18b)) fun tt7 => bd (eqL tt7 xx5) fun tt9 => gd ((decide (-1000000 ≤ 2) && decide (2 ≤ 1000000)) && (decide (-1000000 ≤ p_18b - 2) && decide (p_18b - 2 ≤ 1000000)) && (szOk (rg2s (2) (((p_18b - 2) - (2) + 1) / 2).toNat).length)) (if false then none else some ())
theorem st19b {ns : List Int} {sa sb : Int} {n_0 : Int} {numbers_1 : List (Int × Int)} {x_4 : Int} {y_5b : Int × Int} {due_6b : Int × Int} {k_8b : Int} {m_8b : Int} {even_10b : Int} {primes_11b : List Int} {own_12b : Int × Int} {whole_13b : Int × Int} {low_15b : Int} {p_18b : Int} {c2 c15 c17 : Cell} {P : Rho → Prop} {s : Unit} (q : Q19b p_18b = some s) (h2 : PL c2) (h15 : PF c15) (h17 : PL c17) (n :  P [.fz (.lck (IL ns)), .ow false [.int sa, .int sb], c2, .fz (.int n_0), .fz (.lst (RL numbers_1)), .fz (.int x_4), .fz (.obj 3 [.int y_5b.1, .int y_5b.2]), .fz (.obj 3 [.int due_6b.1, .int due_6b.2]), .fz (.int k_8b), .fz (.int m_8b), .fz (.int even_10b), .fz (.lst (IL primes_11b)), .fz (.obj 3 [.int own_12b.1, .int own_12b.2]), .fz (.obj 3 [.int whole_13b.1, .int whole_13b.2]), .fz (.int low_15b), c15, .fz (.int p_18b), c17, .un, .un]) : JN (S19) [.fz (.lck (IL ns)), .ow false [.int sa, .int sb], c2, .fz (.int n_0), .fz (.lst (RL numbers_1)), .fz (.int x_4), .fz (.obj 3 [.int y_5b.1, .int y_5b.2]), .fz (.obj 3 [.int due_6b.1, .int due_6b.2]), .fz (.int k_8b), .fz (.int m_8b), .fz (.int even_10b), .fz (.lst (IL primes_11b)), .fz (.obj 3 [.int own_12b.1, .int own_12b.2]), .fz (.obj 3 [.int whole_13b.1, .int whole_13b.2]), .fz (.int low_15b), c15, .fz (.int p_18b), c17, .un, .un] P := by
  have key : JS (sSeq S19 sNil) [.fz (.lck (IL ns)), .ow false [.int sa, .int sb], c2, .fz (.int n_0), .fz (.lst (RL numbers_1)), .fz (.int x_4), .fz (.obj 3 [.int y_5b.1, .int y_5b.2]), .fz (.obj 3 [.int due_6b.1, .int due_6b.2]), .fz (.int k_8b), .fz (.int m_8b), .fz (.int even_10b), .fz (.lst (IL primes_11b)), .fz (.obj 3 [.int own_12b.1, .int own_12b.2]), .fz (.obj 3 [.int whole_13b.1, .int whole_13b.2]), .fz (.int low_15b), c15, .fz (.int p_18b), c17, .un, .un] (Q19b p_18b) (PI (fun (s : Unit) (ρ : Rho) => s = () ∧ ρ = [.fz (.lck (IL ns)), .ow false [.int sa, .int sb], c2, .fz (.int n_0), .fz (.lst (RL numbers_1)), .fz (.int x_4), .fz (.obj 3 [.int y_5b.1, .int y_5b.2]), .fz (.obj 3 [.int due_6b.1, .int due_6b.2]), .fz (.int k_8b), .fz (.int m_8b), .fz (.int even_10b), .fz (.lst (IL primes_11b)), .fz (.obj 3 [.int own_12b.1, .int own_12b.2]), .fz (.obj 3 [.int whole_13b.1, .int whole_13b.2]), .fz (.int low_15b), c15, .fz (.int p_18b), c17, .un, .un])) := by
    unfold Q19b
    refine js_bd fun xx5 hh6 => ?_
    refine js_bd fun tt7 hh8 => ?_
    refine js_bd fun tt9 hh10 => ?_
    refine js_gd fun hgg12 => ?_
    refine js_ifF (v_notT (v_t (v_call0 (v_cons v_c rfl (v_cons (v_tup (v_cons (v_fz rfl) rfl v_nil) rfl) rfl (v_cons (v_u (v_lcLF (enc := D.int) (c := D.int) (ρw := [.fz (.lck (IL ns)), .ow false [.int sa, .int sb], c2, .fz (.int n_0), .fz (.lst (RL numbers_1)), .fz (.int x_4), .fz (.obj 3 [.int y_5b.1, .int y_5b.2]), .fz (.obj 3 [.int due_6b.1, .int due_6b.2]), .fz (.int k_8b), .fz (.int m_8b), .fz (.int even_10b), .fz (.lst (IL primes_11b)), .fz (.obj 3 [.int own_12b.1, .int own_12b.2]), .fz (.obj 3 [.int whole_13b.1, .int whole_13b.2]), .fz (.int low_15b), c15, .fz (.int p_18b), c17, .un, .un]) (v_rg3 (v_cons v_c rfl (v_cons (v_opR (v_fz rfl) v_c rfl rfl rfl) rfl (v_cons v_c rfl v_nil))) (an1 hgg12)) rfl (an2 hgg12) rfl (fun ii1 v hv => by (try dsimp only at hv); (obtain ⟨tt2, hh3, hv⟩ := bd_some hv); (obtain ⟨hgg4, hv⟩ := gd_some hv); exact ⟨_, (decide ((tt2.1) % p_18b = 0)), rfl, (v_t (v_op (v_op (v_u (v_u (v_call0 (v_cons v_c rfl (v_cons (v_tup (v_cons (v_fz rfl) rfl v_nil) rfl) rfl v_nil)) rfl (val1 rfl (sim_bernoulli hh3))) rfl rfl) rfl rfl) (v_fz rfl) rfl rfl (gMod_int hgg4)) v_c rfl rfl rfl)), lcF_fin hv rfl ⟨_, (v_fz rfl), rfl⟩⟩) rfl hh6) rfl rfl) rfl v_nil))) rfl (tells_g (told1 rfl (sim_bad_indexes hh8)) (same_it hh10))))) fun _ => ?_
    exact js_end rfl ⟨rfl, rfl⟩
  obtain ⟨ρ2, e, es, rfl⟩ := key s q
  exact jn_end (by rw [seq_nil] at e; exact e) (n )
end L59
end
section
set_option Elab.async false
set_option linter.all false
set_option maxRecDepth 100000
set_option maxHeartbeats 4000000
namespace L59
open PySem PySem.Spec PyProof.Rows L2 Rf
theorem ra {n : Int} {f : Int → Bool} (h : ((List.range n.toNat).all fun i => f (i : Int)) = true) {v : Int} (h0 : 0 ≤ v) (h1 : v < n) : f v = true := by
  rw [List.all_eq_true] at h
  have := h v.toNat (List.mem_range.2 (by omega))
  have e : ((v.toNat : Nat) : Int) = v := by omega
  rwa [e] at this
theorem la {L : List Int} {f : Int → Bool} (h : L.all f = true) {v : Int} (hv : v ∈ L) : f v = true := List.all_eq_true.1 h v hv
theorem so {α : Type} {o : Option α} (h : o.isSome = true) : ∃ a, o = some a := Option.isSome_iff_exists.1 h
def XS : List (Int × Int) := [(-9, 1), (-9, 2), (-8, 1), (-8, 3), (-7, 1), (-7, 2), (-7, 3), (-6, 1), (-5, 1), (-5, 2), (-5, 3), (-4, 1), (-4, 3), (-3, 1), (-3, 2), (-2, 1), (-2, 3), (-1, 1), (-1, 2), (-1, 3), (0, 1), (1, 1), (1, 2), (1, 3), (2, 1), (2, 3), (3, 1), (3, 2), (4, 1), (4, 3), (5, 1), (5, 2), (5, 3), (6, 1), (7, 1), (7, 2), (7, 3), (8, 1), (8, 3), (9, 1), (9, 2)]
def PS : List Int := [3, 5, 7, 11, 13, 17, 19, 23, 37]
def G1 (n : Int) : Bool := (bd (Q1 n) fun nu => bd (Q2 n nu) fun _ => Q3 n nu).isSome
def GX (n : Int) (x : Int × Int) : Bool := (bd (Q1 n) fun nu => bd (Q6a n nu x) fun due => Q7a n x x due).isSome
def GY (n x : Int) : Bool := (bd (Q1 n) fun nu => bd (Q5b x) fun y => bd (Q6b n nu y) fun due => Q7b n x y due).isSome
def G11 (e : Int) : Bool := (bd (Q11a e) fun pr => bd (Q12a e) fun own => bd (Q13a pr own) fun wh => bd (Q15a pr 1) fun low => bd (Q16a e pr own wh low) fun _ => Q17a e).isSome
theorem g1_0 : G1 0 = true := by decide +kernel
theorem gx_0 : (XS.all fun x => GX 0 x) = true := by decide +kernel
theorem gy_0 : ((List.range 19).all fun v => GY 0 ((v : Int) - 9)) = true := by decide +kernel
theorem g1_1 : G1 1 = true := by decide +kernel
theorem gx_1 : (XS.all fun x => GX 1 x) = true := by decide +kernel
theorem gy_1 : ((List.range 19).all fun v => GY 1 ((v : Int) - 9)) = true := by decide +kernel
theorem g1_2 : G1 2 = true := by decide +kernel
theorem gx_2 : (XS.all fun x => GX 2 x) = true := by decide +kernel
theorem gy_2 : ((List.range 19).all fun v => GY 2 ((v : Int) - 9)) = true := by decide +kernel
theorem g1_3 : G1 3 = true := by decide +kernel
theorem gx_3 : (XS.all fun x => GX 3 x) = true := by decide +kernel
theorem gy_3 : ((List.range 19).all fun v => GY 3 ((v : Int) - 9)) = true := by decide +kernel
theorem g1_4 : G1 4 = true := by decide +kernel
theorem gx_4 : (XS.all fun x => GX 4 x) = true := by decide +kernel
theorem gy_4 : ((List.range 19).all fun v => GY 4 ((v : Int) - 9)) = true := by decide +kernel
theorem g1_5 : G1 5 = true := by decide +kernel
theorem gx_5 : (XS.all fun x => GX 5 x) = true := by decide +kernel
theorem gy_5 : ((List.range 19).all fun v => GY 5 ((v : Int) - 9)) = true := by decide +kernel
theorem g1_6 : G1 6 = true := by decide +kernel
theorem gx_6 : (XS.all fun x => GX 6 x) = true := by decide +kernel
theorem gy_6 : ((List.range 19).all fun v => GY 6 ((v : Int) - 9)) = true := by decide +kernel
theorem g1_7 : G1 7 = true := by decide +kernel
theorem gx_7 : (XS.all fun x => GX 7 x) = true := by decide +kernel
theorem gy_7 : ((List.range 19).all fun v => GY 7 ((v : Int) - 9)) = true := by decide +kernel
theorem g1_8 : G1 8 = true := by decide +kernel
theorem gx_8 : (XS.all fun x => GX 8 x) = true := by decide +kernel
theorem gy_8 : ((List.range 19).all fun v => GY 8 ((v : Int) - 9)) = true := by decide +kernel
theorem g1_9 : G1 9 = true := by decide +kernel
theorem gx_9 : (XS.all fun x => GX 9 x) = true := by decide +kernel
theorem gy_9 : ((List.range 19).all fun v => GY 9 ((v : Int) - 9)) = true := by decide +kernel
theorem g1_10 : G1 10 = true := by decide +kernel
theorem gx_10 : (XS.all fun x => GX 10 x) = true := by decide +kernel
theorem gy_10 : ((List.range 19).all fun v => GY 10 ((v : Int) - 9)) = true := by decide +kernel
theorem g1_11 : G1 11 = true := by decide +kernel
theorem gx_11 : (XS.all fun x => GX 11 x) = true := by decide +kernel
theorem gy_11 : ((List.range 19).all fun v => GY 11 ((v : Int) - 9)) = true := by decide +kernel
theorem g1_12 : G1 12 = true := by decide +kernel
theorem gx_12 : (XS.all fun x => GX 12 x) = true := by decide +kernel
theorem gy_12 : ((List.range 19).all fun v => GY 12 ((v : Int) - 9)) = true := by decide +kernel
theorem g1_13 : G1 13 = true := by decide +kernel
theorem gx_13 : (XS.all fun x => GX 13 x) = true := by decide +kernel
theorem gy_13 : ((List.range 19).all fun v => GY 13 ((v : Int) - 9)) = true := by decide +kernel
theorem g1_14 : G1 14 = true := by decide +kernel
theorem gx_14 : (XS.all fun x => GX 14 x) = true := by decide +kernel
theorem gy_14 : ((List.range 19).all fun v => GY 14 ((v : Int) - 9)) = true := by decide +kernel
theorem g1_15 : G1 15 = true := by decide +kernel
theorem gx_15 : (XS.all fun x => GX 15 x) = true := by decide +kernel
theorem gy_15 : ((List.range 19).all fun v => GY 15 ((v : Int) - 9)) = true := by decide +kernel
theorem g1_16 : G1 16 = true := by decide +kernel
theorem gx_16 : (XS.all fun x => GX 16 x) = true := by decide +kernel
theorem gy_16 : ((List.range 19).all fun v => GY 16 ((v : Int) - 9)) = true := by decide +kernel
theorem g1_17 : G1 17 = true := by decide +kernel
theorem gx_17 : (XS.all fun x => GX 17 x) = true := by decide +kernel
theorem gy_17 : ((List.range 19).all fun v => GY 17 ((v : Int) - 9)) = true := by decide +kernel
theorem g1_18 : G1 18 = true := by decide +kernel
theorem gx_18 : (XS.all fun x => GX 18 x) = true := by decide +kernel
theorem gy_18 : ((List.range 19).all fun v => GY 18 ((v : Int) - 9)) = true := by decide +kernel
theorem g1_19 : G1 19 = true := by decide +kernel
theorem gx_19 : (XS.all fun x => GX 19 x) = true := by decide +kernel
theorem gy_19 : ((List.range 19).all fun v => GY 19 ((v : Int) - 9)) = true := by decide +kernel
theorem g1_20 : G1 20 = true := by decide +kernel
theorem gx_20 : (XS.all fun x => GX 20 x) = true := by decide +kernel
theorem gy_20 : ((List.range 19).all fun v => GY 20 ((v : Int) - 9)) = true := by decide +kernel
theorem gR : ((List.range 19).all fun v => (List.range 3).all fun w => match A_Ratio ((v : Int) - 9) (1 + (w : Int)) with | some t => decide (t ∈ XS) | none => false) = true := by decide +kernel
theorem domR {v w : Int} (h0 : 0 ≤ v) (h1 : v < 19) (h2 : 0 ≤ w) (h3 : w < 3) : ∃ t, A_Ratio (v - 9) (1 + w) = some t ∧ t ∈ XS := by
  have h := ra (n := 3) (f := fun w => match A_Ratio (v - 9) (1 + w) with | some t => decide (t ∈ XS) | none => false) (ra (n := 19) (f := fun v => (List.range 3).all fun w => match A_Ratio (v - 9) (1 + (w : Int)) with | some t => decide (t ∈ XS) | none => false) gR h0 h1) h2 h3
  split at h
  · rename_i t ht
    exact ⟨t, ht, of_decide_eq_true h⟩
  · cases h
theorem dom1 {n : Int} (n0 : 0 ≤ n) (n1 : n < 21) : ∃ nu, Q1 n = some nu ∧ Q2 n nu = some () ∧ Q3 n nu = some () := by
  have h : G1 n = true := by
    have e : n = 0 ∨ n = 1 ∨ n = 2 ∨ n = 3 ∨ n = 4 ∨ n = 5 ∨ n = 6 ∨ n = 7 ∨ n = 8 ∨ n = 9 ∨ n = 10 ∨ n = 11 ∨ n = 12 ∨ n = 13 ∨ n = 14 ∨ n = 15 ∨ n = 16 ∨ n = 17 ∨ n = 18 ∨ n = 19 ∨ n = 20 := by omega
    rcases e with rfl | rfl | rfl | rfl | rfl | rfl | rfl | rfl | rfl | rfl | rfl | rfl | rfl | rfl | rfl | rfl | rfl | rfl | rfl | rfl | rfl
    · exact g1_0
    · exact g1_1
    · exact g1_2
    · exact g1_3
    · exact g1_4
    · exact g1_5
    · exact g1_6
    · exact g1_7
    · exact g1_8
    · exact g1_9
    · exact g1_10
    · exact g1_11
    · exact g1_12
    · exact g1_13
    · exact g1_14
    · exact g1_15
    · exact g1_16
    · exact g1_17
    · exact g1_18
    · exact g1_19
    · exact g1_20
  obtain ⟨_, h⟩ := so h
  obtain ⟨nu, h1, h⟩ := bd_some h
  obtain ⟨_, h2, h⟩ := bd_some h
  exact ⟨nu, h1, h2, h⟩
theorem domX {n v w : Int} {nu : List (Int × Int)} {t : Int × Int} (n0 : 0 ≤ n) (n1 : n < 21) (q1 : Q1 n = some nu) (h0 : 0 ≤ v) (h1 : v < 19) (h2 : 0 ≤ w) (h3 : w < 3) (ht : A_Ratio (v - 9) (1 + w) = some t) : ∃ due, Q6a n nu t = some due ∧ Q7a n t t due = some () := by
  have h : (XS.all fun x => GX n x) = true := by
    have e : n = 0 ∨ n = 1 ∨ n = 2 ∨ n = 3 ∨ n = 4 ∨ n = 5 ∨ n = 6 ∨ n = 7 ∨ n = 8 ∨ n = 9 ∨ n = 10 ∨ n = 11 ∨ n = 12 ∨ n = 13 ∨ n = 14 ∨ n = 15 ∨ n = 16 ∨ n = 17 ∨ n = 18 ∨ n = 19 ∨ n = 20 := by omega
    rcases e with rfl | rfl | rfl | rfl | rfl | rfl | rfl | rfl | rfl | rfl | rfl | rfl | rfl | rfl | rfl | rfl | rfl | rfl | rfl | rfl | rfl
    · exact gx_0
    · exact gx_1
    · exact gx_2
    · exact gx_3
    · exact gx_4
    · exact gx_5
    · exact gx_6
    · exact gx_7
    · exact gx_8
    · exact gx_9
    · exact gx_10
    · exact gx_11
    · exact gx_12
    · exact gx_13
    · exact gx_14
    · exact gx_15
    · exact gx_16
    · exact gx_17
    · exact gx_18
    · exact gx_19
    · exact gx_20
  obtain ⟨t2, e2, hx⟩ := domR h0 h1 h2 h3
  rw [ht] at e2
  cases e2
  obtain ⟨_, h⟩ := so (List.all_eq_true.1 h t hx)
  obtain ⟨nu2, e1, h⟩ := bd_some h
  rw [q1] at e1
  cases e1
  obtain ⟨due, h6, h⟩ := bd_some h
  exact ⟨due, h6, h⟩
theorem domY {n v : Int} {nu : List (Int × Int)} (n0 : 0 ≤ n) (n1 : n < 21) (q1 : Q1 n = some nu) (h0 : 0 ≤ v) (h1 : v < 19) : ∃ y due, Q5b (v - 9) = some y ∧ Q6b n nu y = some due ∧ Q7b n (v - 9) y due = some () := by
  have h : ((List.range 19).all fun v => GY n ((v : Int) - 9)) = true := by
    have e : n = 0 ∨ n = 1 ∨ n = 2 ∨ n = 3 ∨ n = 4 ∨ n = 5 ∨ n = 6 ∨ n = 7 ∨ n = 8 ∨ n = 9 ∨ n = 10 ∨ n = 11 ∨ n = 12 ∨ n = 13 ∨ n = 14 ∨ n = 15 ∨ n = 16 ∨ n = 17 ∨ n = 18 ∨ n = 19 ∨ n = 20 := by omega
    rcases e with rfl | rfl | rfl | rfl | rfl | rfl | rfl | rfl | rfl | rfl | rfl | rfl | rfl | rfl | rfl | rfl | rfl | rfl | rfl | rfl | rfl
    · exact gy_0
    · exact gy_1
    · exact gy_2
    · exact gy_3
    · exact gy_4
    · exact gy_5
    · exact gy_6
    · exact gy_7
    · exact gy_8
    · exact gy_9
    · exact gy_10
    · exact gy_11
    · exact gy_12
    · exact gy_13
    · exact gy_14
    · exact gy_15
    · exact gy_16
    · exact gy_17
    · exact gy_18
    · exact gy_19
    · exact gy_20
  obtain ⟨_, h⟩ := so (ra (n := 19) (f := fun v => GY n (v - 9)) h h0 h1)
  obtain ⟨nu2, e1, h⟩ := bd_some h
  rw [q1] at e1
  cases e1
  obtain ⟨y, h5, h⟩ := bd_some h
  obtain ⟨due, h6, h⟩ := bd_some h
  exact ⟨y, due, h5, h6, h⟩
theorem g9 : ((List.range 9).all fun k => (List.range 30).all fun m => (Q9a (k : Int) (m : Int)).isSome) = true := by decide +kernel
theorem dom9 {k m : Int} (k0 : 0 ≤ k) (k1 : k < 9) (m0 : 0 ≤ m) (m1 : m < 30) : Q9a k m = some () := by
  obtain ⟨_, h⟩ := so (ra (n := 30) (f := fun m => (Q9a k m).isSome) (ra (n := 9) (f := fun k => (List.range 30).all fun m => (Q9a k (m : Int)).isSome) g9 k0 k1) m0 m1)
  exact h
theorem gM : ((List.range 12).all fun v => mulOk 2 (1 + (v : Int))) = true := by decide +kernel
theorem domM {v : Int} (v0 : 0 ≤ v) (v1 : v < 12) : mulOk 2 (1 + v) = true := ra (n := 12) (f := fun v => mulOk 2 (1 + v)) gM v0 v1
theorem g11 : ((List.range 12).all fun v => G11 (2 * (1 + (v : Int)))) = true := by decide +kernel
theorem dom11 {v : Int} (v0 : 0 ≤ v) (v1 : v < 12) : ∃ pr own wh low, Q11a (2 * (1 + v)) = some pr ∧ Q12a (2 * (1 + v)) = some own ∧ Q13a pr own = some wh ∧ Q15a pr 1 = some low ∧ Q16a (2 * (1 + v)) pr own wh low = some () ∧ Q17a (2 * (1 + v)) = some () := by
  obtain ⟨_, h⟩ := so (ra (n := 12) (f := fun v => G11 (2 * (1 + v))) g11 v0 v1)
  obtain ⟨pr, h1, h⟩ := bd_some h
  obtain ⟨own, h2, h⟩ := bd_some h
  obtain ⟨wh, h3, h⟩ := bd_some h
  obtain ⟨low, h4, h⟩ := bd_some h
  obtain ⟨_, h5, h⟩ := bd_some h
  exact ⟨pr, own, wh, low, h1, h2, h3, h4, h5, h⟩
theorem g19 : ((List.range 9).all fun v => (Q19a (([3, 5, 7, 11, 13, 17, 19, 23, 37] : List Int).getD ((v : Int)).toNat 0)).isSome) = true := by decide +kernel
theorem dom19 {v : Int} (v0 : 0 ≤ v) (v1 : v < 9) : Q19a (([3, 5, 7, 11, 13, 17, 19, 23, 37] : List Int).getD (v).toNat 0) = some () := by
  obtain ⟨_, h⟩ := so (ra (n := 9) (f := fun v => (Q19a (([3, 5, 7, 11, 13, 17, 19, 23, 37] : List Int).getD (v).toNat 0)).isSome) g19 v0 v1)
  exact h
end L59
end
section
set_option Elab.async false
set_option linter.all false
set_option maxRecDepth 100000
set_option maxHeartbeats 4000000
namespace L59
open PySem PySem.Spec PyProof.Rows L2 Rf
def IV (ns : List Int) (ρ : Rho) : Prop := ∃ (sa sb : Int) (c2 c3 c4 c5 c6 c7 c8 c9 c10 c11 c12 c13 c14 c15 c16 c17 : Cell), PL c2 ∧ PL c3 ∧ PL c4 ∧ PL c5 ∧ PL c6 ∧ PL c7 ∧ PF c8 ∧ PF c9 ∧ PL c10 ∧ PL c11 ∧ PL c12 ∧ PL c13 ∧ PL c14 ∧ PF c15 ∧ PL c16 ∧ PL c17 ∧ ρ = [.fz (.lck (IL ns)), .ow false [.int sa, .int sb], c2, c3, c4, c5, c6, c7, c8, c9, c10, c11, c12, c13, c14, c15, c16, c17, .un, .un]
theorem turn {ns : List Int} (dd : D) (ρ : Rho) (hI : IV ns ρ) : ∃ ρ1 ρ2, bindT (.nm 2) dd ρ = some ρ1 ∧ TB ρ1 = .ok (.nx, ρ2) ∧ IV ns ρ2 := by
  obtain ⟨sa, sb, c2, c3, c4, c5, c6, c7, c8, c9, c10, c11, c12, c13, c14, c15, c16, c17, h2, h3, h4, h5, h6, h7, h8, h9, h10, h11, h12, h13, h14, h15, h16, h17, rfl⟩ := hI
  have key : JN TB [.fz (.lck (IL ns)), .ow false [.int sa, .int sb], .fz (dd), c3, c4, c5, c6, c7, c8, c9, c10, c11, c12, c13, c14, c15, c16, c17, .un, .un] (IV ns) := by
    have ho := h2
    have h2 := pl_fz (d := dd)
    refine st0 (by first | exact h2 | exact pl_fz | exact pf_fz | rfl) (by first | exact h3 | exact pl_fz | exact pf_fz | rfl) (by first | exact h4 | exact pl_fz | exact pf_fz | rfl) (by first | exact h5 | exact pl_fz | exact pf_fz | rfl) (by first | exact h6 | exact pl_fz | exact pf_fz | rfl) (by first | exact h7 | exact pl_fz | exact pf_fz | rfl) (by first | exact h8 | exact pl_fz | exact pf_fz | rfl) (by first | exact h9 | exact pl_fz | exact pf_fz | rfl) (by first | exact h10 | exact pl_fz | exact pf_fz | rfl) (by first | exact h11 | exact pl_fz | exact pf_fz | rfl) (by first | exact h12 | exact pl_fz | exact pf_fz | rfl) (by first | exact h13 | exact pl_fz | exact pf_fz | rfl) (by first | exact h14 | exact pl_fz | exact pf_fz | rfl) (by first | exact h15 | exact pl_fz | exact pf_fz | rfl) (by first | exact h16 | exact pl_fz | exact pf_fz | rfl) (by first | exact h17 | exact pl_fz | exact pf_fz | rfl) (by decide) (by decide) ?_
    intro n sa sb n0 n1
    obtain ⟨nu, q1, q2, q3⟩ := dom1 n0 n1
    refine st1 (q1) (by first | exact h2 | exact pl_fz | exact pf_fz | rfl) (by first | exact h4 | exact pl_fz | exact pf_fz | rfl) (by first | exact h5 | exact pl_fz | exact pf_fz | rfl) (by first | exact h6 | exact pl_fz | exact pf_fz | rfl) (by first | exact h7 | exact pl_fz | exact pf_fz | rfl) (by first | exact h8 | exact pl_fz | exact pf_fz | rfl) (by first | exact h9 | exact pl_fz | exact pf_fz | rfl) (by first | exact h10 | exact pl_fz | exact pf_fz | rfl) (by first | exact h11 | exact pl_fz | exact pf_fz | rfl) (by first | exact h12 | exact pl_fz | exact pf_fz | rfl) (by first | exact h13 | exact pl_fz | exact pf_fz | rfl) (by first | exact h14 | exact pl_fz | exact pf_fz | rfl) (by first | exact h15 | exact pl_fz | exact pf_fz | rfl) (by first | exact h16 | exact pl_fz | exact pf_fz | rfl) (by first | exact h17 | exact pl_fz | exact pf_fz | rfl) ?_
    refine st2 (q2) (by first | exact h2 | exact pl_fz | exact pf_fz | rfl) (by first | exact h5 | exact pl_fz | exact pf_fz | rfl) (by first | exact h6 | exact pl_fz | exact pf_fz | rfl) (by first | exact h7 | exact pl_fz | exact pf_fz | rfl) (by first | exact h8 | exact pl_fz | exact pf_fz | rfl) (by first | exact h9 | exact pl_fz | exact pf_fz | rfl) (by first | exact h10 | exact pl_fz | exact pf_fz | rfl) (by first | exact h11 | exact pl_fz | exact pf_fz | rfl) (by first | exact h12 | exact pl_fz | exact pf_fz | rfl) (by first | exact h13 | exact pl_fz | exact pf_fz | rfl) (by first | exact h14 | exact pl_fz | exact pf_fz | rfl) (by first | exact h15 | exact pl_fz | exact pf_fz | rfl) (by first | exact h16 | exact pl_fz | exact pf_fz | rfl) (by first | exact h17 | exact pl_fz | exact pf_fz | rfl) ?_
    refine st3 (q3) (by first | exact h2 | exact pl_fz | exact pf_fz | rfl) (by first | exact h5 | exact pl_fz | exact pf_fz | rfl) (by first | exact h6 | exact pl_fz | exact pf_fz | rfl) (by first | exact h7 | exact pl_fz | exact pf_fz | rfl) (by first | exact h8 | exact pl_fz | exact pf_fz | rfl) (by first | exact h9 | exact pl_fz | exact pf_fz | rfl) (by first | exact h10 | exact pl_fz | exact pf_fz | rfl) (by first | exact h11 | exact pl_fz | exact pf_fz | rfl) (by first | exact h12 | exact pl_fz | exact pf_fz | rfl) (by first | exact h13 | exact pl_fz | exact pf_fz | rfl) (by first | exact h14 | exact pl_fz | exact pf_fz | rfl) (by first | exact h15 | exact pl_fz | exact pf_fz | rfl) (by first | exact h16 | exact pl_fz | exact pf_fz | rfl) (by first | exact h17 | exact pl_fz | exact pf_fz | rfl) ?_
    refine st4 (by first | exact h2 | exact pl_fz | exact pf_fz | rfl) (by first | exact h5 | exact pl_fz | exact pf_fz | rfl) (by first | exact h6 | exact pl_fz | exact pf_fz | rfl) (by first | exact h7 | exact pl_fz | exact pf_fz | rfl) (by first | exact h8 | exact pl_fz | exact pf_fz | rfl) (by first | exact h9 | exact pl_fz | exact pf_fz | rfl) (by first | exact h10 | exact pl_fz | exact pf_fz | rfl) (by first | exact h11 | exact pl_fz | exact pf_fz | rfl) (by first | exact h12 | exact pl_fz | exact pf_fz | rfl) (by first | exact h13 | exact pl_fz | exact pf_fz | rfl) (by first | exact h14 | exact pl_fz | exact pf_fz | rfl) (by first | exact h15 | exact pl_fz | exact pf_fz | rfl) (by first | exact h16 | exact pl_fz | exact pf_fz | rfl) (by first | exact h17 | exact pl_fz | exact pf_fz | rfl) (by decide) (by decide) (by decide) (by decide) (fun v w h0 h1 h2 h3 => (domR h0 h1 h2 h3).imp fun _ h => h.1) ?_ ?_
    · intro va wa ta va0 va1 wa0 wa1 hta vb vb0 vb1 sa sb
      obtain ⟨due, q6, q7⟩ := domX n0 n1 q1 va0 va1 wa0 wa1 hta
      refine st5a (rfl) (by first | exact h2 | exact pl_fz | exact pf_fz | rfl) (by first | exact h6 | exact pl_fz | exact pf_fz | rfl) (by first | exact h7 | exact pl_fz | exact pf_fz | rfl) (by first | exact h8 | exact pl_fz | exact pf_fz | rfl) (by first | exact h9 | exact pl_fz | exact pf_fz | rfl) (by first | exact h10 | exact pl_fz | exact pf_fz | rfl) (by first | exact h11 | exact pl_fz | exact pf_fz | rfl) (by first | exact h12 | exact pl_fz | exact pf_fz | rfl) (by first | exact h13 | exact pl_fz | exact pf_fz | rfl) (by first | exact h14 | exact pl_fz | exact pf_fz | rfl) (by first | exact h15 | exact pl_fz | exact pf_fz | rfl) (by first | exact h16 | exact pl_fz | exact pf_fz | rfl) (by first | exact h17 | exact pl_fz | exact pf_fz | rfl) ?_
      refine st6a (q6) (by first | exact h2 | exact pl_fz | exact pf_fz | rfl) (by first | exact h7 | exact pl_fz | exact pf_fz | rfl) (by first | exact h8 | exact pl_fz | exact pf_fz | rfl) (by first | exact h9 | exact pl_fz | exact pf_fz | rfl) (by first | exact h10 | exact pl_fz | exact pf_fz | rfl) (by first | exact h11 | exact pl_fz | exact pf_fz | rfl) (by first | exact h12 | exact pl_fz | exact pf_fz | rfl) (by first | exact h13 | exact pl_fz | exact pf_fz | rfl) (by first | exact h14 | exact pl_fz | exact pf_fz | rfl) (by first | exact h15 | exact pl_fz | exact pf_fz | rfl) (by first | exact h16 | exact pl_fz | exact pf_fz | rfl) (by first | exact h17 | exact pl_fz | exact pf_fz | rfl) ?_
      refine st7a (q7) (by first | exact h2 | exact pl_fz | exact pf_fz | rfl) (by first | exact h8 | exact pl_fz | exact pf_fz | rfl) (by first | exact h9 | exact pl_fz | exact pf_fz | rfl) (by first | exact h10 | exact pl_fz | exact pf_fz | rfl) (by first | exact h11 | exact pl_fz | exact pf_fz | rfl) (by first | exact h12 | exact pl_fz | exact pf_fz | rfl) (by first | exact h13 | exact pl_fz | exact pf_fz | rfl) (by first | exact h14 | exact pl_fz | exact pf_fz | rfl) (by first | exact h15 | exact pl_fz | exact pf_fz | rfl) (by first | exact h16 | exact pl_fz | exact pf_fz | rfl) (by first | exact h17 | exact pl_fz | exact pf_fz | rfl) ?_
      refine st8a (by first | exact h2 | exact pl_fz | exact pf_fz | rfl) (by first | exact h8 | exact pl_fz | exact pf_fz | rfl) (by first | exact h9 | exact pl_fz | exact pf_fz | rfl) (by first | exact h10 | exact pl_fz | exact pf_fz | rfl) (by first | exact h11 | exact pl_fz | exact pf_fz | rfl) (by first | exact h12 | exact pl_fz | exact pf_fz | rfl) (by first | exact h13 | exact pl_fz | exact pf_fz | rfl) (by first | exact h14 | exact pl_fz | exact pf_fz | rfl) (by first | exact h15 | exact pl_fz | exact pf_fz | rfl) (by first | exact h16 | exact pl_fz | exact pf_fz | rfl) (by first | exact h17 | exact pl_fz | exact pf_fz | rfl) (by decide) (by decide) (by decide) (by decide) ?_
      intro k m sa sb k0 k1 m0 m1
      have q9 := dom9 k0 k1 m0 m1
      refine st9a (q9) (by first | exact h2 | exact pl_fz | exact pf_fz | rfl) (by first | exact h10 | exact pl_fz | exact pf_fz | rfl) (by first | exact h11 | exact pl_fz | exact pf_fz | rfl) (by first | exact h12 | exact pl_fz | exact pf_fz | rfl) (by first | exact h13 | exact pl_fz | exact pf_fz | rfl) (by first | exact h14 | exact pl_fz | exact pf_fz | rfl) (by first | exact h15 | exact pl_fz | exact pf_fz | rfl) (by first | exact h16 | exact pl_fz | exact pf_fz | rfl) (by first | exact h17 | exact pl_fz | exact pf_fz | rfl) ?_
      refine st10a (by first | exact h2 | exact pl_fz | exact pf_fz | rfl) (by first | exact h10 | exact pl_fz | exact pf_fz | rfl) (by first | exact h11 | exact pl_fz | exact pf_fz | rfl) (by first | exact h12 | exact pl_fz | exact pf_fz | rfl) (by first | exact h13 | exact pl_fz | exact pf_fz | rfl) (by first | exact h14 | exact pl_fz | exact pf_fz | rfl) (by first | exact h15 | exact pl_fz | exact pf_fz | rfl) (by first | exact h16 | exact pl_fz | exact pf_fz | rfl) (by first | exact h17 | exact pl_fz | exact pf_fz | rfl) (by decide) (by decide) ?_
      intro e sa sb e0 e1
      refine ⟨domM e0 e1, ?_⟩
      obtain ⟨pr, own, wh, low, q11, q12, q13, q15, q16, q17⟩ := dom11 e0 e1
      refine st11a (q11) (by first | exact h2 | exact pl_fz | exact pf_fz | rfl) (by first | exact h11 | exact pl_fz | exact pf_fz | rfl) (by first | exact h12 | exact pl_fz | exact pf_fz | rfl) (by first | exact h13 | exact pl_fz | exact pf_fz | rfl) (by first | exact h14 | exact pl_fz | exact pf_fz | rfl) (by first | exact h15 | exact pl_fz | exact pf_fz | rfl) (by first | exact h16 | exact pl_fz | exact pf_fz | rfl) (by first | exact h17 | exact pl_fz | exact pf_fz | rfl) ?_
      refine st12a (q12) (by first | exact h2 | exact pl_fz | exact pf_fz | rfl) (by first | exact h12 | exact pl_fz | exact pf_fz | rfl) (by first | exact h13 | exact pl_fz | exact pf_fz | rfl) (by first | exact h14 | exact pl_fz | exact pf_fz | rfl) (by first | exact h15 | exact pl_fz | exact pf_fz | rfl) (by first | exact h16 | exact pl_fz | exact pf_fz | rfl) (by first | exact h17 | exact pl_fz | exact pf_fz | rfl) ?_
      refine st13a (q13) (by first | exact h2 | exact pl_fz | exact pf_fz | rfl) (by first | exact h13 | exact pl_fz | exact pf_fz | rfl) (by first | exact h14 | exact pl_fz | exact pf_fz | rfl) (by first | exact h15 | exact pl_fz | exact pf_fz | rfl) (by first | exact h16 | exact pl_fz | exact pf_fz | rfl) (by first | exact h17 | exact pl_fz | exact pf_fz | rfl) ?_
      refine st14a (rfl) (by first | exact h2 | exact pl_fz | exact pf_fz | rfl) (by first | exact h14 | exact pl_fz | exact pf_fz | rfl) (by first | exact h15 | exact pl_fz | exact pf_fz | rfl) (by first | exact h16 | exact pl_fz | exact pf_fz | rfl) (by first | exact h17 | exact pl_fz | exact pf_fz | rfl) ?_
      refine st15a (q15) (by first | exact h2 | exact pl_fz | exact pf_fz | rfl) (by first | exact h15 | exact pl_fz | exact pf_fz | rfl) (by first | exact h16 | exact pl_fz | exact pf_fz | rfl) (by first | exact h17 | exact pl_fz | exact pf_fz | rfl) ?_
      intro c15 h15
      refine st16a (q16) (by first | exact h2 | exact pl_fz | exact pf_fz | rfl) (by first | exact h15 | exact pl_fz | exact pf_fz | rfl) (by first | exact h16 | exact pl_fz | exact pf_fz | rfl) (by first | exact h17 | exact pl_fz | exact pf_fz | rfl) ?_
      refine st17a (q17) (by first | exact h2 | exact pl_fz | exact pf_fz | rfl) (by first | exact h15 | exact pl_fz | exact pf_fz | rfl) (by first | exact h16 | exact pl_fz | exact pf_fz | rfl) (by first | exact h17 | exact pl_fz | exact pf_fz | rfl) ?_
      refine st18a (by first | exact h2 | exact pl_fz | exact pf_fz | rfl) (by first | exact h15 | exact pl_fz | exact pf_fz | rfl) (by first | exact h16 | exact pl_fz | exact pf_fz | rfl) (by first | exact h17 | exact pl_fz | exact pf_fz | rfl) (by decide) (by decide) ?_
      intro pv sa sb p0 p1
      have q19 := dom19 p0 p1
      refine st19a (q19) (by first | exact h2 | exact pl_fz | exact pf_fz | rfl) (by first | exact h15 | exact pl_fz | exact pf_fz | rfl) (by first | exact h17 | exact pl_fz | exact pf_fz | rfl) ?_
      exact ⟨_, _, _, _, _, _, _, _, _, _, _, _, _, _, _, _, _, _, (by first | exact pl_fz | exact pf_fz | exact h2 | rfl), (by first | exact pl_fz | exact pf_fz | exact h3 | rfl), (by first | exact pl_fz | exact pf_fz | exact h4 | rfl), (by first | exact pl_fz | exact pf_fz | exact h5 | rfl), (by first | exact pl_fz | exact pf_fz | exact h6 | rfl), (by first | exact pl_fz | exact pf_fz | exact h7 | rfl), (by first | exact pl_fz | exact pf_fz | exact h8 | rfl), (by first | exact pl_fz | exact pf_fz | exact h9 | rfl), (by first | exact pl_fz | exact pf_fz | exact h10 | rfl), (by first | exact pl_fz | exact pf_fz | exact h11 | rfl), (by first | exact pl_fz | exact pf_fz | exact h12 | rfl), (by first | exact pl_fz | exact pf_fz | exact h13 | rfl), (by first | exact pl_fz | exact pf_fz | exact h14 | rfl), (by first | exact pl_fz | exact pf_fz | exact h15 | rfl), (by first | exact pl_fz | exact pf_fz | exact h16 | rfl), (by first | exact pl_fz | exact pf_fz | exact h17 | rfl), rfl⟩
    · intro va wa ta va0 va1 wa0 wa1 hta vb vb0 vb1 sa sb
      obtain ⟨y, due, q5, q6, q7⟩ := domY n0 n1 q1 vb0 vb1
      refine st5b (q5) (by first | exact h2 | exact pl_fz | exact pf_fz | rfl) (by first | exact h6 | exact pl_fz | exact pf_fz | rfl) (by first | exact h7 | exact pl_fz | exact pf_fz | rfl) (by first | exact h8 | exact pl_fz | exact pf_fz | rfl) (by first | exact h9 | exact pl_fz | exact pf_fz | rfl) (by first | exact h10 | exact pl_fz | exact pf_fz | rfl) (by first | exact h11 | exact pl_fz | exact pf_fz | rfl) (by first | exact h12 | exact pl_fz | exact pf_fz | rfl) (by first | exact h13 | exact pl_fz | exact pf_fz | rfl) (by first | exact h14 | exact pl_fz | exact pf_fz | rfl) (by first | exact h15 | exact pl_fz | exact pf_fz | rfl) (by first | exact h16 | exact pl_fz | exact pf_fz | rfl) (by first | exact h17 | exact pl_fz | exact pf_fz | rfl) ?_
      refine st6b (q6) (by first | exact h2 | exact pl_fz | exact pf_fz | rfl) (by first | exact h7 | exact pl_fz | exact pf_fz | rfl) (by first | exact h8 | exact pl_fz | exact pf_fz | rfl) (by first | exact h9 | exact pl_fz | exact pf_fz | rfl) (by first | exact h10 | exact pl_fz | exact pf_fz | rfl) (by first | exact h11 | exact pl_fz | exact pf_fz | rfl) (by first | exact h12 | exact pl_fz | exact pf_fz | rfl) (by first | exact h13 | exact pl_fz | exact pf_fz | rfl) (by first | exact h14 | exact pl_fz | exact pf_fz | rfl) (by first | exact h15 | exact pl_fz | exact pf_fz | rfl) (by first | exact h16 | exact pl_fz | exact pf_fz | rfl) (by first | exact h17 | exact pl_fz | exact pf_fz | rfl) ?_
      refine st7b (q7) (by first | exact h2 | exact pl_fz | exact pf_fz | rfl) (by first | exact h8 | exact pl_fz | exact pf_fz | rfl) (by first | exact h9 | exact pl_fz | exact pf_fz | rfl) (by first | exact h10 | exact pl_fz | exact pf_fz | rfl) (by first | exact h11 | exact pl_fz | exact pf_fz | rfl) (by first | exact h12 | exact pl_fz | exact pf_fz | rfl) (by first | exact h13 | exact pl_fz | exact pf_fz | rfl) (by first | exact h14 | exact pl_fz | exact pf_fz | rfl) (by first | exact h15 | exact pl_fz | exact pf_fz | rfl) (by first | exact h16 | exact pl_fz | exact pf_fz | rfl) (by first | exact h17 | exact pl_fz | exact pf_fz | rfl) ?_
      refine st8b (by first | exact h2 | exact pl_fz | exact pf_fz | rfl) (by first | exact h8 | exact pl_fz | exact pf_fz | rfl) (by first | exact h9 | exact pl_fz | exact pf_fz | rfl) (by first | exact h10 | exact pl_fz | exact pf_fz | rfl) (by first | exact h11 | exact pl_fz | exact pf_fz | rfl) (by first | exact h12 | exact pl_fz | exact pf_fz | rfl) (by first | exact h13 | exact pl_fz | exact pf_fz | rfl) (by first | exact h14 | exact pl_fz | exact pf_fz | rfl) (by first | exact h15 | exact pl_fz | exact pf_fz | rfl) (by first | exact h16 | exact pl_fz | exact pf_fz | rfl) (by first | exact h17 | exact pl_fz | exact pf_fz | rfl) (by decide) (by decide) (by decide) (by decide) ?_
      intro k m sa sb k0 k1 m0 m1
      have q9 := dom9 k0 k1 m0 m1
      refine st9b (q9) (by first | exact h2 | exact pl_fz | exact pf_fz | rfl) (by first | exact h10 | exact pl_fz | exact pf_fz | rfl) (by first | exact h11 | exact pl_fz | exact pf_fz | rfl) (by first | exact h12 | exact pl_fz | exact pf_fz | rfl) (by first | exact h13 | exact pl_fz | exact pf_fz | rfl) (by first | exact h14 | exact pl_fz | exact pf_fz | rfl) (by first | exact h15 | exact pl_fz | exact pf_fz | rfl) (by first | exact h16 | exact pl_fz | exact pf_fz | rfl) (by first | exact h17 | exact pl_fz | exact pf_fz | rfl) ?_
      refine st10b (by first | exact h2 | exact pl_fz | exact pf_fz | rfl) (by first | exact h10 | exact pl_fz | exact pf_fz | rfl) (by first | exact h11 | exact pl_fz | exact pf_fz | rfl) (by first | exact h12 | exact pl_fz | exact pf_fz | rfl) (by first | exact h13 | exact pl_fz | exact pf_fz | rfl) (by first | exact h14 | exact pl_fz | exact pf_fz | rfl) (by first | exact h15 | exact pl_fz | exact pf_fz | rfl) (by first | exact h16 | exact pl_fz | exact pf_fz | rfl) (by first | exact h17 | exact pl_fz | exact pf_fz | rfl) (by decide) (by decide) ?_
      intro e sa sb e0 e1
      refine ⟨domM e0 e1, ?_⟩
      obtain ⟨pr, own, wh, low, q11, q12, q13, q15, q16, q17⟩ := dom11 e0 e1
      refine st11b (q11) (by first | exact h2 | exact pl_fz | exact pf_fz | rfl) (by first | exact h11 | exact pl_fz | exact pf_fz | rfl) (by first | exact h12 | exact pl_fz | exact pf_fz | rfl) (by first | exact h13 | exact pl_fz | exact pf_fz | rfl) (by first | exact h14 | exact pl_fz | exact pf_fz | rfl) (by first | exact h15 | exact pl_fz | exact pf_fz | rfl) (by first | exact h16 | exact pl_fz | exact pf_fz | rfl) (by first | exact h17 | exact pl_fz | exact pf_fz | rfl) ?_
      refine st12b (q12) (by first | exact h2 | exact pl_fz | exact pf_fz | rfl) (by first | exact h12 | exact pl_fz | exact pf_fz | rfl) (by first | exact h13 | exact pl_fz | exact pf_fz | rfl) (by first | exact h14 | exact pl_fz | exact pf_fz | rfl) (by first | exact h15 | exact pl_fz | exact pf_fz | rfl) (by first | exact h16 | exact pl_fz | exact pf_fz | rfl) (by first | exact h17 | exact pl_fz | exact pf_fz | rfl) ?_
      refine st13b (q13) (by first | exact h2 | exact pl_fz | exact pf_fz | rfl) (by first | exact h13 | exact pl_fz | exact pf_fz | rfl) (by first | exact h14 | exact pl_fz | exact pf_fz | rfl) (by first | exact h15 | exact pl_fz | exact pf_fz | rfl) (by first | exact h16 | exact pl_fz | exact pf_fz | rfl) (by first | exact h17 | exact pl_fz | exact pf_fz | rfl) ?_
      refine st14b (rfl) (by first | exact h2 | exact pl_fz | exact pf_fz | rfl) (by first | exact h14 | exact pl_fz | exact pf_fz | rfl) (by first | exact h15 | exact pl_fz | exact pf_fz | rfl) (by first | exact h16 | exact pl_fz | exact pf_fz | rfl) (by first | exact h17 | exact pl_fz | exact pf_fz | rfl) ?_
      refine st15b (q15) (by first | exact h2 | exact pl_fz | exact pf_fz | rfl) (by first | exact h15 | exact pl_fz | exact pf_fz | rfl) (by first | exact h16 | exact pl_fz | exact pf_fz | rfl) (by first | exact h17 | exact pl_fz | exact pf_fz | rfl) ?_
      intro c15 h15
      refine st16b (q16) (by first | exact h2 | exact pl_fz | exact pf_fz | rfl) (by first | exact h15 | exact pl_fz | exact pf_fz | rfl) (by first | exact h16 | exact pl_fz | exact pf_fz | rfl) (by first | exact h17 | exact pl_fz | exact pf_fz | rfl) ?_
      refine st17b (q17) (by first | exact h2 | exact pl_fz | exact pf_fz | rfl) (by first | exact h15 | exact pl_fz | exact pf_fz | rfl) (by first | exact h16 | exact pl_fz | exact pf_fz | rfl) (by first | exact h17 | exact pl_fz | exact pf_fz | rfl) ?_
      refine st18b (by first | exact h2 | exact pl_fz | exact pf_fz | rfl) (by first | exact h15 | exact pl_fz | exact pf_fz | rfl) (by first | exact h16 | exact pl_fz | exact pf_fz | rfl) (by first | exact h17 | exact pl_fz | exact pf_fz | rfl) (by decide) (by decide) ?_
      intro pv sa sb p0 p1
      have q19 := dom19 p0 p1
      refine st19b (q19) (by first | exact h2 | exact pl_fz | exact pf_fz | rfl) (by first | exact h15 | exact pl_fz | exact pf_fz | rfl) (by first | exact h17 | exact pl_fz | exact pf_fz | rfl) ?_
      exact ⟨_, _, _, _, _, _, _, _, _, _, _, _, _, _, _, _, _, _, (by first | exact pl_fz | exact pf_fz | exact h2 | rfl), (by first | exact pl_fz | exact pf_fz | exact h3 | rfl), (by first | exact pl_fz | exact pf_fz | exact h4 | rfl), (by first | exact pl_fz | exact pf_fz | exact h5 | rfl), (by first | exact pl_fz | exact pf_fz | exact h6 | rfl), (by first | exact pl_fz | exact pf_fz | exact h7 | rfl), (by first | exact pl_fz | exact pf_fz | exact h8 | rfl), (by first | exact pl_fz | exact pf_fz | exact h9 | rfl), (by first | exact pl_fz | exact pf_fz | exact h10 | rfl), (by first | exact pl_fz | exact pf_fz | exact h11 | rfl), (by first | exact pl_fz | exact pf_fz | exact h12 | rfl), (by first | exact pl_fz | exact pf_fz | exact h13 | rfl), (by first | exact pl_fz | exact pf_fz | exact h14 | rfl), (by first | exact pl_fz | exact pf_fz | exact h15 | rfl), (by first | exact pl_fz | exact pf_fz | exact h16 | rfl), (by first | exact pl_fz | exact pf_fz | exact h17 | rfl), rfl⟩
  obtain ⟨ρ2, e, h⟩ := key
  exact ⟨_, ρ2, set_R rfl h2 rfl, e, h⟩
def LAST : Es := sSeq (sFor (iSeq (eTup (aCons (eC (.fn 10)) (aCons (eC (.fn 12)) (aNil))))) (.nm 17) (sIf (tNotF (tOf (eCall 4 F__law_bads [] (aCons (eVar 17) (aCons (eTup (aCons (eC (.int 3)) (aNil))) (aCons (eC (.int 0)) (aCons (eLst (aCons (eU gNeg (eC (.int 1))) (aCons (eC (.int 121)) (aCons (eC .non) (aCons (eC (.bl true)) (aNil)))))) (aNil)))))))) (sRet (eC (.bl false))) (sNil)))
  (sSeq (sFor (iSeq (eTup (aCons (eC (.fn 15)) (aCons (eC (.fn 17)) (aCons (eC (.fn 19)) (aNil)))))) (.nm 17) (sIf (tNotF (tOf (eCall 4 F__law_bads [] (aCons (eVar 17) (aCons (eTup (aCons (eC (.int 4)) (aNil))) (aCons (eC (.int 0)) (aCons (eLst (aCons (eC (.int 0)) (aCons (eC (.int 3)) (aCons (eC (.int 122)) (aCons (eC .non) (aCons (eC (.bl true)) (aNil))))))) (aNil)))))))) (sRet (eC (.bl false))) (sNil)))
  (sRet (eAndV (eCall 4 F__law_bads [] (aCons (eC (.fn 13)) (aCons (eTup (aCons (eC (.int 3)) (aCons (eC (.int 1)) (aNil)))) (aCons (eC (.int 0)) (aCons (eLst (aCons (eU gNeg (eC (.int 1))) (aCons (eC (.int 41)) (aCons (eC .non) (aNil))))) (aNil)))))) (eAndV (eCall 4 F__law_bads [] (aCons (eC (.fn 13)) (aCons (eTup (aCons (eC (.int 3)) (aCons (eC (.int 1)) (aNil)))) (aCons (eC (.int 1)) (aCons (eLst (aCons (eC .non) (aCons (eC (.bl true)) (aCons (eC (.str "1")) (aNil))))) (aNil)))))) (eAndV (eCall 4 F__law_bads [] (aCons (eC (.fn 14)) (aCons (eTup (aCons (eC (.int 3)) (aCons (eC (.int 5)) (aNil)))) (aCons (eC (.int 0)) (aCons (eLst (aCons (eU gNeg (eC (.int 1))) (aCons (eC (.int 41)) (aCons (eC .non) (aNil))))) (aNil)))))) (eAndV (eCall 4 F__law_bads [] (aCons (eC (.fn 14)) (aCons (eTup (aCons (eC (.int 3)) (aCons (eC (.int 5)) (aNil)))) (aCons (eC (.int 1)) (aCons (eLst (aCons (eU gNeg (eC (.int 1))) (aCons (eC (.int 1001)) (aCons (eC (.bl true)) (aNil))))) (aNil)))))) (eAndV (eCall 4 F__law_bads [] (aCons (eC (.fn 18)) (aCons (eTup (aCons (eC (.int 7)) (aNil))) (aCons (eC (.int 0)) (aCons (eLst (aCons (eC (.int 2)) (aCons (eC (.int 4)) (aCons (eC (.int 127)) (aCons (eC .non) (aNil)))))) (aNil)))))) (eOp gEq (eCall 2 F__law_value [] (aCons (eC (.fn 18)) (aCons (eTup (aCons (eC (.int 37)) (aNil))) (aNil)))) (eTup (aCons (eC (.int 32)) (aNil)))))))))))
theorem last_eq : ∀ {ns : List Int} {sa sb : Int} {c2 c3 c4 c5 c6 c7 c8 c9 c10 c11 c12 c13 c14 c15 c16 c17 : Cell}, PL c2 → PL c3 → PL c4 → PL c5 → PL c6 → PL c7 → PF c8 → PF c9 → PL c10 → PL c11 → PL c12 → PL c13 → PL c14 → PF c15 → PL c16 → PL c17 → ∃ ρ, LAST [.fz (.lck (IL ns)), .ow false [.int sa, .int sb], c2, c3, c4, c5, c6, c7, c8, c9, c10, c11, c12, c13, c14, c15, c16, c17, .un, .un] = .ok (.rt (.fz (.bl true)), ρ) := by
  intro ns sa sb c2 c3 c4 c5 c6 c7 c8 c9 c10 c11 c12 c13 c14 c15 c16 c17 h2 h3 h4 h5 h6 h7 h8 h9 h10 h11 h12 h13 h14 h15 h16 h17
  refine ⟨[.fz (.lck (IL ns)), .ow false [.int sa, .int sb], c2, c3, c4, c5, c6, c7, c8, c9, c10, c11, c12, c13, c14, c15, c16, .fz (.fn 19), .un, .un], ?_⟩
  unfold LAST
  refine v_seq (ρ1 := [.fz (.lck (IL ns)), .ow false [.int sa, .int sb], c2, c3, c4, c5, c6, c7, c8, c9, c10, c11, c12, c13, c14, c15, c16, .fz (.fn 12), .un, .un]) (v_for (ds := [.fn 10, .fn 12]) (ρ1 := [.fz (.lck (IL ns)), .ow false [.int sa, .int sb], c2, c3, c4, c5, c6, c7, c8, c9, c10, c11, c12, c13, c14, c15, c16, c17, .un, .un]) ?_ (forGo_nx (ρ1 := [.fz (.lck (IL ns)), .ow false [.int sa, .int sb], c2, c3, c4, c5, c6, c7, c8, c9, c10, c11, c12, c13, c14, c15, c16, .fz (.fn 10), .un, .un]) (ρ2 := [.fz (.lck (IL ns)), .ow false [.int sa, .int sb], c2, c3, c4, c5, c6, c7, c8, c9, c10, c11, c12, c13, c14, c15, c16, .fz (.fn 10), .un, .un]) (set_R rfl h17 rfl) ?_ ?_)) ?_
  · kernel_rfl
  · kernel_rfl
  · kernel_rfl
  · kernel_rfl
theorem law_true_of (last_eq : ∀ {ns : List Int} {sa sb : Int} {c2 c3 c4 c5 c6 c7 c8 c9 c10 c11 c12 c13 c14 c15 c16 c17 : Cell}, PL c2 → PL c3 → PL c4 → PL c5 → PL c6 → PL c7 → PF c8 → PF c9 → PL c10 → PL c11 → PL c12 → PL c13 → PL c14 → PF c15 → PL c16 → PL c17 → ∃ ρ, LAST [.fz (.lck (IL ns)), .ow false [.int sa, .int sb], c2, c3, c4, c5, c6, c7, c8, c9, c10, c11, c12, c13, c14, c15, c16, c17, .un, .un] = .ok (.rt (.fz (.bl true)), ρ)) : ∀ ns : List Int, ns.length ≤ 63 → F_law [.lck (ns.map .int)] = .ok (.fz (.bl true)) := by
  intro ns _
  obtain ⟨a, b, e⟩ := state_eq ns
  obtain ⟨ρ2, r, sa, sb, c2, c3, c4, c5, c6, c7, c8, c9, c10, c11, c12, c13, c14, c15, c16, c17, k2, k3, k4, k5, k6, k7, k8, k9, k10, k11, k12, k13, k14, k15, k16, k17, rfl⟩ := forGo_inv (t := .nm 2) (body := TB) (ds := (List.range 3).map nI) (IV ns) (fun d ρ _ hI => turn d ρ hI) (ρ := [.fz (.lck (IL ns)), .ow false [.int a, .int b], .un, .un, .un, .un, .un, .un, .un, .un, .un, .un, .un, .un, .un, .un, .un, .un, .un, .un]) ⟨a, b, .un, .un, .un, .un, .un, .un, .un, .un, .un, .un, .un, .un, .un, .un, .un, .un, pl_un, pl_un, pl_un, pl_un, pl_un, pl_un, pf_un, pf_un, pl_un, pl_un, pl_un, pl_un, pl_un, pf_un, pl_un, pl_un, rfl⟩
  obtain ⟨ρ3, le⟩ := last_eq (ns := ns) (sa := sa) (sb := sb) k2 k3 k4 k5 k6 k7 k8 k9 k10 k11 k12 k13 k14 k15 k16 k17
  have t : B_law [.fz (.lck (IL ns)), .un, .un, .un, .un, .un, .un, .un, .un, .un, .un, .un, .un, .un, .un, .un, .un, .un, .un, .un] = .ok (.rt (.fz (.bl true)), _) := v_seq (ρ1 := [.fz (.lck (IL ns)), .ow false [.int a, .int b], .un, .un, .un, .un, .un, .un, .un, .un, .un, .un, .un, .un, .un, .un, .un, .un, .un, .un]) (v_set (v_call0 (v_cons (v_fz rfl) rfl v_nil) rfl e) rfl) (v_seq (v_for (v_rg1 (n := 3) (v_cons v_c rfl v_nil) (by decide)) r) (show LAST _ = _ from le))
  exact outF_rt t
theorem law_true : ∀ ns : List Int, ns.length ≤ 63 → F_law [.lck (ns.map .int)] = .ok (.fz (.bl true)) := law_true_of last_eq
end L59
end
section
set_option Elab.async false
set_option linter.all false
set_option maxRecDepth 100000
set_option maxHeartbeats 0
namespace L59
open PySem PySem.Spec PyProof.Rows L2 Rf
theorem all_mk {l : PySem.W.OpenLaw} {w : World} {K : PySem.W.Frag} {h : Heap} {mg : Str → Option Value} {fa CM CR CF fI : Addr} (X : K.In h) (Gn : h.Ns mainGlobals mg) (hfa : mg "law" = some (.ref fa))
    {f0 : Addr} {od0 an0 : Option Addr} {sl0 : Array (Option Value)} {oc0 kV0 dc0 pm0 cd0 ct0 : Value}
    (a0 : PySem.W.nsIn K mainGlobals "_wall" = some (some (.ref f0))) (l0 : K.lookup f0 = some ⟨oc0, od0, .func (PySem.W.fnOf "_wall" "_wall" (defArgs s__wall) (defBody s__wall) (defScope s__wall) .none kV0 dc0 pm0 an0 cd0 ct0), sl0⟩) (c0 : PySem.W.codeIn K cd0 "_wall" = true) (k0 : PySem.W.keepIn K (.ref f0) = true)
    {f1 : Addr} {od1 an1 : Option Addr} {sl1 : Array (Option Value)} {oc1 kV1 dc1 pm1 cd1 ct1 : Value}
    (a1 : PySem.W.nsIn K mainGlobals "is_integer" = some (some (.ref f1))) (l1 : K.lookup f1 = some ⟨oc1, od1, .func (PySem.W.fnOf "is_integer" "is_integer" (defArgs s_is_integer) (defBody s_is_integer) (defScope s_is_integer) .none kV1 dc1 pm1 an1 cd1 ct1), sl1⟩) (c1 : PySem.W.codeIn K cd1 "is_integer" = true) (k1 : PySem.W.keepIn K (.ref f1) = true)
    {f2 : Addr} {od2 an2 : Option Addr} {sl2 : Array (Option Value)} {oc2 kV2 dc2 pm2 cd2 ct2 : Value}
    (a2 : PySem.W.nsIn K mainGlobals "is_count" = some (some (.ref f2))) (l2 : K.lookup f2 = some ⟨oc2, od2, .func (PySem.W.fnOf "is_count" "is_count" (defArgs s_is_count) (defBody s_is_count) (defScope s_is_count) .none kV2 dc2 pm2 an2 cd2 ct2), sl2⟩) (c2 : PySem.W.codeIn K cd2 "is_count" = true) (k2 : PySem.W.keepIn K (.ref f2) = true)
    {f3 : Addr} {od3 an3 : Option Addr} {sl3 : Array (Option Value)} {oc3 kV3 dc3 pm3 cd3 ct3 : Value}
    (a3 : PySem.W.nsIn K mainGlobals "check_count" = some (some (.ref f3))) (l3 : K.lookup f3 = some ⟨oc3, od3, .func (PySem.W.fnOf "check_count" "check_count" (defArgs s_check_count) (defBody s_check_count) (defScope s_check_count) .none kV3 dc3 pm3 an3 cd3 ct3), sl3⟩) (c3 : PySem.W.codeIn K cd3 "check_count" = true) (k3 : PySem.W.keepIn K (.ref f3) = true)
    {f4 : Addr} {od4 an4 : Option Addr} {sl4 : Array (Option Value)} {oc4 kV4 dc4 pm4 cd4 ct4 : Value}
    (a4 : PySem.W.nsIn K mainGlobals "common" = some (some (.ref f4))) (l4 : K.lookup f4 = some ⟨oc4, od4, .func (PySem.W.fnOf "common" "common" (defArgs s_common) (defBody s_common) (defScope s_common) .none kV4 dc4 pm4 an4 cd4 ct4), sl4⟩) (c4 : PySem.W.codeIn K cd4 "common" = true) (k4 : PySem.W.keepIn K (.ref f4) = true)
    {f5 : Addr} {od5 an5 : Option Addr} {sl5 : Array (Option Value)} {oc5 kV5 dc5 pm5 cd5 ct5 : Value}
    (a5 : PySem.W.nsIn K mainGlobals "binomial" = some (some (.ref f5))) (l5 : K.lookup f5 = some ⟨oc5, od5, .func (PySem.W.fnOf "binomial" "binomial" (defArgs s_binomial) (defBody s_binomial) (defScope s_binomial) .none kV5 dc5 pm5 an5 cd5 ct5), sl5⟩) (c5 : PySem.W.codeIn K cd5 "binomial" = true) (k5 : PySem.W.keepIn K (.ref f5) = true)
    {f6 : Addr} {od6 an6 : Option Addr} {sl6 : Array (Option Value)} {oc6 kV6 dc6 pm6 cd6 ct6 : Value}
    (a6 : PySem.W.nsIn K mainGlobals "is_prime" = some (some (.ref f6))) (l6 : K.lookup f6 = some ⟨oc6, od6, .func (PySem.W.fnOf "is_prime" "is_prime" (defArgs s_is_prime) (defBody s_is_prime) (defScope s_is_prime) .none kV6 dc6 pm6 an6 cd6 ct6), sl6⟩) (c6 : PySem.W.codeIn K cd6 "is_prime" = true) (k6 : PySem.W.keepIn K (.ref f6) = true)
    {f7 : Addr} {od7 an7 : Option Addr} {sl7 : Array (Option Value)} {oc7 kV7 dc7 pm7 cd7 ct7 : Value}
    (a7 : PySem.W.nsIn K mainGlobals "check_prime" = some (some (.ref f7))) (l7 : K.lookup f7 = some ⟨oc7, od7, .func (PySem.W.fnOf "check_prime" "check_prime" (defArgs s_check_prime) (defBody s_check_prime) (defScope s_check_prime) .none kV7 dc7 pm7 an7 cd7 ct7), sl7⟩) (c7 : PySem.W.codeIn K cd7 "check_prime" = true) (k7 : PySem.W.keepIn K (.ref f7) = true)
    {f8 : Addr} {od8 an8 : Option Addr} {sl8 : Array (Option Value)} {oc8 kV8 dc8 pm8 cd8 ct8 : Value}
    (a8 : PySem.W.nsIn K mainGlobals "check_ratio" = some (some (.ref f8))) (l8 : K.lookup f8 = some ⟨oc8, od8, .func (PySem.W.fnOf "check_ratio" "check_ratio" (defArgs s_check_ratio) (defBody s_check_ratio) (defScope s_check_ratio) .none kV8 dc8 pm8 an8 cd8 ct8), sl8⟩) (c8 : PySem.W.codeIn K cd8 "check_ratio" = true) (k8 : PySem.W.keepIn K (.ref f8) = true)
    {f9 : Addr} {od9 an9 : Option Addr} {sl9 : Array (Option Value)} {oc9 kV9 dc9 pm9 cd9 ct9 : Value}
    (a9 : PySem.W.nsIn K mainGlobals "check_place" = some (some (.ref f9))) (l9 : K.lookup f9 = some ⟨oc9, od9, .func (PySem.W.fnOf "check_place" "check_place" (defArgs s_check_place) (defBody s_check_place) (defScope s_check_place) .none kV9 dc9 pm9 an9 cd9 ct9), sl9⟩) (c9 : PySem.W.codeIn K cd9 "check_place" = true) (k9 : PySem.W.keepIn K (.ref f9) = true)
    {f10 : Addr} {od10 an10 : Option Addr} {sl10 : Array (Option Value)} {oc10 kV10 dc10 pm10 cd10 ct10 : Value}
    (a10 : PySem.W.nsIn K mainGlobals "bernoulli" = some (some (.ref f10))) (l10 : K.lookup f10 = some ⟨oc10, od10, .func (PySem.W.fnOf "bernoulli" "bernoulli" (defArgs s_bernoulli) (defBody s_bernoulli) (defScope s_bernoulli) .none kV10 dc10 pm10 an10 cd10 ct10), sl10⟩) (c10 : PySem.W.codeIn K cd10 "bernoulli" = true) (k10 : PySem.W.keepIn K (.ref f10) = true)
    {f11 : Addr} {od11 an11 : Option Addr} {sl11 : Array (Option Value)} {oc11 kV11 dc11 pm11 cd11 ct11 : Value}
    (a11 : PySem.W.nsIn K mainGlobals "numbers_to" = some (some (.ref f11))) (l11 : K.lookup f11 = some ⟨oc11, od11, .func (PySem.W.fnOf "numbers_to" "numbers_to" (defArgs s_numbers_to) (defBody s_numbers_to) (defScope s_numbers_to) .none kV11 dc11 pm11 an11 cd11 ct11), sl11⟩) (c11 : PySem.W.codeIn K cd11 "numbers_to" = true) (k11 : PySem.W.keepIn K (.ref f11) = true)
    {f12 : Addr} {od12 an12 : Option Addr} {sl12 : Array (Option Value)} {oc12 kV12 dc12 pm12 cd12 ct12 : Value}
    (a12 : PySem.W.nsIn K mainGlobals "bernoulli_by_triangle" = some (some (.ref f12))) (l12 : K.lookup f12 = some ⟨oc12, od12, .func (PySem.W.fnOf "bernoulli_by_triangle" "bernoulli_by_triangle" (defArgs s_bernoulli_by_triangle) (defBody s_bernoulli_by_triangle) (defScope s_bernoulli_by_triangle) .none kV12 dc12 pm12 an12 cd12 ct12), sl12⟩) (c12 : PySem.W.codeIn K cd12 "bernoulli_by_triangle" = true) (k12 : PySem.W.keepIn K (.ref f12) = true)
    {f13 : Addr} {od13 an13 : Option Addr} {sl13 : Array (Option Value)} {oc13 kV13 dc13 pm13 cd13 ct13 : Value}
    (a13 : PySem.W.nsIn K mainGlobals "bernoulli_value" = some (some (.ref f13))) (l13 : K.lookup f13 = some ⟨oc13, od13, .func (PySem.W.fnOf "bernoulli_value" "bernoulli_value" (defArgs s_bernoulli_value) (defBody s_bernoulli_value) (defScope s_bernoulli_value) .none kV13 dc13 pm13 an13 cd13 ct13), sl13⟩) (c13 : PySem.W.codeIn K cd13 "bernoulli_value" = true) (k13 : PySem.W.keepIn K (.ref f13) = true)
    {f14 : Addr} {od14 an14 : Option Addr} {sl14 : Array (Option Value)} {oc14 kV14 dc14 pm14 cd14 ct14 : Value}
    (a14 : PySem.W.nsIn K mainGlobals "power_sum" = some (some (.ref f14))) (l14 : K.lookup f14 = some ⟨oc14, od14, .func (PySem.W.fnOf "power_sum" "power_sum" (defArgs s_power_sum) (defBody s_power_sum) (defScope s_power_sum) .none kV14 dc14 pm14 an14 cd14 ct14), sl14⟩) (c14 : PySem.W.codeIn K cd14 "power_sum" = true) (k14 : PySem.W.keepIn K (.ref f14) = true)
    {f15 : Addr} {od15 an15 : Option Addr} {sl15 : Array (Option Value)} {oc15 kV15 dc15 pm15 cd15 ct15 : Value}
    (a15 : PySem.W.nsIn K mainGlobals "lower_primes" = some (some (.ref f15))) (l15 : K.lookup f15 = some ⟨oc15, od15, .func (PySem.W.fnOf "lower_primes" "lower_primes" (defArgs s_lower_primes) (defBody s_lower_primes) (defScope s_lower_primes) .none kV15 dc15 pm15 an15 cd15 ct15), sl15⟩) (c15 : PySem.W.codeIn K cd15 "lower_primes" = true) (k15 : PySem.W.keepIn K (.ref f15) = true)
    {f16 : Addr} {od16 an16 : Option Addr} {sl16 : Array (Option Value)} {oc16 kV16 dc16 pm16 cd16 ct16 : Value}
    (a16 : PySem.W.nsIn K mainGlobals "check_even" = some (some (.ref f16))) (l16 : K.lookup f16 = some ⟨oc16, od16, .func (PySem.W.fnOf "check_even" "check_even" (defArgs s_check_even) (defBody s_check_even) (defScope s_check_even) .none kV16 dc16 pm16 an16 cd16 ct16), sl16⟩) (c16 : PySem.W.codeIn K cd16 "check_even" = true) (k16 : PySem.W.keepIn K (.ref f16) = true)
    {f17 : Addr} {od17 an17 : Option Addr} {sl17 : Array (Option Value)} {oc17 kV17 dc17 pm17 cd17 ct17 : Value}
    (a17 : PySem.W.nsIn K mainGlobals "whole_part" = some (some (.ref f17))) (l17 : K.lookup f17 = some ⟨oc17, od17, .func (PySem.W.fnOf "whole_part" "whole_part" (defArgs s_whole_part) (defBody s_whole_part) (defScope s_whole_part) .none kV17 dc17 pm17 an17 cd17 ct17), sl17⟩) (c17 : PySem.W.codeIn K cd17 "whole_part" = true) (k17 : PySem.W.keepIn K (.ref f17) = true)
    {f18 : Addr} {od18 an18 : Option Addr} {sl18 : Array (Option Value)} {oc18 kV18 dc18 pm18 cd18 ct18 : Value}
    (a18 : PySem.W.nsIn K mainGlobals "bad_indexes" = some (some (.ref f18))) (l18 : K.lookup f18 = some ⟨oc18, od18, .func (PySem.W.fnOf "bad_indexes" "bad_indexes" (defArgs s_bad_indexes) (defBody s_bad_indexes) (defScope s_bad_indexes) .none kV18 dc18 pm18 an18 cd18 ct18), sl18⟩) (c18 : PySem.W.codeIn K cd18 "bad_indexes" = true) (k18 : PySem.W.keepIn K (.ref f18) = true)
    {f19 : Addr} {od19 an19 : Option Addr} {sl19 : Array (Option Value)} {oc19 kV19 dc19 pm19 cd19 ct19 : Value}
    (a19 : PySem.W.nsIn K mainGlobals "half_numbers" = some (some (.ref f19))) (l19 : K.lookup f19 = some ⟨oc19, od19, .func (PySem.W.fnOf "half_numbers" "half_numbers" (defArgs s_half_numbers) (defBody s_half_numbers) (defScope s_half_numbers) .none kV19 dc19 pm19 an19 cd19 ct19), sl19⟩) (c19 : PySem.W.codeIn K cd19 "half_numbers" = true) (k19 : PySem.W.keepIn K (.ref f19) = true)
    {f20 : Addr} {od20 an20 : Option Addr} {sl20 : Array (Option Value)} {oc20 kV20 dc20 pm20 cd20 ct20 : Value}
    (a20 : PySem.W.nsIn K mainGlobals "_law_state" = some (some (.ref f20))) (l20 : K.lookup f20 = some ⟨oc20, od20, .func (PySem.W.fnOf "_law_state" "_law_state" (defArgs s__law_state) (defBody s__law_state) (defScope s__law_state) .none kV20 dc20 pm20 an20 cd20 ct20), sl20⟩) (c20 : PySem.W.codeIn K cd20 "_law_state" = true) (k20 : PySem.W.keepIn K (.ref f20) = true)
    {f21 : Addr} {od21 an21 : Option Addr} {sl21 : Array (Option Value)} {oc21 kV21 dc21 pm21 cd21 ct21 : Value}
    (a21 : PySem.W.nsIn K mainGlobals "_law_take" = some (some (.ref f21))) (l21 : K.lookup f21 = some ⟨oc21, od21, .func (PySem.W.fnOf "_law_take" "_law_take" (defArgs s__law_take) (defBody s__law_take) (defScope s__law_take) .none kV21 dc21 pm21 an21 cd21 ct21), sl21⟩) (c21 : PySem.W.codeIn K cd21 "_law_take" = true) (k21 : PySem.W.keepIn K (.ref f21) = true)
    {f22 : Addr} {od22 an22 : Option Addr} {sl22 : Array (Option Value)} {oc22 kV22 dc22 pm22 cd22 ct22 : Value}
    (a22 : PySem.W.nsIn K mainGlobals "_law_same" = some (some (.ref f22))) (l22 : K.lookup f22 = some ⟨oc22, od22, .func (PySem.W.fnOf "_law_same" "_law_same" (defArgs s__law_same) (defBody s__law_same) (defScope s__law_same) .none kV22 dc22 pm22 an22 cd22 ct22), sl22⟩) (c22 : PySem.W.codeIn K cd22 "_law_same" = true) (k22 : PySem.W.keepIn K (.ref f22) = true)
    {f23 : Addr} {od23 an23 : Option Addr} {sl23 : Array (Option Value)} {oc23 kV23 dc23 pm23 cd23 ct23 : Value}
    (a23 : PySem.W.nsIn K mainGlobals "_law_told" = some (some (.ref f23))) (l23 : K.lookup f23 = some ⟨oc23, od23, .func (PySem.W.fnOf "_law_told" "_law_told" (defArgs s__law_told) (defBody s__law_told) (defScope s__law_told) .none kV23 dc23 pm23 an23 cd23 ct23), sl23⟩) (c23 : PySem.W.codeIn K cd23 "_law_told" = true) (k23 : PySem.W.keepIn K (.ref f23) = true)
    {f24 : Addr} {od24 an24 : Option Addr} {sl24 : Array (Option Value)} {oc24 kV24 dc24 pm24 cd24 ct24 : Value}
    (a24 : PySem.W.nsIn K mainGlobals "_law_is_told" = some (some (.ref f24))) (l24 : K.lookup f24 = some ⟨oc24, od24, .func (PySem.W.fnOf "_law_is_told" "_law_is_told" (defArgs s__law_is_told) (defBody s__law_is_told) (defScope s__law_is_told) .none kV24 dc24 pm24 an24 cd24 ct24), sl24⟩) (c24 : PySem.W.codeIn K cd24 "_law_is_told" = true) (k24 : PySem.W.keepIn K (.ref f24) = true)
    {f25 : Addr} {od25 an25 : Option Addr} {sl25 : Array (Option Value)} {oc25 kV25 dc25 pm25 cd25 ct25 : Value}
    (a25 : PySem.W.nsIn K mainGlobals "_law_tells" = some (some (.ref f25))) (l25 : K.lookup f25 = some ⟨oc25, od25, .func (PySem.W.fnOf "_law_tells" "_law_tells" (defArgs s__law_tells) (defBody s__law_tells) (defScope s__law_tells) .none kV25 dc25 pm25 an25 cd25 ct25), sl25⟩) (c25 : PySem.W.codeIn K cd25 "_law_tells" = true) (k25 : PySem.W.keepIn K (.ref f25) = true)
    {f26 : Addr} {od26 an26 : Option Addr} {sl26 : Array (Option Value)} {oc26 kV26 dc26 pm26 cd26 ct26 : Value}
    (a26 : PySem.W.nsIn K mainGlobals "_law_value" = some (some (.ref f26))) (l26 : K.lookup f26 = some ⟨oc26, od26, .func (PySem.W.fnOf "_law_value" "_law_value" (defArgs s__law_value) (defBody s__law_value) (defScope s__law_value) .none kV26 dc26 pm26 an26 cd26 ct26), sl26⟩) (c26 : PySem.W.codeIn K cd26 "_law_value" = true) (k26 : PySem.W.keepIn K (.ref f26) = true)
    {f27 : Addr} {od27 an27 : Option Addr} {sl27 : Array (Option Value)} {oc27 kV27 dc27 pm27 cd27 ct27 : Value}
    (a27 : PySem.W.nsIn K mainGlobals "_law_bads" = some (some (.ref f27))) (l27 : K.lookup f27 = some ⟨oc27, od27, .func (PySem.W.fnOf "_law_bads" "_law_bads" (defArgs s__law_bads) (defBody s__law_bads) (defScope s__law_bads) .none kV27 dc27 pm27 an27 cd27 ct27), sl27⟩) (c27 : PySem.W.codeIn K cd27 "_law_bads" = true) (k27 : PySem.W.keepIn K (.ref f27) = true)
    {f28 : Addr} {od28 an28 : Option Addr} {sl28 : Array (Option Value)} {oc28 kV28 dc28 pm28 cd28 ct28 : Value}
    (a28 : PySem.W.nsIn K mainGlobals "_law_choose" = some (some (.ref f28))) (l28 : K.lookup f28 = some ⟨oc28, od28, .func (PySem.W.fnOf "_law_choose" "_law_choose" (defArgs s__law_choose) (defBody s__law_choose) (defScope s__law_choose) .none kV28 dc28 pm28 an28 cd28 ct28), sl28⟩) (c28 : PySem.W.codeIn K cd28 "_law_choose" = true) (k28 : PySem.W.keepIn K (.ref f28) = true)
    {f29 : Addr} {od29 an29 : Option Addr} {sl29 : Array (Option Value)} {oc29 kV29 dc29 pm29 cd29 ct29 : Value}
    (a29 : PySem.W.nsIn K mainGlobals "_law_raised" = some (some (.ref f29))) (l29 : K.lookup f29 = some ⟨oc29, od29, .func (PySem.W.fnOf "_law_raised" "_law_raised" (defArgs s__law_raised) (defBody s__law_raised) (defScope s__law_raised) .none kV29 dc29 pm29 an29 cd29 ct29), sl29⟩) (c29 : PySem.W.codeIn K cd29 "_law_raised" = true) (k29 : PySem.W.keepIn K (.ref f29) = true)
    {f30 : Addr} {od30 an30 : Option Addr} {sl30 : Array (Option Value)} {oc30 kV30 dc30 pm30 cd30 ct30 : Value}
    (a30 : PySem.W.nsIn K mainGlobals "_law_number" = some (some (.ref f30))) (l30 : K.lookup f30 = some ⟨oc30, od30, .func (PySem.W.fnOf "_law_number" "_law_number" (defArgs s__law_number) (defBody s__law_number) (defScope s__law_number) .none kV30 dc30 pm30 an30 cd30 ct30), sl30⟩) (c30 : PySem.W.codeIn K cd30 "_law_number" = true) (k30 : PySem.W.keepIn K (.ref f30) = true)
    {f31 : Addr} {od31 an31 : Option Addr} {sl31 : Array (Option Value)} {oc31 kV31 dc31 pm31 cd31 ct31 : Value}
    (a31 : PySem.W.nsIn K mainGlobals "_law_sum" = some (some (.ref f31))) (l31 : K.lookup f31 = some ⟨oc31, od31, .func (PySem.W.fnOf "_law_sum" "_law_sum" (defArgs s__law_sum) (defBody s__law_sum) (defScope s__law_sum) .none kV31 dc31 pm31 an31 cd31 ct31), sl31⟩) (c31 : PySem.W.codeIn K cd31 "_law_sum" = true) (k31 : PySem.W.keepIn K (.ref f31) = true)
    {f32 : Addr} {od32 an32 : Option Addr} {sl32 : Array (Option Value)} {oc32 kV32 dc32 pm32 cd32 ct32 : Value}
    (a32 : PySem.W.nsIn K mainGlobals "_law_product" = some (some (.ref f32))) (l32 : K.lookup f32 = some ⟨oc32, od32, .func (PySem.W.fnOf "_law_product" "_law_product" (defArgs s__law_product) (defBody s__law_product) (defScope s__law_product) .none kV32 dc32 pm32 an32 cd32 ct32), sl32⟩) (c32 : PySem.W.codeIn K cd32 "_law_product" = true) (k32 : PySem.W.keepIn K (.ref f32) = true)
    {f33 : Addr} {od33 an33 : Option Addr} {sl33 : Array (Option Value)} {oc33 kV33 dc33 pm33 cd33 ct33 : Value}
    (a33 : PySem.W.nsIn K mainGlobals "_law_power" = some (some (.ref f33))) (l33 : K.lookup f33 = some ⟨oc33, od33, .func (PySem.W.fnOf "_law_power" "_law_power" (defArgs s__law_power) (defBody s__law_power) (defScope s__law_power) .none kV33 dc33 pm33 an33 cd33 ct33), sl33⟩) (c33 : PySem.W.codeIn K cd33 "_law_power" = true) (k33 : PySem.W.keepIn K (.ref f33) = true)
    {f34 : Addr} {od34 an34 : Option Addr} {sl34 : Array (Option Value)} {oc34 kV34 dc34 pm34 cd34 ct34 : Value}
    (a34 : PySem.W.nsIn K mainGlobals "law" = some (some (.ref f34))) (l34 : K.lookup f34 = some ⟨oc34, od34, .func (PySem.W.fnOf "law" "law" (defArgs s_law) (defBody s_law) (defScope s_law) .none kV34 dc34 pm34 an34 cd34 ct34), sl34⟩) (c34 : PySem.W.codeIn K cd34 "law" = true) (k34 : PySem.W.keepIn K (.ref f34) = true)
    (aM : PySem.W.nsIn K mainGlobals "Malformed" = some (some (.ref CM))) (aR : PySem.W.nsIn K mainGlobals "Refused" = some (some (.ref CR))) (xM : PySem.W.excIn K CM [.type "ValueError", .type "Exception", .type "BaseException", .type "object"] "ValueError.__new__" = true) (kM : PySem.W.keepIn K (.ref CM) = true) (bM : PySem.W.subIn K (.ref CM) (.type "BaseException") = some true) (tM : PySem.W.typeIn K (.ref CM) = some (.type "type")) (iM : PySem.W.isClsIn K CM = true) (sM : PySem.W.subIn K (.ref CM) (.ref CM) = some true)
    {nmR : _} {qR : _} {NR : _} {bsR : _} {bmR : _} {snR : _} {subR : _} {abR : _} {colR : _} {ddR : _} {k0R : _} {k1R : _} {k2R : _} {k3R : _} {k5R : _} (lR : K.lookup CR = some (excClassObj nmR qR CR NR bsR bmR true snR subR abR colR ddR k0R k1R k2R k3R k5R "ValueError.__new__")) (rR : PySem.HandSPX.refsVE bmR = true)
    (saR : PySem.W.findIn K (.ref CR) "__setattr__" = some (some (.builtin "object.__setattr__"))) (bR : PySem.W.subIn K (.ref CR) (.type "BaseException") = some true) (tR : PySem.W.typeIn K (.ref CR) = some (.type "type")) (kR : PySem.W.keepIn K (.ref CR) = true)
    (noR : PySem.W.findIn K (.ref CR) "reason" = some none) (aF : PySem.W.nsIn K mainGlobals "Fault" = some (some (.ref CF))) (rdF : PySem.W.readsIn K CF (.type "type") = true) (gaF : PySem.W.specialIn K (.ref CF) "__getattribute__" = some (some (.builtin "type.__getattribute__"))) (vVF : PySem.W.findCls K (.ref CF) (.type "type") "__init__" = some (.val (.builtin "ValueError.__init__"))) (xfR : xfB K CR = true)
    (iR : PySem.W.isClsIn K CR = true) (sRM : PySem.W.subIn K (.ref CR) (.ref CM) = some false) (sRR : PySem.W.subIn K (.ref CR) (.ref CR) = some true) (iI : PySem.W.findIn K (.ref CR) "__init__" = some (some (.ref fI))) (tI : PySem.W.typeIn K (.ref fI) = some (.type "function"))
    {odI anI : Option Addr} {slI : Array (Option Value)} {ocI kVI dcI pmI cdI ctI : Value} (lI : K.lookup fI = some ⟨ocI, odI, .func (PySem.W.fnOf "__init__" "Refused.__init__" (defArgs s_init) (defBody s_init) (defScope s_init) .none kVI dcI pmI anI cdI ctI), slI⟩) (cI : PySem.W.codeIn K cdI "Refused.__init__" = true) (kI : PySem.W.keepIn K (.ref fI) = true)
    {CT fN TN : Addr} {odN anN odT : Option Addr} {slN slT : Array (Option Value)} {ocN kVN dcN pmN cdN ctN ocT : Value} {tT : Tok} {nT : Nat}
    (aT : PySem.W.nsIn K mainGlobals "Ratio" = some (some (.ref CT))) (fiN : PySem.W.findIn K (.ref CT) "__init__" = some (some (.ref fN))) (lN : K.lookup fN = some ⟨ocN, odN, .func (PySem.W.fnOf "__init__" "Ratio.__init__" (defArgs s_Rinit) (defBody s_Rinit) (defScope s_Rinit) (.ref TN) kVN dcN pmN anN cdN ctN), slN⟩) (cN : PySem.W.codeIn K cdN "Ratio.__init__" = true) (kN : PySem.W.keepIn K (.ref fN) = true) (lT : K.lookup TN = some ⟨ocT, odT, .seq #[.int 1 tT] nT, slT⟩)
    (mkT : PySem.W.makesIn K CT = true) (tN : PySem.W.isFn K (.ref fN) = true) (kT : PySem.W.keepIn K (.ref CT) = true) (pgT : PySem.W.plainGet K CT Str.empty = true) (hdT : PySem.W.hasDictIn K CT = true) (poT : PySem.W.plainOver K CT = true) (saT : PySem.W.findIn K (.ref CT) "__setattr__" = some (some (.builtin "object.__setattr__")))
    (nnT : PySem.W.findIn K (.ref CT) "n" = some none) (ndT : PySem.W.findIn K (.ref CT) "d" = some none) (haT : PySem.W.findIn K (.ref CT) "__class__" = some (some (.builtin "object.__class__"))) (hnT : PySem.W.specialIn K (.builtin "object.__class__") "__get__" = some (some (.builtin "getset_descriptor.__get__"))) (htT : PySem.W.takesIn K (.builtin "object.__class__") = some true) (hmT : PySem.W.mroIn K CT (.type "object") = some true)
    (kiT : kitB K CT = true) (sfT : PySem.W.selfFirst K CT = true) (neT : PySem.W.findIn K (.ref CT) "__ne__" = some (some (.builtin "object.__ne__")))
    {g100 : Addr} {odg100 ang100 : Option Addr} {slg100 : Array (Option Value)} {ocg100 kVg100 dcg100 pmg100 cdg100 ctg100 : Value} (fg100 : PySem.W.findIn K (.ref CT) "__add__" = some (some (.ref g100))) (lg100 : K.lookup g100 = some ⟨ocg100, odg100, .func (PySem.W.fnOf "__add__" "Ratio.__add__" (defArgs s_Ratio_add) (defBody s_Ratio_add) (defScope s_Ratio_add) .none kVg100 dcg100 pmg100 ang100 cdg100 ctg100), slg100⟩) (cg100 : PySem.W.codeIn K cdg100 "Ratio.__add__" = true) (kg100 : PySem.W.keepIn K (.ref g100) = true) (tg100 : PySem.W.isFn K (.ref g100) = true)
    {g101 : Addr} {odg101 ang101 : Option Addr} {slg101 : Array (Option Value)} {ocg101 kVg101 dcg101 pmg101 cdg101 ctg101 : Value} (fg101 : PySem.W.findIn K (.ref CT) "__sub__" = some (some (.ref g101))) (lg101 : K.lookup g101 = some ⟨ocg101, odg101, .func (PySem.W.fnOf "__sub__" "Ratio.__sub__" (defArgs s_Ratio_sub) (defBody s_Ratio_sub) (defScope s_Ratio_sub) .none kVg101 dcg101 pmg101 ang101 cdg101 ctg101), slg101⟩) (cg101 : PySem.W.codeIn K cdg101 "Ratio.__sub__" = true) (kg101 : PySem.W.keepIn K (.ref g101) = true) (tg101 : PySem.W.isFn K (.ref g101) = true)
    {g102 : Addr} {odg102 ang102 : Option Addr} {slg102 : Array (Option Value)} {ocg102 kVg102 dcg102 pmg102 cdg102 ctg102 : Value} (fg102 : PySem.W.findIn K (.ref CT) "__mul__" = some (some (.ref g102))) (lg102 : K.lookup g102 = some ⟨ocg102, odg102, .func (PySem.W.fnOf "__mul__" "Ratio.__mul__" (defArgs s_Ratio_mul) (defBody s_Ratio_mul) (defScope s_Ratio_mul) .none kVg102 dcg102 pmg102 ang102 cdg102 ctg102), slg102⟩) (cg102 : PySem.W.codeIn K cdg102 "Ratio.__mul__" = true) (kg102 : PySem.W.keepIn K (.ref g102) = true) (tg102 : PySem.W.isFn K (.ref g102) = true)
    {g103 : Addr} {odg103 ang103 : Option Addr} {slg103 : Array (Option Value)} {ocg103 kVg103 dcg103 pmg103 cdg103 ctg103 : Value} (fg103 : PySem.W.findIn K (.ref CT) "__neg__" = some (some (.ref g103))) (lg103 : K.lookup g103 = some ⟨ocg103, odg103, .func (PySem.W.fnOf "__neg__" "Ratio.__neg__" (defArgs s_Ratio_neg) (defBody s_Ratio_neg) (defScope s_Ratio_neg) .none kVg103 dcg103 pmg103 ang103 cdg103 ctg103), slg103⟩) (cg103 : PySem.W.codeIn K cdg103 "Ratio.__neg__" = true) (kg103 : PySem.W.keepIn K (.ref g103) = true) (tg103 : PySem.W.isFn K (.ref g103) = true)
    {g104 : Addr} {odg104 ang104 : Option Addr} {slg104 : Array (Option Value)} {ocg104 kVg104 dcg104 pmg104 cdg104 ctg104 : Value} (fg104 : PySem.W.findIn K (.ref CT) "__eq__" = some (some (.ref g104))) (lg104 : K.lookup g104 = some ⟨ocg104, odg104, .func (PySem.W.fnOf "__eq__" "Ratio.__eq__" (defArgs s_Ratio_eq) (defBody s_Ratio_eq) (defScope s_Ratio_eq) .none kVg104 dcg104 pmg104 ang104 cdg104 ctg104), slg104⟩) (cg104 : PySem.W.codeIn K cdg104 "Ratio.__eq__" = true) (kg104 : PySem.W.keepIn K (.ref g104) = true) (tg104 : PySem.W.isFn K (.ref g104) = true)
    {g105 : Addr} {odg105 ang105 : Option Addr} {slg105 : Array (Option Value)} {ocg105 kVg105 dcg105 pmg105 cdg105 ctg105 : Value} (fg105 : PySem.W.findIn K (.ref CT) "times" = some (some (.ref g105))) (lg105 : K.lookup g105 = some ⟨ocg105, odg105, .func (PySem.W.fnOf "times" "Ratio.times" (defArgs s_Ratio_times) (defBody s_Ratio_times) (defScope s_Ratio_times) .none kVg105 dcg105 pmg105 ang105 cdg105 ctg105), slg105⟩) (cg105 : PySem.W.codeIn K cdg105 "Ratio.times" = true) (kg105 : PySem.W.keepIn K (.ref g105) = true) (tg105 : PySem.W.isFn K (.ref g105) = true)
    {g106 : Addr} {odg106 ang106 : Option Addr} {slg106 : Array (Option Value)} {ocg106 kVg106 dcg106 pmg106 cdg106 ctg106 : Value} (fg106 : PySem.W.findIn K (.ref CT) "is_zero" = some (some (.ref g106))) (lg106 : K.lookup g106 = some ⟨ocg106, odg106, .func (PySem.W.fnOf "is_zero" "Ratio.is_zero" (defArgs s_Ratio_is_zero) (defBody s_Ratio_is_zero) (defScope s_Ratio_is_zero) .none kVg106 dcg106 pmg106 ang106 cdg106 ctg106), slg106⟩) (cg106 : PySem.W.codeIn K cdg106 "Ratio.is_zero" = true) (kg106 : PySem.W.keepIn K (.ref g106) = true) (tg106 : PySem.W.isFn K (.ref g106) = true)
    (z_abs : PySem.W.nsIn K mainGlobals "abs" = some none)
    (z_all : PySem.W.nsIn K mainGlobals "all" = some none)
    (z_any : PySem.W.nsIn K mainGlobals "any" = some none)
    (z_bool : PySem.W.nsIn K mainGlobals "bool" = some none)
    (z_enumerate : PySem.W.nsIn K mainGlobals "enumerate" = some none)
    (z_int : PySem.W.nsIn K mainGlobals "int" = some none)
    (z_isinstance : PySem.W.nsIn K mainGlobals "isinstance" = some none)
    (z_len : PySem.W.nsIn K mainGlobals "len" = some none)
    (z_list : PySem.W.nsIn K mainGlobals "list" = some none)
    (z_max : PySem.W.nsIn K mainGlobals "max" = some none)
    (z_range : PySem.W.nsIn K mainGlobals "range" = some none)
    (z_str : PySem.W.nsIn K mainGlobals "str" = some none)
    (z_sum : PySem.W.nsIn K mainGlobals "sum" = some none)
    (z_tuple : PySem.W.nsIn K mainGlobals "tuple" = some none)
    (z_zip : PySem.W.nsIn K mainGlobals "zip" = some none)
    {t_MOST_PRIME : Tok} (v_MOST_PRIME : PySem.W.nsIn K mainGlobals "MOST_PRIME" = some (some (.int 997 t_MOST_PRIME)))
    {t_MOST_INDEX : Tok} (v_MOST_INDEX : PySem.W.nsIn K mainGlobals "MOST_INDEX" = some (some (.int 120 t_MOST_INDEX)))
    : ∃ fd : FuncData, (∀ (s : Shared) (v : Value), BindsTo s fd ⟨[v], []⟩ [("script", v)]) ∧ ∀ base : Heap, K.In base → base.Ns mainGlobals mg → FnOk l.prog w K mg base (L2.CX l.prog w) 11 fa fd ["script"] (spLaw K) := by
  have e := hfa.symm.trans (PySem.W.mg_of X Gn a34)
  cases e
  let G : Wd := ⟨fun n => if n < 100 then [f0, f1, f2, f3, f4, f5, f6, f7, f8, f9, f10, f11, f12, f13, f14, f15, f16, f17, f18, f19, f20, f21, f22, f23, f24, f25, f26, f27, f28, f29, f30, f31, f32, f33, fa].getD n 0 else [g100, g101, g102, g103, g104, g105, g106].getD (n - 100) 0, fun n => [CM, CR, CF, CT].getD n 0, fun n => [[], [], [], [("n" : Str), ("d" : Str)]].getD n []⟩
  have T : Tx K mg G := {
    d__wall := ⟨⟨_, fun_mk (st := s__wall) l0 c0 k0, (fun_mk (st := s__wall) l0 c0 k0).binds (ps := ["k"]) fun _ _ _ _ _ _ us hl => match us, hl with | [_], _ => rfl⟩⟩
    m__wall := PySem.W.mg_of X Gn a0
    d_is_integer := ⟨⟨_, fun_mk (st := s_is_integer) l1 c1 k1, (fun_mk (st := s_is_integer) l1 c1 k1).binds (ps := ["value"]) fun _ _ _ _ _ _ us hl => match us, hl with | [_], _ => rfl⟩⟩
    m_is_integer := PySem.W.mg_of X Gn a1
    d_is_count := ⟨⟨_, fun_mk (st := s_is_count) l2 c2 k2, (fun_mk (st := s_is_count) l2 c2 k2).binds (ps := ["value", "low", "high"]) fun _ _ _ _ _ _ us hl => match us, hl with | [_, _, _], _ => rfl⟩⟩
    m_is_count := PySem.W.mg_of X Gn a2
    d_check_count := ⟨⟨_, fun_mk (st := s_check_count) l3 c3 k3, (fun_mk (st := s_check_count) l3 c3 k3).binds (ps := ["value", "low", "high"]) fun _ _ _ _ _ _ us hl => match us, hl with | [_, _, _], _ => rfl⟩⟩
    m_check_count := PySem.W.mg_of X Gn a3
    d_common := ⟨⟨_, fun_mk (st := s_common) l4 c4 k4, (fun_mk (st := s_common) l4 c4 k4).binds (ps := ["a", "b"]) fun _ _ _ _ _ _ us hl => match us, hl with | [_, _], _ => rfl⟩⟩
    m_common := PySem.W.mg_of X Gn a4
    d_binomial := ⟨⟨_, fun_mk (st := s_binomial) l5 c5 k5, (fun_mk (st := s_binomial) l5 c5 k5).binds (ps := ["n", "k"]) fun _ _ _ _ _ _ us hl => match us, hl with | [_, _], _ => rfl⟩⟩
    m_binomial := PySem.W.mg_of X Gn a5
    d_is_prime := ⟨⟨_, fun_mk (st := s_is_prime) l6 c6 k6, (fun_mk (st := s_is_prime) l6 c6 k6).binds (ps := ["n"]) fun _ _ _ _ _ _ us hl => match us, hl with | [_], _ => rfl⟩⟩
    m_is_prime := PySem.W.mg_of X Gn a6
    d_check_prime := ⟨⟨_, fun_mk (st := s_check_prime) l7 c7 k7, (fun_mk (st := s_check_prime) l7 c7 k7).binds (ps := ["p", "high"]) fun _ _ _ _ _ _ us hl => match us, hl with | [_, _], _ => rfl⟩⟩
    m_check_prime := PySem.W.mg_of X Gn a7
    d_check_ratio := ⟨⟨_, fun_mk (st := s_check_ratio) l8 c8 k8, (fun_mk (st := s_check_ratio) l8 c8 k8).binds (ps := ["value"]) fun _ _ _ _ _ _ us hl => match us, hl with | [_], _ => rfl⟩⟩
    m_check_ratio := PySem.W.mg_of X Gn a8
    d_check_place := ⟨⟨_, fun_mk (st := s_check_place) l9 c9 k9, (fun_mk (st := s_check_place) l9 c9 k9).binds (ps := ["p"]) fun _ _ _ _ _ _ us hl => match us, hl with | [_], _ => rfl⟩⟩
    m_check_place := PySem.W.mg_of X Gn a9
    d_bernoulli := ⟨⟨_, fun_mk (st := s_bernoulli) l10 c10 k10, (fun_mk (st := s_bernoulli) l10 c10 k10).binds (ps := ["n"]) fun _ _ _ _ _ _ us hl => match us, hl with | [_], _ => rfl⟩⟩
    m_bernoulli := PySem.W.mg_of X Gn a10
    d_numbers_to := ⟨⟨_, fun_mk (st := s_numbers_to) l11 c11 k11, (fun_mk (st := s_numbers_to) l11 c11 k11).binds (ps := ["n"]) fun _ _ _ _ _ _ us hl => match us, hl with | [_], _ => rfl⟩⟩
    m_numbers_to := PySem.W.mg_of X Gn a11
    d_bernoulli_by_triangle := ⟨⟨_, fun_mk (st := s_bernoulli_by_triangle) l12 c12 k12, (fun_mk (st := s_bernoulli_by_triangle) l12 c12 k12).binds (ps := ["n"]) fun _ _ _ _ _ _ us hl => match us, hl with | [_], _ => rfl⟩⟩
    m_bernoulli_by_triangle := PySem.W.mg_of X Gn a12
    d_bernoulli_value := ⟨⟨_, fun_mk (st := s_bernoulli_value) l13 c13 k13, (fun_mk (st := s_bernoulli_value) l13 c13 k13).binds (ps := ["n", "x"]) fun _ _ _ _ _ _ us hl => match us, hl with | [_, _], _ => rfl⟩⟩
    m_bernoulli_value := PySem.W.mg_of X Gn a13
    d_power_sum := ⟨⟨_, fun_mk (st := s_power_sum) l14 c14 k14, (fun_mk (st := s_power_sum) l14 c14 k14).binds (ps := ["k", "n"]) fun _ _ _ _ _ _ us hl => match us, hl with | [_, _], _ => rfl⟩⟩
    m_power_sum := PySem.W.mg_of X Gn a14
    d_lower_primes := ⟨⟨_, fun_mk (st := s_lower_primes) l15 c15 k15, (fun_mk (st := s_lower_primes) l15 c15 k15).binds (ps := ["n"]) fun _ _ _ _ _ _ us hl => match us, hl with | [_], _ => rfl⟩⟩
    m_lower_primes := PySem.W.mg_of X Gn a15
    d_check_even := ⟨⟨_, fun_mk (st := s_check_even) l16 c16 k16, (fun_mk (st := s_check_even) l16 c16 k16).binds (ps := ["n"]) fun _ _ _ _ _ _ us hl => match us, hl with | [_], _ => rfl⟩⟩
    m_check_even := PySem.W.mg_of X Gn a16
    d_whole_part := ⟨⟨_, fun_mk (st := s_whole_part) l17 c17 k17, (fun_mk (st := s_whole_part) l17 c17 k17).binds (ps := ["n"]) fun _ _ _ _ _ _ us hl => match us, hl with | [_], _ => rfl⟩⟩
    m_whole_part := PySem.W.mg_of X Gn a17
    d_bad_indexes := ⟨⟨_, fun_mk (st := s_bad_indexes) l18 c18 k18, (fun_mk (st := s_bad_indexes) l18 c18 k18).binds (ps := ["p"]) fun _ _ _ _ _ _ us hl => match us, hl with | [_], _ => rfl⟩⟩
    m_bad_indexes := PySem.W.mg_of X Gn a18
    d_half_numbers := ⟨⟨_, fun_mk (st := s_half_numbers) l19 c19 k19, (fun_mk (st := s_half_numbers) l19 c19 k19).binds (ps := ["n"]) fun _ _ _ _ _ _ us hl => match us, hl with | [_], _ => rfl⟩⟩
    m_half_numbers := PySem.W.mg_of X Gn a19
    d__law_state := ⟨⟨_, fun_mk (st := s__law_state) l20 c20 k20, (fun_mk (st := s__law_state) l20 c20 k20).binds (ps := ["script"]) fun _ _ _ _ _ _ us hl => match us, hl with | [_], _ => rfl⟩⟩
    m__law_state := PySem.W.mg_of X Gn a20
    d__law_take := ⟨⟨_, fun_mk (st := s__law_take) l21 c21 k21, (fun_mk (st := s__law_take) l21 c21 k21).binds (ps := ["state", "m"]) fun _ _ _ _ _ _ us hl => match us, hl with | [_, _], _ => rfl⟩⟩
    m__law_take := PySem.W.mg_of X Gn a21
    d__law_same := ⟨⟨_, fun_mk (st := s__law_same) l22 c22 k22, (fun_mk (st := s__law_same) l22 c22 k22).binds (ps := ["value", "due"]) fun _ _ _ _ _ _ us hl => match us, hl with | [_, _], _ => rfl⟩⟩
    m__law_same := PySem.W.mg_of X Gn a22
    d__law_told := ⟨⟨_, fun_mk (st := s__law_told) l23 c23 k23, (fun_mk (st := s__law_told) l23 c23 k23).binds (ps := ["f", "given"]) fun _ _ _ _ _ _ us hl => match us, hl with | [_, _], _ => rfl⟩⟩
    m__law_told := PySem.W.mg_of X Gn a23
    d__law_is_told := ⟨⟨_, fun_mk (st := s__law_is_told) l24 c24 k24, (fun_mk (st := s__law_is_told) l24 c24 k24).binds (ps := ["pair", "due"]) fun _ _ _ _ _ _ us hl => match us, hl with | [_, _], _ => rfl⟩⟩
    m__law_is_told := PySem.W.mg_of X Gn a24
    d__law_tells := ⟨⟨_, fun_mk (st := s__law_tells) l25 c25 k25, (fun_mk (st := s__law_tells) l25 c25 k25).binds (ps := ["f", "given", "due"]) fun _ _ _ _ _ _ us hl => match us, hl with | [_, _, _], _ => rfl⟩⟩
    m__law_tells := PySem.W.mg_of X Gn a25
    d__law_value := ⟨⟨_, fun_mk (st := s__law_value) l26 c26 k26, (fun_mk (st := s__law_value) l26 c26 k26).binds (ps := ["f", "given"]) fun _ _ _ _ _ _ us hl => match us, hl with | [_, _], _ => rfl⟩⟩
    m__law_value := PySem.W.mg_of X Gn a26
    d__law_bads := ⟨⟨_, fun_mk (st := s__law_bads) l27 c27 k27, (fun_mk (st := s__law_bads) l27 c27 k27).binds (ps := ["f", "given", "at", "bads"]) fun _ _ _ _ _ _ us hl => match us, hl with | [_, _, _, _], _ => rfl⟩⟩
    m__law_bads := PySem.W.mg_of X Gn a27
    d__law_choose := ⟨⟨_, fun_mk (st := s__law_choose) l28 c28 k28, (fun_mk (st := s__law_choose) l28 c28 k28).binds (ps := ["n", "k"]) fun _ _ _ _ _ _ us hl => match us, hl with | [_, _], _ => rfl⟩⟩
    m__law_choose := PySem.W.mg_of X Gn a28
    d__law_raised := ⟨⟨_, fun_mk (st := s__law_raised) l29 c29 k29, (fun_mk (st := s__law_raised) l29 c29 k29).binds (ps := ["a", "k"]) fun _ _ _ _ _ _ us hl => match us, hl with | [_, _], _ => rfl⟩⟩
    m__law_raised := PySem.W.mg_of X Gn a29
    d__law_number := ⟨⟨_, fun_mk (st := s__law_number) l30 c30 k30, (fun_mk (st := s__law_number) l30 c30 k30).binds (ps := ["state", "top"]) fun _ _ _ _ _ _ us hl => match us, hl with | [_, _], _ => rfl⟩⟩
    m__law_number := PySem.W.mg_of X Gn a30
    d__law_sum := ⟨⟨_, fun_mk (st := s__law_sum) l31 c31 k31, (fun_mk (st := s__law_sum) l31 c31 k31).binds (ps := ["items"]) fun _ _ _ _ _ _ us hl => match us, hl with | [_], _ => rfl⟩⟩
    m__law_sum := PySem.W.mg_of X Gn a31
    d__law_product := ⟨⟨_, fun_mk (st := s__law_product) l32 c32 k32, (fun_mk (st := s__law_product) l32 c32 k32).binds (ps := ["items"]) fun _ _ _ _ _ _ us hl => match us, hl with | [_], _ => rfl⟩⟩
    m__law_product := PySem.W.mg_of X Gn a32
    d__law_power := ⟨⟨_, fun_mk (st := s__law_power) l33 c33 k33, (fun_mk (st := s__law_power) l33 c33 k33).binds (ps := ["x", "k"]) fun _ _ _ _ _ _ us hl => match us, hl with | [_, _], _ => rfl⟩⟩
    m__law_power := PySem.W.mg_of X Gn a33
    d_law := ⟨⟨_, fun_mk (st := s_law) l34 c34 k34, (fun_mk (st := s_law) l34 c34 k34).binds (ps := ["script"]) fun _ _ _ _ _ _ us hl => match us, hl with | [_], _ => rfl⟩⟩
    m_law := PySem.W.mg_of X Gn a34
    n_abs := PySem.W.mg_none_of X Gn z_abs
    n_all := PySem.W.mg_none_of X Gn z_all
    n_any := PySem.W.mg_none_of X Gn z_any
    n_bool := PySem.W.mg_none_of X Gn z_bool
    n_enumerate := PySem.W.mg_none_of X Gn z_enumerate
    n_int := PySem.W.mg_none_of X Gn z_int
    n_isinstance := PySem.W.mg_none_of X Gn z_isinstance
    n_len := PySem.W.mg_none_of X Gn z_len
    n_list := PySem.W.mg_none_of X Gn z_list
    n_max := PySem.W.mg_none_of X Gn z_max
    n_range := PySem.W.mg_none_of X Gn z_range
    n_str := PySem.W.mg_none_of X Gn z_str
    n_sum := PySem.W.mg_none_of X Gn z_sum
    n_tuple := PySem.W.mg_none_of X Gn z_tuple
    n_zip := PySem.W.mg_none_of X Gn z_zip
    c_MOST_PRIME := ⟨_, PySem.W.mg_of X Gn v_MOST_PRIME⟩
    c_MOST_INDEX := ⟨_, PySem.W.mg_of X Gn v_MOST_INDEX⟩
    gM := PySem.W.mg_of X Gn aM
    gR := PySem.W.mg_of X Gn aR
    xM := xM
    kM := kM
    bM := bM
    tM := tM
    eMM := exm_self' bM iM tM sM
    gF := PySem.W.mg_of X Gn aF
    rC := rfd_mk (oex_mk lR rR saR bR tR kR) noR rdF gaF vVF xfR
    d_init := ⟨_, _, fun_mk (st := s_init) lI cI kI, iI, tI, (fun_mk (st := s_init) lI cI kI).binds (ps := ["self", "reason"]) fun _ _ _ _ _ _ us hl => match us, hl with | [_, _], _ => rfl⟩
    eRM := exm_self' bM iM tM sRM
    eRR := exm_self' bR iR tR sRR
    gT := PySem.W.mg_of X Gn aT
    rT := ⟨⟨pgT, hdT, poT, saT⟩, nnT, ndT, haT, hnT, htT, hmT, kiT⟩
    cF := rfl
    sfR := sfT
    neR := neT
    d_Rinit := by
      have F : FunD K "__init__" "Ratio.__init__" (defArgs s_Rinit) (defBody s_Rinit) (defScope s_Rinit) [.int 1] [] fN _ := ⟨⟨_, _, _, _, _, _, _, _, _, _, rfl, lN, cN, .inr ⟨by simp, TN, _, [.int 1 tT], nT, rfl, lT, rfl, .cons ⟨tT, rfl⟩ .nil⟩, .inl rfl⟩, kN⟩
      obtain ⟨b0, b1⟩ := binds_of F (fun _ _ _ _ _ _ _ us its h1 h2 => match us, its, h1, h2 with | [_, _, _], [_], _, _ => ⟨_, rfl, rfl⟩) (fun _ _ _ _ _ _ _ us its h1 h2 => match us, its, h1, h2 with | [_, _], [_], _, _ => ⟨_, rfl, rfl⟩)
      exact ⟨fN, _, F, ⟨mkT, fiN, tN, kT⟩, b0, b1⟩
    d_Ratio_add := ⟨⟨_, fun_mk (st := s_Ratio_add) lg100 cg100 kg100, (fun_mk (st := s_Ratio_add) lg100 cg100 kg100).binds (ps := ["self", "other"]) fun _ _ _ _ _ _ us hl => match us, hl with | [_, _], _ => rfl⟩, ⟨fg100, tg100, kg100⟩⟩
    d_Ratio_sub := ⟨⟨_, fun_mk (st := s_Ratio_sub) lg101 cg101 kg101, (fun_mk (st := s_Ratio_sub) lg101 cg101 kg101).binds (ps := ["self", "other"]) fun _ _ _ _ _ _ us hl => match us, hl with | [_, _], _ => rfl⟩, ⟨fg101, tg101, kg101⟩⟩
    d_Ratio_mul := ⟨⟨_, fun_mk (st := s_Ratio_mul) lg102 cg102 kg102, (fun_mk (st := s_Ratio_mul) lg102 cg102 kg102).binds (ps := ["self", "other"]) fun _ _ _ _ _ _ us hl => match us, hl with | [_, _], _ => rfl⟩, ⟨fg102, tg102, kg102⟩⟩
    d_Ratio_neg := ⟨⟨_, fun_mk (st := s_Ratio_neg) lg103 cg103 kg103, (fun_mk (st := s_Ratio_neg) lg103 cg103 kg103).binds (ps := ["self"]) fun _ _ _ _ _ _ us hl => match us, hl with | [_], _ => rfl⟩, ⟨fg103, tg103, kg103⟩⟩
    d_Ratio_eq := ⟨⟨_, fun_mk (st := s_Ratio_eq) lg104 cg104 kg104, (fun_mk (st := s_Ratio_eq) lg104 cg104 kg104).binds (ps := ["self", "other"]) fun _ _ _ _ _ _ us hl => match us, hl with | [_, _], _ => rfl⟩, ⟨fg104, tg104, kg104⟩⟩
    d_Ratio_times := ⟨⟨_, fun_mk (st := s_Ratio_times) lg105 cg105 kg105, (fun_mk (st := s_Ratio_times) lg105 cg105 kg105).binds (ps := ["self", "k"]) fun _ _ _ _ _ _ us hl => match us, hl with | [_, _], _ => rfl⟩, ⟨fg105, tg105, kg105⟩⟩
    d_Ratio_is_zero := ⟨⟨_, fun_mk (st := s_Ratio_is_zero) lg106 cg106 kg106, (fun_mk (st := s_Ratio_is_zero) lg106 cg106 kg106).binds (ps := ["self"]) fun _ _ _ _ _ _ us hl => match us, hl with | [_], _ => rfl⟩, ⟨fg106, tg106, kg106⟩⟩
 }
  refine ⟨PySem.W.fnOf "law" "law" (defArgs s_law) (defBody s_law) (defScope s_law) .none kV34 dc34 pm34 an34 cd34 ct34, fun s v => .of_eq rfl, fun base _ _ => ?_⟩
  have F := fun_mk (st := s_law) l34 c34 k34
  exact law_of law_true (law_fn T F)
end L59
open PySem PySem.W PyProof.Rows
set_option maxHeartbeats 0 in
theorem PySem.Challenge.cw_localroads_k59_whole_numbers_of_bernoull_holds : PySem.Challenge.rw_localroads_k59_whole_numbers_of_bernoull.Holds := by
  w_on; o_law; k_head; (case hw => w_witness2)
  k_fill
  refine L2.walk_of (l := PySem.Challenge.rw_localroads_k59_whole_numbers_of_bernoull) (n := 63) (k := 11) (x := "script") (CX := fun w => L2.CX PySem.Challenge.rw_localroads_k59_whole_numbers_of_bernoull.prog w) (sp := fun w => Rf.spLaw _) rfl (by decide) rfl ⟨rfl, by decide, by decide⟩ (fun w h Y => PySem.W.kIn_of Y) ?F (fun _ _ a ns hl _ hS => ⟨a, ns, rfl, hS, hl, fun _ => rfl⟩) (fun _ _ _ _ _ h => Rf.law_cx h)
  case F =>
    intro w mg fa h KX G hmg
    refine' L59.all_mk KX G hmg ?a0 ?l0 ?c0 ?k0 ?a1 ?l1 ?c1 ?k1 ?a2 ?l2 ?c2 ?k2 ?a3 ?l3 ?c3 ?k3 ?a4 ?l4 ?c4 ?k4 ?a5 ?l5 ?c5 ?k5 ?a6 ?l6 ?c6 ?k6 ?a7 ?l7 ?c7 ?k7 ?a8 ?l8 ?c8 ?k8 ?a9 ?l9 ?c9 ?k9 ?a10 ?l10 ?c10 ?k10 ?a11 ?l11 ?c11 ?k11 ?a12 ?l12 ?c12 ?k12 ?a13 ?l13 ?c13 ?k13 ?a14 ?l14 ?c14 ?k14 ?a15 ?l15 ?c15 ?k15 ?a16 ?l16 ?c16 ?k16 ?a17 ?l17 ?c17 ?k17 ?a18 ?l18 ?c18 ?k18 ?a19 ?l19 ?c19 ?k19 ?a20 ?l20 ?c20 ?k20 ?a21 ?l21 ?c21 ?k21 ?a22 ?l22 ?c22 ?k22 ?a23 ?l23 ?c23 ?k23 ?a24 ?l24 ?c24 ?k24 ?a25 ?l25 ?c25 ?k25 ?a26 ?l26 ?c26 ?k26 ?a27 ?l27 ?c27 ?k27 ?a28 ?l28 ?c28 ?k28 ?a29 ?l29 ?c29 ?k29 ?a30 ?l30 ?c30 ?k30 ?a31 ?l31 ?c31 ?k31 ?a32 ?l32 ?c32 ?k32 ?a33 ?l33 ?c33 ?k33 ?a34 ?l34 ?c34 ?k34 ?aM ?aR ?xM ?kM ?bM ?tM ?iM ?sM ?lR ?rR ?saR ?bR ?tR ?kR ?noR ?aF ?rdF ?gaF ?vVF ?xfR ?iR ?sRM ?sRR ?iI ?tI ?lI ?cI ?kI ?aT ?fiN ?lN ?cN ?kN ?lT ?mkT ?tN ?kT ?pgT ?hdT ?poT ?saT ?nnT ?ndT ?haT ?hnT ?htT ?hmT ?kiT ?sfT ?neT ?fg100 ?lg100 ?cg100 ?kg100 ?tg100 ?fg101 ?lg101 ?cg101 ?kg101 ?tg101 ?fg102 ?lg102 ?cg102 ?kg102 ?tg102 ?fg103 ?lg103 ?cg103 ?kg103 ?tg103 ?fg104 ?lg104 ?cg104 ?kg104 ?tg104 ?fg105 ?lg105 ?cg105 ?kg105 ?tg105 ?fg106 ?lg106 ?cg106 ?kg106 ?tg106 ?z_abs ?z_all ?z_any ?z_bool ?z_enumerate ?z_int ?z_isinstance ?z_len ?z_list ?z_max ?z_range ?z_str ?z_sum ?z_tuple ?z_zip ?v_MOST_PRIME ?v_MOST_INDEX
    (case a0 => k_is)
    (case l0 => k_is)
    (case c0 => k_is)
    (case k0 => k_is)
    (case a1 => k_is)
    (case l1 => k_is)
    (case c1 => k_is)
    (case k1 => k_is)
    (case a2 => k_is)
    (case l2 => k_is)
    (case c2 => k_is)
    (case k2 => k_is)
    (case a3 => k_is)
    (case l3 => k_is)
    (case c3 => k_is)
    (case k3 => k_is)
    (case a4 => k_is)
    (case l4 => k_is)
    (case c4 => k_is)
    (case k4 => k_is)
    (case a5 => k_is)
    (case l5 => k_is)
    (case c5 => k_is)
    (case k5 => k_is)
    (case a6 => k_is)
    (case l6 => k_is)
    (case c6 => k_is)
    (case k6 => k_is)
    (case a7 => k_is)
    (case l7 => k_is)
    (case c7 => k_is)
    (case k7 => k_is)
    (case a8 => k_is)
    (case l8 => k_is)
    (case c8 => k_is)
    (case k8 => k_is)
    (case a9 => k_is)
    (case l9 => k_is)
    (case c9 => k_is)
    (case k9 => k_is)
    (case a10 => k_is)
    (case l10 => k_is)
    (case c10 => k_is)
    (case k10 => k_is)
    (case a11 => k_is)
    (case l11 => k_is)
    (case c11 => k_is)
    (case k11 => k_is)
    (case a12 => k_is)
    (case l12 => k_is)
    (case c12 => k_is)
    (case k12 => k_is)
    (case a13 => k_is)
    (case l13 => k_is)
    (case c13 => k_is)
    (case k13 => k_is)
    (case a14 => k_is)
    (case l14 => k_is)
    (case c14 => k_is)
    (case k14 => k_is)
    (case a15 => k_is)
    (case l15 => k_is)
    (case c15 => k_is)
    (case k15 => k_is)
    (case a16 => k_is)
    (case l16 => k_is)
    (case c16 => k_is)
    (case k16 => k_is)
    (case a17 => k_is)
    (case l17 => k_is)
    (case c17 => k_is)
    (case k17 => k_is)
    (case a18 => k_is)
    (case l18 => k_is)
    (case c18 => k_is)
    (case k18 => k_is)
    (case a19 => k_is)
    (case l19 => k_is)
    (case c19 => k_is)
    (case k19 => k_is)
    (case a20 => k_is)
    (case l20 => k_is)
    (case c20 => k_is)
    (case k20 => k_is)
    (case a21 => k_is)
    (case l21 => k_is)
    (case c21 => k_is)
    (case k21 => k_is)
    (case a22 => k_is)
    (case l22 => k_is)
    (case c22 => k_is)
    (case k22 => k_is)
    (case a23 => k_is)
    (case l23 => k_is)
    (case c23 => k_is)
    (case k23 => k_is)
    (case a24 => k_is)
    (case l24 => k_is)
    (case c24 => k_is)
    (case k24 => k_is)
    (case a25 => k_is)
    (case l25 => k_is)
    (case c25 => k_is)
    (case k25 => k_is)
    (case a26 => k_is)
    (case l26 => k_is)
    (case c26 => k_is)
    (case k26 => k_is)
    (case a27 => k_is)
    (case l27 => k_is)
    (case c27 => k_is)
    (case k27 => k_is)
    (case a28 => k_is)
    (case l28 => k_is)
    (case c28 => k_is)
    (case k28 => k_is)
    (case a29 => k_is)
    (case l29 => k_is)
    (case c29 => k_is)
    (case k29 => k_is)
    (case a30 => k_is)
    (case l30 => k_is)
    (case c30 => k_is)
    (case k30 => k_is)
    (case a31 => k_is)
    (case l31 => k_is)
    (case c31 => k_is)
    (case k31 => k_is)
    (case a32 => k_is)
    (case l32 => k_is)
    (case c32 => k_is)
    (case k32 => k_is)
    (case a33 => k_is)
    (case l33 => k_is)
    (case c33 => k_is)
    (case k33 => k_is)
    (case a34 => k_is)
    (case l34 => k_is)
    (case c34 => k_is)
    (case k34 => k_is)
    (case aM => k_is)
    (case aR => k_is)
    (case xM => k_exc)
    (case kM => k_is)
    (case bM => k_is)
    (case tM => k_is)
    (case iM => k_is)
    (case sM => first | rfl | k_is)
    (case lR => k_is)
    (case rR => first | rfl | k_is)
    (case saR => k_is)
    (case bR => k_is)
    (case tR => k_is)
    (case kR => k_is)
    (case noR => k_is)
    (case aF => k_is)
    (case rdF => first | rfl | k_is)
    (case gaF => k_is)
    (case vVF => k_is)
    (case xfR => first | rfl | k_is)
    (case iR => first | rfl | k_is)
    (case sRM => first | rfl | k_is)
    (case sRR => first | rfl | k_is)
    (case iI => k_is)
    (case tI => k_is)
    (case lI => k_is)
    (case cI => k_is)
    (case kI => k_is)
    (case aT => k_is)
    (case fiN => k_is)
    (case lN => k_is)
    (case cN => k_is)
    (case kN => k_is)
    (case lT => k_is)
    (case mkT => first | rfl | k_is)
    (case tN => k_is)
    (case kT => k_is)
    (case pgT => first | rfl | k_is)
    (case hdT => first | rfl | k_is)
    (case poT => first | rfl | k_is)
    (case saT => k_is)
    (case nnT => k_is)
    (case ndT => k_is)
    (case haT => k_is)
    (case hnT => k_is)
    (case htT => k_is)
    (case hmT => k_is)
    (case kiT => first | rfl | k_is)
    (case sfT => first | rfl | k_is)
    (case neT => k_is)
    (case fg100 => k_is)
    (case lg100 => k_is)
    (case cg100 => k_is)
    (case kg100 => k_is)
    (case tg100 => k_is)
    (case fg101 => k_is)
    (case lg101 => k_is)
    (case cg101 => k_is)
    (case kg101 => k_is)
    (case tg101 => k_is)
    (case fg102 => k_is)
    (case lg102 => k_is)
    (case cg102 => k_is)
    (case kg102 => k_is)
    (case tg102 => k_is)
    (case fg103 => k_is)
    (case lg103 => k_is)
    (case cg103 => k_is)
    (case kg103 => k_is)
    (case tg103 => k_is)
    (case fg104 => k_is)
    (case lg104 => k_is)
    (case cg104 => k_is)
    (case kg104 => k_is)
    (case tg104 => k_is)
    (case fg105 => k_is)
    (case lg105 => k_is)
    (case cg105 => k_is)
    (case kg105 => k_is)
    (case tg105 => k_is)
    (case fg106 => k_is)
    (case lg106 => k_is)
    (case cg106 => k_is)
    (case kg106 => k_is)
    (case tg106 => k_is)
    (case z_abs => k_is)
    (case z_all => k_is)
    (case z_any => k_is)
    (case z_bool => k_is)
    (case z_enumerate => k_is)
    (case z_int => k_is)
    (case z_isinstance => k_is)
    (case z_len => k_is)
    (case z_list => k_is)
    (case z_max => k_is)
    (case z_range => k_is)
    (case z_str => k_is)
    (case z_sum => k_is)
    (case z_tuple => k_is)
    (case z_zip => k_is)
    (case v_MOST_PRIME => k_is)
    (case v_MOST_INDEX => k_is)
end
