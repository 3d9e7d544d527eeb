import PyProof.Rows.All
import Wide.All
import OpenK.AllK
import Wide.FinOn
import HandS.ForMost
import HandS.Exc
import HandS.TryOnly
import HandS.TryMany
import HandS.ExcOwn
import HandS.ExcField
import HandS.WordsExc
import HandS.IsInst
import HandS.CallLocal
import HandS.CallSlots
import HandS.TupAny
import HandS.TupMul
import HandS.Style
import HandS.Walk
import HandS.Zip
import HandS.Wide
import HandS.WideMore
import HandS.SortInts
import HandS.NoneIn
import PyProof.ListMulRoad
import PyProof.FactsAll.tuple_2
import HandS.ExcInit
import HandS.ClsMeth
import PyProof.Draws
import HandS.Strs
import HandS.SetFor
import PySem.Challenge.RW_localroads_k50_whole_vectors_of_rests
section
set_option Elab.async false
set_option linter.all false
set_option maxRecDepth 100000
set_option maxHeartbeats 4000000
/-! Rf, part A: data, results, what they stand for in the abstract heap. -/
namespace Rf
open PySem PySem.Spec PyProof.Rows L2

/-- data: values as trees; lck is the law's script; fn a def by its number, obj an instance by its class's number -/
inductive D where
  | non | bl (b : Bool) | int (i : Int) | str (x : Str) | tup (xs : List D) | lst (xs : List D) | lck (xs : List D) | fn (n : Nat) | obj (c : Nat) (fs : List D)
inductive Xc where
  | mal | rfd (x : Str)
inductive R (α : Type) where
  | ok (a : α) | exc (x : Xc) | no
/-- what an expression gives: frozen data, a new list of nobody's, the list that slot i owns -/
inductive PV where
  | fz (d : D) | fr (xs : List D) | at (i : Nat)
inductive Cell where
  | un | fz (d : D) | ow (b : Bool) (xs : List D)
abbrev Rho := List Cell

def R.bind {α β : Type} : R α → (α → R β) → R β
  | .ok a, f => f a
  | .exc x, _ => .exc x
  | .no, _ => .no
def R.map {α β : Type} (f : α → β) : R α → R β
  | .ok a => .ok (f a)
  | .exc x => .exc x
  | .no => .no

structure Wd where
  fnA : Nat → Addr
  clA : Nat → Addr
  clF : Nat → List Str

mutual
def Rep (K : PySem.W.Frag) (G : Wd) (Z : Hp) : D → V → Prop
  | .non, v => v = .non
  | .bl b, v => v = .bl b
  | .int i, v => v = .int i
  | .str x, v => v = .str x
  | .tup ds, v => ∃ a vs, v = .ref a ∧ SqT K Z a vs ∧ RepL K G Z ds vs
  | .lst ds, v => ∃ a vs, v = .ref a ∧ Z a = some (.lst vs) ∧ RepL K G Z ds vs
  | .lck ds, v => ∃ a vs, v = .ref a ∧ SqL K Z a vs ∧ RepL K G Z ds vs
  | .fn n, v => v = .ref (G.fnA n)
  | .obj c ds, v => ∃ a dx vs, v = .ref a ∧ Z a = some (.ins (G.clA c) dx ((G.clF c).zip vs)) ∧ (G.clF c).length = ds.length ∧ RepL K G Z ds vs
def RepL (K : PySem.W.Frag) (G : Wd) (Z : Hp) : List D → List V → Prop
  | [], vs => vs = []
  | d :: ds, vs => ∃ v r, vs = v :: r ∧ Rep K G Z d v ∧ RepL K G Z ds r
end

section
variable {K : PySem.W.Frag} {G : Wd} {Z Z' : Hp}
theorem Same.seqT {H H' : Hp} {a : Addr} {xs : List V} (e : Same H H') (h : SqT K H a xs) : SqT K H' a xs := by
  rcases h with (h | ⟨o, h⟩) | h
  · exact .inl (.inl (e _ _ h))
  · exact .inl (.inr ⟨o, e _ _ h⟩)
  · exact .inr h
mutual
theorem Rep.mono (s : Same Z Z') : ∀ (d : D) (v : V), Rep K G Z d v → Rep K G Z' d v
  | .non, _, h => h
  | .bl _, _, h => h
  | .int _, _, h => h
  | .str _, _, h => h
  | .tup ds, _, h => by
    obtain ⟨a, vs, e, q, r⟩ := h
    exact ⟨a, vs, e, Same.seqT s q, RepL.mono s ds vs r⟩
  | .lst ds, _, h => by
    obtain ⟨a, vs, e, q, r⟩ := h
    exact ⟨a, vs, e, s _ _ q, RepL.mono s ds vs r⟩
  | .lck ds, _, h => by
    obtain ⟨a, vs, e, q, r⟩ := h
    exact ⟨a, vs, e, s.seq q, RepL.mono s ds vs r⟩
  | .fn _, _, h => h
  | .obj c ds, _, h => by
    obtain ⟨a, dx, vs, e, q, l, r⟩ := h
    exact ⟨a, dx, vs, e, s _ _ q, l, RepL.mono s ds vs r⟩
theorem RepL.mono (s : Same Z Z') : ∀ (ds : List D) (vs : List V), RepL K G Z ds vs → RepL K G Z' ds vs
  | [], _, h => h
  | d :: ds, _, h => by
    obtain ⟨v, r, e, q, t⟩ := h
    exact ⟨v, r, e, Rep.mono s d v q, RepL.mono s ds r t⟩
end
theorem RepL.length : ∀ {ds : List D} {vs : List V}, RepL K G Z ds vs → ds.length = vs.length
  | [], _, h => by
    have e : _ = [] := h
    rw [e]
    rfl
  | d :: ds, _, h => by
    obtain ⟨v, r, e, _, t⟩ := h
    rw [e, List.length_cons, List.length_cons, RepL.length t]
theorem RepL.get : ∀ {ds : List D} {vs : List V} {i : Nat} {d : D}, RepL K G Z ds vs → ds[i]? = some d → ∃ v, vs[i]? = some v ∧ Rep K G Z d v
  | [], _, _, _, _, e => by simp at e
  | d :: ds, _, 0, d', h, e => by
    obtain ⟨v, r, rfl, q, _⟩ := h
    have e' : d = d' := by simpa using e
    subst e'
    exact ⟨v, rfl, q⟩
  | d :: ds, _, i + 1, d', h, e => by
    obtain ⟨v, r, rfl, _, t⟩ := h
    obtain ⟨u, h1, h2⟩ := RepL.get (i := i) (d := d') t (by simpa using e)
    exact ⟨u, by simpa using h1, h2⟩
theorem RepL.append : ∀ {ds es : List D} {vs us : List V}, RepL K G Z ds vs → RepL K G Z es us → RepL K G Z (ds ++ es) (vs ++ us)
  | [], _, _, _, h, t => by
    have e : _ = [] := h
    rw [e]
    exact t
  | d :: ds, _, _, _, h, t => by
    obtain ⟨v, r, rfl, q, s⟩ := h
    exact ⟨v, _, rfl, q, RepL.append s t⟩
theorem RepL.take : ∀ {ds : List D} {vs : List V} (n : Nat), RepL K G Z ds vs → RepL K G Z (ds.take n) (vs.take n)
  | _, _, 0, _ => rfl
  | [], _, n + 1, h => by
    have e : _ = [] := h
    rw [e]
    rfl
  | d :: ds, _, n + 1, h => by
    obtain ⟨v, r, rfl, q, s⟩ := h
    exact ⟨v, _, rfl, q, RepL.take n s⟩
theorem RepL.drop : ∀ {ds : List D} {vs : List V} (n : Nat), RepL K G Z ds vs → RepL K G Z (ds.drop n) (vs.drop n)
  | _, _, 0, h => h
  | [], _, n + 1, h => by
    have e : _ = [] := h
    rw [e]
    rfl
  | d :: ds, _, n + 1, h => by
    obtain ⟨v, r, rfl, q, s⟩ := h
    exact RepL.drop n s
theorem RepL.set {d : D} {v : V} (q : Rep K G Z d v) : ∀ {ds : List D} {vs : List V} (n : Nat), RepL K G Z ds vs → RepL K G Z (ds.set n d) (vs.set n v)
  | [], _, n, h => by
    have e : _ = [] := h
    rw [e]
    rfl
  | d :: ds, _, 0, h => by
    obtain ⟨v, r, rfl, _, s⟩ := h
    exact ⟨_, _, rfl, q, s⟩
  | d :: ds, _, n + 1, h => by
    obtain ⟨v, r, rfl, q', s⟩ := h
    exact ⟨_, _, rfl, q', RepL.set q n s⟩
theorem RepL.rep {ds : List D} {vs : List V} (h : RepL K G Z ds vs) : ∀ n : Nat, RepL K G Z (List.replicate n ds).flatten (List.replicate n vs).flatten
  | 0 => rfl
  | n + 1 => by
    rw [List.replicate_succ, List.replicate_succ, List.flatten_cons, List.flatten_cons]
    exact h.append (RepL.rep h n)
theorem RepL.ints : ∀ {ns : List Int} {vs : List V}, RepL K G Z (ns.map D.int) vs → vs = ns.map V.int
  | [], _, h => h
  | n :: ns, _, h => by
    obtain ⟨v, r, rfl, q, s⟩ := h
    have e : v = V.int n := q
    rw [e, RepL.ints s]
    rfl
theorem RepL.bls : ∀ {ns : List Bool} {vs : List V}, RepL K G Z (ns.map D.bl) vs → vs = ns.map V.bl
  | [], _, h => h
  | n :: ns, _, h => by
    obtain ⟨v, r, rfl, q, s⟩ := h
    have e : v = V.bl n := q
    rw [e, RepL.bls s]
    rfl
end

/-- Z grew; what is new there is none of the frame's -/
def Ext (Z Φ Z' : Hp) : Prop := Same Z Z' ∧ ∀ a o, Z' a = some o → Z a = some o ∨ Φ a = none
theorem Ext.refl {Z Φ : Hp} : Ext Z Φ Z := ⟨Same.refl Z, fun _ _ h => .inl h⟩
theorem Ext.trans {Z Φ Z1 Z2 : Hp} (a : Ext Z Φ Z1) (b : Ext Z1 Φ Z2) : Ext Z Φ Z2 :=
  ⟨a.1.trans b.1, fun c o h => (b.2 c o h).elim (fun h => a.2 c o h) .inr⟩

/-- the state: frozen Z, frame Φ, slots σ told by ρ; a list that is lent stands where it stood in B -/
structure Ok (K : PySem.W.Frag) (G : Wd) (B : L2.St) (Z Φ : Hp) (σ : L2.St) (ρ : Rho) (H : Hp) : Prop where
  zh : Same Z H
  fh : Same Φ H
  len : σ.length = ρ.length
  fz : ∀ (i : Nat) (d : D), ρ[i]? = some (.fz d) → ∃ v, σ[i]? = some (some v) ∧ Rep K G Z d v
  ow : ∀ (i : Nat) (b : Bool) (xs : List D), ρ[i]? = some (.ow b xs) → ∃ a vs, σ[i]? = some (some (.ref a)) ∧ H a = some (.lst vs) ∧ RepL K G Z xs vs ∧ Z a = none ∧ Φ a = none
  ne : ∀ (i j : Nat) (b c : Bool) (xs ys : List D) (a : Addr), i ≠ j → ρ[i]? = some (.ow b xs) → ρ[j]? = some (.ow c ys) → σ[i]? = some (some (.ref a)) → σ[j]? = some (some (.ref a)) → False
  bw : ∀ (i : Nat) (xs : List D), ρ[i]? = some (.ow true xs) → σ[i]? = B[i]?
  lb : σ.length = B.length

/-- what an expression's value stands for -/
def RepP (K : PySem.W.Frag) (G : Wd) (Z Φ : Hp) (σ : L2.St) (ρ : Rho) (H : Hp) : PV → V → Prop
  | .fz d, v => Rep K G Z d v
  | .fr xs, v => ∃ a vs, v = .ref a ∧ H a = some (.lst vs) ∧ RepL K G Z xs vs ∧ Z a = none ∧ Φ a = none ∧ ∀ (i : Nat) (b : Bool) (ys : List D), ρ[i]? = some (.ow b ys) → σ[i]? = some (some (.ref a)) → False
  | .at i, v => σ[i]? = some (some v) ∧ ∃ b xs, ρ[i]? = some (.ow b xs)
/-- an exception: Malformed, Refused with its reason -/
def RepX (G : Wd) (H : Hp) : Xc → Value → Option Addr → Prop
  | .mal, c, _ => c = .ref (G.clA 0)
  | .rfd x, c, d => c = .ref (G.clA 1) ∧ ∃ dd, d = some dd ∧ ∃ fs, H dd = some (.xd fs) ∧ fs.lookup ("reason" : Str) = some (.str x)

abbrev Ev := Rho → R (PV × Rho)
abbrev Et := Rho → R (Bool × Rho)
abbrev Ea := Rho → R (List D × Rho)
inductive Fl where
  | nx | rt (p : PV) | bk | ct
abbrev Es := Rho → R (Fl × Rho)

/-- the wish for an exception in the code -/
abbrev WX' := WX
def PostX (G : Wd) (W : WX) (Z Φ : Hp) (σ : L2.St) (x : Xc) : Prop :=
  ∀ Z' H' cls d, Ext Z Φ Z' → Same Z' H' → Same Φ H' → RepX G H' x cls d → W cls d σ H'
def PostE (K : PySem.W.Frag) (G : Wd) (W : WX) (B : L2.St) (Z Φ : Hp) (σ : L2.St) (Q : VK) : R (PV × Rho) → Prop
  | .ok (pv, ρ') => ∀ Z' H' v, Ext Z Φ Z' → Ok K G B Z' Φ σ ρ' H' → RepP K G Z' Φ σ ρ' H' pv v → Q v H'
  | .exc x => PostX G W Z Φ σ x
  | .no => False
def PostT (K : PySem.W.Frag) (G : Wd) (W : WX) (B : L2.St) (Z Φ : Hp) (σ : L2.St) (Q : Bool → Hp → Prop) : R (Bool × Rho) → Prop
  | .ok (b, ρ') => ∀ Z' H', Ext Z Φ Z' → Ok K G B Z' Φ σ ρ' H' → Q b H'
  | .exc x => PostX G W Z Φ σ x
  | .no => False
def PostA (K : PySem.W.Frag) (G : Wd) (W : WX) (B : L2.St) (Z Φ : Hp) (σ : L2.St) (Q : List V → Hp → Prop) : R (List D × Rho) → Prop
  | .ok (ds, ρ') => ∀ Z' H' vs, Ext Z Φ Z' → Ok K G B Z' Φ σ ρ' H' → RepL K G Z' ds vs → Q vs H'
  | .exc x => PostX G W Z Φ σ x
  | .no => False
def PostS (K : PySem.W.Frag) (G : Wd) (W : WX) (B : L2.St) (Z Φ : Hp) (D : Ends) : R (Fl × Rho) → Prop
  | .ok (.nx, ρ') => ∀ Z' σ' H', Ext Z Φ Z' → Ok K G B Z' Φ σ' ρ' H' → D.nx σ' H'
  | .ok (.rt pv, ρ') => ∀ Z' σ' H' v, Ext Z Φ Z' → Ok K G B Z' Φ σ' ρ' H' → RepP K G Z' Φ σ' ρ' H' pv v → D.rt v H'
  | .ok (.bk, ρ') => ∀ Z' σ' H', Ext Z Φ Z' → Ok K G B Z' Φ σ' ρ' H' → D.bk σ' H'
  | .ok (.ct, ρ') => ∀ Z' σ' H', Ext Z Φ Z' → Ok K G B Z' Φ σ' ρ' H' → D.ct σ' H'
  | .exc x => ∀ σ', σ'.length = B.length → PostX G W Z Φ σ' x
  | .no => False
def tE (K : PySem.W.Frag) (G : Wd) (W : WX) (f : Ev) : TE := fun σ H Q => ∃ B Z Φ ρ, Ok K G B Z Φ σ ρ H ∧ PostE K G W B Z Φ σ Q (f ρ)
def tT (K : PySem.W.Frag) (G : Wd) (W : WX) (f : Et) : TT := fun σ H Q => ∃ B Z Φ ρ, Ok K G B Z Φ σ ρ H ∧ PostT K G W B Z Φ σ Q (f ρ)
def tA (K : PySem.W.Frag) (G : Wd) (W : WX) (f : Ea) : TA := fun σ H Q => ∃ B Z Φ ρ, Ok K G B Z Φ σ ρ H ∧ PostA K G W B Z Φ σ Q (f ρ)
def tS (K : PySem.W.Frag) (G : Wd) (W : WX) (f : Es) : TS := fun D σ H => ∃ B Z Φ ρ, Ok K G B Z Φ σ ρ H ∧ PostS K G W B Z Φ D (f ρ)

section
variable {X : Cx} {t t' : TE}
theorem _root_.L2.PE.imp {e : Expr} (h : PE X e t) (k : ∀ σ H Q, t' σ H Q → t σ H Q) : PE X e t' := ⟨fun pins s σ H Q I q => h.run pins s σ H Q I (k σ H Q q)⟩
theorem _root_.L2.PT.imp {e : Expr} {t t' : TT} (h : PT X e t) (k : ∀ σ H Q, t' σ H Q → t σ H Q) : PT X e t' := ⟨fun pins s σ H Q I q => h.run pins s σ H Q I (k σ H Q q)⟩
theorem _root_.L2.PW.imp {e : Expr} {t t' : TT} (h : PW X e t) (k : ∀ σ H Q, t' σ H Q → t σ H Q) : PW X e t' := ⟨fun wh pins s σ H Q I q => h.run wh pins s σ H Q I (k σ H Q q)⟩
theorem _root_.L2.PA.imp {e : List Expr} {t t' : TA} (h : PA X e t) (k : ∀ σ H Q, t' σ H Q → t σ H Q) : PA X e t' := ⟨fun pos pins s σ H Q I q => h.run pos pins s σ H Q I (k σ H Q q)⟩
theorem _root_.L2.PS.imp {e : Stmt} {t t' : TS} (h : PS X e t) (k : ∀ D σ H, t' D σ H → t D σ H) : PS X e t' := ⟨fun pins s σ H D I q => h.run pins s σ H D I (k D σ H q)⟩
theorem _root_.L2.PSs.imp {e : List Stmt} {t t' : TS} (h : PSs X e t) (k : ∀ D σ H, t' D σ H → t D σ H) : PSs X e t' := ⟨fun pins s σ H D I q => h.run pins s σ H D I (k D σ H q)⟩
end
end Rf
end
section
set_option Elab.async false
set_option linter.all false
set_option maxRecDepth 100000
set_option maxHeartbeats 4000000
/-! Rf, part B: the state's steps; names, arguments, operators, tests. -/
namespace Rf
open PySem PySem.Spec PyProof.Rows L2

section
variable {K : PySem.W.Frag} {G : Wd} {Z Z' Φ H H' : Hp} {σ : L2.St} {ρ ρ' : Rho} {B : L2.St} {p a : Addr} {o : HO} {vs : List V} {xs : List D} {i : Nat}
theorem same_upd1 (s : Same Z H) (h : H a = some o) : Same (upd Z a o) H := fun b u e => by
  by_cases hb : b = a
  · subst hb
    rw [upd_same] at e
    rw [h, e]
  · rw [upd_ne hb] at e
    exact s b u e
theorem same_new (s : Same Z H) (h : H p = none) : Same Z (upd H p o) := fun b u e => by
  have hb : b ≠ p := ne_of_none (s b u e) h
  rw [upd_ne hb]
  exact s b u e
theorem same_newZ (h : Z p = none) : Same Z (upd Z p o) := same_new (Same.refl Z) h
theorem Same.none (s : Same Z H) (h : H p = none) : Z p = none := s.free h
theorem ext_upd (hz : Z a = none) (hf : Φ a = none) : Ext Z Φ (upd Z a o) := ⟨same_newZ hz, fun b u e => by
  by_cases hb : b = a
  · subst hb
    exact .inr hf
  · rw [upd_ne hb] at e
    exact .inl e⟩
/-- a new object, frozen at once -/
theorem Ok.newZ (k : Ok K G B Z Φ σ ρ H) (h : H p = none) : Ok K G B (upd Z p o) Φ σ ρ (upd H p o) ∧ Ext Z Φ (upd Z p o) := by
  have hz := Same.none k.zh h
  have hf := Same.none k.fh h
  have m : Same Z (upd Z p o) := same_newZ hz
  refine ⟨⟨same_upd1 (same_new k.zh h) upd_same, same_new k.fh h, k.len, fun i d e => ?_, fun i b xs e => ?_, k.ne, k.bw, k.lb⟩, ext_upd hz hf⟩
  · obtain ⟨v, e1, r⟩ := k.fz i d e
    exact ⟨v, e1, Rep.mono m d v r⟩
  · obtain ⟨a, vs, e1, e2, r, z1, z2⟩ := k.ow i b xs e
    have hne : a ≠ p := ne_of_none e2 h
    exact ⟨a, vs, e1, by rw [upd_ne hne]; exact e2, RepL.mono m xs vs r, by rw [upd_ne hne]; exact z1, z2⟩
/-- a new object of nobody's -/
theorem Ok.newF (k : Ok K G B Z Φ σ ρ H) (h : H p = none) : Ok K G B Z Φ σ ρ (upd H p o) := by
  refine ⟨same_new k.zh h, same_new k.fh h, k.len, k.fz, fun i b xs e => ?_, k.ne, k.bw, k.lb⟩
  obtain ⟨a, vs, e1, e2, r, z1, z2⟩ := k.ow i b xs e
  exact ⟨a, vs, e1, by rw [upd_ne (ne_of_none e2 h)]; exact e2, r, z1, z2⟩
/-- Z grows by a list that stands in H, which no slot owns -/
theorem Ok.frz (k : Ok K G B Z Φ σ ρ H) (h : H a = some (.lst vs)) (hz : Z a = none) (hf : Φ a = none) (hn : ∀ (i : Nat) (b : Bool) (ys : List D), ρ[i]? = some (.ow b ys) → σ[i]? = some (some (.ref a)) → False) :
    Ok K G B (upd Z a (.lst vs)) Φ σ ρ H ∧ Ext Z Φ (upd Z a (.lst vs)) := by
  have m : Same Z (upd Z a (.lst vs)) := same_newZ hz
  refine ⟨⟨same_upd1 k.zh h, k.fh, k.len, fun i d e => ?_, fun i b xs e => ?_, k.ne, k.bw, k.lb⟩, ext_upd hz hf⟩
  · obtain ⟨v, e1, r⟩ := k.fz i d e
    exact ⟨v, e1, Rep.mono m d v r⟩
  · obtain ⟨c, ws, e1, e2, r, z1, z2⟩ := k.ow i b xs e
    have hne : c ≠ a := fun q => hn i b xs e (by rw [← q]; exact e1)
    exact ⟨c, ws, e1, e2, RepL.mono m xs ws r, by rw [upd_ne hne]; exact z1, z2⟩
theorem get_set_cases {ρ : Rho} {i j : Nat} {c c' : Cell} (h : (ρ.set i c)[j]? = some c') : (j = i ∧ c' = c) ∨ (j ≠ i ∧ ρ[j]? = some c') := by
  by_cases e : j = i
  · subst e
    rw [List.getElem?_set] at h
    split at h
    · split at h
      · exact .inl ⟨rfl, (Option.some.inj h).symm⟩
      · cases h
    · exact absurd rfl (by assumption)
  · rw [List.getElem?_set_ne (Ne.symm e)] at h
    exact .inr ⟨e, h⟩
/-- slot i is frozen -/
theorem Ok.freeze (k : Ok K G B Z Φ σ ρ H) (e : ρ[i]? = some (.ow false xs)) : ∃ a vs, σ[i]? = some (some (.ref a)) ∧ H a = some (.lst vs) ∧ RepL K G (upd Z a (.lst vs)) xs vs ∧
    Ok K G B (upd Z a (.lst vs)) Φ σ (ρ.set i (.fz (.lst xs))) H ∧ Ext Z Φ (upd Z a (.lst vs)) := by
  obtain ⟨a, vs, e1, e2, r, z1, z2⟩ := k.ow i _ xs e
  have m : Same Z (upd Z a (.lst vs)) := same_newZ z1
  refine ⟨a, vs, e1, e2, RepL.mono m xs vs r, ⟨same_upd1 k.zh e2, k.fh, by rw [List.length_set]; exact k.len, fun j d q => ?_, fun j b ys q => ?_, fun j l b c ys zs w hne q1 q2 => ?_, fun j ys q => ?_, k.lb⟩, ext_upd z1 z2⟩
  · rcases get_set_cases q with ⟨z, q1⟩ | ⟨_, q⟩
    · subst z
      cases q1
      exact ⟨_, e1, a, vs, rfl, upd_same, RepL.mono m xs vs r⟩
    · obtain ⟨v, e1, r⟩ := k.fz j d q
      exact ⟨v, e1, Rep.mono m d v r⟩
  · rcases get_set_cases q with ⟨z, q⟩ | ⟨hj, q⟩
    · cases q
    · obtain ⟨c, ws, f1, f2, r, f3, f4⟩ := k.ow j b ys q
      have hne : c ≠ a := fun z => k.ne j i b _ ys xs a hj q e (by rw [← z]; exact f1) e1
      exact ⟨c, ws, f1, f2, RepL.mono m ys ws r, by rw [upd_ne hne]; exact f3, f4⟩
  · rcases get_set_cases q1 with ⟨_, q1⟩ | ⟨_, q1⟩
    · cases q1
    · rcases get_set_cases q2 with ⟨_, q2⟩ | ⟨_, q2⟩
      · cases q2
      · exact k.ne j l b c ys zs w hne q1 q2
  · rcases get_set_cases q with ⟨_, q⟩ | ⟨_, q⟩
    · cases q
    · exact k.bw j ys q

/-! ### values used -/
def useV : PV → Rho → Option (D × Rho)
  | .fz d, ρ => some (d, ρ)
  | .fr xs, ρ => some (.lst xs, ρ)
  | .at i, ρ => match ρ[i]? with
    | some (.ow false xs) => some (.lst xs, ρ.set i (.fz (.lst xs)))
    | _ => none
def look (ρ : Rho) : PV → Option D
  | .fz d => some d
  | .fr xs => some (.lst xs)
  | .at i => match ρ[i]? with
    | some (.ow _ xs) => some (.lst xs)
    | some (.fz d) => some d
    | _ => none
theorem Ok.use (k : Ok K G B Z Φ σ ρ H) {pv : PV} {v : V} {d : D} (r : RepP K G Z Φ σ ρ H pv v) (u : useV pv ρ = some (d, ρ')) : ∃ Z', Ext Z Φ Z' ∧ Ok K G B Z' Φ σ ρ' H ∧ Rep K G Z' d v := by
  cases pv with
  | fz d' =>
    cases u
    exact ⟨Z, Ext.refl, k, r⟩
  | fr xs =>
    cases u
    obtain ⟨a, vs, rfl, h, q, hz, hf, hn⟩ := r
    obtain ⟨k', e'⟩ := k.frz h hz hf hn
    exact ⟨_, e', k', a, vs, rfl, upd_same, RepL.mono e'.1 _ _ q⟩
  | «at» i =>
    obtain ⟨r1, b, xs, r2⟩ := r
    cases b with
    | true => simp only [useV, r2] at u; cases u
    | false =>
    simp only [useV, r2] at u
    cases u
    obtain ⟨a, vs, e1, e2, q, k', e'⟩ := k.freeze r2
    rw [r1] at e1
    cases e1
    exact ⟨_, e', k', a, vs, rfl, upd_same, q⟩
/-- a peeked value at an operation -/
def Pk (K : PySem.W.Frag) (G : Wd) (Z H : Hp) (d : D) (v : V) : Prop := Rep K G Z d v ∨ ∃ xs a vs, d = .lst xs ∧ v = .ref a ∧ H a = some (.lst vs) ∧ RepL K G Z xs vs
theorem Pk.lst (s : Same Z H) {v : V} (h : Pk K G Z H (.lst xs) v) : ∃ a vs, v = .ref a ∧ H a = some (.lst vs) ∧ RepL K G Z xs vs := by
  rcases h with ⟨a, vs, e, q, r⟩ | ⟨ys, a, vs, e, e2, q, r⟩
  · exact ⟨a, vs, e, s _ _ q, r⟩
  · cases e
    exact ⟨a, vs, e2, q, r⟩
theorem Pk.rep {v : V} {d : D} (h : Pk K G Z H d v) (n : ∀ xs, d ≠ .lst xs) : Rep K G Z d v := by
  rcases h with h | ⟨ys, _, _, e, _⟩
  · exact h
  · exact absurd e (n ys)
/-- a pending operand: frozen data, or a slot's list -/
inductive Pend (K : PySem.W.Frag) (G : Wd) (Z : Hp) (σ : L2.St) : PV → V → Prop
  | fz {d : D} {v : V} (r : Rep K G Z d v) : Pend K G Z σ (.fz d) v
  | fr {xs : List D} {v : V} (r : Rep K G Z (.lst xs) v) : Pend K G Z σ (.fr xs) v
  | «at» {i : Nat} {v : V} (r : σ[i]? = some (some v)) : Pend K G Z σ (.at i) v
theorem Pend.mono {pv : PV} {v : V} (h : Pend K G Z σ pv v) (s : Same Z Z') : Pend K G Z' σ pv v := by
  cases h with
  | fz r => exact .fz (Rep.mono s _ _ r)
  | fr r => exact .fr (Rep.mono s _ _ r)
  | «at» r => exact .at r
theorem Ok.pend (k : Ok K G B Z Φ σ ρ H) {pv : PV} {v : V} (r : RepP K G Z Φ σ ρ H pv v) : ∃ Z', Ext Z Φ Z' ∧ Ok K G B Z' Φ σ ρ H ∧ Pend K G Z' σ pv v := by
  cases pv with
  | fz d => exact ⟨Z, Ext.refl, k, .fz r⟩
  | fr xs =>
    obtain ⟨Z', e, k', q⟩ := k.use (ρ' := ρ) (d := .lst xs) r rfl
    exact ⟨Z', e, k', .fr q⟩
  | «at» i => exact ⟨Z, Ext.refl, k, .at r.1⟩
theorem Ok.pk (k : Ok K G B Z Φ σ ρ H) {pv : PV} {v : V} {d : D} (r : Pend K G Z σ pv v) (l : look ρ pv = some d) : Pk K G Z H d v := by
  cases r with
  | fz r => cases l; exact .inl r
  | fr r => cases l; exact .inl r
  | @«at» i v r =>
    simp only [look] at l
    split at l
    · rename_i b xs' e
      cases l
      obtain ⟨a, vs, e1, e2, q, _, _⟩ := k.ow _ _ _ e
      rw [r] at e1
      cases e1
      exact .inr ⟨_, a, vs, rfl, rfl, e2, q⟩
    · rename_i d' e
      cases l
      obtain ⟨u, e1, q⟩ := k.fz _ _ e
      rw [r] at e1
      cases e1
      exact .inl q
    · cases l

/-- what an operation of the library's gives -/
inductive Stp (K : PySem.W.Frag) (G : Wd) (Z H : Hp) : PV → V → Hp → Hp → Prop
  | same {d : D} {v : V} (r : Rep K G Z d v) : Stp K G Z H (.fz d) v Z H
  | newZ {d : D} {p : Addr} {o : HO} (h : H p = none) (r : Rep K G (upd Z p o) d (.ref p)) : Stp K G Z H (.fz d) (.ref p) (upd Z p o) (upd H p o)
  | newF {xs : List D} {p : Addr} {vs : List V} (h : H p = none) (r : RepL K G Z xs vs) : Stp K G Z H (.fr xs) (.ref p) Z (upd H p (.lst vs))
theorem Stp.ok (k : Ok K G B Z Φ σ ρ H) {pv : PV} {v : V} (s : Stp K G Z H pv v Z' H') : Ext Z Φ Z' ∧ Ok K G B Z' Φ σ ρ H' ∧ RepP K G Z' Φ σ ρ H' pv v := by
  cases s with
  | same r => exact ⟨Ext.refl, k, r⟩
  | newZ h r =>
    obtain ⟨k', e'⟩ := k.newZ h
    exact ⟨e', k', r⟩
  | newF h r =>
    rename_i xs p vs
    refine ⟨Ext.refl, k.newF h, p, vs, rfl, upd_same, r, Same.none k.zh h, Same.none k.fh h, fun i c ys q1 q2 => ?_⟩
    obtain ⟨b, ws, f1, f2, _⟩ := k.ow i c ys q1
    rw [q2] at f1
    cases f1
    rw [h] at f2
    cases f2
theorem PostX.ext {W : WX} {x : Xc} (h : PostX G W Z Φ σ x) (e : Ext Z Φ Z') : PostX G W Z' Φ σ x := fun Z2 H2 c d e2 s1 s2 r => h Z2 H2 c d (e.trans e2) s1 s2 r
end

/-! ### names and constants -/
section
variable {X : Cx} {G : Wd} {W : WX} {pos : Pos}
def eVar (i : Nat) : Ev := fun ρ => match ρ[i]? with
  | some (.fz d) => .ok (.fz d, ρ)
  | some (.ow _ _) => .ok (.at i, ρ)
  | _ => .no
theorem te_var {K : PySem.W.Frag} {i : Nat} {σ : L2.St} {H : Hp} {Q : VK} (h : tE K G W (eVar i) σ H Q) : tVar i σ H Q := by
  obtain ⟨B, Z, Φ, ρ, k, h⟩ := h
  unfold eVar at h
  split at h
  · rename_i d e
    obtain ⟨v, e1, r⟩ := k.fz _ _ e
    exact ⟨v, e1, h Z H v Ext.refl k r⟩
  · rename_i b xs e
    obtain ⟨a, vs, e1, e2, q⟩ := k.ow _ _ _ e
    exact ⟨_, e1, h Z H _ Ext.refl k ⟨e1, b, xs, e⟩⟩
  · exact h.elim
theorem re_var {i : Nat} {x : Str} (hN : X.N[i]? = some x) (hv : Vis X.env.scope x) (hd : (x == ("__debug__" : Str)) = false := by decide) (hcd : (x == ("__classdict__" : Str)) = false := by decide) : PE X (.Name x pos) (tE X.K G W (eVar i)) :=
  (pe_var hN hv hd hcd).imp fun _ _ _ h => te_var h
def eC (d : D) : Ev := fun ρ => .ok (.fz d, ρ)
theorem te_c {K : PySem.W.Frag} {d : D} {v : V} {σ : L2.St} {H : Hp} {Q : VK} (h : tE K G W (eC d) σ H Q) (r : ∀ Z, Rep K G Z d v) : tC v σ H Q := by
  obtain ⟨B, Z, Φ, ρ, k, h⟩ := h
  exact h Z H v Ext.refl k (r Z)
theorem re_int {i j} : PE X (.Constant (.int i) j pos) (tE X.K G W (eC (.int i))) := pe_int.imp fun _ _ _ h => te_c h fun _ => rfl
theorem re_bl {b j} : PE X (.Constant (.bool b) j pos) (tE X.K G W (eC (.bl b))) := pe_bl.imp fun _ _ _ h => te_c h fun _ => rfl
theorem re_non {j} : PE X (.Constant .none j pos) (tE X.K G W (eC .non)) := pe_non.imp fun _ _ _ h => te_c h fun _ => rfl
theorem re_str {x j} : PE X (.Constant (.str x) j pos) (tE X.K G W (eC (.str x))) := pe_str.imp fun _ _ _ h => te_c h fun _ => rfl
/-- a module's int constant -/
theorem re_gint {x : Str} {i : Int} (hg : Gl X x) (hm : ∃ t, X.mg x = some (.int i t)) (hd : (x == ("__debug__" : Str)) = false := by decide) : PE X (.Name x pos) (tE X.K G W (eC (.int i))) := by
  obtain ⟨t, hm⟩ := hm
  exact (pe_glob (v := .int i) hg hm ⟨t, rfl⟩ hd).imp fun _ _ _ h => te_c h fun _ => rfl
/-- a def's name as a value -/
theorem re_gfn {x : Str} {n : Nat} (hg : Gl X x) (hm : X.mg x = some (.ref (G.fnA n))) (hd : (x == ("__debug__" : Str)) = false := by decide) : PE X (.Name x pos) (tE X.K G W (eC (.fn n))) :=
  (pe_glob (v := .ref (G.fnA n)) hg hm rfl hd).imp fun _ _ _ h => te_c h fun _ => rfl

/-! ### two operands -/
def opV (g : D → D → Option PV) (pa pb : PV) (ρ : Rho) : R (PV × Rho) := match look ρ pa, look ρ pb with
  | some da, some db => match g da db with
    | some pv => .ok (pv, ρ)
    | none => .no
  | _, _ => .no
def eOp (g : D → D → Option PV) (fa fb : Ev) : Ev := fun ρ => (fa ρ).bind fun (pa, ρ1) => (fb ρ1).bind fun (pb, ρ2) => opV g pa pb ρ2
/-- g tells what r asks -/
def OpS (K : PySem.W.Frag) (G : Wd) (r : R2) (g : D → D → Option PV) : Prop := ∀ (Z H : Hp) (da db : D) (x y : V) (pv : PV) (Q : VK), Same Z H → Pk K G Z H da x → Pk K G Z H db y → g da db = some pv →
  (∀ Z' H' v, Stp K G Z H pv v Z' H' → Q v H') → r x y H Q
theorem te_op {K : PySem.W.Frag} {r : R2} {g : D → D → Option PV} {fa fb : Ev} (S : OpS K G r g) {σ : L2.St} {H : Hp} {Q : VK} (h : tE K G W (eOp g fa fb) σ H Q) : tOp r (tE K G W fa) (tE K G W fb) σ H Q := by
  obtain ⟨B, Z, Φ, ρ, k, h⟩ := h
  refine ⟨B, Z, Φ, ρ, k, ?_⟩
  unfold eOp at h
  cases ha : fa ρ with
  | no => rw [ha] at h; exact h.elim
  | exc x => rw [ha] at h; exact h
  | ok p =>
    obtain ⟨pa, ρ1⟩ := p
    rw [ha] at h
    intro Z1 H1 x e1 k1 r1
    obtain ⟨Z2, e2, k2, r2⟩ := k1.pend r1
    refine ⟨B, Z2, Φ, ρ1, k2, ?_⟩
    have e12 := e1.trans e2
    change PostE K G W B Z Φ σ Q ((fb ρ1).bind fun (pb, ρ2) => opV g pa pb ρ2) at h
    cases hb : fb ρ1 with
    | no => rw [hb] at h; exact h.elim
    | exc x => rw [hb] at h; exact PostX.ext h e12
    | ok p =>
      obtain ⟨pb, ρ2⟩ := p
      rw [hb] at h
      intro Z3 H3 y e3 k3 r3
      obtain ⟨Z4, e4, k4, r4⟩ := k3.pend r3
      have r2' := r2.mono (e3.trans e4).1
      change PostE K G W B Z Φ σ Q (opV g pa pb ρ2) at h
      unfold opV at h
      cases la : look ρ2 pa with
      | none => rw [la] at h; exact h.elim
      | some da =>
        cases lb : look ρ2 pb with
        | none => rw [la, lb] at h; exact h.elim
        | some db =>
          rw [la, lb] at h
          cases hg : g da db with
          | none => simp only [hg] at h; exact h.elim
          | some pv =>
            simp only [hg] at h
            refine S Z4 H3 da db x y pv Q k4.zh (k4.pk r2' la) (k4.pk r4 lb) hg fun Z' H' v st => ?_
            obtain ⟨f1, f2, f3⟩ := st.ok k4
            exact h Z' H' v (e12.trans ((e3.trans e4).trans f1)) f2 f3
theorem re_op {op : Operator} {r : R2} {g : D → D → Option PV} {fa fb : Ev} {a b : Expr} (ho : OpR X (binaryOp op) r) (S : OpS X.K G r g) (ha : PE X a (tE X.K G W fa)) (hb : PE X b (tE X.K G W fb)) : PE X (.BinOp a op b pos) (tE X.K G W (eOp g fa fb)) :=
  (pe_op ho ha hb).imp fun _ _ _ h => te_op S h
theorem re_cmp {op : CmpOp} {r : R2} {g : D → D → Option PV} {fa fb : Ev} {a b : Expr} (ho : OpR X (compareOp op) r) (S : OpS X.K G r g) (ha : PE X a (tE X.K G W fa)) (hb : PE X b (tE X.K G W fb)) (hm : behindInMarks op b = false) : PE X (.Compare a [op] [b] pos) (tE X.K G W (eOp g fa fb)) :=
  (pe_cmpR ho ha hb hm).imp fun _ _ _ h => te_op S h
theorem re_ix {r : R2} {g : D → D → Option PV} {fa fb : Ev} {a b : Expr} (hr : IxR X r) (S : OpS X.K G r g) (ha : PE X a (tE X.K G W fa)) (hb : PE X b (tE X.K G W fb)) (hs : PlainIx b) : PE X (.Subscript a b pos) (tE X.K G W (eOp g fa fb)) :=
  (pe_ix hr ha hb hs).imp fun _ _ _ h => te_op S h

/-! ### one operand -/
def opU (g : D → Option PV) (pa : PV) (ρ : Rho) : R (PV × Rho) := match look ρ pa with
  | some da => match g da with
    | some pv => .ok (pv, ρ)
    | none => .no
  | none => .no
def eU (g : D → Option PV) (fa : Ev) : Ev := fun ρ => (fa ρ).bind fun (pa, ρ1) => opU g pa ρ1
def UnS (K : PySem.W.Frag) (G : Wd) (r : V → Hp → VK → Prop) (g : D → Option PV) : Prop := ∀ (Z H : Hp) (da : D) (x : V) (pv : PV) (Q : VK), Same Z H → Pk K G Z H da x → g da = some pv →
  (∀ Z' H' v, Stp K G Z H pv v Z' H' → Q v H') → r x H Q
theorem te_un {K : PySem.W.Frag} {r : V → Hp → VK → Prop} {g : D → Option PV} {fa : Ev} (S : UnS K G r g) {σ : L2.St} {H : Hp} {Q : VK} (h : tE K G W (eU g fa) σ H Q) : tE K G W fa σ H (fun x H1 => r x H1 Q) := by
  obtain ⟨B, Z, Φ, ρ, k, h⟩ := h
  refine ⟨B, Z, Φ, ρ, k, ?_⟩
  unfold eU at h
  cases ha : fa ρ with
  | no => rw [ha] at h; exact h.elim
  | exc x => rw [ha] at h; exact h
  | ok p =>
    obtain ⟨pa, ρ1⟩ := p
    rw [ha] at h
    intro Z1 H1 x e1 k1 r1
    obtain ⟨Z2, e2, k2, r2⟩ := k1.pend r1
    change PostE K G W B Z Φ σ Q (opU g pa ρ1) at h
    unfold opU at h
    cases la : look ρ1 pa with
    | none => rw [la] at h; exact h.elim
    | some da =>
      rw [la] at h
      cases hg : g da with
      | none => simp only [hg] at h; exact h.elim
      | some pv =>
        simp only [hg] at h
        refine S Z2 H1 da x pv Q k2.zh (k2.pk r2 la) hg fun Z' H' v st => ?_
        obtain ⟨f1, f2, f3⟩ := st.ok k2
        exact h Z' H' v ((e1.trans e2).trans f1) f2 f3
theorem re_un {op : UnaryOp} {r : V → Hp → VK → Prop} {g : D → Option PV} {fa : Ev} {a : Expr} (ho : UnR X (unaryOp op) r) (S : UnS X.K G r g) (ha : PE X a (tE X.K G W fa)) : PE X (.UnaryOp op a pos) (tE X.K G W (eU g fa)) :=
  (pe_un ho ha).imp fun _ _ _ h => te_un S h
end
end Rf
end
section
set_option Elab.async false
set_option linter.all false
set_option maxRecDepth 100000
set_option maxHeartbeats 4000000
/-! Rf, part C: the library's operators on data. -/
namespace Rf
open PySem PySem.Spec PyProof.Rows L2

def rOr (r r' : R2) : R2 := fun x y H Q => r x y H Q ∨ r' x y H Q
theorem opOr {X : Cx} {f : Value → Value → Sem Value} {r r' : R2} (h : OpR X f r) (h' : OpR X f r') : OpR X f (rOr r r') := by
  intro pins s σ H x y v u Q I rx ry q
  rcases q with q | q
  · exact h pins s σ H x y v u Q I rx ry q
  · exact h' pins s σ H x y v u Q I rx ry q
theorem ixOr {X : Cx} {r r' : R2} (h : IxR X r) (h' : IxR X r') : IxR X (rOr r r') := by
  intro ve se pins s σ H x y v u Q I rx ry q
  rcases q with q | q
  · exact h ve se pins s σ H x y v u Q I rx ry q
  · exact h' ve se pins s σ H x y v u Q I rx ry q

def szOk (n : Nat) : Bool := Nat.ble n 1000000
theorem szOk_le {n : Nat} (h : szOk n = true) : n ≤ sizeLine := by
  have := Nat.le_of_ble_eq_true h
  rw [sizeLine_eq]
  omega
theorem szOk_lt {n : Nat} (h : szOk n = true) : n < sizeLine := by
  have := Nat.le_of_ble_eq_true h
  rw [sizeLine_eq]
  omega
theorem szOk_of {n : Nat} (h : n ≤ 1000000) : szOk n = true := Nat.ble_eq_true_of_le h
def mulOk (i j : Int) : Bool := Nat.ble i.natAbs 18446744073709551615 || Nat.ble j.natAbs 18446744073709551615 || Nat.ble (i.natAbs.log2 + j.natAbs.log2) 999999
def divOk (j : Int) : Bool := decide (0 < j) && Nat.ble j.natAbs.log2 8999

section
variable {K : PySem.W.Frag} {G : Wd} {Z H : Hp} {x y : V}
theorem pk_int {i : Int} (h : Pk K G Z H (.int i) x) : x = .int i := Pk.rep h (by intro _ e; cases e)
theorem pk_bl {i : Bool} (h : Pk K G Z H (.bl i) x) : x = .bl i := Pk.rep h (by intro _ e; cases e)
theorem pk_str {i : Str} (h : Pk K G Z H (.str i) x) : x = .str i := Pk.rep h (by intro _ e; cases e)
theorem pk_non (h : Pk K G Z H .non x) : x = .non := Pk.rep h (by intro _ e; cases e)
theorem pk_tup {xs : List D} (h : Pk K G Z H (.tup xs) x) : ∃ a vs, x = .ref a ∧ SqT K Z a vs ∧ RepL K G Z xs vs := Pk.rep h (by intro _ e; cases e)

/-! ### + -/
def gAdd : D → D → Option PV
  | .int i, .int j => some (.fz (.int (i + j)))
  | .tup xs, .tup ys => if szOk (xs.length + ys.length) then some (.fz (.tup (xs ++ ys))) else none
  | .lst xs, .lst ys => if szOk (xs.length + ys.length) then some (.fr (xs ++ ys)) else none
  | _, _ => none
abbrev rAdd (K : PySem.W.Frag) : R2 := rOr (rI0 fun i j => .int (i + j)) (rOr (rCatA K) rCat)
theorem opr_add {X : Cx} : OpR X (binaryOp .Add) (rAdd X.K) := opOr op_add (opOr op_catA op_cat)
theorem ops_add : OpS K G (rAdd K) gAdd := by
  intro Z H da db x y pv Q s ha hb hg q
  unfold gAdd at hg
  split at hg
  · cases hg
    exact .inl ⟨_, _, pk_int ha, pk_int hb, q _ _ _ (.same rfl)⟩
  · rename_i xs ys
    split at hg
    · rename_i hz
      cases hg
      obtain ⟨a, vs, rfl, sa, ra⟩ := pk_tup ha
      obtain ⟨b, us, rfl, sb, rb⟩ := pk_tup hb
      have la := ra.length
      have lb := rb.length
      have rab := ra.append rb
      refine .inr (.inl ⟨a, b, vs, us, rfl, rfl, Same.seqT s sa, Same.seqT s sb, by rw [← la, ← lb]; exact szOk_le hz, fun e => q _ _ _ (.same ⟨b, us, rfl, sb, ?_⟩), fun _ e => q _ _ _ (.same ⟨a, vs, rfl, sa, ?_⟩), fun _ _ p hp => q _ _ _ (.newZ hp ?_)⟩)
      · rw [e] at rab
        exact rab
      · rw [e, List.append_nil] at rab
        exact rab
      · exact ⟨p, _, rfl, .inl (.inl upd_same), RepL.mono (same_newZ (Same.none s hp)) _ _ rab⟩
    · cases hg
  · rename_i xs ys
    split at hg
    · rename_i hz
      cases hg
      obtain ⟨a, vs, rfl, sa, ra⟩ := ha.lst s
      obtain ⟨b, us, rfl, sb, rb⟩ := hb.lst s
      exact .inr (.inr ⟨a, b, vs, us, rfl, rfl, sa, sb, by rw [← ra.length, ← rb.length]; exact szOk_le hz, fun p hp => q _ _ _ (.newF hp (ra.append rb))⟩)
    · cases hg
  · cases hg
/-! ### - // % -/
def gSub : D → D → Option PV
  | .int i, .int j => some (.fz (.int (i - j)))
  | _, _ => none
theorem ops_sub : OpS K G (rI0 fun i j => .int (i - j)) gSub := by
  intro Z H da db x y pv Q s ha hb hg q
  unfold gSub at hg
  split at hg
  · cases hg
    exact ⟨_, _, pk_int ha, pk_int hb, q _ _ _ (.same rfl)⟩
  · cases hg
def gDiv : D → D → Option PV
  | .int i, .int j => if divOk j then some (.fz (.int (i / j))) else none
  | _, _ => none
theorem ops_div : OpS K G (rI CDivW fun i j => .int (i / j)) gDiv := by
  intro Z H da db x y pv Q s ha hb hg q
  unfold gDiv at hg
  split at hg
  · split at hg
    · rename_i h
      cases hg
      unfold divOk at h
      rw [Bool.and_eq_true] at h
      exact ⟨_, _, pk_int ha, pk_int hb, ⟨of_decide_eq_true h.1, Nat.lt_succ_of_le (Nat.le_of_ble_eq_true h.2)⟩, q _ _ _ (.same rfl)⟩
    · cases hg
  · cases hg
def gMod : D → D → Option PV
  | .int i, .int j => if decide (0 < j) then some (.fz (.int (i % j))) else none
  | _, _ => none
theorem ops_mod : OpS K G (rI (fun _ j => 0 < j) fun i j => .int (i % j)) gMod := by
  intro Z H da db x y pv Q s ha hb hg q
  unfold gMod at hg
  split at hg
  · split at hg
    · rename_i h
      cases hg
      exact ⟨_, _, pk_int ha, pk_int hb, of_decide_eq_true h, q _ _ _ (.same rfl)⟩
    · cases hg
  · cases hg
/-! ### * -/
def gMul : D → D → Option PV
  | .int i, .int j => if mulOk i j then some (.fz (.int (i * j))) else none
  | .lst xs, .int k => if decide (-9223372036854775808 ≤ k) && decide (k < 9223372036854775808) && szOk (xs.length * k.toNat) then some (.fr (List.replicate k.toNat xs).flatten) else none
  | .tup xs, .int k => if xs.isEmpty || Nat.ble k.toNat 1 || Nat.ble 1001 k.toNat || Nat.ble 1001 xs.length then none else some (.fz (.tup (List.replicate k.toNat xs).flatten))
  | _, _ => none
abbrev rMul (K : PySem.W.Frag) : R2 := rOr (rI CMul fun i j => .int (i * j)) (rOr (rI CMulW fun i j => .int (i * j)) (rOr rRep (rRepT K)))
theorem opr_mul {X : Cx} : OpR X (binaryOp .Mult) (rMul X.K) := opOr op_mul (opOr op_mulW (opOr op_rep op_repT))
theorem natAbs_small {i : Int} (h : Nat.ble i.natAbs 18446744073709551615 = true) : -(2 ^ 64) < i ∧ i < 2 ^ 64 := by
  have := Nat.le_of_ble_eq_true h
  omega
theorem ops_mul : OpS K G (rMul K) gMul := by
  intro Z H da db x y pv Q s ha hb hg q
  unfold gMul at hg
  split at hg
  · split at hg
    · rename_i h
      cases hg
      unfold mulOk at h
      rw [Bool.or_eq_true, Bool.or_eq_true] at h
      rcases h with (h | h) | h
      · exact .inl ⟨_, _, pk_int ha, pk_int hb, .inl (natAbs_small h), q _ _ _ (.same rfl)⟩
      · exact .inl ⟨_, _, pk_int ha, pk_int hb, .inr (natAbs_small h), q _ _ _ (.same rfl)⟩
      · exact .inr (.inl ⟨_, _, pk_int ha, pk_int hb, Nat.lt_succ_of_le (Nat.le_of_ble_eq_true h), q _ _ _ (.same rfl)⟩)
    · cases hg
  · split at hg
    · rename_i h
      cases hg
      simp only [Bool.and_eq_true, decide_eq_true_eq] at h
      obtain ⟨⟨h1, h2⟩, h3⟩ := h
      obtain ⟨a, vs, rfl, sa, ra⟩ := ha.lst s
      refine .inr (.inr (.inl ⟨a, _, vs, rfl, pk_int hb, sa, by omega, by omega, by rw [← ra.length]; exact szOk_le h3, fun p hp => q _ _ _ (.newF hp (ra.rep _))⟩))
    · cases hg
  · split at hg
    · cases hg
    · rename_i xs k h
      cases hg
      simp only [Bool.not_eq_true, Bool.or_eq_false_iff] at h
      obtain ⟨⟨⟨h1, h2⟩, h3⟩, h4⟩ := h
      have h2' : ¬ k.toNat ≤ 1 := fun z => by rw [Nat.ble_eq_true_of_le z] at h2; cases h2
      have h3' : ¬ 1001 ≤ k.toNat := fun z => by rw [Nat.ble_eq_true_of_le z] at h3; cases h3
      have h4' : ¬ 1001 ≤ xs.length := fun z => by rw [Nat.ble_eq_true_of_le z] at h4; cases h4
      obtain ⟨a, vs, rfl, sa, ra⟩ := pk_tup ha
      have la := ra.length
      refine .inr (.inr (.inr ⟨a, k, vs, rfl, pk_int hb, Same.seqT s sa, ?_, by omega, by omega, by omega, fun p hp => q _ _ _ (.newZ hp ⟨p, _, rfl, .inl (.inl upd_same), RepL.mono (same_newZ (Same.none s hp)) _ _ (ra.rep _)⟩)⟩))
      intro e
      rw [e] at la
      cases xs with
      | nil => cases h1
      | cons _ _ => cases la
  · cases hg
/-! ### order -/
def gLt : D → D → Option PV
  | .int i, .int j => some (.fz (.bl (decide (i < j))))
  | _, _ => none
def gLe : D → D → Option PV
  | .int i, .int j => some (.fz (.bl (decide (i ≤ j))))
  | _, _ => none
def gGt : D → D → Option PV
  | .int i, .int j => some (.fz (.bl (decide (j < i))))
  | _, _ => none
def gGe : D → D → Option PV
  | .int i, .int j => some (.fz (.bl (decide (j ≤ i))))
  | _, _ => none
theorem ops_lt : OpS K G (rI0 fun i j => .bl (decide (i < j))) gLt := by
  intro Z H da db x y pv Q s ha hb hg q
  unfold gLt at hg
  split at hg
  · cases hg
    exact ⟨_, _, pk_int ha, pk_int hb, q _ _ _ (.same rfl)⟩
  · cases hg
theorem ops_le : OpS K G (rI0 fun i j => .bl (decide (i ≤ j))) gLe := by
  intro Z H da db x y pv Q s ha hb hg q
  unfold gLe at hg
  split at hg
  · cases hg
    exact ⟨_, _, pk_int ha, pk_int hb, q _ _ _ (.same rfl)⟩
  · cases hg
theorem ops_gt : OpS K G (rI0 fun i j => .bl (decide (j < i))) gGt := by
  intro Z H da db x y pv Q s ha hb hg q
  unfold gGt at hg
  split at hg
  · cases hg
    exact ⟨_, _, pk_int ha, pk_int hb, q _ _ _ (.same rfl)⟩
  · cases hg
theorem ops_ge : OpS K G (rI0 fun i j => .bl (decide (j ≤ i))) gGe := by
  intro Z H da db x y pv Q s ha hb hg q
  unfold gGe at hg
  split at hg
  · cases hg
    exact ⟨_, _, pk_int ha, pk_int hb, q _ _ _ (.same rfl)⟩
  · cases hg
/-! ### == and != of data -/
mutual
def toP : D → Option PyData
  | .non => some .none
  | .bl b => some (.bool b)
  | .int i => some (.int i)
  | .str x => some (.str x)
  | .tup xs => (toPs xs).map .tuple
  | .lst xs => (toPs xs).map .list
  | _ => none
def toPs : List D → Option (List PyData)
  | [] => some []
  | d :: ds => match toP d, toPs ds with
    | some p, some ps => some (p :: ps)
    | _, _ => none
end
mutual
theorem Rep.dp (s : Same Z H) : ∀ (d : D) (v : V) (p : PyData), Rep K G Z d v → toP d = some p → Dp K H v p
  | .non, _, _, h, e => by cases e; cases (show _ = V.non from h); exact .non
  | .bl b, _, _, h, e => by cases e; cases (show _ = V.bl b from h); exact .bl b
  | .int i, _, _, h, e => by cases e; cases (show _ = V.int i from h); exact .int i
  | .str x, _, _, h, e => by cases e; cases (show _ = V.str x from h); exact .str x
  | .tup xs, _, _, h, e => by
    obtain ⟨a, vs, rfl, q, r⟩ := h
    rw [toP, Option.map_eq_some_iff] at e
    obtain ⟨ps, e1, rfl⟩ := e
    exact .tup (Same.seqT s q) (RepL.dp s xs vs ps r e1)
  | .lst xs, _, _, h, e => by
    obtain ⟨a, vs, rfl, q, r⟩ := h
    rw [toP, Option.map_eq_some_iff] at e
    obtain ⟨ps, e1, rfl⟩ := e
    exact .lst (.inl (.inl (s _ _ q))) (RepL.dp s xs vs ps r e1)
  | .lck xs, _, _, _, e => by cases e
  | .fn n, _, _, _, e => by cases e
  | .obj c xs, _, _, _, e => by cases e
theorem RepL.dp (s : Same Z H) : ∀ (ds : List D) (vs : List V) (ps : List PyData), RepL K G Z ds vs → toPs ds = some ps → DpAll K H vs ps
  | [], _, _, h, e => by
    cases e
    cases (show _ = [] from h)
    exact .nil
  | d :: ds, _, _, h, e => by
    obtain ⟨v, r, rfl, q, t⟩ := h
    rw [toPs] at e
    split at e
    · rename_i p ps e1 e2
      cases e
      exact .cons (Rep.dp s d v p q e1) (RepL.dp s ds r ps t e2)
    · cases e
end
theorem Pk.dp (s : Same Z H) {d : D} {p : PyData} (h : Pk K G Z H d x) (e : toP d = some p) : Dp K H x p := by
  rcases h with h | ⟨xs, a, vs, rfl, rfl, q, r⟩
  · exact Rep.dp s _ _ _ h e
  · rw [toP, Option.map_eq_some_iff] at e
    obtain ⟨ps, e1, rfl⟩ := e
    exact .lst (.inl (.inl q)) (RepL.dp s xs vs ps r e1)
def eqP (d e : D) : Option Bool := match toP d, toP e with
  | some p, some q => if SeqAt.shaped p && SeqAt.shaped q then some (PyData.eqv p q) else none
  | _, _ => none
def eqD (d e : D) : Option Bool := match d, e with
  | .int i, .int j => some (decide (i = j))
  | .str x, .str y => some (decide (x = y))
  | .bl x, .bl y => some (decide (x = y))
  | d, e => eqP d e
def gEq (d e : D) : Option PV := (eqD d e).map fun b => .fz (.bl b)
def gNe (d e : D) : Option PV := (eqD d e).map fun b => .fz (.bl (!b))
theorem eqD_sound (s : Same Z H) {d e : D} {b : Bool} (hd : Pk K G Z H d x) (he : Pk K G Z H e y) (h : eqD d e = some b) :
    (scal x y = true ∧ decide (x = y) = b) ∨ ∃ p q, Dp K H x p ∧ Dp K H y q ∧ SeqAt.shaped p = true ∧ SeqAt.shaped q = true ∧ PyData.eqv p q = b := by
  unfold eqD at h
  split at h
  · cases h
    cases pk_int hd
    cases pk_int he
    exact .inl ⟨rfl, by simp⟩
  · cases h
    cases pk_str hd
    cases pk_str he
    exact .inl ⟨rfl, by simp⟩
  · cases h
    cases pk_bl hd
    cases pk_bl he
    exact .inl ⟨rfl, by simp⟩
  · unfold eqP at h
    split at h
    · rename_i p q e1 e2
      split at h
      · rename_i sh
        rw [Bool.and_eq_true] at sh
        cases h
        exact .inr ⟨p, q, Pk.dp s hd e1, Pk.dp s he e2, sh.1, sh.2, rfl⟩
      · cases h
    · cases h
abbrev rEqA (K : PySem.W.Frag) : R2 := rOr rEq (rEqD K)
abbrev rNeA (K : PySem.W.Frag) : R2 := rOr rNe (rNeD K)
theorem opr_eq {X : Cx} (hu : X.A.units + 64 < cLine) : OpR X (compareOp .Eq) (rEqA X.K) := opOr op_eq (op_eqD hu)
theorem opr_ne {X : Cx} (hu : X.A.units + 64 < cLine) : OpR X (compareOp .NotEq) (rNeA X.K) := opOr op_ne (op_neD hu)
theorem ops_eq : OpS K G (rEqA K) gEq := by
  intro Z H da db x y pv Q s ha hb hg q
  unfold gEq at hg
  rw [Option.map_eq_some_iff] at hg
  obtain ⟨b, hb', rfl⟩ := hg
  rcases eqD_sound s ha hb hb' with ⟨s1, rfl⟩ | ⟨p, p', d1, d2, s1, s2, rfl⟩
  · exact .inl ⟨s1, q _ _ _ (.same rfl)⟩
  · exact .inr ⟨p, p', d1, d2, s1, s2, q _ _ _ (.same rfl)⟩
theorem ops_ne : OpS K G (rNeA K) gNe := by
  intro Z H da db x y pv Q s ha hb hg q
  unfold gNe at hg
  rw [Option.map_eq_some_iff] at hg
  obtain ⟨b, hb', rfl⟩ := hg
  rcases eqD_sound s ha hb hb' with ⟨s1, rfl⟩ | ⟨p, p', d1, d2, s1, s2, rfl⟩
  · exact .inl ⟨s1, q _ _ _ (.same rfl)⟩
  · exact .inr ⟨p, p', d1, d2, s1, s2, q _ _ _ (.same rfl)⟩
def gIsN : D → D → Option PV
  | .non, .non => some (.fz (.bl true))
  | _, .non => some (.fz (.bl false))
  | _, _ => none
theorem pk_notnon {d : D} (h : Pk K G Z H d x) (n : d ≠ .non) : x ≠ .non := by
  intro e
  subst e
  rcases h with h | ⟨xs, a, vs, rfl, e, _⟩
  · cases d with
    | non => exact n rfl
    | bl b => cases (show V.non = V.bl b from h)
    | int b => cases (show V.non = V.int b from h)
    | str b => cases (show V.non = V.str b from h)
    | tup b => obtain ⟨_, _, e, _⟩ := h; cases e
    | lst b => obtain ⟨_, _, e, _⟩ := h; cases e
    | lck b => obtain ⟨_, _, e, _⟩ := h; cases e
    | fn b => cases (show V.non = V.ref _ from h)
    | obj c b => obtain ⟨_, _, _, e, _⟩ := h; cases e
  · cases e
theorem ops_isN : OpS K G (fun x y H Q => y = .non ∧ Q (.bl (decide (x = .non))) H) gIsN := by
  intro Z H da db x y pv Q s ha hb hg q
  unfold gIsN at hg
  split at hg
  · cases hg
    cases pk_non ha
    exact ⟨pk_non hb, q _ _ _ (.same rfl)⟩
  · rename_i h
    cases hg
    refine ⟨pk_non hb, ?_⟩
    rw [decide_eq_false (pk_notnon ha h)]
    exact q _ _ _ (.same rfl)
  · cases hg
/-! ### items, by int -/
def gIx : D → D → Option PV
  | .tup xs, .int i => ((ixN xs.length i).bind fun j => xs[j]?).map .fz
  | .lst xs, .int i => ((ixN xs.length i).bind fun j => xs[j]?).map .fz
  | _, _ => none
abbrev rIxA (K : PySem.W.Frag) : R2 := rOr (rIxT K) (rIxL K)
theorem ixr_any {X : Cx} : IxR X (rIxA X.K) := ixOr ix_tup ix_list
theorem atI_get {xs : List D} {vs : List V} {i : Int} {d : D} (r : RepL K G Z xs vs) (h : ((ixN xs.length i).bind fun j => xs[j]?) = some d) : ∃ v, atI vs i = some v ∧ Rep K G Z d v := by
  rw [Option.bind_eq_some_iff] at h
  obtain ⟨j, h1, h2⟩ := h
  obtain ⟨v, h3, h4⟩ := r.get h2
  refine ⟨v, ?_, h4⟩
  unfold atI
  rw [← r.length, h1]
  exact h3
theorem ops_ix : OpS K G (rIxA K) gIx := by
  intro Z H da db x y pv Q s ha hb hg q
  unfold gIx at hg
  split at hg
  · rw [Option.map_eq_some_iff] at hg
    obtain ⟨d, hd, rfl⟩ := hg
    obtain ⟨a, vs, rfl, sa, ra⟩ := pk_tup ha
    obtain ⟨v, h1, h2⟩ := atI_get ra hd
    exact .inl ⟨a, vs, _, v, rfl, pk_int hb, Same.seqT s sa, h1, q _ _ _ (.same h2)⟩
  · rw [Option.map_eq_some_iff] at hg
    obtain ⟨d, hd, rfl⟩ := hg
    obtain ⟨a, vs, rfl, sa, ra⟩ := ha.lst s
    obtain ⟨v, h1, h2⟩ := atI_get ra hd
    exact .inr ⟨a, vs, _, v, rfl, pk_int hb, .inl (.inl sa), h1, q _ _ _ (.same h2)⟩
  · cases hg
/-! ### one operand -/
def gNeg : D → Option PV
  | .int i => some (.fz (.int (-i)))
  | _ => none
theorem uns_neg : UnS K G (rU fun i => .int (-i)) gNeg := by
  intro Z H da x pv Q s ha hg q
  unfold gNeg at hg
  split at hg
  · cases hg
    exact ⟨_, pk_int ha, q _ _ _ (.same rfl)⟩
  · cases hg
def gLen : D → Option PV
  | .tup xs => some (.fz (.int xs.length))
  | .lst xs => some (.fz (.int xs.length))
  | .lck xs => some (.fz (.int xs.length))
  | _ => none
theorem uns_len : UnS K G (fun x H Q => ∃ p ys, [x] = [V.ref p] ∧ (SqL K H p ys ∨ SqT K H p ys) ∧ Q (.int ys.length) H) gLen := by
  intro Z H da x pv Q s ha hg q
  unfold gLen at hg
  split at hg
  · cases hg
    obtain ⟨a, vs, rfl, sa, ra⟩ := pk_tup ha
    exact ⟨a, vs, rfl, .inr (Same.seqT s sa), by rw [← ra.length]; exact q _ _ _ (.same rfl)⟩
  · cases hg
    obtain ⟨a, vs, rfl, sa, ra⟩ := ha.lst s
    exact ⟨a, vs, rfl, .inl (.inl (.inl sa)), by rw [← ra.length]; exact q _ _ _ (.same rfl)⟩
  · cases hg
    obtain ⟨a, vs, rfl, sa, ra⟩ := Pk.rep ha (by intro _ e; cases e)
    exact ⟨a, vs, rfl, .inl (s.seq sa), by rw [← ra.length]; exact q _ _ _ (.same rfl)⟩
  · cases hg
def intsD : List D → Option (List Int)
  | [] => some []
  | .int i :: r => (intsD r).map (i :: ·)
  | _ => none
def blsD : List D → Option (List Bool)
  | [] => some []
  | .bl i :: r => (blsD r).map (i :: ·)
  | _ => none
theorem intsD_eq : ∀ {xs : List D} {ns : List Int}, intsD xs = some ns → xs = ns.map D.int
  | [], _, h => by cases h; rfl
  | .int i :: r, _, h => by
    rw [intsD, Option.map_eq_some_iff] at h
    obtain ⟨ns, h1, rfl⟩ := h
    rw [intsD_eq h1]
    rfl
  | .non :: r, _, h => by cases h
  | .bl _ :: r, _, h => by cases h
  | .str _ :: r, _, h => by cases h
  | .tup _ :: r, _, h => by cases h
  | .lst _ :: r, _, h => by cases h
  | .lck _ :: r, _, h => by cases h
  | .fn _ :: r, _, h => by cases h
  | .obj _ _ :: r, _, h => by cases h
theorem blsD_eq : ∀ {xs : List D} {ns : List Bool}, blsD xs = some ns → xs = ns.map D.bl
  | [], _, h => by cases h; rfl
  | .bl i :: r, _, h => by
    rw [blsD, Option.map_eq_some_iff] at h
    obtain ⟨ns, h1, rfl⟩ := h
    rw [blsD_eq h1]
    rfl
  | .non :: r, _, h => by cases h
  | .int _ :: r, _, h => by cases h
  | .str _ :: r, _, h => by cases h
  | .tup _ :: r, _, h => by cases h
  | .lst _ :: r, _, h => by cases h
  | .lck _ :: r, _, h => by cases h
  | .fn _ :: r, _, h => by cases h
  | .obj _ _ :: r, _, h => by cases h
theorem intsD_map : ∀ ns : List Int, intsD (ns.map D.int) = some ns
  | [] => rfl
  | n :: ns => by
    rw [List.map_cons, intsD, intsD_map ns]
    rfl
theorem blsD_map : ∀ ns : List Bool, blsD (ns.map D.bl) = some ns
  | [] => rfl
  | n :: ns => by
    rw [List.map_cons, blsD, blsD_map ns]
    rfl
def gSum : D → Option PV
  | .lst xs => (intsD xs).map fun ns => .fz (.int ns.sum)
  | _ => none
theorem uns_sum : UnS K G (fun x H Q => rSum K [x] H Q) gSum := by
  intro Z H da x pv Q s ha hg q
  unfold gSum at hg
  split at hg
  · rw [Option.map_eq_some_iff] at hg
    obtain ⟨ns, h1, rfl⟩ := hg
    cases intsD_eq h1
    obtain ⟨a, vs, rfl, sa, ra⟩ := ha.lst s
    cases ra.ints
    exact ⟨a, ns, rfl, .inl (.inl sa), q _ _ _ (.same rfl)⟩
  · cases hg
def gAll : D → Option PV
  | .lst xs => (blsD xs).map fun ns => .fz (.bl (ns.all id))
  | _ => none
def gAny : D → Option PV
  | .lst xs => (blsD xs).map fun ns => .fz (.bl (ns.any id))
  | _ => none
theorem uns_all : UnS K G (fun x H Q => rAll K [x] H Q) gAll := by
  intro Z H da x pv Q s ha hg q
  unfold gAll at hg
  split at hg
  · rw [Option.map_eq_some_iff] at hg
    obtain ⟨ns, h1, rfl⟩ := hg
    cases blsD_eq h1
    obtain ⟨a, vs, rfl, sa, ra⟩ := ha.lst s
    cases ra.bls
    exact ⟨a, ns, rfl, .inl (.inl sa), q _ _ _ (.same rfl)⟩
  · cases hg
theorem uns_any : UnS K G (fun x H Q => rAny K [x] H Q) gAny := by
  intro Z H da x pv Q s ha hg q
  unfold gAny at hg
  split at hg
  · rw [Option.map_eq_some_iff] at hg
    obtain ⟨ns, h1, rfl⟩ := hg
    cases blsD_eq h1
    obtain ⟨a, vs, rfl, sa, ra⟩ := ha.lst s
    cases ra.bls
    exact ⟨a, ns, rfl, .inl (.inl sa), q _ _ _ (.same rfl)⟩
  · cases hg
def gAbs : D → Option PV
  | .int i => some (.fz (.int (if i < 0 then -i else i)))
  | _ => none
theorem uns_abs : UnS K G (fun x H Q => ∃ i, [x] = [V.int i] ∧ Q (.int (if i < 0 then -i else i)) H) gAbs := by
  intro Z H da x pv Q s ha hg q
  unfold gAbs at hg
  split at hg
  · cases hg
    exact ⟨_, by rw [pk_int ha], q _ _ _ (.same rfl)⟩
  · cases hg
def gInt : D → Option PV
  | .int i => some (.fz (.int i))
  | .bl b => some (.fz (.int (if b then 1 else 0)))
  | _ => none
theorem uns_int : UnS K G (fun x H Q => (∃ i, [x] = [V.int i] ∧ Q (.int i) H) ∨ ∃ k, [x] = [V.bl k] ∧ Q (.int (if k then 1 else 0)) H) gInt := by
  intro Z H da x pv Q s ha hg q
  unfold gInt at hg
  split at hg
  · cases hg
    exact .inl ⟨_, by rw [pk_int ha], q _ _ _ (.same rfl)⟩
  · cases hg
    exact .inr ⟨_, by rw [pk_bl ha], q _ _ _ (.same rfl)⟩
  · cases hg
def gTup : D → Option PV
  | .tup xs => some (.fz (.tup xs))
  | .lst xs => some (.fz (.tup xs))
  | _ => none
theorem uns_tup : UnS K G (fun x H Q => ∃ p ys, [x] = [V.ref p] ∧ ((SqL K H p ys ∧ ∀ l, H l = none → Q (.ref l) (upd H l (.tup ys))) ∨ (SqT K H p ys ∧ Q (.ref p) H))) gTup := by
  intro Z H da x pv Q s ha hg q
  unfold gTup at hg
  split at hg
  · cases hg
    obtain ⟨a, vs, rfl, sa, ra⟩ := pk_tup ha
    exact ⟨a, vs, rfl, .inr ⟨Same.seqT s sa, q _ _ _ (.same ⟨a, vs, rfl, sa, ra⟩)⟩⟩
  · cases hg
    obtain ⟨a, vs, rfl, sa, ra⟩ := ha.lst s
    exact ⟨a, vs, rfl, .inl ⟨.inl (.inl sa), fun l hl => q _ _ _ (.newZ hl ⟨l, vs, rfl, .inl (.inl upd_same), RepL.mono (same_newZ (Same.none s hl)) _ _ ra⟩)⟩⟩
  · cases hg
def gLst : D → Option PV
  | .tup xs => some (.fr xs)
  | .lst xs => some (.fr xs)
  | .lck xs => some (.fr xs)
  | _ => none
theorem uns_lst : UnS K G (fun x H Q => ∃ p ys, [x] = [V.ref p] ∧ (SqL K H p ys ∨ SqT K H p ys) ∧ ∀ l, H l = none → Q (.ref l) (upd H l (.lst ys))) gLst := by
  intro Z H da x pv Q s ha hg q
  unfold gLst at hg
  split at hg
  · cases hg
    obtain ⟨a, vs, rfl, sa, ra⟩ := pk_tup ha
    exact ⟨a, vs, rfl, .inr (Same.seqT s sa), fun l hl => q _ _ _ (.newF hl ra)⟩
  · cases hg
    obtain ⟨a, vs, rfl, sa, ra⟩ := ha.lst s
    exact ⟨a, vs, rfl, .inl (.inl (.inl sa)), fun l hl => q _ _ _ (.newF hl ra)⟩
  · cases hg
    obtain ⟨a, vs, rfl, sa, ra⟩ := Pk.rep ha (by intro _ e; cases e)
    exact ⟨a, vs, rfl, .inl (s.seq sa), fun l hl => q _ _ _ (.newF hl ra)⟩
  · cases hg
/-! ### isinstance(x, T), T built in -/
inductive Tyn where
  | int | bool | tuple | list | str
def Tyn.n : Tyn → String
  | .int => "int" | .bool => "bool" | .tuple => "tuple" | .list => "list" | .str => "str"
def tyD : D → Option String
  | .non => some "NoneType"
  | .bl _ => some "bool"
  | .int _ => some "int"
  | .str _ => some "str"
  | .tup _ => some "tuple"
  | .lst _ => some "list"
  | .lck _ => some "list"
  | _ => none
def isiD (T : Tyn) : D → Option Bool
  | .non => some false
  | .bl _ => some (match T with | .int => true | .bool => true | _ => false)
  | .int _ => some (match T with | .int => true | _ => false)
  | .str _ => some (match T with | .str => true | _ => false)
  | .tup _ => some (match T with | .tuple => true | _ => false)
  | .lst _ => some (match T with | .list => true | _ => false)
  | .lck _ => some (match T with | .list => true | _ => false)
  | _ => none
theorem isiD_kit : ∀ (T : Tyn) (d : D) (b : Bool) (n : String), isiD T d = some b → tyD d = some n → PySem.W.kitOne K (.type n) (.type T.n) = some b := by
  intro T d b n h e
  refine kit_ty ?_
  cases d <;> cases e <;> cases T <;> cases h <;> decide +kernel
def gIsi (T : Tyn) (d : D) : Option PV := (isiD T d).map fun b => .fz (.bl b)
theorem tyX_of (s : Same Z H) {d : D} {n : String} (h : Pk K G Z H d x) (e : tyD d = some n) : TyX K H x (.type n) := by
  cases d with
  | non => cases e; cases pk_non h; exact .base .non
  | bl b => cases e; cases pk_bl h; exact .base (.bl b)
  | int b => cases e; cases pk_int h; exact .base (.int b)
  | str b => cases e; cases pk_str h; exact .base (.str b)
  | tup b =>
    cases e
    obtain ⟨a, vs, rfl, sa, ra⟩ := pk_tup h
    rcases Same.seqT s sa with (q | ⟨o, q⟩) | ⟨o, its, n, q1, q2, _⟩
    · exact .base (.tup q)
    · exact .fTuple q
    · exact .kTuple q1 q2
  | lst b =>
    cases e
    obtain ⟨a, vs, rfl, sa, ra⟩ := h.lst s
    exact .base (.lst sa)
  | lck b =>
    cases e
    obtain ⟨a, vs, rfl, sa, ra⟩ := Pk.rep h (by intro _ e; cases e)
    rcases s.seq sa with (q | ⟨o, q⟩) | ⟨o, its, n, q1, q2, _⟩
    · exact .base (.lst q)
    · exact .base (.frz q)
    · exact .kList q1 q2
  | fn b => cases e
  | obj c b => cases e
theorem uns_isi (T : Tyn) : UnS K G (fun x H Q => rIsi K [x, .ty T.n] H Q) (gIsi T) := by
  intro Z H da x pv Q s ha hg q
  unfold gIsi at hg
  rw [Option.map_eq_some_iff] at hg
  obtain ⟨b, h1, rfl⟩ := hg
  have : ∃ n, tyD da = some n := by cases da <;> first | exact ⟨_, rfl⟩ | cases h1
  obtain ⟨n, hn⟩ := this
  exact ⟨x, .ty T.n, .type n, .type T.n, b, rfl, .ty _, tyX_of s ha hn, isiD_kit T da b n h1 hn, q _ _ _ (.same rfl)⟩
def gMax : D → D → Option PV
  | .int i, .int j => some (.fz (.int (if j > i then j else i)))
  | _, _ => none
def gMin : D → D → Option PV
  | .int i, .int j => some (.fz (.int (if j < i then j else i)))
  | _, _ => none
theorem ops_max : OpS K G (fun x y H Q => ∃ i j, [x, y] = [V.int i, V.int j] ∧ Q (.int (if j > i then j else i)) H) gMax := by
  intro Z H da db x y pv Q s ha hb hg q
  unfold gMax at hg
  split at hg
  · cases hg
    exact ⟨_, _, by rw [pk_int ha, pk_int hb], q _ _ _ (.same rfl)⟩
  · cases hg
theorem ops_min : OpS K G (fun x y H Q => ∃ i j, [x, y] = [V.int i, V.int j] ∧ Q (.int (if j < i then j else i)) H) gMin := by
  intro Z H da db x y pv Q s ha hb hg q
  unfold gMin at hg
  split at hg
  · cases hg
    exact ⟨_, _, by rw [pk_int ha, pk_int hb], q _ _ _ (.same rfl)⟩
  · cases hg
end
end Rf
end
section
set_option Elab.async false
set_option linter.all false
set_option maxRecDepth 100000
set_option maxHeartbeats 4000000
/-! Rf, part D: tests, and, or, not, if .. else, chains, arguments, displays, calls of built-ins, slices. -/
namespace Rf
open PySem PySem.Spec PyProof.Rows L2
section
variable {K : PySem.W.Frag} {G : Wd} {W : WX} {σ : L2.St} {H : Hp}
/-- a part, then what is done with its answer -/
theorem te_bind {fa : Ev} {k : PV × Rho → R (PV × Rho)} {Q : VK} {P : V → Hp → Prop} (h : tE K G W (fun ρ => (fa ρ).bind k) σ H Q)
    (n : ∀ B Z Φ ρ1 H1 x pa, Ok K G B Z Φ σ ρ1 H1 → RepP K G Z Φ σ ρ1 H1 pa x → PostE K G W B Z Φ σ Q (k (pa, ρ1)) → P x H1) : tE K G W fa σ H P := by
  obtain ⟨B, Z, Φ, ρ, ok, h⟩ := h
  refine ⟨B, Z, Φ, ρ, ok, ?_⟩
  dsimp only at h
  cases ha : fa ρ with
  | no => rw [ha] at h; exact h.elim
  | exc x => rw [ha] at h; exact h
  | ok p =>
    obtain ⟨pa, ρ1⟩ := p
    rw [ha] at h
    intro Z1 H1 x e1 k1 r1
    refine n B Z1 Φ ρ1 H1 x pa k1 r1 ?_
    change PostE K G W B Z Φ σ Q (k (pa, ρ1)) at h
    cases hk : k (pa, ρ1) with
    | no => rw [hk] at h; exact h.elim
    | exc x => rw [hk] at h; exact PostX.ext h e1
    | ok p =>
      rw [hk] at h
      exact fun Z2 H2 v e2 k2 r2 => h Z2 H2 v (e1.trans e2) k2 r2
theorem tt_bindE {fa : Ev} {k : PV × Rho → R (Bool × Rho)} {Q : Bool → Hp → Prop} {P : V → Hp → Prop} (h : tT K G W (fun ρ => (fa ρ).bind k) σ H Q)
    (n : ∀ B Z Φ ρ1 H1 x pa, Ok K G B Z Φ σ ρ1 H1 → RepP K G Z Φ σ ρ1 H1 pa x → PostT K G W B Z Φ σ Q (k (pa, ρ1)) → P x H1) : tE K G W fa σ H P := by
  obtain ⟨B, Z, Φ, ρ, ok, h⟩ := h
  refine ⟨B, Z, Φ, ρ, ok, ?_⟩
  dsimp only at h
  cases ha : fa ρ with
  | no => rw [ha] at h; exact h.elim
  | exc x => rw [ha] at h; exact h
  | ok p =>
    obtain ⟨pa, ρ1⟩ := p
    rw [ha] at h
    intro Z1 H1 x e1 k1 r1
    refine n B Z1 Φ ρ1 H1 x pa k1 r1 ?_
    change PostT K G W B Z Φ σ Q (k (pa, ρ1)) at h
    cases hk : k (pa, ρ1) with
    | no => rw [hk] at h; exact h.elim
    | exc x => rw [hk] at h; exact PostX.ext h e1
    | ok p =>
      rw [hk] at h
      exact fun Z2 H2 e2 k2 => h Z2 H2 (e1.trans e2) k2
theorem tt_bindT {fa : Et} {k : Bool × Rho → R (Bool × Rho)} {Q : Bool → Hp → Prop} {P : Bool → Hp → Prop} (h : tT K G W (fun ρ => (fa ρ).bind k) σ H Q)
    (n : ∀ B Z Φ ρ1 H1 b, Ok K G B Z Φ σ ρ1 H1 → PostT K G W B Z Φ σ Q (k (b, ρ1)) → P b H1) : tT K G W fa σ H P := by
  obtain ⟨B, Z, Φ, ρ, ok, h⟩ := h
  refine ⟨B, Z, Φ, ρ, ok, ?_⟩
  dsimp only at h
  cases ha : fa ρ with
  | no => rw [ha] at h; exact h.elim
  | exc x => rw [ha] at h; exact h
  | ok p =>
    obtain ⟨pa, ρ1⟩ := p
    rw [ha] at h
    intro Z1 H1 e1 k1
    refine n B Z1 Φ ρ1 H1 pa k1 ?_
    change PostT K G W B Z Φ σ Q (k (pa, ρ1)) at h
    cases hk : k (pa, ρ1) with
    | no => rw [hk] at h; exact h.elim
    | exc x => rw [hk] at h; exact PostX.ext h e1
    | ok p =>
      rw [hk] at h
      exact fun Z2 H2 e2 k2 => h Z2 H2 (e1.trans e2) k2
theorem te_bindT {fa : Et} {k : Bool × Rho → R (PV × Rho)} {Q : VK} {P : Bool → Hp → Prop} (h : tE K G W (fun ρ => (fa ρ).bind k) σ H Q)
    (n : ∀ B Z Φ ρ1 H1 b, Ok K G B Z Φ σ ρ1 H1 → PostE K G W B Z Φ σ Q (k (b, ρ1)) → P b H1) : tT K G W fa σ H P := by
  obtain ⟨B, Z, Φ, ρ, ok, h⟩ := h
  refine ⟨B, Z, Φ, ρ, ok, ?_⟩
  dsimp only at h
  cases ha : fa ρ with
  | no => rw [ha] at h; exact h.elim
  | exc x => rw [ha] at h; exact h
  | ok p =>
    obtain ⟨pa, ρ1⟩ := p
    rw [ha] at h
    intro Z1 H1 e1 k1
    refine n B Z1 Φ ρ1 H1 pa k1 ?_
    change PostE K G W B Z Φ σ Q (k (pa, ρ1)) at h
    cases hk : k (pa, ρ1) with
    | no => rw [hk] at h; exact h.elim
    | exc x => rw [hk] at h; exact PostX.ext h e1
    | ok p =>
      rw [hk] at h
      exact fun Z2 H2 v e2 k2 r2 => h Z2 H2 v (e1.trans e2) k2 r2
theorem te_bindA {fa : Ea} {k : List D × Rho → R (PV × Rho)} {Q : VK} {P : List V → Hp → Prop} (h : tE K G W (fun ρ => (fa ρ).bind k) σ H Q)
    (n : ∀ B Z Φ ρ1 H1 vs ds, Ok K G B Z Φ σ ρ1 H1 → RepL K G Z ds vs → PostE K G W B Z Φ σ Q (k (ds, ρ1)) → P vs H1) : tA K G W fa σ H P := by
  obtain ⟨B, Z, Φ, ρ, ok, h⟩ := h
  refine ⟨B, Z, Φ, ρ, ok, ?_⟩
  dsimp only at h
  cases ha : fa ρ with
  | no => rw [ha] at h; exact h.elim
  | exc x => rw [ha] at h; exact h
  | ok p =>
    obtain ⟨pa, ρ1⟩ := p
    rw [ha] at h
    intro Z1 H1 vs e1 k1 r1
    refine n B Z1 Φ ρ1 H1 vs pa k1 r1 ?_
    change PostE K G W B Z Φ σ Q (k (pa, ρ1)) at h
    cases hk : k (pa, ρ1) with
    | no => rw [hk] at h; exact h.elim
    | exc x => rw [hk] at h; exact PostX.ext h e1
    | ok p =>
      rw [hk] at h
      exact fun Z2 H2 v e2 k2 r2 => h Z2 H2 v (e1.trans e2) k2 r2

/-! ### tests -/
def bOf : PV × Rho → R (Bool × Rho)
  | (.fz (.bl b), ρ) => .ok (b, ρ)
  | _ => .no
def tOf (f : Ev) : Et := fun ρ => (f ρ).bind bOf
theorem tt_of {f : Ev} {Q : Bool → Hp → Prop} (h : tT K G W (tOf f) σ H Q) : tE K G W f σ H (fun x H1 => ∃ c, x = .bl c ∧ Q c H1) := by
  refine tt_bindE h fun B Z Φ ρ1 H1 x pa k r q => ?_
  unfold bOf at q
  split at q
  · rename_i b ρ' e
    cases e
    exact ⟨b, r, q Z H1 Ext.refl k⟩
  · exact q.elim
def tAndF (ta tb : Et) : Et := fun ρ => (ta ρ).bind fun (b, ρ1) => match b with
  | true => tb ρ1
  | false => .ok (false, ρ1)
def tOrF (ta tb : Et) : Et := fun ρ => (ta ρ).bind fun (b, ρ1) => match b with
  | true => .ok (true, ρ1)
  | false => tb ρ1
def tNotF (ta : Et) : Et := fun ρ => (ta ρ).bind fun (b, ρ1) => .ok (!b, ρ1)
/-- as values -/
def eAndV (fa fb : Ev) : Ev := fun ρ => (fa ρ).bind fun (pa, ρ1) => match pa with
  | .fz (.bl true) => fb ρ1
  | .fz (.bl false) => .ok (.fz (.bl false), ρ1)
  | _ => .no
def eOrV (fa fb : Ev) : Ev := fun ρ => (fa ρ).bind fun (pa, ρ1) => match pa with
  | .fz (.bl true) => .ok (.fz (.bl true), ρ1)
  | .fz (.bl false) => fb ρ1
  | _ => .no
def gNot : D → Option PV
  | .bl b => some (.fz (.bl (!b)))
  | _ => none
def eIfF (tc : Et) (fa fb : Ev) : Ev := fun ρ => (tc ρ).bind fun (b, ρ1) => match b with
  | true => fa ρ1
  | false => fb ρ1
end
section
variable {X : Cx} {G : Wd} {W : WX} {pos : Pos} {a b c : Expr} {rest : List Expr}
theorem rt_val {f : Ev} (h : PE X a (tE X.K G W f)) (he : ∀ whole, isTrue a X.env whole = (do let v ← whole; standAt a.pos; holding [v] (truthy v)) := by intro _; rfl) : PT X a (tT X.K G W (tOf f)) :=
  (pt_val h he).imp fun _ _ _ h => tt_of h
theorem rt_cmp {op : CmpOp} {r : R2} {g : D → D → Option PV} {fa fb : Ev} (ho : OpR X (compareOp op) r) (S : OpS X.K G r g) (ha : PE X a (tE X.K G W fa)) (hb : PE X b (tE X.K G W fb)) (hm : behindInMarks op b = false) :
    PT X (.Compare a [op] [b] pos) (tT X.K G W (tOf (eOp g fa fb))) := (pt_cmpR ho ha hb hm).imp fun _ _ _ h => te_op S (tt_of h)
theorem rw_and1 {ta : Et} (ha : PT X a (tT X.K G W ta)) : PW X (.BoolOp .And [a] pos) (tT X.K G W ta) := pw_and1 ha
theorem rw_or1 {ta : Et} (ha : PT X a (tT X.K G W ta)) : PW X (.BoolOp .Or [a] pos) (tT X.K G W ta) := pw_or1 ha
theorem rw_and {ta tb : Et} (ha : PT X a (tT X.K G W ta)) (hb : PW X (.BoolOp .And (b :: rest) pos) (tT X.K G W tb)) : PW X (.BoolOp .And (a :: b :: rest) pos) (tT X.K G W (tAndF ta tb)) :=
  (pw_and ha hb).imp fun σ H Q h => tt_bindT h fun B Z Φ ρ1 H1 b k q => by
    cases b with
    | true => exact iteT ⟨B, Z, Φ, ρ1, k, q⟩
    | false => exact iteF (q Z H1 Ext.refl k)
theorem rw_or {ta tb : Et} (ha : PT X a (tT X.K G W ta)) (hb : PW X (.BoolOp .Or (b :: rest) pos) (tT X.K G W tb)) : PW X (.BoolOp .Or (a :: b :: rest) pos) (tT X.K G W (tOrF ta tb)) :=
  (pw_or ha hb).imp fun σ H Q h => tt_bindT h fun B Z Φ ρ1 H1 b k q => by
    cases b with
    | true => exact iteT (q Z H1 Ext.refl k)
    | false => exact iteF ⟨B, Z, Φ, ρ1, k, q⟩
theorem rt_not {ta : Et} (ha : PT X a (tT X.K G W ta)) : PT X (.UnaryOp .Not a pos) (tT X.K G W (tNotF ta)) :=
  (pt_not ha).imp fun σ H Q h => tt_bindT h fun B Z Φ ρ1 H1 b k q => q Z H1 Ext.refl k
theorem re_one {op} {f : Ev} (h : PE X a (tE X.K G W f)) : PE X (.BoolOp op [a] pos) (tE X.K G W f) := pe_one h
theorem re_and {fa fb : Ev} (ha : PE X a (tE X.K G W fa)) (hb : PE X (.BoolOp .And (b :: rest) pos) (tE X.K G W fb)) : PE X (.BoolOp .And (a :: b :: rest) pos) (tE X.K G W (eAndV fa fb)) :=
  (pe_and ha hb).imp fun σ H Q h => te_bind h fun B Z Φ ρ1 H1 x pa k r q => by
    dsimp only at q
    split at q
    · exact ⟨true, r, iteT ⟨B, Z, Φ, ρ1, k, q⟩⟩
    · exact ⟨false, r, iteF (q Z H1 _ Ext.refl k rfl)⟩
    · exact q.elim
theorem re_or {fa fb : Ev} (ha : PE X a (tE X.K G W fa)) (hb : PE X (.BoolOp .Or (b :: rest) pos) (tE X.K G W fb)) : PE X (.BoolOp .Or (a :: b :: rest) pos) (tE X.K G W (eOrV fa fb)) :=
  (pe_or ha hb).imp fun σ H Q h => te_bind h fun B Z Φ ρ1 H1 x pa k r q => by
    dsimp only at q
    split at q
    · exact ⟨true, r, iteT (q Z H1 _ Ext.refl k rfl)⟩
    · exact ⟨false, r, iteF ⟨B, Z, Φ, ρ1, k, q⟩⟩
    · exact q.elim
theorem uns_not {K : PySem.W.Frag} : UnS K G (fun x H Q => ∃ c, x = .bl c ∧ Q (.bl (!c)) H) gNot := by
  intro Z H da x pv Q s ha hg q
  unfold gNot at hg
  split at hg
  · cases hg
    exact ⟨_, pk_bl ha, q _ _ _ (.same rfl)⟩
  · cases hg
theorem re_not {fa : Ev} (ha : PE X a (tE X.K G W fa)) : PE X (.UnaryOp .Not a pos) (tE X.K G W (eU gNot fa)) := (pe_not ha).imp fun _ _ _ h => te_un uns_not h
theorem re_if {tc : Et} {fa fb : Ev} (hc : PT X c (tT X.K G W tc)) (ha : PE X a (tE X.K G W fa)) (hb : PE X b (tE X.K G W fb)) : PE X (.IfExp c a b pos) (tE X.K G W (eIfF tc fa fb)) :=
  (pe_ifExp hc ha hb).imp fun σ H Q h => te_bindT h fun B Z Φ ρ1 H1 b k q => by
    cases b with
    | true => exact iteT ⟨B, Z, Φ, ρ1, k, q⟩
    | false => exact iteF ⟨B, Z, Φ, ρ1, k, q⟩

/-! ### chains -/
def chK (g' : D → D → Option PV) (fc : Ev) (pb : PV) : PV × Rho → R (PV × Rho)
  | (.fz (.bl true), ρ3) => (fc ρ3).bind fun (pc, ρ4) => opV g' pb pc ρ4
  | (.fz (.bl false), ρ3) => .ok (.fz (.bl false), ρ3)
  | _ => .no
def eChain (g g' : D → D → Option PV) (fa fb fc : Ev) : Ev := fun ρ => (fa ρ).bind fun (pa, ρ1) => (fb ρ1).bind fun (pb, ρ2) => (opV g pa pb ρ2).bind (chK g' fc pb)
theorem opV_some {g : D → D → Option PV} {pa pb : PV} {ρ : Rho} : (opV g pa pb ρ = .no) ∨ ∃ da db pv, look ρ pa = some da ∧ look ρ pb = some db ∧ g da db = some pv ∧ opV g pa pb ρ = .ok (pv, ρ) := by
  unfold opV
  cases la : look ρ pa with
  | none => exact .inl rfl
  | some da =>
    cases lb : look ρ pb with
    | none => exact .inl rfl
    | some db =>
      cases hg : g da db with
      | none => left; simp only [hg]
      | some pv => right; exact ⟨da, db, pv, rfl, rfl, hg, by simp only [hg]⟩
theorem te_chain {K : PySem.W.Frag} {r r' : R2} {g g' : D → D → Option PV} {fa fb fc : Ev} (S : OpS K G r g) (S' : OpS K G r' g') {σ : L2.St} {H : Hp} {Q : VK} (h : tE K G W (eChain g g' fa fb fc) σ H Q) : tChain r r' (tE K G W fa) (tE K G W fb) (tE K G W fc) σ H Q := by
  refine te_bind h fun B Z Φ ρ1 H1 x pa k r1 q => ?_
  obtain ⟨Z2, e2, k2, r2⟩ := k.pend r1
  dsimp only at q
  cases hb : fb ρ1 with
  | no => rw [hb] at q; exact q.elim
  | exc x => rw [hb] at q; exact ⟨B, Z2, Φ, ρ1, k2, by rw [hb]; exact PostX.ext q e2⟩
  | ok p =>
    obtain ⟨pb, ρ2⟩ := p
    rw [hb] at q
    refine ⟨B, Z2, Φ, ρ1, k2, ?_⟩
    rw [hb]
    intro Z3 H3 y e3 k3 r3
    obtain ⟨Z4, e4, k4, r4⟩ := k3.pend r3
    have r2' := r2.mono (e3.trans e4).1
    change PostE K G W B Z Φ σ Q ((opV g pa pb ρ2).bind _) at q
    rcases opV_some (g := g) (pa := pa) (pb := pb) (ρ := ρ2) with e | ⟨da, db, pv, la, lb, hg, e⟩
    · rw [e] at q; exact q.elim
    · rw [e] at q
      refine S Z4 H3 da db x y pv _ k4.zh (k4.pk r2' la) (k4.pk r4 lb) hg fun Z' H' v st => ?_
      obtain ⟨f1, f2, f3⟩ := st.ok k4
      have e24 := e2.trans ((e3.trans e4).trans f1)
      change PostE K G W B Z Φ σ Q (chK g' fc pb (pv, ρ2)) at q
      unfold chK at q
      split at q
      · rename_i ρ' ee
        cases ee
        refine ⟨true, f3, iteT ⟨B, Z', Φ, ρ2, f2, ?_⟩⟩
        cases hc : fc ρ2 with
        | no => rw [hc] at q; exact q.elim
        | exc x => rw [hc] at q; exact PostX.ext q e24
        | ok p =>
          obtain ⟨pc, ρ4⟩ := p
          rw [hc] at q
          intro Z5 H5 w e5 k5 r5
          obtain ⟨Z6, e6, k6, r6⟩ := k5.pend r5
          have r4' := (r4.mono f1.1).mono (e5.trans e6).1
          change PostE K G W B Z Φ σ Q (opV g' pb pc ρ4) at q
          rcases opV_some (g := g') (pa := pb) (pb := pc) (ρ := ρ4) with e | ⟨da', db', pv', la', lb', hg', e⟩
          · rw [e] at q; exact q.elim
          · rw [e] at q
            refine S' Z6 H5 da' db' y w pv' Q k6.zh (k6.pk r4' la') (k6.pk r6 lb') hg' fun Z7 H7 v7 st7 => ?_
            obtain ⟨g1, g2, g3⟩ := st7.ok k6
            exact q Z7 H7 v7 (e24.trans ((e5.trans e6).trans g1)) g2 g3
      · rename_i ρ' ee
        cases ee
        exact ⟨false, f3, iteF (q Z' H' _ e24 f2 rfl)⟩
      · exact q.elim
theorem re_chain {op op' : CmpOp} {r r' : R2} {g g' : D → D → Option PV} {fa fb fc : Ev} (ho : OpR X (compareOp op) r) (ho' : OpR X (compareOp op') r') (S : OpS X.K G r g) (S' : OpS X.K G r' g') (ha : PE X a (tE X.K G W fa)) (hb : PE X b (tE X.K G W fb)) (hc : PE X c (tE X.K G W fc))
    (hm : lastMarks [op, op'] [b, c] = false := by with_unfolding_all rfl) : PE X (.Compare a [op, op'] [b, c] pos) (tE X.K G W (eChain g g' fa fb fc)) := (pe_chain ho ho' ha hb hc hm).imp fun _ _ _ h => te_chain S S' h
theorem rt_chain {op op' : CmpOp} {r r' : R2} {g g' : D → D → Option PV} {fa fb fc : Ev} (ho : OpR X (compareOp op) r) (ho' : OpR X (compareOp op') r') (S : OpS X.K G r g) (S' : OpS X.K G r' g') (ha : PE X a (tE X.K G W fa)) (hb : PE X b (tE X.K G W fb)) (hc : PE X c (tE X.K G W fc))
    (hm : lastMarks [op, op'] [b, c] = false := by with_unfolding_all rfl) : PT X (.Compare a [op, op'] [b, c] pos) (tT X.K G W (tOf (eChain g g' fa fb fc))) := (pt_chain ho ho' ha hb hc hm).imp fun _ _ _ h => te_chain S S' (tt_of h)

/-! ### arguments, displays -/
def aNil : Ea := fun ρ => .ok ([], ρ)
def aCons (f : Ev) (fr : Ea) : Ea := fun ρ => (f ρ).bind fun (pv, ρ1) => match useV pv ρ1 with
  | some (d, ρ2) => (fr ρ2).bind fun (ds, ρ3) => .ok (d :: ds, ρ3)
  | none => .no
theorem ra_nil : PA X [] (tA X.K G W aNil) := pa_nil.imp fun σ H Q h => by
  obtain ⟨B, Z, Φ, ρ, k, h⟩ := h
  exact h Z H [] Ext.refl k rfl
theorem ra_cons {f : Ev} {fr : Ea} {es : List Expr} (he : PE X a (tE X.K G W f)) (hr : PA X es (tA X.K G W fr)) (hs : starEach (a :: es) X.env = (false, eval a X.env) :: starEach es X.env := by rfl) : PA X (a :: es) (tA X.K G W (aCons f fr)) :=
  (pa_cons he hr hs).imp fun σ H Q h => by
    obtain ⟨B, Z, Φ, ρ, k, h⟩ := h
    refine ⟨B, Z, Φ, ρ, k, ?_⟩
    unfold aCons at h
    cases ha : f ρ with
    | no => rw [ha] at h; exact h.elim
    | exc x => rw [ha] at h; exact h
    | ok p =>
      obtain ⟨pa, ρ1⟩ := p
      rw [ha] at h
      intro Z1 H1 x e1 k1 r1
      change PostA X.K G W B Z Φ σ Q (match useV pa ρ1 with | some (d, ρ2) => (fr ρ2).bind fun (ds, ρ3) => .ok (d :: ds, ρ3) | none => .no) at h
      cases hu : useV pa ρ1 with
      | none => rw [hu] at h; exact h.elim
      | some p =>
        obtain ⟨d, ρ2⟩ := p
        rw [hu] at h
        obtain ⟨Z2, e2, k2, r2⟩ := k1.use r1 hu
        refine ⟨B, Z2, Φ, ρ2, k2, ?_⟩
        have e12 := e1.trans e2
        change PostA X.K G W B Z Φ σ Q ((fr ρ2).bind fun (ds, ρ3) => .ok (d :: ds, ρ3)) at h
        cases hf : fr ρ2 with
        | no => rw [hf] at h; exact h.elim
        | exc x => rw [hf] at h; exact PostX.ext h e12
        | ok p =>
          obtain ⟨ds, ρ3⟩ := p
          rw [hf] at h
          intro Z3 H3 vs e3 k3 r3
          exact h Z3 H3 (x :: vs) (e12.trans e3) k3 ⟨x, vs, rfl, Rep.mono e3.1 _ _ r2, r3⟩
def eTup (fa : Ea) : Ev := fun ρ => (fa ρ).bind fun (ds, ρ1) => if szOk ds.length then .ok (.fz (.tup ds), ρ1) else .no
def eLst (fa : Ea) : Ev := fun ρ => (fa ρ).bind fun (ds, ρ1) => if szOk ds.length then .ok (.fr ds, ρ1) else .no
theorem re_tup {fa : Ea} {es : List Expr} {x1} (h : PA X es (tA X.K G W fa)) : PE X (.Tuple es x1 pos) (tE X.K G W (eTup fa)) := (pe_tup h).imp fun σ H Q h => by
  refine te_bindA h fun B Z Φ ρ1 H1 vs ds k r q => ?_
  dsimp only at q
  split at q
  · rename_i hz
    refine ⟨by rw [← r.length]; exact szOk_le hz, fun p hp => ?_⟩
    obtain ⟨f1, f2, f3⟩ := (Stp.newZ (K := X.K) (G := G) (d := .tup ds) (o := .tup vs) hp ⟨p, vs, rfl, .inl (.inl upd_same), RepL.mono (same_newZ (Same.none k.zh hp)) _ _ r⟩).ok k
    exact q _ _ _ f1 f2 f3
  · exact q.elim
theorem re_lst {fa : Ea} {es : List Expr} (h : PA X es (tA X.K G W fa)) : PE X (.List es pos) (tE X.K G W (eLst fa)) := (pe_lst h).imp fun σ H Q h => by
  refine te_bindA h fun B Z Φ ρ1 H1 vs ds k r q => ?_
  dsimp only at q
  split at q
  · rename_i hz
    refine ⟨by rw [← r.length]; exact szOk_le hz, fun p hp => ?_⟩
    obtain ⟨f1, f2, f3⟩ := (Stp.newF (K := X.K) (G := G) hp r).ok k
    exact q _ _ _ f1 f2 f3
  · exact q.elim

/-! ### built-ins -/
section
variable {id T : String} {x : Str} {p : Pos} {r : List V → Hp → VK → Prop} {e e2 : Expr}
theorem re_b1 {g : D → Option PV} {f : Ev} (hc : CallR X (.builtin id) r) (S : UnS X.K G (fun x H Q => r [x] H Q) g) (hg : Gl X x) (hm : X.mg x = none) (hv : bootBuiltins x = some (.builtin id)) (ha : PE X e (tE X.K G W f)) (hn : x ≠ "__name__" := by decide) (hdb : (x == ("__debug__" : Str)) = false := by decide)
    (hs : starEach [e] X.env = (false, eval e X.env) :: starEach [] X.env := by rfl) (hpl : (backTo pos (starEach [] X.env)).any (·.1) = false := by rfl) : PE X (.Call (.Name x p) [e] [] pos) (tE X.K G W (eU g f)) :=
  (pe_callB hc hg hm hv (pa_cons ha pa_nil hs) hn hdb hs hpl).imp fun σ H Q h => te_un S h
theorem re_t1 {g : D → Option PV} {f : Ev} (hc : CallR X (.type T) r) (S : UnS X.K G (fun x H Q => r [x] H Q) g) (hg : Gl X x) (hm : X.mg x = none) (hv : bootBuiltins x = some (.type T)) (ha : PE X e (tE X.K G W f)) (hn : x ≠ "__name__" := by decide) (hdb : (x == ("__debug__" : Str)) = false := by decide)
    (hs : starEach [e] X.env = (false, eval e X.env) :: starEach [] X.env := by rfl) (hpl : (backTo pos (starEach [] X.env)).any (·.1) = false := by rfl) : PE X (.Call (.Name x p) [e] [] pos) (tE X.K G W (eU g f)) :=
  (pe_callTy hc hg hm hv (pa_cons ha pa_nil hs) hn hdb hs hpl).imp fun σ H Q h => te_un S h
theorem re_b2 {g : D → D → Option PV} {f f2 : Ev} (hc : CallR X (.builtin id) r) (S : OpS X.K G (fun x y H Q => r [x, y] H Q) g) (hg : Gl X x) (hm : X.mg x = none) (hv : bootBuiltins x = some (.builtin id)) (ha : PE X e (tE X.K G W f)) (hb : PE X e2 (tE X.K G W f2)) (hn : x ≠ "__name__" := by decide)
    (hdb : (x == ("__debug__" : Str)) = false := by decide) (hs1 : starEach [e2] X.env = (false, eval e2 X.env) :: starEach [] X.env := by rfl) (hs : starEach [e, e2] X.env = (false, eval e X.env) :: starEach [e2] X.env := by rfl) (hpl : (backTo pos (starEach [e2] X.env)).any (·.1) = false := by rfl) :
    PE X (.Call (.Name x p) [e, e2] [] pos) (tE X.K G W (eOp g f f2)) := (pe_callB hc hg hm hv (pa_cons ha (pa_cons hb pa_nil hs1) hs) hn hdb hs hpl).imp fun σ H Q h => te_op S h
/-- isinstance(e, T) -/
theorem re_isi {f : Ev} (T : Tyn) {y : Str} {p2 : Pos} (hg : Gl X "isinstance") (hm : X.mg "isinstance" = none) (hg2 : Gl X y) (hm2 : X.mg y = none) (hv2 : bootBuiltins y = some (.type T.n)) (ha : PE X e (tE X.K G W f)) (hn : y ≠ "__name__" := by decide) (hdb : (y == ("__debug__" : Str)) = false := by decide)
    (hs1 : starEach [.Name y p2] X.env = (false, eval (.Name y p2) X.env) :: starEach [] X.env := by rfl) (hs : starEach [e, .Name y p2] X.env = (false, eval e X.env) :: starEach [.Name y p2] X.env := by rfl) (hpl : (backTo pos (starEach [.Name y p2] X.env)).any (·.1) = false := by rfl) :
    PE X (.Call (.Name "isinstance" p) [e, .Name y p2] [] pos) (tE X.K G W (eU (gIsi T) f)) :=
  (pe_callB call_isi hg hm (by decide +kernel) (pa_cons ha (pa_cons (pe_bltn (v := .ty T.n) hg2 hm2 hv2 rfl hn hdb) pa_nil hs1) hs) (by decide) (by decide) hs hpl).imp fun σ H Q h => te_un (uns_isi T) h
end

/-! ### slices -/
def cutD (xs : List D) (lo hi : Option Int) : List D := (xs.drop (HT.sIx xs.length 0 lo)).take (HT.sIx xs.length xs.length hi - HT.sIx xs.length 0 lo)
theorem cut_rep {K : PySem.W.Frag} {Z : Hp} {xs : List D} {vs : List V} (h : RepL K G Z xs vs) (lo hi : Option Int) : RepL K G Z (cutD xs lo hi) (cutV vs lo hi) := by
  unfold cutD cutV
  rw [h.length]
  exact (h.drop _).take _
def gSl : D → Option Int → Option Int → Option PV
  | .tup xs, lo, hi => some (.fz (.tup (cutD xs lo hi)))
  | .lst xs, lo, hi => some (.fr (cutD xs lo hi))
  | .lck xs, lo, hi => some (.fr (cutD xs lo hi))
  | _, _, _ => none
def SlS (K : PySem.W.Frag) (G : Wd) (r : V → Option Int → Option Int → Hp → VK → Prop) (g : D → Option Int → Option Int → Option PV) : Prop := ∀ (Z H : Hp) (da : D) (x : V) (lo hi : Option Int) (pv : PV) (Q : VK), Same Z H → Pk K G Z H da x → g da lo hi = some pv →
  (∀ Z' H' v, Stp K G Z H pv v Z' H' → Q v H') → r x lo hi H Q
abbrev rSl (K : PySem.W.Frag) : V → Option Int → Option Int → Hp → VK → Prop := fun x lo hi H Q => rSlA K x lo hi H Q ∨ rSlL K x lo hi H Q
theorem slr_any : SlR X (rSl X.K) := sl_tupA.or sl_list
theorem sls_any {K : PySem.W.Frag} : SlS K G (rSl K) gSl := by
  intro Z H da x lo hi pv Q s ha hg q
  unfold gSl at hg
  split at hg
  · rename_i xs
    cases hg
    obtain ⟨a, vs, rfl, sa, ra⟩ := pk_tup ha
    refine .inl ⟨a, vs, rfl, Same.seqT s sa, fun hw => q _ _ _ (.same ⟨a, vs, rfl, sa, ?_⟩), fun _ p hp => q _ _ _ (.newZ hp ⟨p, _, rfl, .inl (.inl upd_same), RepL.mono (same_newZ (Same.none s hp)) _ _ (cut_rep ra lo hi)⟩)⟩
    have e : cutD xs lo hi = xs := by
      unfold cutD
      rw [ra.length, hw.1, hw.2, List.drop_zero, ← ra.length, Nat.sub_zero, List.take_length]
    rw [e]
    exact ra
  · cases hg
    obtain ⟨a, vs, rfl, sa, ra⟩ := ha.lst s
    exact .inr ⟨a, vs, rfl, .inl (.inl sa), fun p hp => q _ _ _ (.newF hp (cut_rep ra _ _))⟩
  · cases hg
    obtain ⟨a, vs, rfl, sa, ra⟩ := Pk.rep ha (by intro _ e; cases e)
    exact .inr ⟨a, vs, rfl, s.seq sa, fun p hp => q _ _ _ (.newF hp (cut_rep ra _ _))⟩
  · cases hg
/-- a part of a slice: none, or an int -/
abbrev Eo := Rho → R (Option Int × Rho)
def oNone : Eo := fun ρ => .ok (none, ρ)
def iOf : PV × Rho → R (Option Int × Rho)
  | (.fz (.int i), ρ) => .ok (some i, ρ)
  | _ => .no
def oSome (f : Ev) : Eo := fun ρ => (f ρ).bind iOf
def slK (pa : PV) (lo : Option Int) : Option Int × Rho → R (PV × Rho) := fun p => match look p.2 pa with
  | some d => match gSl d lo p.1 with
    | some pv => .ok (pv, p.2)
    | none => .no
  | none => .no
def eSl (fa : Ev) (fl fh : Eo) : Ev := fun ρ => (fa ρ).bind fun (pa, ρ1) => (fl ρ1).bind fun (lo, ρ2) => (fh ρ2).bind (slK pa lo)
def PostO (K : PySem.W.Frag) (G : Wd) (W : WX) (B : L2.St) (Z Φ : Hp) (σ : L2.St) (Q : Option Int → Hp → Prop) : R (Option Int × Rho) → Prop
  | .ok (o, ρ') => ∀ Z' H', Ext Z Φ Z' → Ok K G B Z' Φ σ ρ' H' → Q o H'
  | .exc x => PostX G W Z Φ σ x
  | .no => False
def tO (K : PySem.W.Frag) (G : Wd) (W : WX) (f : Eo) : TO := fun σ H Q => ∃ B Z Φ ρ, Ok K G B Z Φ σ ρ H ∧ PostO K G W B Z Φ σ Q (f ρ)
theorem _root_.L2.PO.imp {e : Option Expr} {t t' : TO} (h : PO X e t) (k : ∀ σ H Q, t' σ H Q → t σ H Q) : PO X e t' := ⟨fun pins s σ H Q I q => h.run pins s σ H Q I (k σ H Q q)⟩
theorem ro_none : PO X none (tO X.K G W oNone) := po_none.imp fun σ H Q h => by
  obtain ⟨B, Z, Φ, ρ, k, h⟩ := h
  exact h Z H Ext.refl k
theorem ro_some {f : Ev} {e : Expr} (he : PE X e (tE X.K G W f)) : PO X (some e) (tO X.K G W (oSome f)) := (po_some he).imp fun σ H Q h => by
  obtain ⟨B, Z, Φ, ρ, k, h⟩ := h
  refine ⟨B, Z, Φ, ρ, k, ?_⟩
  unfold oSome at h
  cases ha : f ρ with
  | no => rw [ha] at h; exact h.elim
  | exc x => rw [ha] at h; exact h
  | ok p =>
    obtain ⟨pa, ρ1⟩ := p
    rw [ha] at h
    intro Z1 H1 x e1 k1 r1
    change PostO X.K G W B Z Φ σ Q (iOf (pa, ρ1)) at h
    unfold iOf at h
    split at h
    · rename_i i ρ' e
      cases e
      exact ⟨i, r1, h Z1 H1 e1 k1⟩
    · exact h.elim
theorem re_sl {fa : Ev} {fl fh : Eo} {e : Expr} {lo hi : Option Expr} {p2 : Pos} (he : PE X e (tE X.K G W fa)) (hl : PO X lo (tO X.K G W fl)) (hh : PO X hi (tO X.K G W fh)) : PE X (.Subscript e (.Slice lo hi none p2) pos) (tE X.K G W (eSl fa fl fh)) :=
  (pe_slice slr_any he hl hh).imp fun σ H Q h => by
    refine te_bind h fun B Z Φ ρ1 H1 x pa k r q => ?_
    obtain ⟨Z2, e2, k2, r2⟩ := k.pend r
    refine ⟨B, Z2, Φ, ρ1, k2, ?_⟩
    dsimp only at q
    cases hl : fl ρ1 with
    | no => rw [hl] at q; exact q.elim
    | exc x => rw [hl] at q; exact PostX.ext q e2
    | ok p =>
      obtain ⟨lo, ρ2⟩ := p
      rw [hl] at q
      intro Z3 H3 e3 k3
      refine ⟨B, Z3, Φ, ρ2, k3, ?_⟩
      change PostE X.K G W B Z Φ σ Q ((fh ρ2).bind _) at q
      cases hh : fh ρ2 with
      | no => rw [hh] at q; exact q.elim
      | exc x => rw [hh] at q; exact PostX.ext q (e2.trans e3)
      | ok p =>
        obtain ⟨hi, ρ3⟩ := p
        rw [hh] at q
        intro Z4 H4 e4 k4
        have r4 := r2.mono (e3.trans e4).1
        change PostE X.K G W B Z Φ σ Q (slK pa lo (hi, ρ3)) at q
        unfold slK at q
        dsimp only at q
        cases la : look ρ3 pa with
        | none => rw [la] at q; exact q.elim
        | some d =>
          rw [la] at q
          cases hg : gSl d lo hi with
          | none => simp only [hg] at q; exact q.elim
          | some pv =>
            simp only [hg] at q
            refine sls_any Z4 H4 d x lo hi pv Q k4.zh (k4.pk r4 la) hg fun Z' H' v st => ?_
            obtain ⟨f1, f2, f3⟩ := st.ok k4
            exact q Z' H' v ((e2.trans (e3.trans e4)).trans f1) f2 f3
end
end Rf
end
section
set_option Elab.async false
set_option linter.all false
set_option maxRecDepth 100000
set_option maxHeartbeats 4000000
/-! Rf, part E: calls of defs. -/
namespace Rf
open PySem PySem.Spec PyProof.Rows L2

/-- what a def is worth: its data in, its data out (frozen, or a new list) -/
abbrev Fn := List D → R PV
/-- .. whose first argument is a list that it changes -/
abbrev FnB := List D → List D → R (PV × List D)
def RetP (K : PySem.W.Frag) (G : Wd) (Z Φ H : Hp) : PV → V → Prop
  | .fz d, v => Rep K G Z d v
  | .fr xs, v => ∃ a vs, v = .ref a ∧ H a = some (.lst vs) ∧ RepL K G Z xs vs ∧ Z a = none ∧ Φ a = none
  | .at _, _ => False
def PostF (K : PySem.W.Frag) (G : Wd) (Z Φ : Hp) (Q : VK) (E : XK) : R PV → Prop
  | .ok pv => ∀ Z' H' v, Ext Z Φ Z' → Same Z' H' → Same Φ H' → RetP K G Z' Φ H' pv v → Q v H'
  | .exc x => ∀ Z' H' cls d, Ext Z Φ Z' → Same Z' H' → Same Φ H' → RepX G H' x cls d → E cls d H'
  | .no => False
def spF (K : PySem.W.Frag) (G : Wd) (n : Nat) (F : Fn) : Sp := fun vs H Q E => ∃ Z Φ ds, Same Z H ∧ Same Φ H ∧ RepL K G Z ds vs ∧ ds.length = n ∧ PostF K G Z Φ Q E (F ds)
def RetB (K : PySem.W.Frag) (G : Wd) (Z Φ H : Hp) (b : Addr) : PV → V → Prop
  | .fz d, v => Rep K G Z d v
  | .fr xs, v => ∃ a vs, v = .ref a ∧ H a = some (.lst vs) ∧ RepL K G Z xs vs ∧ Z a = none ∧ Φ a = none ∧ a ≠ b
  | .at _, _ => False
def PostB (K : PySem.W.Frag) (G : Wd) (Z Φ : Hp) (a : Addr) (Q : VK) : R (PV × List D) → Prop
  | .ok (pv, xs) => ∀ Z' H' v vs, Ext Z Φ Z' → Same Z' H' → Same Φ H' → H' a = some (.lst vs) → RepL K G Z' xs vs → Z' a = none → RetB K G Z' Φ H' a pv v → Q v H'
  | .exc _ => False
  | .no => False
def spB (K : PySem.W.Frag) (G : Wd) (n : Nat) (F : FnB) : Sp := fun vs H Q E => ∃ Z Φ a ws vs' xs ds, vs = .ref a :: ws ∧ H a = some (.lst vs') ∧ RepL K G Z xs vs' ∧ Z a = none ∧ Φ a = none ∧ Same Z H ∧ Same Φ H ∧ RepL K G Z ds ws ∧ ds.length + 1 = n ∧ PostB K G Z Φ a Q (F xs ds)
theorem spF_len {K : PySem.W.Frag} {G : Wd} {n : Nat} {F : Fn} {ps : List Str} (e : ps.length = n) : ∀ vs H Q E, spF K G n F vs H Q E → vs.length = ps.length := fun vs H Q E h => by
  obtain ⟨Z, Φ, ds, _, _, r, l, _⟩ := h
  rw [← r.length, l, e]
theorem spB_len {K : PySem.W.Frag} {G : Wd} {n : Nat} {F : FnB} {ps : List Str} (e : ps.length = n) : ∀ vs H Q E, spB K G n F vs H Q E → vs.length = ps.length := fun vs H Q E h => by
  obtain ⟨Z, Φ, a, ws, vs', xs, ds, rfl, _, _, _, _, _, _, r, l, _⟩ := h
  rw [List.length_cons, ← r.length, l, e]

section
variable {K : PySem.W.Frag} {G : Wd} {B : L2.St} {Z Z' Φ H H' : Hp} {σ : L2.St} {ρ ρ' : Rho}
open Classical in
/-- the frame for a callee: ours, and our own lists, but the one at b -/
noncomputable def frm (Φ H : Hp) (σ : L2.St) (ρ : Rho) (b : Option Addr) : Hp := fun c => if (∃ (i : Nat) (k : Bool) (xs : List D), ρ[i]? = some (Cell.ow k xs) ∧ σ[i]? = some (some (V.ref c))) ∧ b ≠ some c then H c else Φ c
theorem frm_own {b : Option Addr} {c : Addr} {i : Nat} {k : Bool} {xs : List D} (h1 : ρ[i]? = some (Cell.ow k xs)) (h2 : σ[i]? = some (some (V.ref c))) (h3 : b ≠ some c) : frm Φ H σ ρ b c = H c := by
  unfold frm
  rw [if_pos ⟨⟨i, k, xs, h1, h2⟩, h3⟩]
theorem frm_cases {b : Option Addr} {c : Addr} : (frm Φ H σ ρ b c = H c ∧ (∃ (i : Nat) (k : Bool) (xs : List D), ρ[i]? = some (Cell.ow k xs) ∧ σ[i]? = some (some (V.ref c))) ∧ b ≠ some c) ∨
    (frm Φ H σ ρ b c = Φ c ∧ ¬ ((∃ (i : Nat) (k : Bool) (xs : List D), ρ[i]? = some (Cell.ow k xs) ∧ σ[i]? = some (some (V.ref c))) ∧ b ≠ some c)) := by
  unfold frm
  by_cases h : (∃ (i : Nat) (k : Bool) (xs : List D), ρ[i]? = some (Cell.ow k xs) ∧ σ[i]? = some (some (V.ref c))) ∧ b ≠ some c
  · rw [if_pos h]
    exact .inl ⟨rfl, h⟩
  · rw [if_neg h]
    exact .inr ⟨rfl, h⟩
theorem Ok.frm (k : Ok K G B Z Φ σ ρ H) (b : Option Addr) : Same (frm Φ H σ ρ b) H := fun c o e => by
  rcases frm_cases (Φ := Φ) (H := H) (σ := σ) (ρ := ρ) (b := b) (c := c) with ⟨h, _⟩ | ⟨h, _⟩
  · rw [h] at e; exact e
  · rw [h] at e; exact k.fh _ _ e
theorem Ok.frm_sub (k : Ok K G B Z Φ σ ρ H) (b : Option Addr) : Same Φ (Rf.frm Φ H σ ρ b) := fun c o e => by
  rcases frm_cases (Φ := Φ) (H := H) (σ := σ) (ρ := ρ) (b := b) (c := c) with ⟨h, _⟩ | ⟨h, _⟩
  · rw [h]; exact k.fh _ _ e
  · rw [h]; exact e
theorem Ok.frm_none (k : Ok K G B Z Φ σ ρ H) {b : Option Addr} {c : Addr} (e : Rf.frm Φ H σ ρ b c = none) : Φ c = none := by
  cases q : Φ c with
  | none => rfl
  | some o =>
    rw [k.frm_sub b c o q] at e
    cases e
theorem Ok.frm_notown (k : Ok K G B Z Φ σ ρ H) {b : Option Addr} {c : Addr} (e : Rf.frm Φ H σ ρ b c = none) (hb : b ≠ some c) (i : Nat) (kk : Bool) (ys : List D) (h1 : ρ[i]? = some (.ow kk ys)) (h2 : σ[i]? = some (some (.ref c))) : False := by
  rw [frm_own h1 h2 hb] at e
  obtain ⟨a, vs, f1, f2, _⟩ := k.ow i kk ys h1
  rw [h2] at f1
  cases f1
  rw [e] at f2
  cases f2
theorem Ext.frm (k : Ok K G B Z Φ σ ρ H) {b : Option Addr} (e : Ext Z (Rf.frm Φ H σ ρ b) Z') : Ext Z Φ Z' := ⟨e.1, fun c o h => (e.2 c o h).elim .inl fun z => .inr (k.frm_none z)⟩
/-- behind a callee that leaves our lists alone -/
theorem Ok.after (k : Ok K G B Z Φ σ ρ H) (e : Ext Z (Rf.frm Φ H σ ρ none) Z') (zh : Same Z' H') (fh : Same (Rf.frm Φ H σ ρ none) H') : Ok K G B Z' Φ σ ρ H' where
  zh := zh
  fh := (k.frm_sub none).trans fh
  len := k.len
  fz := fun i d h => by
    obtain ⟨v, e1, r⟩ := k.fz i d h
    exact ⟨v, e1, Rep.mono e.1 _ _ r⟩
  ow := fun i b xs h => by
    obtain ⟨a, vs, e1, e2, r, z1, z2⟩ := k.ow i b xs h
    have ef : Rf.frm Φ H σ ρ none a = H a := frm_own h e1 (by intro z; cases z)
    refine ⟨a, vs, e1, fh a _ (by rw [ef, e2]), RepL.mono e.1 _ _ r, ?_, z2⟩
    cases q : Z' a with
    | none => rfl
    | some o =>
      rcases e.2 a o q with z | z
      · rw [z1] at z; cases z
      · rw [ef, e2] at z; cases z
  ne := k.ne
  bw := k.bw
  lb := k.lb
theorem RetP.repP (k : Ok K G B Z Φ σ ρ H) {pv : PV} {v : V} (r : RetP K G Z' (Rf.frm Φ H σ ρ none) H' pv v) : RepP K G Z' Φ σ ρ H' pv v := by
  cases pv with
  | fz d => exact r
  | fr xs =>
    obtain ⟨a, vs, e, h, q, z, f⟩ := r
    exact ⟨a, vs, e, h, q, z, k.frm_none f, fun i b ys h1 h2 => k.frm_notown f (by intro z; cases z) i b ys h1 h2⟩
  | «at» i => exact r.elim
/-- behind a callee that changed the list of slot j -/
theorem Ok.afterB (k : Ok K G B Z Φ σ ρ H) {j : Nat} {c : Bool} {xs ys : List D} {a : Addr} {vs : List V} (hj : ρ[j]? = some (.ow c xs)) (ha : σ[j]? = some (some (.ref a))) (e : Ext Z (Rf.frm Φ H σ ρ (some a)) Z') (zh : Same Z' H') (fh : Same (Rf.frm Φ H σ ρ (some a)) H')
    (h1 : H' a = some (.lst vs)) (h2 : RepL K G Z' ys vs) (h3 : Z' a = none) : Ok K G B Z' Φ σ (ρ.set j (.ow c ys)) H' where
  zh := zh
  fh := (k.frm_sub _).trans fh
  len := by rw [List.length_set]; exact k.len
  fz := fun i d h => by
    rcases get_set_cases h with ⟨_, h⟩ | ⟨_, h⟩
    · cases h
    · obtain ⟨v, e1, r⟩ := k.fz i d h
      exact ⟨v, e1, Rep.mono e.1 _ _ r⟩
  ow := fun i b zs h => by
    rcases get_set_cases h with ⟨hi, h'⟩ | ⟨hi, h⟩
    · subst hi
      cases h'
      refine ⟨a, vs, ha, h1, h2, h3, ?_⟩
      obtain ⟨a', _, e1, _, _, _, z2⟩ := k.ow i _ _ hj
      rw [ha] at e1
      cases e1
      exact z2
    · obtain ⟨a', vs', e1, e2, r, z1, z2⟩ := k.ow i b zs h
      have hne : some a ≠ some a' := fun z => k.ne i j b c zs xs a' hi h hj e1 (by rw [ha, Option.some.inj z])
      have ef : Rf.frm Φ H σ ρ (some a) a' = H a' := frm_own h e1 hne
      refine ⟨a', vs', e1, fh a' _ (by rw [ef, e2]), RepL.mono e.1 _ _ r, ?_, z2⟩
      cases q : Z' a' with
      | none => rfl
      | some o =>
        rcases e.2 a' o q with z | z
        · rw [z1] at z; cases z
        · rw [ef, e2] at z; cases z
  ne := fun i l b b' us ws w hne q1 q2 s1 s2 => by
    rcases get_set_cases q1 with ⟨i1, _⟩ | ⟨i1, p1⟩
    · subst i1
      rcases get_set_cases q2 with ⟨i2, _⟩ | ⟨i2, p2⟩
      · exact hne i2.symm
      · exact k.ne i l _ _ _ _ w hne hj p2 s1 s2
    · rcases get_set_cases q2 with ⟨i2, _⟩ | ⟨i2, p2⟩
      · subst i2
        exact k.ne i l _ _ _ _ w hne p1 hj s1 s2
      · exact k.ne i l _ _ _ _ w hne p1 p2 s1 s2
  bw := fun i us h => by
    rcases get_set_cases h with ⟨hi, h'⟩ | ⟨hi, h⟩
    · subst hi
      cases h'
      exact k.bw i _ hj
    · exact k.bw i us h
  lb := k.lb
theorem RetB.repP (k : Ok K G B Z Φ σ ρ H) {j : Nat} {c : Bool} {xs ys : List D} {a : Addr} (hj : ρ[j]? = some (.ow c xs)) (ha : σ[j]? = some (some (.ref a))) {pv : PV} {v : V} (r : RetB K G Z' (Rf.frm Φ H σ ρ (some a)) H' a pv v) : RepP K G Z' Φ σ (ρ.set j (.ow c ys)) H' pv v := by
  cases pv with
  | fz d => exact r
  | fr zs =>
    obtain ⟨b, vs, e, h, q, z, f, nb⟩ := r
    refine ⟨b, vs, e, h, q, z, k.frm_none f, fun i bb us h1 h2 => ?_⟩
    rcases get_set_cases h1 with ⟨hi, h1⟩ | ⟨hi, h1⟩
    · subst hi
      rw [ha] at h2
      cases h2
      exact nb rfl
    · exact k.frm_notown f (fun z => nb (Option.some.inj z).symm) i bb us h1 h2
  | «at» i => exact r.elim
end

def pvOk : PV → Bool
  | .at _ => false
  | _ => true
def callK (ρ : Rho) : R PV → R (PV × Rho)
  | .ok pv => .ok (pv, ρ)
  | .exc x => .exc x
  | .no => .no
def eCall (n : Nat) (F : Fn) (dd : List D) (fa : Ea) : Ev := fun ρ => (fa ρ).bind fun (ds, ρ1) => if (ds ++ dd).length == n then callK ρ1 (F (ds ++ dd)) else .no
def callB (j : Nat) (c : Bool) (ρ : Rho) : R (PV × List D) → R (PV × Rho)
  | .ok (pv, xs) => .ok (pv, ρ.set j (.ow c xs))
  | _ => .no
def callBK (j n : Nat) (F : FnB) : List D × Rho → R (PV × Rho) := fun p => match p.2[j]? with
  | some (.ow c xs) => if p.1.length + 1 == n then callB j c p.2 (F xs p.1) else .no
  | _ => .no
def eCallB (j n : Nat) (F : FnB) (fa : Ea) : Ev := fun ρ => match ρ[j]? with
  | some (.ow _ _) => (fa ρ).bind (callBK j n F)
  | _ => .no
section
variable {K : PySem.W.Frag} {G : Wd} {W : WX} {σ : L2.St} {H : Hp} {Q : VK}
theorem RepX.mk {x : Xc} {c : Value} {d : Option Addr} (h : RepX G H x c d) : RepX G H x c d := h
theorem te_call {n : Nat} {F : Fn} {dd : List D} {dvs : List V} {fa : Ea} (hd : ∀ Z, RepL K G Z dd dvs) (h : tE K G W (eCall n F dd fa) σ H Q) : tA K G W fa σ H (fun vs H1 => spF K G n F (vs ++ dvs) H1 Q (WE W σ)) := by
  refine te_bindA h fun B Z Φ ρ1 H1 vs ds k r q => ?_
  dsimp only at q
  split at q
  · rename_i hl
    refine ⟨Z, Rf.frm Φ H1 σ ρ1 none, ds ++ dd, k.zh, k.frm none, r.append (hd Z), eq_of_beq hl, ?_⟩
    cases hF : F (ds ++ dd) with
    | no => rw [hF] at q; exact q.elim
    | exc x =>
      rw [hF] at q
      exact fun Z' H' cls d e zh fh rx => q Z' H' cls d (Ext.frm k e) zh ((k.frm_sub none).trans fh) rx
    | ok pv =>
      rw [hF] at q
      exact fun Z' H' v e zh fh rp => q Z' H' v (Ext.frm k e) (k.after e zh fh) (RetP.repP k rp)
  · exact q.elim
theorem te_callB {j n : Nat} {F : FnB} {fa : Ea} {E : XK} (h : tE K G W (eCallB j n F fa) σ H Q) : tVar j σ H (fun x H0 => tA K G W fa σ H0 (fun vs H1 => spB K G n F (x :: vs ++ []) H1 Q E)) := by
  obtain ⟨B, Z, Φ, ρ, k, h⟩ := h
  unfold eCallB at h
  split at h
  · rename_i c0 xs0 hj0
    obtain ⟨a, vs0, e1, _⟩ := k.ow _ _ _ hj0
    refine ⟨.ref a, e1, ?_⟩
    have h' : tE K G W (fun ρ => (fa ρ).bind (callBK j n F)) σ H Q := ⟨B, Z, Φ, ρ, k, h⟩
    refine te_bindA h' fun B Z Φ ρ1 H1 vs ds k r q => ?_
    unfold callBK at q
    dsimp only at q
    split at q
    · rename_i c xs hj
      split at q
      · rename_i hl
        obtain ⟨a', ws, f1, f2, f3, f4, f5⟩ := k.ow _ _ _ hj
        rw [e1] at f1
        cases f1
        refine ⟨Z, Rf.frm Φ H1 σ ρ1 (some a), a, vs, ws, xs, ds, by rw [List.append_nil], f2, f3, f4, ?_, k.zh, k.frm _, r, eq_of_beq hl, ?_⟩
        · rcases frm_cases (Φ := Φ) (H := H1) (σ := σ) (ρ := ρ1) (b := some a) (c := a) with ⟨_, _, z⟩ | ⟨z, _⟩
          · exact absurd rfl z
          · rw [z]; exact f5
        · cases hF : F xs ds with
          | no => rw [hF] at q; exact q.elim
          | exc x => rw [hF] at q; exact q.elim
          | ok p =>
            obtain ⟨pv, ys⟩ := p
            rw [hF] at q
            exact fun Z' H' v us e zh fh g1 g2 g3 g4 => q Z' H' v (Ext.frm k e) (k.afterB hj e1 e zh fh g1 g2 g3) (RetB.repP k hj e1 g4)
      · exact q.elim
    · exact q.elim
  · exact h.elim
end

section
variable {X : Cx} {G : Wd} {W : WX} {k : Nat} {f : Addr} {fd : FuncData} {ps : List Str} {ds : List Value} {x : Str} {p pos : Pos} {e : Expr} {es : List Expr}
/-- f(e, ..) -/
theorem re_call {n : Nat} {F : Fn} {dd : List D} {dvs : List V} {fa : Ea} (Fo : FnOk X.prog X.w X.K X.mg X.base (L2.CX X.prog X.w) k f fd ps (spF X.K G n F)) (hr : Room k X.A) (hg : Gl X x) (hm : X.mg x = some (.ref f)) (hk : PySem.W.keepIn X.K (.ref f) = true) (hb : Binds X.K fd ps ds) (hd : Vals dvs ds)
    (hdd : ∀ Z, RepL X.K G Z dd dvs) (tk : Takes X W) (ha : PA X (e :: es) (tA X.K G W fa)) (hdb : (x == ("__debug__" : Str)) = false := by decide) (he : starEach (e :: es) X.env = (false, eval e X.env) :: starEach es X.env := by rfl) (hpl : (backTo pos (starEach es X.env)).any (·.1) = false := by rfl) :
    PE X (.Call (.Name x p) (e :: es) [] pos) (tE X.K G W (eCall n F dd fa)) := (pe_callSD Fo hr hg hm hk hb hd (passAt tk) ha hdb he hpl).imp fun σ H Q h => te_call hdd h
/-- f(s, e, ..), s the name of a list of our own that f changes -/
theorem re_callB {n j : Nat} {F : FnB} {fa : Ea} {y : Str} {py : Pos} (Fo : FnOk X.prog X.w X.K X.mg X.base (L2.CX X.prog X.w) k f fd ps (spB X.K G n F)) (hr : Room k X.A) (hg : Gl X x) (hm : X.mg x = some (.ref f)) (hk : PySem.W.keepIn X.K (.ref f) = true) (hb : Binds X.K fd ps []) (tk : Takes X W)
    (hN : X.N[j]? = some y) (hv : Vis X.env.scope y) (ha : PA X es (tA X.K G W fa)) (hdb : (x == ("__debug__" : Str)) = false := by decide) (hd : (y == ("__debug__" : Str)) = false := by decide) (hcd : (y == ("__classdict__" : Str)) = false := by decide)
    (he : starEach (.Name y py :: es) X.env = (false, eval (.Name y py) X.env) :: starEach es X.env := by rfl) (hpl : (backTo pos (starEach es X.env)).any (·.1) = false := by rfl) :
    PE X (.Call (.Name x p) (.Name y py :: es) [] pos) (tE X.K G W (eCallB j n F fa)) :=
  (pe_callSD (dvs := []) (ds := []) Fo hr hg hm hk hb .nil (passAt tk) (pa_cons (pe_var hN hv hd hcd) ha he) hdb he hpl).imp fun σ H Q h => te_callB h

/-! ### a call of a local name that holds a def -/
def callDK (tab : Nat → Option (Nat × Fn)) (j : Nat) : List D × Rho → R (PV × Rho) := fun p => match p.2[j]? with
  | some (.fz (.fn m)) => match tab m with
    | some (n, F) => if p.1.length == n then callK p.2 (F p.1) else .no
    | none => .no
  | _ => .no
def eCallD (tab : Nat → Option (Nat × Fn)) (j : Nat) (fa : Ea) : Ev := fun ρ => match ρ[j]? with
  | some (.fz (.fn m)) => match tab m with
    | some (n, F) => (fa ρ).bind fun (ds, ρ1) => if ds.length == n then callK ρ1 (F ds) else .no
    | none => .no
  | _ => .no
structure Held' (X : Cx) (G : Wd) (k m n : Nat) (F : Fn) : Prop where
  ex : ∃ (fd : FuncData) (ps : List Str), FnOk X.prog X.w X.K X.mg X.base (L2.CX X.prog X.w) k (G.fnA m) fd ps (spF X.K G n F) ∧ PySem.W.keepIn X.K (.ref (G.fnA m)) = true ∧ Binds X.K fd ps []
theorem re_callD {tab : Nat → Option (Nat × Fn)} {j : Nat} {fa : Ea} (A : ∀ m n F, tab m = some (n, F) → Held' X G k m n F) (hr : Room k X.A) (hN : X.N[j]? = some x) (hv : Vis X.env.scope x) (tk : Takes X W) (ha : PA X (e :: es) (tA X.K G W fa))
    (hdb : (x == ("__debug__" : Str)) = false := by decide) (hcd : (x == ("__classdict__" : Str)) = false := by decide)
    (he : starEach (e :: es) X.env = (false, eval e X.env) :: starEach es X.env := by rfl) (hpl : (backTo pos (starEach es X.env)).any (·.1) = false := by rfl) : PE X (.Call (.Name x p) (e :: es) [] pos) (tE X.K G W (eCallD tab j fa)) := by
  refine ⟨fun pins s σ H Q I h => ?_⟩
  obtain ⟨B, Z, Φ, ρ, ok, h⟩ := h
  unfold eCallD at h
  split at h
  · rename_i m hj
    obtain ⟨v, hs, rv⟩ := ok.fz _ _ hj
    cases (show v = .ref (G.fnA m) from rv)
    split at h
    · rename_i n F ht
      obtain ⟨fd, ps, Fo, hk, hb⟩ := (A m n F ht).ex
      refine wpAny_Call_Name_kw (thn ((pe_var (pos := p) hN hv hdb hcd).run pins s σ H (fun v H1 => v = .ref (G.fnA m) ∧ H1 = H) I ⟨.ref (G.fnA m), hs, rfl, rfl⟩) fun u s1 ⟨v, H1, I1, r1, q1⟩ => ?_)
      obtain ⟨rfl, rfl⟩ := q1
      cases r1
      have h' : tE X.K G W (eCall n F [] fa) σ H1 Q := by
        refine ⟨B, Z, Φ, ρ, ok, ?_⟩
        unfold eCall
        simp only [List.append_nil]
        exact h
      have h2 := te_call (dvs := []) (fun Z => (show RepL X.K G Z [] [] from rfl)) h'
      refine PySem.W.callWith_K (h₀ := X.base) I.ok.mod.kin hk (thn (ha.run pos pins s1 σ _ _ I1 h2) fun us s2 ⟨vs, H2, I2, r, q⟩ => ⟨I2.kIn, ?_⟩) he hpl
      exact run_fnSD (dvs := []) (ds := []) (E := WE W) Fo hr hb .nil (passAt tk σ) I2 r q
    · exact h.elim
  · exact h.elim
end
end Rf
end
section
set_option Elab.async false
set_option linter.all false
set_option maxRecDepth 100000
set_option maxHeartbeats 4000000
/-! Rf, part F: targets, what is walked, comprehensions. -/
namespace Rf
open PySem PySem.Spec PyProof.Rows L2

section
variable {K : PySem.W.Frag} {G : Wd} {B : L2.St} {Z Z' Φ H H' : Hp} {σ σ' : L2.St} {ρ ρ' : Rho} {i : Nat} {v : V} {d : D}
def fixed : Option Cell → Bool
  | some (.ow true _) => true
  | _ => false
/-- slot i becomes c -/
def setR (i : Nat) (c : Cell) (ρ : Rho) : Option Rho := if fixed ρ[i]? || !Nat.blt i ρ.length then none else some (ρ.set i c)
theorem setR_some {c : Cell} (h : setR i c ρ = some ρ') : (∀ xs, ρ[i]? ≠ some (.ow true xs)) ∧ i < ρ.length ∧ ρ' = ρ.set i c := by
  unfold setR at h
  split at h
  · cases h
  · rename_i hc
    cases h
    simp only [Bool.not_eq_true, Bool.or_eq_false_iff, Bool.not_eq_false'] at hc
    refine ⟨fun xs e => ?_, Nat.lt_of_succ_le (Nat.le_of_ble_eq_true hc.2), rfl⟩
    rw [e] at hc
    cases hc.1
theorem get_set_self {α : Type} {l : List α} {i : Nat} {x : α} (h : i < l.length) : (l.set i x)[i]? = some x := List.getElem?_set_self h
theorem Ok.set (k : Ok K G B Z Φ σ ρ H) (h : setR i (.fz d) ρ = some ρ') (r : Rep K G Z d v) : Ok K G B Z Φ (σ.set i (some v)) ρ' H := by
  obtain ⟨hf, hl, rfl⟩ := setR_some h
  have hl' : i < σ.length := by rw [k.len]; exact hl
  refine ⟨k.zh, k.fh, by rw [List.length_set, List.length_set]; exact k.len, fun j e q => ?_, fun j b xs q => ?_, fun j l b c xs ys a hne q1 q2 s1 s2 => ?_, fun j xs q => ?_, by rw [List.length_set]; exact k.lb⟩
  · rcases get_set_cases q with ⟨z, q1⟩ | ⟨z, q1⟩
    · subst z
      cases q1
      exact ⟨v, get_set_self hl', r⟩
    · rw [List.getElem?_set_ne (Ne.symm z)]
      exact k.fz j e q1
  · rcases get_set_cases q with ⟨z, q1⟩ | ⟨z, q1⟩
    · cases q1
    · rw [List.getElem?_set_ne (Ne.symm z)]
      exact k.ow j b xs q1
  · rcases get_set_cases q1 with ⟨_, p1⟩ | ⟨z1, p1⟩
    · cases p1
    · rcases get_set_cases q2 with ⟨_, p2⟩ | ⟨z2, p2⟩
      · cases p2
      · rw [List.getElem?_set_ne (Ne.symm z1)] at s1
        rw [List.getElem?_set_ne (Ne.symm z2)] at s2
        exact k.ne j l b c xs ys a hne p1 p2 s1 s2
  · rcases get_set_cases q with ⟨_, p⟩ | ⟨z, p⟩
    · cases p
    · rw [List.getElem?_set_ne (Ne.symm z)]
      exact k.bw j xs p
theorem Ok.setF {xs : List D} (k : Ok K G B Z Φ σ ρ H) (h : setR i (.ow false xs) ρ = some ρ') (r : RepP K G Z Φ σ ρ H (.fr xs) v) : Ok K G B Z Φ (σ.set i (some v)) ρ' H := by
  obtain ⟨hf, hl, rfl⟩ := setR_some h
  have hl' : i < σ.length := by rw [k.len]; exact hl
  obtain ⟨a, vs, rfl, h1, h2, h3, h4, h5⟩ := r
  refine ⟨k.zh, k.fh, by rw [List.length_set, List.length_set]; exact k.len, fun j e q => ?_, fun j b xs q => ?_, fun j l b c xs ys a' hne q1 q2 s1 s2 => ?_, fun j xs q => ?_, by rw [List.length_set]; exact k.lb⟩
  · rcases get_set_cases q with ⟨z, q1⟩ | ⟨z, q1⟩
    · cases q1
    · rw [List.getElem?_set_ne (Ne.symm z)]
      exact k.fz j e q1
  · rcases get_set_cases q with ⟨z, q1⟩ | ⟨z, q1⟩
    · subst z
      cases q1
      exact ⟨a, vs, get_set_self hl', h1, h2, h3, h4⟩
    · rw [List.getElem?_set_ne (Ne.symm z)]
      exact k.ow j b xs q1
  · rcases get_set_cases q1 with ⟨z1, p1⟩ | ⟨z1, p1⟩
    · subst z1
      rcases get_set_cases q2 with ⟨z2, p2⟩ | ⟨z2, p2⟩
      · exact hne z2.symm
      · rw [get_set_self hl'] at s1
        cases s1
        rw [List.getElem?_set_ne (Ne.symm z2)] at s2
        exact h5 l c ys p2 s2
    · rcases get_set_cases q2 with ⟨z2, p2⟩ | ⟨z2, p2⟩
      · subst z2
        rw [get_set_self hl'] at s2
        cases s2
        rw [List.getElem?_set_ne (Ne.symm z1)] at s1
        exact h5 j b xs p1 s1
      · rw [List.getElem?_set_ne (Ne.symm z1)] at s1
        rw [List.getElem?_set_ne (Ne.symm z2)] at s2
        exact k.ne j l b c xs ys a' hne p1 p2 s1 s2
  · rcases get_set_cases q with ⟨_, p⟩ | ⟨z, p⟩
    · cases p
    · rw [List.getElem?_set_ne (Ne.symm z)]
      exact k.bw j xs p
/-- slots forgotten -/
def wipeR (ρ : Rho) : List Nat → Rho
  | [] => ρ
  | v :: vs => (wipeR ρ vs).set v .un
theorem wipeR_get {ρ : Rho} {i : Nat} {c : Cell} : ∀ {vs : List Nat}, (wipeR ρ vs)[i]? = some c → c = .un ∨ (ρ[i]? = some c ∧ i ∉ vs)
  | [], h => .inr ⟨h, by simp⟩
  | v :: vs, h => by
    rcases get_set_cases h with ⟨z, q⟩ | ⟨z, q⟩
    · exact .inl q
    · rcases wipeR_get q with q | ⟨q, n⟩
      · exact .inl q
      · exact .inr ⟨q, by simp [z, n]⟩
theorem wipeR_length (ρ : Rho) : ∀ vs : List Nat, (wipeR ρ vs).length = ρ.length
  | [] => rfl
  | v :: vs => by unfold wipeR; rw [List.length_set, wipeR_length ρ vs]
theorem Ok.wipe (k : Ok K G B Z Φ σ ρ H) (vs : List Nat) : Ok K G B Z Φ (L2.wipe σ vs) (wipeR ρ vs) H := by
  refine ⟨k.zh, k.fh, by rw [L2.wipe_length, wipeR_length]; exact k.len, fun j e q => ?_, fun j b xs q => ?_, fun j l b c xs ys a hne q1 q2 s1 s2 => ?_, fun j xs q => ?_, by rw [L2.wipe_length]; exact k.lb⟩
  · rcases wipeR_get q with z | ⟨q, n⟩
    · cases z
    · rw [wipe_out n]; exact k.fz j e q
  · rcases wipeR_get q with z | ⟨q, n⟩
    · cases z
    · rw [wipe_out n]; exact k.ow j b xs q
  · rcases wipeR_get q1 with z | ⟨q1, n1⟩
    · cases z
    · rcases wipeR_get q2 with z | ⟨q2, n2⟩
      · cases z
      · rw [wipe_out n1] at s1
        rw [wipe_out n2] at s2
        exact k.ne j l b c xs ys a hne q1 q2 s1 s2
  · rcases wipeR_get q with z | ⟨q, n⟩
    · cases z
    · rw [wipe_out n]; exact k.bw j xs q
/-- wiped slots, as they were ahead of the block -/
def backR (ρ ρ0 : Rho) : List Nat → Rho
  | [] => ρ
  | v :: vs => (backR ρ ρ0 vs).set v (ρ0[v]?.getD .un)
theorem backR_length (ρ ρ0 : Rho) : ∀ vs : List Nat, (backR ρ ρ0 vs).length = ρ.length
  | [] => rfl
  | v :: vs => by unfold backR; rw [List.length_set, backR_length ρ ρ0 vs]
theorem backR_get {ρ ρ0 : Rho} {i : Nat} {c : Cell} : ∀ {vs : List Nat}, (backR ρ ρ0 vs)[i]? = some c → (i ∈ vs ∧ c = ρ0[i]?.getD .un) ∨ (i ∉ vs ∧ ρ[i]? = some c)
  | [], h => .inr ⟨by simp, h⟩
  | v :: vs, h => by
    rcases get_set_cases h with ⟨z, q⟩ | ⟨z, q⟩
    · subst z
      exact .inl ⟨by simp, q⟩
    · rcases backR_get q with ⟨n, q⟩ | ⟨n, q⟩
      · exact .inl ⟨by simp [n], q⟩
      · exact .inr ⟨by simp [z, n], q⟩
def noOwn (ρ : Rho) : List Nat → Bool
  | [] => true
  | v :: vs => (match ρ[v]? with | some (.ow _ _) => false | _ => true) && noOwn ρ vs
theorem noOwn_get {ρ : Rho} {i : Nat} {b : Bool} {xs : List D} : ∀ {vs : List Nat}, noOwn ρ vs = true → i ∈ vs → ρ[i]? ≠ some (.ow b xs)
  | v :: vs, h, m, e => by
    unfold noOwn at h
    rw [Bool.and_eq_true] at h
    rcases List.mem_cons.mp m with z | m
    · subst z
      rw [e] at h
      cases h.1
    · exact noOwn_get h.2 m e
theorem Ok.back {ρ0 : Rho} {vs : List Nat} (k0 : Ok K G B Z Φ σ ρ0 H) (s : Same Z Z') (k : Ok K G B Z' Φ (L2.wipe σ vs) ρ H') (n : noOwn ρ0 vs = true) : Ok K G B Z' Φ σ (backR ρ ρ0 vs) H' := by
  have un : ∀ {i : Nat} {b : Bool} {xs : List D}, i ∈ vs → ρ0[i]?.getD .un = .ow b xs → False := fun {i b xs} m e => by
    cases q : ρ0[i]? with
    | none => rw [q] at e; cases e
    | some c =>
      rw [q] at e
      exact noOwn_get n m (q.trans (congrArg some e))
  refine ⟨k.zh, k.fh, by rw [backR_length, ← k.len, L2.wipe_length], fun j e q => ?_, fun j b xs q => ?_, fun j l b c xs ys a hne q1 q2 s1 s2 => ?_, fun j xs q => ?_, k0.lb⟩
  · rcases backR_get q with ⟨m, z⟩ | ⟨m, q⟩
    · cases q : ρ0[j]? with
      | none => rw [q] at z; cases z
      | some c =>
        rw [q] at z
        cases z
        obtain ⟨v, e1, r⟩ := k0.fz j e q
        exact ⟨v, e1, Rep.mono s _ _ r⟩
    · rw [← wipe_out m]; exact k.fz j e q
  · rcases backR_get q with ⟨m, z⟩ | ⟨m, q⟩
    · exact (un m z.symm).elim
    · rw [← wipe_out m]; exact k.ow j b xs q
  · rcases backR_get q1 with ⟨m, z⟩ | ⟨m1, q1⟩
    · exact (un m z.symm).elim
    · rcases backR_get q2 with ⟨m, z⟩ | ⟨m2, q2⟩
      · exact (un m z.symm).elim
      · rw [← wipe_out m1] at s1
        rw [← wipe_out m2] at s2
        exact k.ne j l b c xs ys a hne q1 q2 s1 s2
  · rcases backR_get q with ⟨m, z⟩ | ⟨m, q⟩
    · exact (un m z.symm).elim
    · rw [← wipe_out m]; exact k.bw j xs q
end

/-! ### targets -/
inductive Tg where
  | nm (i : Nat) | tp (is : List Nat)
def Tg.vs : Tg → List Nat
  | .nm i => [i]
  | .tp is => is
def bindL : List Nat → List D → Rho → Option Rho
  | [], [], ρ => some ρ
  | i :: is, d :: ds, ρ => match setR i (.fz d) ρ with
    | some ρ1 => bindL is ds ρ1
    | none => none
  | _, _, _ => none
def bindT : Tg → D → Rho → Option Rho
  | .nm i, d, ρ => setR i (.fz d) ρ
  | .tp is, .tup ds, ρ => bindL is ds ρ
  | _, _, _ => none
def gNames : List Nat → TGs
  | [] => gNil
  | i :: is => gCons (gName i) (gNames is)
def tgR (K : PySem.W.Frag) : Tg → TG
  | .nm i => gName i
  | .tp is => L2.gTup K is.length (gNames is)
theorem wipe_set {i : Nat} {x : Option V} : ∀ {vs : List Nat} {σ : L2.St}, i ∈ vs → wipe (σ.set i x) vs = wipe σ vs
  | v :: vs, σ, m => by
    unfold wipe
    by_cases h : i ∈ vs
    · rw [wipe_set h]
    · have e : v = i := by
        rcases List.mem_cons.mp m with z | z
        · exact z.symm
        · exact absurd z h
      subst e
      have : ∀ us : List Nat, wipe (σ.set v x) us = (wipe σ us).set v ((wipe (σ.set v x) us)[v]?.getD none) ∨ wipe (σ.set v x) us = wipe σ us := fun us => by
        induction us with
        | nil =>
          by_cases hv : v < σ.length
          · left
            show σ.set v x = σ.set v (((σ.set v x)[v]?).getD none)
            rw [List.getElem?_set_self hv]
            rfl
          · right
            exact List.set_eq_of_length_le (by omega)
        | cons u us ih =>
          by_cases hu : u = v
          · subst hu
            right
            unfold wipe
            rcases ih with ih | ih
            · rw [ih, List.set_set]
            · rw [ih]
          · rcases ih with ih | ih
            · left
              unfold wipe
              have e2 : ((wipe (σ.set v x) us).set u none)[v]? = (wipe (σ.set v x) us)[v]? := List.getElem?_set_ne hu
              rw [e2]
              conv => lhs; rw [ih]
              rw [List.set_comm _ _ (Ne.symm hu)]
            · right
              unfold wipe
              rw [ih]
      rcases this vs with q | q
      · rw [q, List.set_set]
      · rw [q]
theorem wipe_wipe {σ : L2.St} {us : List Nat} : ∀ {vs : List Nat}, (∀ v ∈ vs, v ∈ us) → wipe (wipe σ vs) us = wipe σ us
  | [], _ => rfl
  | v :: vs, h => by
    show wipe ((wipe σ vs).set v none) us = wipe σ us
    rw [wipe_set (h v List.mem_cons_self), wipe_wipe fun u m => h u (List.mem_cons_of_mem _ m)]
section
variable {K : PySem.W.Frag} {G : Wd} {B : L2.St} {Z Φ H : Hp}
theorem names_ok {vs : List Nat} : ∀ {is : List Nat} {ds : List D} {xs : List V} {σ : L2.St} {ρ ρ' : Rho} {Q : L2.St → Hp → Prop}, Ok K G B Z Φ σ ρ H → RepL K G Z ds xs → bindL is ds ρ = some ρ' → (∀ i ∈ is, i ∈ vs) →
    (∀ σ', Ok K G B Z Φ σ' ρ' H → wipe σ' vs = wipe σ vs → Q σ' H) → gNames is xs σ H Q
  | [], [], xs, σ, ρ, ρ', Q, k, r, h, _, q => by
    cases h
    exact ⟨r, q σ k rfl⟩
  | i :: is, d :: ds, xs, σ, ρ, ρ', Q, k, r, h, m, q => by
    obtain ⟨v, us, rfl, r1, r2⟩ := r
    unfold bindL at h
    split at h
    · rename_i ρ1 h1
      refine ⟨v, us, rfl, names_ok (k.set h1 r1) r2 h (fun j hj => m j (List.mem_cons_of_mem _ hj)) fun σ' k' e => q σ' k' ?_⟩
      rw [e, wipe_set (m i List.mem_cons_self)]
    · cases h
  | [], _ :: _, _, _, _, _, _, _, _, h, _, _ => by cases h
  | _ :: _, [], _, _, _, _, _, _, _, h, _, _ => by cases h
theorem tg_ok {vs : List Nat} {t : Tg} {d : D} {x : V} {σ : L2.St} {ρ ρ' : Rho} {Q : L2.St → Hp → Prop} (k : Ok K G B Z Φ σ ρ H) (r : Rep K G Z d x) (h : bindT t d ρ = some ρ') (m : ∀ i ∈ t.vs, i ∈ vs) (q : ∀ σ', Ok K G B Z Φ σ' ρ' H → wipe σ' vs = wipe σ vs → Q σ' H) : tgR K t x σ H Q := by
  cases t with
  | nm i => exact q _ (k.set h r) (wipe_set (m i (by simp [Tg.vs])))
  | tp is =>
    cases d with
    | tup ds =>
      obtain ⟨a, us, rfl, sa, ra⟩ := r
      refine ⟨a, us, rfl, Same.seqT k.zh sa, ?_, names_ok k ra h m q⟩
      have : ∀ {is : List Nat} {ds : List D} {ρ : Rho}, bindL is ds ρ = some ρ' → is.length = ds.length := by
        intro is
        induction is with
        | nil => intro ds ρ h; cases ds <;> first | rfl | cases h
        | cons i is ih =>
          intro ds ρ h
          cases ds with
          | nil => cases h
          | cons d ds =>
            unfold bindL at h
            split at h
            · rw [List.length_cons, List.length_cons, ih h]
            · cases h
      rw [this h, ra.length]
    | _ => cases h
end

/-! ### what is walked -/
abbrev Ei := Rho → R (List D × Rho)
structure ItOk (K : PySem.W.Frag) (G : Wd) (Z : Hp) (ds : List D) (J : It) : Prop where
  goes : ∀ i H, i < ds.length → Same Z H → J.go i H
  stops : ∀ H, Same Z H → J.stop ds.length H
  yields : ∀ i H x H' d Z1, ds[i]? = some d → Same Z Z1 → Same Z1 H → J.yld i H x H' → ∃ Z2, Stp K G Z1 H (.fz d) x Z2 H'
def PostI (K : PySem.W.Frag) (G : Wd) (W : WX) (B : L2.St) (Z Φ : Hp) (σ : L2.St) (Q : It → Hp → Prop) : R (List D × Rho) → Prop
  | .ok (ds, ρ') => ∀ Z' H' J, Ext Z Φ Z' → Ok K G B Z' Φ σ ρ' H' → ItOk K G Z' ds J → Q J H'
  | .exc x => PostX G W Z Φ σ x
  | .no => False
def tI (K : PySem.W.Frag) (G : Wd) (W : WX) (f : Ei) : TI := fun σ H Q => ∃ B Z Φ ρ, Ok K G B Z Φ σ ρ H ∧ PostI K G W B Z Φ σ Q (f ρ)
theorem _root_.L2.PI.imp {X : Cx} {tg e : Expr} {t t' : TI} (h : PI X tg e t) (k : ∀ σ H Q, t' σ H Q → t σ H Q) : PI X tg e t' := ⟨fun pins s σ H Q I q => h.run pins s σ H Q I (k σ H Q q)⟩
theorem piOr {X : Cx} {tg e : Expr} {t t' : TI} (h : PI X tg e t) (h' : PI X tg e t') : PI X tg e (fun σ H Q => t σ H Q ∨ t' σ H Q) := ⟨fun pins s σ H Q I q => q.elim (h.run pins s σ H Q I) (h'.run pins s σ H Q I)⟩
section
variable {K : PySem.W.Frag} {G : Wd} {W : WX} {B : L2.St} {Z Φ H : Hp} {σ : L2.St}
theorem ti_bindE {fa : Ev} {k : PV × Rho → R (List D × Rho)} {Q : It → Hp → Prop} {P : V → Hp → Prop} (h : tI K G W (fun ρ => (fa ρ).bind k) σ H Q)
    (n : ∀ B Z Φ ρ1 H1 x pa, Ok K G B Z Φ σ ρ1 H1 → RepP K G Z Φ σ ρ1 H1 pa x → PostI K G W B Z Φ σ Q (k (pa, ρ1)) → P x H1) : tE K G W fa σ H P := by
  obtain ⟨B, Z, Φ, ρ, ok, h⟩ := h
  refine ⟨B, Z, Φ, ρ, ok, ?_⟩
  dsimp only at h
  cases ha : fa ρ with
  | no => rw [ha] at h; exact h.elim
  | exc x => rw [ha] at h; exact h
  | ok p =>
    obtain ⟨pa, ρ1⟩ := p
    rw [ha] at h
    intro Z1 H1 x e1 k1 r1
    refine n B Z1 Φ ρ1 H1 x pa k1 r1 ?_
    change PostI K G W B Z Φ σ Q (k (pa, ρ1)) at h
    cases hk : k (pa, ρ1) with
    | no => rw [hk] at h; exact h.elim
    | exc x => rw [hk] at h; exact PostX.ext h e1
    | ok p =>
      rw [hk] at h
      exact fun Z2 H2 v e2 k2 r2 => h Z2 H2 v (e1.trans e2) k2 r2
theorem ti_bindA {fa : Ea} {k : List D × Rho → R (List D × Rho)} {Q : It → Hp → Prop} {P : List V → Hp → Prop} (h : tI K G W (fun ρ => (fa ρ).bind k) σ H Q)
    (n : ∀ B Z Φ ρ1 H1 vs ds, Ok K G B Z Φ σ ρ1 H1 → RepL K G Z ds vs → PostI K G W B Z Φ σ Q (k (ds, ρ1)) → P vs H1) : tA K G W fa σ H P := by
  obtain ⟨B, Z, Φ, ρ, ok, h⟩ := h
  refine ⟨B, Z, Φ, ρ, ok, ?_⟩
  dsimp only at h
  cases ha : fa ρ with
  | no => rw [ha] at h; exact h.elim
  | exc x => rw [ha] at h; exact h
  | ok p =>
    obtain ⟨pa, ρ1⟩ := p
    rw [ha] at h
    intro Z1 H1 vs e1 k1 r1
    refine n B Z1 Φ ρ1 H1 vs pa k1 r1 ?_
    change PostI K G W B Z Φ σ Q (k (pa, ρ1)) at h
    cases hk : k (pa, ρ1) with
    | no => rw [hk] at h; exact h.elim
    | exc x => rw [hk] at h; exact PostX.ext h e1
    | ok p =>
      rw [hk] at h
      exact fun Z2 H2 v e2 k2 r2 => h Z2 H2 v (e1.trans e2) k2 r2
theorem yat {xs : List V} {ds : List D} {i : Nat} {d : D} {Z1 H1 : Hp} {x : V} (r : RepL K G Z ds xs) (e : ds[i]? = some d) (hx : xs[i]? = some x) (s : Same Z Z1) : ∃ Z2, Stp K G Z1 H1 (.fz d) x Z2 H1 := by
  obtain ⟨v, h1, h2⟩ := r.get e
  rw [hx] at h1
  cases h1
  exact ⟨Z1, .same (Rep.mono s _ _ h2)⟩
theorem it_list {a : Addr} {xs : List V} {ds : List D} (q : SqL K Z a xs) (r : RepL K G Z ds xs) : ItOk K G Z ds (Itl K a) where
  goes := fun i H hi s => walk_list.goes i H (by rw [← r.length]; exact hi) (s.seq q)
  stops := fun H s => by rw [r.length]; exact walk_list.stops H (s.seq q)
  yields := fun i H x H' d Z1 e s s1 y => by
    have hi : i < xs.length := by
      rw [← r.length]
      exact (List.getElem?_eq_some_iff.mp e).1
    obtain ⟨rfl, hx⟩ := walk_list.yields i H x H' hi ((s.trans s1).seq q) y
    exact yat r e hx s
theorem it_tup {a : Addr} {xs : List V} {ds : List D} (q : SqT K Z a xs) (r : RepL K G Z ds xs) : ItOk K G Z ds (Itt K a) where
  goes := fun i H hi s => walk_tup.goes i H (by rw [← r.length]; exact hi) (Same.seqT s q)
  stops := fun H s => by rw [r.length]; exact walk_tup.stops H (Same.seqT s q)
  yields := fun i H x H' d Z1 e s s1 y => by
    have hi : i < xs.length := by
      rw [← r.length]
      exact (List.getElem?_eq_some_iff.mp e).1
    obtain ⟨rfl, hx⟩ := walk_tup.yields i H x H' hi (Same.seqT (s.trans s1) q) y
    exact yat r e hx s
def rangeD (lo : Int) (n : Nat) : List D := (List.range n).map fun (i : Nat) => .int (lo + (i : Int))
theorem rangeD_length {lo : Int} {n : Nat} : (rangeD lo n).length = n := by
  unfold rangeD
  rw [List.length_map, List.length_range]
theorem rangeD_get {lo : Int} {n i : Nat} {d : D} (h : (rangeD lo n)[i]? = some d) : i < n ∧ d = .int (lo + i) := by
  unfold rangeD at h
  rw [List.getElem?_map, Option.map_eq_some_iff] at h
  obtain ⟨j, h1, h2⟩ := h
  obtain ⟨h3, h4⟩ := List.getElem?_eq_some_iff.mp h1
  rw [List.getElem_range] at h4
  rw [List.length_range] at h3
  subst h4
  exact ⟨h3, h2.symm⟩
theorem it_range {lo : Int} {n : Nat} : ItOk K G Z (rangeD lo n) (Itr lo n) where
  goes := fun i H hi _ => by rw [rangeD_length] at hi; exact hi
  stops := fun H _ => by rw [rangeD_length]; exact Nat.le_refl _
  yields := fun i H x H' d Z1 e s s1 y => by
    obtain ⟨hi, rfl⟩ := rangeD_get e
    obtain ⟨rfl, rfl⟩ := y
    exact ⟨Z1, .same rfl⟩
def rangeC (lo c : Int) (n : Nat) : List D := (List.range n).map fun (i : Nat) => .int (lo + (i : Int) * c)
theorem rangeC_length {lo c : Int} {n : Nat} : (rangeC lo c n).length = n := by
  unfold rangeC
  rw [List.length_map, List.length_range]
theorem it_rangeC {lo c : Int} {n : Nat} : ItOk K G Z (rangeC lo c n) (Itc lo c n) where
  goes := fun i H hi _ => by rw [rangeC_length] at hi; exact hi
  stops := fun H _ => by rw [rangeC_length]; exact Nat.le_refl _
  yields := fun i H x H' d Z1 h s s1 y => by
    unfold rangeC at h
    rw [List.getElem?_map, Option.map_eq_some_iff] at h
    obtain ⟨j, h1, h2⟩ := h
    obtain ⟨h3, h4⟩ := List.getElem?_eq_some_iff.mp h1
    rw [List.getElem_range] at h4
    subst h4
    subst h2
    obtain ⟨rfl, rfl⟩ := y
    exact ⟨Z1, .same rfl⟩
def zipD : List D → List D → List D
  | a :: as, b :: bs => .tup [a, b] :: zipD as bs
  | _, _ => []
theorem zipD_length : ∀ (as bs : List D), (zipD as bs).length = min as.length bs.length
  | [], bs => by simp [zipD]
  | _ :: _, [] => by simp [zipD]
  | a :: as, b :: bs => by
    show (zipD as bs).length + 1 = min (as.length + 1) (bs.length + 1)
    rw [zipD_length as bs]
    omega
theorem zipD_get : ∀ {as bs : List D} {i : Nat} {d : D}, (zipD as bs)[i]? = some d → ∃ a b, d = .tup [a, b] ∧ as[i]? = some a ∧ bs[i]? = some b
  | [], bs, i, d, h => by simp [zipD] at h
  | _ :: _, [], i, d, h => by simp [zipD] at h
  | a :: as, b :: bs, 0, d, h => by
    have e : D.tup [a, b] = d := by simpa [zipD] using h
    exact ⟨a, b, e.symm, rfl, rfl⟩
  | a :: as, b :: bs, i + 1, d, h => by
    obtain ⟨x, y, h1, h2, h3⟩ := zipD_get (as := as) (bs := bs) (i := i) (d := d) (by simpa [zipD] using h)
    exact ⟨x, y, h1, by simpa using h2, by simpa using h3⟩
theorem pair_stp {x y : V} {a b : D} {T : Addr} {Z1 H1 : Hp} (hT : H1 T = none) (s1 : Same Z1 H1) (ra : Rep K G Z1 a x) (rb : Rep K G Z1 b y) : ∃ Z2, Stp K G Z1 H1 (.fz (.tup [a, b])) (.ref T) Z2 (upd H1 T (.tup [x, y])) :=
  have m : Same Z1 (upd Z1 T (.tup [x, y])) := same_newZ (Same.none s1 hT)
  ⟨_, .newZ hT ⟨T, [x, y], rfl, .inl (.inl upd_same), x, [y], rfl, Rep.mono m _ _ ra, y, [], rfl, Rep.mono m _ _ rb, rfl⟩⟩
theorem it_zipL {a b : Addr} {xs ys : List V} {ds es : List D} (q : SqL K Z a xs) (q2 : SqL K Z b ys) (r : RepL K G Z ds xs) (r2 : RepL K G Z es ys) : ItOk K G Z (zipD ds es) (Itz K a b) where
  goes := fun i H hi s => (walk_zip (n := min xs.length ys.length) rfl).goes i H (by rw [zipD_length, r.length, r2.length] at hi; exact hi) ⟨s.seq q, s.seq q2⟩
  stops := fun H s => by rw [zipD_length, r.length, r2.length]; exact (walk_zip (n := min xs.length ys.length) rfl).stops H ⟨s.seq q, s.seq q2⟩
  yields := fun i H x H' d Z1 e s s1 y => by
    have hi : i < (zipD ds es).length := (List.getElem?_eq_some_iff.mp e).1
    obtain ⟨d1, d2, rfl, e1, e2⟩ := zipD_get e
    rw [zipD_length, r.length, r2.length] at hi
    obtain ⟨T, x1, x2, rfl, hT, rfl, h1, h2⟩ := (walk_zip (n := min xs.length ys.length) rfl).yields i H x H' hi ⟨(s.trans s1).seq q, (s.trans s1).seq q2⟩ y
    obtain ⟨v1, f1, f2⟩ := r.get e1
    obtain ⟨v2, g1, g2⟩ := r2.get e2
    have h1' : xs[i]? = some x1 := h1
    have h2' : ys[i]? = some x2 := h2
    rw [h1'] at f1
    rw [h2'] at g1
    cases f1
    cases g1
    exact pair_stp hT s1 (Rep.mono s _ _ f2) (Rep.mono s _ _ g2)
theorem it_zipT {a b : Addr} {xs ys : List V} {ds es : List D} (q : SqT K Z a xs) (q2 : SqT K Z b ys) (r : RepL K G Z ds xs) (r2 : RepL K G Z es ys) : ItOk K G Z (zipD ds es) (RZ.ItzT K a b) where
  goes := fun i H hi s => by
    rw [zipD_length, r.length, r2.length] at hi
    exact ⟨xs, ys, xs[i]'(by omega), ys[i]'(by omega), Same.seqT s q, Same.seqT s q2, by simp [show i < xs.length by omega], by simp [show i < ys.length by omega]⟩
  stops := fun H s => by
    rw [zipD_length, r.length, r2.length]
    exact ⟨xs, ys, Same.seqT s q, Same.seqT s q2, by omega⟩
  yields := fun i H x H' d Z1 e s s1 y => by
    obtain ⟨d1, d2, rfl, e1, e2⟩ := zipD_get e
    obtain ⟨T, x1, x2, rfl, hT, rfl, h1, h2⟩ := y
    obtain ⟨v1, f1, f2⟩ := r.get e1
    obtain ⟨v2, g1, g2⟩ := r2.get e2
    rw [h1 xs (Same.seqT (s.trans s1) q)] at f1
    rw [h2 ys (Same.seqT (s.trans s1) q2)] at g1
    cases f1
    cases g1
    exact pair_stp hT s1 (Rep.mono s _ _ f2) (Rep.mono s _ _ g2)
def enumD : Nat → List D → List D
  | _, [] => []
  | n, d :: ds => .tup [.int (n : Int), d] :: enumD (n + 1) ds
theorem enumD_length : ∀ (n : Nat) (ds : List D), (enumD n ds).length = ds.length
  | _, [] => rfl
  | n, d :: ds => by
    show (enumD (n + 1) ds).length + 1 = ds.length + 1
    rw [enumD_length (n + 1) ds]
theorem enumD_get : ∀ {n : Nat} {ds : List D} {i : Nat} {d : D}, (enumD n ds)[i]? = some d → ∃ a, d = .tup [.int ((n + i : Nat) : Int), a] ∧ ds[i]? = some a
  | _, [], i, d, h => by simp [enumD] at h
  | n, a :: ds, 0, d, h => by
    have e : D.tup [.int (n : Int), a] = d := by simpa [enumD] using h
    exact ⟨a, e.symm, rfl⟩
  | n, a :: ds, i + 1, d, h => by
    obtain ⟨x, h1, h2⟩ := enumD_get (n := n + 1) (ds := ds) (i := i) (d := d) (by simpa [enumD] using h)
    exact ⟨x, by rw [h1, show n + 1 + i = n + (i + 1) by omega], by simpa using h2⟩
theorem it_enum {a : Addr} {xs : List V} {ds : List D} (q : SqL K Z a xs) (r : RepL K G Z ds xs) : ItOk K G Z (enumD 0 ds) (Ite K a) where
  goes := fun i H hi s => walk_enum.goes i H (by rw [enumD_length, r.length] at hi; exact hi) (s.seq q)
  stops := fun H s => by rw [enumD_length, r.length]; exact walk_enum.stops H (s.seq q)
  yields := fun i H x H' d Z1 e s s1 y => by
    have hi : i < (enumD 0 ds).length := (List.getElem?_eq_some_iff.mp e).1
    obtain ⟨d1, rfl, e1⟩ := enumD_get e
    rw [enumD_length, r.length] at hi
    obtain ⟨T, x1, x2, rfl, hT, rfl, h1, h2⟩ := walk_enum.yields i H x H' hi ((s.trans s1).seq q) y
    obtain ⟨v1, f1, f2⟩ := r.get e1
    have h2' : xs[i]? = some x2 := h2
    rw [h2'] at f1
    cases f1
    cases h1
    refine pair_stp hT s1 ?_ (Rep.mono s _ _ f2)
    rw [Nat.zero_add]
    exact rfl
end
def seqOf : Option (D × Rho) → R (List D × Rho)
  | some (.tup xs, ρ) => .ok (xs, ρ)
  | some (.lst xs, ρ) => .ok (xs, ρ)
  | some (.lck xs, ρ) => .ok (xs, ρ)
  | _ => .no
def iSeq (fa : Ev) : Ei := fun ρ => (fa ρ).bind fun (pa, ρ1) => seqOf (useV pa ρ1)
def rg1 : List D × Rho → R (List D × Rho)
  | ([.int j], ρ) => if decide (-4611686018427387904 ≤ j) && decide (j < 4611686018427387904) then .ok (rangeD 0 j.toNat, ρ) else .no
  | _ => .no
def iRg1 (fa : Ea) : Ei := fun ρ => (fa ρ).bind rg1
def rg2 : List D × Rho → R (List D × Rho)
  | ([.int i, .int j], ρ) => if (decide (-4611686018427387904 ≤ i) && decide (i < 4611686018427387904)) && (decide (-4611686018427387904 ≤ j) && decide (j < 4611686018427387904)) then .ok (rangeD i (j - i).toNat, ρ) else .no
  | _ => .no
def iRg2 (fa : Ea) : Ei := fun ρ => (fa ρ).bind rg2
/-- range(i, j, -1) -/
def rg3 : List D × Rho → R (List D × Rho)
  | ([.int i, .int j, .int c], ρ) => if ((decide (-4611686018427387904 ≤ i) && decide (i < 4611686018427387904)) && (decide (-4611686018427387904 ≤ j) && decide (j < 4611686018427387904))) && decide (c = -1) then .ok (rangeC i (-1) (i - j).toNat, ρ) else .no
  | _ => .no
def iRg3 (fa : Ea) : Ei := fun ρ => (fa ρ).bind rg3
def zp : List D × Rho → R (List D × Rho)
  | ([.tup xs, .tup ys], ρ) => .ok (zipD xs ys, ρ)
  | ([.lst xs, .lst ys], ρ) => .ok (zipD xs ys, ρ)
  | _ => .no
def iZp (fa : Ea) : Ei := fun ρ => (fa ρ).bind zp
def en : List D × Rho → R (List D × Rho)
  | ([.lst xs], ρ) => .ok (enumD 0 xs, ρ)
  | _ => .no
def iEn (fa : Ea) : Ei := fun ρ => (fa ρ).bind en
section
variable {X : Cx} {G : Wd} {W : WX} {tg : Expr} {p pos tpos : Pos} {e e2 : Expr}
theorem ri_seq {fa : Ev} (he : PE X e (tE X.K G W fa)) : PI X tg e (tI X.K G W (iSeq fa)) := (piOr (pi_list he) (pi_tup he)).imp fun σ H Q h => by
  have key : tE X.K G W fa σ H (fun x H1 => (∃ a, x = .ref a ∧ (∃ xs, SqL X.K H1 a xs) ∧ Q (Itl X.K a) H1) ∨ (∃ a, x = .ref a ∧ (∃ xs, SqT X.K H1 a xs) ∧ Q (Itt X.K a) H1)) := by
    refine ti_bindE h fun B Z Φ ρ1 H1 x pa k r q => ?_
    dsimp only at q
    cases hu : useV pa ρ1 with
    | none => rw [hu] at q; exact q.elim
    | some t =>
      obtain ⟨d, ρ2⟩ := t
      rw [hu] at q
      obtain ⟨Z2, e2, k2, r2⟩ := k.use r hu
      unfold seqOf at q
      split at q
      · rename_i xs ρ' ee
        cases ee
        obtain ⟨a, vs, rfl, sa, ra⟩ := r2
        exact .inr ⟨a, rfl, ⟨vs, Same.seqT k2.zh sa⟩, q Z2 H1 _ e2 k2 (it_tup sa ra)⟩
      · rename_i xs ρ' ee
        cases ee
        obtain ⟨a, vs, rfl, sa, ra⟩ := r2
        exact .inl ⟨a, rfl, ⟨vs, .inl (.inl (k2.zh _ _ sa))⟩, q Z2 H1 _ e2 k2 (it_list (.inl (.inl sa)) ra)⟩
      · rename_i xs ρ' ee
        cases ee
        obtain ⟨a, vs, rfl, sa, ra⟩ := r2
        exact .inl ⟨a, rfl, ⟨vs, k2.zh.seq sa⟩, q Z2 H1 _ e2 k2 (it_list sa ra)⟩
      · exact q.elim
  -- the two ways are one: which one is told by the data
  obtain ⟨B, Z, Φ, ρ, ok, h0⟩ := h
  unfold iSeq at h0
  cases ha : fa ρ with
  | no => rw [ha] at h0; exact h0.elim
  | exc x => rw [ha] at h0; exact .inl ⟨B, Z, Φ, ρ, ok, by rw [ha]; exact h0⟩
  | ok t =>
    obtain ⟨pa, ρ1⟩ := t
    rw [ha] at h0
    change PostI X.K G W B Z Φ σ Q (seqOf (useV pa ρ1)) at h0
    cases hu : useV pa ρ1 with
    | none => rw [hu] at h0; exact h0.elim
    | some t =>
      obtain ⟨d, ρ2⟩ := t
      rw [hu] at h0
      unfold seqOf at h0
      split at h0
      · rename_i xs ρ' ee
        cases ee
        refine .inr ⟨B, Z, Φ, ρ, ok, ?_⟩
        rw [ha]
        intro Z1 H1 v e1 k1 r1
        obtain ⟨Z2, e2, k2, r2⟩ := k1.use r1 hu
        obtain ⟨a, vs, rfl, sa, ra⟩ := r2
        exact ⟨a, rfl, ⟨vs, Same.seqT k2.zh sa⟩, h0 Z2 H1 _ (e1.trans e2) k2 (it_tup sa ra)⟩
      · rename_i xs ρ' ee
        cases ee
        refine .inl ⟨B, Z, Φ, ρ, ok, ?_⟩
        rw [ha]
        intro Z1 H1 v e1 k1 r1
        obtain ⟨Z2, e2, k2, r2⟩ := k1.use r1 hu
        obtain ⟨a, vs, rfl, sa, ra⟩ := r2
        exact ⟨a, rfl, ⟨vs, .inl (.inl (k2.zh _ _ sa))⟩, h0 Z2 H1 _ (e1.trans e2) k2 (it_list (.inl (.inl sa)) ra)⟩
      · rename_i xs ρ' ee
        cases ee
        refine .inl ⟨B, Z, Φ, ρ, ok, ?_⟩
        rw [ha]
        intro Z1 H1 v e1 k1 r1
        obtain ⟨Z2, e2, k2, r2⟩ := k1.use r1 hu
        obtain ⟨a, vs, rfl, sa, ra⟩ := r2
        exact ⟨a, rfl, ⟨vs, k2.zh.seq sa⟩, h0 Z2 H1 _ (e1.trans e2) k2 (it_list sa ra)⟩
      · exact h0.elim
theorem ri_range1 {fa : Ea} (hg : Gl X "range") (hm : X.mg "range" = none) (ha : PA X [e] (tA X.K G W fa)) (hs : starEach [e] X.env = [(false, eval e X.env)] := by rfl) : PI X tg (.Call (.Name "range" p) [e] [] pos) (tI X.K G W (iRg1 fa)) :=
  (pi_range1 hg hm ha hs).imp fun σ H Q h => by
    refine ti_bindA h fun B Z Φ ρ1 H1 vs ds k r q => ?_
    unfold rg1 at q
    split at q
    · rename_i j ρ' ee
      cases ee
      split at q
      · rename_i hc
        simp only [Bool.and_eq_true, decide_eq_true_eq] at hc
        obtain ⟨v, us, rfl, r1, r2⟩ := r
        cases (show v = .int j from r1)
        cases (show us = [] from r2)
        exact ⟨j, rfl, by omega, by omega, q Z H1 _ Ext.refl k it_range⟩
      · exact q.elim
    · exact q.elim
theorem ri_range2 {fa : Ea} (hg : Gl X "range") (hm : X.mg "range" = none) (ha : PA X [e, e2] (tA X.K G W fa)) (hs : starEach [e, e2] X.env = [(false, eval e X.env), (false, eval e2 X.env)] := by rfl) (hs2 : starEach [e2] X.env = [(false, eval e2 X.env)] := by rfl) :
    PI X tg (.Call (.Name "range" p) [e, e2] [] pos) (tI X.K G W (iRg2 fa)) := (pi_range2 hg hm ha hs hs2).imp fun σ H Q h => by
    refine ti_bindA h fun B Z Φ ρ1 H1 vs ds k r q => ?_
    unfold rg2 at q
    split at q
    · rename_i i j ρ' ee
      cases ee
      split at q
      · rename_i hc
        simp only [Bool.and_eq_true, decide_eq_true_eq] at hc
        obtain ⟨v, us, rfl, r1, u, ws, rfl, r2, r3⟩ := r
        cases (show v = .int i from r1)
        cases (show u = .int j from r2)
        cases (show ws = [] from r3)
        exact ⟨i, j, rfl, by omega, q Z H1 _ Ext.refl k it_range⟩
      · exact q.elim
    · exact q.elim
theorem ri_range3 {e3 : Expr} {fa : Ea} (hg : Gl X "range") (hm : X.mg "range" = none) (ha : PA X [e, e2, e3] (tA X.K G W fa)) (hs : starEach [e, e2, e3] X.env = (false, eval e X.env) :: starEach [e2, e3] X.env := by rfl) (hpl : (backTo pos (starEach [e2, e3] X.env)).any (·.1) = false := by rfl) :
    PI X tg (.Call (.Name "range" p) [e, e2, e3] [] pos) (tI X.K G W (iRg3 fa)) := (pi_range3 hg hm ha hs hpl).imp fun σ H Q h => by
    refine ti_bindA h fun B Z Φ ρ1 H1 vs ds k r q => ?_
    unfold rg3 at q
    split at q
    · rename_i i j c ρ' ee
      cases ee
      split at q
      · rename_i hc
        simp only [Bool.and_eq_true, decide_eq_true_eq] at hc
        obtain ⟨v, us, rfl, r1, u, ws, rfl, r2, w, zs, rfl, r3, r4⟩ := r
        cases (show v = .int i from r1)
        cases (show u = .int j from r2)
        cases (show w = .int c from r3)
        cases (show zs = [] from r4)
        obtain ⟨hb, rfl⟩ := hc
        exact ⟨i, j, -1, _, rfl, RgC.neg (by omega) (by omega) (by omega) (by omega), q Z H1 _ Ext.refl k it_rangeC⟩
      · exact q.elim
    · exact q.elim
theorem ri_zip {fa : Ea} {elts : List Expr} {kk : Nat} (hg : Gl X "zip") (hm : X.mg "zip" = none) (ha : PA X [e, e2] (tA X.K G W fa)) (hs : starEach [e, e2] X.env = (false, eval e X.env) :: starEach [e2] X.env := by rfl) (hpl : (backTo pos (starEach [e2] X.env)).any (·.1) = false := by rfl) :
    PI X (.Tuple elts kk tpos) (.Call (.Name "zip" p) [e, e2] [] pos) (tI X.K G W (iZp fa)) := (RZ.pi_zipA hg hm ha hs hpl).imp fun σ H Q h => by
    refine ti_bindA h fun B Z Φ ρ1 H1 vs ds k r q => ?_
    unfold zp at q
    split at q
    · rename_i xs ys ρ' ee
      cases ee
      obtain ⟨v, us, rfl, r1, u, ws, rfl, r2, r3⟩ := r
      obtain ⟨a, as, rfl, sa, ra⟩ := r1
      obtain ⟨b, bs, rfl, sb, rb⟩ := r2
      cases (show ws = [] from r3)
      exact ⟨a, b, as, bs, rfl, .inr ⟨Same.seqT k.zh sa, Same.seqT k.zh sb, q Z H1 _ Ext.refl k (it_zipT sa sb ra rb)⟩⟩
    · rename_i xs ys ρ' ee
      cases ee
      obtain ⟨v, us, rfl, r1, u, ws, rfl, r2, r3⟩ := r
      obtain ⟨a, as, rfl, sa, ra⟩ := r1
      obtain ⟨b, bs, rfl, sb, rb⟩ := r2
      cases (show ws = [] from r3)
      exact ⟨a, b, as, bs, rfl, .inl ⟨.inl (.inl (k.zh _ _ sa)), .inl (.inl (k.zh _ _ sb)), q Z H1 _ Ext.refl k (it_zipL (.inl (.inl sa)) (.inl (.inl sb)) ra rb)⟩⟩
    · exact q.elim
theorem ri_enum {fa : Ea} {elts : List Expr} {kk : Nat} (hg : Gl X "enumerate") (hm : X.mg "enumerate" = none) (ha : PA X [e] (tA X.K G W fa)) (hs : starEach [e] X.env = [(false, eval e X.env)] := by rfl) :
    PI X (.Tuple elts kk tpos) (.Call (.Name "enumerate" p) [e] [] pos) (tI X.K G W (iEn fa)) := (pi_enum hg hm ha hs).imp fun σ H Q h => by
    refine ti_bindA h fun B Z Φ ρ1 H1 vs ds k r q => ?_
    unfold en at q
    split at q
    · rename_i xs ρ' ee
      cases ee
      obtain ⟨v, us, rfl, r1, r2⟩ := r
      obtain ⟨a, as, rfl, sa, ra⟩ := r1
      cases (show us = [] from r2)
      exact ⟨a, as, rfl, .inl (.inl (k.zh _ _ sa)), q Z H1 _ Ext.refl k (it_enum (.inl (.inl sa)) ra)⟩
    · exact q.elim
end
end Rf
end
section
set_option Elab.async false
set_option linter.all false
set_option maxRecDepth 100000
set_option maxHeartbeats 4000000
/-! Rf, part G: comprehensions, statements. -/
namespace Rf
open PySem PySem.Spec PyProof.Rows L2

section
variable {K : PySem.W.Frag} {G : Wd} {W : WX} {B : L2.St} {Z Z' Φ H H' : Hp} {σ : L2.St} {ρ ρ' : Rho}
theorem te_bindI {fi : Ei} {k : List D × Rho → R (PV × Rho)} {Q : VK} {P : It → Hp → Prop} (h : tE K G W (fun ρ => (fi ρ).bind k) σ H Q)
    (n : ∀ B Z Φ ρ1 H1 J ds, Ok K G B Z Φ σ ρ1 H1 → ItOk K G Z ds J → PostE K G W B Z Φ σ Q (k (ds, ρ1)) → P J H1) : tI K G W fi σ H P := by
  obtain ⟨B, Z, Φ, ρ, ok, h⟩ := h
  refine ⟨B, Z, Φ, ρ, ok, ?_⟩
  dsimp only at h
  cases ha : fi ρ with
  | no => rw [ha] at h; exact h.elim
  | exc x => rw [ha] at h; exact h
  | ok p =>
    obtain ⟨pa, ρ1⟩ := p
    rw [ha] at h
    intro Z1 H1 J e1 k1 r1
    refine n B Z1 Φ ρ1 H1 J pa k1 r1 ?_
    change PostE K G W B Z Φ σ Q (k (pa, ρ1)) at h
    cases hk : k (pa, ρ1) with
    | no => rw [hk] at h; exact h.elim
    | exc x => rw [hk] at h; exact PostX.ext h e1
    | ok p =>
      rw [hk] at h
      exact fun Z2 H2 v e2 k2 r2 => h Z2 H2 v (e1.trans e2) k2 r2
/-- a new object of nobody's, under guard -/
theorem Ok.newP {p : Addr} {o : HO} (k : Ok K G B Z Φ σ ρ H) (h : H p = none) : Ok K G B Z (upd Φ p o) σ ρ (upd H p o) := by
  have k' := k.newF (o := o) h
  refine ⟨k'.zh, same_upd1 k'.fh upd_same, k'.len, k'.fz, fun i b xs e => ?_, k'.ne, k'.bw, k'.lb⟩
  obtain ⟨a, vs, e1, e2, r, z1, z2⟩ := k.ow i b xs e
  have hne : a ≠ p := ne_of_none e2 h
  exact ⟨a, vs, e1, by rw [upd_ne hne]; exact e2, r, z1, by rw [upd_ne hne]; exact z2⟩
/-- .. it changes -/
theorem Ok.updP {p : Addr} {o o' : HO} (k : Ok K G B Z (upd Φ p o) σ ρ H) (hz : Z p = none) : Ok K G B Z (upd Φ p o') σ ρ (upd H p o') := by
  refine ⟨fun b u e => ?_, fun b u e => ?_, k.len, k.fz, fun i b xs e => ?_, k.ne, k.bw, k.lb⟩
  · have hb : b ≠ p := fun q => by rw [q, hz] at e; cases e
    rw [upd_ne hb]
    exact k.zh b u e
  · by_cases hb : b = p
    · subst hb
      rw [upd_same] at e ⊢
      exact e
    · rw [upd_ne hb] at e ⊢
      exact k.fh b u (by rw [upd_ne hb]; exact e)
  · obtain ⟨a, vs, e1, e2, r, z1, z2⟩ := k.ow i b xs e
    have hne : a ≠ p := fun q => by rw [q, upd_same] at z2; cases z2
    rw [upd_ne hne] at z2
    exact ⟨a, vs, e1, by rw [upd_ne hne]; exact e2, r, z1, by rw [upd_ne hne]; exact z2⟩
/-- .. the guard is taken off -/
theorem Ok.unP {p : Addr} {o : HO} (k : Ok K G B Z (upd Φ p o) σ ρ H) (hf : Φ p = none) : Ok K G B Z Φ σ ρ H := by
  refine ⟨k.zh, fun b u e => k.fh b u ?_, k.len, k.fz, fun i b xs e => ?_, k.ne, k.bw, k.lb⟩
  · have hb : b ≠ p := fun q => by rw [q, hf] at e; cases e
    rw [upd_ne hb]
    exact e
  · obtain ⟨a, vs, e1, e2, r, z1, z2⟩ := k.ow i b xs e
    have hne : a ≠ p := fun q => by rw [q, upd_same] at z2; cases z2
    rw [upd_ne hne] at z2
    exact ⟨a, vs, e1, e2, r, z1, z2⟩
theorem Ext.unP {p : Addr} {o : HO} (e : Ext Z (upd Φ p o) Z') (hz : Z p = none) : Ext Z Φ Z' ∧ Z' p = none := by
  have hp : Z' p = none := by
    cases q : Z' p with
    | none => rfl
    | some u =>
      rcases e.2 p u q with z | z
      · rw [hz] at z; cases z
      · rw [upd_same] at z; cases z
  refine ⟨⟨e.1, fun c u h => (e.2 c u h).elim .inl fun z => .inr ?_⟩, hp⟩
  have hc : c ≠ p := fun q => by rw [q, hp] at h; cases h
  rw [upd_ne hc] at z
  exact z

/-! ### list comprehensions -/
def lcGo (t : Tg) (ft : Et) (fe : Ev) (vs : List Nat) : List D → Rho → R (List D × Rho)
  | [], ρ => .ok ([], ρ)
  | d :: ds, ρ => match bindT t d ρ with
    | none => .no
    | some ρ1 => match ft ρ1 with
      | .ok (false, ρ2) => lcGo t ft fe vs ds (wipeR ρ2 vs)
      | .ok (true, ρ2) => match fe ρ2 with
        | .ok (pv, ρ3) => match useV pv ρ3 with
          | some (e, ρ4) => match lcGo t ft fe vs ds (wipeR ρ4 vs) with
            | .ok (es, ρ5) => .ok (e :: es, ρ5)
            | _ => .no
          | none => .no
        | _ => .no
      | _ => .no
def lcEnd (ρ1 : Rho) (vs : List Nat) : R (List D × Rho) → R (PV × Rho)
  | .ok (es, ρ2) => .ok (.fr es, backR ρ2 ρ1 vs)
  | _ => .no
def lcK (vs : List Nat) (t : Tg) (ft : Et) (fe : Ev) : List D × Rho → R (PV × Rho) := fun p => if noOwn p.2 vs && szOk p.1.length then lcEnd p.2 vs (lcGo t ft fe vs p.1 (wipeR p.2 vs)) else .no
def eLc (vs : List Nat) (fi : Ei) (t : Tg) (ft : Et) (fe : Ev) : Ev := fun ρ => (fi ρ).bind (lcK vs t ft fe)
abbrev W0 : WX := fun _ _ _ _ => False
theorem te_lc {vs : List Nat} {fi : Ei} {t : Tg} {ft : Et} {fe : Ev} {Q : VK} (hv : ∀ i ∈ t.vs, i ∈ vs) (h : tE K G W (eLc vs fi t ft fe) σ H Q) : tLc (tI K G W fi) (tgR K t) (tT K G W0 ft) (tE K G W0 fe) vs σ H Q := by
  refine te_bindI h fun B Z Φ ρ1 H1 J ds k it q D hD => ?_
  unfold lcK at q
  dsimp only at q
  split at q
  · rename_i hc
    rw [Bool.and_eq_true] at hc
    obtain ⟨hn, hz⟩ := hc
    cases hgo : lcGo t ft fe vs ds (wipeR ρ1 vs) with
    | no => rw [hgo] at q; exact q.elim
    | exc x => rw [hgo] at q; exact q.elim
    | ok p =>
      obtain ⟨es, ρ2⟩ := p
      rw [hgo] at q
      change ∀ Z' H' v, _ → _ → _ → _ at q
      have hfD := Same.none k.fh hD
      have hzD := Same.none k.zh hD
      have w : Walk J ds.length (fun H => Same Z H) (fun i H x H' => ∀ d Z1, ds[i]? = some d → Same Z Z1 → Same Z1 H → ∃ Z2, Stp K G Z1 H (.fz d) x Z2 H') :=
        ⟨it.goes, it.stops, fun i H x H' _ _ y d Z1 e s s1 => it.yields i H x H' d Z1 e s s1 y⟩
      refine lc_it w (fun i H => ∃ Zi ρi acc avs es', Ok K G B Zi (upd Φ D (.lst avs)) (L2.wipe σ vs) ρi H ∧ Ext Z Φ Zi ∧ Zi D = none ∧ RepL K G Zi acc avs ∧ acc.length ≤ i ∧ lcGo t ft fe vs (ds.drop i) ρi = .ok (es', ρ2) ∧ acc ++ es' = es) ?_ ?_ ?_ ?_
      · exact ⟨Z, _, [], [], es, (k.wipe vs).newP hD, Ext.refl, hzD, rfl, Nat.le_refl _, hgo, rfl⟩
      · intro i H hi ⟨Zi, ρi, acc, avs, es', ki, ei, _⟩
        exact ei.1.trans ki.zh
      · intro i x H H' hi ⟨Zi, ρi, acc, avs, es', ki, ei, zi, ra, la, hgi, he⟩ y
        rw [List.drop_eq_getElem_cons hi] at hgi
        obtain ⟨Z2, st⟩ := y ds[i] Zi (List.getElem?_eq_getElem hi) ei.1 ki.zh
        obtain ⟨e2, k2, r2⟩ := st.ok ki
        obtain ⟨e2', z2⟩ := Ext.unP e2 zi
        unfold lcGo at hgi
        split at hgi
        · cases hgi
        · rename_i ρ1' hb
          refine tg_ok k2 r2 hb hv fun σ' k' ew => ⟨by rw [ew, wipe_wipe fun _ h => h], B, Z2, _, ρ1', k', ?_⟩
          have eW : L2.wipe σ' vs = L2.wipe σ vs := by rw [ew, wipe_wipe fun _ h => h]
          split at hgi
          · -- not kept
            rename_i ρ3 hft
            rw [hft]
            intro Z3 H3 e3 k3
            obtain ⟨e3', z3⟩ := Ext.unP e3 z2
            have k3w := k3.wipe vs
            rw [eW] at k3w
            exact iteF ⟨Z3, _, acc, avs, es', k3w, ei.trans (e2'.trans e3'), z3, RepL.mono (e2'.1.trans e3'.1) _ _ ra, by omega, hgi, he⟩
          · rename_i ρ3 hft
            rw [hft]
            intro Z3 H3 e3 k3
            obtain ⟨e3', z3⟩ := Ext.unP e3 z2
            refine iteT ⟨B, Z3, _, ρ3, k3, ?_⟩
            split at hgi
            · rename_i pv ρ4 hfe
              rw [hfe]
              intro Z4 H4 v e4 k4 r4
              obtain ⟨e4', z4⟩ := Ext.unP e4 z3
              split at hgi
              · rename_i e ρ5 hu
                obtain ⟨Z5, e5, k5, r5⟩ := k4.use r4 hu
                obtain ⟨e5', z5⟩ := Ext.unP e5 z4
                split at hgi
                · rename_i es2 ρ6 hg2
                  cases hgi
                  have eAll := e2'.trans (e3'.trans (e4'.trans e5'))
                  have k5w := (k5.wipe vs).updP (o' := .lst (avs ++ [v])) z5
                  rw [eW] at k5w
                  have ra' : RepL K G Z5 acc avs := RepL.mono eAll.1 _ _ ra
                  refine ⟨avs, k5.fh _ _ upd_same, ?_, Z5, _, acc ++ [e], avs ++ [v], es2, k5w, ei.trans eAll, z5, ra'.append ⟨v, [], rfl, r5, rfl⟩, ?_, hg2, ?_⟩
                  · rw [← ra.length]
                    exact Nat.lt_of_lt_of_le (Nat.lt_of_le_of_lt la hi) (szOk_le hz)
                  · rw [List.length_append]
                    show acc.length + 1 ≤ i + 1
                    omega
                  · rw [List.append_assoc]
                    exact he
                · cases hgi
              · cases hgi
            · cases hgi
          · cases hgi
      · intro H ⟨Zi, ρi, acc, avs, es', ki, ei, zi, ra, la, hgi, he⟩
        rw [List.drop_length] at hgi
        unfold lcGo at hgi
        cases hgi
        rw [List.append_nil] at he
        subst he
        have kb := Ok.back k ei.1 (ki.unP hfD) hn
        refine q Zi H (.ref D) ei kb ⟨D, avs, rfl, ki.fh _ _ upd_same, ra, zi, hfD, fun i b ys h1 h2 => ?_⟩
        rcases backR_get h1 with ⟨m, z⟩ | ⟨m, h1⟩
        · cases qq : ρ1[i]? with
          | none => rw [qq] at z; cases z
          | some c =>
            rw [qq] at z
            exact noOwn_get hn m (qq.trans (congrArg some z.symm))
        · obtain ⟨a, us, f1, _, _, _, f2⟩ := ki.ow i b ys h1
          rw [wipe_out m, h2] at f1
          cases f1
          rw [upd_same] at f2
          cases f2
  · exact q.elim
end
section
variable {X : Cx} {G : Wd} {W : WX}
theorem re_lc {elt tg iter : Expr} {ifs : List Expr} {scope : Scope} {own : List (Str × Nat)} {pos : Pos} {fi : Ei} {t : Tg} {ft : Et} {fe : Ev} (hc : X.calm = true) (hN : X.N.Nodup) (hi : PI X tg iter (tI X.K G W fi)) (ok : BlkOk X.N X.env.scope scope own)
    (hg : ∀ (s : Shared) (H : Hp) (C : Addr) (cl : List (Str × Addr)) (fp : List Addr), PG (X.blk s H scope (compEnvC scope cl C X.env) fp) tg (tgR X.K t)) (ht : ∀ (s : Shared) (H : Hp) (C : Addr) (cl : List (Str × Addr)) (fp : List Addr), PTs (X.blk s H scope (compEnvC scope cl C X.env) fp) ifs (tT X.K G W0 ft))
    (he : ∀ (s : Shared) (H : Hp) (C : Addr) (cl : List (Str × Addr)) (fp : List Addr), PE (X.blk s H scope (compEnvC scope cl C X.env) fp) elt (tE X.K G W0 fe)) (hv : ∀ i ∈ t.vs, i ∈ own.map (·.2)) (hs : ∀ x, foldedSetIterable iter X.env x = pure x := by intro _; rfl) :
    PE X (.ListComp elt [⟨tg, iter, ifs, 0⟩] scope pos) (tE X.K G W (eLc (own.map (·.2)) fi t ft fe)) := (pe_lc hc hN hi ok hg ht he hs).imp fun σ H Q h => te_lc hv h
def tYesF : Et := fun ρ => .ok (true, ρ)
theorem _root_.L2.PTs.imp {ifs : List Expr} {t t' : TT} (h : PTs X ifs t) (k : ∀ σ H Q, t' σ H Q → t σ H Q) : PTs X ifs t' := ⟨fun pins s σ H Q I q => h.run pins s σ H Q I (k σ H Q q)⟩
theorem rts_nil : PTs X [] (tT X.K G W tYesF) := pts_nil.imp fun σ H Q h => by
  obtain ⟨B, Z, Φ, ρ, k, h⟩ := h
  exact h Z H Ext.refl k
theorem rts_one {c : Expr} {ft : Et} (h : PT X c (tT X.K G W ft)) : PTs X [c] (tT X.K G W ft) := pts_one h
end

/-! ### statements -/
def sNil : Es := fun ρ => .ok (.nx, ρ)
def seqK (g : Es) : R (Fl × Rho) → R (Fl × Rho)
  | .ok (.nx, ρ) => g ρ
  | r => r
def sSeq (f g : Es) : Es := fun ρ => seqK g (f ρ)
def sIf (tc : Et) (a b : Es) : Es := fun ρ => (tc ρ).bind fun (c, ρ1) => match c with
  | true => a ρ1
  | false => b ρ1
def setK (i : Nat) : PV × Rho → R (Fl × Rho)
  | (.fz d, ρ) => match setR i (.fz d) ρ with
    | some ρ1 => .ok (.nx, ρ1)
    | none => .no
  | (.fr xs, ρ) => match setR i (.ow false xs) ρ with
    | some ρ1 => .ok (.nx, ρ1)
    | none => .no
  | (.at j, ρ) => match useV (.at j) ρ with
    | some (d, ρ1) => match setR i (.fz d) ρ1 with
      | some ρ2 => .ok (.nx, ρ2)
      | none => .no
    | none => .no
def sSet (i : Nat) (f : Ev) : Es := fun ρ => (f ρ).bind (setK i)
def retK : PV × Rho → R (Fl × Rho)
  | (.fz d, ρ) => .ok (.rt (.fz d), ρ)
  | (.fr xs, ρ) => .ok (.rt (.fr xs), ρ)
  | (.at j, ρ) => match ρ[j]? with
    | some (.ow false xs) => .ok (.rt (.fr xs), ρ.set j .un)
    | _ => .no
def sRet (f : Ev) : Es := fun ρ => (f ρ).bind retK
def sRetN : Es := fun ρ => .ok (.rt (.fz .non), ρ)
def sExpr (f : Ev) : Es := fun ρ => (f ρ).bind fun (_, ρ1) => .ok (.nx, ρ1)
def sNo : Es := fun _ => .no
/-- a, b = e1, e2 -/
def parK2 (i j : Nat) (pa : PV) : PV × Rho → R (Fl × Rho) := fun p => (setK i (pa, p.2)).bind fun q => setK j (p.1, q.2)
def uPV (p : PV × Rho) : R (PV × Rho) := match p with
  | (.fz d, ρ) => .ok (.fz d, ρ)
  | (.fr xs, ρ) => .ok (.fr xs, ρ)
  | (.at j, ρ) => match useV (.at j) ρ with
    | some (d, ρ1) => .ok (.fz d, ρ1)
    | none => .no
def sPar (i j : Nat) (fa fb : Ev) : Es := fun ρ => ((fa ρ).bind uPV).bind fun (pa, ρ1) => ((fb ρ1).bind uPV).bind (parK2 i j pa)
/-- a, b = e -/
def unpK (is : List Nat) : Option (D × Rho) → R (Fl × Rho)
  | some (.tup ds, ρ) => match bindL is ds ρ with
    | some ρ1 => .ok (.nx, ρ1)
    | none => .no
  | some (.lst ds, ρ) => match bindL is ds ρ with
    | some ρ1 => .ok (.nx, ρ1)
    | none => .no
  | _ => .no
def sUnp (is : List Nat) (f : Ev) : Es := fun ρ => (f ρ).bind fun (pv, ρ1) => unpK is (useV pv ρ1)
/-- s[i] = e, s of our own at slot j -/
def stoK (j : Nat) (d : D) : PV × Rho → R (Fl × Rho)
  | (.fz (.int k), ρ) => match ρ[j]? with
    | some (.ow c xs) => match ixN xs.length k with
      | some n => .ok (.nx, ρ.set j (.ow c (xs.set n d)))
      | none => .no
    | _ => .no
  | _ => .no
def isOw : Option Cell → Bool
  | some (.ow _ _) => true
  | _ => false
def sSto (j : Nat) (fi f : Ev) : Es := fun ρ => (f ρ).bind fun (pv, ρ1) => match useV pv ρ1 with
  | some (d, ρ2) => if isOw ρ2[j]? then (fi ρ2).bind (stoK j d) else .no
  | none => .no
def appK (j : Nat) : Option (D × Rho) → R (Fl × Rho)
  | some (d, ρ) => match ρ[j]? with
    | some (.ow c xs) => if szOk xs.length then .ok (.nx, ρ.set j (.ow c (xs ++ [d]))) else .no
    | _ => .no
  | none => .no
/-- s.append(e) -/
def sApp (j : Nat) (f : Ev) : Es := fun ρ => if isOw ρ[j]? then (f ρ).bind fun (pv, ρ1) => appK j (useV pv ρ1) else .no
def forGo (t : Tg) (body : Es) : List D → Rho → R (Fl × Rho)
  | [], ρ => .ok (.nx, ρ)
  | d :: ds, ρ => match bindT t d ρ with
    | none => .no
    | some ρ1 => match body ρ1 with
      | .ok (.nx, ρ2) => forGo t body ds ρ2
      | .ok (.ct, ρ2) => forGo t body ds ρ2
      | .ok (.bk, ρ2) => .ok (.nx, ρ2)
      | .ok (.rt pv, ρ2) => .ok (.rt pv, ρ2)
      | .exc x => .exc x
      | .no => .no
def sFor (fi : Ei) (t : Tg) (body : Es) : Es := fun ρ => (fi ρ).bind fun (ds, ρ1) => forGo t body ds ρ1
def whGo (tc : Et) (body : Es) : Nat → Rho → R (Fl × Rho)
  | 0, _ => .no
  | n + 1, ρ => match tc ρ with
    | .ok (false, ρ1) => .ok (.nx, ρ1)
    | .ok (true, ρ1) => match body ρ1 with
      | .ok (.nx, ρ2) => whGo tc body n ρ2
      | .ok (.ct, ρ2) => whGo tc body n ρ2
      | .ok (.bk, ρ2) => .ok (.nx, ρ2)
      | .ok (.rt pv, ρ2) => .ok (.rt pv, ρ2)
      | .exc x => .exc x
      | .no => .no
    | .exc x => .exc x
    | .no => .no
def sWhile (n : Nat) (tc : Et) (body : Es) : Es := fun ρ => whGo tc body n ρ
def sBrk : Es := fun ρ => .ok (.bk, ρ)
def sCont : Es := fun ρ => .ok (.ct, ρ)

section
variable {K : PySem.W.Frag} {G : Wd} {W : WX} {B : L2.St} {Z Z' Φ H H' : Hp} {σ : L2.St} {ρ ρ' : Rho}
theorem PostS.ext {D : Ends} {r : R (Fl × Rho)} (h : PostS K G W B Z Φ D r) (e : Ext Z Φ Z') : PostS K G W B Z' Φ D r := by
  cases r with
  | no => exact h
  | exc x => exact fun σ' hl => PostX.ext (h σ' hl) e
  | ok p =>
    obtain ⟨f, ρ1⟩ := p
    cases f with
    | nx => exact fun Z2 σ2 H2 e2 k2 => h Z2 σ2 H2 (e.trans e2) k2
    | rt pv => exact fun Z2 σ2 H2 v e2 k2 r2 => h Z2 σ2 H2 v (e.trans e2) k2 r2
    | bk => exact fun Z2 σ2 H2 e2 k2 => h Z2 σ2 H2 (e.trans e2) k2
    | ct => exact fun Z2 σ2 H2 e2 k2 => h Z2 σ2 H2 (e.trans e2) k2
theorem ts_bindE {fa : Ev} {k : PV × Rho → R (Fl × Rho)} {D : Ends} {P : V → Hp → Prop} (h : tS K G W (fun ρ => (fa ρ).bind k) D σ H)
    (n : ∀ B Z Φ ρ1 H1 x pa, Ok K G B Z Φ σ ρ1 H1 → RepP K G Z Φ σ ρ1 H1 pa x → PostS K G W B Z Φ D (k (pa, ρ1)) → P x H1) : tE K G W fa σ H P := by
  obtain ⟨B, Z, Φ, ρ, ok, h⟩ := h
  refine ⟨B, Z, Φ, ρ, ok, ?_⟩
  dsimp only at h
  cases ha : fa ρ with
  | no => rw [ha] at h; exact h.elim
  | exc x => rw [ha] at h; exact h σ ok.lb
  | ok p =>
    obtain ⟨pa, ρ1⟩ := p
    rw [ha] at h
    exact fun Z1 H1 x e1 k1 r1 => n B Z1 Φ ρ1 H1 x pa k1 r1 (PostS.ext h e1)
theorem ts_bindT {fa : Et} {k : Bool × Rho → R (Fl × Rho)} {D : Ends} {P : Bool → Hp → Prop} (h : tS K G W (fun ρ => (fa ρ).bind k) D σ H)
    (n : ∀ B Z Φ ρ1 H1 b, Ok K G B Z Φ σ ρ1 H1 → PostS K G W B Z Φ D (k (b, ρ1)) → P b H1) : tT K G W fa σ H P := by
  obtain ⟨B, Z, Φ, ρ, ok, h⟩ := h
  refine ⟨B, Z, Φ, ρ, ok, ?_⟩
  dsimp only at h
  cases ha : fa ρ with
  | no => rw [ha] at h; exact h.elim
  | exc x => rw [ha] at h; exact h σ ok.lb
  | ok p =>
    obtain ⟨pa, ρ1⟩ := p
    rw [ha] at h
    exact fun Z1 H1 e1 k1 => n B Z1 Φ ρ1 H1 pa k1 (PostS.ext h e1)
theorem ts_bindI {fa : Ei} {k : List D × Rho → R (Fl × Rho)} {D : Ends} {P : It → Hp → Prop} (h : tS K G W (fun ρ => (fa ρ).bind k) D σ H)
    (n : ∀ B Z Φ ρ1 H1 J ds, Ok K G B Z Φ σ ρ1 H1 → ItOk K G Z ds J → PostS K G W B Z Φ D (k (ds, ρ1)) → P J H1) : tI K G W fa σ H P := by
  obtain ⟨B, Z, Φ, ρ, ok, h⟩ := h
  refine ⟨B, Z, Φ, ρ, ok, ?_⟩
  dsimp only at h
  cases ha : fa ρ with
  | no => rw [ha] at h; exact h.elim
  | exc x => rw [ha] at h; exact h σ ok.lb
  | ok p =>
    obtain ⟨pa, ρ1⟩ := p
    rw [ha] at h
    exact fun Z1 H1 J e1 k1 r1 => n B Z1 Φ ρ1 H1 J pa k1 r1 (PostS.ext h e1)
theorem set_ok {i : Nat} {pv : PV} {v : V} {D : Ends} (k : Ok K G B Z Φ σ ρ H) (r : RepP K G Z Φ σ ρ H pv v) (h : PostS K G W B Z Φ D (setK i (pv, ρ))) : D.nx (σ.set i (some v)) H := by
  unfold setK at h
  split at h
  · rename_i d ρ0 ee
    cases ee
    split at h
    · rename_i ρ1 h1
      exact h Z _ H Ext.refl (k.set h1 r)
    · exact h.elim
  · rename_i xs ρ0 ee
    cases ee
    split at h
    · rename_i ρ1 h1
      exact h Z _ H Ext.refl (k.setF h1 r)
    · exact h.elim
  · rename_i j ρ0 ee
    cases ee
    split at h
    · rename_i d ρ1 hu
      split at h
      · rename_i ρ2 h2
        obtain ⟨Z2, e2, k2, r2⟩ := k.use r hu
        exact h Z2 _ H e2 (k2.set h2 r2)
      · exact h.elim
    · exact h.elim
theorem ret_ok {pv : PV} {v : V} {D : Ends} (k : Ok K G B Z Φ σ ρ H) (r : RepP K G Z Φ σ ρ H pv v) (h : PostS K G W B Z Φ D (retK (pv, ρ))) : D.rt v H := by
  unfold retK at h
  split at h
  · rename_i d ρ0 ee
    cases ee
    exact h Z σ H v Ext.refl k r
  · rename_i xs ρ0 ee
    cases ee
    exact h Z σ H v Ext.refl k r
  · rename_i j ρ0 ee
    cases ee
    split at h
    · rename_i xs hj
      obtain ⟨r1, _⟩ := r
      obtain ⟨a, vs, f1, f2, f3, f4, f5⟩ := k.ow _ _ _ hj
      rw [r1] at f1
      cases f1
      refine h Z σ H (.ref a) Ext.refl ⟨k.zh, k.fh, by rw [List.length_set]; exact k.len, fun i d q => ?_, fun i b xs q => ?_, fun i l b c xs ys w hne q1 q2 => ?_, fun i xs q => ?_, k.lb⟩ ⟨a, vs, rfl, f2, f3, f4, f5, fun i b ys q s => ?_⟩
      · rcases get_set_cases q with ⟨_, q⟩ | ⟨_, q⟩
        · cases q
        · exact k.fz i d q
      · rcases get_set_cases q with ⟨_, q⟩ | ⟨_, q⟩
        · cases q
        · exact k.ow i b xs q
      · rcases get_set_cases q1 with ⟨_, q1⟩ | ⟨_, q1⟩
        · cases q1
        · rcases get_set_cases q2 with ⟨_, q2⟩ | ⟨_, q2⟩
          · cases q2
          · exact k.ne i l b c xs ys w hne q1 q2
      · rcases get_set_cases q with ⟨_, q⟩ | ⟨_, q⟩
        · cases q
        · exact k.bw i xs q
      · rcases get_set_cases q with ⟨_, q⟩ | ⟨hi, q⟩
        · cases q
        · exact k.ne i j b _ ys xs a hi q hj s r1
    · exact h.elim
/-- the list of slot j is changed -/
theorem Ok.write {j : Nat} {c : Bool} {xs ys : List D} {a : Addr} {vs : List V} (k : Ok K G B Z Φ σ ρ H) (hj : ρ[j]? = some (.ow c xs)) (ha : σ[j]? = some (some (.ref a))) (r : RepL K G Z ys vs) : Ok K G B Z Φ σ (ρ.set j (.ow c ys)) (upd H a (.lst vs)) := by
  obtain ⟨a', vs', f1, f2, f3, f4, f5⟩ := k.ow _ _ _ hj
  rw [ha] at f1
  cases f1
  refine ⟨fun b u e => ?_, fun b u e => ?_, by rw [List.length_set]; exact k.len, fun i d q => ?_, fun i b zs q => ?_, fun i l b b' us ws w hne q1 q2 s1 s2 => ?_, fun i us q => ?_, k.lb⟩
  · have hb : b ≠ a := fun z => by rw [z, f4] at e; cases e
    rw [upd_ne hb]
    exact k.zh b u e
  · have hb : b ≠ a := fun z => by rw [z, f5] at e; cases e
    rw [upd_ne hb]
    exact k.fh b u e
  · rcases get_set_cases q with ⟨_, q⟩ | ⟨_, q⟩
    · cases q
    · exact k.fz i d q
  · rcases get_set_cases q with ⟨hi, q'⟩ | ⟨hi, q⟩
    · subst hi
      cases q'
      exact ⟨a, vs, ha, upd_same, r, f4, f5⟩
    · obtain ⟨a2, vs2, e1, e2, r2, z1, z2⟩ := k.ow i b zs q
      have hne : a2 ≠ a := fun z => k.ne i j b c zs xs a hi q hj (by rw [← z]; exact e1) ha
      exact ⟨a2, vs2, e1, by rw [upd_ne hne]; exact e2, r2, z1, z2⟩
  · rcases get_set_cases q1 with ⟨i1, _⟩ | ⟨i1, p1⟩
    · subst i1
      rcases get_set_cases q2 with ⟨i2, _⟩ | ⟨i2, p2⟩
      · exact hne i2.symm
      · exact k.ne i l _ _ _ _ w hne hj p2 s1 s2
    · rcases get_set_cases q2 with ⟨i2, _⟩ | ⟨i2, p2⟩
      · subst i2
        exact k.ne i l _ _ _ _ w hne p1 hj s1 s2
      · exact k.ne i l _ _ _ _ w hne p1 p2 s1 s2
  · rcases get_set_cases q with ⟨hi, q'⟩ | ⟨hi, q⟩
    · subst hi
      cases q'
      exact k.bw i _ hj
    · exact k.bw i us q
theorem isOw_get {c : Option Cell} (h : isOw c = true) : ∃ b xs, c = some (.ow b xs) := by
  unfold isOw at h
  split at h
  · exact ⟨_, _, rfl⟩
  · cases h
end

section
variable {X : Cx} {G : Wd} {W : WX} {pos : Pos} {e e2 : Expr} {st : Stmt} {rest : List Stmt}
theorem rs_nil : PSs X [] (tS X.K G W sNil) := pss_nil.imp fun D σ H h => by
  obtain ⟨B, Z, Φ, ρ, k, h⟩ := h
  exact h Z σ H Ext.refl k
theorem ts_seq {K : PySem.W.Frag} {f g : Es} {D : Ends} {σ : L2.St} {H : Hp} (h : tS K G W (sSeq f g) D σ H) : tSeq (tS K G W f) (tS K G W g) D σ H := by
  obtain ⟨B, Z, Φ, ρ, k, h⟩ := h
  refine ⟨B, Z, Φ, ρ, k, ?_⟩
  unfold sSeq at h
  cases hf : f ρ with
  | no => rw [hf] at h; exact h.elim
  | exc x => rw [hf] at h; exact h
  | ok p =>
    obtain ⟨fl, ρ1⟩ := p
    rw [hf] at h
    cases fl with
    | nx => exact fun Z1 σ1 H1 e1 k1 => ⟨B, Z1, Φ, ρ1, k1, PostS.ext h e1⟩
    | rt pv => exact h
    | bk => exact h
    | ct => exact h
theorem rs_cons {f g : Es} (h1 : PS X st (tS X.K G W f)) (h2 : PSs X rest (tS X.K G W g)) : PSs X (st :: rest) (tS X.K G W (sSeq f g)) := (pss_cons h1 h2).imp fun _ _ _ h => ts_seq h
theorem rs_one {f : Es} (h1 : PS X st (tS X.K G W f)) : PSs X [st] (tS X.K G W f) := pss_one h1
theorem rs_if {tc : Et} {f g : Es} {a b : List Stmt} (hc : PT X e (tT X.K G W tc)) (ha : PSs X a (tS X.K G W f)) (hb : PSs X b (tS X.K G W g)) : PS X (.If e a b pos) (tS X.K G W (sIf tc f g)) :=
  (ps_if hc ha hb).imp fun D σ H h => ts_bindT h fun B Z Φ ρ1 H1 b k q => by
    cases b with
    | true => exact iteT ⟨B, Z, Φ, ρ1, k, q⟩
    | false => exact iteF ⟨B, Z, Φ, ρ1, k, q⟩
theorem rs_set {i : Nat} {x : Str} {f : Ev} {pos' : Pos} (hN : X.N.Nodup) (hi : X.N[i]? = some x) (hx : Loc X.env.scope x) (he : PE X e (tE X.K G W f)) (hf : X.fn x = true ∨ X.env.scope.names.lookup x = some .local) (hs : swapsWith e (some (.Name x pos')) pos.line X.env = pure false := by rfl) :
    PS X (.Assign [.Name x pos'] e pos) (tS X.K G W (sSet i f)) := (ps_set hN hi hx he hs hf).imp fun D σ H h => ts_bindE h fun B Z Φ ρ1 H1 x pa k r q => set_ok k r q
/-- x = [..] on one line -/
theorem rs_setLc {i : Nat} {y : Str} {py : Pos} {elt tg iter : Expr} {ifs : List Expr} {scope : Scope} {own : List (Str × Nat)} {spos : Pos} {fi : Ei} {t : Tg} {ft : Et} {fe : Ev} (hc : X.calm = true) (hN : X.N.Nodup) (hy : X.N[i]? = some y) (hyl : X.env.scope.names.lookup y = some .local)
    (hsw : swapsWith (.ListComp elt [⟨tg, iter, ifs, 0⟩] scope pos) (some (.Name y py)) spos.line X.env = pure true) (hi : PI X tg iter (tI X.K G W fi)) (ok : BlkOk X.N X.env.scope scope own)
    (hg : ∀ (s : Shared) (H : Hp) (C : Addr) (cl : List (Str × Addr)) (fp : List Addr), PG (X.blk s H scope (compEnvC scope cl C X.env) fp) tg (tgR X.K t)) (ht : ∀ (s : Shared) (H : Hp) (C : Addr) (cl : List (Str × Addr)) (fp : List Addr), PTs (X.blk s H scope (compEnvC scope cl C X.env) fp) ifs (tT X.K G W0 ft))
    (he : ∀ (s : Shared) (H : Hp) (C : Addr) (cl : List (Str × Addr)) (fp : List Addr), PE (X.blk s H scope (compEnvC scope cl C X.env) fp) elt (tE X.K G W0 fe)) (hv : ∀ i ∈ t.vs, i ∈ own.map (·.2)) (hs : ∀ x, foldedSetIterable iter X.env x = pure x := by intro _; rfl) :
    PS X (.Assign [.Name y py] (.ListComp elt [⟨tg, iter, ifs, 0⟩] scope pos) spos) (tS X.K G W (sSet i (eLc (own.map (·.2)) fi t ft fe))) :=
  (ps_setLc hc hN hy hyl hsw hi ok hg ht he hs).imp fun D σ H h => te_lc hv (ts_bindE h fun B Z Φ ρ1 H1 x pa k r q => set_ok k r q)
theorem rs_ret {f : Ev} (he : PE X e (tE X.K G W f)) : PS X (.Return (some e) pos) (tS X.K G W (sRet f)) := (ps_ret he).imp fun D σ H h => ts_bindE h fun B Z Φ ρ1 H1 x pa k r q => ret_ok k r q
theorem rs_retN : PS X (.Return none pos) (tS X.K G W sRetN) := ps_retN.imp fun D σ H h => by
  obtain ⟨B, Z, Φ, ρ, k, h⟩ := h
  exact h Z σ H .non Ext.refl k rfl
theorem rs_expr {f : Ev} (he : PE X e (tE X.K G W f)) (hs : swapsWith e none pos.line X.env = pure false := by rfl) : PS X (.Expr e pos) (tS X.K G W (sExpr f)) := (ps_expr he hs).imp fun D σ H h => ts_bindE h fun B Z Φ ρ1 H1 x pa k r q => q Z σ H1 Ext.refl k
theorem rs_no {st : Stmt} : PS X st (tS X.K G W sNo) := ps_never.imp fun D σ H h => by
  obtain ⟨B, Z, Φ, ρ, k, h⟩ := h
  exact h.elim
theorem rs_pass : PS X (.Pass pos) (tS X.K G W sNil) := ps_pass.imp fun D σ H h => by
  obtain ⟨B, Z, Φ, ρ, k, h⟩ := h
  exact h Z σ H Ext.refl k
theorem rs_break : PS X (.Break pos) (tS X.K G W sBrk) := ps_break.imp fun D σ H h => by
  obtain ⟨B, Z, Φ, ρ, k, h⟩ := h
  exact h Z σ H Ext.refl k
theorem rs_continue : PS X (.Continue pos) (tS X.K G W sCont) := ps_continue.imp fun D σ H h => by
  obtain ⟨B, Z, Φ, ρ, k, h⟩ := h
  exact h Z σ H Ext.refl k
/-- x op= e, ints -/
theorem rs_aug {i : Nat} {x : Str} {op : Operator} {g : D → D → Option PV} {f : Ev} {r : R2} {pos' : Pos} (hN : X.N.Nodup) (hi : X.N[i]? = some x) (hx : Loc X.env.scope x) (he : PE X e (tE X.K G W f)) (ho : OpR X (inplaceOp op) r) (S : OpS X.K G r g)
    (h1 : PS X (.AugAssign (.Name x pos') op e pos) (tAug i (tE X.K G W f) r)) : PS X (.AugAssign (.Name x pos') op e pos) (tS X.K G W (sSet i (eOp g (eVar i) f))) :=
  h1.imp fun D σ H h => by
    have h2 := ts_bindE (P := fun z H2 => D.nx (σ.set i (some z)) H2) h fun B Z Φ ρ1 H1 x pa k r q => set_ok k r q
    exact te_var (te_op S h2)
theorem upv_ok {K : PySem.W.Frag} {B : L2.St} {Z Φ H : Hp} {σ : L2.St} {ρ ρ' : Rho} {pv pv' : PV} {v : V} (k : Ok K G B Z Φ σ ρ H) (r : RepP K G Z Φ σ ρ H pv v) (h : uPV (pv, ρ) = .ok (pv', ρ')) : ∃ Z', Ext Z Φ Z' ∧ Ok K G B Z' Φ σ ρ' H ∧ RepP K G Z' Φ σ ρ' H pv' v ∧ (∀ j, pv' ≠ .at j) := by
  unfold uPV at h
  split at h
  · rename_i d ρ0 ee
    cases ee
    cases h
    exact ⟨Z, Ext.refl, k, r, by intro j z; cases z⟩
  · rename_i xs ρ0 ee
    cases ee
    cases h
    exact ⟨Z, Ext.refl, k, r, by intro j z; cases z⟩
  · rename_i j ρ0 ee
    cases ee
    split at h
    · rename_i d ρ1 hu
      cases h
      obtain ⟨Z2, e2, k2, r2⟩ := k.use r hu
      exact ⟨Z2, e2, k2, r2, by intro j z; cases z⟩
    · cases h
theorem uPV_exc {p : PV × Rho} {x : Xc} (h : uPV p = .exc x) : False := by
  unfold uPV at h
  split at h
  · cases h
  · cases h
  · split at h <;> cases h
theorem setK_nx {i : Nat} {p : PV × Rho} {r : Fl × Rho} (h : setK i p = .ok r) : r.1 = .nx := by
  unfold setK at h
  split at h
  · split at h <;> cases h
    rfl
  · split at h <;> cases h
    rfl
  · split at h
    · split at h <;> cases h
      rfl
    · cases h
theorem setK_exc {i : Nat} {p : PV × Rho} {x : Xc} (h : setK i p = .exc x) : False := by
  unfold setK at h
  split at h
  · split at h <;> cases h
  · split at h <;> cases h
  · split at h
    · split at h <;> cases h
    · cases h
theorem ts_par {K : PySem.W.Frag} {i j : Nat} {fa fb : Ev} (hij : i ≠ j) {D : Ends} {σ : L2.St} {H : Hp} (h : tS K G W (sPar i j fa fb) D σ H) : tPar i j (tCons (tE K G W fa) (tCons (tE K G W fb) tNil)) D σ H := by
  obtain ⟨B, Z, Φ, ρ, k, h⟩ := h
  refine ⟨B, Z, Φ, ρ, k, ?_⟩
  unfold sPar at h
  cases ha : fa ρ with
  | no => rw [ha] at h; exact h.elim
  | exc x => rw [ha] at h; exact h σ k.lb
  | ok p =>
    obtain ⟨pa, ρ1⟩ := p
    rw [ha] at h
    intro Z1 H1 v e1 k1 r1
    change PostS K G W B Z Φ D ((uPV (pa, ρ1)).bind _) at h
    cases hu : uPV (pa, ρ1) with
    | no => rw [hu] at h; exact h.elim
    | exc x => exact (uPV_exc hu).elim
    | ok p =>
      obtain ⟨pa', ρ1'⟩ := p
      rw [hu] at h
      obtain ⟨Z2, e2, k2, r2, na⟩ := upv_ok k1 r1 hu
      have e12 := e1.trans e2
      change PostS K G W B Z Φ D (((fb ρ1').bind uPV).bind (parK2 i j pa')) at h
      -- the first value, a new list, is under guard
      have key : ∃ Φ', Ok K G B Z2 Φ' σ ρ1' H1 ∧ (∀ Z3 H3 ρ3, Ext Z2 Φ' Z3 → Ok K G B Z3 Φ' σ ρ3 H3 → Ext Z2 Φ Z3 ∧ Ok K G B Z3 Φ σ ρ3 H3 ∧ RepP K G Z3 Φ σ ρ3 H3 pa' v) ∧ (∀ xs a, pa' = .fr xs → v = .ref a → Φ' a ≠ none) ∧ Same Φ Φ' := by
        cases pa' with
        | fz d => exact ⟨Φ, k2, fun Z3 H3 ρ3 e3 k3 => ⟨e3, k3, Rep.mono e3.1 _ _ r2⟩, (fun xs a z => nomatch z), Same.refl _⟩
        | fr xs =>
          obtain ⟨a, vs, rfl, f1, f2, f3, f4, f5⟩ := r2
          refine ⟨upd Φ a (.lst vs), ⟨k2.zh, same_upd1 k2.fh f1, k2.len, k2.fz, fun l b ys q => ?_, k2.ne, k2.bw, k2.lb⟩, fun Z3 H3 ρ3 e3 k3 => ?_, (fun ys b z z2 => by cases z2; rw [upd_same]; intro q; cases q), same_newZ f4⟩
          · obtain ⟨c, ws, g1, g2, g3, g4, g5⟩ := k2.ow l b ys q
            have hne : c ≠ a := fun z => f5 l b ys q (by rw [← z]; exact g1)
            exact ⟨c, ws, g1, g2, g3, g4, by rw [upd_ne hne]; exact g5⟩
          · obtain ⟨e3', z3⟩ := Ext.unP e3 f3
            refine ⟨e3', k3.unP f4, a, vs, rfl, k3.fh _ _ upd_same, RepL.mono e3.1 _ _ f2, z3, f4, fun l b ys q s => ?_⟩
            obtain ⟨c, ws, g1, g2, g3, g4, g5⟩ := k3.ow l b ys q
            rw [s] at g1
            cases g1
            rw [upd_same] at g5
            cases g5
        | «at» l => exact absurd rfl (na l)
      obtain ⟨Φ', kΦ, back, guard, sΦ⟩ := key
      refine ⟨B, Z2, Φ', ρ1', kΦ, ?_⟩
      cases hb : fb ρ1' with
      | no => rw [hb] at h; exact h.elim
      | exc x =>
        rw [hb] at h
        intro Z3 H3 cls d e3 s3 f3 rx
        refine h σ k.lb Z3 H3 cls d (e12.trans ⟨e3.1, fun c u q => (e3.2 c u q).elim .inl fun z => .inr (Same.free sΦ z)⟩) s3 (sΦ.trans f3) rx
      | ok p =>
        obtain ⟨pb, ρ2⟩ := p
        rw [hb] at h
        intro Z3 H3 w e3 k3 r3
        change PostS K G W B Z Φ D ((uPV (pb, ρ2)).bind (parK2 i j pa')) at h
        cases hub : uPV (pb, ρ2) with
        | no => rw [hub] at h; exact h.elim
        | exc x => exact (uPV_exc hub).elim
        | ok p =>
          obtain ⟨pb', ρ2'⟩ := p
          rw [hub] at h
          obtain ⟨Z4, e4, k4, r4, nb⟩ := upv_ok k3 r3 hub
          obtain ⟨e5, k5, r5⟩ := back Z4 H3 ρ2' (e3.trans e4) k4
          refine ⟨v, w, rfl, ?_⟩
          change PostS K G W B Z Φ D (parK2 i j pa' (pb', ρ2')) at h
          unfold parK2 at h
          cases hs : setK i (pa', ρ2') with
          | no => rw [hs] at h; exact h.elim
          | exc x => exact (setK_exc hs).elim
          | ok p =>
            obtain ⟨fl, ρ3⟩ := p
            rw [hs] at h
            cases (show fl = .nx from setK_nx hs)
            have h2 : PostS K G W B Z4 Φ { D with nx := fun σ5 H5 => ∀ (kk : Ok K G B Z4 Φ σ5 ρ3 H5) (hH : H5 = H3) (hσ : σ5 = σ.set i (some v)), D.nx (σ5.set j (some w)) H5 } (setK i (pa', ρ2')) := by
              rw [hs]
              intro Z6 σ6 H6 e6 k6 kk hH hσ
              subst hH
              refine set_ok (W := W) (pv := pb') kk ?_ (PostS.ext h (e12.trans e5))
              -- the second value is still what it was
              cases pb' with
              | fz d => exact r4
              | fr ys =>
                obtain ⟨b, us, rfl, g1, g2, g3, g4, g5⟩ := r4
                refine ⟨b, us, rfl, g1, g2, g3, Same.free sΦ g4, fun l c zs q s => ?_⟩
                have hl : ρ3 = ρ2'.set i (match pa' with | .fz d => .fz d | .fr xs => .ow false xs | .at _ => .un) := by
                  cases pa' with
                  | fz d =>
                    simp only [setK] at hs
                    split at hs
                    · rename_i hq
                      cases hs
                      exact (setR_some hq).2.2
                    · cases hs
                  | fr xs =>
                    simp only [setK] at hs
                    split at hs
                    · rename_i hq
                      cases hs
                      exact (setR_some hq).2.2
                    · cases hs
                  | «at» l => exact absurd rfl (na l)
                rw [hl] at q
                rcases get_set_cases q with ⟨z, q'⟩ | ⟨z, q'⟩
                · subst z
                  cases pa' with
                  | fz d => cases q'
                  | fr xs =>
                    cases q'
                    have hll : l < σ.length := by
                      obtain ⟨_, _, f1, _⟩ := kk.ow l false _ (by rw [hl]; exact get_set_self (by rw [← k5.len]; have := (List.getElem?_eq_some_iff.mp s).1; rw [hσ, List.length_set] at this; exact this))
                      have := (List.getElem?_eq_some_iff.mp f1).1
                      rw [hσ, List.length_set] at this
                      exact this
                    rw [hσ, get_set_self hll] at s
                    have s' := Option.some.inj (Option.some.inj s)
                    exact guard _ b rfl (by rw [s']) g4
                  | «at» l => exact absurd rfl (na l)
                · rw [hσ, List.getElem?_set_ne (Ne.symm z)] at s
                  exact g5 l c zs q' s
              | «at» l => exact absurd rfl (nb l)
            have k6 : Ok K G B Z4 Φ (σ.set i (some v)) ρ3 H3 := by
              cases pa' with
              | fz d =>
                simp only [setK] at hs
                split at hs
                · rename_i hq
                  cases hs
                  exact k5.set hq r5
                · cases hs
              | fr xs =>
                simp only [setK] at hs
                split at hs
                · rename_i hq
                  cases hs
                  exact k5.setF hq r5
                · cases hs
              | «at» l => exact absurd rfl (na l)
            exact (set_ok (W := W) k5 r5 h2) k6 rfl rfl
end
end Rf
end
section
set_option Elab.async false
set_option linter.all false
set_option maxRecDepth 100000
set_option maxHeartbeats 4000000
/-! Rf, part H: stores, loops, try, raise, a def as a whole. -/
namespace Rf
open PySem PySem.Spec PyProof.Rows L2
section
variable {X : Cx} {G : Wd} {W : WX} {pos : Pos} {e e2 : Expr}
theorem rs_par {i j : Nat} {x y : Str} {a b : Expr} {fa fb : Ev} {px py pt : Pos} {kt k2 pt2} (hc : X.calm = true) (hN : X.N.Nodup) (hi : X.N[i]? = some x) (hj : X.N[j]? = some y) (hij : i ≠ j)
    (hx : X.env.scope.names.lookup x = some .local) (hy : X.env.scope.names.lookup y = some .local) (ha : PE X a (tE X.K G W fa)) (hb : PE X b (tE X.K G W fb))
    (hw : swappedStores [.Tuple [.Name x px, .Name y py] kt pt] (.Tuple [a, b] k2 pt2) X.env = pure (some [x, y]))
    (h1 : starEach [b] X.env = (false, eval b X.env) :: starEach [] X.env := by rfl) (h2 : starEach [a, b] X.env = (false, eval a X.env) :: starEach [b] X.env := by rfl)
    (hs : swapsWithSole [.Tuple [.Name x px, .Name y py] kt pt] (.Tuple [a, b] k2 pt2) pos.line X.env = pure false := by rfl) :
    PS X (.Assign [.Tuple [.Name x px, .Name y py] kt pt] (.Tuple [a, b] k2 pt2) pos) (tS X.K G W (sPar i j fa fb)) :=
  (ps_par hc hN hi hj hij hx hy (pa_cons ha (pa_cons hb pa_nil h1) h2) hw hs).imp fun D σ H h => ts_par hij h
theorem pgOr {tg : Expr} {t u : TG} (h : PG X tg t) (h' : PG X tg u) : PG X tg (fun v σ H Q => t v σ H Q ∨ u v σ H Q) :=
  ⟨fun pins s σ H v w Q I r q => q.elim (h.run pins s σ H v w Q I r) (h'.run pins s σ H v w Q I r)⟩
theorem bindL_len {ρ' : Rho} : ∀ {is : List Nat} {ds : List D} {ρ : Rho}, bindL is ds ρ = some ρ' → is.length = ds.length
  | [], [], _, _ => rfl
  | i :: is, d :: ds, ρ, h => by
    unfold bindL at h
    split at h
    · rw [List.length_cons, List.length_cons, bindL_len h]
    · cases h
  | [], _ :: _, _, h => by cases h
  | _ :: _, [], _, h => by cases h
theorem rs_unp {is : List Nat} {es : List Expr} {kt : Nat} {pt : Pos} {f : Ev} (he : PE X e (tE X.K G W f)) (hg1 : PG X (.Tuple es kt pt) (L2.gTup X.K is.length (gNames is))) (hg2 : PG X (.Tuple es kt pt) (gUnl X.K is.length (gNames is)))
    (hs : swapsWithSole [.Tuple es kt pt] e pos.line X.env = pure false := by rfl) (hw : swappedStores [.Tuple es kt pt] e X.env = pure none := by rfl)
    (h1 : (assignEach [.Tuple es kt pt] X.env).map (·.2) = [assign (.Tuple es kt pt) X.env] := by rfl) : PS X (.Assign [.Tuple es kt pt] e pos) (tS X.K G W (sUnp is f)) :=
  (ps_asg he (pgOr hg1 hg2) hs hw h1).imp fun D σ H h => ts_bindE h fun B Z Φ ρ1 H1 x pa k r q => by
    dsimp only at q
    cases hu : useV pa ρ1 with
    | none => rw [hu] at q; exact q.elim
    | some p =>
      obtain ⟨d, ρ2⟩ := p
      rw [hu] at q
      obtain ⟨Z2, e2, k2, r2⟩ := k.use r hu
      unfold unpK at q
      split at q
      · rename_i ds ρ3 ee
        cases ee
        split at q
        · rename_i ρ4 hb
          obtain ⟨a, vs, rfl, sa, ra⟩ := r2
          exact .inl ⟨a, vs, rfl, Same.seqT k2.zh sa, by rw [← ra.length, bindL_len hb], names_ok (vs := is) k2 ra hb (fun _ h => h) fun σ' k' _ => q Z2 σ' H1 e2 k'⟩
        · exact q.elim
      · rename_i ds ρ3 ee
        cases ee
        split at q
        · rename_i ρ4 hb
          obtain ⟨a, vs, rfl, sa, ra⟩ := r2
          exact .inr ⟨a, vs, rfl, .inl (.inl (k2.zh _ _ sa)), by rw [← ra.length, bindL_len hb], names_ok (vs := is) k2 ra hb (fun _ h => h) fun σ' k' _ => q Z2 σ' H1 e2 k'⟩
        · exact q.elim
      · exact q.elim
theorem rs_sto {j : Nat} {y : Str} {py px : Pos} {fi f : Ev} (hN : X.N[j]? = some y) (hv : Vis X.env.scope y) (he : PE X e (tE X.K G W f)) (hi : PE X e2 (tE X.K G W fi))
    (h0 : PS X (.Assign [.Subscript (.Name y py) e2 px] e pos) (tAsg (tE X.K G W f) (L2.gSub (tVar j) (tE X.K G W fi) rSetL))) : PS X (.Assign [.Subscript (.Name y py) e2 px] e pos) (tS X.K G W (sSto j fi f)) :=
  h0.imp fun D σ H h => ts_bindE h fun B Z Φ ρ1 H1 x pa k r q => by
    dsimp only at q
    cases hu : useV pa ρ1 with
    | none => rw [hu] at q; exact q.elim
    | some p =>
      obtain ⟨d, ρ2⟩ := p
      rw [hu] at q
      obtain ⟨Z2, e2', k2, r2⟩ := k.use r hu
      dsimp only at q
      split at q
      · rename_i ho
        obtain ⟨c0, xs0, hj0⟩ := isOw_get ho
        obtain ⟨a, vs0, f1, _⟩ := k2.ow _ _ _ hj0
        refine ⟨.ref a, f1, ?_⟩
        have q' : tS X.K G W (fun ρ => (fi ρ).bind (stoK j d)) D σ H1 := ⟨B, Z2, Φ, ρ2, k2, PostS.ext q e2'⟩
        obtain ⟨B', Z0, Φ', ρ0, k0, q0⟩ : ∃ B' Z0 Φ' ρ0, Ok X.K G B' Z0 Φ' σ ρ0 H1 ∧ (PostS X.K G W B' Z0 Φ' D ((fi ρ0).bind (stoK j d)) ∧ Rep X.K G Z0 d x) := ⟨B, Z2, Φ, ρ2, k2, PostS.ext q e2', r2⟩
        refine ⟨B', Z0, Φ', ρ0, k0, ?_⟩
        obtain ⟨q0, r0⟩ := q0
        cases ha : fi ρ0 with
        | no => rw [ha] at q0; exact q0.elim
        | exc x => rw [ha] at q0; exact q0 σ k0.lb
        | ok p =>
          obtain ⟨pi, ρ3⟩ := p
          rw [ha] at q0
          intro Z3 H3 w e3 k3 r3
          change PostS X.K G W B' Z0 Φ' D (stoK j d (pi, ρ3)) at q0
          unfold stoK at q0
          split at q0
          · rename_i n ρ4 ee
            cases ee
            split at q0
            · rename_i c xs hj
              split at q0
              · rename_i m hm
                obtain ⟨a', vs, g1, g2, g3, g4, g5⟩ := k3.ow _ _ _ hj
                rw [f1] at g1
                cases g1
                exact ⟨a, vs, n, m, rfl, r3, g2, by rw [← g3.length]; exact hm, q0 Z3 σ _ e3 (k3.write hj f1 (RepL.set (Rep.mono e3.1 _ _ r0) m g3))⟩
              · exact q0.elim
            · exact q0.elim
          · exact q0.elim
      · exact q.elim
theorem rs_app {j : Nat} {y : Str} {f : Ev} {call : Expr} (h0 : PS X (.Expr call pos) (tDrop (tBM X.K "list" rAppend (tVar j) (tCons (tE X.K G W f) tNil)))) : PS X (.Expr call pos) (tS X.K G W (sApp j f)) :=
  h0.imp fun D σ H h => by
    obtain ⟨B, Z, Φ, ρ, k, h⟩ := h
    unfold sApp at h
    split at h
    · rename_i ho
      obtain ⟨c0, xs0, hj0⟩ := isOw_get ho
      obtain ⟨a, vs0, f1, f2, _⟩ := k.ow _ _ _ hj0
      refine ⟨.ref a, f1, .inl ⟨rfl, _, .inl (.inl f2)⟩, ?_⟩
      have h' : tS X.K G W (fun ρ => (f ρ).bind fun (pv, ρ1) => appK j (useV pv ρ1)) D σ H := ⟨B, Z, Φ, ρ, k, h⟩
      refine ts_bindE h' fun B Z Φ ρ1 H1 x pa k r q => ?_
      dsimp only at q
      cases hu : useV pa ρ1 with
      | none => rw [hu] at q; exact q.elim
      | some p =>
        obtain ⟨d, ρ2⟩ := p
        rw [hu] at q
        obtain ⟨Z2, e2, k2, r2⟩ := k.use r hu
        unfold appK at q
        dsimp only at q
        split at q
        · rename_i c xs hj
          split at q
          · rename_i hz
            obtain ⟨a', vs, g1, g2, g3, g4, g5⟩ := k2.ow _ _ _ hj
            rw [f1] at g1
            cases g1
            exact ⟨a, vs, x, rfl, rfl, g2, by rw [← g3.length]; exact szOk_lt hz, q Z2 σ _ e2 (k2.write hj f1 (g3.append ⟨x, [], rfl, r2, rfl⟩))⟩
          · exact q.elim
        · exact q.elim
    · exact h.elim

/-! ### loops -/
theorem rs_for {tg iter : Expr} {body : List Stmt} {fi : Ei} {t : Tg} {fb : Es} (hp : PassesOwn (model X.prog X.w) X.A X.env X.xe) (hc : X.calm = true) (hi : PI X tg iter (tI X.K G W fi)) (hg : PG X tg (tgR X.K t)) (hb : PSs X body (tS X.K G W fb))
    (h0 : PS X (.For tg iter body [] pos) (tFor (tI X.K G W fi) (tgR X.K t) (tS X.K G W fb))) : PS X (.For tg iter body [] pos) (tS X.K G W (sFor fi t fb)) :=
  h0.imp fun D σ H h => by
    refine ts_bindI h fun B Z Φ ρ1 H1 J ds k it q => ?_
    dsimp only at q
    have w : Walk J ds.length (fun H => Same Z H) (fun i H x H' => ∀ d Z1, ds[i]? = some d → Same Z Z1 → Same Z1 H → ∃ Z2, Stp X.K G Z1 H (.fz d) x Z2 H') :=
      ⟨it.goes, it.stops, fun i H x H' _ _ y d Z1 e s s1 => it.yields i H x H' d Z1 e s s1 y⟩
    refine for_it w (fun i σ' H => ∃ Zi ρi, Ok X.K G B Zi Φ σ' ρi H ∧ Ext Z Φ Zi ∧ PostS X.K G W B Zi Φ D (forGo t fb (ds.drop i) ρi)) ?_ ?_ ?_ ?_
    · exact ⟨Z, ρ1, k, Ext.refl, q⟩
    · intro i σ' H hi ⟨Zi, ρi, ki, ei, _⟩
      exact ei.1.trans ki.zh
    · intro i x σ' H H' hi ⟨Zi, ρi, ki, ei, qi⟩ y
      rw [List.drop_eq_getElem_cons hi] at qi
      obtain ⟨Z2, st⟩ := y ds[i] Zi (List.getElem?_eq_getElem hi) ei.1 ki.zh
      obtain ⟨e2, k2, r2⟩ := st.ok ki
      unfold forGo at qi
      cases hb' : bindT t ds[i] ρi with
      | none => rw [hb'] at qi; exact qi.elim
      | some ρ2 =>
        rw [hb'] at qi
        refine tg_ok (vs := t.vs) k2 r2 hb' (fun _ h => h) fun σ2 k3 _ => ⟨B, Z2, Φ, ρ2, k3, ?_⟩
        have qi' := PostS.ext qi e2
        dsimp only at qi'
        cases hf : fb ρ2 with
        | no => rw [hf] at qi'; exact qi'.elim
        | exc x => rw [hf] at qi'; exact qi'
        | ok p =>
          obtain ⟨fl, ρ3⟩ := p
          rw [hf] at qi'
          cases fl with
          | nx => exact fun Z4 σ4 H4 e4 k4 => ⟨Z4, ρ3, k4, ei.trans (e2.trans e4), PostS.ext qi' e4⟩
          | ct => exact fun Z4 σ4 H4 e4 k4 => ⟨Z4, ρ3, k4, ei.trans (e2.trans e4), PostS.ext qi' e4⟩
          | bk => exact fun Z4 σ4 H4 e4 k4 => qi' Z4 σ4 H4 e4 k4
          | rt pv => exact fun Z4 σ4 H4 v e4 k4 r4 => qi' Z4 σ4 H4 v e4 k4 r4
    · intro σ' H ⟨Zi, ρi, ki, ei, qi⟩
      rw [List.drop_length] at qi
      exact qi Zi σ' H Ext.refl ki
theorem rs_while {n : Nat} {c : Expr} {body : List Stmt} {tc : Et} {fb : Es} (hp : PassesOwn (model X.prog X.w) X.A X.env X.xe) (hc : PT X c (tT X.K G W tc)) (hb : PSs X body (tS X.K G W fb)) : PS X (.While c body [] pos) (tS X.K G W (sWhile n tc fb)) :=
  (ps_while hp hc hb).imp fun D σ H h => by
    obtain ⟨B, Z, Φ, ρ, k, h⟩ := h
    refine ⟨fun m σ H => ∃ Zi ρi, Ok X.K G B Zi Φ σ ρi H ∧ Ext Z Φ Zi ∧ PostS X.K G W B Zi Φ D (whGo tc fb m ρi), ⟨n, Z, ρ, k, Ext.refl, h⟩, fun m σ1 H1 ⟨Zi, ρi, ki, ei, qi⟩ => ?_⟩
    cases m with
    | zero => exact qi.elim
    | succ m =>
      refine ⟨B, Zi, Φ, ρi, ki, ?_⟩
      unfold whGo at qi
      cases ht : tc ρi with
      | no => rw [ht] at qi; exact qi.elim
      | exc x => rw [ht] at qi; exact qi σ1 ki.lb
      | ok p =>
        obtain ⟨b, ρ2⟩ := p
        rw [ht] at qi
        intro Z2 H2 e2 k2
        cases b with
        | false => exact iteF (qi Z2 σ1 H2 e2 k2)
        | true =>
          refine iteT ⟨fun σ' H' => ∃ Zi ρi, Ok X.K G B Zi Φ σ' ρi H' ∧ Ext Z Φ Zi ∧ PostS X.K G W B Zi Φ D (whGo tc fb m ρi), fun σ' H' hn => ⟨m, Nat.lt_succ_self m, hn⟩, B, Z2, Φ, ρ2, k2, ?_⟩
          have qi' := PostS.ext qi e2
          dsimp only at qi'
          cases hf : fb ρ2 with
          | no => rw [hf] at qi'; exact qi'.elim
          | exc x => rw [hf] at qi'; exact qi'
          | ok p =>
            obtain ⟨fl, ρ3⟩ := p
            rw [hf] at qi'
            cases fl with
            | nx => exact fun Z4 σ4 H4 e4 k4 => ⟨Z4, ρ3, k4, ei.trans (e2.trans e4), PostS.ext qi' e4⟩
            | ct => exact fun Z4 σ4 H4 e4 k4 => ⟨Z4, ρ3, k4, ei.trans (e2.trans e4), PostS.ext qi' e4⟩
            | bk => exact fun Z4 σ4 H4 e4 k4 => qi' Z4 σ4 H4 e4 k4
            | rt pv => exact fun Z4 σ4 H4 v e4 k4 r4 => qi' Z4 σ4 H4 v e4 k4 r4

/-! ### raise Malformed('..') -/
def sMal : Es := fun _ => .exc .mal
theorem rs_mal {x m : Str} {j : Nat} {p p2 pos2 : Pos} {C : Addr} {bmB : List Value} {Bs newId initId : String} (hC : G.clA 0 = C) (hc : X.calm = true) (tk : Takes X W) (F : ExcBaseFacts Bs newId initId bmB) (q : PySem.W.excIn X.K C bmB newId = true) (gC : X.mg x = some (.ref C))
    (kC : PySem.W.keepIn X.K (.ref C) = true) (r : Raises X (.ref C)) (hg : Gl X x) (hdb : (x == ("__debug__" : Str)) = false := by decide) : PS X (.Raise (some (.Call (.Name x p) [.Constant (.str m) j p2] [] pos)) none pos2) (tS X.K G W sMal) :=
  (ps_raise hc tk (pmk_own F q gC kC r hg hdb)).imp fun D σ H h => by
    obtain ⟨B, Z, Φ, ρ, k, h⟩ := h
    exact h σ k.lb Z H _ _ Ext.refl k.zh k.fh (by rw [← hC]; rfl)
end

/-! ### a def -/
/-- what a body is worth as a function of data -/
def outF : R (Fl × Rho) → R PV
  | .ok (.nx, _) => .ok (.fz .non)
  | .ok (.rt (.fz d), _) => .ok (.fz d)
  | .ok (.rt (.fr xs), _) => .ok (.fr xs)
  | .exc x => .exc x
  | _ => .no
def startR (N : Nat) (ds : List D) : Rho := ds.map .fz ++ List.replicate (N - ds.length) .un
def fnOf (N : Nat) (f : Es) : Fn := fun ds => outF (f (startR N ds))
def lent (pv : PV) (ρ : Rho) : R (PV × List D) := match ρ[(0 : Nat)]? with
  | some (.ow true xs) => .ok (pv, xs)
  | _ => .no
theorem lent_ok {pv : PV} {ρ : Rho} : lent pv ρ = .no ∨ ∃ xs, ρ[(0 : Nat)]? = some (.ow true xs) ∧ lent pv ρ = .ok (pv, xs) := by
  unfold lent
  split
  · rename_i xs e
    exact .inr ⟨xs, e, rfl⟩
  · exact .inl rfl
def outB : R (Fl × Rho) → R (PV × List D)
  | .ok (.nx, ρ) => lent (.fz .non) ρ
  | .ok (.rt (.fz d), ρ) => lent (.fz d) ρ
  | .ok (.rt (.fr ys), ρ) => lent (.fr ys) ρ
  | _ => .no
def fnBOf (N : Nat) (f : Es) : FnB := fun xs ds => outB (f (.ow true xs :: ds.map .fz ++ List.replicate (N - (ds.length + 1)) .un))
section
variable {K : PySem.W.Frag} {G : Wd} {Z Φ H : Hp}
theorem RepL.getV : ∀ {ds : List D} {vs : List V} {i : Nat} {d : D}, RepL K G Z ds vs → ds[i]? = some d → ∃ v, vs[i]? = some v ∧ Rep K G Z d v := fun r e => r.get e
theorem start_ok {N : List Str} {ds : List D} {vs : List V} (zh : Same Z H) (fh : Same Φ H) (r : RepL K G Z ds vs) : Ok K G (L2.start N vs) Z Φ (L2.start N vs) (startR N.length ds) H := by
  have hl := r.length
  have el : (L2.start N vs).length = (startR N.length ds).length := by
    unfold L2.start startR
    simp only [List.length_append, List.length_map, List.length_replicate]
    omega
  have cs : ∀ (i : Nat) (c : Cell), (startR N.length ds)[i]? = some c → c = .un ∨ ∃ d, ds[i]? = some d ∧ c = .fz d := fun i c e => by
    unfold startR at e
    rw [List.getElem?_append] at e
    split at e
    · rw [List.getElem?_map, Option.map_eq_some_iff] at e
      obtain ⟨d, h1, h2⟩ := e
      exact .inr ⟨d, h1, h2.symm⟩
    · rw [List.getElem?_replicate] at e
      split at e
      · cases e; exact .inl rfl
      · cases e
  refine ⟨zh, fh, el, fun i d e => ?_, fun i b xs e => ?_, fun i j b c xs ys a _ e _ => ?_, fun i xs e => ?_, rfl⟩
  · rcases cs i _ e with z | ⟨d', h1, h2⟩
    · cases z
    · cases h2
      obtain ⟨v, h3, h4⟩ := r.get h1
      refine ⟨v, ?_, h4⟩
      unfold L2.start
      rw [List.getElem?_append_left (by rw [List.length_map]; exact (List.getElem?_eq_some_iff.mp h3).1), List.getElem?_map, h3]
      rfl
  · rcases cs i _ e with z | ⟨_, _, z⟩ <;> cases z
  · rcases cs i _ e with z | ⟨_, _, z⟩ <;> cases z
  · rcases cs i _ e with z | ⟨_, _, z⟩ <;> cases z
theorem startB_ok {N : List Str} {ds xs : List D} {a : Addr} {vs us : List V} (zh : Same Z H) (fh : Same Φ H) (r : RepL K G Z ds vs) (h1 : H a = some (.lst us)) (h2 : RepL K G Z xs us) (h3 : Z a = none) (h4 : Φ a = none) :
    Ok K G (L2.start N (.ref a :: vs)) Z Φ (L2.start N (.ref a :: vs)) (.ow true xs :: ds.map .fz ++ List.replicate (N.length - (ds.length + 1)) .un) H := by
  have hl := r.length
  have el : (L2.start N (.ref a :: vs)).length = (Cell.ow true xs :: ds.map Cell.fz ++ List.replicate (N.length - (ds.length + 1)) Cell.un).length := by
    unfold L2.start
    simp only [List.length_append, List.length_map, List.length_replicate, List.length_cons]
    omega
  have s0 : (L2.start N (.ref a :: vs))[(0 : Nat)]? = some (some (.ref a)) := rfl
  have cs : ∀ (i : Nat) (c : Cell), (Cell.ow true xs :: ds.map Cell.fz ++ List.replicate (N.length - (ds.length + 1)) Cell.un)[i]? = some c → (i = 0 ∧ c = .ow true xs) ∨ c = .un ∨ ∃ j d, i = j + 1 ∧ ds[j]? = some d ∧ c = .fz d := fun i c e => by
    cases i with
    | zero => exact .inl ⟨rfl, by simpa using e.symm⟩
    | succ j =>
      rw [List.cons_append, List.getElem?_cons_succ, List.getElem?_append] at e
      split at e
      · rw [List.getElem?_map, Option.map_eq_some_iff] at e
        obtain ⟨d, h1, h2⟩ := e
        exact .inr (.inr ⟨j, d, rfl, h1, h2.symm⟩)
      · rw [List.getElem?_replicate] at e
        split at e
        · cases e; exact .inr (.inl rfl)
        · cases e
  refine ⟨zh, fh, el, fun i d e => ?_, fun i b ys e => ?_, fun i j b c ys zs w hne e1 e2 => ?_, fun i ys e => rfl, rfl⟩
  · rcases cs i _ e with ⟨_, z⟩ | z | ⟨j, d', rfl, g1, g2⟩
    · cases z
    · cases z
    · cases g2
      obtain ⟨v, g3, g4⟩ := r.get g1
      refine ⟨v, ?_, g4⟩
      unfold L2.start
      rw [List.map_cons, List.cons_append, List.getElem?_cons_succ, List.getElem?_append_left (by rw [List.length_map]; exact (List.getElem?_eq_some_iff.mp g3).1), List.getElem?_map, g3]
      rfl
  · rcases cs i _ e with ⟨rfl, z⟩ | z | ⟨j, d', rfl, g1, g2⟩
    · cases z
      exact ⟨a, us, s0, h1, h2, h3, h4⟩
    · cases z
    · cases g2
  · rcases cs i _ e1 with ⟨rfl, z⟩ | z | ⟨_, d', rfl, g1, g2⟩
    · rcases cs j _ e2 with ⟨rfl, z⟩ | z | ⟨_, d', rfl, g1, g2⟩
      · exact absurd rfl hne
      · cases z
      · cases g2
    · cases z
    · cases g2
end
section
variable {P : Program} {w : World} {K : PySem.W.Frag} {mg : Str → Option Value} {base : Heap} {x qual : Str} {st : Stmt} {f : Addr} {fd : FuncData} {N ps : List Str} {k : Nat} {G : Wd}
/-- a def keeps what its body's term is worth -/
theorem fn_ok {fb : Es} (F : Fun K x qual st f fd) (S : FnScope N ps (defScope st)) (hb : ∀ (cdv : Value) (A : Around) (outer : List Env) (s : Shared) (H : Hp) (E : XK), Room k (A.deeper (envOfC qual (defScope st) s.heap.objs.size f cdv)) →
      PSs (cxOf (L2.CX P w) P w K mg base N qual (defScope st) f cdv A outer s H E) (defBody st) (tS K G (fun cls d _ H => E cls d H) fb)) : FnOk P w K mg base (L2.CX P w) (k + 1) f fd ps (spF K G ps.length (fnOf N.length fb)) := by
  refine F.okX S (spF_len rfl) (fun cdv A outer s H vs Q E hr h => ⟨_, hb cdv A outer s H E hr, ?_⟩)
  obtain ⟨Z, Φ, ds, zh, fh, r, hl, q⟩ := h
  refine ⟨L2.start N vs, Z, Φ, startR N.length ds, start_ok zh fh r, ?_⟩
  unfold fnOf at q
  cases hf : fb (startR N.length ds) with
  | no => rw [hf] at q; exact q.elim
  | exc x => rw [hf] at q; exact fun σ' _ => q
  | ok p =>
    obtain ⟨fl, ρ1⟩ := p
    rw [hf] at q
    cases fl with
    | nx => exact fun Z1 σ1 H1 e1 k1 => q Z1 H1 .non e1 k1.zh k1.fh rfl
    | bk => exact q.elim
    | ct => exact q.elim
    | rt pv =>
      cases pv with
      | fz d => exact fun Z1 σ1 H1 v e1 k1 r1 => q Z1 H1 v e1 k1.zh k1.fh r1
      | fr xs =>
        intro Z1 σ1 H1 v e1 k1 r1
        obtain ⟨a, us, ev, g1, g2, g3, g4, _⟩ := r1
        exact q Z1 H1 v e1 k1.zh k1.fh ⟨a, us, ev, g1, g2, g3, g4⟩
      | «at» i => exact q.elim
theorem fnB_ok {fb : Es} {n : Nat} (F : Fun K x qual st f fd) (S : FnScope N ps (defScope st)) (hn : ps.length = n) (hb : ∀ (cdv : Value) (A : Around) (outer : List Env) (s : Shared) (H : Hp) (E : XK), Room k (A.deeper (envOfC qual (defScope st) s.heap.objs.size f cdv)) →
      PSs (cxOf (L2.CX P w) P w K mg base N qual (defScope st) f cdv A outer s H E) (defBody st) (tS K G (fun cls d _ H => E cls d H) fb)) : FnOk P w K mg base (L2.CX P w) (k + 1) f fd ps (spB K G n (fnBOf N.length fb)) := by
  refine F.okX S (spB_len hn) (fun cdv A outer s H vs Q E hr h => ⟨_, hb cdv A outer s H E hr, ?_⟩)
  obtain ⟨Z, Φ, a, ws, us, xs, ds, rfl, h1, h2, h3, h4, zh, fh, r, hl, q⟩ := h
  have s0 : (L2.start N (.ref a :: ws))[(0 : Nat)]? = some (some (.ref a)) := rfl
  refine ⟨_, Z, Φ, _, startB_ok zh fh r h1 h2 h3 h4, ?_⟩
  unfold fnBOf at q
  cases hf : fb (.ow true xs :: ds.map .fz ++ List.replicate (N.length - (ds.length + 1)) .un) with
  | no => rw [hf] at q; exact q.elim
  | exc x => rw [hf] at q; exact q.elim
  | ok p =>
    obtain ⟨fl, ρ1⟩ := p
    rw [hf] at q
    have own : ∀ {ys : List D} {Z1 : Hp} {σ1 : L2.St} {H1 : Hp}, ρ1[(0 : Nat)]? = some (.ow true ys) → Ok K G (L2.start N (.ref a :: ws)) Z1 Φ σ1 ρ1 H1 → ∃ vs', H1 a = some (.lst vs') ∧ RepL K G Z1 ys vs' ∧ Z1 a = none ∧ σ1[(0 : Nat)]? = some (some (.ref a)) := fun {ys Z1 σ1 H1} e k1 => by
      obtain ⟨a', vs', g1, g2, g3, g4, g5⟩ := k1.ow _ _ _ e
      have e0 := k1.bw _ _ e
      rw [e0, s0] at g1
      cases g1
      exact ⟨vs', g2, g3, g4, e0.trans s0⟩
    cases fl with
    | nx =>
      change PostB K G Z Φ a Q (lent (.fz .non) ρ1) at q
      rcases lent_ok (pv := .fz .non) (ρ := ρ1) with e0 | ⟨ys, e0, el⟩
      · rw [e0] at q; exact q.elim
      · rw [el] at q
        intro Z1 σ1 H1 e1 k1
        obtain ⟨vs', g2, g3, g4, _⟩ := own e0 k1
        exact q Z1 H1 .non vs' e1 k1.zh k1.fh g2 g3 g4 rfl
    | bk => exact q.elim
    | ct => exact q.elim
    | rt pv =>
      cases pv with
      | fz d =>
        change PostB K G Z Φ a Q (lent (.fz d) ρ1) at q
        rcases lent_ok (pv := .fz d) (ρ := ρ1) with e0 | ⟨ys, e0, el⟩
        · rw [e0] at q; exact q.elim
        · rw [el] at q
          intro Z1 σ1 H1 v e1 k1 r1
          obtain ⟨vs', g2, g3, g4, _⟩ := own e0 k1
          exact q Z1 H1 v vs' e1 k1.zh k1.fh g2 g3 g4 r1
      | fr zs =>
        change PostB K G Z Φ a Q (lent (.fr zs) ρ1) at q
        rcases lent_ok (pv := .fr zs) (ρ := ρ1) with e0 | ⟨ys, e0, el⟩
        · rw [e0] at q; exact q.elim
        · rw [el] at q
          intro Z1 σ1 H1 v e1 k1 r1
          obtain ⟨vs', g2, g3, g4, g5⟩ := own e0 k1
          obtain ⟨b, us', ev, f1, f2, f3, f4, f5⟩ := r1
          exact q Z1 H1 v vs' e1 k1.zh k1.fh g2 g3 g4 ⟨b, us', ev, f1, f2, f3, f4, fun z => f5 0 _ _ e0 (by rw [z]; exact g5)⟩
      | «at» i => exact q.elim
end
end Rf
end
section
set_option Elab.async false
set_option linter.all false
set_option maxRecDepth 100000
set_option maxHeartbeats 4000000
/-! Rf, part I: try with two clauses, the second one with a name. -/
namespace Rf
open PySem PySem.Spec PyProof.Rows L2

/-- behind a named clause its name is gone -/
def Dn (i : Nat) (D : Ends) : Ends := { nx := fun σ H => D.nx (σ.set i none) H, rt := D.rt, bk := fun σ H => D.bk (σ.set i none) H, ct := fun σ H => D.ct (σ.set i none) H }
def wTwo (K : PySem.W.Frag) (c1 c2 : Value) (i : Nat) (ts1 ts2 : Addr → Value → Option Addr → TS) (D : Ends) : WX := fun cls d σ H =>
  (PySem.W.exmOne K cls c1 = some true ∧ ∀ a, H a = none → ts1 a cls d D σ H) ∨
  (PySem.W.exmOne K cls c1 = some false ∧ PySem.W.exmOne K cls c2 = some true ∧ ∀ a, H a = none → ts2 a cls d (Dn i D) (σ.set i (some (.ref a))) H)
section
variable {X : Cx} {x1 x2 n : Str} {c1 c2 : Value} {i : Nat} {body s1 s2 : List Stmt} {b1 b2 : Stmt} {np1 np2 pos p1 p2 : Pos} {tb : WX → TS} {ts1 ts2 : Addr → Value → Option Addr → TS}
/-- the exception's object is none of the frames' -/
theorem fly_apart {B h : Heap} {a : Addr} {o : Obj} {vs : Array Value} (ff : h.FunFrames B (X.env :: X.outer)) (hf : X.env.frame = some X.env.locals) (e : h.get? a = some o) (dd : o.data = .fields vs) : a ≠ X.env.locals ∧ a ∉ X.fs := by
  have nfr : a ∉ frs (X.env :: X.outer) := fun hm => by
    obtain ⟨_, o', e', hnf⟩ := ff.mem hm
    rw [e] at e'
    cases e'
    exact hnf _ dd
  constructor
  · intro z
    exact nfr (List.mem_filterMap.mpr ⟨X.env, List.mem_cons_self, by rw [hf, z]⟩)
  · intro hm
    obtain ⟨e, he, q⟩ := List.mem_filterMap.mp hm
    exact nfr (List.mem_filterMap.mpr ⟨e, List.mem_cons_of_mem _ he, q⟩)
/-- a clause's class is read -/
theorem name_read {x : Str} {c : Value} {np : Pos} {a : Addr} {pn : List (Addr × Obj)} {σ : L2.St} {H : Hp} {s : Shared} (hc : Names X x c) (S : Inv (X.suite a pn) [] σ H s) {Q : Value → Shared → Prop} {E : Value → Shared → Prop} (q : Q c s) :
    wpAny (model X.prog X.w) (X.A.mark (some (.ref a))) (eval (.Name x np) X.env) Q E s := by
  obtain ⟨hg, hdbg, hm | ⟨hm, hv, hnn⟩⟩ := hc
  · exact ld_glob (X := X.suite a pn) S hg hm q hdbg
  · exact ld_blt (X := X.suite a pn) S hg hm hv q hnn hdbg
theorem ps_try2 (hs : X.stack = X.env :: X.outer) (hf : X.env.frame = some X.env.locals) (hN : X.N.Nodup) (hi : X.N[i]? = some n) (hln : X.env.kindOf n = some .local) (hc1 : Names X x1 c1) (hc2 : Names X x2 c2)
    (hb : ∀ (W : WX) (pn : List (Addr × Obj)) (xe : Value → Shared → Prop), Takes (X.tr pn xe) W → PassesOwn (model X.prog X.w) X.A X.env xe → PSs (X.tr pn xe) body (tb W))
    (h1 : ∀ (a : Addr) (oe : Obj) (cls : Value) (d : Option Addr) (pn : List (Addr × Obj)), Zc cls d oe → (∃ vs, oe.data = .fields vs) → PSs (X.suite a ((a, oe) :: pn)) (b1 :: s1) (ts1 a cls d))
    (h2 : ∀ (a : Addr) (oe : Obj) (cls : Value) (d : Option Addr) (pn : List (Addr × Obj)), Zc cls d oe → (∃ vs, oe.data = .fields vs) → PSs (X.suite a ((a, oe) :: pn)) (b2 :: s2) (ts2 a cls d)) :
    PS X (.Try body [.ExceptHandler (some (.Name x1 np1)) none (b1 :: s1) p1, .ExceptHandler (some (.Name x2 np2)) (some n) (b2 :: s2) p2] [] [] pos) (fun D σ H => tb (wTwo X.K c1 c2 i ts1 ts2 D) D σ H) := by
  refine ⟨fun pins s σ H D I h => wpAny_Try_except ?_⟩
  have ok := I.ok
  have hfr : X.A.frames = some (X.env :: X.outer) := by rw [ok.frames, hs]
  have hloc : Loc X.env.scope n := .inl hln
  refine wpAny_mono ((hb (wTwo X.K c1 c2 i ts1 ts2 D) (X.pn ++ pins) _ (fun u s' xx => ?_) PassesOwn.looking).run [] s σ H D (I.toTry _) h) (fun f t1 hsp => ?_) (fun e t1 he => he)
  · obtain ⟨a, B, sI, pins', σ', H', cls, d, rfl, J', nb, up, sky, na, os, ag, wish⟩ := xx
    have J : Inv X pins σ' H' sI := J'.ofTry ok
    have sky' : Sky B (X.env :: X.outer) a (Zc cls d) X.env.locals s'.heap := by
      rw [← hs]
      exact sky
    show wpAny (model X.prog X.w) X.A (noteFrame (.ref a) X.env) _ _ _
    refine Sky.land Zc.steady hfr hf sky' fun h3 fl3 up3 => ?_
    have J3 : Inv X pins σ' H' { s' with heap := h3 } := J.landed nb fl3.1 (up.trans up3) os ag
    obtain ⟨oe3, vs3, he3, hz3, hd3⟩ := fl3.there
    obtain ⟨nL, nF⟩ := fly_apart fl3.2.2.1 hf he3 hd3
    have S3 := J3.suite he3 hd3 na nL nF
    have LT : PySem.W.Looks (model X.prog X.w) h3 (typeOf (.ref a)) cls := fun A Q E s k q => wpAny_typeOf_ref (k _ _ he3) (by rw [hz3.1]; exact q)
    refine wpAny_handleBy_cons (codeAny_handlers_test ?_) (by intro q; cases q)
    rcases wish with ⟨e1, w1⟩ | ⟨e1, e2, w2⟩
    · refine name_read hc1 S3 ((PySem.W.exm_one (M := model X.prog X.w) J3.kIn LT e1).here (codeAny_handlers_suite ?_))
      refine HandSPX.lands_againZ fl3 fun h4 fl4 up4 => ?_
      have J4 : Inv X pins σ' H' { s' with heap := h4 } := J.landed nb fl4.1 ((up.trans up3).trans up4) os ag
      obtain ⟨oe4, vs4, he4, hz4, hd4⟩ := fl4.there
      have S4 := J4.suite he4 hd4 na nL nF
      refine wpAny_mono ((h1 a oe4 cls d (X.pn ++ pins) hz4 ⟨_, hd4⟩).run [] _ _ H' _ S4 (w1 a na)) (fun f s6 hsp => ?_) (fun _ _ z => False.elim z)
      cases f with
      | ret u =>
        obtain ⟨v6, σ6, H6, S6, r6, q6⟩ := hsp
        exact ⟨v6, σ6, H6, S6.unsuite ok, r6, q6⟩
      | _ =>
        obtain ⟨σ6, H6, S6, q6⟩ := hsp
        exact ⟨σ6, H6, S6.unsuite ok, q6⟩
    · refine name_read hc1 S3 ((PySem.W.exm_one (M := model X.prog X.w) J3.kIn LT e1).here ?_)
      show wpAny _ X.A (handleBy (.ref a) X.env [.ExceptHandler (some (.Name x2 np2)) (some n) (b2 :: s2) p2]) _ _ _
      refine wpAny_handleBy_cons (codeAny_handlers_test ?_) (by intro q; cases q)
      refine name_read hc2 S3 ((PySem.W.exm_one (M := model X.prog X.w) J3.kIn LT e2).here (codeAny_handlers_suite_as ?_))
      refine HandSPX.lands_againZ fl3 fun h4 fl4 up4 => ?_
      have J4 : Inv X pins σ' H' { s' with heap := h4 } := J.landed nb fl4.1 ((up.trans up3).trans up4) os ag
      obtain ⟨oe4, vs4, he4, hz4, hd4⟩ := fl4.there
      have S4 := J4.suite he4 hd4 na nL nF
      refine store_ok (X := X.suite a ((a, oe4) :: (X.pn ++ pins))) (v := .ref a) S4 hN hi hloc rfl (fun s5 S5 => ?_) (.inr hln)
      refine wpAny_mono ((h2 a oe4 cls d (X.pn ++ pins) hz4 ⟨_, hd4⟩).run [] s5 _ H' _ S5 (w2 a na)) (fun f s6 hsp => ?_) (fun _ _ z => False.elim z)
      have gone : ∀ {σ6 : L2.St} {H6 : Hp} {Q : Shared → Prop}, Inv (X.suite a ((a, oe4) :: (X.pn ++ pins))) [] σ6 H6 s6 → (∀ s7, Inv X pins (σ6.set i none) H6 s7 → Q s7) →
          wpAny (model X.prog X.w) X.A (do bindName X.env n .none; unbindBehindTheSuite X.env n p2) (fun _ s7 => Q s7) X.xe s6 := fun S6 hq => gone_ok (S6.unsuite ok) hN hi hln hq
      cases f with
      | ret u =>
        obtain ⟨v6, σ6, H6, S6, r6, q6⟩ := hsp
        exact gone S6 fun s7 J7 => ⟨_, _, _, J7, r6, q6⟩
      | _ =>
        obtain ⟨σ6, H6, S6, q6⟩ := hsp
        exact gone S6 fun s7 J7 => ⟨_, _, J7, q6⟩
  · cases f with
    | next =>
      obtain ⟨σ', H', J', q⟩ := hsp
      exact wpAny_execs_nil ⟨σ', H', J'.ofTry ok, q⟩
    | ret u =>
      obtain ⟨v, σ', H', J', r, q⟩ := hsp
      exact ⟨v, σ', H', J'.ofTry ok, r, q⟩
    | _ =>
      obtain ⟨σ', H', J', q⟩ := hsp
      exact ⟨σ', H', J'.ofTry ok, q⟩
end
/-- the try over data: the suites only return: d1, and d2 of the reason -/
def tryK (n : Nat) (d1 : D) (d2 : Str → Option D) : R (Fl × Rho) → R (Fl × Rho)
  | .ok r => .ok r
  | .exc .mal => .ok (.rt (.fz d1), List.replicate n .un)
  | .exc (.rfd x) => match d2 x with
    | some d => .ok (.rt (.fz d), List.replicate n .un)
    | none => .no
  | .no => .no
def sTry (n : Nat) (d1 : D) (d2 : Str → Option D) (fb : Es) : Es := fun ρ => tryK n d1 d2 (fb ρ)
theorem ok_un {K : PySem.W.Frag} {G : Wd} {Z Φ H : Hp} {σ : L2.St} {n : Nat} (zh : Same Z H) (fh : Same Φ H) (hl : σ.length = n) : Ok K G σ Z Φ σ (List.replicate n .un) H := by
  have un : ∀ (i : Nat) (c : Cell), (List.replicate n Cell.un)[i]? = some c → c = .un := fun i c e => by
    rw [List.getElem?_replicate] at e
    split at e
    · cases e; rfl
    · cases e
  refine ⟨zh, fh, by rw [List.length_replicate]; exact hl, fun i d e => ?_, fun i b xs e => ?_, fun i j b c xs ys a _ e _ => ?_, fun i xs e => ?_, rfl⟩
  · cases un i _ e
  · cases un i _ e
  · cases un i _ e
  · cases un i _ e
section
variable {X : Cx} {G : Wd} {W : WX} {x1 x2 n : Str} {c1 c2 : Value} {i nn : Nat} {body s1 s2 : List Stmt} {b1 b2 : Stmt} {np1 np2 pos p1 p2 : Pos} {fb f1 : Es} {d1 : D} {d2 : Str → Option D}
theorem rs_try (hs : X.stack = X.env :: X.outer) (hf : X.env.frame = some X.env.locals) (hN : X.N.Nodup) (hi : X.N[i]? = some n) (hln : X.env.kindOf n = some .local) (hc1 : Names X x1 c1) (hc2 : Names X x2 c2)
    (hb : ∀ (W : WX) (pn : List (Addr × Obj)) (xe : Value → Shared → Prop), Takes (X.tr pn xe) W → PassesOwn (model X.prog X.w) X.A X.env xe → PSs (X.tr pn xe) body (tS X.K G W fb))
    {ts2 : Addr → Value → Option Addr → TS}
    (h1 : ∀ (a : Addr) (oe : Obj) (cls : Value) (d : Option Addr) (pn : List (Addr × Obj)), Zc cls d oe → (∃ vs, oe.data = .fields vs) → PSs (X.suite a ((a, oe) :: pn)) (b1 :: s1) (tS X.K G W0 f1))
    (h2 : ∀ (a : Addr) (oe : Obj) (cls : Value) (d : Option Addr) (pn : List (Addr × Obj)), Zc cls d oe → (∃ vs, oe.data = .fields vs) → PSs (X.suite a ((a, oe) :: pn)) (b2 :: s2) (ts2 a cls d))
    (e1 : f1 (List.replicate nn .un) = .ok (.rt (.fz d1), List.replicate nn .un))
    (e2 : ∀ (De : Ends) (σ : L2.St) (Z Φ H : Hp) (cls : Value) (d : Option Addr) (a : Addr) (x : Str) (dd : D), d2 x = some dd → σ.length = nn → H a = none → RepX G H (.rfd x) cls d → Same Z H → Same Φ H →
      (∀ Z' H' v, Ext Z Φ Z' → Same Z' H' → Same Φ H' → Rep X.K G Z' dd v → De.rt v H') → ts2 a cls d (Dn i De) (σ.set i (some (.ref a))) H)
    (m1 : PySem.W.exmOne X.K (.ref (G.clA 0)) c1 = some true) (m2 : (∃ x dd, d2 x = some dd) → PySem.W.exmOne X.K (.ref (G.clA 1)) c1 = some false ∧ PySem.W.exmOne X.K (.ref (G.clA 1)) c2 = some true) (hnn : X.N.length = nn)
    (hl : ∀ (σ : L2.St) (ρ : Rho), σ.length = ρ.length → ρ.length = nn → True := fun _ _ _ _ => True.intro) :
    PS X (.Try body [.ExceptHandler (some (.Name x1 np1)) none (b1 :: s1) p1, .ExceptHandler (some (.Name x2 np2)) (some n) (b2 :: s2) p2] [] [] pos) (tS X.K G W (fun ρ => if ρ.length == nn then sTry nn d1 d2 fb ρ else .no)) :=
  (ps_try2 (tb := fun W => tS X.K G W fb) (ts1 := fun _ _ _ => tS X.K G W0 f1) hs hf hN hi hln hc1 hc2 hb h1 h2).imp fun D σ H h => by
    obtain ⟨B, Z, Φ, ρ, k, h⟩ := h
    refine ⟨B, Z, Φ, ρ, k, ?_⟩
    dsimp only at h
    split at h
    · rename_i hlen
      have hB : B.length = nn := by rw [← k.lb, k.len]; exact eq_of_beq hlen
      unfold sTry at h
      cases hfb : fb ρ with
      | no => rw [hfb] at h; exact h.elim
      | ok r =>
        rw [hfb] at h
        obtain ⟨fl, ρ1⟩ := r
        cases fl <;> exact h
      | exc x =>
        rw [hfb] at h
        intro σ' hσ Z' H' cls d e zh fh rx
        have hn : σ'.length = nn := by rw [hσ, hB]
        cases x with
        | mal =>
          refine .inl ⟨by rw [show cls = .ref (G.clA 0) from rx]; exact m1, fun a na => ⟨σ', Z', Φ, List.replicate nn .un, ok_un zh fh hn, ?_⟩⟩
          rw [e1]
          intro Z2 σ2 H2 v e2' k2 r2
          exact h Z2 B H2 v (e.trans e2') (ok_un k2.zh k2.fh hB) r2
        | rfd x =>
          change PostS X.K G W B Z Φ D (tryK nn d1 d2 (.exc (.rfd x))) at h
          unfold tryK at h
          dsimp only at h
          cases hd : d2 x with
          | none => rw [hd] at h; exact h.elim
          | some dd =>
            rw [hd] at h
            obtain ⟨m2a, m2b⟩ := m2 ⟨x, dd, hd⟩
            have hc : cls = .ref (G.clA 1) := rx.1
            refine .inr ⟨by rw [hc]; exact m2a, by rw [hc]; exact m2b, fun a na => e2 D σ' Z' Φ H' cls d a x dd hd hn na rx zh fh fun Z2 H2 v e2' z2 f2' r2 => ?_⟩
            exact h Z2 B H2 v (e.trans e2') (ok_un z2 f2' hB) r2
    · exact h.elim
end
end Rf
end
section
set_option Elab.async false
set_option linter.all false
set_option maxRecDepth 100000
set_option maxHeartbeats 4000000
/-! Rf, part T: a tuple times 0 or 1. -/
namespace Rf
open PySem PySem.Spec PyProof.Rows L2
theorem tmul_one (l : Addr) (its : Array Value) (n : Nat) (dd : Option Addr) (sl : Array (Option Value)) (u : Tok) :
    Meets (Builtin.«tuple.__mul__» ⟨[.ref l, .int 1 u], []⟩) (fun _ R s => s.heap.get? l = some { cls := .type "tuple", dict := dd, data := .seq its n, slots := sl } ∧ R (.ok (.ret (Value.ref l))) s) :=
  .of_wp fun prog w A R s h => by
    obtain ⟨hp, g, d, tk, os⟩ := s
    obtain ⟨hl, h⟩ := h
    have f1 := AutoSeq1.idx_int
    wp_walk using wpAny_loadPart' hl
    exact ⟨_, rfl, h⟩
theorem tmul_zero (l : Addr) (its : Array Value) (n : Nat) (dd : Option Addr) (sl : Array (Option Value)) (u : Tok) (h0 : its.isEmpty = false) :
    Meets (Builtin.«tuple.__mul__» ⟨[.ref l, .int 0 u], []⟩) (fun _ R s => s.heap.get? l = some { cls := .type "tuple", dict := dd, data := .seq its n, slots := sl } ∧
      R (.ok (.ret (Value.ref s.heap.objs.size))) { s with heap := s.heap.push { cls := Value.type "tuple", data := Data.seq #[] }, toks := s.toks }) :=
  .of_wp fun prog w A R s h => by
    obtain ⟨hp, g, d, tk, os⟩ := s
    obtain ⟨hl, h⟩ := h
    have f1 := AutoSeq1.idx_int
    wp_walk using wpAny_loadPart' hl
    exact ⟨_, rfl, h⟩
def rRepS (K : PySem.W.Frag) : R2 := fun x y H Q => ∃ l k xs, x = .ref l ∧ y = .int k ∧ SqT K H l xs ∧ xs ≠ [] ∧ ((k = 1 ∧ Q (.ref l) H) ∨ (k = 0 ∧ ∀ p, H p = none → Q (.ref p) (upd H p (.tup []))))
theorem op_repS {X : Cx} : OpR X (binaryOp .Mult) (rRepS X.K) := by
  intro pins s σ H x y v u Q I rx ry h
  obtain ⟨l, k, xs, rfl, rfl, hT, hne, q⟩ := h
  cases rx
  obtain ⟨t, rfl⟩ := ry
  obtain ⟨its, r, ⟨⟨cls, dd, data, sl⟩, ho, hc, n, hd⟩, hs⟩ := I.tuple hT
  simp only at hc hd
  subst hc hd
  have hi : its.toArray.isEmpty = false := by
    cases its with
    | nil => cases r; exact absurd rfl hne
    | cons a b => rfl
  rcases q with ⟨rfl, q⟩ | ⟨rfl, q⟩
  · exact wpAny_binaryOp_repeat_ref (T := "tuple") (U := "int") (by decide) ⟨_, ho, rfl⟩ (fun s' => typeIs_int s' 1 t) noFill_tuple_mul F.fills_int_mul F.slot_int_rmul repeat_tuple F.slot_int_index.lookup
      (call_meets F.slot_int_rmul (typeIs_int s 1 t) F.entry_int_rmul (F.args_int_rmul_2 _ _) (int_rmul_tuple 1 t l its.toArray n dd sl)
        ⟨ho, rfl, ⟨_, ho, rfl⟩, call_meets F.slot_tuple_mul ⟨_, ho, rfl⟩ F.entry_tuple_mul (F.args_tuple_mul_2 _ _) (tmul_one l its.toArray n dd sl t) ⟨ho, .ref l, H, I, rfl, q⟩⟩)
  · refine wpAny_binaryOp_repeat_ref (T := "tuple") (U := "int") (by decide) ⟨_, ho, rfl⟩ (fun s' => typeIs_int s' 0 t) noFill_tuple_mul F.fills_int_mul F.slot_int_rmul repeat_tuple F.slot_int_index.lookup
      (call_meets F.slot_int_rmul (typeIs_int s 0 t) F.entry_int_rmul (F.args_int_rmul_2 _ _) (int_rmul_tuple 0 t l its.toArray n dd sl)
        ⟨ho, rfl, ⟨_, ho, rfl⟩, call_meets F.slot_tuple_mul ⟨_, ho, rfl⟩ F.entry_tuple_mul (F.args_tuple_mul_2 _ _) (tmul_zero l its.toArray n dd sl t hi) ⟨ho, ?_⟩⟩)
    refine ⟨.ref s.heap.objs.size, _, I.laid (t' := s.toks) (o := .tup []) (fun b ob q => Heap.get?_push_of_some _ q) (Nat.le_refl _) ?_, rfl, q _ (I.hok.fresh (Nat.le_refl _))⟩
    exact ⟨Nat.zero_le _, [], .nil, IsTup.new _ _⟩
def gMul2 : D → D → Option PV
  | .tup xs, .int k => if xs.isEmpty then none else if decide (k = 1) then some (.fz (.tup xs)) else if decide (k = 0) then some (.fz (.tup [])) else gMul (.tup xs) (.int k)
  | a, b => gMul a b
abbrev rMul2 (K : PySem.W.Frag) : R2 := rOr (rMul K) (rRepS K)
theorem opr_mul2 {X : Cx} : OpR X (binaryOp .Mult) (rMul2 X.K) := opOr opr_mul op_repS
theorem ops_mul2 {K : PySem.W.Frag} {G : Wd} : OpS K G (rMul2 K) gMul2 := by
  intro Z H da db x y pv Q s ha hb hg q
  unfold gMul2 at hg
  split at hg
  · rename_i xs k
    split at hg
    · cases hg
    · rename_i hx
      have ne : ∀ {vs : List V}, RepL K G Z xs vs → vs ≠ [] := fun r e => by
        subst e
        have := r.length
        cases xs with
        | nil => exact hx rfl
        | cons _ _ => cases this
      split at hg
      · rename_i h1
        cases hg
        have h1 := of_decide_eq_true h1
        subst h1
        obtain ⟨a, vs, rfl, sa, ra⟩ := pk_tup ha
        exact .inr ⟨a, 1, vs, rfl, pk_int hb, Same.seqT s sa, ne ra, .inl ⟨rfl, q _ _ _ (.same ⟨a, vs, rfl, sa, ra⟩)⟩⟩
      · split at hg
        · rename_i h1
          cases hg
          have h1 := of_decide_eq_true h1
          subst h1
          obtain ⟨a, vs, rfl, sa, ra⟩ := pk_tup ha
          exact .inr ⟨a, 0, vs, rfl, pk_int hb, Same.seqT s sa, ne ra, .inr ⟨rfl, fun p hp => q _ _ _ (.newZ hp ⟨p, [], rfl, .inl (.inl upd_same), rfl⟩)⟩⟩
        · exact .inl (ops_mul Z H _ _ x y pv Q s ha hb hg q)
  · exact .inl (ops_mul Z H _ _ x y pv Q s ha hb hg q)
end Rf
end
section
set_option Elab.async false
set_option linter.all false
set_option maxRecDepth 100000
set_option maxHeartbeats 4000000
/-! Rf, part J: short words for printed terms; the law as a whole. -/
namespace Rf
open PySem PySem.Spec PyProof.Rows L2
structure Good (P : Program) (w : World) (K : PySem.W.Frag) (mg : Str → Option Value) (base : Heap) (G : Wd) (k m n : Nat) (ps : List Str) (ds : List Value) (F : Fn) : Prop where
  ex : ∃ fd : FuncData, FnOk P w K mg base (L2.CX P w) k (G.fnA m) fd ps (spF K G n F) ∧ PySem.W.keepIn K (.ref (G.fnA m)) = true ∧ Binds K fd ps ds
structure GoodB (P : Program) (w : World) (K : PySem.W.Frag) (mg : Str → Option Value) (base : Heap) (G : Wd) (k m n : Nat) (ps : List Str) (F : FnB) : Prop where
  ex : ∃ fd : FuncData, FnOk P w K mg base (L2.CX P w) k (G.fnA m) fd ps (spB K G n F) ∧ PySem.W.keepIn K (.ref (G.fnA m)) = true ∧ Binds K fd ps []
/-- a def as it stands behind the top -/
structure Def (K : PySem.W.Frag) (G : Wd) (m : Nat) (x : Str) (st : Stmt) (ps : List Str) (ds : List Value) : Prop where
  ex : ∃ fd : FuncData, Fun K x x st (G.fnA m) fd ∧ Binds K fd ps ds
section
variable {X : Cx} {G : Wd} {W : WX} {pos : Pos} {e e2 : Expr} {es : List Expr}
theorem ev (i : Nat) {x : Str} (hN : X.N[i]? = some x := by rfl) (hv : Vis X.env.scope x := by first | exact Or.inl rfl | exact Or.inr (Or.inl rfl) | exact Or.inr (Or.inr rfl))
    (hd : (x == ("__debug__" : Str)) = false := by decide) (hcd : (x == ("__classdict__" : Str)) = false := by decide) : PE X (.Name x pos) (tE X.K G W (eVar i)) := re_var hN hv hd hcd
theorem ecall {k m n : Nat} {ps : List Str} {ds : List Value} {F : Fn} {dd : List D} {dvs : List V} {fa : Ea} {x : Str} {p : Pos} (g : Good X.prog X.w X.K X.mg X.base G k m n ps ds F) (hr : Room k X.A) (tk : Takes X W) (hm : X.mg x = some (.ref (G.fnA m))) (ha : PA X (e :: es) (tA X.K G W fa))
    (hd : Vals dvs ds) (hdd : ∀ Z, RepL X.K G Z dd dvs) (hg : Gl X x := by rfl) (hdb : (x == ("__debug__" : Str)) = false := by decide) (he : starEach (e :: es) X.env = (false, eval e X.env) :: starEach es X.env := by rfl) (hpl : (backTo pos (starEach es X.env)).any (·.1) = false := by rfl) :
    PE X (.Call (.Name x p) (e :: es) [] pos) (tE X.K G W (eCall n F dd fa)) := by
  obtain ⟨fd, Fo, hk, hb⟩ := g.ex
  exact re_call Fo hr hg hm hk hb hd hdd tk ha hdb he hpl
theorem ecall0 {k m n : Nat} {ps : List Str} {F : Fn} {fa : Ea} {x : Str} {p : Pos} (g : Good X.prog X.w X.K X.mg X.base G k m n ps [] F) (hr : Room k X.A) (tk : Takes X W) (hm : X.mg x = some (.ref (G.fnA m))) (ha : PA X (e :: es) (tA X.K G W fa))
    (hg : Gl X x := by rfl) (hdb : (x == ("__debug__" : Str)) = false := by decide) (he : starEach (e :: es) X.env = (false, eval e X.env) :: starEach es X.env := by rfl) (hpl : (backTo pos (starEach es X.env)).any (·.1) = false := by rfl) :
    PE X (.Call (.Name x p) (e :: es) [] pos) (tE X.K G W (eCall n F [] fa)) := ecall g hr tk hm ha .nil (fun Z => (show RepL X.K G Z [] [] from rfl)) hg hdb he hpl
theorem ecallB {k m n j : Nat} {ps : List Str} {F : FnB} {fa : Ea} {x y : Str} {p py : Pos} (g : GoodB X.prog X.w X.K X.mg X.base G k m n ps F) (hr : Room k X.A) (tk : Takes X W) (hm : X.mg x = some (.ref (G.fnA m))) (ha : PA X es (tA X.K G W fa)) (hN : X.N[j]? = some y := by rfl)
    (hv : Vis X.env.scope y := by first | exact Or.inl rfl | exact Or.inr (Or.inl rfl) | exact Or.inr (Or.inr rfl)) (hg : Gl X x := by rfl) (hdb : (x == ("__debug__" : Str)) = false := by decide) (hd : (y == ("__debug__" : Str)) = false := by decide) (hcd : (y == ("__classdict__" : Str)) = false := by decide)
    (he : starEach (.Name y py :: es) X.env = (false, eval (.Name y py) X.env) :: starEach es X.env := by rfl) (hpl : (backTo pos (starEach es X.env)).any (·.1) = false := by rfl) :
    PE X (.Call (.Name x p) (.Name y py :: es) [] pos) (tE X.K G W (eCallB j n F fa)) := by
  obtain ⟨fd, Fo, hk, hb⟩ := g.ex
  exact re_callB Fo hr hg hm hk hb tk hN hv ha hdb hd hcd he hpl
/-- what is never reached -/
theorem re_never : PE X e (tE X.K G W (fun _ => .no)) := ⟨fun pins s σ H Q I h => by
  obtain ⟨B, Z, Φ, ρ, k, h⟩ := h
  exact h.elim⟩
theorem held_of {k m n : Nat} {ps : List Str} {F : Fn} (g : Good X.prog X.w X.K X.mg X.base G k m n ps [] F) : Held' X G k m n F := by
  obtain ⟨fd, Fo, hk, hb⟩ := g.ex
  exact ⟨fd, ps, Fo, hk, hb⟩
theorem held_mono {j k m n : Nat} {F : Fn} (h : Held' X G j m n F) (le : j ≤ k) : Held' X G k m n F := by
  obtain ⟨fd, ps, Fo, hk, hb⟩ := h.ex
  exact ⟨fd, ps, Fo.mono le, hk, hb⟩
theorem rs_for' {tg iter : Expr} {body : List Stmt} {fi : Ei} (t : Tg) {fb : Es} (hp : PassesOwn (model X.prog X.w) X.A X.env X.xe) (hi : PI X tg iter (tI X.K G W fi)) (hg : PG X tg (tgR X.K t)) (hb : PSs X body (tS X.K G W fb)) (hc : X.calm = true := by rfl) (hs : ∀ x, foldedSetIterable iter X.env x = pure x := by intro _; rfl) : PS X (.For tg iter body [] pos) (tS X.K G W (sFor fi t fb)) :=
  rs_for hp hc hi hg hb (ps_for hp hc hi hg hb hs)
theorem rs_app' (j : Nat) {y : Str} {py ap cpos : Pos} {f : Ev} (he : PE X e (tE X.K G W f)) (hN : X.N[j]? = some y := by rfl) (hv : Vis X.env.scope y := by first | exact Or.inl rfl | exact Or.inr (Or.inl rfl) | exact Or.inr (Or.inr rfl))
    (hd : (y == ("__debug__" : Str)) = false := by decide) (hcd : (y == ("__classdict__" : Str)) = false := by decide)
    (hcall : PE X (.Call (.Attribute (.Name y py) "append" ap) [e] [] cpos) (tBM X.K "list" rAppend (tVar j) (tCons (tE X.K G W f) tNil)))
    (hs : swapsWith (.Call (.Attribute (.Name y py) "append" ap) [e] [] cpos) none pos.line X.env = pure false := by rfl) : PS X (.Expr (.Call (.Attribute (.Name y py) "append" ap) [e] [] cpos) pos) (tS X.K G W (sApp j f)) := rs_app (y := y) (ps_expr hcall hs)
def gAddI : D → D → Option PV
  | .int i, .int j => some (.fz (.int (i + j)))
  | _, _ => none
theorem ops_addI {K : PySem.W.Frag} : OpS K G (rI0 fun i j => .int (i + j)) gAddI := by
  intro Z H da db x y pv Q s ha hb hg q
  unfold gAddI at hg
  split at hg
  · cases hg
    exact ⟨_, _, pk_int ha, pk_int hb, q _ _ _ (.same rfl)⟩
  · cases hg
/-- a, b, c = e1, e2, e3 -/
def par3K (i j l : Nat) : List D × Rho → R (Fl × Rho)
  | ([a, b, c], ρ) => match bindL [i, j, l] [a, b, c] ρ with
    | some ρ1 => .ok (.nx, ρ1)
    | none => .no
  | _ => .no
def sPar3 (i j l : Nat) (fa : Ea) : Es := fun ρ => (fa ρ).bind (par3K i j l)
theorem ts_bindA {K : PySem.W.Frag} {σ : L2.St} {H : Hp} {fa : Ea} {k : List D × Rho → R (Fl × Rho)} {De : Ends} {P : List V → Hp → Prop} (h : tS K G W (fun ρ => (fa ρ).bind k) De σ H)
    (n : ∀ B Z Φ ρ1 H1 vs ds, Ok K G B Z Φ σ ρ1 H1 → RepL K G Z ds vs → PostS K G W B Z Φ De (k (ds, ρ1)) → P vs H1) : tA K G W fa σ H P := by
  obtain ⟨B, Z, Φ, ρ, ok, h⟩ := h
  refine ⟨B, Z, Φ, ρ, ok, ?_⟩
  dsimp only at h
  cases ha : fa ρ with
  | no => rw [ha] at h; exact h.elim
  | exc x => rw [ha] at h; exact h σ ok.lb
  | ok p =>
    obtain ⟨pa, ρ1⟩ := p
    rw [ha] at h
    exact fun Z1 H1 x e1 k1 r1 => n B Z1 Φ ρ1 H1 x pa k1 r1 (PostS.ext h e1)
theorem rs_par3 {i j l : Nat} {x y z : Str} {a b c : Expr} {fa : Ea} {px py pz pt : Pos} {kt k2 pt2} (hc : X.calm = true) (hN : X.N.Nodup) (hi : X.N[i]? = some x) (hj : X.N[j]? = some y) (hl : X.N[l]? = some z) (hij : i ≠ j) (hil : i ≠ l) (hjl : j ≠ l)
    (hx : X.env.scope.names.lookup x = some .local) (hy : X.env.scope.names.lookup y = some .local) (hz : X.env.scope.names.lookup z = some .local) (ha : PA X [a, b, c] (tA X.K G W fa))
    (hw : swappedStores [.Tuple [.Name x px, .Name y py, .Name z pz] kt pt] (.Tuple [a, b, c] k2 pt2) X.env = pure (some [x, y, z]))
    (hs : swapsWithSole [.Tuple [.Name x px, .Name y py, .Name z pz] kt pt] (.Tuple [a, b, c] k2 pt2) pos.line X.env = pure false := by rfl) :
    PS X (.Assign [.Tuple [.Name x px, .Name y py, .Name z pz] kt pt] (.Tuple [a, b, c] k2 pt2) pos) (tS X.K G W (sPar3 i j l fa)) :=
  (ps_par3 hc hN hi hj hl hij hil hjl hx hy hz ha hw hs).imp fun De σ H h => ts_bindA h fun B Z Φ ρ1 H1 vs ds k r q => by
    unfold par3K at q
    split at q
    · rename_i d1 d2 d3 ρ2 ee
      cases ee
      split at q
      · rename_i ρ3 hb
        obtain ⟨v1, us, rfl, r1, v2, ws, rfl, r2, v3, zs, rfl, r3, r4⟩ := r
        cases (show zs = [] from r4)
        refine ⟨v1, v2, v3, rfl, ?_⟩
        unfold bindL at hb
        split at hb
        · rename_i ρa ha'
          unfold bindL at hb
          split at hb
          · rename_i ρb hb'
            unfold bindL at hb
            split at hb
            · rename_i ρc hc'
              unfold bindL at hb
              cases hb
              exact q Z _ H1 Ext.refl (((k.set ha' r1).set hb' r2).set hc' r3)
            · cases hb
          · cases hb
        · cases hb
      · exact q.elim
    · exact q.elim
theorem tgs2 {K : PySem.W.Frag} {i j : Nat} : L2.gTup K 2 (gCons (gName i) (gCons (gName j) gNil)) = tgR K (.tp [i, j]) := rfl
end
section
variable {P : Program} {w : World} {K : PySem.W.Frag} {mg : Str → Option Value} {base : Heap} {x : Str} {st : Stmt} {N ps : List Str} {ds : List Value} {k m n : Nat} {G : Wd}
theorem good_of {fb : Es} (d : Def K G m x st ps ds) (S : FnScope N ps (defScope st)) (hn : ps.length = n) (hb : ∀ (f : Addr) (cdv : Value) (A : Around) (outer : List Env) (s : Shared) (H : Hp) (E : XK), Room k (A.deeper (envOfC x (defScope st) s.heap.objs.size f cdv)) →
      PSs (cxOf (L2.CX P w) P w K mg base N x (defScope st) f cdv A outer s H E) (defBody st) (tS K G (fun cls d _ H => E cls d H) fb)) : Good P w K mg base G (k + 1) m n ps ds (Rf.fnOf N.length fb) := by
  obtain ⟨fd, F, b⟩ := d.ex
  subst hn
  exact ⟨fd, fn_ok F S (hb _), F.kp, b⟩
theorem goodB_of {fb : Es} (d : Def K G m x st ps []) (S : FnScope N ps (defScope st)) (hn : ps.length = n) (hb : ∀ (f : Addr) (cdv : Value) (A : Around) (outer : List Env) (s : Shared) (H : Hp) (E : XK), Room k (A.deeper (envOfC x (defScope st) s.heap.objs.size f cdv)) →
      PSs (cxOf (L2.CX P w) P w K mg base N x (defScope st) f cdv A outer s H E) (defBody st) (tS K G (fun cls d _ H => E cls d H) fb)) : GoodB P w K mg base G (k + 1) m n ps (fnBOf N.length fb) := by
  obtain ⟨fd, F, b⟩ := d.ex
  exact ⟨fd, fnB_ok F S hn (hb _), F.kp, b⟩
/-- what the law promises of its script -/
def spLaw (K : PySem.W.Frag) : Sp := fun vs H Q _ => ∃ (a : Addr) (ns : List Int), vs = [.ref a] ∧ SqL K H a (ns.map V.int) ∧ ns.length ≤ 63 ∧ ∀ H', Q (.bl true) H'
theorem law_of {f : Addr} {fd : FuncData} {F : Fn} (h : ∀ ns : List Int, ns.length ≤ 63 → F [.lck (ns.map .int)] = .ok (.fz (.bl true))) (g : FnOk P w K mg base (L2.CX P w) k f fd ps (spF K G 1 F)) : FnOk P w K mg base (L2.CX P w) k f fd ps (spLaw K) :=
  g.imp fun vs H Q E ⟨a, ns, e, hs, hl, q⟩ => by
    subst e
    have ri : ∀ l : List Int, RepL K G H (l.map D.int) (l.map V.int) := fun l => by
      induction l with
      | nil => exact rfl
      | cons n r ih => exact ⟨.int n, r.map V.int, rfl, rfl, ih⟩
    refine ⟨H, fun _ => none, [.lck (ns.map .int)], Same.refl H, (fun _ _ z => nomatch z), ⟨.ref a, [], rfl, ⟨a, ns.map V.int, rfl, hs, ri ns⟩, rfl⟩, rfl, ?_⟩
    rw [h ns hl]
    intro Z' H' v _ _ _ rv
    rw [show v = .bl true from rv]
    exact q H'
theorem law_cx {P : Program} {w : World} {H : Hp} {s : Shared} {e : Value} {s' : Shared} (h : L2.CX P w [] H s (fun _ _ _ => False) e s') : False := by
  obtain ⟨_, _, _, _, _, _, _, _, _, _, _, _, z⟩ := h
  exact z
/-- an error of the class at S is what «except S» names -/
theorem exm_self' {K : PySem.W.Frag} {S T : Addr} {b : Bool} (h1 : PySem.W.subIn K (.ref T) (.type "BaseException") = some true) (h2 : PySem.W.isClsIn K T = true) (h3 : PySem.W.typeIn K (.ref T) = some (.type "type")) (h4 : PySem.W.subIn K (.ref S) (.ref T) = some b) :
    PySem.W.exmOne K (.ref S) (.ref T) = some b := by
  have e1 : (PySem.W.subIn K (.ref T) (.type "BaseException") == some true) = true := by rw [h1] <;> rfl
  have e2 : ((PySem.W.clsIn K T).isSome && PySem.W.typeIn K (.ref T) == some (.type "type")) = true := by
    have h2' : (PySem.W.clsIn K T).isSome = true := h2
    rw [h2', h3] <;> rfl
  show (if _ then (if _ then PySem.W.subIn K (.ref S) (.ref T) else none) else none) = some b
  rw [if_pos e1, if_pos e2]
  exact h4
end
end Rf
end
section
set_option Elab.async false
set_option linter.all false
set_option maxRecDepth 100000
set_option maxHeartbeats 4000000
/-! Rf, part X: Refused(reason) raised, and told by its handler. -/
namespace Rf
open PySem PySem.Spec PyProof.Rows L2
section
variable {X : Cx} {e : Expr} {es : List Expr} {ta : TA} {p1 p2 pos : Pos} {x : Str} {C0 : Addr} {mc : Value}
/-- Base.__init__(self, ..), Base an own class that has ValueError's -/
theorem pe_oveinit {pl : Sem Bool} (hg : Gl X x) (hm : X.mg x = some (.ref C0)) (r : ClX.CRead X.K C0 mc) (vV : PySem.W.findCls X.K (.ref C0) mc "__init__" = some (.val (.builtin "ValueError.__init__"))) (ha : PA X (e :: es) ta) (hdb : (x == ("__debug__" : Str)) = false := by decide)
    (hc : eval (.Call (.Attribute (.Name x p1) "__init__" p2) (e :: es) [] pos) X.env = (do
      let ov ← eval (.Name x p1) X.env
      standAt p2.atName
      let (f, first) ← holding [ov] (getMethod ov "__init__" pl)
      callWith pos f first (backTo pos (starEach (e :: es) X.env)) (backToKw pos (keywordEach [] X.env))) := by rfl)
    (he : starEach (e :: es) X.env = (false, eval e X.env) :: starEach es X.env := by rfl) (hpl : (backTo pos (starEach es X.env)).any (·.1) = false := by rfl) :
    PE X (.Call (.Attribute (.Name x p1) "__init__" p2) (e :: es) [] pos) (tVeI X.K ta) := by
  refine ⟨fun pins s σ H Q I h => ?_⟩
  refine PySem.W.methodCall_KW (ld_glob I hg hm ?_ hdb) hc
  refine PySem.W.method_cls I.kIn r.ga ?_
  refine PySem.W.cls_value I.kIn r.rd vV (by decide +kernel) ?_
  show wpAny _ _ (callWith pos (Value.builtin "ValueError.__init__") [] (backTo pos (starEach (e :: es) X.env)) []) _ _ _
  refine PyProof.Rows.callWith_method1 (thn (ha.run pos pins _ σ H _ (I.tok _) h) fun us s1 ⟨vs, H1, I1, r1, a, C, ws, ev, hl, T, ea, q⟩ => ?_) he hpl
  subst ev
  cases r1 with
  | @cons _ u0 _ ur ra rw' =>
    obtain rfl : u0 = Value.ref a := ra
    have hlen : ur.length ≤ sizeLine := by
      rw [← Paired.length rw', sizeLine_eq]
      omega
    exact oinit_ok T I1 ea hlen fun s' J => ⟨.non, H1, J, rfl, q⟩
end
/-- what Refused.__init__ keeps -/
def spI (K : PySem.W.Frag) (C : Addr) : Sp := fun vs H Q _ => ∃ (a : Addr) (x : Str), vs = [.ref a, .str x] ∧ H a = some (exo a C none) ∧
  ∀ dx, H dx = none → dx ≠ a → Q .non (upd (upd H dx (exd dx [("reason", .str x)])) a (exo a C (some dx)))
/-- of the class Refused at C, its base at C0 -/
structure RfdC (K : PySem.W.Frag) (C C0 : Addr) : Prop where
  oex : OexC K C
  no : PySem.W.findIn K (.ref C) "reason" = some none
  rd : ClX.CRead K C0 (.type "type")
  vV : PySem.W.findCls K (.ref C0) (.type "type") "__init__" = some (.val (.builtin "ValueError.__init__"))
  xf : XfC K C
section
variable {P : Program} {w : World} {K : PySem.W.Frag} {mg : Str → Option Value} {base : Heap} {C C0 : Addr}
abbrev tInit (K : PySem.W.Frag) : TS := tSeq (tDrop (tVeI K (tCons (tVar 0) (tCons (tVar 1) tNil)))) (tOst K "reason" (tVar 0) (tVar 1))
theorem pss_init {X : Cx} {p1 p2 p3 p4 p5 p6 p7 p8 p9 p10 : Pos} (T : RfdC X.K C C0) (h0 : X.N[(0 : Nat)]? = some ("self" : Str)) (h1 : X.N[(1 : Nat)]? = some ("reason" : Str)) (v0 : Vis X.env.scope "self") (v1 : Vis X.env.scope "reason") (hg : Gl X "Fault") (hm : X.mg "Fault" = some (.ref C0)) {pl : Sem Bool}
    (hc : eval (.Call (.Attribute (.Name "Fault" p1) "__init__" p2) [.Name "self" p3, .Name "reason" p4] [] p5) X.env = (do
      let ov ← eval (.Name "Fault" p1) X.env
      standAt p2.atName
      let (f, first) ← holding [ov] (getMethod ov "__init__" pl)
      callWith p5 f first (backTo p5 (starEach [.Name "self" p3, .Name "reason" p4] X.env)) (backToKw p5 (keywordEach [] X.env))) := by rfl)
    (hs : swapsWith (.Call (.Attribute (.Name "Fault" p1) "__init__" p2) [.Name "self" p3, .Name "reason" p4] [] p5) none p6.line X.env = pure false := by rfl) (hs2 : swapsWith (.Name "reason" p9) (some (.Attribute (.Name "self" p7) "reason" p8)) p10.line X.env = pure false := by rfl) :
    PSs X [.Expr (.Call (.Attribute (.Name "Fault" p1) "__init__" p2) [.Name "self" p3, .Name "reason" p4] [] p5) p6, .Assign [.Attribute (.Name "self" p7) "reason" p8] (.Name "reason" p9) p10] (tInit X.K) :=
  pss_cons (ps_expr (pe_oveinit hg hm T.rd T.vV (pa_cons (pe_var h0 v0) (pa_cons (pe_var h1 v1) pa_nil)) (hc := hc)) hs) (pss_one (ps_ost (pe_var h0 v0) (pe_var h1 v1) hs2))
theorem init_ok {st : Stmt} {f : Addr} {fd : FuncData} {qual : Str} {k : Nat} (F : Fun K "__init__" qual st f fd) (S : FnScope ["self", "reason"] ["self", "reason"] (defScope st)) (T : RfdC K C C0)
    (hb : ∀ (cdv : Value) (A : Around) (outer : List Env) (s : Shared) (H : Hp) (E : XK), PSs (cxOf (L2.CX P w) P w K mg base ["self", "reason"] qual (defScope st) f cdv A outer s H E) (defBody st) (tInit K)) :
    FnOk P w K mg base (L2.CX P w) (k + 1) f fd ["self", "reason"] (spI K C) := by
  refine F.okX S (fun vs H Q E h => by obtain ⟨a, x, rfl, _⟩ := h; rfl) (fun cdv A outer s H vs Q E hr h => ⟨_, hb cdv A outer s H E, ?_⟩)
  obtain ⟨a, x, rfl, ha, q⟩ := h
  have s0 : (L2.start ["self", "reason"] [.ref a, .str x])[(0 : Nat)]? = some (some (.ref a)) := rfl
  have s1 : (L2.start ["self", "reason"] [.ref a, .str x])[(1 : Nat)]? = some (some (.str x)) := rfl
  show tDrop _ _ _ _
  refine ⟨.ref a, s0, .str x, s1, a, C, [.str x], rfl, Nat.le_of_ble_eq_true rfl, T.oex, ha, ?_⟩
  refine ⟨.str x, s1, .ref a, s0, a, C, rfl, T.oex, T.no, .inl ⟨ha, fun dx hd hne => q dx hd hne⟩⟩
end
/-- raise Refused(reason) -/
def rfdK : List D × Rho → R (Fl × Rho)
  | ([.str x], _) => .exc (.rfd x)
  | _ => .no
def sRfd (fa : Ea) : Es := fun ρ => (fa ρ).bind rfdK
section
variable {X : Cx} {G : Wd} {W : WX} {e : Expr} {es : List Expr} {fa : Ea} {pos p pos2 : Pos} {x : Str} {C0 fI : Addr} {k : Nat} {fd : FuncData} {ps : List Str}
theorem rs_rfd (hC : G.clA 1 = C) (T : RfdC X.K C C0) (iC : PySem.W.findIn X.K (.ref C) "__init__" = some (some (.ref fI))) (tI : PySem.W.typeIn X.K (.ref fI) = some (.type "function"))
    (F1 : FnOk X.prog X.w X.K X.mg X.base (L2.CX X.prog X.w) k fI fd ps (spI X.K C)) (hr : Room (k + 1) X.A) (hb : Binds X.K fd ps []) (tk0 : Passes (L2.CX X.prog X.w) X (fun _ _ _ => False)) (hc : X.calm = true) (tk : Takes X W) (hg : Gl X x) (hm : X.mg x = some (.ref C))
    (ha : PA X (e :: es) (tA X.K G W fa)) (hdb : (x == ("__debug__" : Str)) = false := by decide) (he : starEach (e :: es) X.env = (false, eval e X.env) :: starEach es X.env := by rfl) (hpl : (backTo pos (starEach es X.env)).any (·.1) = false := by rfl) :
    PS X (.Raise (some (.Call (.Name x p) (e :: es) [] pos)) none pos2) (tS X.K G W (sRfd fa)) :=
  (ps_raise hc tk (pmk_oex (dvs := []) (ds := []) T.oex iC tI F1 hr hb .nil tk0 hg hm ha hdb he hpl)).imp fun De σ H h => by
    obtain ⟨B, Z, Φ, ρ, ok, h⟩ := h
    refine ⟨B, Z, Φ, ρ, ok, ?_⟩
    unfold sRfd at h
    cases hfa : fa ρ with
    | no => rw [hfa] at h; exact h.elim
    | exc y =>
      rw [hfa] at h
      exact h σ ok.lb
    | ok r =>
      obtain ⟨ds, ρ1⟩ := r
      rw [hfa] at h
      intro Z1 H1 vs e1 ok1 rl
      change PostS X.K G W B Z Φ De (rfdK (ds, ρ1)) at h
      unfold rfdK at h
      split at h
      · rename_i y _ heq
        cases heq
        obtain ⟨v, r, rfl, rv, rr⟩ := rl
        cases (show r = [] from rr)
        cases (show v = .str y from rv)
        refine ⟨Nat.le_of_ble_eq_true rfl, fun a ha => ?_⟩
        refine ⟨a, y, rfl, upd_same, fun dx hd hne => ?_⟩
        have hd1 : H1 dx = none := by rw [upd_ne hne] at hd; exact hd
        refine ⟨rfl, dx, _, upd_same, by rw [upd_ne hne, upd_same], hd1, ?_⟩
        have key : ∀ c o, H1 c = some o → (upd (del (upd (upd (upd H1 a (exo a C none)) dx (exd dx [("reason", .str y)])) a (exo a C (some dx))) a) dx (.xd [("reason", .str y)])) c = some o := fun c o hc => by
          have n1 : c ≠ dx := fun z => by rw [z, hd1] at hc; cases hc
          have n2 : c ≠ a := fun z => by rw [z, ha] at hc; cases hc
          rw [upd_ne n1, del_ne n2, upd_ne n2, upd_ne n1, upd_ne n2]
          exact hc
        refine h σ ok.lb Z1 _ _ _ e1 (fun c o hz => key c o (ok1.zh _ _ hz)) (fun c o hz => key c o (ok1.fh _ _ hz)) ⟨by rw [hC], dx, rfl, _, upd_same, rfl⟩
      · exact h.elim
end
/-! ### the handler that tells the reason -/
abbrev d2R : Str → Option D := fun x => some (.tup [.str "raised", .str x])
abbrev tErr (a : Addr) (cls : Value) (d : Option Addr) (C : Addr) (i : Nat) : TS := tRet (tTup (tCons (tC (.str "raised")) (tCons (tXf a cls d C "reason" (tVar i)) tNil)))
section
variable {X : Cx} {a C C0 : Addr} {oe : Obj} {cls : Value} {d : Option Addr} {pn : List (Addr × Obj)}
theorem pss_err {i : Nat} {n : Str} {j p p' p2 pos pos2 x1} (T : RfdC X.K C C0) (hz : Zc cls d oe) (hf : ∃ vs, oe.data = .fields vs) (hN : X.N[i]? = some n) (hv : Vis X.env.scope n) (hd : (n == ("__debug__" : Str)) = false := by decide) (hcd : (n == ("__classdict__" : Str)) = false := by decide)
    (hb : attributeBase (.Name n p') "reason" X.env (eval (.Name n p') X.env) = eval (.Name n p') X.env := by rfl)
    (s1 : starEach [.Constant (.str "raised") j p, .Attribute (.Name n p') "reason" p2] X.env = (false, eval (.Constant (.str "raised") j p) X.env) :: starEach [.Attribute (.Name n p') "reason" p2] X.env := by rfl)
    (s2 : starEach [.Attribute (.Name n p') "reason" p2] X.env = (false, eval (.Attribute (.Name n p') "reason" p2) X.env) :: starEach [] X.env := by rfl) :
    PSs (X.suite a ((a, oe) :: pn)) [.Return (some (.Tuple [.Constant (.str "raised") j p, .Attribute (.Name n p') "reason" p2] x1 pos)) pos2] (tErr a cls d C i) :=
  pss_one (ps_ret (pe_tup (pa_cons pe_str (pa_cons (pe_xf (X := X) T.xf T.no hz hf (pe_var (X := X.suite a ((a, oe) :: pn)) hN hv hd hcd) hb) pa_nil s2) s1)))
end
theorem err_ok {K : PySem.W.Frag} {G : Wd} {De : Ends} {σ : L2.St} {Z Φ H : Hp} {cls : Value} {d : Option Addr} {a C : Addr} {x : Str} {dd : D} {i nn : Nat} (hC : G.clA 1 = C) (hi : i < nn) (hd : d2R x = some dd) (hn : σ.length = nn) (na : H a = none) (rx : RepX G H (.rfd x) cls d) (zh : Same Z H) (fh : Same Φ H)
    (h : ∀ Z' H' v, Ext Z Φ Z' → Same Z' H' → Same Φ H' → Rep K G Z' dd v → De.rt v H') : tErr a cls d C i (Dn i De) (σ.set i (some (.ref a))) H := by
  cases hd
  obtain ⟨hc, d', rfl, fs, hx, hl⟩ := rx
  show tTup _ _ _ _
  refine ⟨.ref a, by rw [List.getElem?_set_self (by omega)], rfl, by rw [hc, hC], d', fs, .str x, rfl, hx, hl, Nat.le_of_ble_eq_true rfl, fun p hp => ?_⟩
  have hz := Same.none zh hp
  have hf := Same.none fh hp
  exact h (upd Z p (.tup [.str "raised", .str x])) _ _ (ext_upd hz hf) (same_upd1 (same_new zh hp) upd_same) (fh.trans (same_newZ hp)) ⟨p, [.str "raised", .str x], rfl, .inl (.inl upd_same), .str "raised", [.str x], rfl, rfl, .str x, [], rfl, rfl, rfl⟩
/-- a def of which nothing is told -/
theorem good_no {P : Program} {w : World} {K : PySem.W.Frag} {mg : Str → Option Value} {base : Heap} {G : Wd} {k m n : Nat} {x : Str} {st : Stmt} {N ps : List Str} {ds : List Value} (d : Def K G m x st ps ds) (S : FnScope N ps (defScope st)) : Good P w K mg base G (k + 1) m n ps ds (fun _ => .no) := by
  obtain ⟨fd, F, b⟩ := d.ex
  exact ⟨fd, F.okX S (fun vs H Q E h => by obtain ⟨_, _, _, _, _, _, _, z⟩ := h; exact z.elim) (fun cdv A outer s H vs Q E hr h => by obtain ⟨_, _, _, _, _, _, _, z⟩ := h; exact z.elim), F.kp, b⟩
theorem oex_mk {K : PySem.W.Frag} {C : Addr} {nm : _} {q : _} {N : _} {bs : _} {bm : _} {sn : _} {sub : _} {ab : _} {col : _} {dd : _} {k0 : _} {k1 : _} {k2 : _} {k3 : _} {k5 : _} (l : K.lookup C = some (excClassObj nm q C N bs bm true sn sub ab col dd k0 k1 k2 k3 k5 "ValueError.__new__")) (r : PySem.HandSPX.refsVE bm = true)
    (sa : PySem.W.findIn K (.ref C) "__setattr__" = some (some (.builtin "object.__setattr__"))) (ex : PySem.W.subIn K (.ref C) (.type "BaseException") = some true) (ty : PySem.W.typeIn K (.ref C) = some (.type "type")) (kc : PySem.W.keepIn K (.ref C) = true) : OexC K C :=
  ⟨⟨nm, q, N, bs, bm, sn, sub, ab, col, dd, k0, k1, k2, k3, k5, l, r⟩, sa, ex, ty, kc⟩
theorem rfd_mk {K : PySem.W.Frag} {C C0 : Addr} (o : OexC K C) (no : PySem.W.findIn K (.ref C) "reason" = some none) (rd : PySem.W.readsIn K C0 (.type "type") = true) (ga : PySem.W.specialIn K (.ref C0) "__getattribute__" = some (some (.builtin "type.__getattribute__")))
    (vV : PySem.W.findCls K (.ref C0) (.type "type") "__init__" = some (.val (.builtin "ValueError.__init__"))) (x : xfB K C = true) : RfdC K C C0 := ⟨o, no, ⟨rd, ga⟩, vV, xfB_ok x⟩
/-- Refused.__init__ as it stands behind the top -/
structure DefI (K : PySem.W.Frag) (C : Addr) (st : Stmt) : Prop where
  ex : ∃ (fI : Addr) (fd : FuncData), Fun K "__init__" "Refused.__init__" st fI fd ∧ PySem.W.findIn K (.ref C) "__init__" = some (some (.ref fI)) ∧ PySem.W.typeIn K (.ref fI) = some (.type "function") ∧ Binds K fd ["self", "reason"] []
structure GoodI (P : Program) (w : World) (K : PySem.W.Frag) (mg : Str → Option Value) (base : Heap) (C : Addr) (k : Nat) : Prop where
  ex : ∃ (fI : Addr) (fd : FuncData), FnOk P w K mg base (L2.CX P w) k fI fd ["self", "reason"] (spI K C) ∧ PySem.W.findIn K (.ref C) "__init__" = some (some (.ref fI)) ∧ PySem.W.typeIn K (.ref fI) = some (.type "function") ∧ Binds K fd ["self", "reason"] []
theorem goodI_of {P : Program} {w : World} {K : PySem.W.Frag} {mg : Str → Option Value} {base : Heap} {C C0 : Addr} {st : Stmt} {k : Nat} (d : DefI K C st) (S : FnScope ["self", "reason"] ["self", "reason"] (defScope st)) (T : RfdC K C C0)
    (hb : ∀ (f : Addr) (cdv : Value) (A : Around) (outer : List Env) (s : Shared) (H : Hp) (E : XK), PSs (cxOf (L2.CX P w) P w K mg base ["self", "reason"] "Refused.__init__" (defScope st) f cdv A outer s H E) (defBody st) (tInit K)) : GoodI P w K mg base C (k + 1) := by
  obtain ⟨fI, fd, F, a, b, c⟩ := d.ex
  exact ⟨fI, fd, init_ok F S T (hb _), a, b, c⟩
theorem pass0 {X : Cx} : Passes (L2.CX X.prog X.w) X (fun _ _ _ => False) := fun pins σ H s e s' I c => passAt takes0 σ pins H s e s' I c
section
variable {X : Cx} {G : Wd} {W : WX} {e : Expr} {es : List Expr} {fa : Ea} {pos p pos2 : Pos} {x : Str} {C0 : Addr} {k : Nat}
theorem rs_rfd' (T : RfdC X.K (G.clA 1) C0) (g : GoodI X.prog X.w X.K X.mg X.base (G.clA 1) k) (hr : Room (k + 1) X.A) (hc : X.calm = true) (tk : Takes X W) (hg : Gl X x) (hm : X.mg x = some (.ref (G.clA 1)))
    (ha : PA X (e :: es) (tA X.K G W fa)) (hdb : (x == ("__debug__" : Str)) = false := by decide) (he : starEach (e :: es) X.env = (false, eval e X.env) :: starEach es X.env := by rfl) (hpl : (backTo pos (starEach es X.env)).any (·.1) = false := by rfl) :
    PS X (.Raise (some (.Call (.Name x p) (e :: es) [] pos)) none pos2) (tS X.K G W (sRfd fa)) := by
  obtain ⟨fI, fd, F, a, b, c⟩ := g.ex
  exact rs_rfd rfl T a b F hr c pass0 hc tk hg hm ha hdb he hpl
end
/-- the body of a class's n-th statement -/
def classSt (s : Stmt) (n : Nat) : Stmt := match s with
  | .ClassDef _ _ _ b _ _ _ _ _ _ _ => b.getD n (.Pass ⟨0, 0, 0, 0⟩)
  | _ => .Pass ⟨0, 0, 0, 0⟩
end Rf
end
section
set_option Elab.async false
set_option linter.all false
set_option maxRecDepth 100000
set_option maxHeartbeats 4000000
/-! Rf, part Y: enumerate over a tuple; sorted(set(ints)). -/
namespace RY
open PySem
open PySem.Sem (wp)
open AutoSeq1 (wpAny_loadPart')
theorem meets_enumerate_newT (l : Addr) (items : Array Value) :
    Meets (Builtin.«enumerate.__new__» ⟨[.type "enumerate", .ref l], []⟩) (fun _ R s => s.heap.IsTuple l items ∧
      R (.ok (.ret (.ref (s.heap.push { cls := .type "tuple_iterator", data := .fields #[.ref l, .int 0 0] }).objs.size)))
        { s with heap := (s.heap.push { cls := .type "tuple_iterator", data := .fields #[.ref l, .int 0 0] }).push { cls := .type "enumerate", data := .fields #[.none, .bool false, .ref s.heap.objs.size, rawInt 0, .none, .none] } }) :=
  .of_wp fun prog w A R s h => by
    obtain ⟨hp, g, d, tk, os⟩ := s; obtain ⟨hl, h⟩ := h
    have hsub := sub_enumerate
    have hL : Heap.IsTuple (Shared.heap ⟨hp, g, d, tk, os⟩) l items := hl
    obtain ⟨o, ho, _⟩ := id hl
    wp_walk using wpAny_loadPart' ho
    refine wpAny_stack_any fun st => wpAny_pure ?_
    split
    · rename_i c _ _ _ _ _
      cases (c == Value.type "enumerate")
      · wp_walk using wpAny_loadPart' ho, wpAny_pyIter_tuple hL
        exact ⟨_, rfl, h⟩
      · wp_walk using wpAny_loadPart' ho, wpAny_pyIter_tuple hL
        exact ⟨_, rfl, h⟩
    · wp_walk using wpAny_loadPart' ho, wpAny_pyIter_tuple hL
      exact ⟨_, rfl, h⟩
section
variable {prog : Program} {w : World} {A : Around} {E : Value → Shared → Prop} {s : Shared}
theorem call_enumerate_tup {l : Addr} {items : Array Value} {Q : Value → Shared → Prop} (hL : s.heap.IsTuple l items)
    (h : ∀ h', IsEnum h' (s.heap.objs.size + 1) s.heap.objs.size 0 .none → h'.IsTupleIter s.heap.objs.size l 0 → h'.objs.size = s.heap.objs.size + 2 →
      (∀ b o, s.heap.get? b = some o → h'.get? b = some o) → Q (.ref (s.heap.objs.size + 1)) { s with heap := h' }) :
    wpAny (model prog w) A (call (.type "enumerate") [.ref l]) Q E s := by
  refine callType_new F.called_enumerate (by decide) (F.typeCall_enumerate_1 _) (F.newCall_enumerate_1 _) (fun obj => F.args_object_init_2 obj _) F.entry_enumerate_new
    (meets_enumerate_newT l items) ⟨hL, ?_⟩
  have hz : (s.heap.push { cls := .type "tuple_iterator", data := .fields #[.ref l, .int 0 0] }).objs.size = s.heap.objs.size + 1 := Heap.size_push ..
  show _ ∧ _
  rw [hz]
  have he : IsEnum ((s.heap.push { cls := .type "tuple_iterator", data := .fields #[.ref l, .int 0 0] }).push
      { cls := .type "enumerate", data := .fields #[.none, .bool false, .ref s.heap.objs.size, rawInt 0, .none, .none] }) (s.heap.objs.size + 1) s.heap.objs.size 0 .none := by
    have := Heap.get?_push_size (s.heap.push { cls := .type "tuple_iterator", data := .fields #[.ref l, .int 0 0] })
      (o := { cls := .type "enumerate", data := .fields #[.none, .bool false, .ref s.heap.objs.size, rawInt 0, .none, .none] }) rfl
    rw [hz] at this; exact this
  refine ⟨⟨_, he, rfl⟩, h _ he ⟨_, Heap.get?_push_of_some _ (Heap.get?_push_size _ rfl), rfl, rfl⟩ (by rw [Heap.size_push, hz]) fun b o x => Heap.get?_push_of_some _ (Heap.get?_push_of_some _ x)⟩
theorem draws_tup {it l : Addr} {items : Array Value} (hh : A.handled = none) (hne : l ≠ it) :
    Draws prog w A it [it, l] items.size (fun i x => items[i]? = some x) (fun i h => h.IsTupleIter it l i ∧ h.IsTuple l items) where
  live := fun i h ⟨⟨o, ho, _⟩, _⟩ => ⟨o, ho⟩
  frame := fun i h h' ⟨⟨o, ho, h1⟩, o2, ho2, h2⟩ k => ⟨⟨o, k it (by simp) o ho, h1⟩, o2, k l (by simp) o2 ho2, h2⟩
  item := fun i s Q E hi ⟨hit, hl⟩ hQ => by
    refine RZ.nextOf_tuple_item hit hl (x := items[i]) (by simp [hi]) fun h' hit' sb => ?_
    obtain ⟨o2, ho2, h2⟩ := hl
    exact hQ _ h' s.toks (by simp [hi]) ⟨hit', o2, (sb.2 _ hne).trans ho2, h2⟩ sb
  done := fun s Q E ⟨hit, hl⟩ hE => RZ.nextOf_tuple_end hh hit hl (by simp) hE
end
end RY
namespace L2
open PySem PySem.Spec PyProof.Rows
/-- the tuple at a, each item in a new pair -/
def IteT (K : PySem.W.Frag) (a : Addr) : It :=
  ⟨fun i H => ∃ (xs : List V) (x : V), SqT K H a xs ∧ xs[i]? = some x, fun i H v H' => ∃ T x, v = .ref T ∧ H T = none ∧ H' = upd H T (.tup [.int (i : Nat), x]) ∧ ∀ xs, SqT K H a xs → xs[i]? = some x, fun i H => ∃ xs : List V, SqT K H a xs ∧ xs.length ≤ i⟩
theorem turn_enumT {P : Program} {w : World} {K : PySem.W.Frag} {elts : List Expr} {kk : Nat} {tpos : Pos} (a e it : Addr) :
    Turn P w K (.Tuple elts kk tpos) (IteT K a) [e, it] e (fun i h => (∃ old, IsEnum h e it ((i : Nat) : Int) old) ∧ h.IsTupleIter it a i ∧ e ≠ it) where
  mem := by simp
  obj := fun i h st b hb => by
    obtain ⟨⟨old, he⟩, ⟨o, ho, hc, hd⟩, _⟩ := st
    have e' : b = e ∨ b = it := by simpa using hb
    rcases e' with z | z
    · rw [z]; exact ⟨_, he, fun v q => nomatch q⟩
    · rw [z]; exact ⟨o, ho, fun v q => by rw [hd] at q; cases q⟩
  keep := fun i h h' st k => let ⟨⟨old, he⟩, hi, hne⟩ := st; ⟨⟨old, k e (by simp) _ he⟩, hi.at fun o q => k it (by simp) o q, hne⟩
  item := by
    intro X hP hw hK hc i pins s σ H E I hf st hg
    subst hP hw hK
    obtain ⟨⟨old, he⟩, hit, hne⟩ := st
    obtain ⟨xs, x, hq, hx⟩ := hg
    obtain ⟨its, rv, p, hz⟩ := I.tuple hq
    have p' : s.heap.IsTuple a its.toArray := p
    obtain ⟨u, hu, ru⟩ := rv.get hx
    have hel : e < s.heap.objs.size := Heap.lt_size he
    have hil : it < s.heap.objs.size := by obtain ⟨_, q, _⟩ := hit; exact Heap.lt_size q
    have ha1 : a ≠ it := fun z => by
      obtain ⟨o1, h1, c1, _⟩ := hit
      obtain ⟨o2, h2, c2, _⟩ := p'
      rw [z, h1] at h2
      cases h2
      rw [c1] at c2
      injection c2 with c3
      exact absurd c3 (by decide)
    have ha2 : a ≠ e := fun z => by
      obtain ⟨o2, h2, c2, _⟩ := p'
      rw [z, show s.heap.get? e = some _ from he] at h2
      cases h2
      injection c2 with c3
      exact absurd c3 (by decide)
    have hil2 : i < its.toArray.size := by
      have := (List.getElem?_eq_some_iff.mp hu).1
      simpa using this
    refine wpAny_pyNext_enum_itemD (RY.draws_tup (items := its.toArray) (A := X.A.in1) (I.ok.hd hc) ha1) he ⟨hit, p'⟩ hil2 hne (by simp [hne, Ne.symm ha2]) fun y h' tk hy ho hst' hT hsz hk => ?_
    have ey : y = u := by
      have : its[i]? = some y := by simpa using hy
      rw [hu] at this
      exact (Option.some.inj this).symm
    subst ey
    obtain ⟨hit', _⟩ := hst'
    refine ⟨_, rfl, wpAny_letOwnedTupleGo_enum (s := { s with heap := h', toks := tk + 1 }) ho fun h'' he' sb => ?_⟩
    have hT2 : h''.get? s.heap.objs.size = some { cls := .type "tuple", data := .seq #[.int i tk, y] } := (sb.2 _ (Nat.ne_of_gt hel)).trans hT
    have new : ObjOk X.prog X.w (upd H s.heap.objs.size (.tup [.int (i : Nat), x])) h'' s.heap.objs.size (.tup [.int (i : Nat), x]) :=
      ⟨by show 2 ≤ sizeLine; decide, [.int i tk, y], .cons ⟨_, rfl⟩ (.cons ru .nil), ⟨_, hT2, rfl, _, rfl⟩⟩
    have I1 : Inv X pins σ (upd H s.heap.objs.size (.tup [.int (i : Nat), x])) { s with heap := h'', toks := tk + 1 } :=
      I.turnedNew (ch := [e, it]) (fun b ob hb q => (sb.2 b (fun z => hb (by simp [z]))).trans (hk b ob (fun z => hb (by simp [z])) (fun z => hb (by simp [z])) q)) hf (Nat.le_refl _) new
    refine ⟨.ref s.heap.objs.size, _, I1, rfl, ⟨_, x, rfl, I.hok.fresh (Nat.le_refl _), rfl, fun ys hy => by rw [I.tuple_inj hy hq]; exact hx⟩, ⟨⟨y, ?_⟩, hit'.at fun o q => (sb.2 it (Ne.symm hne)).trans q, hne⟩, fun b hb => ?_⟩
    · have e1 : ((i + 1 : Nat) : Int) = (i : Int) + 1 := by omega
      rw [e1]; exact he'
    · have hb' : b < s.heap.objs.size := by
        have e' : b = e ∨ b = it := by simpa using hb
        rcases e' with z | z
        · rw [z]; exact hel
        · rw [z]; exact hil
      rw [upd_ne (Nat.ne_of_lt hb')]
      exact (hf b hb).1
  done := by
    intro X hP hw hK hc i pins s σ H E I hf st hg
    subst hP hw hK
    obtain ⟨⟨old, he⟩, hit, hne⟩ := st
    obtain ⟨xs, hq, hx⟩ := hg
    obtain ⟨its, rv, p, hz⟩ := I.tuple hq
    have p' : s.heap.IsTuple a its.toArray := p
    obtain ⟨f0, f1, f2, f3, f4, f5⟩ := hf it (by simp)
    have hl := rv.length
    have hT : s.TypeIs (.ref e) "enumerate" := ⟨_, he, rfl⟩
    unfold pyNext
    refine wpAny_bind (wpAny_attempt (wpAny_callSpecial?_slot (name := Str.ofString "__next__") hT F.slot_enumerate_next
      (wpAny_call_entry F.slot_enumerate_next hT F.entry_enumerate_next ?_ (F.args_enumerate_next_1 _))))
    show wpAny _ _ (field (.ref e) 2 >>= _) _ _ _
    refine wpAny_bind (wpAny_field he rfl (x := .ref it) rfl ?_)
    refine wpAny_bind (RZ.nextOf_tuple_end (I.ok.hd hc) hit p' (by simp; omega) fun h' x eb hx' => ?_)
    obtain ⟨o, ho, hc'⟩ := hx'
    refine wpAny_bind (wpAny_isInstance (T := "StopIteration") (b := true) ⟨o, ho, hc'⟩ isSubtype_stop ?_)
    exact wpAny_pure ⟨rfl, I.turned (t' := s.toks) (fun b o hb q => eb b o hb q) f0 f1 f3 f4 f5⟩
  self := fun A i s Q E st h => let ⟨⟨_, he⟩, _⟩ := st; wpAny_pyIter_enum he h
def iEnumA (K : PySem.W.Frag) (ta : TA) : TI := fun σ H R => ta σ H fun vs H1 => ∃ a xs, vs = [.ref a] ∧ ((SqL K H1 a xs ∧ R (Ite K a) H1) ∨ (SqT K H1 a xs ∧ R (IteT K a) H1))
theorem pi_enumA {X : Cx} {e : Expr} {ta : TA} {p pos tpos : Pos} {elts : List Expr} {kk : Nat} (hg : Gl X "enumerate") (hm : X.mg "enumerate" = none) (ha : PA X [e] ta) (hs : starEach [e] X.env = [(false, eval e X.env)] := by rfl) :
    PI X (.Tuple elts kk tpos) (.Call (.Name "enumerate" p) [e] [] pos) (iEnumA X.K ta) := by
  refine ⟨fun pins s σ H R I h => ?_⟩
  refine Call_ (ld_blt I hg hm boot_enumerate (PyProof.Rows.callWith_type1 (thn (ha.run pos pins s σ H _ I h) fun us s1 ⟨vs, H1, I1, r1, q1⟩ => ?_) hs rfl))
  obtain ⟨a, xs, ex, q1⟩ := q1
  subst ex
  cases r1 with
  | cons r rr =>
    cases rr
    cases r
    have fr : ∀ b, b ∈ [s1.heap.objs.size + 1, s1.heap.objs.size] → FpOk X pins H1 b := fun b hb => by
      have e' : b = s1.heap.objs.size + 1 ∨ b = s1.heap.objs.size := by simpa using hb
      have hle : s1.heap.objs.size ≤ b := by
        rcases e' with z | z
        · rw [z]; exact Nat.le_add_right _ _
        · rw [z]; exact Nat.le_refl _
      exact I1.fpOk hle (I1.hok.fresh hle)
    rcases q1 with ⟨hq, q⟩ | ⟨hq, q⟩
    · obtain ⟨its, rv, p', hz⟩ := I1.list hq
      refine call_enumerate_list p'.isList fun h' he hit hsz hk => wpAny_pyIter_enum he ?_
      have I2 : Inv X pins σ H1 { s1 with heap := h' } := I1.kept (t' := s1.toks) hk
      exact ⟨s1.heap.objs.size + 1, [s1.heap.objs.size + 1, s1.heap.objs.size], _, _, H1, rfl, I2, turn_enum a (s1.heap.objs.size + 1) s1.heap.objs.size, ⟨⟨.none, he⟩, hit, Nat.succ_ne_self _⟩, fr, q⟩
    · obtain ⟨its, rv, p', hz⟩ := I1.tuple hq
      refine RY.call_enumerate_tup (items := its.toArray) p' fun h' he hit hsz hk => wpAny_pyIter_enum he ?_
      have I2 : Inv X pins σ H1 { s1 with heap := h' } := I1.kept (t' := s1.toks) hk
      exact ⟨s1.heap.objs.size + 1, [s1.heap.objs.size + 1, s1.heap.objs.size], _, _, H1, rfl, I2, turn_enumT a (s1.heap.objs.size + 1) s1.heap.objs.size, ⟨⟨.none, he⟩, hit, Nat.succ_ne_self _⟩, fr, q⟩
end L2
namespace Rf
open PySem PySem.Spec PyProof.Rows L2
section
variable {K : PySem.W.Frag} {G : Wd} {Z : Hp}
theorem it_enumT {a : Addr} {xs : List V} {ds : List D} (q : SqT K Z a xs) (r : RepL K G Z ds xs) : ItOk K G Z (enumD 0 ds) (IteT K a) where
  goes := fun i H hi s => by
    rw [enumD_length, r.length] at hi
    exact ⟨xs, xs[i], Same.seqT s q, List.getElem?_eq_getElem hi⟩
  stops := fun H s => by rw [enumD_length, r.length]; exact ⟨xs, Same.seqT s q, Nat.le_refl _⟩
  yields := fun i H x H' d Z1 e s s1 y => by
    have hi : i < (enumD 0 ds).length := (List.getElem?_eq_some_iff.mp e).1
    obtain ⟨d1, rfl, e1⟩ := enumD_get e
    rw [enumD_length, r.length] at hi
    obtain ⟨T, x2, rfl, hT, rfl, h2⟩ := y
    obtain ⟨v1, f1, f2⟩ := r.get e1
    have h2' : xs[i]? = some x2 := h2 xs (Same.seqT (s.trans s1) q)
    rw [h2'] at f1
    cases f1
    refine pair_stp hT s1 ?_ (Rep.mono s _ _ f2)
    rw [Nat.zero_add]
    exact rfl
end
def en2 : List D × Rho → R (List D × Rho)
  | ([.lst xs], ρ) => .ok (enumD 0 xs, ρ)
  | ([.tup xs], ρ) => .ok (enumD 0 xs, ρ)
  | _ => .no
def iEn2 (fa : Ea) : Ei := fun ρ => (fa ρ).bind en2
section
variable {X : Cx} {G : Wd} {W : WX} {p pos tpos : Pos} {e : Expr}
theorem ri_enum2 {fa : Ea} {elts : List Expr} {kk : Nat} (hg : Gl X "enumerate") (hm : X.mg "enumerate" = none) (ha : PA X [e] (tA X.K G W fa)) (hs : starEach [e] X.env = [(false, eval e X.env)] := by rfl) :
    PI X (.Tuple elts kk tpos) (.Call (.Name "enumerate" p) [e] [] pos) (tI X.K G W (iEn2 fa)) := (pi_enumA hg hm ha hs).imp fun σ H Q h => by
    refine ti_bindA h fun B Z Φ ρ1 H1 vs ds k r q => ?_
    unfold en2 at q
    split at q
    · rename_i xs ρ' ee
      cases ee
      obtain ⟨v, us, rfl, r1, r2⟩ := r
      obtain ⟨a, as, rfl, sa, ra⟩ := r1
      cases (show us = [] from r2)
      exact ⟨a, as, rfl, .inl ⟨.inl (.inl (k.zh _ _ sa)), q Z H1 _ Ext.refl k (it_enum (.inl (.inl sa)) ra)⟩⟩
    · rename_i xs ρ' ee
      cases ee
      obtain ⟨v, us, rfl, r1, r2⟩ := r
      obtain ⟨a, as, rfl, sa, ra⟩ := r1
      cases (show us = [] from r2)
      exact ⟨a, as, rfl, .inr ⟨Same.seqT k.zh sa, q Z H1 _ Ext.refl k (it_enumT sa ra)⟩⟩
    · exact q.elim
end
end Rf
end
section
set_option Elab.async false
set_option linter.all false
set_option maxRecDepth 100000
set_option maxHeartbeats 4000000
/-! Rf, part Z: sorted(set(xs)), xs a list of different ints, fewer than 64. -/
namespace L2
open PySem PySem.Spec PyProof.Rows
section
variable {P : Program} {w : World} {A : Around} {E : Value → Shared → Prop} {s : Shared}
abbrev nwSet (w : World) : Obj := { cls := .type "set", dict := none, data := .set #[] 0 (.fresh 0 0 (!w.params.followText "set-order")) }
abbrev nwIt (l : Addr) : Obj := { cls := .type "list_iterator", data := .fields #[.ref l, .int 0 0] }
/-- what set(list of ints) leaves -/
abbrev SetLeft (w : World) (s : Shared) (ns : List Int) (t : Shared) : Prop := ∃ G k c, t = { s with heap := G, toks := k } ∧ SetR w G s.heap.objs.size (fun j => decide (j ∈ ns)) c ∧ c ≤ ns.length ∧ ∀ b o, s.heap.get? b = some o → G.get? b = some o
set_option maxHeartbeats 3200000 in
theorem call_set_lstI {l : Addr} {items : Array Value} (ns : List Int) {Q : Value → Shared → Prop} (hh : A.handled = none) (hl : s.heap.IsList l items) (hit : IntsAre items.toList ns) (hb : ns.length + 1 < scanBound)
    (h : ∀ t, SetLeft w s ns t → Q (.ref s.heap.objs.size) t) : wpAny (model P w) A (call (.type "set") [.ref l]) Q E s := by
  have zz : items.size = ns.length := by
    have q := IntsAre.length hit
    rwa [Array.length_toList] at q
  obtain ⟨c, tl, hmro⟩ := F.called_set.mro
  have f1 := F.called_set.made
  have f2 := F.called_set.sub
  refine wpAny_call (codeAny_of_tree ?_)
  show wpAny _ _ (callAny (.type "set") _) _ _ _
  refine wpAny_pure ⟨Code.quiet_builtin _ (by decide +kernel), codeAny_builtin F.entry_type_call ?_⟩
  rw [Around.under_plain (weight_type_call_type "set" [.ref l] []) rfl]
  have f3 := F.called_set.notType
  have f4 := F.called_set.canCreate
  have f5 := F.typeCall_set_1 (.ref l)
  repeat (any_goals (first | assumption | wp_step))
  refine codeAny_mono (code_set_led1 (.ref l) (E := E) (Q₁ := fun u t => u = .ref s.heap.objs.size ∧ t = { s with heap := s.heap.push (nwSet w) }) ⟨rfl, rfl⟩) fun r t hr => ?_
  cases r with
  | error e => exact hr
  | ok fl =>
    cases fl with
    | ret u =>
      obtain ⟨rfl, rfl⟩ := hr
      have hS : (s.heap.push (nwSet w)).get? s.heap.objs.size = some (nwSet w) := Heap.get?_push_size _ rfl
      have hT : Shared.TypeIs { s with heap := s.heap.push (nwSet w) } (.ref s.heap.objs.size) "set" := ⟨_, hS, rfl⟩
      have f6 := F.called_set.init.lookup
      have f7 := F.called_set.init.bind (.ref s.heap.objs.size)
      repeat (any_goals (first | assumption | wp_step))
      refine codeAny_mono (codeAny_call_builtin (R := wants (fun r t => r = .none ∧ SetLeft w s ns t) E) F.called_set.init.plain F.entry_set_init (check_set_init_1 hT ?_)) fun r2 t2 hr2 => ?_
      · obtain ⟨⟨oc, od, odt, os⟩, hol, hcl, nl, hdl⟩ := hl
        simp only at hcl hdl
        subst hcl; subst hdl
        have hol' : (s.heap.push (nwSet w)).get? l = some { cls := .type "list", dict := od, data := .seq items nl, slots := os } := Heap.get?_push_of_some _ hol
        have g1 := F.sub_list_set
        have g2 := F.sub_list_frozenset
        have g3 : (Value.type "list" == Value.type "dict") = false := by decide
        have hl1 : (s.heap.push (nwSet w)).IsList l items := ⟨_, hol', rfl, nl, rfl⟩
        unfold Builtin.«set.__init__» noKeywords Builtin.Frozenset.updateFrom
        generalize hPI : pyIter = PI
        wp_walk
        subst hPI
        refine wpAny_pyIter_list hl1 ?_
        refine wpAny_bind (wpAny_runValue ?_)
        have lz : l < s.heap.objs.size := Heap.lt_size hol
        have hn3 : A.in1.in1.in1.handled = none := by simp [hh]
        have z1 : (s.heap.push (nwSet w)).objs.size = s.heap.objs.size + 1 := Heap.size_push ..
        have ne1 : l ≠ (s.heap.push (nwSet w)).objs.size := by rw [z1]; exact Nat.ne_of_lt (Nat.lt_succ_of_lt lz)
        have nf : s.heap.objs.size ∉ [(s.heap.push (nwSet w)).objs.size, l] := by
          rw [z1]
          intro hm
          rcases List.mem_cons.mp hm with e | e
          · exact Nat.ne_of_lt (Nat.lt_succ_self _) e
          · exact Nat.ne_of_gt lz (List.mem_singleton.mp e)
        have hval : ∀ (i : Nat) (v : Value), items[i]? = some v → ∃ k t, ns[i]? = some k ∧ v = .int k t := fun i v hv => by
          have hi : i < ns.length := by rw [← zz]; exact (Array.getElem?_eq_some_iff.mp hv).1
          obtain ⟨t, e⟩ := PyProof.Rows.IntsAre.int_at hit i v (by rw [Array.getElem?_toList]; exact hv)
          refine ⟨ns[i], t, List.getElem?_eq_getElem hi, ?_⟩
          rw [e, List.getD_eq_getElem?_getD, List.getElem?_eq_getElem hi]
          rfl
        have hget : ((s.heap.push (nwSet w)).push (nwIt l)).get? s.heap.objs.size = some (nwSet w) := Heap.get?_push_of_some _ hS
        refine set_update_ints ((Walks.list hn3 _ l ne1 items).toS) s.heap.objs.size nf ns zz hb hval (items.size - 0) 0 _ (by omega) (Nat.zero_le _)
          ⟨⟨_, Heap.get?_push_size _ rfl, rfl, rfl⟩, (hl1.push _)⟩ ⟨0, Nat.le_refl 0, setR_new_at hget⟩ fun t' c' hm hc' hS' => ?_
        obtain ⟨G, g5, d5, k5, os5⟩ := t'
        obtain rfl : g5 = s.gens := hm.gens
        obtain rfl : d5 = s.drawn := hm.drawn
        obtain rfl : os5 = s.os := hm.os
        show wpAny _ _ _ _ _ _
        refine wpAny_pure ?_
        show wpAny _ _ (ret Value.none) _ _ _
        rw [zz] at hc'
        refine wpAny_pure ⟨rfl, G, k5, c', rfl, hS', hc', fun b o e => ?_⟩
        have hb0 : b < s.heap.objs.size := Heap.lt_size e
        refine hm.heap b o ?_ (Heap.get?_push_of_some _ (Heap.get?_push_of_some _ e))
        rw [z1]
        intro hm
        rcases List.mem_cons.mp hm with e | e
        · exact Nat.ne_of_lt hb0 e
        · exact Nat.ne_of_lt (Nat.lt_succ_of_lt hb0) (List.mem_singleton.mp e)
      · cases r2 with
        | error e => exact hr2
        | ok fl2 =>
          cases fl2 with
          | ret r =>
            obtain ⟨rfl, hz⟩ := hr2
            obtain ⟨G, k, c', rfl, w2, w3, w4⟩ := hz
            repeat (any_goals (first | assumption | wp_step))
            exact h _ ⟨G, k, c', rfl, w2, w3, w4⟩
          | _ => exact hr2.elim
    | _ => exact hr.elim
end
/-- set(xs), xs a list of ints -/
def rSetI (K : PySem.W.Frag) (w : World) : List V → Hp → VK → Prop := fun vs H Q => ∃ (l : Addr) (ns : List Int), vs = [V.ref l] ∧ SqL K H l (ns.map V.int) ∧ ns.length < 1000 ∧
  ∀ p c, H p = none → c ≤ ns.length → Q (.ref p) (upd H p (SetO w p (fun j => decide (j ∈ ns)) c))
theorem cr_setI {X : Cx} (hc : X.calm = true) : CallR X (.type "set") (rSetI X.K X.w) := by
  intro pins s σ H vs us Q I r h
  obtain ⟨l, ns, rfl, hq, hz, q⟩ := h
  rw [Vals.ref1 r]
  obtain ⟨its, rv, pl, _⟩ := I.list hq
  have hi := ints_of_vals rv
  refine call_set_lstI (items := its.toArray) ns (I.ok.hd hc) pl.isList (by simpa using hi) (Nat.lt_of_lt_of_le (Nat.succ_lt_succ hz) (by decide)) fun t ht => ?_
  obtain ⟨G, k, c, rfl, hS, hcn, hk⟩ := ht
  exact ⟨.ref s.heap.objs.size, upd H s.heap.objs.size (SetO X.w s.heap.objs.size (fun j => decide (j ∈ ns)) c), I.laid (t' := k) hk (Nat.le_refl _) (setO_new hS), rfl, q _ c (I.hok.fresh (Nat.le_refl _)) hcn⟩
end L2
namespace Rf
open PySem PySem.Spec PyProof.Rows L2
/-- the members, in order -/
def insI (x : Int) : List Int → List Int
  | [] => [x]
  | y :: ys => if x < y then x :: y :: ys else if x = y then y :: ys else y :: insI x ys
def srtI : List Int → List Int
  | [] => []
  | x :: xs => insI x (srtI xs)
theorem mem_insI {x y : Int} : ∀ {ys : List Int}, y ∈ insI x ys ↔ y = x ∨ y ∈ ys
  | [] => by simp [insI]
  | z :: ys => by
    unfold insI
    split
    · simp
    · split
      · rename_i h; subst h; simp
      · simp [mem_insI (ys := ys)]
        constructor <;> (intro h; rcases h with h | h | h <;> simp [h])
theorem mem_srtI {y : Int} : ∀ {xs : List Int}, y ∈ srtI xs ↔ y ∈ xs
  | [] => by simp [srtI]
  | x :: xs => by simp [srtI, mem_insI, mem_srtI (xs := xs)]
theorem srt_insI {x : Int} : ∀ {ys : List Int}, ys.Pairwise (· < ·) → (insI x ys).Pairwise (· < ·)
  | [], _ => by simp [insI]
  | z :: ys, h => by
    obtain ⟨h1, h2⟩ := List.pairwise_cons.mp h
    unfold insI
    split
    · rename_i hx
      refine List.pairwise_cons.mpr ⟨fun a ha => ?_, h⟩
      rcases List.mem_cons.mp ha with rfl | ha
      · exact hx
      · exact Int.lt_trans hx (h1 a ha)
    · split
      · exact h
      · refine List.pairwise_cons.mpr ⟨fun a ha => ?_, srt_insI h2⟩
        rcases mem_insI.mp ha with rfl | ha
        · omega
        · exact h1 a ha
theorem srt_srtI : ∀ xs : List Int, (srtI xs).Pairwise (· < ·)
  | [] => List.Pairwise.nil
  | x :: xs => srt_insI (srt_srtI xs)
theorem srt_eq : ∀ {xs ys : List Int}, xs.Pairwise (· < ·) → ys.Pairwise (· < ·) → (∀ k, k ∈ xs ↔ k ∈ ys) → xs = ys
  | [], [], _, _, _ => rfl
  | [], y :: ys, _, _, h => by have := (h y).mpr (by simp); simp at this
  | x :: xs, [], _, _, h => by have := (h x).mp (by simp); simp at this
  | x :: xs, y :: ys, hx, hy, h => by
    obtain ⟨x1, x2⟩ := List.pairwise_cons.mp hx
    obtain ⟨y1, y2⟩ := List.pairwise_cons.mp hy
    have e : x = y := by
      rcases List.mem_cons.mp ((h x).mp (by simp)) with e | e
      · exact e
      · rcases List.mem_cons.mp ((h y).mpr (by simp)) with e2 | e2
        · exact e2.symm
        · have a := y1 x e
          have b := x1 y e2
          omega
    subst e
    rw [srt_eq x2 y2 fun k => ?_]
    constructor
    · intro hk
      rcases List.mem_cons.mp ((h k).mp (by simp [hk])) with e | e
      · subst e; have := x1 k hk; omega
      · exact e
    · intro hk
      rcases List.mem_cons.mp ((h k).mpr (by simp [hk])) with e | e
      · subst e; have := y1 k hk; omega
      · exact e
/-- sorted(set(xs)) -/
def gSrtSet : D → Option PV
  | .lst xs => match intsD xs with
    | some ns => if Nat.blt ns.length 64 then some (.fr ((srtI ns).map .int)) else none
    | none => none
  | _ => none
/-- as UnS, the end told by what it keeps -/
def UnSX (K : PySem.W.Frag) (G : Wd) (r : V → Hp → VK → Prop) (g : D → Option PV) : Prop := ∀ (Z H : Hp) (da : D) (x : V) (pv : PV) (Q : VK), Same Z H → Pk K G Z H da x → g da = some pv →
  (∀ Z' H' v, (∀ B Φ σ ρ, Ok K G B Z Φ σ ρ H → Ext Z Φ Z' ∧ Ok K G B Z' Φ σ ρ H' ∧ RepP K G Z' Φ σ ρ H' pv v) → Q v H') → r x H Q
theorem te_unX {K : PySem.W.Frag} {G : Wd} {W : WX} {r : V → Hp → VK → Prop} {g : D → Option PV} {fa : Ev} (S : UnSX K G r g) {σ : L2.St} {H : Hp} {Q : VK} (h : tE K G W (eU g fa) σ H Q) : tE K G W fa σ H (fun x H1 => r x H1 Q) := by
  obtain ⟨B, Z, Φ, ρ, k, h⟩ := h
  refine ⟨B, Z, Φ, ρ, k, ?_⟩
  unfold eU at h
  cases ha : fa ρ with
  | no => rw [ha] at h; exact h.elim
  | exc x => rw [ha] at h; exact h
  | ok p =>
    obtain ⟨pa, ρ1⟩ := p
    rw [ha] at h
    intro Z1 H1 x e1 k1 r1
    obtain ⟨Z2, e2, k2, r2⟩ := k1.pend r1
    change PostE K G W B Z Φ σ Q (opU g pa ρ1) at h
    unfold opU at h
    cases la : look ρ1 pa with
    | none => rw [la] at h; exact h.elim
    | some da =>
      rw [la] at h
      cases hg : g da with
      | none => simp only [hg] at h; exact h.elim
      | some pv =>
        simp only [hg] at h
        refine S Z2 H1 da x pv Q k2.zh (k2.pk r2 la) hg fun Z' H' v st => ?_
        obtain ⟨f1, f2, f3⟩ := st _ _ _ _ k2
        exact h Z' H' v ((e1.trans e2).trans f1) f2 f3
theorem uns_srtSet {K : PySem.W.Frag} {G : Wd} {w : World} : UnSX K G (fun x H Q => rSetI K w [x] H (fun v H1 => rSortedSet w [v] H1 Q)) gSrtSet := by
  intro Z H da x pv Q s ha hg q
  unfold gSrtSet at hg
  split at hg
  · split at hg
    · rename_i ns h1
      split at hg
      · rename_i hl
        cases hg
        have hl' : ns.length < 64 := by rwa [Nat.blt_eq] at hl
        cases intsD_eq h1
        obtain ⟨a, vs, rfl, sa, ra⟩ := ha.lst s
        cases ra.ints
        refine ⟨a, ns, rfl, .inl (.inl sa), by omega, fun p c hp hc => ⟨p, _, c, rfl, upd_same, by omega, fun ns' p2 hs hm _ hp2 => ?_⟩⟩
        have e : ns' = srtI ns := srt_eq hs (srt_srtI ns) fun k => by rw [hm k, mem_srtI]; simp
        subst e
        refine q Z _ _ fun B Φ σ ρ k => ?_
        have k1 := k.newF (o := SetO w p (fun j => decide (j ∈ ns)) c) hp
        have r2 : RepL K G Z ((srtI ns).map D.int) ((srtI ns).map V.int) := by
          have : ∀ l : List Int, RepL K G Z (l.map D.int) (l.map V.int) := fun l => by
            induction l with
            | nil => exact rfl
            | cons n r ih => exact ⟨.int n, r.map V.int, rfl, rfl, ih⟩
          exact this _
        exact (Stp.newF (K := K) (G := G) (Z := Z) (vs := (srtI ns).map V.int) hp2 r2).ok k1
      · cases hg
    · cases hg
  · cases hg
section
variable {X : Cx} {G : Wd} {W : WX} {p p2 q pos : Pos} {e : Expr}
theorem re_srtSet {f : Ev} (hc : X.calm = true) (g1 : Gl X "sorted") (m1 : X.mg "sorted" = none) (g2 : Gl X "set") (m2 : X.mg "set" = none) (ha : PE X e (tE X.K G W f))
    (hs : starEach [e] X.env = (false, eval e X.env) :: starEach [] X.env := by rfl) (hs2 : starEach [.Call (.Name "set" p2) [e] [] q] X.env = (false, eval (.Call (.Name "set" p2) [e] [] q) X.env) :: starEach [] X.env := by rfl) (h0 : (backTo pos (starEach [] X.env)).any (·.1) = false := by rfl) (h1 : (backTo q (starEach [] X.env)).any (·.1) = false := by rfl) :
    PE X (.Call (.Name "sorted" p) [.Call (.Name "set" p2) [e] [] q] [] pos) (tE X.K G W (eU gSrtSet f)) :=
  (pe_callB (cr_sortedSet hc) g1 m1 (by decide +kernel) (pa_cons (pe_callTy (cr_setI hc) g2 m2 (by decide +kernel) (pa_cons ha pa_nil hs) (by decide) (by decide) hs h1) pa_nil hs2) (by decide) (by decide) hs2 h0).imp fun σ H Q h => te_unX (uns_srtSet (w := X.w)) h
end
end Rf
end
section
set_option Elab.async false
set_option linter.all false
set_option maxRecDepth 100000
set_option maxHeartbeats 4000000
/-! Rf, part V: how mirror terms are worked out, step by step. -/
namespace Rf
open PySem PySem.Spec PyProof.Rows L2
section
variable {ρ ρ1 ρ2 ρ3 ρ4 ρw : Rho} {pa pb pv : PV} {d da db e : D} {fa fb fc f : Ev} {fr : Ea} {ds : List D} {x : Xc}
theorem v_fz {i : Nat} (h : ρ[i]? = some (.fz d)) : eVar i ρ = .ok (.fz d, ρ) := by
  unfold eVar
  rw [h]
theorem v_ow {i : Nat} {b : Bool} {xs : List D} (h : ρ[i]? = some (.ow b xs)) : eVar i ρ = .ok (.at i, ρ) := by
  unfold eVar
  rw [h]
theorem v_c : eC d ρ = .ok (.fz d, ρ) := rfl
theorem v_op {g : D → D → Option PV} (h1 : fa ρ = .ok (pa, ρ1)) (h2 : fb ρ1 = .ok (pb, ρ2)) (h3 : look ρ2 pa = some da) (h4 : look ρ2 pb = some db) (h5 : g da db = some pv) : eOp g fa fb ρ = .ok (pv, ρ2) := by
  show (fa ρ).bind _ = _
  rw [h1]
  show (fb ρ1).bind _ = _
  rw [h2]
  show opV g pa pb ρ2 = _
  unfold opV
  rw [h3, h4]
  simp only []
  rw [h5]
theorem v_u {g : D → Option PV} (h1 : fa ρ = .ok (pa, ρ1)) (h3 : look ρ1 pa = some da) (h5 : g da = some pv) : eU g fa ρ = .ok (pv, ρ1) := by
  show (fa ρ).bind _ = _
  rw [h1]
  show opU g pa ρ1 = _
  unfold opU
  rw [h3]
  simp only []
  rw [h5]
theorem v_nil : aNil ρ = .ok ([], ρ) := rfl
theorem v_cons (h1 : f ρ = .ok (pv, ρ1)) (h2 : useV pv ρ1 = some (d, ρ2)) (h3 : fr ρ2 = .ok (ds, ρ3)) : aCons f fr ρ = .ok (d :: ds, ρ3) := by
  show (f ρ).bind _ = _
  rw [h1]
  show (match useV pv ρ1 with | some (d, ρ2) => (fr ρ2).bind fun (ds, ρ3) => R.ok (d :: ds, ρ3) | none => .no) = _
  rw [h2]
  show (fr ρ2).bind _ = _
  rw [h3]
  rfl
theorem v_call {n : Nat} {F : Fn} {dd : List D} (h1 : fr ρ = .ok (ds, ρ1)) (h2 : ((ds ++ dd).length == n) = true) (h3 : F (ds ++ dd) = .ok pv) : eCall n F dd fr ρ = .ok (pv, ρ1) := by
  show (fr ρ).bind _ = _
  rw [h1]
  show (if ((ds ++ dd).length == n) = true then callK ρ1 (F (ds ++ dd)) else .no) = _
  rw [if_pos h2, h3]
  rfl
theorem v_call0 {n : Nat} {F : Fn} (h1 : fr ρ = .ok (ds, ρ1)) (h2 : (ds.length == n) = true) (h3 : F ds = .ok pv) : eCall n F [] fr ρ = .ok (pv, ρ1) :=
  v_call h1 (by rw [List.append_nil]; exact h2) (by rw [List.append_nil]; exact h3)
theorem v_callx {n : Nat} {F : Fn} (h1 : fr ρ = .ok (ds, ρ1)) (h2 : (ds.length == n) = true) (h3 : F ds = .exc x) : eCall n F [] fr ρ = .exc x := by
  show (fr ρ).bind _ = _
  rw [h1]
  show (if ((ds ++ []).length == n) = true then callK ρ1 (F (ds ++ [])) else .no) = _
  rw [List.append_nil, if_pos h2, h3]
  rfl
theorem v_callB {j n : Nat} {F : FnB} {c : Bool} {xs ys : List D} (h0 : isOw ρ[j]? = true) (h1 : fr ρ = .ok (ds, ρ1)) (h2 : ρ1[j]? = some (.ow c xs)) (h3 : (ds.length + 1 == n) = true) (h4 : F xs ds = .ok (pv, ys)) (h5 : ρ1.set j (.ow c ys) = ρ2) : eCallB j n F fr ρ = .ok (pv, ρ2) := by
  unfold eCallB
  cases e : ρ[j]? with
  | none => rw [e] at h0; cases h0
  | some k =>
    rw [e] at h0
    cases k with
    | un => cases h0
    | fz d => cases h0
    | ow b zs =>
      simp only []
      rw [h1]
      show callBK j n F (ds, ρ1) = _
      unfold callBK
      simp only [h2]
      rw [if_pos h3, h4]
      show R.ok (pv, ρ1.set j (.ow c ys)) = _
      rw [h5]
theorem v_callD {tab : Nat → Option (Nat × Fn)} {j m n : Nat} {F : Fn} (h0 : ρ[j]? = some (.fz (.fn m))) (h1 : tab m = some (n, F)) (h2 : fr ρ = .ok (ds, ρ1)) (h3 : (ds.length == n) = true) (h4 : F ds = .ok pv) : eCallD tab j fr ρ = .ok (pv, ρ1) := by
  unfold eCallD
  rw [h0]
  simp only []
  rw [h1]
  simp only []
  rw [h2]
  show (if (ds.length == n) = true then callK ρ1 (F ds) else .no) = _
  rw [if_pos h3, h4]
  rfl
theorem v_callDx {tab : Nat → Option (Nat × Fn)} {j m n : Nat} {F : Fn} (h0 : ρ[j]? = some (.fz (.fn m))) (h1 : tab m = some (n, F)) (h2 : fr ρ = .ok (ds, ρ1)) (h3 : (ds.length == n) = true) (h4 : F ds = .exc x) : eCallD tab j fr ρ = .exc x := by
  unfold eCallD
  rw [h0]
  simp only []
  rw [h1]
  simp only []
  rw [h2]
  show (if (ds.length == n) = true then callK ρ1 (F ds) else .no) = _
  rw [if_pos h3, h4]
  rfl
theorem v_tup (h : fr ρ = .ok (ds, ρ1)) (g : szOk ds.length = true) : eTup fr ρ = .ok (.fz (.tup ds), ρ1) := by
  show (fr ρ).bind _ = _
  rw [h]
  show (if szOk ds.length = true then R.ok (PV.fz (.tup ds), ρ1) else .no) = _
  rw [if_pos g]
theorem v_lst (h : fr ρ = .ok (ds, ρ1)) (g : szOk ds.length = true) : eLst fr ρ = .ok (.fr ds, ρ1) := by
  show (fr ρ).bind _ = _
  rw [h]
  show (if szOk ds.length = true then R.ok (PV.fr ds, ρ1) else .no) = _
  rw [if_pos g]
theorem v_oN : oNone ρ = .ok (none, ρ) := rfl
theorem v_oS {i : Int} (h : f ρ = .ok (.fz (.int i), ρ1)) : oSome f ρ = .ok (some i, ρ1) := by
  show (f ρ).bind _ = _
  rw [h]
  rfl
theorem v_sl {fl fh : Eo} {lo hi : Option Int} (h1 : fa ρ = .ok (pa, ρ1)) (h2 : fl ρ1 = .ok (lo, ρ2)) (h3 : fh ρ2 = .ok (hi, ρ3)) (h4 : look ρ3 pa = some da) (h5 : gSl da lo hi = some pv) : eSl fa fl fh ρ = .ok (pv, ρ3) := by
  show (fa ρ).bind _ = _
  rw [h1]
  show (fl ρ1).bind _ = _
  rw [h2]
  show (fh ρ2).bind _ = _
  rw [h3]
  show slK pa lo (hi, ρ3) = _
  unfold slK
  simp only []
  rw [h4]
  simp only []
  rw [h5]
theorem v_andT {r : R (PV × Rho)} (h : fa ρ = .ok (.fz (.bl true), ρ1)) (g : fb ρ1 = r) : eAndV fa fb ρ = r := by
  show (fa ρ).bind _ = _
  rw [h]
  exact g
theorem v_andF (h : fa ρ = .ok (.fz (.bl false), ρ1)) : eAndV fa fb ρ = .ok (.fz (.bl false), ρ1) := by
  show (fa ρ).bind _ = _
  rw [h]
  rfl
theorem v_ch {g g' : D → D → Option PV} {dc : D} {pc : PV} (h1 : fa ρ = .ok (pa, ρ1)) (h2 : fb ρ1 = .ok (pb, ρ2)) (h3 : look ρ2 pa = some da) (h4 : look ρ2 pb = some db) (h5 : g da db = some (.fz (.bl true)))
    (h6 : fc ρ2 = .ok (pc, ρ3)) (h7 : look ρ3 pb = some e) (h8 : look ρ3 pc = some dc) (h9 : g' e dc = some pv) : eChain g g' fa fb fc ρ = .ok (pv, ρ3) := by
  show (fa ρ).bind _ = _
  rw [h1]
  show (fb ρ1).bind _ = _
  rw [h2]
  show (opV g pa pb ρ2).bind (chK g' fc pb) = _
  unfold opV
  rw [h3, h4]
  simp only []
  rw [h5]
  show (fc ρ2).bind _ = _
  rw [h6]
  show opV g' pb pc ρ3 = _
  unfold opV
  rw [h7, h8]
  simp only []
  rw [h9]
theorem v_if {tc : Et} {b : Bool} {r : R (PV × Rho)} (h : tc ρ = .ok (b, ρ1)) (g : (if b then fa ρ1 else fb ρ1) = r) : eIfF tc fa fb ρ = r := by
  show (tc ρ).bind _ = _
  rw [h]
  cases b <;> exact g
theorem v_consx (h1 : f ρ = .exc x) : aCons f fr ρ = .exc x := by
  show (f ρ).bind _ = _
  rw [h1]
  rfl
theorem v_consx2 (h1 : f ρ = .ok (pv, ρ1)) (h2 : useV pv ρ1 = some (d, ρ2)) (h3 : fr ρ2 = .exc x) : aCons f fr ρ = .exc x := by
  show (f ρ).bind _ = _
  rw [h1]
  show (match useV pv ρ1 with | some (d, ρ2) => (fr ρ2).bind fun (ds, ρ3) => R.ok (d :: ds, ρ3) | none => .no) = _
  rw [h2]
  show (fr ρ2).bind _ = _
  rw [h3]
  rfl
theorem v_tupx (h : fr ρ = .exc x) : eTup fr ρ = .exc x := by
  show (fr ρ).bind _ = _
  rw [h]
  rfl
theorem v_tx (h : f ρ = .exc x) : tOf f ρ = .exc x := by
  show (f ρ).bind _ = _
  rw [h]
  rfl
theorem v_retx (h : f ρ = .exc x) : sRet f ρ = .exc x := by
  show (f ρ).bind _ = _
  rw [h]
  rfl
/-! iterations -/
theorem v_seqT {xs : List D} (h : fa ρ = .ok (pa, ρ1)) (g : useV pa ρ1 = some (.tup xs, ρ2)) : iSeq fa ρ = .ok (xs, ρ2) := by
  show (fa ρ).bind _ = _
  rw [h]
  show seqOf (useV pa ρ1) = _
  rw [g]
  rfl
theorem v_seqL {xs : List D} (h : fa ρ = .ok (pa, ρ1)) (g : useV pa ρ1 = some (.lst xs, ρ2)) : iSeq fa ρ = .ok (xs, ρ2) := by
  show (fa ρ).bind _ = _
  rw [h]
  show seqOf (useV pa ρ1) = _
  rw [g]
  rfl
abbrev nI (i : Nat) : D := .int (i : Int)
theorem v_rg1' {j : Int} (h : fr ρ = .ok ([.int j], ρ1)) (g0 : 0 ≤ j) (g : j < 1000000) : iRg1 fr ρ = .ok (rangeD 0 j.toNat, ρ1) := by
  unfold iRg1
  rw [h]
  have e : (decide (-4611686018427387904 ≤ j) && decide (j < 4611686018427387904)) = true := by
    rw [Bool.and_eq_true]
    exact ⟨decide_eq_true (by omega), decide_eq_true (by omega)⟩
  show (if (decide (-4611686018427387904 ≤ j) && decide (j < 4611686018427387904)) = true then R.ok (rangeD 0 j.toNat, ρ1) else .no) = _
  rw [if_pos e]
theorem rangeD_nI (n : Nat) : rangeD 0 n = (List.range n).map nI := by
  unfold rangeD
  simp
theorem v_rg1 {n : Nat} (h : fr ρ = .ok ([.int (n : Int)], ρ1)) (g : n < 1000000) : iRg1 fr ρ = .ok ((List.range n).map nI, ρ1) := by
  rw [v_rg1' h (by omega) (by omega), Int.toNat_natCast, rangeD_nI]
theorem v_zpT {xs ys : List D} (h : fr ρ = .ok ([.tup xs, .tup ys], ρ1)) : iZp fr ρ = .ok (zipD xs ys, ρ1) := by
  show (fr ρ).bind _ = _
  rw [h]
  rfl
theorem v_zpL {xs ys : List D} (h : fr ρ = .ok ([.lst xs, .lst ys], ρ1)) : iZp fr ρ = .ok (zipD xs ys, ρ1) := by
  show (fr ρ).bind _ = _
  rw [h]
  rfl
/-! comprehensions -/
theorem lcGo_map {α : Type} {t : Tg} {fe : Ev} {vs : List Nat} {c g : α → D} : ∀ {L : List α}, (∀ a, a ∈ L → ∃ ρa ρb, bindT t (c a) ρ = some ρa ∧ fe ρa = .ok (.fz (g a), ρb) ∧ wipeR ρb vs = ρ) →
    lcGo t tYesF fe vs (L.map c) ρ = .ok (L.map g, ρ)
  | [], _ => rfl
  | a :: L, h => by
    obtain ⟨ρa, ρb, e1, e2, e3⟩ := h a List.mem_cons_self
    rw [List.map_cons, lcGo, e1]
    simp only [tYesF]
    rw [e2]
    simp only [useV]
    rw [e3, lcGo_map (L := L) (fun b hb => h b (List.mem_cons_of_mem _ hb))]
    rfl
theorem v_lc {α : Type} {fi : Ei} {t : Tg} {fe : Ev} {vs : List Nat} {c g : α → D} {L : List α} (h1 : fi ρ = .ok (L.map c, ρ1)) (h2 : noOwn ρ1 vs = true) (h3 : L.length < 1000000) (h4 : wipeR ρ1 vs = ρw)
    (h5 : ∀ a, a ∈ L → ∃ ρa ρb, bindT t (c a) ρw = some ρa ∧ fe ρa = .ok (.fz (g a), ρb) ∧ wipeR ρb vs = ρw) (h6 : backR ρw ρ1 vs = ρ2) : eLc vs fi t tYesF fe ρ = .ok (.fr (L.map g), ρ2) := by
  show (fi ρ).bind _ = _
  rw [h1]
  show lcK vs t tYesF fe (L.map c, ρ1) = _
  unfold lcK
  simp only []
  rw [if_pos (by rw [Bool.and_eq_true, h2, List.length_map]; exact ⟨rfl, Nat.ble_eq_true_of_le (by omega)⟩), h4, lcGo_map h5]
  show R.ok (PV.fr (L.map g), backR ρw ρ1 vs) = _
  rw [h6]
/-! tests -/
theorem v_t {b : Bool} (h : f ρ = .ok (.fz (.bl b), ρ1)) : tOf f ρ = .ok (b, ρ1) := by
  show (f ρ).bind _ = _
  rw [h]
  rfl
theorem v_not {t : Et} {b : Bool} (h : t ρ = .ok (b, ρ1)) : tNotF t ρ = .ok (!b, ρ1) := by
  show (t ρ).bind _ = _
  rw [h]
  rfl
theorem v_orT {t t' : Et} (h : t ρ = .ok (true, ρ1)) : tOrF t t' ρ = .ok (true, ρ1) := by
  show (t ρ).bind _ = _
  rw [h]
  rfl
theorem v_orF {t t' : Et} {r : R (Bool × Rho)} (h : t ρ = .ok (false, ρ1)) (g : t' ρ1 = r) : tOrF t t' ρ = r := by
  show (t ρ).bind _ = _
  rw [h]
  exact g
theorem v_tandF {t t' : Et} (h : t ρ = .ok (false, ρ1)) : tAndF t t' ρ = .ok (false, ρ1) := by
  show (t ρ).bind _ = _
  rw [h]
  rfl
theorem v_tandT {t t' : Et} {r : R (Bool × Rho)} (h : t ρ = .ok (true, ρ1)) (g : t' ρ1 = r) : tAndF t t' ρ = r := by
  show (t ρ).bind _ = _
  rw [h]
  exact g
/-! statements -/
theorem v_seq {s s' : Es} {r : R (Fl × Rho)} (h : s ρ = .ok (.nx, ρ1)) (g : s' ρ1 = r) : sSeq s s' ρ = r := by
  show seqK s' (s ρ) = _
  rw [h]
  exact g
theorem v_seqx {s s' : Es} (h : s ρ = .exc x) : sSeq s s' ρ = .exc x := by
  show seqK s' (s ρ) = _
  rw [h]
  rfl
theorem v_seqR {s s' : Es} (h : s ρ = .ok (.rt pv, ρ1)) : sSeq s s' ρ = .ok (.rt pv, ρ1) := by
  show seqK s' (s ρ) = _
  rw [h]
  rfl
theorem v_set {i : Nat} {r : R (Fl × Rho)} (h : f ρ = .ok (pv, ρ1)) (g : setK i (pv, ρ1) = r) : sSet i f ρ = r := by
  show (f ρ).bind _ = _
  rw [h]
  exact g
theorem v_ret {r : R (Fl × Rho)} (h : f ρ = .ok (pv, ρ1)) (g : retK (pv, ρ1) = r) : sRet f ρ = r := by
  show (f ρ).bind _ = _
  rw [h]
  exact g
theorem v_ex (h : f ρ = .ok (pv, ρ1)) : sExpr f ρ = .ok (.nx, ρ1) := by
  show (f ρ).bind _ = _
  rw [h]
  rfl
theorem v_exx (h : f ρ = .exc x) : sExpr f ρ = .exc x := by
  show (f ρ).bind _ = _
  rw [h]
  rfl
theorem v_sifT {t : Et} {a b : Es} {r : R (Fl × Rho)} (h : t ρ = .ok (true, ρ1)) (g : a ρ1 = r) : sIf t a b ρ = r := by
  show (t ρ).bind _ = _
  rw [h]
  exact g
theorem v_sifF {t : Et} {a b : Es} {r : R (Fl × Rho)} (h : t ρ = .ok (false, ρ1)) (g : b ρ1 = r) : sIf t a b ρ = r := by
  show (t ρ).bind _ = _
  rw [h]
  exact g
theorem v_sapp {j : Nat} {r : R (Fl × Rho)} {c : Bool} {xs : List D} (h0 : ρ[j]? = some (.ow c xs)) (h : f ρ = .ok (pv, ρ1)) (g : appK j (useV pv ρ1) = r) : sApp j f ρ = r := by
  unfold sApp
  rw [h0]
  show (f ρ).bind _ = _
  rw [h]
  exact g
theorem v_for {fi : Ei} {t : Tg} {body : Es} {r : R (Fl × Rho)} (h : fi ρ = .ok (ds, ρ1)) (g : forGo t body ds ρ1 = r) : sFor fi t body ρ = r := by
  show (fi ρ).bind _ = _
  rw [h]
  exact g
theorem forGo_nx {t : Tg} {body : Es} {r : R (Fl × Rho)} (h : bindT t d ρ = some ρ1) (h2 : body ρ1 = .ok (.nx, ρ2)) (h3 : forGo t body ds ρ2 = r) : forGo t body (d :: ds) ρ = r := by
  rw [forGo, h]
  simp only []
  rw [h2]
  exact h3
/-- the loop whose body keeps I -/
theorem forGo_inv {t : Tg} {body : Es} (I : Rho → Prop) : ∀ {ds : List D}, (∀ d ρ, d ∈ ds → I ρ → ∃ ρ1 ρ2, bindT t d ρ = some ρ1 ∧ body ρ1 = .ok (.nx, ρ2) ∧ I ρ2) → ∀ {ρ : Rho}, I ρ → ∃ ρ2, forGo t body ds ρ = .ok (.nx, ρ2) ∧ I ρ2
  | [], _, ρ, h => ⟨ρ, rfl, h⟩
  | d :: ds, hs, ρ, h => by
    obtain ⟨ρ1, ρ2, e1, e2, e3⟩ := hs d ρ List.mem_cons_self h
    obtain ⟨ρ3, e4, e5⟩ := forGo_inv I (fun d ρ hd => hs d ρ (List.mem_cons_of_mem _ hd)) e3
    exact ⟨ρ3, forGo_nx e1 e2 e4, e5⟩
/-- the loop over a range, told by its count -/
theorem forGo_rg {t : Tg} {body : Es} (I : Nat → Rho → Prop) : ∀ {n : Nat}, (∀ i ρ, i < n → I i ρ → ∃ ρ1 ρ2, bindT t (.int (i : Int)) ρ = some ρ1 ∧ body ρ1 = .ok (.nx, ρ2) ∧ I (i + 1) ρ2) → ∀ {ρ : Rho}, I 0 ρ → ∃ ρ2, forGo t body ((List.range n).map nI) ρ = .ok (.nx, ρ2) ∧ I n ρ2 := by
  intro n hs ρ h0
  have key : ∀ (m k : Nat), k + m = n → ∀ ρ, I k ρ → ∃ ρ2, forGo t body ((List.range' k m).map nI) ρ = .ok (.nx, ρ2) ∧ I n ρ2 := by
    intro m
    induction m with
    | zero =>
      intro k hk ρ h
      have e : k = n := by omega
      subst e
      exact ⟨ρ, rfl, h⟩
    | succ m ih =>
      intro k hk ρ h
      obtain ⟨ρ1, ρ2, e1, e2, e3⟩ := hs k ρ (by omega) h
      obtain ⟨ρ3, e4, e5⟩ := ih (k + 1) (by omega) ρ2 e3
      refine ⟨ρ3, ?_, e5⟩
      rw [List.range'_succ, List.map_cons]
      exact forGo_nx e1 e2 e4
  rw [List.range_eq_range']
  exact key n 0 (by omega) ρ h0
/-! ints -/
abbrev IL (xs : List Int) : List D := xs.map .int
theorem sum_map {xs : List Int} : gSum (.lst (IL xs)) = some (.fz (.int xs.sum)) := by
  show (intsD (IL xs)).map _ = _
  rw [intsD_map]
  rfl
theorem ix_nat {xs : List Int} {k : Nat} (h : k < xs.length) : gIx (.tup (IL xs)) (.int (k : Int)) = some (.fz (.int (xs.getD k 0))) := by
  have hi : ixN (IL xs).length (k : Int) = some k := by
    unfold ixN
    rw [List.length_map]
    simp [h]
  show ((ixN (IL xs).length (k : Int)).bind fun j => (IL xs)[j]?).map PV.fz = _
  rw [hi]
  simp [List.getD, h]
theorem ix_natL {xs : List Int} {k : Nat} (h : k < xs.length) : gIx (.lst (IL xs)) (.int (k : Int)) = some (.fz (.int (xs.getD k 0))) := by
  rw [← ix_nat h]
  rfl
theorem zip_map (xs ys : List Int) : zipD (IL xs) (IL ys) = (xs.zip ys).map fun q => .tup [.int q.1, .int q.2] := by
  induction xs generalizing ys with
  | nil => rfl
  | cons x xs ih =>
    cases ys with
    | nil => rfl
    | cons y ys =>
      show D.tup [.int x, .int y] :: zipD (IL xs) (IL ys) = _
      rw [ih]
      rfl
end
end Rf
end
section
set_option Elab.async false
set_option maxRecDepth 100000
set_option maxHeartbeats 1000000
namespace WM
/-! powers and primes, no program in sight -/
def geo (a b : Int) : Nat → Int
  | 0 => 0
  | n + 1 => a * geo a b n + b ^ n
theorem geo_mul (a b : Int) : ∀ n : Nat, (a - b) * geo a b n = a ^ n - b ^ n
  | 0 => by simp [geo]
  | n + 1 => by
    have ih := geo_mul a b n
    rw [geo, Int.pow_succ, Int.pow_succ]
    grind
theorem geo_mod (a b : Int) : ∀ n : Nat, (a - b) ∣ geo a b (n + 1) - (n + 1 : Nat) * b ^ n
  | 0 => by simp [geo]
  | n + 1 => by
    obtain ⟨q, ih⟩ := geo_mod a b n
    refine ⟨(n + 1 : Nat) * b ^ n + a * q, ?_⟩
    rw [geo, Int.pow_succ]
    have e : ((n + 1 + 1 : Nat) : Int) = ((n + 1 : Nat) : Int) + 1 := by omega
    rw [e]
    grind
theorem pow_lift {p : Nat} {m a b : Int} (hp : 0 < p) (h : m ∣ a - b) (h2 : (p : Int) ∣ a - b) : (p : Int) * m ∣ a ^ p - b ^ p := by
  obtain ⟨n, rfl⟩ : ∃ n, p = n + 1 := ⟨p - 1, by omega⟩
  have e := geo_mul a b (n + 1)
  have g := geo_mod a b n
  have hT : ((n + 1 : Nat) : Int) ∣ geo a b (n + 1) := by
    have h3 := Int.dvd_trans h2 g
    have h4 : ((n + 1 : Nat) : Int) ∣ ((n + 1 : Nat) : Int) * b ^ n := Int.dvd_mul_right _ _
    have h5 := Int.dvd_add h3 h4
    rw [Int.sub_add_cancel] at h5
    exact h5
  rw [← e, Int.mul_comm (a - b)]
  exact Int.mul_dvd_mul hT h
/-- p divides a^p - a -/
def Fer (p : Nat) : Prop := 2 ≤ p ∧ ∀ a : Int, (p : Int) ∣ a ^ p - a
theorem fer2 : Fer 2 := ⟨by decide, fun a => by
  have h : a = 2 * (a / 2) + 0 ∨ a = 2 * (a / 2) + 1 := by omega
  rcases h with h | h <;> (generalize a / 2 = k at h; subst h)
  · exact ⟨2 * k ^ 2 - k, by grind⟩
  · exact ⟨2 * k ^ 2 + k, by grind⟩⟩
theorem fer3 : Fer 3 := ⟨by decide, fun a => by
  have h : a = 3 * (a / 3) + 0 ∨ a = 3 * (a / 3) + 1 ∨ a = 3 * (a / 3) + 2 := by omega
  rcases h with h | h | h <;> (generalize a / 3 = k at h; subst h)
  · exact ⟨(-1) * k ^ 1 + (9) * k ^ 3, by grind⟩
  · exact ⟨(2) * k ^ 1 + (9) * k ^ 2 + (9) * k ^ 3, by grind⟩
  · exact ⟨(2) * k ^ 0 + (11) * k ^ 1 + (18) * k ^ 2 + (9) * k ^ 3, by grind⟩⟩
theorem fer5 : Fer 5 := ⟨by decide, fun a => by
  have h : a = 5 * (a / 5) + 0 ∨ a = 5 * (a / 5) + 1 ∨ a = 5 * (a / 5) + 2 ∨ a = 5 * (a / 5) + 3 ∨ a = 5 * (a / 5) + 4 := by omega
  rcases h with h | h | h | h | h <;> (generalize a / 5 = k at h; subst h)
  · exact ⟨(-1) * k ^ 1 + (625) * k ^ 5, by grind⟩
  · exact ⟨(4) * k ^ 1 + (50) * k ^ 2 + (250) * k ^ 3 + (625) * k ^ 4 + (625) * k ^ 5, by grind⟩
  · exact ⟨(6) * k ^ 0 + (79) * k ^ 1 + (400) * k ^ 2 + (1000) * k ^ 3 + (1250) * k ^ 4 + (625) * k ^ 5, by grind⟩
  · exact ⟨(48) * k ^ 0 + (404) * k ^ 1 + (1350) * k ^ 2 + (2250) * k ^ 3 + (1875) * k ^ 4 + (625) * k ^ 5, by grind⟩
  · exact ⟨(204) * k ^ 0 + (1279) * k ^ 1 + (3200) * k ^ 2 + (4000) * k ^ 3 + (2500) * k ^ 4 + (625) * k ^ 5, by grind⟩⟩
theorem fer7 : Fer 7 := ⟨by decide, fun a => by
  have h : a = 7 * (a / 7) + 0 ∨ a = 7 * (a / 7) + 1 ∨ a = 7 * (a / 7) + 2 ∨ a = 7 * (a / 7) + 3 ∨ a = 7 * (a / 7) + 4 ∨ a = 7 * (a / 7) + 5 ∨ a = 7 * (a / 7) + 6 := by omega
  rcases h with h | h | h | h | h | h | h <;> (generalize a / 7 = k at h; subst h)
  · exact ⟨(-1) * k ^ 1 + (117649) * k ^ 7, by grind⟩
  · exact ⟨(6) * k ^ 1 + (147) * k ^ 2 + (1715) * k ^ 3 + (12005) * k ^ 4 + (50421) * k ^ 5 + (117649) * k ^ 6 + (117649) * k ^ 7, by grind⟩
  · exact ⟨(18) * k ^ 0 + (447) * k ^ 1 + (4704) * k ^ 2 + (27440) * k ^ 3 + (96040) * k ^ 4 + (201684) * k ^ 5 + (235298) * k ^ 6 + (117649) * k ^ 7, by grind⟩
  · exact ⟨(312) * k ^ 0 + (5102) * k ^ 1 + (35721) * k ^ 2 + (138915) * k ^ 3 + (324135) * k ^ 4 + (453789) * k ^ 5 + (352947) * k ^ 6 + (117649) * k ^ 7, by grind⟩
  · exact ⟨(2340) * k ^ 0 + (28671) * k ^ 1 + (150528) * k ^ 2 + (439040) * k ^ 3 + (768320) * k ^ 4 + (806736) * k ^ 5 + (470596) * k ^ 6 + (117649) * k ^ 7, by grind⟩
  · exact ⟨(11160) * k ^ 0 + (109374) * k ^ 1 + (459375) * k ^ 2 + (1071875) * k ^ 3 + (1500625) * k ^ 4 + (1260525) * k ^ 5 + (588245) * k ^ 6 + (117649) * k ^ 7, by grind⟩
  · exact ⟨(39990) * k ^ 0 + (326591) * k ^ 1 + (1143072) * k ^ 2 + (2222640) * k ^ 3 + (2593080) * k ^ 4 + (1815156) * k ^ 5 + (705894) * k ^ 6 + (117649) * k ^ 7, by grind⟩⟩
theorem pow_fer {p : Nat} (hp : Fer p) (a : Int) : ∀ j : Nat, (p : Int) ^ (j + 1) ∣ a ^ p ^ (j + 1) - a ^ p ^ j
  | 0 => by
    have := hp.2 a
    simp only [Nat.zero_add, Nat.pow_one, Nat.pow_zero, Int.pow_succ, Int.pow_zero, Int.one_mul]
    exact this
  | j + 1 => by
    have ih := pow_fer hp a j
    have h2 : (p : Int) ∣ a ^ p ^ (j + 1) - a ^ p ^ j := Int.dvd_trans ⟨(p : Int) ^ j, by rw [Int.pow_succ, Int.mul_comm]⟩ ih
    have := pow_lift (by have := hp.1; omega) ih h2
    rw [← Int.pow_mul, ← Int.pow_mul, ← Nat.pow_succ, ← Nat.pow_succ] at this
    rw [Int.pow_succ, Int.mul_comm]
    exact this
/-! sums -/
def sm (f : Nat → Int) : Nat → Int
  | 0 => 0
  | n + 1 => sm f n + f n
theorem sm_congr {f g : Nat → Int} : ∀ {n : Nat}, (∀ k, k < n → f k = g k) → sm f n = sm g n
  | 0, _ => rfl
  | n + 1, h => by
    rw [sm, sm, sm_congr (fun k hk => h k (by omega)), h n (by omega)]
theorem sm_dvd {f g : Nat → Int} {m : Int} : ∀ {n : Nat}, (∀ k, k < n → m ∣ f k - g k) → m ∣ sm f n - sm g n
  | 0, _ => by simp [sm]
  | n + 1, h => by
    have a := sm_dvd (n := n) (fun k hk => h k (by omega))
    have b := h n (by omega)
    have := Int.dvd_add a b
    rw [sm, sm]
    have e : sm f n - sm g n + (f n - g n) = sm f n + f n - (sm g n + g n) := by omega
    rw [e] at this
    exact this
/-- the n-th ghost less its last item; the n-th ghost -/
def gS (p : Nat) (x : Nat → Int) (n : Nat) : Int := sm (fun k => (p : Int) ^ k * x k ^ p ^ (n - k)) n
def gG (p : Nat) (x : Nat → Int) (n : Nat) : Int := sm (fun k => (p : Int) ^ k * x k ^ p ^ (n - k)) (n + 1)
theorem gG_eq (p : Nat) (x : Nat → Int) (n : Nat) : gG p x n = gS p x n + (p : Int) ^ n * x n := by
  unfold gG gS
  rw [sm, Nat.sub_self, Nat.pow_zero, Int.pow_succ, Int.pow_zero, Int.one_mul]
theorem gS_mod {p : Nat} (hp : Fer p) (x : Nat → Int) (n : Nat) : (p : Int) ^ (n + 1) ∣ gS p x (n + 1) - gG p x n := by
  unfold gS gG
  refine sm_dvd fun k hk => ?_
  have h := pow_fer hp (x k) (n - k)
  have e1 : n + 1 - k = n - k + 1 := by omega
  have e2 : (p : Int) ^ (n + 1) = (p : Int) ^ k * (p : Int) ^ (n - k + 1) := by
    rw [← Int.pow_add]
    congr 1
    omega
  rw [e1, e2, ← Int.mul_sub]
  exact Int.mul_dvd_mul (Int.dvd_refl _) h
/-- a row of ghosts -/
def Row (p : Nat) (r : Nat → Int) (N : Nat) : Prop := ∀ n, n + 1 < N → (p : Int) ^ (n + 1) ∣ r (n + 1) - r n
theorem row_gG {p : Nat} (hp : Fer p) (x : Nat → Int) (N : Nat) : Row p (gG p x) N := fun n _ => by
  have h := gS_mod hp x n
  rw [gG_eq p x (n + 1)]
  have := Int.dvd_add h (Int.dvd_mul_right ((p : Int) ^ (n + 1)) (x (n + 1)))
  have e : gS p x (n + 1) - gG p x n + (p : Int) ^ (n + 1) * x (n + 1) = gS p x (n + 1) + (p : Int) ^ (n + 1) * x (n + 1) - gG p x n := by omega
  rw [e] at this
  exact this
theorem Row.add {p : Nat} {r s : Nat → Int} {N : Nat} (h : Row p r N) (g : Row p s N) : Row p (fun n => r n + s n) N := fun n hn => by
  have := Int.dvd_add (h n hn) (g n hn)
  have e : r (n + 1) - r n + (s (n + 1) - s n) = r (n + 1) + s (n + 1) - (r n + s n) := by omega
  rw [e] at this
  exact this
theorem Row.neg {p : Nat} {r : Nat → Int} {N : Nat} (h : Row p r N) : Row p (fun n => - r n) N := fun n hn => by
  have := Int.dvd_neg.mpr (h n hn)
  have e : -(r (n + 1) - r n) = - r (n + 1) - - r n := by omega
  rw [e] at this
  exact this
theorem Row.mul {p : Nat} {r s : Nat → Int} {N : Nat} (h : Row p r N) (g : Row p s N) : Row p (fun n => r n * s n) N := fun n hn => by
  have a := Int.dvd_trans (h n hn) (Int.dvd_mul_right _ (s (n + 1)))
  have b := Int.dvd_trans (g n hn) (Int.dvd_mul_left (r n) _)
  have := Int.dvd_add a b
  have e : (r (n + 1) - r n) * s (n + 1) + r n * (s (n + 1) - s n) = r (n + 1) * s (n + 1) - r n * s n := by grind
  rw [e] at this
  exact this
theorem Row.const {p : Nat} {N : Nat} (c : Int) : Row p (fun _ => c) N := fun n _ => by
  rw [Int.sub_self]
  exact Int.dvd_zero _
theorem Row.tail {p : Nat} {r : Nat → Int} {N : Nat} (h : Row p r (N + 1)) : Row p (fun n => r (n + 1)) N := fun n hn =>
  Int.dvd_trans ⟨(p : Int), by rw [← Int.pow_succ]⟩ (h (n + 1) (by omega))
theorem Row.congr {p : Nat} {r s : Nat → Int} {N : Nat} (h : Row p r N) (e : ∀ n, n < N → r n = s n) : Row p s N := fun n hn => by
  rw [← e n (by omega), ← e (n + 1) hn]
  exact h n hn
/-- the vector of a row -/
theorem of_row {p : Nat} (hp : Fer p) {r f : Nat → Int} {N : Nat} (h : Row p r N) (hf : ∀ n, n < N → f n = (r n - gS p f n) / (p : Int) ^ n) : ∀ n, n < N → gG p f n = r n := by
  intro n
  induction n with
  | zero =>
    intro hn
    have h0 := hf 0 hn
    rw [gG_eq]
    simp only [gS, sm, Int.pow_zero, Int.sub_zero, Int.ediv_one] at h0 ⊢
    omega
  | succ n ih =>
    intro hn
    have e0 := ih (by omega)
    have h1 := h n hn
    have h2 := gS_mod hp f n
    have h3 := Int.dvd_sub h1 h2
    have e : r (n + 1) - r n - (gS p f (n + 1) - gG p f n) = r (n + 1) - gS p f (n + 1) := by omega
    rw [e] at h3
    rw [gG_eq, hf (n + 1) hn, Int.mul_ediv_cancel' h3]
    omega
/-- ghosts tell the vector -/
theorem gG_inj {p : Nat} (hp : 0 < p) {x y : Nat → Int} {N : Nat} (h : ∀ n, n < N → gG p x n = gG p y n) : ∀ n, n < N → x n = y n := by
  intro n
  induction n using Nat.strongRecOn with
  | ind n ih =>
    intro hn
    have e := h n hn
    rw [gG_eq, gG_eq] at e
    have e2 : gS p x n = gS p y n := by
      unfold gS
      exact sm_congr fun k hk => by rw [ih k hk (by omega)]
    rw [e2] at e
    have e3 : (p : Int) ^ n * x n = (p : Int) ^ n * y n := by omega
    refine Int.eq_of_mul_eq_mul_left ?_ e3
    exact Int.ne_of_gt (Int.pow_pos (by omega))
end WM
end
section
set_option Elab.async false
set_option maxRecDepth 100000
set_option maxHeartbeats 1000000
namespace WM
theorem pdvd (p : Nat) {i j : Nat} (h : i ≤ j) : (p : Int) ^ i ∣ (p : Int) ^ j := ⟨(p : Int) ^ (j - i), by rw [← Int.pow_add]; congr 1; omega⟩
theorem fer_tel {p : Nat} (hp : Fer p) (a : Int) (j : Nat) : ∀ d : Nat, (p : Int) ^ (j + 1) ∣ a ^ p ^ (j + d) - a ^ p ^ j
  | 0 => by simp
  | d + 1 => by
    have h1 := fer_tel hp a j d
    have h2 := Int.dvd_trans (pdvd p (by omega : j + 1 ≤ j + d + 1)) (pow_fer hp a (j + d))
    have h3 := Int.dvd_add h2 h1
    have e : a ^ p ^ (j + d + 1) - a ^ p ^ (j + d) + (a ^ p ^ (j + d) - a ^ p ^ j) = a ^ p ^ (j + (d + 1)) - a ^ p ^ j := by
      rw [← Nat.add_assoc]; omega
    rw [e] at h3
    exact h3
theorem fer_p {p : Nat} (hp : Fer p) (a : Int) (n : Nat) : (p : Int) ∣ a ^ p ^ n - a := by
  have h := fer_tel hp a 0 n
  simp only [Nat.zero_add, Int.pow_one, Nat.pow_zero] at h
  have e : (p : Int) ^ 1 = p := by simp [Int.pow_one]
  first | exact h | (rw [e] at h; exact h)
theorem lift_pow {p : Nat} (hp : 0 < p) {a b : Int} (h : (p : Int) ∣ a - b) : ∀ j : Nat, (p : Int) ^ (j + 1) ∣ a ^ p ^ j - b ^ p ^ j
  | 0 => by
    have e : (p : Int) ^ (0 + 1) = p := by simp [Int.pow_one]
    rw [e]
    simpa [Int.pow_one] using h
  | j + 1 => by
    have ih := lift_pow hp h j
    have hp1 : (p : Int) ∣ a ^ p ^ j - b ^ p ^ j := Int.dvd_trans ⟨(p : Int) ^ j, by rw [Int.pow_succ, Int.mul_comm]⟩ ih
    have g := pow_lift hp ih hp1
    have e1 : (p : Int) * (p : Int) ^ (j + 1) = (p : Int) ^ (j + 1 + 1) := by rw [Int.pow_succ (p : Int) (j + 1), Int.mul_comm]
    have e2 : ∀ c : Int, (c ^ p ^ j) ^ p = c ^ p ^ (j + 1) := fun c => by rw [← Int.pow_mul, ← Nat.pow_succ]
    rw [e1, e2, e2] at g
    exact g
theorem term_dvd {p k n : Nat} {a b : Int} (hk : k ≤ n) (h : (p : Int) ^ (n - k + 1) ∣ a - b) : (p : Int) ^ (n + 1) ∣ (p : Int) ^ k * a - (p : Int) ^ k * b := by
  rw [← Int.mul_sub]
  have e : (p : Int) ^ (n + 1) = (p : Int) ^ k * (p : Int) ^ (n - k + 1) := by rw [← Int.pow_add]; congr 1; omega
  rw [e]
  exact Int.mul_dvd_mul_left _ h
theorem gG_mod {p : Nat} (hp : 0 < p) {x y : Nat → Int} {n : Nat} (h : ∀ k, k ≤ n → (p : Int) ∣ x k - y k) : (p : Int) ^ (n + 1) ∣ gG p x n - gG p y n :=
  sm_dvd fun k hk => term_dvd (by omega) (lift_pow hp (h k (by omega)) (n - k))
/-- by the powers of the rests -/
def tS (p e : Nat) (x : Nat → Int) (n : Nat) : Int := sm (fun k => (p : Int) ^ k * x k ^ p ^ e) n
theorem tS_gG {p : Nat} (hp : Fer p) (x : Nat → Int) (n : Nat) : (p : Int) ^ (n + 1) ∣ tS p n x (n + 1) - gG p x n :=
  sm_dvd fun k hk => term_dvd (by omega) (by
    have := fer_tel hp (x k) (n - k) k
    have e : n - k + k = n := by omega
    rw [e] at this
    exact this)
theorem sm_shift' (f : Nat → Int) : ∀ n, sm f (n + 1) = f 0 + sm (fun k => f (k + 1)) n
  | 0 => by simp [sm]
  | n + 1 => by
    rw [sm, sm_shift' f n, sm]
    omega
theorem sm_mul' (c : Int) (f : Nat → Int) : ∀ n, sm (fun k => c * f k) n = c * sm f n
  | 0 => by simp [sm]
  | n + 1 => by rw [sm, sm_mul' c f n, sm, Int.mul_add]
theorem pS_shift (p : Nat) (u : Nat → Int) (n : Nat) : sm (fun k => (p : Int) ^ k * u k) (n + 1) = u 0 + (p : Int) * sm (fun k => (p : Int) ^ k * u (k + 1)) n := by
  rw [sm_shift', ← sm_mul']
  have e : sm (fun k => (p : Int) ^ (k + 1) * u (k + 1)) n = sm (fun k => (p : Int) * ((p : Int) ^ k * u (k + 1))) n := sm_congr fun k _ => by
    rw [Int.pow_succ]; grind
  rw [e]
  simp
theorem uniq {p : Nat} (hp : 0 < p) : ∀ {n : Nat} {u v : Nat → Int}, (p : Int) ^ n ∣ sm (fun k => (p : Int) ^ k * u k) n - sm (fun k => (p : Int) ^ k * v k) n → (∀ k, k < n → (p : Int) ∣ u k - v k → u k = v k) → ∀ k, k < n → u k = v k
  | 0, _, _, _, _ => fun k hk => absurd hk (by omega)
  | n + 1, u, v, h, g => by
    rw [pS_shift, pS_shift] at h
    obtain ⟨q, hq⟩ := h
    have e0 : u 0 = v 0 := g 0 (by omega) ⟨(p : Int) ^ n * q - sm (fun k => (p : Int) ^ k * u (k + 1)) n + sm (fun k => (p : Int) ^ k * v (k + 1)) n, by
      rw [Int.pow_succ] at hq
      grind⟩
    have hp' : (p : Int) ≠ 0 := by omega
    have e1 : sm (fun k => (p : Int) ^ k * u (k + 1)) n - sm (fun k => (p : Int) ^ k * v (k + 1)) n = (p : Int) ^ n * q := by
      apply Int.eq_of_mul_eq_mul_left hp'
      rw [Int.pow_succ, e0] at hq
      grind
    have ih := uniq hp (n := n) (u := fun k => u (k + 1)) (v := fun k => v (k + 1)) ⟨q, e1⟩ (fun k hk => g (k + 1) (by omega))
    intro k hk
    cases k with
    | zero => exact e0
    | succ k => exact ih k (by omega)
/-- two rows of rests with the same number are the same -/
theorem tS_inj {p : Nat} (hp : Fer p) {e n : Nat} {x y : Nat → Int} (hx : ∀ k, k < n → 0 ≤ x k ∧ x k < p) (hy : ∀ k, k < n → 0 ≤ y k ∧ y k < p) (h : (p : Int) ^ n ∣ tS p e x n - tS p e y n) : ∀ k, k < n → x k = y k := by
  have hp0 : 0 < p := by have := hp.1; omega
  have key : ∀ k, k < n → (p : Int) ∣ x k ^ p ^ e - y k ^ p ^ e → x k = y k := fun k hk hd => by
    have h1 := fer_p hp (x k) e
    have h2 := fer_p hp (y k) e
    have h3 : (p : Int) ∣ x k - y k := by
      obtain ⟨a, ha⟩ := h1
      obtain ⟨b, hb⟩ := h2
      obtain ⟨c, hc⟩ := hd
      exact ⟨c - a + b, by grind⟩
    have a1 := hx k hk
    have a2 := hy k hk
    obtain ⟨q, hq⟩ := h3
    have : q = 0 := by
      rcases Int.lt_trichotomy q 0 with h | h | h
      · have : (p : Int) * q ≤ (p : Int) * (-1) := Int.mul_le_mul_of_nonneg_left (by omega) (by omega)
        omega
      · exact h
      · have : (p : Int) * 1 ≤ (p : Int) * q := Int.mul_le_mul_of_nonneg_left (by omega) (by omega)
        omega
    rw [this] at hq
    omega
  have u := uniq hp0 (n := n) (u := fun k => x k ^ p ^ e) (v := fun k => y k ^ p ^ e) h (fun k hk hd => by rw [key k hk hd])
  intro k hk
  exact key k hk (by have h9 : x k ^ p ^ e = y k ^ p ^ e := u k hk; rw [h9]; simp)
/-- the numbers that the digits leave -/
def cj (p e : Nat) (m c : Int) : Nat → Int
  | 0 => c
  | j + 1 => ((cj p e m c j - (cj p e m c j % p) ^ p ^ e % m) / p) % m
theorem cj_sum {p : Nat} (hp : Fer p) (e n : Nat) (c : Int) : ∀ j, j ≤ n → (p : Int) ^ n ∣ sm (fun k => (p : Int) ^ k * (cj p e ((p : Int) ^ n) c k % p) ^ p ^ e) j + (p : Int) ^ j * cj p e ((p : Int) ^ n) c j - c
  | 0, _ => by simp [sm, cj]
  | j + 1, h => by
    have ih := cj_sum hp e n c j (by omega)
    have hp0 : 0 < p := by have := hp.1; omega
    generalize hd : cj p e ((p : Int) ^ n) c j = d at ih
    have hs : cj p e ((p : Int) ^ n) c (j + 1) = ((d - (d % p) ^ p ^ e % (p : Int) ^ n) / p) % (p : Int) ^ n := by rw [cj, hd]
    rw [sm, hs]
    simp only [hd]
    have f1 := fer_p hp (d % p) e
    -- p divides d - t
    generalize ht : (d % (p : Int)) ^ p ^ e = t at f1 ⊢
    have n1 : (p : Int) ∣ (p : Int) ^ n := ⟨(p : Int) ^ (n - 1), by rw [← Int.pow_succ']; congr 1; omega⟩
    have d1 : (p : Int) ∣ d - t % (p : Int) ^ n := by
      obtain ⟨a, ha⟩ := f1
      obtain ⟨b, hb⟩ := n1
      have h1 := Int.emod_add_mul_ediv d p
      have h2 := Int.emod_add_mul_ediv t ((p : Int) ^ n)
      refine ⟨d / p - a + b * (t / (p : Int) ^ n), ?_⟩
      rw [hb] at h2 ⊢
      grind
    obtain ⟨q, hq⟩ := d1
    have e1 : (d - t % (p : Int) ^ n) / p = q := by rw [hq]; exact Int.mul_ediv_cancel_left _ (by omega)
    rw [e1]
    obtain ⟨z, hz⟩ := ih
    have h2 := Int.emod_add_mul_ediv t ((p : Int) ^ n)
    have h3 := Int.emod_add_mul_ediv q ((p : Int) ^ n)
    refine ⟨z + (p : Int) ^ j * (t / (p : Int) ^ n) - (p : Int) ^ (j + 1) * (q / (p : Int) ^ n), ?_⟩
    rw [Int.pow_succ]
    grind
end WM
end
section
set_option Elab.async false
set_option linter.all false
set_option maxRecDepth 100000
set_option maxHeartbeats 0
/-! ### the text -/
namespace L50
open PySem PySem.Spec PyProof.Rows L2 Rf
def topS (i : Nat) : Stmt := PySem.Challenge.pw_localroads_k50_whole_vectors_of_rests.main.body.getD i (.Pass ⟨0, 0, 0, 0⟩)
abbrev s_is_integer : Stmt := topS 5
abbrev s_is_count : Stmt := topS 6
abbrev s_check_count : Stmt := topS 7
abbrev s_is_whole_row : Stmt := topS 8
abbrev s_power : Stmt := topS 9
abbrev s_power_mod : Stmt := topS 10
abbrev s_is_prime : Stmt := topS 11
abbrev s_check_prime : Stmt := topS 12
abbrev s_check_place : Stmt := topS 15
abbrev s_check_length : Stmt := topS 19
abbrev s_is_vector : Stmt := topS 20
abbrev s_check_vector : Stmt := topS 21
abbrev s_check_two : Stmt := topS 22
abbrev s_ghosts_of : Stmt := topS 23
abbrev s_vector_of : Stmt := topS 24
abbrev s_vector_plus : Stmt := topS 25
abbrev s_vector_times : Stmt := topS 26
abbrev s_rests_of : Stmt := topS 27
abbrev s_rest_plus : Stmt := topS 28
abbrev s_rest_times : Stmt := topS 29
abbrev s_check_rests : Stmt := topS 30
abbrev s_number_of : Stmt := topS 31
abbrev s_rests_number : Stmt := topS 32
abbrev s__law_state : Stmt := topS 34
abbrev s__law_take : Stmt := topS 35
abbrev s__law_same : Stmt := topS 36
abbrev s__law_told : Stmt := topS 37
abbrev s__law_is_told : Stmt := topS 38
abbrev s__law_is_raised : Stmt := topS 39
abbrev s__law_tells : Stmt := topS 40
abbrev s__law_raises : Stmt := topS 41
abbrev s__law_plain : Stmt := topS 42
abbrev s__law_value : Stmt := topS 43
abbrev s__law_bads : Stmt := topS 44
abbrev s__law_raised : Stmt := topS 45
abbrev s__law_words : Stmt := topS 46
abbrev s__law_prime : Stmt := topS 47
abbrev s__law_number : Stmt := topS 48
abbrev s_law : Stmt := topS 49
abbrev s_init : Stmt := classSt (topS 3) 0
/-! ### the mirror -/
def B_is_integer : Es := sRet (eAndV (eU (gIsi .int) (eVar 0)) (eU gNot (eU (gIsi .bool) (eVar 0))))
def F_is_integer : Fn := Rf.fnOf 1 B_is_integer
def B_power : Es := sSeq (sSet 2 (eC (.int 1)))
  (sSeq (sWhile 1000000 (tOf (eOp gGt (eVar 1) (eC (.int 0)))) (sSeq (sIf (tOf (eOp gEq (eOp gMod (eVar 1) (eC (.int 2))) (eC (.int 1)))) (sSet 2 (eOp gMul2 (eVar 2) (eVar 0))) (sNil))
  (sPar 0 1 (eOp gMul2 (eVar 0) (eVar 0)) (eOp gDiv (eVar 1) (eC (.int 2))))))
  (sRet (eVar 2)))
def F_power : Fn := Rf.fnOf 3 B_power
def B_power_mod : Es := sSeq (sPar 3 0 (eOp gMod (eC (.int 1)) (eVar 2)) (eOp gMod (eVar 0) (eVar 2)))
  (sSeq (sWhile 1000000 (tOf (eOp gGt (eVar 1) (eC (.int 0)))) (sSeq (sIf (tOf (eOp gEq (eOp gMod (eVar 1) (eC (.int 2))) (eC (.int 1)))) (sSet 3 (eOp gMod (eOp gMul2 (eVar 3) (eVar 0)) (eVar 2))) (sNil))
  (sPar 0 1 (eOp gMod (eOp gMul2 (eVar 0) (eVar 0)) (eVar 2)) (eOp gDiv (eVar 1) (eC (.int 2))))))
  (sRet (eVar 3)))
def F_power_mod : Fn := Rf.fnOf 4 B_power_mod
def B__law_state : Es := sSeq (sSet 1 (eC (.int 0)))
  (sSeq (sSet 2 (eC (.int 1)))
  (sSeq (sFor (iSeq (eSl (eVar 0) (oNone) (oSome (eC (.int 63))))) (.nm 3) (sSeq (sSet 1 (eOp gAdd (eOp gMul2 (eVar 1) (eC (.int 1000003))) (eU gAbs (eVar 3))))
  (sSet 2 (eOp gMod (eU gInt (eOp gAdd (eOp gMul2 (eVar 2) (eC (.int 48271))) (eVar 3))) (eC (.int 2147483647))))))
  (sRet (eLst (aCons (eVar 1) (aCons (eIfF (tOf (eOp gNe (eVar 2) (eC (.int 1973665155)))) (eVar 2) (eC (.int 7))) (aNil)))))))
def F__law_state : Fn := Rf.fnOf 4 B__law_state
def B__law_take : Es := sSeq (sIf (tOf (eOp gGt (eOp gIx (eVar 0) (eC (.int 0))) (eC (.int 0)))) (sSeq (sSet 2 (eOp gMod (eU gInt (eOp gIx (eVar 0) (eC (.int 0)))) (eVar 1)))
  (sSeq (sSto 0 (eC (.int 0)) (eOp gDiv (eOp gIx (eVar 0) (eC (.int 0))) (eVar 1)))
  (sRet (eVar 2)))) (sNil))
  (sSeq (sSto 0 (eC (.int 1)) (eOp gMod (eU gInt (eOp gAdd (eOp gMul2 (eOp gIx (eVar 0) (eC (.int 1))) (eC (.int 48271))) (eC (.int 11)))) (eC (.int 2147483647))))
  (sRet (eOp gMod (eU gInt (eOp gDiv (eOp gIx (eVar 0) (eC (.int 1))) (eC (.int 7)))) (eVar 1))))
def F__law_take : FnB := fnBOf 3 B__law_take
def B__law_plain : Es := sRet (eAndV (eU (gIsi .int) (eVar 0)) (eU gNot (eU (gIsi .bool) (eVar 0))))
def F__law_plain : Fn := Rf.fnOf 1 B__law_plain
def B__law_raised : Es := sSeq (sSet 2 (eC (.int 1)))
  (sSeq (sFor (iRg1 (aCons (eVar 1) (aNil))) (.nm 3) (sSet 2 (eOp gMul2 (eVar 2) (eVar 0))))
  (sRet (eVar 2)))
def F__law_raised : Fn := Rf.fnOf 4 B__law_raised
def B__law_words : Es := sSeq (sSet 1 (eLst (aCons (eTup (aNil)) (aNil))))
  (sSeq (sFor (iSeq (eVar 0)) (.nm 2) (sSeq (sSet 3 (eLst (aNil)))
  (sSeq (sFor (iSeq (eVar 1)) (.nm 4) (sSet 3 (eOp gAdd (eVar 3) (eLc [5] (iRg1 (aCons (eVar 2) (aNil))) (.nm 5) (tYesF) (eOp gAdd (eVar 4) (eTup (aCons (eVar 5) (aNil))))))))
  (sSet 1 (eU gLst (eVar 3))))))
  (sRet (eVar 1)))
def F__law_words : Fn := Rf.fnOf 6 B__law_words
def B_is_count : Es := sRet (eAndV (eCall 1 F_is_integer [] (aCons (eVar 0) (aNil))) (eChain gLe gLe (eVar 1) (eVar 0) (eVar 2)))
def F_is_count : Fn := Rf.fnOf 3 B_is_count
def B_is_whole_row : Es := sRet (eAndV (eU (gIsi .tuple) (eVar 0)) (eU gAll (eLc [1] (iSeq (eVar 0)) (.nm 1) (tYesF) (eCall 1 F_is_integer [] (aCons (eVar 1) (aNil))))))
def F_is_whole_row : Fn := Rf.fnOf 2 B_is_whole_row
def B_is_prime : Es := sSeq (sIf (tOrF (tNotF (tOf (eCall 1 F_is_integer [] (aCons (eVar 0) (aNil))))) (tOf (eOp gLt (eVar 0) (eC (.int 2))))) (sRet (eC (.bl false))) (sNil))
  (sSeq (sSet 1 (eC (.int 2)))
  (sSeq (sWhile 1000000 (tOf (eOp gLe (eOp gMul2 (eVar 1) (eVar 1)) (eVar 0))) (sSeq (sIf (tOf (eOp gEq (eOp gMod (eVar 0) (eVar 1)) (eC (.int 0)))) (sRet (eC (.bl false))) (sNil))
  (sSet 1 (eOp gAdd (eVar 1) (eC (.int 1))))))
  (sRet (eC (.bl true)))))
def F_is_prime : Fn := Rf.fnOf 2 B_is_prime
def B_ghosts_of : Es := sSeq (sSet 2 (eLst (aNil)))
  (sSeq (sFor (iRg1 (aCons (eU gLen (eVar 0)) (aNil))) (.nm 3) (sApp 2 (eU gSum (eLc [4] (iRg1 (aCons (eOp gAdd (eVar 3) (eC (.int 1))) (aNil))) (.nm 4) (tYesF) (eOp gMul2 (eCall 2 F_power [] (aCons (eVar 1) (aCons (eVar 4) (aNil)))) (eCall 2 F_power [] (aCons (eOp gIx (eVar 0) (eVar 4)) (aCons (eCall 2 F_power [] (aCons (eVar 1) (aCons (eOp Rf.gSub (eVar 3) (eVar 4)) (aNil)))) (aNil)))))))))
  (sRet (eU gTup (eVar 2))))
def F_ghosts_of : Fn := Rf.fnOf 5 B_ghosts_of
def B_vector_of : Es := sSeq (sSet 2 (eLst (aNil)))
  (sSeq (sFor (iRg1 (aCons (eU gLen (eVar 0)) (aNil))) (.nm 3) (sSeq (sSet 4 (eOp Rf.gSub (eOp gIx (eVar 0) (eVar 3)) (eU gSum (eLc [5] (iRg1 (aCons (eVar 3) (aNil))) (.nm 5) (tYesF) (eOp gMul2 (eCall 2 F_power [] (aCons (eVar 1) (aCons (eVar 5) (aNil)))) (eCall 2 F_power [] (aCons (eOp gIx (eVar 2) (eVar 5)) (aCons (eCall 2 F_power [] (aCons (eVar 1) (aCons (eOp Rf.gSub (eVar 3) (eVar 5)) (aNil)))) (aNil)))))))))
  (sApp 2 (eOp gDiv (eVar 4) (eCall 2 F_power [] (aCons (eVar 1) (aCons (eVar 3) (aNil))))))))
  (sRet (eU gTup (eVar 2))))
def F_vector_of : Fn := Rf.fnOf 6 B_vector_of
def B__law_prime : Es := sSeq (sSet 2 (eLc [3] (iSeq (eTup (aCons (eC (.int 2)) (aCons (eC (.int 3)) (aCons (eC (.int 5)) (aCons (eC (.int 7)) (aCons (eC (.int 11)) (aCons (eC (.int 13)) (aNil))))))))) (.nm 3) (tOf (eOp gLe (eVar 3) (eVar 1))) (eVar 3)))
  (sRet (eOp gIx (eVar 2) (eCallB 0 2 F__law_take (aCons (eU gLen (eVar 2)) (aNil)))))
def F__law_prime : FnB := fnBOf 4 B__law_prime
def B__law_number : Es := sSeq (sSet 2 (eU gLen (eVar 0)))
  (sRet (eOp gMod (eU gInt (eU gSum (eLc [3] (iRg1 (aCons (eVar 2) (aNil))) (.nm 3) (tYesF) (eOp gMul2 (eCall 2 F__law_raised [] (aCons (eVar 1) (aCons (eVar 3) (aNil)))) (eCall 2 F__law_raised [] (aCons (eOp gIx (eVar 0) (eVar 3)) (aCons (eCall 2 F__law_raised [] (aCons (eVar 1) (aCons (eOp Rf.gSub (eVar 2) (eC (.int 1))) (aNil)))) (aNil)))))))) (eCall 2 F__law_raised [] (aCons (eVar 1) (aCons (eVar 2) (aNil))))))
def F__law_number : Fn := Rf.fnOf 4 B__law_number
def B_check_count : Es := sIf (tNotF (tOf (eCall 3 F_is_count [] (aCons (eVar 0) (aCons (eVar 1) (aCons (eVar 2) (aNil))))))) (sMal) (sNil)
def F_check_count : Fn := Rf.fnOf 3 B_check_count
def B_check_prime : Es := sIf (tOrF (tNotF (tOf (eCall 3 F_is_count [] (aCons (eVar 0) (aCons (eC (.int 2)) (aCons (eVar 1) (aNil))))))) (tNotF (tOf (eCall 1 F_is_prime [] (aCons (eVar 0) (aNil)))))) (sMal) (sNil)
def F_check_prime : Fn := Rf.fnOf 2 B_check_prime
def B_is_vector : Es := sSeq (sIf (tOrF (tNotF (tOf (eCall 1 F_is_whole_row [] (aCons (eVar 0) (aNil))))) (tNotF (tOf (eChain gLe gLe (eC (.int 1)) (eU gLen (eVar 0)) (eIfF (tOf (eOp gLt (eVar 1) (eC (.int 5)))) (eC (.int 6)) (eC (.int 4))))))) (sRet (eC (.bl false))) (sNil))
  (sRet (eU gAll (eLc [2] (iSeq (eVar 0)) (.nm 2) (tYesF) (eOp gLe (eU gAbs (eVar 2)) (eC (.int 1000000000000000000000000000000000000000000000000000000000000))))))
def F_is_vector : Fn := Rf.fnOf 3 B_is_vector
def B_check_place : Es := sExpr (eCall 2 F_check_prime [] (aCons (eVar 0) (aCons (eC (.int 997)) (aNil))))
def F_check_place : Fn := Rf.fnOf 1 B_check_place
def B_check_length : Es := sSeq (sExpr (eCall 1 F_check_place [] (aCons (eVar 0) (aNil))))
  (sSeq (sIf (tOf (eOp gGt (eVar 0) (eC (.int 13)))) (sMal) (sNil))
  (sExpr (eCall 3 F_check_count [] (aCons (eVar 1) (aCons (eC (.int 1)) (aCons (eC (.int 6)) (aNil)))))))
def F_check_length : Fn := Rf.fnOf 2 B_check_length
def F__law_same_0 : Fn := fun _ => .no
def B__law_same_1 : Es := sSeq (sIf (tOf (eU (gIsi .list) (eVar 1))) (sRet (eAndV (eU (gIsi .list) (eVar 0)) (eCall 2 F__law_same_0 [] (aCons (eU gTup (eVar 0)) (aCons (eU gTup (eVar 1)) (aNil)))))) (sNil))
  (sSeq (sIf (tOf (eU (gIsi .tuple) (eVar 1))) (sRet (eAndV (eU (gIsi .tuple) (eVar 0)) (eAndV (eOp gEq (eU gLen (eVar 0)) (eU gLen (eVar 1))) (eU gAll (eLc [2] (iRg1 (aCons (eU gLen (eVar 1)) (aNil))) (.nm 2) (tYesF) (eCall 2 F__law_same_0 [] (aCons (eOp gIx (eVar 0) (eVar 2)) (aCons (eOp gIx (eVar 1) (eVar 2)) (aNil))))))))) (sNil))
  (sSeq (sIf (tOf (eOp gIsN (eVar 1) (eC .non))) (sRet (eOp gIsN (eVar 0) (eC .non))) (sNil))
  (sSeq (sIf (tOf (eU (gIsi .bool) (eVar 1))) (sRet (eAndV (eU (gIsi .bool) (eVar 0)) (eOp gEq (eVar 0) (eVar 1)))) (sNil))
  (sSeq (sIf (tOf (eU (gIsi .str) (eVar 1))) (sRet (eAndV (eU (gIsi .str) (eVar 0)) (eOp gEq (eVar 0) (eVar 1)))) (sNil))
  (sSeq (sIf (tOf (eU (gIsi .int) (eVar 1))) (sRet (eAndV (eU (gIsi .int) (eVar 0)) (eAndV (eU gNot (eU (gIsi .bool) (eVar 0))) (eOp gEq (eVar 0) (eVar 1))))) (sNil))
  (sRet (eAndV (eU gNot (eU (gIsi .int) (eVar 0))) (eOp gEq (eVar 0) (eVar 1)))))))))
def F__law_same_1 : Fn := Rf.fnOf 3 B__law_same_1
def B__law_same_2 : Es := sSeq (sIf (tOf (eU (gIsi .list) (eVar 1))) (sRet (eAndV (eU (gIsi .list) (eVar 0)) (eCall 2 F__law_same_1 [] (aCons (eU gTup (eVar 0)) (aCons (eU gTup (eVar 1)) (aNil)))))) (sNil))
  (sSeq (sIf (tOf (eU (gIsi .tuple) (eVar 1))) (sRet (eAndV (eU (gIsi .tuple) (eVar 0)) (eAndV (eOp gEq (eU gLen (eVar 0)) (eU gLen (eVar 1))) (eU gAll (eLc [2] (iRg1 (aCons (eU gLen (eVar 1)) (aNil))) (.nm 2) (tYesF) (eCall 2 F__law_same_1 [] (aCons (eOp gIx (eVar 0) (eVar 2)) (aCons (eOp gIx (eVar 1) (eVar 2)) (aNil))))))))) (sNil))
  (sSeq (sIf (tOf (eOp gIsN (eVar 1) (eC .non))) (sRet (eOp gIsN (eVar 0) (eC .non))) (sNil))
  (sSeq (sIf (tOf (eU (gIsi .bool) (eVar 1))) (sRet (eAndV (eU (gIsi .bool) (eVar 0)) (eOp gEq (eVar 0) (eVar 1)))) (sNil))
  (sSeq (sIf (tOf (eU (gIsi .str) (eVar 1))) (sRet (eAndV (eU (gIsi .str) (eVar 0)) (eOp gEq (eVar 0) (eVar 1)))) (sNil))
  (sSeq (sIf (tOf (eU (gIsi .int) (eVar 1))) (sRet (eAndV (eU (gIsi .int) (eVar 0)) (eAndV (eU gNot (eU (gIsi .bool) (eVar 0))) (eOp gEq (eVar 0) (eVar 1))))) (sNil))
  (sRet (eAndV (eU gNot (eU (gIsi .int) (eVar 0))) (eOp gEq (eVar 0) (eVar 1)))))))))
def F__law_same_2 : Fn := Rf.fnOf 3 B__law_same_2
def B__law_same_3 : Es := sSeq (sIf (tOf (eU (gIsi .list) (eVar 1))) (sRet (eAndV (eU (gIsi .list) (eVar 0)) (eCall 2 F__law_same_2 [] (aCons (eU gTup (eVar 0)) (aCons (eU gTup (eVar 1)) (aNil)))))) (sNil))
  (sSeq (sIf (tOf (eU (gIsi .tuple) (eVar 1))) (sRet (eAndV (eU (gIsi .tuple) (eVar 0)) (eAndV (eOp gEq (eU gLen (eVar 0)) (eU gLen (eVar 1))) (eU gAll (eLc [2] (iRg1 (aCons (eU gLen (eVar 1)) (aNil))) (.nm 2) (tYesF) (eCall 2 F__law_same_2 [] (aCons (eOp gIx (eVar 0) (eVar 2)) (aCons (eOp gIx (eVar 1) (eVar 2)) (aNil))))))))) (sNil))
  (sSeq (sIf (tOf (eOp gIsN (eVar 1) (eC .non))) (sRet (eOp gIsN (eVar 0) (eC .non))) (sNil))
  (sSeq (sIf (tOf (eU (gIsi .bool) (eVar 1))) (sRet (eAndV (eU (gIsi .bool) (eVar 0)) (eOp gEq (eVar 0) (eVar 1)))) (sNil))
  (sSeq (sIf (tOf (eU (gIsi .str) (eVar 1))) (sRet (eAndV (eU (gIsi .str) (eVar 0)) (eOp gEq (eVar 0) (eVar 1)))) (sNil))
  (sSeq (sIf (tOf (eU (gIsi .int) (eVar 1))) (sRet (eAndV (eU (gIsi .int) (eVar 0)) (eAndV (eU gNot (eU (gIsi .bool) (eVar 0))) (eOp gEq (eVar 0) (eVar 1))))) (sNil))
  (sRet (eAndV (eU gNot (eU (gIsi .int) (eVar 0))) (eOp gEq (eVar 0) (eVar 1)))))))))
def F__law_same_3 : Fn := Rf.fnOf 3 B__law_same_3
def B__law_same_4 : Es := sSeq (sIf (tOf (eU (gIsi .list) (eVar 1))) (sRet (eAndV (eU (gIsi .list) (eVar 0)) (eCall 2 F__law_same_3 [] (aCons (eU gTup (eVar 0)) (aCons (eU gTup (eVar 1)) (aNil)))))) (sNil))
  (sSeq (sIf (tOf (eU (gIsi .tuple) (eVar 1))) (sRet (eAndV (eU (gIsi .tuple) (eVar 0)) (eAndV (eOp gEq (eU gLen (eVar 0)) (eU gLen (eVar 1))) (eU gAll (eLc [2] (iRg1 (aCons (eU gLen (eVar 1)) (aNil))) (.nm 2) (tYesF) (eCall 2 F__law_same_3 [] (aCons (eOp gIx (eVar 0) (eVar 2)) (aCons (eOp gIx (eVar 1) (eVar 2)) (aNil))))))))) (sNil))
  (sSeq (sIf (tOf (eOp gIsN (eVar 1) (eC .non))) (sRet (eOp gIsN (eVar 0) (eC .non))) (sNil))
  (sSeq (sIf (tOf (eU (gIsi .bool) (eVar 1))) (sRet (eAndV (eU (gIsi .bool) (eVar 0)) (eOp gEq (eVar 0) (eVar 1)))) (sNil))
  (sSeq (sIf (tOf (eU (gIsi .str) (eVar 1))) (sRet (eAndV (eU (gIsi .str) (eVar 0)) (eOp gEq (eVar 0) (eVar 1)))) (sNil))
  (sSeq (sIf (tOf (eU (gIsi .int) (eVar 1))) (sRet (eAndV (eU (gIsi .int) (eVar 0)) (eAndV (eU gNot (eU (gIsi .bool) (eVar 0))) (eOp gEq (eVar 0) (eVar 1))))) (sNil))
  (sRet (eAndV (eU gNot (eU (gIsi .int) (eVar 0))) (eOp gEq (eVar 0) (eVar 1)))))))))
def F__law_same_4 : Fn := Rf.fnOf 3 B__law_same_4
abbrev F__law_same : Fn := F__law_same_4
def B_check_vector : Es := sSeq (sExpr (eCall 2 F_check_length [] (aCons (eVar 1) (aCons (eC (.int 1)) (aNil)))))
  (sIf (tNotF (tOf (eCall 2 F_is_vector [] (aCons (eVar 0) (aCons (eVar 1) (aNil)))))) (sMal) (sNil))
def F_check_vector : Fn := Rf.fnOf 2 B_check_vector
def B_rests_number : Es := sSeq (sExpr (eCall 2 F_check_length [] (aCons (eVar 2) (aCons (eVar 1) (aNil)))))
  (sSeq (sIf (tAndF (tOf (eOp gGt (eVar 2) (eC (.int 3)))) (tOf (eOp gGt (eVar 1) (eC (.int 4))))) (sRfd (aCons (eC (.str "large")) (aNil))) (sNil))
  (sSeq (sIf (tNotF (tOf (eCall 1 F_is_integer [] (aCons (eVar 0) (aNil))))) (sMal) (sNil))
  (sSeq (sPar 3 4 (eCall 2 F_power [] (aCons (eVar 2) (aCons (eVar 1) (aNil)))) (eLst (aNil)))
  (sSeq (sFor (iRg1 (aCons (eVar 1) (aNil))) (.nm 5) (sSeq (sSet 6 (eOp gMod (eVar 0) (eVar 2)))
  (sSeq (sApp 4 (eVar 6))
  (sSet 0 (eOp gMod (eOp gDiv (eOp Rf.gSub (eVar 0) (eCall 3 F_power_mod [] (aCons (eVar 6) (aCons (eCall 2 F_power [] (aCons (eVar 2) (aCons (eOp Rf.gSub (eVar 1) (eC (.int 1))) (aNil)))) (aCons (eVar 3) (aNil)))))) (eVar 2)) (eVar 3))))))
  (sRet (eU gTup (eVar 4)))))))
def F_rests_number : Fn := Rf.fnOf 7 B_rests_number
def B__law_is_told : Es := sRet (eAndV (eOp gEq (eOp gIx (eVar 0) (eC (.int 0))) (eC (.str "told"))) (eCall 2 F__law_same [] (aCons (eOp gIx (eVar 0) (eC (.int 1))) (aCons (eVar 1) (aNil)))))
def F__law_is_told : Fn := Rf.fnOf 2 B__law_is_told
def B__law_is_raised : Es := sSeq (sIf (tOf (eOp gEq (eVar 1) (eC (.str "malformed")))) (sRet (eOp gEq (eOp gIx (eVar 0) (eC (.int 0))) (eC (.str "malformed")))) (sNil))
  (sRet (eAndV (eOp gEq (eOp gIx (eVar 0) (eC (.int 0))) (eC (.str "raised"))) (eCall 2 F__law_same [] (aCons (eOp gIx (eVar 0) (eC (.int 1))) (aCons (eVar 1) (aNil))))))
def F__law_is_raised : Fn := Rf.fnOf 2 B__law_is_raised
def B_check_two : Es := sSeq (sExpr (eCall 2 F_check_vector [] (aCons (eVar 0) (aCons (eVar 2) (aNil)))))
  (sSeq (sExpr (eCall 2 F_check_vector [] (aCons (eVar 1) (aCons (eVar 2) (aNil)))))
  (sIf (tOf (eOp gNe (eU gLen (eVar 0)) (eU gLen (eVar 1)))) (sMal) (sNil)))
def F_check_two : Fn := Rf.fnOf 3 B_check_two
def B_rests_of : Es := sSeq (sExpr (eCall 2 F_check_vector [] (aCons (eVar 0) (aCons (eVar 1) (aNil)))))
  (sRet (eU gTup (eLc [2] (iSeq (eVar 0)) (.nm 2) (tYesF) (eOp gMod (eVar 2) (eVar 1)))))
def F_rests_of : Fn := Rf.fnOf 3 B_rests_of
def B_vector_plus : Es := sSeq (sExpr (eCall 3 F_check_two [] (aCons (eVar 0) (aCons (eVar 1) (aCons (eVar 2) (aNil))))))
  (sRet (eCall 2 F_vector_of [] (aCons (eLc [3, 4] (iZp (aCons (eCall 2 F_ghosts_of [] (aCons (eVar 0) (aCons (eVar 2) (aNil)))) (aCons (eCall 2 F_ghosts_of [] (aCons (eVar 1) (aCons (eVar 2) (aNil)))) (aNil)))) (.tp [3, 4]) (tYesF) (eOp gAdd (eVar 3) (eVar 4))) (aCons (eVar 2) (aNil)))))
def F_vector_plus : Fn := Rf.fnOf 5 B_vector_plus
def B_vector_times : Es := sSeq (sExpr (eCall 3 F_check_two [] (aCons (eVar 0) (aCons (eVar 1) (aCons (eVar 2) (aNil))))))
  (sRet (eCall 2 F_vector_of [] (aCons (eLc [3, 4] (iZp (aCons (eCall 2 F_ghosts_of [] (aCons (eVar 0) (aCons (eVar 2) (aNil)))) (aCons (eCall 2 F_ghosts_of [] (aCons (eVar 1) (aCons (eVar 2) (aNil)))) (aNil)))) (.tp [3, 4]) (tYesF) (eOp gMul2 (eVar 3) (eVar 4))) (aCons (eVar 2) (aNil)))))
def F_vector_times : Fn := Rf.fnOf 5 B_vector_times
def B_check_rests : Es := sSeq (sExpr (eCall 3 F_check_two [] (aCons (eVar 0) (aCons (eVar 1) (aCons (eVar 2) (aNil))))))
  (sIf (tNotF (tOf (eU gAll (eLc [3] (iSeq (eOp gAdd (eVar 0) (eVar 1))) (.nm 3) (tYesF) (eChain gLe gLt (eC (.int 0)) (eVar 3) (eVar 2)))))) (sMal) (sNil))
def F_check_rests : Fn := Rf.fnOf 4 B_check_rests
def B_rest_plus : Es := sSeq (sExpr (eCall 3 F_check_rests [] (aCons (eVar 0) (aCons (eVar 1) (aCons (eVar 2) (aNil))))))
  (sRet (eU gTup (eLc [3] (iSeq (eCall 3 F_vector_plus [] (aCons (eVar 0) (aCons (eVar 1) (aCons (eVar 2) (aNil)))))) (.nm 3) (tYesF) (eOp gMod (eVar 3) (eVar 2)))))
def F_rest_plus : Fn := Rf.fnOf 4 B_rest_plus
def B_rest_times : Es := sSeq (sExpr (eCall 3 F_check_rests [] (aCons (eVar 0) (aCons (eVar 1) (aCons (eVar 2) (aNil))))))
  (sRet (eU gTup (eLc [3] (iSeq (eCall 3 F_vector_times [] (aCons (eVar 0) (aCons (eVar 1) (aCons (eVar 2) (aNil)))))) (.nm 3) (tYesF) (eOp gMod (eVar 3) (eVar 2)))))
def F_rest_times : Fn := Rf.fnOf 4 B_rest_times
def B_number_of : Es := sSeq (sExpr (eCall 3 F_check_rests [] (aCons (eVar 0) (aCons (eVar 0) (aCons (eVar 1) (aNil))))))
  (sSeq (sSet 2 (eU gLen (eVar 0)))
  (sSeq (sSet 3 (eCall 2 F_power [] (aCons (eVar 1) (aCons (eVar 2) (aNil)))))
  (sRet (eOp gMod (eU gSum (eLc [4, 5] (iEn2 (aCons (eVar 0) (aNil))) (.tp [4, 5]) (tYesF) (eOp gMul2 (eCall 2 F_power [] (aCons (eVar 1) (aCons (eVar 4) (aNil)))) (eCall 3 F_power_mod [] (aCons (eVar 5) (aCons (eCall 2 F_power [] (aCons (eVar 1) (aCons (eOp Rf.gSub (eVar 2) (eC (.int 1))) (aNil)))) (aCons (eVar 3) (aNil)))))))) (eVar 3)))))
def F_number_of : Fn := Rf.fnOf 6 B_number_of
def tab : Nat → Option (Nat × Fn)
  | 15 => some (3, F_vector_plus)
  | 16 => some (3, F_vector_times)
  | 17 => some (2, F_rests_of)
  | 18 => some (3, F_rest_plus)
  | 19 => some (3, F_rest_times)
  | 21 => some (2, F_number_of)
  | 22 => some (3, F_rests_number)
  | _ => none
def B__law_told : Es := fun ρ => if ρ.length == 3 then sTry 3 (.tup [.str "malformed", .non]) d2R (sSeq (sIf (tOf (eOp gEq (eU gLen (eVar 1)) (eC (.int 0)))) (sRet (eTup (aCons (eC (.str "told")) (aCons (fun _ => .no) (aNil))))) (sNil))
  (sSeq (sIf (tOf (eOp gEq (eU gLen (eVar 1)) (eC (.int 1)))) (sRet (eTup (aCons (eC (.str "told")) (aCons (eCallD tab 0 (aCons (eOp gIx (eVar 1) (eC (.int 0))) (aNil))) (aNil))))) (sNil))
  (sSeq (sIf (tOf (eOp gEq (eU gLen (eVar 1)) (eC (.int 2)))) (sRet (eTup (aCons (eC (.str "told")) (aCons (eCallD tab 0 (aCons (eOp gIx (eVar 1) (eC (.int 0))) (aCons (eOp gIx (eVar 1) (eC (.int 1))) (aNil)))) (aNil))))) (sNil))
  (sSeq (sIf (tOf (eOp gEq (eU gLen (eVar 1)) (eC (.int 3)))) (sRet (eTup (aCons (eC (.str "told")) (aCons (eCallD tab 0 (aCons (eOp gIx (eVar 1) (eC (.int 0))) (aCons (eOp gIx (eVar 1) (eC (.int 1))) (aCons (eOp gIx (eVar 1) (eC (.int 2))) (aNil))))) (aNil))))) (sNil))
  (sSeq (sIf (tOf (eOp gEq (eU gLen (eVar 1)) (eC (.int 4)))) (sRet (eTup (aCons (eC (.str "told")) (aCons (eCallD tab 0 (aCons (eOp gIx (eVar 1) (eC (.int 0))) (aCons (eOp gIx (eVar 1) (eC (.int 1))) (aCons (eOp gIx (eVar 1) (eC (.int 2))) (aCons (eOp gIx (eVar 1) (eC (.int 3))) (aNil)))))) (aNil))))) (sNil))
  (sSeq (sIf (tOf (eOp gEq (eU gLen (eVar 1)) (eC (.int 5)))) (sRet (eTup (aCons (eC (.str "told")) (aCons (eCallD tab 0 (aCons (eOp gIx (eVar 1) (eC (.int 0))) (aCons (eOp gIx (eVar 1) (eC (.int 1))) (aCons (eOp gIx (eVar 1) (eC (.int 2))) (aCons (eOp gIx (eVar 1) (eC (.int 3))) (aCons (eOp gIx (eVar 1) (eC (.int 4))) (aNil))))))) (aNil))))) (sNil))
  (sRet (eTup (aCons (eC (.str "told")) (aCons (eCallD tab 0 (aCons (eOp gIx (eVar 1) (eC (.int 0))) (aCons (eOp gIx (eVar 1) (eC (.int 1))) (aCons (eOp gIx (eVar 1) (eC (.int 2))) (aCons (eOp gIx (eVar 1) (eC (.int 3))) (aCons (eOp gIx (eVar 1) (eC (.int 4))) (aCons (eOp gIx (eVar 1) (eC (.int 5))) (aNil)))))))) (aNil))))))))))) ρ else .no
def F__law_told : Fn := Rf.fnOf 3 B__law_told
def B__law_tells : Es := sRet (eCall 2 F__law_is_told [] (aCons (eCall 2 F__law_told [] (aCons (eVar 0) (aCons (eVar 1) (aNil)))) (aCons (eVar 2) (aNil))))
def F__law_tells : Fn := Rf.fnOf 3 B__law_tells
def B__law_raises : Es := sRet (eCall 2 F__law_is_raised [] (aCons (eCall 2 F__law_told [] (aCons (eVar 0) (aCons (eVar 1) (aNil)))) (aCons (eVar 2) (aNil))))
def F__law_raises : Fn := Rf.fnOf 3 B__law_raises
def B__law_value : Es := sSeq (sSet 2 (eCall 2 F__law_told [] (aCons (eVar 0) (aCons (eVar 1) (aNil)))))
  (sRet (eIfF (tOf (eOp gEq (eOp gIx (eVar 2) (eC (.int 0))) (eC (.str "told")))) (eOp gIx (eVar 2) (eC (.int 1))) (eVar 2)))
def F__law_value : Fn := Rf.fnOf 3 B__law_value
def B__law_bads : Es := sSeq (sFor (iSeq (eVar 3)) (.nm 4) (sSeq (sSet 5 (eU gLst (eVar 1)))
  (sSeq (sSto 5 (eVar 2) (eVar 4))
  (sIf (tOf (eOp gNe (eCall 2 F__law_told [] (aCons (eVar 0) (aCons (eU gTup (eVar 5)) (aNil)))) (eTup (aCons (eC (.str "malformed")) (aCons (eC .non) (aNil)))))) (sRet (eC (.bl false))) (sNil)))))
  (sRet (eC (.bl true)))
def F__law_bads : Fn := Rf.fnOf 6 B__law_bads
def B_law : Es := sSeq (sSet 1 (eCall 1 F__law_state [] (aCons (eVar 0) (aNil))))
  (sSeq (sFor (iRg1 (aCons (eC (.int 4)) (aNil))) (.nm 2) (sSeq (sSet 3 (eCallB 1 2 F__law_prime (aCons (eC (.int 5)) (aNil))))
  (sSeq (sSet 4 (eOp gAdd (eC (.int 1)) (eCallB 1 2 F__law_take (aCons (eIfF (tOf (eOp gLt (eVar 3) (eC (.int 5)))) (eC (.int 4)) (eC (.int 2))) (aNil)))))
  (sSeq (sSet 5 (eCall 2 F__law_raised [] (aCons (eVar 3) (aCons (eVar 4) (aNil)))))
  (sSeq (sUnp [6, 7] (eLc [17] (iRg1 (aCons (eC (.int 2)) (aNil))) (.nm 17) (tYesF) (eU gTup (eLc [18] (iRg1 (aCons (eVar 4) (aNil))) (.nm 18) (tYesF) (eCallB 1 2 F__law_take (aCons (eVar 3) (aNil)))))))
  (sSeq (sPar 8 9 (eCall 2 F__law_number [] (aCons (eVar 6) (aCons (eVar 3) (aNil)))) (eCall 2 F__law_number [] (aCons (eVar 7) (aCons (eVar 3) (aNil)))))
  (sSeq (sIf (tOrF (tNotF (tOf (eCall 3 F__law_tells [] (aCons (eC (.fn 21)) (aCons (eTup (aCons (eVar 6) (aCons (eVar 3) (aNil)))) (aCons (eVar 8) (aNil))))))) (tNotF (tOf (eCall 3 F__law_tells [] (aCons (eC (.fn 22)) (aCons (eTup (aCons (eVar 8) (aCons (eVar 4) (aCons (eVar 3) (aNil))))) (aCons (eVar 6) (aNil)))))))) (sRet (eC (.bl false))) (sNil))
  (sSeq (sPar 10 11 (eCall 2 F__law_value [] (aCons (eC (.fn 18)) (aCons (eTup (aCons (eVar 6) (aCons (eVar 7) (aCons (eVar 3) (aNil))))) (aNil)))) (eCall 2 F__law_value [] (aCons (eC (.fn 19)) (aCons (eTup (aCons (eVar 6) (aCons (eVar 7) (aCons (eVar 3) (aNil))))) (aNil)))))
  (sSeq (sIf (tOrF (tOf (eOp gNe (eCall 2 F__law_number [] (aCons (eVar 10) (aCons (eVar 3) (aNil)))) (eOp gMod (eU gInt (eOp gAdd (eVar 8) (eVar 9))) (eVar 5)))) (tOrF (tOf (eOp gNe (eCall 2 F__law_number [] (aCons (eVar 11) (aCons (eVar 3) (aNil)))) (eOp gMod (eU gInt (eOp gMul2 (eVar 8) (eVar 9))) (eVar 5)))) (tOrF (tNotF (tOf (eU gAll (eLc [12] (iSeq (eOp gAdd (eVar 10) (eVar 11))) (.nm 12) (tYesF) (eChain gLe gLt (eC (.int 0)) (eVar 12) (eVar 3)))))) (tOrF (tOf (eOp gNe (eU gLen (eVar 10)) (eVar 4))) (tOf (eOp gNe (eU gLen (eVar 11)) (eVar 4))))))) (sRet (eC (.bl false))) (sNil))
  (sSeq (sIf (tOrF (tOf (eOp gNe (eVar 10) (eU gTup (eLc [12] (iSeq (eCall 2 F__law_value [] (aCons (eC (.fn 15)) (aCons (eTup (aCons (eVar 6) (aCons (eVar 7) (aCons (eVar 3) (aNil))))) (aNil))))) (.nm 12) (tYesF) (eOp gMod (eU gInt (eVar 12)) (eVar 3)))))) (tOf (eOp gNe (eVar 11) (eU gTup (eLc [12] (iSeq (eCall 2 F__law_value [] (aCons (eC (.fn 16)) (aCons (eTup (aCons (eVar 6) (aCons (eVar 7) (aCons (eVar 3) (aNil))))) (aNil))))) (.nm 12) (tYesF) (eOp gMod (eU gInt (eVar 12)) (eVar 3))))))) (sRet (eC (.bl false))) (sNil))
  (sSeq (sSet 12 (eOp Rf.gSub (eCallB 1 2 F__law_take (aCons (eOp gMul2 (eC (.int 4)) (eVar 5)) (aNil))) (eOp gMul2 (eC (.int 2)) (eVar 5))))
  (sSeq (sSet 13 (eCall 2 F__law_value [] (aCons (eC (.fn 22)) (aCons (eTup (aCons (eVar 12) (aCons (eVar 4) (aCons (eVar 3) (aNil))))) (aNil)))))
  (sSeq (sIf (tOrF (tOf (eOp gNe (eU gLen (eVar 13)) (eVar 4))) (tOrF (tNotF (tOf (eU gAll (eLc [19] (iSeq (eVar 13)) (.nm 19) (tYesF) (eAndV (eCall 1 F__law_plain [] (aCons (eVar 19) (aNil))) (eChain gLe gLt (eC (.int 0)) (eVar 19) (eVar 3))))))) (tOf (eOp gNe (eCall 2 F__law_number [] (aCons (eVar 13) (aCons (eVar 3) (aNil)))) (eOp gMod (eU gInt (eVar 12)) (eVar 5)))))) (sRet (eC (.bl false))) (sNil))
  (sSeq (sSet 14 (eU gTup (eLc [18] (iRg1 (aCons (eVar 4) (aNil))) (.nm 18) (tYesF) (eOp Rf.gSub (eCallB 1 2 F__law_take (aCons (eC (.int 41)) (aNil))) (eC (.int 20))))))
  (sSeq (sIf (tNotF (tOf (eCall 3 F__law_tells [] (aCons (eC (.fn 17)) (aCons (eTup (aCons (eVar 14) (aCons (eVar 3) (aNil)))) (aCons (eU gTup (eLc [19] (iSeq (eVar 14)) (.nm 19) (tYesF) (eOp gMod (eU gInt (eVar 19)) (eVar 3)))) (aNil))))))) (sRet (eC (.bl false))) (sNil))
  (sSeq (sIf (tOf (eOp gNe (eU gLen (eU gSrtSet (eLc [20] (iSeq (eCall 1 F__law_words [] (aCons (eOp gMul2 (eLst (aCons (eVar 3) (aNil))) (eOp gMin (eVar 4) (eC (.int 3)))) (aNil)))) (.nm 20) (tYesF) (eCall 2 F__law_number [] (aCons (eVar 20) (aCons (eVar 3) (aNil))))))) (eCall 2 F__law_raised [] (aCons (eVar 3) (aCons (eOp gMin (eVar 4) (eC (.int 3))) (aNil)))))) (sRet (eC (.bl false))) (sNil))
  (sSeq (sSet 15 (eLst (aCons (eC .non) (aCons (eC (.int 0)) (aCons (eU gLst (eVar 6)) (aCons (eTup (aNil)) (aCons (eOp gAdd (eTup (aCons (eVar 3) (aNil))) (eSl (eVar 6) (oSome (eC (.int 1))) (oNone))) (aCons (eOp gAdd (eTup (aCons (eU gNeg (eC (.int 1))) (aNil))) (eSl (eVar 6) (oSome (eC (.int 1))) (oNone))) (aCons (eOp gAdd (eTup (aCons (eC (.bl true)) (aNil))) (eSl (eVar 6) (oSome (eC (.int 1))) (oNone))) (aCons (eTup (aCons (eC (.str "0")) (aNil))) (aNil)))))))))))
  (sSeq (sFor (iSeq (eTup (aCons (eC (.fn 18)) (aCons (eC (.fn 19)) (aNil))))) (.nm 16) (sIf (tOrF (tNotF (tOf (eCall 4 F__law_bads [] (aCons (eVar 16) (aCons (eTup (aCons (eVar 6) (aCons (eVar 7) (aCons (eVar 3) (aNil))))) (aCons (eC (.int 0)) (aCons (eOp gAdd (eVar 15) (eLst (aCons (eOp gAdd (eVar 6) (eTup (aCons (eC (.int 0)) (aNil)))) (aNil)))) (aNil)))))))) (tOrF (tNotF (tOf (eCall 4 F__law_bads [] (aCons (eVar 16) (aCons (eTup (aCons (eVar 6) (aCons (eVar 7) (aCons (eVar 3) (aNil))))) (aCons (eC (.int 1)) (aCons (eVar 15) (aNil)))))))) (tNotF (tOf (eCall 4 F__law_bads [] (aCons (eVar 16) (aCons (eTup (aCons (eVar 6) (aCons (eVar 7) (aCons (eVar 3) (aNil))))) (aCons (eC (.int 2)) (aCons (eLst (aCons (eC .non) (aCons (eC (.int 4)) (aCons (eC (.int 17)) (aCons (eC (.bl true)) (aNil)))))) (aNil)))))))))) (sRet (eC (.bl false))) (sNil)))
  (sSeq (sIf (tOrF (tNotF (tOf (eCall 4 F__law_bads [] (aCons (eC (.fn 21)) (aCons (eTup (aCons (eVar 6) (aCons (eVar 3) (aNil)))) (aCons (eC (.int 0)) (aCons (eVar 15) (aNil)))))))) (tOrF (tNotF (tOf (eCall 4 F__law_bads [] (aCons (eC (.fn 21)) (aCons (eTup (aCons (eVar 6) (aCons (eVar 3) (aNil)))) (aCons (eC (.int 1)) (aCons (eLst (aCons (eC .non) (aCons (eC (.int 4)) (aCons (eC (.int 17)) (aNil))))) (aNil)))))))) (tOrF (tNotF (tOf (eCall 4 F__law_bads [] (aCons (eC (.fn 17)) (aCons (eTup (aCons (eVar 14) (aCons (eVar 3) (aNil)))) (aCons (eC (.int 0)) (aCons (eLst (aCons (eC .non) (aCons (eTup (aNil)) (aCons (eU gLst (eVar 14)) (aCons (eTup (aCons (eC (.str "1")) (aNil))) (aNil)))))) (aNil)))))))) (tNotF (tOf (eCall 4 F__law_bads [] (aCons (eC (.fn 17)) (aCons (eTup (aCons (eVar 14) (aCons (eVar 3) (aNil)))) (aCons (eC (.int 1)) (aCons (eLst (aCons (eC .non) (aCons (eC (.int 6)) (aCons (eC (.int 17)) (aNil))))) (aNil))))))))))) (sRet (eC (.bl false))) (sNil))
  (sIf (tOrF (tNotF (tOf (eCall 4 F__law_bads [] (aCons (eC (.fn 22)) (aCons (eTup (aCons (eVar 12) (aCons (eVar 4) (aCons (eVar 3) (aNil))))) (aCons (eC (.int 0)) (aCons (eLst (aCons (eC .non) (aCons (eC (.bl true)) (aCons (eC (.str "1")) (aNil))))) (aNil)))))))) (tOrF (tNotF (tOf (eCall 4 F__law_bads [] (aCons (eC (.fn 22)) (aCons (eTup (aCons (eVar 12) (aCons (eVar 4) (aCons (eVar 3) (aNil))))) (aCons (eC (.int 1)) (aCons (eLst (aCons (eC (.int 0)) (aCons (eC (.int 7)) (aCons (eC .non) (aNil))))) (aNil)))))))) (tNotF (tOf (eCall 4 F__law_bads [] (aCons (eC (.fn 22)) (aCons (eTup (aCons (eVar 12) (aCons (eVar 4) (aCons (eVar 3) (aNil))))) (aCons (eC (.int 2)) (aCons (eLst (aCons (eC .non) (aCons (eC (.int 1)) (aCons (eC (.int 17)) (aNil))))) (aNil)))))))))) (sRet (eC (.bl false))) (sNil)))))))))))))))))))))
  (sRet (eAndV (eCall 3 F__law_raises [] (aCons (eC (.fn 22)) (aCons (eTup (aCons (eC (.int 1)) (aCons (eC (.int 5)) (aCons (eC (.int 7)) (aNil))))) (aCons (eC (.str "large")) (aNil))))) (eCall 3 F__law_tells [] (aCons (eC (.fn 22)) (aCons (eTup (aCons (eU gNeg (eC (.int 1))) (aCons (eC (.int 3)) (aCons (eC (.int 2)) (aNil))))) (aCons (eTup (aCons (eC (.int 1)) (aCons (eC (.int 1)) (aCons (eC (.int 1)) (aNil))))) (aNil))))))))
def F_law : Fn := Rf.fnOf 21 B_law
end L50
end
section
set_option Elab.async false
set_option linter.all false
set_option exponentiation.threshold 400
set_option maxRecDepth 100000
set_option maxHeartbeats 4000000
namespace L50
open PySem PySem.Spec PyProof.Rows L2 Rf
def Bg : Nat := 400000
theorem log_lt {n : Nat} (h : n < 2 ^ Bg) : n.log2 < 400000 := by
  by_cases e : n = 0
  · subst e; decide
  · exact (Nat.log2_lt e).2 h
theorem mulOk_of {i j : Int} (h : i.natAbs < 2 ^ Bg) (g : j.natAbs < 2 ^ Bg) : mulOk i j = true := by
  have h1 := log_lt h
  have h2 := log_lt g
  unfold mulOk
  rw [Bool.or_eq_true]
  right
  apply Nat.ble_eq_true_of_le
  omega
theorem mulOk_l {i j : Int} (h : i.natAbs ≤ 18446744073709551615) : mulOk i j = true := by
  unfold mulOk
  rw [Bool.or_eq_true, Bool.or_eq_true]
  exact .inl (.inl (Nat.ble_eq_true_of_le h))
theorem mulOk_r {i j : Int} (h : j.natAbs ≤ 18446744073709551615) : mulOk i j = true := by
  unfold mulOk
  rw [Bool.or_eq_true, Bool.or_eq_true]
  exact .inl (.inr (Nat.ble_eq_true_of_le h))
theorem divOk_of {j : Int} (h0 : 0 < j) (h : j.natAbs < 2 ^ 8999) : divOk j = true := by
  unfold divOk
  rw [Bool.and_eq_true]
  refine ⟨decide_eq_true h0, Nat.ble_eq_true_of_le ?_⟩
  have := (Nat.log2_lt (n := j.natAbs) (k := 8999) (by omega)).2 h
  omega
theorem gMul2_int {i j : Int} (h : mulOk i j = true) : gMul2 (.int i) (.int j) = some (.fz (.int (i * j))) := by
  show (if mulOk i j = true then some (PV.fz (D.int (i * j))) else none) = _
  rw [if_pos h]
theorem gDiv_int {i j : Int} (h : divOk j = true) : gDiv (.int i) (.int j) = some (.fz (.int (i / j))) := by
  show (if divOk j = true then some (PV.fz (D.int (i / j))) else none) = _
  rw [if_pos h]
theorem gMod_int {i j : Int} (h : 0 < j) : gMod (.int i) (.int j) = some (.fz (.int (i % j))) := by
  show (if decide (0 < j) = true then some (PV.fz (D.int (i % j))) else none) = _
  rw [if_pos (decide_eq_true h)]
theorem eq_int {i j : Int} : gEq (.int i) (.int j) = some (.fz (.bl (decide (i = j)))) := rfl
theorem ne_int {i j : Int} : gNe (.int i) (.int j) = some (.fz (.bl (!decide (i = j)))) := rfl
theorem sq2 (a : Int) : a * a = a ^ 2 := by grind
theorem blt_dec {a b : Nat} : Nat.blt a b = decide (a < b) := by
  rw [Bool.eq_iff_iff, Nat.blt_eq, decide_eq_true_eq]
def PC (a f : Int) (k : Nat) : Prop := ∀ e, e ≤ k → (a ^ e).natAbs < 2 ^ Bg ∧ (f * a ^ e).natAbs < 2 ^ Bg
abbrev powT : Et := tOf (eOp gGt (eVar 1) (eC (.int 0)))
abbrev powB : Es := sSeq (sIf (tOf (eOp gEq (eOp gMod (eVar 1) (eC (.int 2))) (eC (.int 1)))) (sSet 2 (eOp gMul2 (eVar 2) (eVar 0))) (sNil))
      (sPar 0 1 (eOp gMul2 (eVar 0) (eVar 0)) (eOp gDiv (eVar 1) (eC (.int 2))))
theorem powB_odd {a f : Int} {k : Int} (hk : k % 2 = 1) (m1 : mulOk f a = true) (m2 : mulOk a a = true) :
    powB [.fz (.int a), .fz (.int k), .fz (.int f)] = .ok (.nx, [.fz (.int (a * a)), .fz (.int (k / 2)), .fz (.int (f * a))]) := by
  have d : divOk 2 = true := by decide
  simp [powB, sSeq, sIf, sSet, sPar, tOf, eOp, eVar, eC, R.bind, opV, look, gMod_int, eq_int, bOf, hk, gMul2_int m1, gMul2_int m2, gDiv_int d, setK, setR, fixed, seqK, uPV, parK2, blt_dec]
theorem powB_even {a f : Int} {k : Int} (hk : k % 2 = 0) (m2 : mulOk a a = true) :
    powB [.fz (.int a), .fz (.int k), .fz (.int f)] = .ok (.nx, [.fz (.int (a * a)), .fz (.int (k / 2)), .fz (.int f)]) := by
  have d : divOk 2 = true := by decide
  simp [powB, sSeq, sIf, sSet, sPar, tOf, eOp, eVar, eC, R.bind, opV, look, gMod_int, eq_int, bOf, hk, gMul2_int m2, gDiv_int d, setK, setR, fixed, seqK, uPV, parK2, sNil, blt_dec]
/-- the loop of power -/
theorem power_loop : ∀ (n : Nat) (a f : Int) (k : Nat), k < 2 ^ n → PC a f k →
    ∃ a', whGo powT powB (n + 1) [.fz (.int a), .fz (.int k), .fz (.int f)] = .ok (.nx, [.fz (.int a'), .fz (.int 0), .fz (.int (f * a ^ k))]) := by
  intro n
  induction n with
  | zero =>
    intro a f k h1 _
    have e : k = 0 := by omega
    subst e
    refine ⟨a, ?_⟩
    simp [whGo, powT, tOf, eOp, eVar, eC, R.bind, opV, look, gGt, bOf]
  | succ n ih =>
    intro a f k h1 h3
    by_cases hk : k = 0
    · subst hk
      refine ⟨a, ?_⟩
      simp [whGo, powT, tOf, eOp, eVar, eC, R.bind, opV, look, gGt, bOf]
    · have t : powT [.fz (.int a), .fz (.int k), .fz (.int f)] = .ok (true, [.fz (.int a), .fz (.int k), .fz (.int f)]) := by
        simp [powT, tOf, eOp, eVar, eC, R.bind, opV, look, gGt, bOf]
        omega
      have s1 : (a).natAbs < 2 ^ Bg := by have := (h3 1 (by omega)).1; rwa [Int.pow_one] at this
      have s2 : (f).natAbs < 2 ^ Bg := by have := (h3 0 (by omega)).2; rwa [Int.pow_zero, Int.mul_one] at this
      have kd : ((k : Nat) : Int) / 2 = ((k / 2 : Nat) : Int) := by omega
      rcases Nat.mod_two_eq_zero_or_one k with hm | hm
      · have b := powB_even (a := a) (f := f) (k := (k : Int)) (by omega) (mulOk_of s1 s1)
        obtain ⟨a', r⟩ := ih (a * a) f (k / 2) (by rw [Nat.pow_succ] at h1; omega) (fun e he => by
          have e2 : (a * a) ^ e = a ^ (2 * e) := by rw [sq2, ← Int.pow_mul]
          rw [e2]
          exact h3 (2 * e) (by omega))
        refine ⟨a', ?_⟩
        rw [whGo, t]
        simp only []
        rw [b]
        simp only []
        rw [kd, r]
        have e2 : (a * a) ^ (k / 2) = a ^ k := by
          rw [sq2, ← Int.pow_mul]
          congr 1
          omega
        rw [e2]
      · have b := powB_odd (a := a) (f := f) (k := (k : Int)) (by omega) (mulOk_of s2 s1) (mulOk_of s1 s1)
        obtain ⟨a', r⟩ := ih (a * a) (f * a) (k / 2) (by rw [Nat.pow_succ] at h1; omega) (fun e he => by
          have e2 : (a * a) ^ e = a ^ (2 * e) := by rw [sq2, ← Int.pow_mul]
          have e3 : f * a * (a * a) ^ e = f * a ^ (2 * e + 1) := by rw [e2, Int.pow_succ]; grind
          rw [e3, e2]
          exact ⟨(h3 (2 * e) (by omega)).1, (h3 (2 * e + 1) (by omega)).2⟩)
        refine ⟨a', ?_⟩
        rw [whGo, t]
        simp only []
        rw [b]
        simp only []
        rw [kd, r]
        have e2 : f * a * (a * a) ^ (k / 2) = f * a ^ k := by
          have e2 : (a * a) ^ (k / 2) = a ^ (2 * (k / 2)) := by rw [sq2, ← Int.pow_mul]
          have e3 : k = 2 * (k / 2) + 1 := by omega
          rw [e2]
          conv => rhs; rw [e3, Int.pow_succ]
          grind
        rw [e2]
theorem whGo_mono {tc : Et} {body : Es} : ∀ {n m : Nat} {ρ : Rho} {r : Fl × Rho}, n ≤ m → whGo tc body n ρ = .ok r → whGo tc body m ρ = .ok r
  | 0, _, _, _, _, h => by simp [whGo] at h
  | n + 1, 0, _, _, l, _ => by omega
  | n + 1, m + 1, ρ, r, l, h => by
    rw [whGo] at h ⊢
    cases e : tc ρ with
    | no => rw [e] at h; exact h
    | exc x => rw [e] at h; exact h
    | ok q =>
      obtain ⟨b, ρ1⟩ := q
      rw [e] at h
      cases b with
      | false => exact h
      | true =>
        simp only [] at h ⊢
        cases e2 : body ρ1 with
        | no => rw [e2] at h; exact h
        | exc x => rw [e2] at h; exact h
        | ok q2 =>
          obtain ⟨fl, ρ2⟩ := q2
          rw [e2] at h
          cases fl with
          | nx => exact whGo_mono (by omega) h
          | ct => exact whGo_mono (by omega) h
          | bk => exact h
          | rt pv => exact h
theorem power_spec {a : Int} {k : Nat} (hk : k < 2 ^ 19) (h : PC a 1 k) : F_power [.int a, .int k] = .ok (.fz (.int (a ^ k))) := by
  obtain ⟨a', r⟩ := power_loop 19 a 1 k hk h
  have w := whGo_mono (m := 1000000) (by decide) r
  rw [Int.one_mul] at w
  have s1 : sSet 2 (eC (.int 1)) [.fz (.int a), .fz (.int k), .un] = .ok (.nx, [.fz (.int a), .fz (.int k), .fz (.int 1)]) := rfl
  have e : startR 3 [.int a, .int k] = [.fz (.int a), .fz (.int k), .un] := rfl
  show outF (B_power (startR 3 [.int a, .int k])) = _
  rw [e]
  unfold B_power
  rw [sSeq, s1]
  show outF (seqK _ (whGo powT powB 1000000 [.fz (.int a), .fz (.int k), .fz (.int 1)])) = _
  rw [w]
  rfl
/-- what we call small: its powers up to 125 are within the sizes -/
theorem pc_of {a : Int} (h : a.natAbs < 2 ^ 300) {k : Nat} (hk : k ≤ 125) : PC a 1 k := by
  intro e he
  rw [Int.one_mul]
  have h1 : (a ^ e).natAbs < 2 ^ Bg := by
    rw [Int.natAbs_pow]
    have h2 : a.natAbs ^ e ≤ (2 ^ 300) ^ e := Nat.pow_le_pow_left (by omega) e
    rw [← Nat.pow_mul] at h2
    have h3 : 2 ^ (300 * e) < 2 ^ Bg := Nat.pow_lt_pow_right (by decide) (by unfold Bg; omega)
    omega
  exact ⟨h1, h1⟩
theorem power_sm {a : Int} {k : Nat} (h : a.natAbs < 2 ^ 300) (hk : k ≤ 125) : F_power [.int a, .int k] = .ok (.fz (.int (a ^ k))) := power_spec (by omega) (pc_of h hk)
end L50
end
section
set_option Elab.async false
set_option linter.all false
set_option maxRecDepth 100000
set_option maxHeartbeats 4000000
set_option exponentiation.threshold 400
namespace L50
open PySem PySem.Spec PyProof.Rows L2 Rf WM
theorem power_eq {a e : Int} {k : Nat} (he : e = (k : Int)) (h : a.natAbs < 2 ^ 300) (hk : k ≤ 125) : F_power [.int a, .int e] = .ok (.fz (.int (a ^ k))) := by
  subst he
  exact power_sm h hk
theorem raised_loop {a : Int} {k : Int} (h : a.natAbs < 2 ^ 300) : ∀ n : Nat, n ≤ 125 → ∃ c, forGo (.nm 3) (sSet 2 (eOp gMul2 (eVar 2) (eVar 0))) ((List.range n).map nI) [.fz (.int a), .fz (.int k), .fz (.int 1), .un] = .ok (.nx, [.fz (.int a), .fz (.int k), .fz (.int (a ^ n)), c]) := by
  intro n hn
  have pc := pc_of h hn
  obtain ⟨ρ2, e1, e2⟩ := forGo_rg (t := .nm 3) (body := sSet 2 (eOp gMul2 (eVar 2) (eVar 0))) (n := n) (fun m ρ => ∃ c, (c = .un ∨ ∃ d, c = .fz d) ∧ ρ = [.fz (.int a), .fz (.int k), .fz (.int (a ^ m)), c]) (fun i ρ hi hI => by
    obtain ⟨c, hc, rfl⟩ := hI
    refine ⟨[.fz (.int a), .fz (.int k), .fz (.int (a ^ i)), .fz (.int i)], [.fz (.int a), .fz (.int k), .fz (.int (a ^ (i + 1))), .fz (.int i)], ?_, ?_, ?_⟩
    · rcases hc with rfl | ⟨d, rfl⟩ <;> rfl
    · have m : mulOk (a ^ i) a = true := mulOk_of (pc i (by omega)).1 (by have := (pc 1 (by omega)).1; rwa [Int.pow_one] at this)
      rw [Int.pow_succ]
      exact v_set (v_op (v_fz rfl) (v_fz rfl) rfl rfl (gMul2_int m)) rfl
    · exact ⟨_, .inr ⟨_, rfl⟩, rfl⟩) (ρ := [.fz (.int a), .fz (.int k), .fz (.int 1), .un]) ⟨.un, .inl rfl, by rw [Int.pow_zero]⟩
  obtain ⟨c, _, rfl⟩ := e2
  exact ⟨c, e1⟩
theorem raised_eq {a e : Int} {k : Nat} (he : e = (k : Int)) (h : a.natAbs < 2 ^ 300) (hk : k ≤ 125) : F__law_raised [.int a, .int e] = .ok (.fz (.int (a ^ k))) := by
  subst he
  obtain ⟨c, r⟩ := raised_loop (k := (k : Int)) h k hk
  have b : B__law_raised [.fz (.int a), .fz (.int k), .un, .un] = .ok (.rt (.fz (.int (a ^ k))), [.fz (.int a), .fz (.int k), .fz (.int (a ^ k)), c]) := by
    refine v_seq (ρ1 := [.fz (.int a), .fz (.int k), .fz (.int 1), .un]) (v_set v_c rfl) (v_seq (v_for (v_rg1 (v_cons (v_fz rfl) rfl v_nil) (by omega)) r) (v_ret (v_fz rfl) rfl))
  show outF (B__law_raised [.fz (.int a), .fz (.int k), .un, .un]) = _
  rw [b]
  rfl
/-- the places that the law takes -/
def Sz (p N : Nat) : Prop := (p = 2 ∧ 1 ≤ N ∧ N ≤ 4) ∨ (p = 3 ∧ 1 ≤ N ∧ N ≤ 4) ∨ (p = 5 ∧ 1 ≤ N ∧ N ≤ 2)
theorem Sz.fer {p N : Nat} (h : Sz p N) : Fer p := by
  rcases h with ⟨rfl, _⟩ | ⟨rfl, _⟩ | ⟨rfl, _⟩
  · exact fer2
  · exact fer3
  · exact fer5
theorem Sz.p5 {p N : Nat} (h : Sz p N) : 2 ≤ p ∧ p ≤ 5 := by unfold Sz at h; omega
theorem Sz.n3 {p N : Nat} (h : Sz p N) : 1 ≤ N ∧ N ≤ 4 := by unfold Sz at h; omega
theorem Sz.p1 {p N : Nat} (h : Sz p N) : ((p : Nat) : Int).natAbs < 2 ^ 300 := by
  have := h.p5
  have : ((p : Nat) : Int).natAbs ≤ 5 := by omega
  exact Nat.lt_of_le_of_lt this (by decide)
theorem Sz.pw {p N k : Nat} (h : Sz p N) (hk : k < N) : p ^ k ≤ 27 := by
  rcases h with ⟨rfl, h1, h2⟩ | ⟨rfl, h1, h2⟩ | ⟨rfl, h1, h2⟩
  all_goals
    have : k = 0 ∨ k = 1 ∨ k = 2 ∨ k = 3 := by omega
    rcases this with rfl | rfl | rfl | rfl <;> first | decide | omega
abbrev gx (xs : List Int) : Nat → Int := fun k => xs.getD k 0
def gh (p : Nat) (xs : List Int) : List Int := (List.range xs.length).map (gG p (gx xs))
def Sm (xs : List Int) : Prop := ∀ x, x ∈ xs → x.natAbs ≤ 10 ^ 60
theorem Sm.at {xs : List Int} (h : Sm xs) (k : Nat) : (gx xs k).natAbs < 2 ^ 300 := by
  have : (gx xs k).natAbs ≤ 10 ^ 60 := by
    by_cases hk : k < xs.length
    · have e : gx xs k = xs[k] := by simp [gx, List.getD, hk]
      rw [e]
      exact h _ (List.getElem_mem hk)
    · have e : gx xs k = 0 := by simp [gx, List.getD, Nat.le_of_not_lt hk]
      rw [e]
      decide
  exact Nat.lt_of_le_of_lt this (by decide)
theorem term_ok {p N i k : Nat} {x : Int} (hs : Sz p N) (hi : i < N) (hk : k ≤ i) (hx : x.natAbs < 2 ^ 300) : mulOk ((p : Int) ^ k) (x ^ p ^ (i - k)) = true := by
  apply mulOk_l
  have h1 := hs.pw (k := k) (by omega)
  rw [Int.natAbs_pow, Int.natAbs_natCast]
  omega
theorem len_IL (xs : List Int) : gLen (.tup (IL xs)) = some (.fz (.int xs.length)) := by
  show some (PV.fz (.int (IL xs).length)) = _
  rw [List.length_map]
theorem len_ILl (xs : List Int) : gLen (.lst (IL xs)) = some (.fz (.int xs.length)) := by
  show some (PV.fz (.int (IL xs).length)) = _
  rw [List.length_map]
theorem sum_sm (f : Nat → Int) : ∀ n, ((List.range n).map f).sum = sm f n
  | 0 => rfl
  | n + 1 => by
    rw [List.range_succ, List.map_append, List.sum_append, sum_sm f n]
    simp [sm]
theorem sum_nI (f : Nat → Int) (n : Nat) : gSum (.lst ((List.range n).map fun a => D.int (f a))) = some (.fz (.int (sm f n))) := by
  have e : ((List.range n).map fun a => D.int (f a)) = IL ((List.range n).map f) := by simp [IL]
  rw [e, sum_map, sum_sm]

theorem ghosts_of_eq {p : Nat} {xs : List Int} (hs : Sz p xs.length) (hx' : Sm xs) : F_ghosts_of [.tup (IL xs), .int p] = .ok (.fz (.tup (IL (gh p xs)))) := by
  have hp1 := hs.p1
  have hN := hs.n3
  obtain ⟨ρ2, e1, e2⟩ := forGo_rg (t := .nm 3) (body := sApp 2 (eU gSum (eLc [4] (iRg1 (aCons (eOp gAdd (eVar 3) (eC (.int 1))) (aNil))) (.nm 4) (tYesF) (eOp gMul2 (eCall 2 F_power [] (aCons (eVar 1) (aCons (eVar 4) (aNil)))) (eCall 2 F_power [] (aCons (eOp gIx (eVar 0) (eVar 4)) (aCons (eCall 2 F_power [] (aCons (eVar 1) (aCons (eOp Rf.gSub (eVar 3) (eVar 4)) (aNil)))) (aNil)))))))) (n := xs.length)
    (fun i ρ => ∃ c, (c = .un ∨ ∃ d, c = .fz d) ∧ ρ = [.fz (.tup (IL xs)), .fz (.int p), .ow false (IL ((List.range i).map (gG p (gx xs)))), c, .un]) (fun i ρ hi hI => by
    obtain ⟨c, hc, rfl⟩ := hI
    refine ⟨[.fz (.tup (IL xs)), .fz (.int p), .ow false (IL ((List.range i).map (gG p (gx xs)))), .fz (.int i), .un], [.fz (.tup (IL xs)), .fz (.int p), .ow false (IL ((List.range (i + 1)).map (gG p (gx xs)))), .fz (.int i), .un], ?_, ?_, ?_⟩
    · rcases hc with rfl | ⟨d, rfl⟩ <;> rfl
    · have e1 : (i : Int) + 1 = ((i + 1 : Nat) : Int) := by omega
      refine v_sapp rfl (v_u (v_lc (L := List.range (i + 1)) (c := nI) (g := fun k => .int ((p : Int) ^ k * gx xs k ^ p ^ (i - k))) (v_rg1 (n := i + 1) (v_cons (v_op (v_fz rfl) v_c rfl rfl rfl) rfl v_nil) (by omega)) rfl (by rw [List.length_range]; omega) rfl (fun k hk => ⟨[.fz (.tup (IL xs)), .fz (.int p), .ow false (IL ((List.range i).map (gG p (gx xs)))), .fz (.int i), .fz (.int k)], [.fz (.tup (IL xs)), .fz (.int p), .ow false (IL ((List.range i).map (gG p (gx xs)))), .fz (.int i), .fz (.int k)], rfl, ?_, rfl⟩) rfl) rfl (sum_nI _ _)) ?_
      · rw [List.mem_range] at hk
        have hk2 : k < xs.length := by omega
        have hx := hx'.at k
        have hq : p ^ (i - k) ≤ 125 := Nat.le_trans (hs.pw (k := i - k) (by omega)) (by decide)
        have hm := term_ok hs hi (by omega : k ≤ i) hx
        have hk := hk2
        exact (v_op (v_call0 (v_cons (v_fz rfl) rfl (v_cons (v_fz rfl) rfl v_nil)) rfl (power_eq (k := k) rfl hp1 (by omega)))
    (v_call0 (v_cons (v_op (v_fz rfl) (v_fz rfl) rfl rfl (ix_nat hk)) rfl (v_cons (v_call0 (v_cons (v_fz rfl) rfl (v_cons (v_op (v_fz rfl) (v_fz rfl) rfl rfl rfl) rfl v_nil)) rfl (power_eq (k := i - k) (by omega) hp1 (by omega))) rfl v_nil)) rfl (power_eq (k := p ^ (i - k)) (by simp) hx hq)) rfl rfl (gMul2_int hm))
      · rw [List.range_succ (n := i), List.map_append]
        show (if szOk (IL ((List.range i).map (gG p (gx xs)))).length = true then R.ok (Fl.nx, _) else R.no) = _
        rw [if_pos (by simp [szOk]; omega)]
        simp [gG, IL]
        rfl
    · exact ⟨_, .inr ⟨_, rfl⟩, rfl⟩) (ρ := [.fz (.tup (IL xs)), .fz (.int p), .ow false [], .un, .un]) ⟨.un, .inl rfl, rfl⟩
  obtain ⟨c, _, rfl⟩ := e2
  have b : B_ghosts_of [.fz (.tup (IL xs)), .fz (.int p), .un, .un, .un] = .ok (.rt (.fz (.tup (IL (gh p xs)))), [.fz (.tup (IL xs)), .fz (.int p), .ow false (IL (gh p xs)), c, .un]) := by
    refine v_seq (ρ1 := [.fz (.tup (IL xs)), .fz (.int p), .ow false [], .un, .un]) (v_set (v_lst v_nil rfl) rfl) (v_seq (v_for (v_rg1 (n := xs.length) (v_cons (v_u (v_fz rfl) rfl (len_IL xs)) rfl v_nil) (by omega)) e1) (v_ret (v_u (v_ow rfl) rfl rfl) rfl))
  show outF (B_ghosts_of [.fz (.tup (IL xs)), .fz (.int p), .un, .un, .un]) = _
  rw [b]
  rfl

/-- the vector whose ghosts are r -/
def vec (p : Nat) (r : Nat → Int) : Nat → List Int
  | 0 => []
  | n + 1 => vec p r n ++ [(r n - gS p (gx (vec p r n)) n) / (p : Int) ^ n]
theorem vec_len (p : Nat) (r : Nat → Int) : ∀ n, (vec p r n).length = n
  | 0 => rfl
  | n + 1 => by rw [vec, List.length_append, vec_len p r n]; rfl
theorem gx_app {xs ys : List Int} {k : Nat} (h : k < xs.length) : gx (xs ++ ys) k = gx xs k := by
  simp [gx, List.getD, List.getElem?_append_left h]
theorem vec_at (p : Nat) (r : Nat → Int) {k : Nat} : ∀ {n m : Nat}, k < n → n ≤ m → gx (vec p r m) k = gx (vec p r n) k
  | n, 0, h, l => by omega
  | n, m + 1, h, l => by
    by_cases e : n = m + 1
    · rw [e]
    · rw [vec, gx_app (by rw [vec_len]; omega)]
      exact vec_at p r h (by omega)
theorem gS_congr {p : Nat} {x y : Nat → Int} {n : Nat} (h : ∀ k, k < n → x k = y k) : gS p x n = gS p y n := sm_congr fun k hk => by
  show (p : Int) ^ k * x k ^ _ = (p : Int) ^ k * y k ^ _
  rw [h k hk]
theorem vec_step (p : Nat) (r : Nat → Int) {n N : Nat} (h : n < N) : gx (vec p r N) n = (r n - gS p (gx (vec p r N)) n) / (p : Int) ^ n := by
  rw [vec_at p r (n := n + 1) (by omega) (by omega)]
  have e : gx (vec p r (n + 1)) n = (r n - gS p (gx (vec p r n)) n) / (p : Int) ^ n := by
    rw [vec]
    have := vec_len p r n
    simp [gx, List.getD, List.getElem?_append, this]
  rw [e]
  congr 1
  congr 1
  exact gS_congr fun k hk => (vec_at p r hk (by omega)).symm
theorem vec_gG {p : Nat} (hp : Fer p) {r : Nat → Int} {N : Nat} (h : Row p r N) : ∀ n, n < N → gG p (gx (vec p r N)) n = r n := of_row hp h fun n hn => vec_step p r hn
/-- bounds of the ghosts that the law meets -/
def bd (N n : Nat) : Nat := if N ≤ 2 then (if n = 0 then 16 else 10 ^ 7) else (if n = 0 then 4 else if n = 1 then 200 else if n = 2 then 4 * 10 ^ 5 else 2 * 10 ^ 16)
def Bd (N : Nat) (r : Nat → Int) : Prop := ∀ n, n < N → (r n).natAbs ≤ bd N n

theorem vector_of_eq {p : Nat} {rs : List Int} (hs : Sz p rs.length) (hv : ∀ i, i < rs.length → ∀ k, (gx (vec p (gx rs) i) k).natAbs < 2 ^ 300) : F_vector_of [.lst (IL rs), .int p] = .ok (.fz (.tup (IL (vec p (gx rs) rs.length)))) := by
  have hp1 := hs.p1
  have hp5 := hs.p5
  have hN := hs.n3
  obtain ⟨ρ2, e1, e2⟩ := forGo_rg (t := .nm 3) (body := (sSeq (sSet 4 (eOp Rf.gSub (eOp gIx (eVar 0) (eVar 3)) (eU gSum (eLc [5] (iRg1 (aCons (eVar 3) (aNil))) (.nm 5) (tYesF) (eOp gMul2 (eCall 2 F_power [] (aCons (eVar 1) (aCons (eVar 5) (aNil)))) (eCall 2 F_power [] (aCons (eOp gIx (eVar 2) (eVar 5)) (aCons (eCall 2 F_power [] (aCons (eVar 1) (aCons (eOp Rf.gSub (eVar 3) (eVar 5)) (aNil)))) (aNil)))))))))
  (sApp 2 (eOp gDiv (eVar 4) (eCall 2 F_power [] (aCons (eVar 1) (aCons (eVar 3) (aNil)))))))) (n := rs.length)
    (fun i ρ => ∃ c c', (c = .un ∨ ∃ d, c = .fz d) ∧ (c' = .un ∨ ∃ d, c' = .fz d) ∧ ρ = [.fz (.lst (IL rs)), .fz (.int p), .ow false (IL (vec p (gx rs) i)), c, c', .un]) (fun i ρ hi hI => by
    obtain ⟨c, c', hc, hc', rfl⟩ := hI
    have hlv := vec_len p (gx rs) i
    refine ⟨[.fz (.lst (IL rs)), .fz (.int p), .ow false (IL (vec p (gx rs) i)), .fz (.int i), c', .un], [.fz (.lst (IL rs)), .fz (.int p), .ow false (IL (vec p (gx rs) (i + 1))), .fz (.int i), .fz (.int (gx rs i - gS p (gx (vec p (gx rs) i)) i)), .un], ?_, ?_, ?_⟩
    · rcases hc with rfl | ⟨d, rfl⟩ <;> rfl
    · refine v_seq (ρ1 := [.fz (.lst (IL rs)), .fz (.int p), .ow false (IL (vec p (gx rs) i)), .fz (.int i), .fz (.int (gx rs i - gS p (gx (vec p (gx rs) i)) i)), .un]) (v_set (v_op (v_op (v_fz rfl) (v_fz rfl) rfl rfl (ix_natL hi)) (v_u (v_lc (L := List.range i) (c := nI) (g := fun k => .int ((p : Int) ^ k * gx (vec p (gx rs) i) k ^ p ^ (i - k))) (v_rg1 (n := i) (v_cons (v_fz rfl) rfl v_nil) (by omega)) rfl (by rw [List.length_range]; omega) rfl (fun k hk => ⟨[.fz (.lst (IL rs)), .fz (.int p), .ow false (IL (vec p (gx rs) i)), .fz (.int i), c', .fz (.int k)], [.fz (.lst (IL rs)), .fz (.int p), .ow false (IL (vec p (gx rs) i)), .fz (.int i), c', .fz (.int k)], rfl, ?_, rfl⟩) rfl) rfl (sum_nI _ _)) rfl rfl rfl) ?_) ?_
      · rw [List.mem_range] at hk
        have hx := hv i hi k
        have hq : p ^ (i - k) ≤ 125 := Nat.le_trans (hs.pw (k := i - k) (by omega)) (by decide)
        have hm := term_ok hs hi (by omega : k ≤ i) hx
        rw [← hlv] at hk
        exact (v_op (v_call0 (v_cons (v_fz rfl) rfl (v_cons (v_fz rfl) rfl v_nil)) rfl (power_eq (k := k) rfl hp1 (by omega)))
    (v_call0 (v_cons (v_op (v_ow rfl) (v_fz rfl) rfl rfl (ix_natL hk)) rfl (v_cons (v_call0 (v_cons (v_fz rfl) rfl (v_cons (v_op (v_fz rfl) (v_fz rfl) rfl rfl rfl) rfl v_nil)) rfl (power_eq (k := i - k) (by omega) hp1 (by omega))) rfl v_nil)) rfl (power_eq (k := p ^ (i - k)) (by simp) hx hq)) rfl rfl (gMul2_int hm))
      · rcases hc' with rfl | ⟨d, rfl⟩ <;> rfl
      · have hpi := hs.pw hi
        have hd : divOk ((p : Int) ^ i) = true := divOk_of (Int.pow_pos (by omega)) (by rw [Int.natAbs_pow, Int.natAbs_natCast]; exact Nat.lt_of_le_of_lt hpi (Nat.lt_of_lt_of_le (by decide : 27 < 2 ^ 5) (Nat.pow_le_pow_right (by decide) (by decide))))
        refine v_sapp rfl (v_op (v_fz rfl) (v_call0 (v_cons (v_fz rfl) rfl (v_cons (v_fz rfl) rfl v_nil)) rfl (power_eq (k := i) rfl hp1 (by omega))) rfl rfl (gDiv_int hd)) ?_
        show (if szOk (IL (vec p (gx rs) i)).length = true then R.ok (Fl.nx, _) else R.no) = _
        rw [if_pos (by rw [List.length_map, hlv]; simp [szOk]; omega)]
        simp [vec, IL]
    · exact ⟨_, _, .inr ⟨_, rfl⟩, .inr ⟨_, rfl⟩, rfl⟩) (ρ := [.fz (.lst (IL rs)), .fz (.int p), .ow false [], .un, .un, .un]) ⟨.un, .un, .inl rfl, .inl rfl, rfl⟩
  obtain ⟨c, c', _, _, rfl⟩ := e2
  have b : B_vector_of [.fz (.lst (IL rs)), .fz (.int p), .un, .un, .un, .un] = .ok (.rt (.fz (.tup (IL (vec p (gx rs) rs.length)))), [.fz (.lst (IL rs)), .fz (.int p), .ow false (IL (vec p (gx rs) rs.length)), c, c', .un]) := by
    refine v_seq (ρ1 := [.fz (.lst (IL rs)), .fz (.int p), .ow false [], .un, .un, .un]) (v_set (v_lst v_nil rfl) rfl) (v_seq (v_for (v_rg1 (n := rs.length) (v_cons (v_u (v_fz rfl) rfl (len_ILl rs)) rfl v_nil) (by omega)) e1) (v_ret (v_u (v_ow rfl) rfl rfl) rfl))
  show outF (B_vector_of [.fz (.lst (IL rs)), .fz (.int p), .un, .un, .un, .un]) = _
  rw [b]
  rfl

end L50
end
section
set_option Elab.async false
set_option linter.all false
set_option maxRecDepth 100000
set_option maxHeartbeats 4000000
set_option exponentiation.threshold 400
namespace L50
open PySem PySem.Spec PyProof.Rows L2 Rf WM
abbrev tb (r : Nat → Int) (N : Nat) : List Int := (List.range N).map r
theorem tb_len (r : Nat → Int) (N : Nat) : (tb r N).length = N := by simp
theorem tb_at {r : Nat → Int} {N n : Nat} (h : n < N) : gx (tb r N) n = r n := by simp [gx, tb, List.getD, h]
theorem vec_congr {p : Nat} {r s : Nat → Int} : ∀ {N : Nat}, (∀ n, n < N → r n = s n) → vec p r N = vec p s N
  | 0, _ => rfl
  | N + 1, h => by rw [vec, vec, vec_congr (N := N) (fun n hn => h n (by omega)), h N (by omega)]
theorem gx_ge {xs : List Int} {k : Nat} (h : xs.length ≤ k) : gx xs k = 0 := by simp [gx, List.getD, h]
theorem div_abs (a b : Int) : (a / b).natAbs ≤ a.natAbs := Int.natAbs_ediv_le_natAbs a b
theorem abs_sub (a b : Int) : (a - b).natAbs ≤ a.natAbs + b.natAbs := by omega
theorem vec_small {p N : Nat} {r : Nat → Int} (hs : Sz p N) (hb : Bd N r) : ∀ k, (gx (vec p r N) k).natAbs ≤ 10 ^ 60 := by
  have step := fun n (h : n < N) => vec_step p r h
  generalize hx : gx (vec p r N) = x at step ⊢
  have big : ∀ k, N ≤ k → (x k).natAbs ≤ 10 ^ 60 := fun k hk => by
    rw [← hx, gx_ge (by rw [vec_len]; exact hk)]
    decide
  have hN := hs.n3
  have e0 : x 0 = r 0 := by
    rw [step 0 (by omega)]
    simp [gS, sm]
  have b0 := hb 0 (by omega)
  by_cases h2 : N ≤ 2
  · have c0 : (x 0).natAbs ≤ 16 := by rw [e0]; simpa [bd, h2] using b0
    have c1 : 1 < N → (x 1).natAbs ≤ 10 ^ 60 := fun h1 => by
      rw [step 1 h1]
      have b1 : (r 1).natAbs ≤ 10 ^ 7 := by simpa [bd, h2] using hb 1 h1
      have g : (gS p x 1).natAbs ≤ 16 ^ 5 := by
        have e : gS p x 1 = x 0 ^ p := by simp [gS, sm]
        rw [e, Int.natAbs_pow]
        exact Nat.le_trans (Nat.pow_le_pow_left c0 p) (Nat.pow_le_pow_right (by decide) hs.p5.2)
      have := div_abs (r 1 - gS p x 1) ((p : Int) ^ 1)
      have := abs_sub (r 1) (gS p x 1)
      omega
    intro k
    by_cases hk : N ≤ k
    · exact big k hk
    · have : k = 0 ∨ k = 1 := by omega
      rcases this with rfl | rfl
      · exact Nat.le_trans c0 (by decide)
      · exact c1 (by omega)
  · have h3 : 3 ≤ N := by omega
    have p3 : p ≤ 3 := by unfold Sz at hs; omega
    have c0 : (x 0).natAbs ≤ 4 := by rw [e0]; simpa [bd, h2] using b0
    have q : ∀ k (y : Int) (b : Nat), y.natAbs ≤ b → 0 < b → (y ^ p ^ k).natAbs ≤ b ^ 3 ^ k := fun k y b hy hb => by
      rw [Int.natAbs_pow]
      exact Nat.le_trans (Nat.pow_le_pow_left hy _) (Nat.pow_le_pow_right hb (Nat.pow_le_pow_left p3 k))
    have qm : ∀ j (z : Int) (b : Nat), z.natAbs ≤ b → ((p : Int) ^ j * z).natAbs ≤ 3 ^ j * b := fun j z b hz => by
      rw [Int.natAbs_mul, Int.natAbs_pow, Int.natAbs_natCast]
      exact Nat.mul_le_mul (Nat.pow_le_pow_left p3 j) hz
    have c1 : (x 1).natAbs ≤ 264 := by
      rw [step 1 (by omega)]
      have b1 : (r 1).natAbs ≤ 200 := by simpa [bd, h2] using hb 1 (by omega)
      have e : gS p x 1 = x 0 ^ p ^ 1 := by simp [gS, sm]
      have g := q 1 (x 0) 4 c0 (by decide)
      rw [← e] at g
      have := div_abs (r 1 - gS p x 1) ((p : Int) ^ 1)
      have := abs_sub (r 1) (gS p x 1)
      omega
    have c2 : (x 2).natAbs ≤ 6 * 10 ^ 7 := by
      rw [step 2 (by omega)]
      have b2 : (r 2).natAbs ≤ 4 * 10 ^ 5 := by simpa [bd, h2] using hb 2 (by omega)
      have e : gS p x 2 = x 0 ^ p ^ 2 + (p : Int) ^ 1 * x 1 ^ p ^ 1 := by simp [gS, sm]
      have g := q 2 (x 0) 4 c0 (by decide)
      have g2 := qm 1 _ _ (q 1 (x 1) 264 c1 (by decide))
      have := div_abs (r 2 - gS p x 2) ((p : Int) ^ 2)
      have := abs_sub (r 2) (gS p x 2)
      have := Int.natAbs_add_le (x 0 ^ p ^ 2) ((p : Int) ^ 1 * x 1 ^ p ^ 1)
      rw [← e] at this
      omega
    have c3 : 3 < N → (x 3).natAbs ≤ 10 ^ 60 := fun h4 => by
      rw [step 3 h4]
      have b3 : (r 3).natAbs ≤ 2 * 10 ^ 16 := by simpa [bd, h2] using hb 3 h4
      have e : gS p x 3 = x 0 ^ p ^ 3 + (p : Int) ^ 1 * x 1 ^ p ^ 2 + (p : Int) ^ 2 * x 2 ^ p ^ 1 := by simp [gS, sm]
      have g := q 3 (x 0) 4 c0 (by decide)
      have g2 := qm 1 _ _ (q 2 (x 1) 264 c1 (by decide))
      have g3 := qm 2 _ _ (q 1 (x 2) (6 * 10 ^ 7) c2 (by decide))
      have := div_abs (r 3 - gS p x 3) ((p : Int) ^ 3)
      have := abs_sub (r 3) (gS p x 3)
      have t1 := Int.natAbs_add_le (x 0 ^ p ^ 3) ((p : Int) ^ 1 * x 1 ^ p ^ 2)
      have t2 := Int.natAbs_add_le (x 0 ^ p ^ 3 + (p : Int) ^ 1 * x 1 ^ p ^ 2) ((p : Int) ^ 2 * x 2 ^ p ^ 1)
      rw [← e] at t2
      omega
    intro k
    by_cases hk : N ≤ k
    · exact big k hk
    · have := hs.n3
      have : k = 0 ∨ k = 1 ∨ k = 2 ∨ k = 3 := by omega
      rcases this with rfl | rfl | rfl | rfl
      · exact Nat.le_trans c0 (by decide)
      · exact Nat.le_trans c1 (by decide)
      · exact Nat.le_trans c2 (by decide)
      · exact c3 (by omega)
theorem mem_gx {xs : List Int} {x : Int} (h : x ∈ xs) : ∃ k, x = gx xs k := by
  obtain ⟨k, hk, e⟩ := List.getElem_of_mem h
  exact ⟨k, by simp [gx, List.getD, hk, e]⟩
theorem vec_sm {p N : Nat} {r : Nat → Int} (hs : Sz p N) (hb : Bd N r) : Sm (vec p r N) := fun x hx => by
  obtain ⟨k, rfl⟩ := mem_gx hx
  exact vec_small hs hb k
theorem vec_pre {p N : Nat} {r : Nat → Int} (hs : Sz p N) (hb : Bd N r) {i : Nat} (hi : i < N) (k : Nat) : (gx (vec p r i) k).natAbs < 2 ^ 300 := by
  by_cases hk : k < i
  · rw [← vec_at p r hk (by omega : i ≤ N)]
    exact Nat.lt_of_le_of_lt (vec_small hs hb k) (by decide)
  · rw [gx_ge (by rw [vec_len]; omega)]
    exact Nat.lt_of_lt_of_le (by decide : 0 < 1) (Nat.one_le_two_pow)
theorem vector_of_tb {p N : Nat} {r : Nat → Int} (hs : Sz p N) (hb : Bd N r) : F_vector_of [.lst (IL (tb r N)), .int p] = .ok (.fz (.tup (IL (vec p r N)))) := by
  have e : ∀ i, i ≤ N → vec p (gx (tb r N)) i = vec p r i := fun i hi => vec_congr fun n hn => tb_at (by omega)
  have h := vector_of_eq (p := p) (rs := tb r N) (by rw [tb_len]; exact hs) (fun i hi k => by
    rw [tb_len] at hi
    rw [e i (by omega)]
    exact vec_pre hs hb hi k)
  rw [h, tb_len, e N (by omega)]
/-! checks -/
theorem length_one {p N : Nat} (h : Sz p N) : F_check_length [.int p, .int 1] = .ok (.fz .non) := by
  rcases h with ⟨rfl, h1, h2⟩ | ⟨rfl, h1, h2⟩ | ⟨rfl, h1, h2⟩ <;> rfl
theorem length_n {p N : Nat} (h : Sz p N) : F_check_length [.int p, .int N] = .ok (.fz .non) := by
  rcases h with ⟨rfl, h1, h2⟩ | ⟨rfl, h1, h2⟩ | ⟨rfl, h1, h2⟩
  all_goals
    have : N = 1 ∨ N = 2 ∨ N = 3 ∨ N = 4 := by omega
    rcases this with rfl | rfl | rfl | rfl <;> first | rfl | omega
theorem all_map {α : Type} (f : α → Bool) (L : List α) : gAll (.lst (L.map fun a => D.bl (f a))) = some (.fz (.bl (L.all f))) := by
  have e : L.map (fun a => D.bl (f a)) = (L.map f).map D.bl := by simp
  rw [e]
  show (blsD ((L.map f).map D.bl)).map _ = _
  have b : ∀ bs : List Bool, blsD (bs.map D.bl) = some bs := fun bs => by
    induction bs with
    | nil => rfl
    | cons b bs ih => rw [List.map_cons, blsD, ih]; rfl
  rw [b]
  simp [List.all_map]
theorem whole_row (xs : List Int) (h : xs.length < 1000000) : F_is_whole_row [.tup (IL xs)] = .ok (.fz (.bl true)) := by
  have b : B_is_whole_row [.fz (.tup (IL xs)), .un] = .ok (.rt (.fz (.bl true)), [.fz (.tup (IL xs)), .un]) := by
    refine v_ret (v_andT (v_u (v_fz rfl) rfl rfl) (v_u (v_lc (L := xs) (c := .int) (g := fun _ => .bl true) (v_seqT (v_fz rfl) rfl) rfl h rfl (fun x _ => ⟨[.fz (.tup (IL xs)), .fz (.int x)], _, rfl, v_call0 (v_cons (v_fz rfl) rfl v_nil) rfl rfl, rfl⟩) rfl) rfl (all_map (fun _ => true) xs))) ?_
    have e : xs.all (fun _ => true) = true := by simp
    rw [e]
    rfl
  show outF (B_is_whole_row [.fz (.tup (IL xs)), .un]) = _
  rw [b]
  rfl
theorem abs_le {x : Int} (h : x.natAbs ≤ 10 ^ 60) : (if x < 0 then -x else x) ≤ 1000000000000000000000000000000000000000000000000000000000000 := by
  split <;> omega
theorem is_vector_eq {p : Nat} {xs : List Int} (hp : p ≤ 5) (h1 : 1 ≤ xs.length) (h2 : xs.length ≤ (if p < 5 then 6 else 4)) (hx : Sm xs) : F_is_vector [.tup (IL xs), .int p] = .ok (.fz (.bl true)) := by
  have b : B_is_vector [.fz (.tup (IL xs)), .fz (.int p), .un] = .ok (.rt (.fz (.bl true)), [.fz (.tup (IL xs)), .fz (.int p), .un]) := by
    refine v_seq (ρ1 := [.fz (.tup (IL xs)), .fz (.int p), .un]) (v_sifF (v_orF (v_not (v_t (v_call0 (v_cons (v_fz rfl) rfl v_nil) rfl (whole_row xs (by have := h2; split at this <;> omega))))) (v_not (b := true) (v_t (v_ch (pc := .fz (.int (if p < 5 then 6 else 4))) v_c (v_u (v_fz rfl) rfl (len_IL xs)) rfl rfl ?_ (v_if (v_t (v_op (v_fz rfl) v_c rfl rfl rfl)) ?_) rfl rfl ?_)))) rfl) ?_
    · show some (PV.fz (.bl (decide ((1 : Int) ≤ xs.length)))) = _
      rw [decide_eq_true (by omega)]
    · by_cases h5 : p < 5
      · rw [if_pos (decide_eq_true (by omega)), if_pos h5]
        rfl
      · rw [if_neg (by simp; omega), if_neg h5]
        rfl
    · show some (PV.fz (.bl (decide ((xs.length : Int) ≤ (if p < 5 then 6 else 4))))) = _
      rw [decide_eq_true (by have := h2; split at this <;> split <;> omega)]
    · refine v_ret (v_u (v_lc (L := xs) (c := .int) (g := fun x => .bl (decide ((if x < 0 then -x else x) ≤ 1000000000000000000000000000000000000000000000000000000000000))) (v_seqT (v_fz rfl) rfl) rfl (by have := h2; split at this <;> omega) rfl (fun x _ => ⟨[.fz (.tup (IL xs)), .fz (.int p), .fz (.int x)], _, rfl, v_op (v_u (v_fz rfl) rfl rfl) v_c rfl rfl rfl, rfl⟩) rfl) rfl (all_map _ xs)) ?_
      have e : xs.all (fun x => decide ((if x < 0 then -x else x) ≤ 1000000000000000000000000000000000000000000000000000000000000)) = true := by
        rw [List.all_eq_true]
        intro x hx'
        exact decide_eq_true (abs_le (hx x hx'))
      rw [e]
      rfl
  show outF (B_is_vector [.fz (.tup (IL xs)), .fz (.int p), .un]) = _
  rw [b]
  rfl
theorem check_vector_eq {p N : Nat} {xs : List Int} (hs : Sz p N) (h1 : 1 ≤ xs.length) (h2 : xs.length ≤ (if p < 5 then 6 else 4)) (hx : Sm xs) : F_check_vector [.tup (IL xs), .int p] = .ok (.fz .non) := by
  have b : B_check_vector [.fz (.tup (IL xs)), .fz (.int p)] = .ok (.nx, [.fz (.tup (IL xs)), .fz (.int p)]) :=
    v_seq (v_ex (v_call0 (v_cons (v_fz rfl) rfl (v_cons v_c rfl v_nil)) rfl (length_one hs))) (v_sifF (v_not (v_t (v_call0 (v_cons (v_fz rfl) rfl (v_cons (v_fz rfl) rfl v_nil)) rfl (is_vector_eq hs.p5.2 h1 h2 hx)))) rfl)
  show outF (B_check_vector [.fz (.tup (IL xs)), .fz (.int p)]) = _
  rw [b]
  rfl
/-- a vector that the law meets -/
structure Vc (p N : Nat) (xs : List Int) : Prop where
  sz : Sz p N
  len : xs.length = N
  sm : Sm xs
theorem Vc.chk {p N : Nat} {xs : List Int} (h : Vc p N xs) : F_check_vector [.tup (IL xs), .int p] = .ok (.fz .non) :=
  check_vector_eq h.sz (by rw [h.len]; exact h.sz.n3.1) (by rw [h.len]; have := h.sz; unfold Sz at this; split <;> omega) h.sm
theorem check_two_eq {p N : Nat} {xs ys : List Int} (hx : Vc p N xs) (hy : Vc p N ys) : F_check_two [.tup (IL xs), .tup (IL ys), .int p] = .ok (.fz .non) := by
  have b : B_check_two [.fz (.tup (IL xs)), .fz (.tup (IL ys)), .fz (.int p)] = .ok (.nx, [.fz (.tup (IL xs)), .fz (.tup (IL ys)), .fz (.int p)]) := by
    refine v_seq (v_ex (v_call0 (v_cons (v_fz rfl) rfl (v_cons (v_fz rfl) rfl v_nil)) rfl hx.chk)) (v_seq (v_ex (v_call0 (v_cons (v_fz rfl) rfl (v_cons (v_fz rfl) rfl v_nil)) rfl hy.chk)) (v_sifF (v_t (v_op (v_u (v_fz rfl) rfl (len_IL xs)) (v_u (v_fz rfl) rfl (len_IL ys)) rfl rfl ?_)) rfl))
    rw [hx.len, hy.len, ne_int]
    simp
  show outF (B_check_two [.fz (.tup (IL xs)), .fz (.tup (IL ys)), .fz (.int p)]) = _
  rw [b]
  rfl
/-! the operations -/
abbrev gf (p : Nat) (xs : List Int) : Nat → Int := gG p (gx xs)
theorem Vc.gh {p N : Nat} {xs : List Int} (h : Vc p N xs) : F_ghosts_of [.tup (IL xs), .int p] = .ok (.fz (.tup (IL (tb (gf p xs) N)))) := by
  have := ghosts_of_eq (p := p) (xs := xs) (by rw [h.len]; exact h.sz) h.sm
  rw [this]
  unfold L50.gh
  rw [h.len]
theorem zip_tb (r s : Nat → Int) (N : Nat) : zipD (IL (tb r N)) (IL (tb s N)) = (List.range N).map fun n => .tup [.int (r n), .int (s n)] := by
  rw [zip_map]
  simp [tb, List.zip_map', Function.comp]
theorem IL_tb (r : Nat → Int) (N : Nat) : (List.range N).map (fun n => D.int (r n)) = IL (tb r N) := by simp [IL, tb]
theorem plus_eq {p N : Nat} {xs ys : List Int} (hx : Vc p N xs) (hy : Vc p N ys) (hb : Bd N fun n => gf p xs n + gf p ys n) :
    F_vector_plus [.tup (IL xs), .tup (IL ys), .int p] = .ok (.fz (.tup (IL (vec p (fun n => gf p xs n + gf p ys n) N)))) := by
  have hN := hx.sz.n3
  have b : B_vector_plus [.fz (.tup (IL xs)), .fz (.tup (IL ys)), .fz (.int p), .un, .un] = .ok (.rt (.fz (.tup (IL (vec p (fun n => gf p xs n + gf p ys n) N)))), [.fz (.tup (IL xs)), .fz (.tup (IL ys)), .fz (.int p), .un, .un]) := by
    refine v_seq (v_ex (v_call0 (v_cons (v_fz rfl) rfl (v_cons (v_fz rfl) rfl (v_cons (v_fz rfl) rfl v_nil))) rfl (check_two_eq hx hy))) (v_ret (pv := .fz (.tup (IL (vec p (fun n => gf p xs n + gf p ys n) N)))) (v_call0 (v_cons (v_lc (ρ1 := [.fz (.tup (IL xs)), .fz (.tup (IL ys)), .fz (.int p), .un, .un]) (L := List.range N) (c := fun n => .tup [.int (gf p xs n), .int (gf p ys n)]) (g := fun n => .int (gf p xs n + gf p ys n)) ?_ rfl (by rw [List.length_range]; omega) rfl (fun n _ => ⟨[.fz (.tup (IL xs)), .fz (.tup (IL ys)), .fz (.int p), .fz (.int (gf p xs n)), .fz (.int (gf p ys n))], _, rfl, v_op (v_fz rfl) (v_fz rfl) rfl rfl rfl, rfl⟩) rfl) rfl (v_cons (v_fz rfl) rfl v_nil)) rfl ?_) rfl)
    · rw [← zip_tb]
      exact v_zpT (v_cons (v_call0 (v_cons (v_fz rfl) rfl (v_cons (v_fz rfl) rfl v_nil)) rfl hx.gh) rfl (v_cons (v_call0 (v_cons (v_fz rfl) rfl (v_cons (v_fz rfl) rfl v_nil)) rfl hy.gh) rfl v_nil))
    · rw [IL_tb]
      exact vector_of_tb hx.sz hb
  show outF (B_vector_plus [.fz (.tup (IL xs)), .fz (.tup (IL ys)), .fz (.int p), .un, .un]) = _
  rw [b]
  rfl
theorem times_eq {p N : Nat} {xs ys : List Int} (hx : Vc p N xs) (hy : Vc p N ys) (hb : Bd N fun n => gf p xs n * gf p ys n) (hm : ∀ n, n < N → (gf p xs n).natAbs < 2 ^ Bg ∧ (gf p ys n).natAbs < 2 ^ Bg) :
    F_vector_times [.tup (IL xs), .tup (IL ys), .int p] = .ok (.fz (.tup (IL (vec p (fun n => gf p xs n * gf p ys n) N)))) := by
  have hN := hx.sz.n3
  have b : B_vector_times [.fz (.tup (IL xs)), .fz (.tup (IL ys)), .fz (.int p), .un, .un] = .ok (.rt (.fz (.tup (IL (vec p (fun n => gf p xs n * gf p ys n) N)))), [.fz (.tup (IL xs)), .fz (.tup (IL ys)), .fz (.int p), .un, .un]) := by
    refine v_seq (v_ex (v_call0 (v_cons (v_fz rfl) rfl (v_cons (v_fz rfl) rfl (v_cons (v_fz rfl) rfl v_nil))) rfl (check_two_eq hx hy))) (v_ret (pv := .fz (.tup (IL (vec p (fun n => gf p xs n * gf p ys n) N)))) (v_call0 (v_cons (v_lc (ρ1 := [.fz (.tup (IL xs)), .fz (.tup (IL ys)), .fz (.int p), .un, .un]) (L := List.range N) (c := fun n => .tup [.int (gf p xs n), .int (gf p ys n)]) (g := fun n => .int (gf p xs n * gf p ys n)) ?_ rfl (by rw [List.length_range]; omega) rfl (fun n hn => ⟨[.fz (.tup (IL xs)), .fz (.tup (IL ys)), .fz (.int p), .fz (.int (gf p xs n)), .fz (.int (gf p ys n))], _, rfl, v_op (v_fz rfl) (v_fz rfl) rfl rfl (gMul2_int (mulOk_of (hm n (List.mem_range.1 hn)).1 (hm n (List.mem_range.1 hn)).2)), rfl⟩) rfl) rfl (v_cons (v_fz rfl) rfl v_nil)) rfl ?_) rfl)
    · rw [← zip_tb]
      exact v_zpT (v_cons (v_call0 (v_cons (v_fz rfl) rfl (v_cons (v_fz rfl) rfl v_nil)) rfl hx.gh) rfl (v_cons (v_call0 (v_cons (v_fz rfl) rfl (v_cons (v_fz rfl) rfl v_nil)) rfl hy.gh) rfl v_nil))
    · rw [IL_tb]
      exact vector_of_tb hx.sz hb
  show outF (B_vector_times [.fz (.tup (IL xs)), .fz (.tup (IL ys)), .fz (.int p), .un, .un]) = _
  rw [b]
  rfl
end L50
end
section
set_option Elab.async false
set_option linter.all false
set_option maxRecDepth 100000
set_option maxHeartbeats 4000000
set_option exponentiation.threshold 400
namespace L50
open PySem PySem.Spec PyProof.Rows L2 Rf WM
theorem Sz.cases {p N : Nat} (h : Sz p N) : (p = 2 ∨ p = 3 ∨ p = 5) ∧ (N = 1 ∨ N = 2 ∨ N = 3 ∨ N = 4) := by unfold Sz at h; omega
theorem isint {x : Int} : F_is_integer [.int x] = .ok (.fz (.bl true)) := rfl
theorem cut_init (xs : List Int) : Rf.cutD (IL xs) none (some (-1)) = IL xs.dropLast := by
  unfold Rf.cutD HT.sIx
  have e : (-1 + (xs.length : Int)).toNat = xs.length - 1 := by omega
  simp [List.dropLast_eq_take, e]
theorem cut_tail (xs : List Int) : Rf.cutD (IL xs) (some 1) none = IL xs.tail := by
  unfold Rf.cutD HT.sIx
  cases xs with
  | nil => rfl
  | cons x xs =>
    have e : min (Int.toNat 1) (xs.length + 1) = 1 := by
      show min 1 (xs.length + 1) = 1
      omega
    simp [e]
    exact List.take_of_length_le (by simp)
theorem sl_init (xs : List Int) : gSl (.tup (IL xs)) none (some (-1)) = some (.fz (.tup (IL xs.dropLast))) := by
  show some (PV.fz (.tup (Rf.cutD (IL xs) none (some (-1))))) = _
  rw [cut_init]
theorem sl_initL (xs : List Int) : gSl (.lst (IL xs)) none (some (-1)) = some (.fr (IL xs.dropLast)) := by
  show some (PV.fr (Rf.cutD (IL xs) none (some (-1)))) = _
  rw [cut_init]
theorem sl_tail (xs : List Int) : gSl (.tup (IL xs)) (some 1) none = some (.fz (.tup (IL xs.tail))) := by
  show some (PV.fz (.tup (Rf.cutD (IL xs) (some 1) none))) = _
  rw [cut_tail]
theorem sl_tailL (xs : List Int) : gSl (.lst (IL xs)) (some 1) none = some (.fr (IL xs.tail)) := by
  show some (PV.fr (Rf.cutD (IL xs) (some 1) none)) = _
  rw [cut_tail]
theorem add_tt {xs ys : List Int} (h : xs.length + ys.length ≤ 100) : gAdd (.tup (IL xs)) (.tup (IL ys)) = some (.fz (.tup (IL (xs ++ ys)))) := by
  show (if szOk ((IL xs).length + (IL ys).length) = true then some (PV.fz (.tup (IL xs ++ IL ys))) else none) = _
  rw [if_pos (by simp [szOk]; omega)]
  simp [IL]
theorem add_ll {xs ys : List Int} (h : xs.length + ys.length ≤ 100) : gAdd (.lst (IL xs)) (.lst (IL ys)) = some (.fr (IL (xs ++ ys))) := by
  show (if szOk ((IL xs).length + (IL ys).length) = true then some (PV.fr (IL xs ++ IL ys)) else none) = _
  rw [if_pos (by simp [szOk]; omega)]
  simp [IL]
theorem tb_tail (r : Nat → Int) (N : Nat) : (tb r N).tail = tb (fun n => r (n + 1)) (N - 1) := by
  cases N with
  | zero => rfl
  | succ n => simp [tb, List.range_succ_eq_map, Function.comp]
/-! the law's own helpers -/
theorem outF_rt {r : R (Fl × Rho)} {d : D} {ρ : Rho} (h : r = .ok (.rt (.fz d), ρ)) : outF r = .ok (.fz d) := by rw [h]; rfl
theorem tryK_ok {n : Nat} {d1 : D} {d2 : Str → Option D} {r : R (Fl × Rho)} {q : Fl × Rho} (h : r = .ok q) : tryK n d1 d2 r = .ok q := by rw [h]; rfl
theorem tryK_x {n : Nat} {d1 : D} {d2 : Str → Option D} {r : R (Fl × Rho)} (h : r = .exc .mal) : tryK n d1 d2 r = .ok (.rt (.fz d1), List.replicate n .un) := by rw [h]; rfl
abbrev badV : D := .tup [.str "malformed", .non]
theorem told1 {m : Nat} {F : Fn} {a v : D} (ht : tab m = some (1, F)) (h : F [a] = .ok (.fz v)) : F__law_told [.fn m, .tup [a]] = .ok (.fz (.tup [.str "told", v])) := by
  show outF (tryK 3 badV d2R _) = _
  exact outF_rt (tryK_ok (v_seq (v_sifF (v_t (v_op (v_u (v_fz rfl) rfl rfl) v_c rfl rfl rfl)) rfl) (v_seqR (v_sifT (v_t (v_op (v_u (v_fz rfl) rfl rfl) v_c rfl rfl rfl)) (v_ret (v_tup (v_cons v_c rfl (v_cons (v_callD rfl ht (v_cons (v_op (v_fz rfl) v_c rfl rfl rfl) rfl v_nil) rfl h) rfl v_nil)) rfl) rfl)))))
theorem told1x {m : Nat} {F : Fn} {a : D} (ht : tab m = some (1, F)) (h : F [a] = .exc .mal) : F__law_told [.fn m, .tup [a]] = .ok (.fz badV) := by
  show outF (tryK 3 badV d2R _) = _
  rw [tryK_x (v_seq (v_sifF (v_t (v_op (v_u (v_fz rfl) rfl rfl) v_c rfl rfl rfl)) rfl) (v_seqx (v_sifT (v_t (v_op (v_u (v_fz rfl) rfl rfl) v_c rfl rfl rfl)) (v_retx (v_tupx (v_consx2 v_c rfl (v_consx (v_callDx rfl ht (v_cons (v_op (v_fz rfl) v_c rfl rfl rfl) rfl v_nil) rfl h))))))))]
  rfl
theorem val1 {m : Nat} {F : Fn} {a v : D} (ht : tab m = some (1, F)) (h : F [a] = .ok (.fz v)) : F__law_value [.fn m, .tup [a]] = .ok (.fz v) := by
  have t := told1 ht h
  have e : B__law_value [.fz (.fn m), .fz (.tup [a]), .un] = .ok (.rt (.fz v), [.fz (.fn m), .fz (.tup [a]), .fz (.tup [.str "told", v])]) :=
    v_seq (v_set (v_call0 (v_cons (v_fz rfl) rfl (v_cons (v_fz rfl) rfl v_nil)) rfl t) rfl) (v_ret (v_if (v_t (v_op (v_op (v_fz rfl) v_c rfl rfl rfl) v_c rfl rfl rfl)) (v_op (v_fz rfl) v_c rfl rfl rfl)) rfl)
  exact outF_rt e
theorem told2 {m : Nat} {F : Fn} {a b v : D} (ht : tab m = some (2, F)) (h : F [a, b] = .ok (.fz v)) : F__law_told [.fn m, .tup [a, b]] = .ok (.fz (.tup [.str "told", v])) := by
  show outF (tryK 3 badV d2R _) = _
  exact outF_rt (tryK_ok (v_seq (v_sifF (v_t (v_op (v_u (v_fz rfl) rfl rfl) v_c rfl rfl rfl)) rfl) (v_seq (v_sifF (v_t (v_op (v_u (v_fz rfl) rfl rfl) v_c rfl rfl rfl)) rfl) (v_seqR (v_sifT (v_t (v_op (v_u (v_fz rfl) rfl rfl) v_c rfl rfl rfl)) (v_ret (v_tup (v_cons v_c rfl (v_cons (v_callD rfl ht (v_cons (v_op (v_fz rfl) v_c rfl rfl rfl) rfl (v_cons (v_op (v_fz rfl) v_c rfl rfl rfl) rfl v_nil)) rfl h) rfl v_nil)) rfl) rfl))))))
theorem told2x {m : Nat} {F : Fn} {a b : D} (ht : tab m = some (2, F)) (h : F [a, b] = .exc .mal) : F__law_told [.fn m, .tup [a, b]] = .ok (.fz badV) := by
  show outF (tryK 3 badV d2R _) = _
  rw [tryK_x (v_seq (v_sifF (v_t (v_op (v_u (v_fz rfl) rfl rfl) v_c rfl rfl rfl)) rfl) (v_seq (v_sifF (v_t (v_op (v_u (v_fz rfl) rfl rfl) v_c rfl rfl rfl)) rfl) (v_seqx (v_sifT (v_t (v_op (v_u (v_fz rfl) rfl rfl) v_c rfl rfl rfl)) (v_retx (v_tupx (v_consx2 v_c rfl (v_consx (v_callDx rfl ht (v_cons (v_op (v_fz rfl) v_c rfl rfl rfl) rfl (v_cons (v_op (v_fz rfl) v_c rfl rfl rfl) rfl v_nil)) rfl h)))))))))]
  rfl
theorem val2 {m : Nat} {F : Fn} {a b v : D} (ht : tab m = some (2, F)) (h : F [a, b] = .ok (.fz v)) : F__law_value [.fn m, .tup [a, b]] = .ok (.fz v) := by
  have t := told2 ht h
  have e : B__law_value [.fz (.fn m), .fz (.tup [a, b]), .un] = .ok (.rt (.fz v), [.fz (.fn m), .fz (.tup [a, b]), .fz (.tup [.str "told", v])]) :=
    v_seq (v_set (v_call0 (v_cons (v_fz rfl) rfl (v_cons (v_fz rfl) rfl v_nil)) rfl t) rfl) (v_ret (v_if (v_t (v_op (v_op (v_fz rfl) v_c rfl rfl rfl) v_c rfl rfl rfl)) (v_op (v_fz rfl) v_c rfl rfl rfl)) rfl)
  exact outF_rt e
theorem told3 {m : Nat} {F : Fn} {a b c v : D} (ht : tab m = some (3, F)) (h : F [a, b, c] = .ok (.fz v)) : F__law_told [.fn m, .tup [a, b, c]] = .ok (.fz (.tup [.str "told", v])) := by
  show outF (tryK 3 badV d2R _) = _
  exact outF_rt (tryK_ok (v_seq (v_sifF (v_t (v_op (v_u (v_fz rfl) rfl rfl) v_c rfl rfl rfl)) rfl) (v_seq (v_sifF (v_t (v_op (v_u (v_fz rfl) rfl rfl) v_c rfl rfl rfl)) rfl) (v_seq (v_sifF (v_t (v_op (v_u (v_fz rfl) rfl rfl) v_c rfl rfl rfl)) rfl) (v_seqR (v_sifT (v_t (v_op (v_u (v_fz rfl) rfl rfl) v_c rfl rfl rfl)) (v_ret (v_tup (v_cons v_c rfl (v_cons (v_callD rfl ht (v_cons (v_op (v_fz rfl) v_c rfl rfl rfl) rfl (v_cons (v_op (v_fz rfl) v_c rfl rfl rfl) rfl (v_cons (v_op (v_fz rfl) v_c rfl rfl rfl) rfl v_nil))) rfl h) rfl v_nil)) rfl) rfl)))))))
theorem told3x {m : Nat} {F : Fn} {a b c : D} (ht : tab m = some (3, F)) (h : F [a, b, c] = .exc .mal) : F__law_told [.fn m, .tup [a, b, c]] = .ok (.fz badV) := by
  show outF (tryK 3 badV d2R _) = _
  rw [tryK_x (v_seq (v_sifF (v_t (v_op (v_u (v_fz rfl) rfl rfl) v_c rfl rfl rfl)) rfl) (v_seq (v_sifF (v_t (v_op (v_u (v_fz rfl) rfl rfl) v_c rfl rfl rfl)) rfl) (v_seq (v_sifF (v_t (v_op (v_u (v_fz rfl) rfl rfl) v_c rfl rfl rfl)) rfl) (v_seqx (v_sifT (v_t (v_op (v_u (v_fz rfl) rfl rfl) v_c rfl rfl rfl)) (v_retx (v_tupx (v_consx2 v_c rfl (v_consx (v_callDx rfl ht (v_cons (v_op (v_fz rfl) v_c rfl rfl rfl) rfl (v_cons (v_op (v_fz rfl) v_c rfl rfl rfl) rfl (v_cons (v_op (v_fz rfl) v_c rfl rfl rfl) rfl v_nil))) rfl h))))))))))]
  rfl
theorem val3 {m : Nat} {F : Fn} {a b c v : D} (ht : tab m = some (3, F)) (h : F [a, b, c] = .ok (.fz v)) : F__law_value [.fn m, .tup [a, b, c]] = .ok (.fz v) := by
  have t := told3 ht h
  have e : B__law_value [.fz (.fn m), .fz (.tup [a, b, c]), .un] = .ok (.rt (.fz v), [.fz (.fn m), .fz (.tup [a, b, c]), .fz (.tup [.str "told", v])]) :=
    v_seq (v_set (v_call0 (v_cons (v_fz rfl) rfl (v_cons (v_fz rfl) rfl v_nil)) rfl t) rfl) (v_ret (v_if (v_t (v_op (v_op (v_fz rfl) v_c rfl rfl rfl) v_c rfl rfl rfl)) (v_op (v_fz rfl) v_c rfl rfl rfl)) rfl)
  exact outF_rt e
theorem v_sto {j : Nat} {fi f : Ev} {ρ ρ1 ρ2 ρ3 : Rho} {pv : PV} {d : D} {k : Int} {c : Bool} {xs : List D} {n : Nat} {r : Rho} (h1 : f ρ = .ok (pv, ρ1)) (h2 : useV pv ρ1 = some (d, ρ2)) (h3 : isOw ρ2[j]? = true) (h4 : fi ρ2 = .ok (.fz (.int k), ρ3))
    (h5 : ρ3[j]? = some (.ow c xs)) (h6 : ixN xs.length k = some n) (h7 : ρ3.set j (.ow c (xs.set n d)) = r) : sSto j fi f ρ = .ok (.nx, r) := by
  show (f ρ).bind _ = _
  rw [h1]
  show (match useV pv ρ1 with | some (d, ρ2) => if isOw ρ2[j]? then (fi ρ2).bind (stoK j d) else .no | none => .no) = _
  rw [h2]
  show (if isOw ρ2[j]? then (fi ρ2).bind (stoK j d) else .no) = _
  rw [if_pos h3, h4]
  show stoK j d (.fz (.int k), ρ3) = _
  unfold stoK
  simp only []
  rw [h5]
  simp only []
  rw [h6]
  show R.ok (Fl.nx, ρ3.set j (.ow c (xs.set n d))) = _
  rw [h7]
theorem ne_bad : gNe badV badV = some (.fz (.bl false)) := by
  have e : eqD badV badV = some true := by decide +kernel
  show (eqD badV badV).map _ = _
  rw [e]
  rfl
theorem toPs_IL : ∀ xs : List Int, toPs (IL xs) = some (xs.map PyData.int)
  | [] => by
    show toPs [] = _
    rw [toPs.eq_def]
    rfl
  | x :: xs => by
    show toPs (.int x :: IL xs) = _
    rw [toPs.eq_def]
    simp only []
    rw [toPs_IL xs, toP.eq_def]
    rfl
theorem lay_IL : ∀ xs : List Int, PyData.canLayAll0 (xs.map PyData.int) = true ∧ PyData.depthAll (xs.map PyData.int) = 0
  | [] => by simp [PyData.canLayAll0, PyData.depthAll]
  | x :: xs => by simp [PyData.canLayAll0, PyData.depthAll, PyData.canLay0, PyData.depth, lay_IL xs]
theorem eqv_IL : ∀ xs ys : List Int, PyData.eqvAll (xs.map PyData.int) (ys.map PyData.int) = decide (xs = ys)
  | [], [] => by simp [PyData.eqvAll]
  | [], _ :: _ => by simp [PyData.eqvAll]
  | _ :: _, [] => by simp [PyData.eqvAll]
  | x :: xs, y :: ys => by
    rw [List.map_cons, List.map_cons, PyData.eqvAll, eqv_IL xs ys]
    simp [PyData.eqv]
    rfl
theorem eqD_T (xs ys : List Int) : eqD (.tup (IL xs)) (.tup (IL ys)) = some (decide (xs = ys)) := by
  show eqP _ _ = _
  simp [eqP, toP, toPs_IL, SeqAt.shaped, PyData.canLay0, PyData.depth, lay_IL, PyData.eqv, eqv_IL]
theorem eqD_L (xs ys : List Int) : eqD (.lst (IL xs)) (.lst (IL ys)) = some (decide (xs = ys)) := by
  show eqP _ _ = _
  simp [eqP, toP, toPs_IL, SeqAt.shaped, PyData.canLay0, PyData.depth, lay_IL, PyData.eqv, eqv_IL]
theorem ne_T {xs ys : List Int} (h : xs = ys) : gNe (.tup (IL xs)) (.tup (IL ys)) = some (.fz (.bl false)) := by
  unfold gNe
  rw [eqD_T]
  simp [h]
theorem ne_L {xs ys : List Int} (h : xs = ys) : gNe (.lst (IL xs)) (.lst (IL ys)) = some (.fz (.bl false)) := by
  unfold gNe
  rw [eqD_L]
  simp [h]
theorem ne_i {x y : Int} (h : x = y) : gNe (.int x) (.int y) = some (.fz (.bl false)) := by
  rw [ne_int]
  simp [h]
theorem bads_eq {m : Nat} {place : Int} {n : Nat} {args bads : List D} (hi : ixN args.length place = some n) (h : ∀ d, d ∈ bads → F__law_told [.fn m, .tup (args.set n d)] = .ok (.fz badV)) :
    F__law_bads [.fn m, .tup args, .int place, .lst bads] = .ok (.fz (.bl true)) := by
  obtain ⟨ρ2, e1, e2⟩ := forGo_inv (t := .nm 4) (body := sSeq (sSet 5 (eU gLst (eVar 1)))
  (sSeq (sSto 5 (eVar 2) (eVar 4))
  (sIf (tOf (eOp gNe (eCall 2 F__law_told [] (aCons (eVar 0) (aCons (eU gTup (eVar 5)) (aNil)))) (eTup (aCons (eC (.str "malformed")) (aCons (eC .non) (aNil)))))) (sRet (eC (.bl false))) (sNil)))) (ds := bads)
    (fun ρ => ∃ c c', (c = .un ∨ ∃ d, c = .fz d) ∧ (c' = .un ∨ ∃ xs, c' = .ow false xs) ∧ ρ = [.fz (.fn m), .fz (.tup args), .fz (.int place), .fz (.lst bads), c, c']) (fun d ρ hd hI => by
    obtain ⟨c, c', hc, hc', rfl⟩ := hI
    refine ⟨[.fz (.fn m), .fz (.tup args), .fz (.int place), .fz (.lst bads), .fz d, c'], [.fz (.fn m), .fz (.tup args), .fz (.int place), .fz (.lst bads), .fz d, .ow false (args.set n d)], ?_, ?_, ?_⟩
    · rcases hc with rfl | ⟨d, rfl⟩ <;> rfl
    · refine v_seq (ρ1 := [.fz (.fn m), .fz (.tup args), .fz (.int place), .fz (.lst bads), .fz d, .ow false args]) (v_set (v_u (v_fz rfl) rfl rfl) ?_) (v_seq (v_sto (v_fz rfl) rfl rfl (v_fz rfl) rfl hi rfl) (v_sifF (v_t (v_op (v_call0 (v_cons (v_fz rfl) rfl (v_cons (v_u (v_ow rfl) rfl rfl) rfl v_nil)) rfl (h d hd)) (v_tup (v_cons v_c rfl (v_cons v_c rfl v_nil)) rfl) rfl rfl ne_bad)) rfl))
      rcases hc' with rfl | ⟨d, rfl⟩ <;> rfl
    · exact ⟨_, _, .inr ⟨_, rfl⟩, .inr ⟨_, rfl⟩, rfl⟩) (ρ := [.fz (.fn m), .fz (.tup args), .fz (.int place), .fz (.lst bads), .un, .un]) ⟨.un, .un, .inl rfl, .inl rfl, rfl⟩
  have b : B__law_bads [.fz (.fn m), .fz (.tup args), .fz (.int place), .fz (.lst bads), .un, .un] = .ok (.rt (.fz (.bl true)), ρ2) :=
    v_seq (v_for (v_seqL (v_fz rfl) rfl) e1) (v_ret v_c rfl)
  exact outF_rt b
theorem take_eq {a b m : Int} (hm : 0 < m) (hm2 : m < 1000) : ∃ v a' b', (0 ≤ v ∧ v < m) ∧ F__law_take [.int a, .int b] [.int m] = .ok (.fz (.int v), [.int a', .int b']) := by
  have hd : divOk m = true := divOk_of hm (Nat.lt_of_lt_of_le (by omega : m.natAbs < 2 ^ 10) (Nat.pow_le_pow_right (by decide) (by decide)))
  by_cases ha : 0 < a
  · refine ⟨a % m, a / m, b, ⟨Int.emod_nonneg _ (by omega), Int.emod_lt_of_pos _ hm⟩, ?_⟩
    have e : B__law_take [.ow true [.int a, .int b], .fz (.int m), .un] = .ok (.rt (.fz (.int (a % m))), [.ow true [.int (a / m), .int b], .fz (.int m), .fz (.int (a % m))]) := by
      refine v_seqR (v_sifT (v_t (v_op (v_op (v_ow rfl) v_c rfl rfl rfl) v_c rfl rfl ?_)) (v_seq (v_set (v_op (v_u (v_op (v_ow rfl) v_c rfl rfl rfl) rfl rfl) (v_fz rfl) rfl rfl (gMod_int hm)) rfl) (v_seq (v_sto (v_op (v_op (v_ow rfl) v_c rfl rfl rfl) (v_fz rfl) rfl rfl (gDiv_int hd)) rfl rfl v_c rfl rfl rfl) (v_ret (v_fz rfl) rfl))))
      show some (PV.fz (.bl (decide (0 < a)))) = _
      rw [decide_eq_true ha]
    show outB (B__law_take [.ow true [.int a, .int b], .fz (.int m), .un]) = _
    rw [e]
    rfl
  · refine ⟨((b * 48271 + 11) % 2147483647 / 7) % m, a, (b * 48271 + 11) % 2147483647, ⟨Int.emod_nonneg _ (by omega), Int.emod_lt_of_pos _ hm⟩, ?_⟩
    have e : B__law_take [.ow true [.int a, .int b], .fz (.int m), .un] = .ok (.rt (.fz (.int (((b * 48271 + 11) % 2147483647 / 7) % m))), [.ow true [.int a, .int ((b * 48271 + 11) % 2147483647)], .fz (.int m), .un]) := by
      refine v_seq (v_sifF (v_t (v_op (v_op (v_ow rfl) v_c rfl rfl rfl) v_c rfl rfl ?_)) rfl) (v_seq (v_sto (v_op (v_u (v_op (v_op (v_op (v_ow rfl) v_c rfl rfl rfl) v_c rfl rfl (gMul2_int (mulOk_r (by decide)))) v_c rfl rfl rfl) rfl rfl) v_c rfl rfl (gMod_int (by decide))) rfl rfl v_c rfl rfl rfl) (v_ret (v_op (v_u (v_op (v_op (v_ow rfl) v_c rfl rfl rfl) v_c rfl rfl (gDiv_int (by decide))) rfl rfl) (v_fz rfl) rfl rfl (gMod_int hm)) rfl))
      show some (PV.fz (.bl (decide (0 < a)))) = _
      rw [decide_eq_false ha]
    show outB (B__law_take [.ow true [.int a, .int b], .fz (.int m), .un]) = _
    rw [e]
    rfl
theorem prime_eq (a b : Int) : ∃ (p : Nat) (a' b' : Int), (p = 2 ∨ p = 3 ∨ p = 5) ∧ F__law_prime [.int a, .int b] [.int 5] = .ok (.fz (.int p), [.int a', .int b']) := by
  obtain ⟨v, a', b', hv, e⟩ := take_eq (a := a) (b := b) (m := 3) (by decide) (by decide)
  have h : v = 0 ∨ v = 1 ∨ v = 2 := by omega
  have key : ∀ p : Nat, gIx (.lst [.int 2, .int 3, .int 5]) (.int v) = some (.fz (.int p)) → F__law_prime [.int a, .int b] [.int 5] = .ok (.fz (.int p), [.int a', .int b']) := fun p hp => by
    have t : B__law_prime [.ow true [.int a, .int b], .fz (.int 5), .un, .un] = .ok (.rt (.fz (.int p)), [.ow true [.int a', .int b'], .fz (.int 5), .ow false [.int 2, .int 3, .int 5], .un]) := by
      refine v_seq (ρ1 := [.ow true [.int a, .int b], .fz (.int 5), .ow false [.int 2, .int 3, .int 5], .un]) rfl (v_ret (v_op (v_ow rfl) (v_callB rfl (v_cons (v_u (v_ow rfl) rfl rfl) rfl v_nil) rfl rfl e rfl) rfl rfl hp) rfl)
    show outB (B__law_prime [.ow true [.int a, .int b], .fz (.int 5), .un, .un]) = _
    rw [t]
    rfl
  rcases h with rfl | rfl | rfl
  · exact ⟨2, a', b', .inl rfl, key 2 rfl⟩
  · exact ⟨3, a', b', .inr (.inl rfl), key 3 rfl⟩
  · exact ⟨5, a', b', .inr (.inr rfl), key 5 rfl⟩
theorem mem_cut {xs : List D} {lo hi : Option Int} {d : D} (h : d ∈ Rf.cutD xs lo hi) : d ∈ xs := List.mem_of_mem_drop (List.mem_of_mem_take h)
theorem state_eq (ns : List Int) : ∃ a b : Int, F__law_state [.lck (IL ns)] = .ok (.fr [.int a, .int b]) := by
  obtain ⟨ρ2, e1, a, b, c, _, rfl⟩ := forGo_inv (t := .nm 3) (body := sSeq (sSet 1 (eOp gAdd (eOp gMul2 (eVar 1) (eC (.int 1000003))) (eU gAbs (eVar 3))))
  (sSet 2 (eOp gMod (eU gInt (eOp gAdd (eOp gMul2 (eVar 2) (eC (.int 48271))) (eVar 3))) (eC (.int 2147483647))))) (ds := Rf.cutD (IL ns) none (some 63))
    (fun ρ => ∃ (a b : Int) (c : Cell), (c = .un ∨ ∃ d, c = .fz d) ∧ ρ = [.fz (.lck (IL ns)), .fz (.int a), .fz (.int b), c]) (fun d ρ hd hI => by
    obtain ⟨a, b, c, hc, rfl⟩ := hI
    obtain ⟨i, _, rfl⟩ := List.mem_map.1 (mem_cut hd)
    refine ⟨[.fz (.lck (IL ns)), .fz (.int a), .fz (.int b), .fz (.int i)], [.fz (.lck (IL ns)), .fz (.int (a * 1000003 + if i < 0 then -i else i)), .fz (.int ((b * 48271 + i) % 2147483647)), .fz (.int i)], ?_, ?_, ?_⟩
    · rcases hc with rfl | ⟨d, rfl⟩ <;> rfl
    · exact v_seq (v_set (v_op (v_op (v_fz rfl) v_c rfl rfl (gMul2_int (mulOk_r (by decide)))) (v_u (v_fz rfl) rfl rfl) rfl rfl rfl) rfl) (v_set (v_op (v_u (v_op (v_op (v_fz rfl) v_c rfl rfl (gMul2_int (mulOk_r (by decide)))) (v_fz rfl) rfl rfl rfl) rfl rfl) v_c rfl rfl (gMod_int (by decide))) rfl)
    · exact ⟨_, _, _, .inr ⟨_, rfl⟩, rfl⟩) (ρ := [.fz (.lck (IL ns)), .fz (.int 0), .fz (.int 1), .un]) ⟨0, 1, .un, .inl rfl, rfl⟩
  refine ⟨a, if b = 1973665155 then 7 else b, ?_⟩
  have t : B__law_state [.fz (.lck (IL ns)), .un, .un, .un] = .ok (.rt (.fr [.int a, .int (if b = 1973665155 then 7 else b)]), [.fz (.lck (IL ns)), .fz (.int a), .fz (.int b), c]) := by
    refine v_seq (v_set v_c rfl) (v_seq (v_set v_c rfl) (v_seq (v_for (v_seqL (v_sl (v_fz rfl) v_oN (v_oS v_c) rfl rfl) rfl) e1) (v_ret (v_lst (v_cons (v_fz rfl) rfl (v_cons (v_if (r := .ok (.fz (.int (if b = 1973665155 then 7 else b)), [.fz (.lck (IL ns)), .fz (.int a), .fz (.int b), c])) (v_t (v_op (v_fz rfl) v_c rfl rfl rfl)) ?_) rfl v_nil)) rfl) rfl)))
    by_cases h : b = 1973665155
    · rw [if_pos h]
      subst h
      rfl
    · rw [if_neg h]
      have e : (!decide (b = 1973665155)) = true := by simp [h]
      rw [e]
      rfl
  show outF (B__law_state [.fz (.lck (IL ns)), .un, .un, .un]) = _
  rw [t]
  rfl
end L50
end
section
set_option Elab.async false
set_option linter.all false
set_option maxRecDepth 100000
set_option maxHeartbeats 4000000
set_option exponentiation.threshold 400
namespace L50
open PySem PySem.Spec PyProof.Rows L2 Rf WM
def PL (c : Cell) : Prop := fixed (some c) = false
theorem set_R {ρ ρ' : Rho} {i : Nat} {c k : Cell} (h : ρ[i]? = some c) (hc : PL c) (e : ρ.set i k = ρ') : setR i k ρ = some ρ' := by
  have l : i < ρ.length := by
    rcases Nat.lt_or_ge i ρ.length with l | l
    · exact l
    · rw [List.getElem?_eq_none l] at h; cases h
  unfold setR
  rw [h, show fixed (some c) = false from hc, blt_dec, decide_eq_true l, e]
  rfl
theorem set_fz {ρ ρ' : Rho} {i : Nat} {c : Cell} {d : D} (h : ρ[i]? = some c) (hc : PL c) (e : ρ.set i (.fz d) = ρ') : setK i (.fz d, ρ) = .ok (.nx, ρ') := by
  show (match setR i (.fz d) ρ with | some ρ1 => R.ok (Fl.nx, ρ1) | none => .no) = _
  rw [set_R h hc e]
theorem set_fr {ρ ρ' : Rho} {i : Nat} {c : Cell} {xs : List D} (h : ρ[i]? = some c) (hc : PL c) (e : ρ.set i (.ow false xs) = ρ') : setK i (.fr xs, ρ) = .ok (.nx, ρ') := by
  show (match setR i (.ow false xs) ρ with | some ρ1 => R.ok (Fl.nx, ρ1) | none => .no) = _
  rw [set_R h hc e]
theorem bindL_c {i : Nat} {is : List Nat} {d : D} {ds : List D} {ρ ρ1 : Rho} {r : Option Rho} (h : setR i (.fz d) ρ = some ρ1) (g : bindL is ds ρ1 = r) : bindL (i :: is) (d :: ds) ρ = r := by
  rw [Rf.bindL, h]
  exact g
theorem v_par {i j : Nat} {fa fb : Ev} {pa pb pa' pb' : PV} {ρ ρ1 ρ2 ρ3 ρ4 ρ5 ρ6 : Rho} (h1 : fa ρ = .ok (pa, ρ1)) (u1 : uPV (pa, ρ1) = .ok (pa', ρ2)) (h2 : fb ρ2 = .ok (pb, ρ3)) (u2 : uPV (pb, ρ3) = .ok (pb', ρ4)) (s1 : setK i (pa', ρ4) = .ok (.nx, ρ5)) (s2 : setK j (pb', ρ5) = .ok (.nx, ρ6)) : sPar i j fa fb ρ = .ok (.nx, ρ6) := by
  show ((fa ρ).bind uPV).bind _ = _
  rw [h1]
  show (uPV (pa, ρ1)).bind _ = _
  rw [u1]
  show ((fb ρ2).bind uPV).bind _ = _
  rw [h2]
  show (uPV (pb, ρ3)).bind _ = _
  rw [u2]
  show (setK i (pa', ρ4)).bind (fun q => setK j (pb', q.2)) = _
  rw [s1]
  exact s2
theorem v_par3 {i j l : Nat} {fa : Ea} {a b c : D} {ρ ρ1 ρ2 : Rho} (h1 : fa ρ = .ok ([a, b, c], ρ1)) (h2 : bindL [i, j, l] [a, b, c] ρ1 = some ρ2) : sPar3 i j l fa ρ = .ok (.nx, ρ2) := by
  show (fa ρ).bind _ = _
  rw [h1]
  show (match bindL [i, j, l] [a, b, c] ρ1 with | some ρ1 => R.ok (Fl.nx, ρ1) | none => .no) = _
  rw [h2]
theorem v_unp {is : List Nat} {f : Ev} {xs : List D} {ρ ρ1 ρ2 : Rho} (h1 : f ρ = .ok (.fr xs, ρ1)) (h2 : bindL is xs ρ1 = some ρ2) : sUnp is f ρ = .ok (.nx, ρ2) := by
  show (f ρ).bind _ = _
  rw [h1]
  show (match bindL is xs ρ1 with | some ρ1 => R.ok (Fl.nx, ρ1) | none => .no) = _
  rw [h2]
/-- comprehensions that change the state -/
theorem lcGo_inv {t : Tg} {fe : Ev} {vs : List Nat} (I : Rho → Prop) (P : D → Prop) : ∀ {ds : List D}, (∀ d ρ, d ∈ ds → I ρ → ∃ ρa ρb e, bindT t d ρ = some ρa ∧ fe ρa = .ok (.fz e, ρb) ∧ I (wipeR ρb vs) ∧ P e) → ∀ {ρ : Rho}, I ρ →
    ∃ es ρ2, lcGo t tYesF fe vs ds ρ = .ok (es, ρ2) ∧ I ρ2 ∧ es.length = ds.length ∧ ∀ e, e ∈ es → P e
  | [], _, ρ, h => ⟨[], ρ, rfl, h, rfl, fun _ h => by cases h⟩
  | d :: ds, hs, ρ, h => by
    obtain ⟨ρa, ρb, e, e1, e2, e3, e4⟩ := hs d ρ List.mem_cons_self h
    obtain ⟨es, ρ3, e5, e6, e7, e8⟩ := lcGo_inv I P (fun d ρ hd => hs d ρ (List.mem_cons_of_mem _ hd)) e3
    refine ⟨e :: es, ρ3, ?_, e6, by simp [e7], fun x hx => ?_⟩
    · rw [lcGo, e1]
      simp only [tYesF]
      rw [e2]
      simp only [useV]
      rw [e5]
    · rcases List.mem_cons.1 hx with rfl | h
      · exact e4
      · exact e8 x h
theorem v_lcI {fi : Ei} {t : Tg} {fe : Ev} {vs : List Nat} (I : Rho → Prop) (P : D → Prop) {ds : List D} {ρ ρ1 : Rho} (h1 : fi ρ = .ok (ds, ρ1)) (h2 : noOwn ρ1 vs = true) (h3 : ds.length < 1000000)
    (h5 : ∀ d ρ, d ∈ ds → I ρ → ∃ ρa ρb e, bindT t d ρ = some ρa ∧ fe ρa = .ok (.fz e, ρb) ∧ I (wipeR ρb vs) ∧ P e) (h6 : I (wipeR ρ1 vs)) :
    ∃ es ρ2, eLc vs fi t tYesF fe ρ = .ok (.fr es, backR ρ2 ρ1 vs) ∧ I ρ2 ∧ es.length = ds.length ∧ ∀ e, e ∈ es → P e := by
  obtain ⟨es, ρ2, e1, e2, e3, e4⟩ := lcGo_inv I P h5 h6
  refine ⟨es, ρ2, ?_, e2, e3, e4⟩
  show (fi ρ).bind _ = _
  rw [h1]
  show lcK vs t tYesF fe (ds, ρ1) = _
  unfold lcK
  simp only []
  rw [if_pos (by rw [Bool.and_eq_true, h2]; exact ⟨rfl, Nat.ble_eq_true_of_le (by omega)⟩), e1]
  rfl
theorem mod_eq {m a b : Int} (h : m ∣ a - b) : a % m = b % m := by
  obtain ⟨q, hq⟩ := h
  have e : a = b + m * q := by omega
  rw [e, Int.add_mul_emod_self_left]
theorem mod_dvd (a m : Int) : m ∣ a % m - a := ⟨-(a / m), by
  have := Int.emod_add_mul_ediv a m
  rw [Int.mul_neg]
  omega⟩
theorem pow_dvd {m a b : Int} (h : m ∣ a - b) (k : Nat) : m ∣ a ^ k - b ^ k := by
  rw [← geo_mul]
  exact Int.dvd_trans h (Int.dvd_mul_right _ _)
theorem mul_dvd {m a b c d : Int} (h : m ∣ a - b) (g : m ∣ c - d) : m ∣ a * c - b * d := by
  obtain ⟨q, hq⟩ := h
  obtain ⟨r, hr⟩ := g
  exact ⟨q * c + b * r, by grind⟩
/-! power_mod -/
abbrev pmB : Es := sSeq (sIf (tOf (eOp gEq (eOp gMod (eVar 1) (eC (.int 2))) (eC (.int 1)))) (sSet 3 (eOp gMod (eOp gMul2 (eVar 3) (eVar 0)) (eVar 2))) (sNil))
  (sPar 0 1 (eOp gMod (eOp gMul2 (eVar 0) (eVar 0)) (eVar 2)) (eOp gDiv (eVar 1) (eC (.int 2))))
theorem pmB_ok {a f m : Int} {k : Nat} (hm : 0 < m) (m1 : mulOk f a = true) (m2 : mulOk a a = true) :
    pmB [.fz (.int a), .fz (.int k), .fz (.int m), .fz (.int f)] = .ok (.nx, [.fz (.int (a * a % m)), .fz (.int ((k / 2 : Nat) : Int)), .fz (.int m), .fz (.int (if k % 2 = 1 then f * a % m else f))]) := by
  have kd : ((k : Nat) : Int) / 2 = ((k / 2 : Nat) : Int) := by omega
  have d : gDiv (.int (k : Int)) (.int 2) = some (.fz (.int ((k / 2 : Nat) : Int))) := by rw [gDiv_int (by decide), kd]
  have t : eOp gEq (eOp gMod (eVar 1) (eC (.int 2))) (eC (.int 1)) [.fz (.int a), .fz (.int k), .fz (.int m), .fz (.int f)] = .ok (.fz (.bl (decide ((k : Int) % 2 = 1))), [.fz (.int a), .fz (.int k), .fz (.int m), .fz (.int f)]) :=
    v_op (v_op (v_fz rfl) v_c rfl rfl (gMod_int (by decide))) v_c rfl rfl eq_int
  have last : ∀ g : Int, sPar 0 1 (eOp gMod (eOp gMul2 (eVar 0) (eVar 0)) (eVar 2)) (eOp gDiv (eVar 1) (eC (.int 2))) [.fz (.int a), .fz (.int k), .fz (.int m), .fz (.int g)] = .ok (.nx, [.fz (.int (a * a % m)), .fz (.int ((k / 2 : Nat) : Int)), .fz (.int m), .fz (.int g)]) := fun g => by
    exact v_par (v_op (v_op (v_fz rfl) (v_fz rfl) rfl rfl (gMul2_int m2)) (v_fz rfl) rfl rfl (gMod_int hm)) rfl (v_op (v_fz rfl) v_c rfl rfl d) rfl rfl rfl
  by_cases hk : k % 2 = 1
  · rw [if_pos hk]
    refine v_seq (v_sifT (v_t (by rw [t, decide_eq_true (by omega : (k : Int) % 2 = 1)])) (v_set (v_op (v_op (v_fz rfl) (v_fz rfl) rfl rfl (gMul2_int m1)) (v_fz rfl) rfl rfl (gMod_int hm)) rfl)) (last _)
  · rw [if_neg hk]
    exact v_seq (v_sifF (v_t (by rw [t, decide_eq_false (by omega : ¬ (k : Int) % 2 = 1)])) rfl) (last _)
theorem pm_loop {m : Int} (hm : 0 < m) (hm2 : m ≤ 1000) : ∀ (n : Nat) (a f : Int) (k : Nat), k < 2 ^ n → 0 ≤ a → a < m → 0 ≤ f → f < m →
    ∃ a', whGo powT pmB (n + 1) [.fz (.int a), .fz (.int k), .fz (.int m), .fz (.int f)] = .ok (.nx, [.fz (.int a'), .fz (.int 0), .fz (.int m), .fz (.int (f * a ^ k % m))]) := by
  have stop : ∀ n (a f : Int), 0 ≤ f → f < m → whGo powT pmB (n + 1) [.fz (.int a), .fz (.int ((0 : Nat) : Int)), .fz (.int m), .fz (.int f)] = .ok (.nx, [.fz (.int a), .fz (.int 0), .fz (.int m), .fz (.int (f * a ^ 0 % m))]) := fun n a f h0 h1 => by
    rw [Int.pow_zero, Int.mul_one, Int.emod_eq_of_lt h0 h1]
    rfl
  intro n
  induction n with
  | zero =>
    intro a f k h1 _ _ h2 h3
    have e : k = 0 := by omega
    subst e
    exact ⟨a, stop 0 a f h2 h3⟩
  | succ n ih =>
    intro a f k h1 a0 a1 f0 f1
    by_cases hk : k = 0
    · subst hk
      exact ⟨a, stop (n + 1) a f f0 f1⟩
    · have t : powT [.fz (.int a), .fz (.int k), .fz (.int m), .fz (.int f)] = .ok (true, [.fz (.int a), .fz (.int k), .fz (.int m), .fz (.int f)]) := by
        refine v_t (v_op (v_fz rfl) v_c rfl rfl ?_)
        show some (PV.fz (.bl (decide ((0 : Int) < k)))) = _
        rw [decide_eq_true (by omega)]
      have b := pmB_ok (k := k) hm (mulOk_l (i := f) (j := a) (by omega)) (mulOk_l (i := a) (j := a) (by omega))
      have fr : 0 ≤ (if k % 2 = 1 then f * a % m else f) ∧ (if k % 2 = 1 then f * a % m else f) < m := by
        split
        · exact ⟨Int.emod_nonneg _ (by omega), Int.emod_lt_of_pos _ hm⟩
        · exact ⟨f0, f1⟩
      obtain ⟨a', r⟩ := ih (a * a % m) (if k % 2 = 1 then f * a % m else f) (k / 2) (by rw [Nat.pow_succ] at h1; omega) (Int.emod_nonneg _ (by omega)) (Int.emod_lt_of_pos _ hm) fr.1 fr.2
      refine ⟨a', ?_⟩
      rw [whGo, t]
      simp only []
      rw [b]
      simp only []
      rw [r]
      have e : (if k % 2 = 1 then f * a % m else f) * (a * a % m) ^ (k / 2) % m = f * a ^ k % m := by
        have p1 := pow_dvd (mod_dvd (a * a) m) (k / 2)
        have e2 : (a * a) ^ (k / 2) = a ^ (2 * (k / 2)) := by rw [sq2, ← Int.pow_mul]
        rw [e2] at p1
        apply mod_eq
        split
        · rename_i ho
          have := mul_dvd (mod_dvd (f * a) m) p1
          have e3 : f * a * a ^ (2 * (k / 2)) = f * a ^ k := by
            have e4 : k = 2 * (k / 2) + 1 := by omega
            conv => rhs; rw [e4, Int.pow_succ]
            grind
          rw [e3] at this
          exact this
        · rename_i ho
          have := mul_dvd (a := f) (b := f) (m := m) (by simp) p1
          have e4 : 2 * (k / 2) = k := by omega
          rw [e4] at this
          exact this
      rw [e]
theorem power_mod_eq {a e m : Int} {k : Nat} (he : e = (k : Int)) (hk : k < 2 ^ 19) (hm : 0 < m) (hm2 : m ≤ 1000) : F_power_mod [.int a, .int e, .int m] = .ok (.fz (.int (a ^ k % m))) := by
  subst he
  obtain ⟨a', r⟩ := pm_loop hm hm2 19 (a % m) (1 % m) k hk (Int.emod_nonneg _ (by omega)) (Int.emod_lt_of_pos _ hm) (Int.emod_nonneg _ (by omega)) (Int.emod_lt_of_pos _ hm)
  have w := whGo_mono (m := 1000000) (by decide) r
  have e1 : 1 % m * (a % m) ^ k % m = a ^ k % m := mod_eq (by
    have := mul_dvd (mod_dvd 1 m) (pow_dvd (mod_dvd a m) k)
    rw [Int.one_mul] at this
    exact this)
  rw [e1] at w
  have s1 : sPar 3 0 (eOp gMod (eC (.int 1)) (eVar 2)) (eOp gMod (eVar 0) (eVar 2)) [.fz (.int a), .fz (.int k), .fz (.int m), .un] = .ok (.nx, [.fz (.int (a % m)), .fz (.int k), .fz (.int m), .fz (.int (1 % m))]) := by
    exact v_par (v_op v_c (v_fz rfl) rfl rfl (gMod_int hm)) rfl (v_op (v_fz rfl) (v_fz rfl) rfl rfl (gMod_int hm)) rfl rfl rfl
  have b : B_power_mod [.fz (.int a), .fz (.int k), .fz (.int m), .un] = .ok (.rt (.fz (.int (a ^ k % m))), [.fz (.int a'), .fz (.int 0), .fz (.int m), .fz (.int (a ^ k % m))]) :=
    v_seq s1 (v_seq (show whGo powT pmB 1000000 _ = _ from w) (v_ret (v_fz rfl) rfl))
  exact outF_rt b
/-! numbers -/
theorem Sz.pN {p N : Nat} (h : Sz p N) : 0 < (p : Int) ^ N ∧ (p : Int) ^ N ≤ 81 := by
  rcases h with ⟨rfl, h1, h2⟩ | ⟨rfl, h1, h2⟩ | ⟨rfl, h1, h2⟩
  all_goals
    have : N = 1 ∨ N = 2 ∨ N = 3 ∨ N = 4 := by omega
    rcases this with rfl | rfl | rfl | rfl <;> first | decide | omega
def nb (p N : Nat) (xs : List Int) : Int := tS p (N - 1) (gx xs) N % (p : Int) ^ N
theorem pk_ok {p N k : Nat} {z : Int} (hs : Sz p N) (hk : k < N) : mulOk ((p : Int) ^ k) z = true := mulOk_l (by
  have h1 := hs.pw hk
  rw [Int.natAbs_pow, Int.natAbs_natCast]
  omega)
theorem sub_n {N : Nat} (h : 1 ≤ N) : Rf.gSub (.int N) (.int 1) = some (.fz (.int ((N - 1 : Nat) : Int))) := by
  show some (PV.fz (.int ((N : Int) - 1))) = _
  have e : (N : Int) - 1 = ((N - 1 : Nat) : Int) := by omega
  rw [e]
theorem law_number_eq {p N : Nat} {xs : List Int} (h : Vc p N xs) : F__law_number [.tup (IL xs), .int p] = .ok (.fz (.int (nb p N xs))) := by
  have hs := h.sz
  have hp1 := hs.p1
  have hN := hs.n3
  have hl := h.len
  have hq : p ^ (N - 1) ≤ 125 := Nat.le_trans (hs.pw (k := N - 1) (by omega)) (by decide)
  have b : B__law_number [.fz (.tup (IL xs)), .fz (.int p), .un, .un] = .ok (.rt (.fz (.int (nb p N xs))), [.fz (.tup (IL xs)), .fz (.int p), .fz (.int N), .un]) := by
    refine v_seq (ρ1 := [.fz (.tup (IL xs)), .fz (.int p), .fz (.int N), .un]) (v_set (v_u (v_fz rfl) rfl (by rw [len_IL, hl])) rfl) (v_ret (pv := .fz (.int (nb p N xs))) (v_op (v_u (v_u (v_lc (L := List.range N) (c := nI) (g := fun k => .int ((p : Int) ^ k * gx xs k ^ p ^ (N - 1))) (v_rg1 (n := N) (v_cons (v_fz rfl) rfl v_nil) (by omega)) rfl (by rw [List.length_range]; omega) rfl (fun k hk => ⟨[.fz (.tup (IL xs)), .fz (.int p), .fz (.int N), .fz (.int k)], [.fz (.tup (IL xs)), .fz (.int p), .fz (.int N), .fz (.int k)], rfl, ?_, rfl⟩) rfl) rfl (sum_nI _ _)) rfl rfl) (v_call0 (v_cons (v_fz rfl) rfl (v_cons (v_fz rfl) rfl v_nil)) rfl (raised_eq (k := N) rfl hp1 (by omega))) rfl rfl (gMod_int hs.pN.1)) rfl)
    rw [List.mem_range] at hk
    have hx := h.sm.at k
    have k1 : k ≤ 125 := by omega
    have k2 : k < xs.length := by omega
    have k3 : N - 1 ≤ 125 := by omega
    have c1 : ((p : Int) ^ (N - 1)) = ((p ^ (N - 1) : Nat) : Int) := by simp
    have E1 := raised_eq (k := k) (e := (k : Int)) (a := (p : Int)) rfl hp1 k1
    have E2 := raised_eq (k := N - 1) (e := ((N - 1 : Nat) : Int)) (a := (p : Int)) rfl hp1 k3
    have E3 := raised_eq (k := p ^ (N - 1)) (e := (p : Int) ^ (N - 1)) (a := gx xs k) c1 hx hq
    have E4 := sub_n hN.1
    have E5 := ix_nat k2
    have E6 := gMul2_int (pk_ok (z := gx xs k ^ p ^ (N - 1)) hs hk)
    have A1 : eCall 2 F__law_raised [] (aCons (eVar 1) (aCons (eVar 3) (aNil))) [.fz (.tup (IL xs)), .fz (.int p), .fz (.int N), .fz (.int k)] = .ok (.fz (.int ((p : Int) ^ k)), [.fz (.tup (IL xs)), .fz (.int p), .fz (.int N), .fz (.int k)]) := v_call0 (v_cons (v_fz rfl) rfl (v_cons (v_fz rfl) rfl v_nil)) rfl E1
    have A2 : eCall 2 F__law_raised [] (aCons (eVar 1) (aCons (eOp Rf.gSub (eVar 2) (eC (.int 1))) (aNil))) [.fz (.tup (IL xs)), .fz (.int p), .fz (.int N), .fz (.int k)] = .ok (.fz (.int ((p : Int) ^ (N - 1))), [.fz (.tup (IL xs)), .fz (.int p), .fz (.int N), .fz (.int k)]) := v_call0 (v_cons (v_fz rfl) rfl (v_cons (v_op (v_fz rfl) v_c rfl rfl E4) rfl v_nil)) rfl E2
    exact v_op A1 (v_call0 (v_cons (v_op (v_fz rfl) (v_fz rfl) rfl rfl E5) rfl (v_cons A2 rfl v_nil)) rfl E3) rfl rfl E6
  show outF (B__law_number [.fz (.tup (IL xs)), .fz (.int p), .un, .un]) = _
  rw [b]
  rfl
/-- digits -/
def Dg (p : Nat) (xs : List Int) : Prop := ∀ x, x ∈ xs → 0 ≤ x ∧ x < p
theorem ch_eq (p x : Int) : ∃ r, r = decide (0 ≤ x ∧ x < p) := ⟨_, rfl⟩
theorem v_ch01 {i j l : Ev} {a b c : Int} {ρ : Rho} (h1 : i ρ = .ok (.fz (.int a), ρ)) (h2 : j ρ = .ok (.fz (.int b), ρ)) (h3 : l ρ = .ok (.fz (.int c), ρ)) : eChain gLe gLt i j l ρ = .ok (.fz (.bl (decide (a ≤ b ∧ b < c))), ρ) := by
  by_cases h : a ≤ b
  · have e : decide (a ≤ b ∧ b < c) = decide (b < c) := by simp [h]
    rw [e]
    exact v_ch h1 h2 rfl rfl (show some (PV.fz (.bl (decide (a ≤ b)))) = _ by rw [decide_eq_true h]) h3 rfl rfl rfl
  · have e : decide (a ≤ b ∧ b < c) = false := by simp [h]
    rw [e]
    show (i ρ).bind _ = _
    rw [h1]
    show (j ρ).bind _ = _
    rw [h2]
    show (opV gLe (.fz (.int a)) (.fz (.int b)) ρ).bind (chK gLt l (.fz (.int b))) = _
    have o : opV gLe (.fz (.int a)) (.fz (.int b)) ρ = .ok (.fz (.bl false), ρ) := by
      show R.ok (PV.fz (.bl (decide (a ≤ b))), ρ) = _
      rw [decide_eq_false h]
    rw [o]
    rfl
theorem check_rests_gen {p N : Nat} {xs ys : List Int} (hx : Vc p N xs) (hy : Vc p N ys) : F_check_rests [.tup (IL xs), .tup (IL ys), .int p] = if (xs ++ ys).all (fun c => decide (0 ≤ c ∧ c < (p : Int))) then .ok (.fz .non) else .exc .mal := by
  have hN := hx.sz.n3
  have l1 := hx.len
  have l2 := hy.len
  have al : tNotF (tOf (eU gAll (eLc [3] (iSeq (eOp gAdd (eVar 0) (eVar 1))) (.nm 3) (tYesF) (eChain gLe gLt (eC (.int 0)) (eVar 3) (eVar 2))))) [.fz (.tup (IL xs)), .fz (.tup (IL ys)), .fz (.int p), .un] = .ok (!(xs ++ ys).all (fun c => decide (0 ≤ c ∧ c < (p : Int))), [.fz (.tup (IL xs)), .fz (.tup (IL ys)), .fz (.int p), .un]) :=
    v_not (v_t (v_u (v_lc (L := xs ++ ys) (c := .int) (g := fun c => .bl (decide (0 ≤ c ∧ c < (p : Int)))) (v_seqT (v_op (v_fz rfl) (v_fz rfl) rfl rfl (add_tt (by omega))) rfl) rfl (by rw [List.length_append]; omega) rfl (fun c _ => ⟨[.fz (.tup (IL xs)), .fz (.tup (IL ys)), .fz (.int p), .fz (.int c)], _, rfl, v_ch01 v_c (v_fz rfl) (v_fz rfl), rfl⟩) rfl) rfl (all_map _ _)))
  have two := v_ex (f := eCall 3 F_check_two [] (aCons (eVar 0) (aCons (eVar 1) (aCons (eVar 2) (aNil))))) (ρ := [.fz (.tup (IL xs)), .fz (.tup (IL ys)), .fz (.int p), .un]) (v_call0 (v_cons (v_fz rfl) rfl (v_cons (v_fz rfl) rfl (v_cons (v_fz rfl) rfl v_nil))) rfl (check_two_eq hx hy))
  show outF (B_check_rests [.fz (.tup (IL xs)), .fz (.tup (IL ys)), .fz (.int p), .un]) = _
  cases h : (xs ++ ys).all (fun c => decide (0 ≤ c ∧ c < (p : Int))) with
  | true =>
    rw [h] at al
    rw [show B_check_rests [.fz (.tup (IL xs)), .fz (.tup (IL ys)), .fz (.int p), .un] = .ok (.nx, [.fz (.tup (IL xs)), .fz (.tup (IL ys)), .fz (.int p), .un]) from v_seq two (v_sifF al rfl)]
    rfl
  | false =>
    rw [h] at al
    rw [show B_check_rests [.fz (.tup (IL xs)), .fz (.tup (IL ys)), .fz (.int p), .un] = .exc .mal from v_seq two (v_sifT al rfl)]
    rfl
theorem check_rests_ok {p N : Nat} {xs ys : List Int} (hx : Vc p N xs) (hy : Vc p N ys) (dx : Dg p xs) (dy : Dg p ys) : F_check_rests [.tup (IL xs), .tup (IL ys), .int p] = .ok (.fz .non) := by
  rw [check_rests_gen hx hy, if_pos]
  rw [List.all_eq_true]
  intro c hc
  rcases List.mem_append.1 hc with h | h
  · exact decide_eq_true (dx c h)
  · exact decide_eq_true (dy c h)
theorem check_rests_bad {p N : Nat} {xs ys : List Int} (hx : Vc p N xs) (hy : Vc p N ys) {c : Int} (hc : c ∈ xs ++ ys) (hb : ¬ (0 ≤ c ∧ c < (p : Int))) : F_check_rests [.tup (IL xs), .tup (IL ys), .int p] = .exc .mal := by
  rw [check_rests_gen hx hy, if_neg]
  rw [List.all_eq_true]
  intro h
  exact hb (of_decide_eq_true (h c hc))
theorem enum_IL (xs : List Int) : enumD 0 (IL xs) = (List.range xs.length).map fun (k : Nat) => .tup [.int (k : Int), .int (gx xs k)] := by
  have key : ∀ (ys : List Int) (i : Nat), enumD i (IL ys) = (List.range ys.length).map fun (k : Nat) => .tup [.int ((i + k : Nat) : Int), .int (gx ys k)] := by
    intro ys
    induction ys with
    | nil => intro i; rfl
    | cons y ys ih =>
      intro i
      show D.tup [.int i, .int y] :: enumD (i + 1) (IL ys) = _
      rw [ih, List.length_cons, List.range_succ_eq_map]
      simp [gx, Function.comp]
      intro k _
      omega
  rw [key xs 0]
  simp only [Nat.zero_add]
theorem number_of_eq {p N : Nat} {xs : List Int} (h : Vc p N xs) (dx : Dg p xs) : F_number_of [.tup (IL xs), .int p] = .ok (.fz (.int (nb p N xs))) := by
  have hs := h.sz
  have hp1 := hs.p1
  have hN := hs.n3
  have hl := h.len
  have hq : p ^ (N - 1) ≤ 125 := Nat.le_trans (hs.pw (k := N - 1) (by omega)) (by decide)
  have e : sm (fun k => (p : Int) ^ k * (gx xs k ^ p ^ (N - 1) % (p : Int) ^ N)) N % (p : Int) ^ N = nb p N xs := mod_eq (sm_dvd fun k _ => by
    obtain ⟨q, hq⟩ := mod_dvd (gx xs k ^ p ^ (N - 1)) ((p : Int) ^ N)
    exact ⟨(p : Int) ^ k * q, by grind⟩)
  have b : B_number_of [.fz (.tup (IL xs)), .fz (.int p), .un, .un, .un, .un] = .ok (.rt (.fz (.int (nb p N xs))), [.fz (.tup (IL xs)), .fz (.int p), .fz (.int N), .fz (.int ((p : Int) ^ N)), .un, .un]) := by
    refine v_seq (v_ex (v_call0 (v_cons (v_fz rfl) rfl (v_cons (v_fz rfl) rfl (v_cons (v_fz rfl) rfl v_nil))) rfl (check_rests_ok h h dx dx))) (v_seq (ρ1 := [.fz (.tup (IL xs)), .fz (.int p), .fz (.int N), .un, .un, .un]) (v_set (v_u (v_fz rfl) rfl (by rw [len_IL, hl])) rfl) (v_seq (ρ1 := [.fz (.tup (IL xs)), .fz (.int p), .fz (.int N), .fz (.int ((p : Int) ^ N)), .un, .un]) (v_set (v_call0 (v_cons (v_fz rfl) rfl (v_cons (v_fz rfl) rfl v_nil)) rfl (power_eq (k := N) rfl hp1 (by omega))) rfl)
      (v_ret (pv := .fz (.int (nb p N xs))) (v_op (v_u (v_lc (ρ1 := [.fz (.tup (IL xs)), .fz (.int p), .fz (.int N), .fz (.int ((p : Int) ^ N)), .un, .un]) (L := List.range N) (c := fun (k : Nat) => .tup [.int (k : Int), .int (gx xs k)]) (g := fun (k : Nat) => .int ((p : Int) ^ k * (gx xs k ^ p ^ (N - 1) % (p : Int) ^ N))) ?_ rfl (by rw [List.length_range]; omega) rfl (fun k hk => ⟨[.fz (.tup (IL xs)), .fz (.int p), .fz (.int N), .fz (.int ((p : Int) ^ N)), .fz (.int k), .fz (.int (gx xs k))], [.fz (.tup (IL xs)), .fz (.int p), .fz (.int N), .fz (.int ((p : Int) ^ N)), .fz (.int k), .fz (.int (gx xs k))], rfl, ?_, rfl⟩) rfl) rfl (sum_nI _ _)) (v_fz rfl) rfl rfl (by rw [gMod_int hs.pN.1, e])) rfl)))
    · show (aCons (eVar 0) (aNil) _).bind en2 = _
      rw [v_cons (v_fz rfl) rfl v_nil]
      show R.ok (enumD 0 (IL xs), _) = _
      rw [enum_IL, hl]
    · rw [List.mem_range] at hk
      exact v_op (v_call0 (v_cons (v_fz rfl) rfl (v_cons (v_fz rfl) rfl v_nil)) rfl (power_eq (k := k) rfl hp1 (by omega))) (v_call0 (v_cons (v_fz rfl) rfl (v_cons (v_call0 (v_cons (v_fz rfl) rfl (v_cons (v_op (v_fz rfl) v_c rfl rfl (sub_n hN.1)) rfl v_nil)) rfl (power_eq (k := N - 1) rfl hp1 (by omega))) rfl (v_cons (v_fz rfl) rfl v_nil))) rfl (power_mod_eq (k := p ^ (N - 1)) (by simp) (by omega) hs.pN.1 (by have := hs.pN.2; omega))) rfl rfl (gMul2_int (pk_ok hs hk))
  show outF (B_number_of [.fz (.tup (IL xs)), .fz (.int p), .un, .un, .un, .un]) = _
  rw [b]
  rfl
end L50
end
section
set_option Elab.async false
set_option linter.all false
set_option maxRecDepth 100000
set_option maxHeartbeats 4000000
set_option exponentiation.threshold 400
namespace L50
open PySem PySem.Spec PyProof.Rows L2 Rf WM
/-- the digits of c -/
def dg (p N : Nat) (c : Int) (j : Nat) : List Int := (List.range j).map fun k => cj p (N - 1) ((p : Int) ^ N) c k % p
theorem rests_number_eq {p N : Nat} {c : Int} (hs : Sz p N) : F_rests_number [.int c, .int N, .int p] = .ok (.fz (.tup (IL (dg p N c N)))) := by
  have hp1 := hs.p1
  have hp5 := hs.p5
  have hN := hs.n3
  have hq : p ^ (N - 1) ≤ 125 := Nat.le_trans (hs.pw (k := N - 1) (by omega)) (by decide)
  have c1 : ((p : Int) ^ (N - 1)) = ((p ^ (N - 1) : Nat) : Int) := by simp
  have dp : divOk (p : Int) = true := divOk_of (by omega) (Nat.lt_of_lt_of_le (by omega : ((p : Nat) : Int).natAbs < 2 ^ 10) (Nat.pow_le_pow_right (by decide) (by decide)))
  have E2 := power_eq (k := N - 1) (e := ((N - 1 : Nat) : Int)) (a := (p : Int)) rfl hp1 (by omega)
  obtain ⟨ρ2, e1, cc, dd, hc, hd, rfl⟩ := forGo_rg (t := .nm 5) (body := sSeq (sSet 6 (eOp gMod (eVar 0) (eVar 2)))
  (sSeq (sApp 4 (eVar 6))
  (sSet 0 (eOp gMod (eOp gDiv (eOp Rf.gSub (eVar 0) (eCall 3 F_power_mod [] (aCons (eVar 6) (aCons (eCall 2 F_power [] (aCons (eVar 2) (aCons (eOp Rf.gSub (eVar 1) (eC (.int 1))) (aNil)))) (aCons (eVar 3) (aNil)))))) (eVar 2)) (eVar 3))))) (n := N)
    (fun j ρ => ∃ cc dd : Cell, PL cc ∧ PL dd ∧ ρ = [.fz (.int (cj p (N - 1) ((p : Int) ^ N) c j)), .fz (.int N), .fz (.int p), .fz (.int ((p : Int) ^ N)), .ow false (IL (dg p N c j)), cc, dd]) (fun j ρ hj hI => by
    obtain ⟨cc, dd, hc, hd, rfl⟩ := hI
    generalize hx : cj p (N - 1) ((p : Int) ^ N) c j = x
    have hnext : cj p (N - 1) ((p : Int) ^ N) c (j + 1) = ((x - (x % p) ^ p ^ (N - 1) % (p : Int) ^ N) / p) % (p : Int) ^ N := by rw [cj, hx]
    have E3 := power_mod_eq (a := x % p) (e := (p : Int) ^ (N - 1)) (m := (p : Int) ^ N) (k := p ^ (N - 1)) c1 (by omega) hs.pN.1 (by have := hs.pN.2; omega)
    refine ⟨[.fz (.int x), .fz (.int N), .fz (.int p), .fz (.int ((p : Int) ^ N)), .ow false (IL (dg p N c j)), .fz (.int j), dd], [.fz (.int (((x - (x % p) ^ p ^ (N - 1) % (p : Int) ^ N) / p) % (p : Int) ^ N)), .fz (.int N), .fz (.int p), .fz (.int ((p : Int) ^ N)), .ow false (IL (dg p N c (j + 1))), .fz (.int j), .fz (.int (x % p))], set_R rfl hc rfl, ?_, ?_⟩
    · refine v_seq (ρ1 := [.fz (.int x), .fz (.int N), .fz (.int p), .fz (.int ((p : Int) ^ N)), .ow false (IL (dg p N c j)), .fz (.int j), .fz (.int (x % p))]) (v_set (v_op (v_fz rfl) (v_fz rfl) rfl rfl (gMod_int (by omega))) (set_fz rfl hd rfl)) (v_seq (ρ1 := [.fz (.int x), .fz (.int N), .fz (.int p), .fz (.int ((p : Int) ^ N)), .ow false (IL (dg p N c (j + 1))), .fz (.int j), .fz (.int (x % p))]) (v_sapp rfl (v_fz rfl) ?_) (v_set (v_op (v_op (v_op (v_fz rfl) (v_call0 (v_cons (v_fz rfl) rfl (v_cons (v_call0 (v_cons (v_fz rfl) rfl (v_cons (v_op (v_fz rfl) v_c rfl rfl (sub_n hN.1)) rfl v_nil)) rfl E2) rfl (v_cons (v_fz rfl) rfl v_nil))) rfl E3) rfl rfl rfl) (v_fz rfl) rfl rfl (gDiv_int dp)) (v_fz rfl) rfl rfl (gMod_int hs.pN.1)) rfl))
      show (if szOk (IL (dg p N c j)).length = true then R.ok (Fl.nx, _) else R.no) = _
      rw [if_pos (by simp [dg, szOk]; omega)]
      have ed : dg p N c (j + 1) = dg p N c j ++ [x % p] := by
        unfold dg
        rw [List.range_succ, List.map_append, List.map_cons, hx]
        rfl
      rw [ed]
      simp [IL]
    · rw [hnext]
      exact ⟨.fz (.int j), .fz (.int (x % p)), rfl, rfl, rfl⟩) (ρ := [.fz (.int c), .fz (.int N), .fz (.int p), .fz (.int ((p : Int) ^ N)), .ow false [], .un, .un]) ⟨.un, .un, rfl, rfl, rfl⟩
  have b : B_rests_number [.fz (.int c), .fz (.int N), .fz (.int p), .un, .un, .un, .un] = .ok (.rt (.fz (.tup (IL (dg p N c N)))), [.fz (.int (cj p (N - 1) ((p : Int) ^ N) c N)), .fz (.int N), .fz (.int p), .fz (.int ((p : Int) ^ N)), .ow false (IL (dg p N c N)), cc, dd]) := by
    refine v_seq (v_ex (v_call0 (v_cons (v_fz rfl) rfl (v_cons (v_fz rfl) rfl v_nil)) rfl (length_n hs))) (v_seq (v_sifF ?_ rfl) (v_seq (v_sifF (v_not (v_t (v_call0 (v_cons (v_fz rfl) rfl v_nil) rfl isint))) rfl) (v_seq (ρ1 := [.fz (.int c), .fz (.int N), .fz (.int p), .fz (.int ((p : Int) ^ N)), .ow false [], .un, .un]) (v_par (pa := .fz (.int ((p : Int) ^ N))) (pa' := .fz (.int ((p : Int) ^ N))) (pb := .fr []) (pb' := .fr []) (ρ1 := [.fz (.int c), .fz (.int N), .fz (.int p), .un, .un, .un, .un]) (ρ2 := [.fz (.int c), .fz (.int N), .fz (.int p), .un, .un, .un, .un]) (ρ3 := [.fz (.int c), .fz (.int N), .fz (.int p), .un, .un, .un, .un]) (ρ4 := [.fz (.int c), .fz (.int N), .fz (.int p), .un, .un, .un, .un]) (ρ5 := [.fz (.int c), .fz (.int N), .fz (.int p), .fz (.int ((p : Int) ^ N)), .un, .un, .un]) (v_call0 (v_cons (v_fz rfl) rfl (v_cons (v_fz rfl) rfl v_nil)) rfl (power_eq (k := N) rfl hp1 (by omega))) rfl (v_lst v_nil rfl) rfl rfl rfl) (v_seq (v_for (v_rg1 (n := N) (v_cons (v_fz rfl) rfl v_nil) (by omega)) e1) (v_ret (v_u (v_ow rfl) rfl rfl) rfl)))))
    rcases hs with ⟨rfl, h1, h2⟩ | ⟨rfl, h1, h2⟩ | ⟨rfl, h1, h2⟩
    · exact v_tandF (v_t (v_op (v_fz rfl) v_c rfl rfl rfl))
    · exact v_tandF (v_t (v_op (v_fz rfl) v_c rfl rfl rfl))
    · refine v_tandT (v_t (v_op (v_fz rfl) v_c rfl rfl rfl)) (v_t (v_op (v_fz rfl) v_c rfl rfl ?_))
      show some (PV.fz (.bl (decide ((4 : Int) < N)))) = _
      rw [decide_eq_false (by omega)]
  show outF (B_rests_number [.fz (.int c), .fz (.int N), .fz (.int p), .un, .un, .un, .un]) = _
  rw [b]
  rfl
theorem tup_IL (xs : List Int) : gTup (.lst (IL xs)) = some (.fz (.tup (IL xs))) := rfl
theorem rests_of_eq {p N : Nat} {xs : List Int} (h : Vc p N xs) : F_rests_of [.tup (IL xs), .int p] = .ok (.fz (.tup (IL (xs.map fun x => x % (p : Int))))) := by
  have hN := h.sz.n3
  have hl := h.len
  have hp := h.sz.p5
  have e : xs.map (fun x => D.int (x % (p : Int))) = IL (xs.map fun x => x % (p : Int)) := by simp [IL]
  have b : B_rests_of [.fz (.tup (IL xs)), .fz (.int p), .un] = .ok (.rt (.fz (.tup (IL (xs.map fun x => x % (p : Int))))), [.fz (.tup (IL xs)), .fz (.int p), .un]) := by
    refine v_seq (v_ex (v_call0 (v_cons (v_fz rfl) rfl (v_cons (v_fz rfl) rfl v_nil)) rfl h.chk)) (v_ret (pv := .fz (.tup (IL (xs.map fun x => x % (p : Int))))) (v_u (v_lc (L := xs) (c := .int) (g := fun x => .int (x % (p : Int))) (v_seqT (v_fz rfl) rfl) rfl (by omega) rfl (fun x _ => ⟨[.fz (.tup (IL xs)), .fz (.int p), .fz (.int x)], _, rfl, v_op (v_fz rfl) (v_fz rfl) rfl rfl (gMod_int (by omega)), rfl⟩) rfl) rfl (by rw [e]; rfl)) rfl)
  show outF (B_rests_of [.fz (.tup (IL xs)), .fz (.int p), .un]) = _
  rw [b]
  rfl
theorem rest_act {p N : Nat} {xs ys zs : List Int} {F : Fn} (hx : Vc p N xs) (hy : Vc p N ys) (dx : Dg p xs) (dy : Dg p ys) (hz : zs.length < 1000) (hF : F [.tup (IL xs), .tup (IL ys), .int p] = .ok (.fz (.tup (IL zs)))) :
    (sSeq (sExpr (eCall 3 F_check_rests [] (aCons (eVar 0) (aCons (eVar 1) (aCons (eVar 2) (aNil))))))
  (sRet (eU gTup (eLc [3] (iSeq (eCall 3 F [] (aCons (eVar 0) (aCons (eVar 1) (aCons (eVar 2) (aNil)))))) (.nm 3) (tYesF) (eOp gMod (eVar 3) (eVar 2)))))) [.fz (.tup (IL xs)), .fz (.tup (IL ys)), .fz (.int p), .un] = .ok (.rt (.fz (.tup (IL (zs.map fun x => x % (p : Int))))), [.fz (.tup (IL xs)), .fz (.tup (IL ys)), .fz (.int p), .un]) := by
  have hp := hx.sz.p5
  have e : zs.map (fun x => D.int (x % (p : Int))) = IL (zs.map fun x => x % (p : Int)) := by simp [IL]
  refine v_seq (v_ex (v_call0 (v_cons (v_fz rfl) rfl (v_cons (v_fz rfl) rfl (v_cons (v_fz rfl) rfl v_nil))) rfl (check_rests_ok hx hy dx dy))) (v_ret (pv := .fz (.tup (IL (zs.map fun x => x % (p : Int))))) (v_u (v_lc (L := zs) (c := .int) (g := fun x => .int (x % (p : Int))) (v_seqT (v_call0 (v_cons (v_fz rfl) rfl (v_cons (v_fz rfl) rfl (v_cons (v_fz rfl) rfl v_nil))) rfl hF) rfl) rfl (by omega) rfl (fun x _ => ⟨[.fz (.tup (IL xs)), .fz (.tup (IL ys)), .fz (.int p), .fz (.int x)], _, rfl, v_op (v_fz rfl) (v_fz rfl) rfl rfl (gMod_int (by omega)), rfl⟩) rfl) rfl (by rw [e]; rfl)) rfl)
theorem rest_plus_eq {p N : Nat} {xs ys zs : List Int} (hx : Vc p N xs) (hy : Vc p N ys) (dx : Dg p xs) (dy : Dg p ys) (hz : zs.length < 1000) (hF : F_vector_plus [.tup (IL xs), .tup (IL ys), .int p] = .ok (.fz (.tup (IL zs)))) : F_rest_plus [.tup (IL xs), .tup (IL ys), .int p] = .ok (.fz (.tup (IL (zs.map fun x => x % (p : Int))))) := by
  show outF (B_rest_plus [.fz (.tup (IL xs)), .fz (.tup (IL ys)), .fz (.int p), .un]) = _
  rw [show B_rest_plus [.fz (.tup (IL xs)), .fz (.tup (IL ys)), .fz (.int p), .un] = _ from rest_act hx hy dx dy hz hF]
  rfl
theorem rest_times_eq {p N : Nat} {xs ys zs : List Int} (hx : Vc p N xs) (hy : Vc p N ys) (dx : Dg p xs) (dy : Dg p ys) (hz : zs.length < 1000) (hF : F_vector_times [.tup (IL xs), .tup (IL ys), .int p] = .ok (.fz (.tup (IL zs)))) : F_rest_times [.tup (IL xs), .tup (IL ys), .int p] = .ok (.fz (.tup (IL (zs.map fun x => x % (p : Int))))) := by
  show outF (B_rest_times [.fz (.tup (IL xs)), .fz (.tup (IL ys)), .fz (.int p), .un]) = _
  rw [show B_rest_times [.fz (.tup (IL xs)), .fz (.tup (IL ys)), .fz (.int p), .un] = _ from rest_act hx hy dx dy hz hF]
  rfl
/-! tells -/
theorem same3_int (i : Int) : F__law_same_3 [.int i, .int i] = .ok (.fz (.bl true)) := by
  show outF (R.bind (R.ok (PV.fz (.bl (decide (i = i))), [.fz (.int i), .fz (.int i), .un])) retK) = _
  rw [decide_eq_true rfl]
  rfl
theorem same4_int (i : Int) : F__law_same [.int i, .int i] = .ok (.fz (.bl true)) := by
  show outF (R.bind (R.ok (PV.fz (.bl (decide (i = i))), [.fz (.int i), .fz (.int i), .un])) retK) = _
  rw [decide_eq_true rfl]
  rfl
theorem same_T (xs : List Int) (h : xs.length < 1000) : F__law_same [.tup (IL xs), .tup (IL xs)] = .ok (.fz (.bl true)) := by
  have b : B__law_same_4 [.fz (.tup (IL xs)), .fz (.tup (IL xs)), .un] = .ok (.rt (.fz (.bl true)), [.fz (.tup (IL xs)), .fz (.tup (IL xs)), .un]) := by
    refine v_seq (v_sifF (v_t (v_u (v_fz rfl) rfl rfl)) rfl) (v_seqR (v_sifT (v_t (v_u (v_fz rfl) rfl rfl)) (v_ret (pv := .fz (.bl true)) (v_andT (v_u (v_fz rfl) rfl rfl) (v_andT (v_op (v_u (v_fz rfl) rfl (len_IL xs)) (v_u (v_fz rfl) rfl (len_IL xs)) rfl rfl (by rw [eq_int, decide_eq_true rfl])) (v_u (v_lc (L := List.range xs.length) (c := nI) (g := fun _ => .bl true) (v_rg1 (n := xs.length) (v_cons (v_u (v_fz rfl) rfl (len_IL xs)) rfl v_nil) (by omega)) rfl (by rw [List.length_range]; omega) rfl (fun k hk => ⟨[.fz (.tup (IL xs)), .fz (.tup (IL xs)), .fz (.int k)], [.fz (.tup (IL xs)), .fz (.tup (IL xs)), .fz (.int k)], rfl, ?_, rfl⟩) rfl) rfl (by rw [all_map (fun _ => true)]; simp)))) rfl)))
    rw [List.mem_range] at hk
    exact v_call0 (v_cons (v_op (v_fz rfl) (v_fz rfl) rfl rfl (ix_nat hk)) rfl (v_cons (v_op (v_fz rfl) (v_fz rfl) rfl rfl (ix_nat hk)) rfl v_nil)) rfl (same3_int _)
  show outF (B__law_same_4 [.fz (.tup (IL xs)), .fz (.tup (IL xs)), .un]) = _
  rw [b]
  rfl
theorem tells_eq {m : Nat} {args : List D} {v : D} (h : F__law_told [.fn m, .tup args] = .ok (.fz (.tup [.str "told", v]))) (hs : F__law_same [v, v] = .ok (.fz (.bl true))) : F__law_tells [.fn m, .tup args, v] = .ok (.fz (.bl true)) := by
  have b1 : B__law_is_told [.fz (.tup [.str "told", v]), .fz v] = .ok (.rt (.fz (.bl true)), [.fz (.tup [.str "told", v]), .fz v]) :=
    v_ret (v_andT (v_op (v_op (v_fz rfl) v_c rfl rfl rfl) v_c rfl rfl rfl) (v_call0 (v_cons (v_op (v_fz rfl) v_c rfl rfl rfl) rfl (v_cons (v_fz rfl) rfl v_nil)) rfl hs)) rfl
  have b2 : F__law_is_told [.tup [.str "told", v], v] = .ok (.fz (.bl true)) := by
    show outF (B__law_is_told [.fz (.tup [.str "told", v]), .fz v]) = _
    rw [b1]
    rfl
  have b : B__law_tells [.fz (.fn m), .fz (.tup args), .fz v] = .ok (.rt (.fz (.bl true)), [.fz (.fn m), .fz (.tup args), .fz v]) :=
    v_ret (v_call0 (v_cons (v_call0 (v_cons (v_fz rfl) rfl (v_cons (v_fz rfl) rfl v_nil)) rfl h) rfl (v_cons (v_fz rfl) rfl v_nil)) rfl b2) rfl
  show outF (B__law_tells [.fz (.fn m), .fz (.tup args), .fz v]) = _
  rw [b]
  rfl
/-! the last row -/
def isT : R PV → Bool
  | .ok (.fz (.bl true)) => true
  | _ => false
theorem isT_eq : ∀ {r : R PV}, isT r = true → r = .ok (.fz (.bl true))
  | .ok (.fz (.bl true)), _ => rfl
theorem last_raises : F__law_raises [.fn 22, .tup [.int 1, .int 5, .int 7], .str "large"] = .ok (.fz (.bl true)) := isT_eq (by decide +kernel)
theorem last_tells : F__law_tells [.fn 22, .tup [.int (-1), .int 3, .int 2], .tup [.int 1, .int 1, .int 1]] = .ok (.fz (.bl true)) := isT_eq (by decide +kernel)
end L50
end
section
set_option Elab.async false
set_option linter.all false
set_option maxRecDepth 100000
set_option maxHeartbeats 4000000
set_option exponentiation.threshold 400
namespace L50
open PySem PySem.Spec PyProof.Rows L2 Rf WM
theorem Sz.pp {p N : Nat} (h : Sz p N) : 0 < p := by have := h.p5; omega
section
variable {p N : Nat} {xs ys : List Int}
/-- a row of rests -/
structure Rw (p N : Nat) (xs : List Int) : Prop where
  vc : Vc p N xs
  dg : Dg p xs
theorem Rw.at (h : Rw p N xs) {k : Nat} (hk : k < N) : 0 ≤ gx xs k ∧ gx xs k < p := by
  have hk' : k < xs.length := by rw [h.vc.len]; exact hk
  have e : gx xs k = xs[k] := by simp [gx, List.getD, hk']
  rw [e]
  exact h.dg _ (List.getElem_mem hk')
theorem rw_mk (hs : Sz p N) (hl : xs.length = N) (h : Dg p xs) : Rw p N xs := ⟨⟨hs, hl, fun x hx => by
  have := h x hx
  have := hs.p5
  refine Nat.le_trans (by omega : x.natAbs ≤ 5) (by decide)⟩, h⟩
theorem pn1 (hs : Sz p N) : (p : Int) ^ (N - 1 + 1) = (p : Int) ^ N := by
  have := hs.n3
  congr 1
  omega
theorem nb_gf (h : Vc p N xs) : nb p N xs = gf p xs (N - 1) % (p : Int) ^ N := by
  have hN := h.sz.n3
  have e : N - 1 + 1 = N := by omega
  have := tS_gG h.sz.fer (gx xs) (N - 1)
  rw [e] at this
  exact mod_eq this
theorem nb_range (hs : Sz p N) (xs : List Int) : 0 ≤ nb p N xs ∧ nb p N xs < (p : Int) ^ N := ⟨Int.emod_nonneg _ (by have := hs.pN.1; omega), Int.emod_lt_of_pos _ hs.pN.1⟩
/-- the rests of a row have its number -/
abbrev rs (p : Nat) (zs : List Int) : List Int := zs.map fun x => x % (p : Int)
theorem rs_dg (hp : 0 < p) (zs : List Int) : Dg p (rs p zs) := fun x hx => by
  obtain ⟨y, _, rfl⟩ := List.mem_map.1 hx
  exact ⟨Int.emod_nonneg _ (by omega), Int.emod_lt_of_pos _ (by omega)⟩
theorem rs_rw (hs : Sz p N) {zs : List Int} (hl : zs.length = N) : Rw p N (rs p zs) := rw_mk hs (by simp [hl]) (rs_dg hs.pp zs)
theorem rs_at {zs : List Int} {k : Nat} : (p : Int) ∣ gx (rs p zs) k - gx zs k := by
  by_cases hk : k < zs.length
  · have e1 : gx (rs p zs) k = zs[k] % (p : Int) := by simp [gx, List.getD, hk]
    have e2 : gx zs k = zs[k] := by simp [gx, List.getD, hk]
    rw [e1, e2]
    exact mod_dvd _ _
  · rw [gx_ge (by simp; omega), gx_ge (by omega)]
    simp
theorem nb_rs (hs : Sz p N) {zs : List Int} (hl : zs.length = N) : nb p N (rs p zs) = gf p zs (N - 1) % (p : Int) ^ N := by
  rw [nb_gf (rs_rw hs hl).vc]
  have h := gG_mod hs.pp (x := gx (rs p zs)) (y := gx zs) (n := N - 1) (fun k _ => rs_at)
  rw [pn1 hs] at h
  exact mod_eq h
/-! the digits -/
theorem dg_len (c : Int) : (dg p N c N).length = N := by simp [dg]
theorem dg_at (c : Int) {k : Nat} (hk : k < N) : gx (dg p N c N) k = cj p (N - 1) ((p : Int) ^ N) c k % p := by simp [gx, dg, List.getD, hk]
theorem dg_rw (hs : Sz p N) (c : Int) : Rw p N (dg p N c N) := rw_mk hs (dg_len c) fun x hx => by
  obtain ⟨k, _, rfl⟩ := List.mem_map.1 hx
  have := hs.pp
  exact ⟨Int.emod_nonneg _ (by omega), Int.emod_lt_of_pos _ (by omega)⟩
theorem dg_tS (hs : Sz p N) (c : Int) : (p : Int) ^ N ∣ tS p (N - 1) (gx (dg p N c N)) N - c := by
  have h := cj_sum hs.fer (N - 1) N c N (Nat.le_refl _)
  have e : tS p (N - 1) (gx (dg p N c N)) N = sm (fun k => (p : Int) ^ k * (cj p (N - 1) ((p : Int) ^ N) c k % p) ^ p ^ (N - 1)) N := sm_congr fun k hk => by
    show (p : Int) ^ k * gx (dg p N c N) k ^ p ^ (N - 1) = _
    rw [dg_at c hk]
  rw [e]
  obtain ⟨q, hq⟩ := h
  exact ⟨q - cj p (N - 1) ((p : Int) ^ N) c N, by grind⟩
theorem dg_nb (hs : Sz p N) (c : Int) : nb p N (dg p N c N) = c % (p : Int) ^ N := mod_eq (dg_tS hs c)
theorem dg_back (h : Rw p N xs) : dg p N (nb p N xs) N = xs := by
  have hs := h.vc.sz
  have h1 := dg_tS hs (nb p N xs)
  have h2 := mod_dvd (tS p (N - 1) (gx xs) N) ((p : Int) ^ N)
  have h3 : (p : Int) ^ N ∣ tS p (N - 1) (gx (dg p N (nb p N xs) N)) N - tS p (N - 1) (gx xs) N := by
    obtain ⟨a, ha⟩ := h1
    obtain ⟨b, hb⟩ := h2
    have e : nb p N xs = tS p (N - 1) (gx xs) N % (p : Int) ^ N := rfl
    exact ⟨a + b, by rw [e] at ha; grind⟩
  have k := tS_inj hs.fer (fun k hk => (dg_rw hs _).at hk) (fun k hk => h.at hk) h3
  apply List.ext_getElem (by rw [dg_len, h.vc.len])
  intro i h1 h2
  have hi : i < N := by rw [h.vc.len] at h2; exact h2
  have := k i hi
  simpa [gx, List.getD, h1, h2] using this
/-! bounds -/
def b0 (N n : Nat) : Nat := if N ≤ 2 then (if n = 0 then 4 else 1044) else if n = 0 then 2 else if n = 1 then 14 else if n = 2 then 554 else 134219390
theorem sm_abs (f : Nat → Int) (b : Nat → Nat) (h : ∀ k, (f k).natAbs ≤ b k) : ∀ n, (sm f n).natAbs ≤ ((List.range n).map b).sum
  | 0 => by simp [sm]
  | n + 1 => by
    rw [sm, List.range_succ, List.map_append, List.sum_append]
    refine Nat.le_trans (Int.natAbs_add_le _ _) (Nat.add_le_add (sm_abs f b h n) ?_)
    simpa using h n
theorem b0_ge (hs : Sz p N) : ∀ n, n < N → ((List.range (n + 1)).map fun k => p ^ k * (p - 1) ^ p ^ (n - k)).sum ≤ b0 N n := by
  rcases hs with ⟨rfl, h1, h2⟩ | ⟨rfl, h1, h2⟩ | ⟨rfl, h1, h2⟩
  all_goals
    have : N = 1 ∨ N = 2 ∨ N = 3 ∨ N = 4 := by omega
    rcases this with rfl | rfl | rfl | rfl <;> first | decide +kernel | omega
theorem Rw.gb (h : Rw p N xs) : ∀ n, n < N → (gf p xs n).natAbs ≤ b0 N n := fun n hn => by
  refine Nat.le_trans ?_ (b0_ge h.vc.sz n hn)
  refine sm_abs _ (fun k => p ^ k * (p - 1) ^ p ^ (n - k)) (fun k => ?_) (n + 1)
  rw [Int.natAbs_mul, Int.natAbs_pow, Int.natAbs_pow, Int.natAbs_natCast]
  refine Nat.mul_le_mul_left _ (Nat.pow_le_pow_left ?_ _)
  have hp := h.vc.sz.pp
  by_cases hk : k < N
  · have := h.at hk
    omega
  · rw [gx_ge (by rw [h.vc.len]; omega)]
    simp
abbrev ad (p N : Nat) (xs ys : List Int) : List Int := vec p (fun n => gf p xs n + gf p ys n) N
abbrev mu (p N : Nat) (xs ys : List Int) : List Int := vec p (fun n => gf p xs n * gf p ys n) N
theorem bd_ad (hs : Sz p N) : ∀ n, n < N → b0 N n + b0 N n ≤ bd N n := by
  rcases hs.cases with ⟨_, rfl | rfl | rfl | rfl⟩ <;> decide +kernel
theorem bd_mu (hs : Sz p N) : ∀ n, n < N → b0 N n * b0 N n ≤ bd N n := by
  rcases hs.cases with ⟨_, rfl | rfl | rfl | rfl⟩ <;> decide +kernel
theorem b0_big (hs : Sz p N) : ∀ n, n < N → b0 N n ≤ 10 ^ 40 := by
  rcases hs.cases with ⟨_, rfl | rfl | rfl | rfl⟩ <;> decide +kernel
theorem bg_of {x : Int} (h : x.natAbs ≤ 10 ^ 40) : x.natAbs < 2 ^ Bg := by
  have h3 : 10 ^ 40 < 2 ^ 200 := by decide
  have h4 : 2 ^ 200 ≤ 2 ^ Bg := Nat.pow_le_pow_right (by decide) (by unfold Bg; omega)
  omega
theorem do_plus (hx : Rw p N xs) (hy : Rw p N ys) : F_vector_plus [.tup (IL xs), .tup (IL ys), .int p] = .ok (.fz (.tup (IL (ad p N xs ys)))) ∧ nb p N (rs p (ad p N xs ys)) = (nb p N xs + nb p N ys) % (p : Int) ^ N := by
  have hs := hx.vc.sz
  refine ⟨plus_eq hx.vc hy.vc fun n hn => Nat.le_trans (Int.natAbs_add_le _ _) (Nat.le_trans (Nat.add_le_add (hx.gb n hn) (hy.gb n hn)) (bd_ad hs n hn)), ?_⟩
  rw [nb_rs hs (vec_len _ _ _), nb_gf hx.vc, nb_gf hy.vc]
  have g := vec_gG hs.fer ((row_gG hs.fer (gx xs) N).add (row_gG hs.fer (gx ys) N)) (N - 1) (by have := hs.n3; omega)
  rw [show gf p (ad p N xs ys) (N - 1) = gf p xs (N - 1) + gf p ys (N - 1) from g, ← Int.add_emod]
theorem do_times (hx : Rw p N xs) (hy : Rw p N ys) : F_vector_times [.tup (IL xs), .tup (IL ys), .int p] = .ok (.fz (.tup (IL (mu p N xs ys)))) ∧ nb p N (rs p (mu p N xs ys)) = (nb p N xs * nb p N ys) % (p : Int) ^ N := by
  have hs := hx.vc.sz
  refine ⟨times_eq hx.vc hy.vc (fun n hn => by rw [Int.natAbs_mul]; exact Nat.le_trans (Nat.mul_le_mul (hx.gb n hn) (hy.gb n hn)) (bd_mu hs n hn)) fun n hn => ⟨bg_of (Nat.le_trans (hx.gb n hn) (b0_big hs n hn)), bg_of (Nat.le_trans (hy.gb n hn) (b0_big hs n hn))⟩, ?_⟩
  rw [nb_rs hs (vec_len _ _ _), nb_gf hx.vc, nb_gf hy.vc]
  have g := vec_gG hs.fer ((row_gG hs.fer (gx xs) N).mul (row_gG hs.fer (gx ys) N)) (N - 1) (by have := hs.n3; omega)
  rw [show gf p (mu p N xs ys) (N - 1) = gf p xs (N - 1) * gf p ys (N - 1) from g, ← Int.mul_emod]
/-! what is wrong is told so -/
theorem two_bad1 {d y : D} (h : F_check_vector [d, .int p] = .exc .mal) : F_check_two [d, y, .int p] = .exc .mal := by
  have b : B_check_two [.fz d, .fz y, .fz (.int p)] = .exc .mal := v_seqx (v_exx (v_callx (v_cons (v_fz rfl) rfl (v_cons (v_fz rfl) rfl v_nil)) rfl h))
  show outF (B_check_two [.fz d, .fz y, .fz (.int p)]) = _
  rw [b]
  rfl
theorem two_badp {x y d : D} (h : F_check_vector [x, d] = .exc .mal) : F_check_two [x, y, d] = .exc .mal := by
  have b : B_check_two [.fz x, .fz y, .fz d] = .exc .mal := v_seqx (v_exx (v_callx (v_cons (v_fz rfl) rfl (v_cons (v_fz rfl) rfl v_nil)) rfl h))
  show outF (B_check_two [.fz x, .fz y, .fz d]) = _
  rw [b]
  rfl
theorem two_bad2 {d : D} (hx : Vc p N xs) (h : F_check_vector [d, .int p] = .exc .mal) : F_check_two [.tup (IL xs), d, .int p] = .exc .mal := by
  have b : B_check_two [.fz (.tup (IL xs)), .fz d, .fz (.int p)] = .exc .mal := v_seq (v_ex (v_call0 (v_cons (v_fz rfl) rfl (v_cons (v_fz rfl) rfl v_nil)) rfl hx.chk)) (v_seqx (v_exx (v_callx (v_cons (v_fz rfl) rfl (v_cons (v_fz rfl) rfl v_nil)) rfl h)))
  show outF (B_check_two [.fz (.tup (IL xs)), .fz d, .fz (.int p)]) = _
  rw [b]
  rfl
theorem two_badl (hy : Vc p N ys) (hx : F_check_vector [.tup (IL xs), .int p] = .ok (.fz .non)) (h : xs.length ≠ N) : F_check_two [.tup (IL xs), .tup (IL ys), .int p] = .exc .mal := by
  have b : B_check_two [.fz (.tup (IL xs)), .fz (.tup (IL ys)), .fz (.int p)] = .exc .mal := by
    refine v_seq (v_ex (v_call0 (v_cons (v_fz rfl) rfl (v_cons (v_fz rfl) rfl v_nil)) rfl hx)) (v_seq (v_ex (v_call0 (v_cons (v_fz rfl) rfl (v_cons (v_fz rfl) rfl v_nil)) rfl hy.chk)) (v_sifT (v_t (v_op (v_u (v_fz rfl) rfl (len_IL xs)) (v_u (v_fz rfl) rfl (len_IL ys)) rfl rfl ?_)) rfl))
    rw [hy.len, ne_int, decide_eq_false (by omega)]
    rfl
  show outF (B_check_two [.fz (.tup (IL xs)), .fz (.tup (IL ys)), .fz (.int p)]) = _
  rw [b]
  rfl
theorem rests_bad {x y d : D} (h : F_check_two [x, y, d] = .exc .mal) : F_check_rests [x, y, d] = .exc .mal := by
  have b : B_check_rests [.fz x, .fz y, .fz d, .un] = .exc .mal := v_seqx (v_exx (v_callx (v_cons (v_fz rfl) rfl (v_cons (v_fz rfl) rfl (v_cons (v_fz rfl) rfl v_nil))) rfl h))
  show outF (B_check_rests [.fz x, .fz y, .fz d, .un]) = _
  rw [b]
  rfl
theorem rplus_bad {x y d : D} (h : F_check_rests [x, y, d] = .exc .mal) : F_rest_plus [x, y, d] = .exc .mal := by
  have b : B_rest_plus [.fz x, .fz y, .fz d, .un] = .exc .mal := v_seqx (v_exx (v_callx (v_cons (v_fz rfl) rfl (v_cons (v_fz rfl) rfl (v_cons (v_fz rfl) rfl v_nil))) rfl h))
  show outF (B_rest_plus [.fz x, .fz y, .fz d, .un]) = _
  rw [b]
  rfl
theorem rtimes_bad {x y d : D} (h : F_check_rests [x, y, d] = .exc .mal) : F_rest_times [x, y, d] = .exc .mal := by
  have b : B_rest_times [.fz x, .fz y, .fz d, .un] = .exc .mal := v_seqx (v_exx (v_callx (v_cons (v_fz rfl) rfl (v_cons (v_fz rfl) rfl (v_cons (v_fz rfl) rfl v_nil))) rfl h))
  show outF (B_rest_times [.fz x, .fz y, .fz d, .un]) = _
  rw [b]
  rfl
theorem numof_bad {x d : D} (h : F_check_rests [x, x, d] = .exc .mal) : F_number_of [x, d] = .exc .mal := by
  have b : B_number_of [.fz x, .fz d, .un, .un, .un, .un] = .exc .mal := v_seqx (v_exx (v_callx (v_cons (v_fz rfl) rfl (v_cons (v_fz rfl) rfl (v_cons (v_fz rfl) rfl v_nil))) rfl h))
  show outF (B_number_of [.fz x, .fz d, .un, .un, .un, .un]) = _
  rw [b]
  rfl
theorem restsof_bad {x d : D} (h : F_check_vector [x, d] = .exc .mal) : F_rests_of [x, d] = .exc .mal := by
  have b : B_rests_of [.fz x, .fz d, .un] = .exc .mal := v_seqx (v_exx (v_callx (v_cons (v_fz rfl) rfl (v_cons (v_fz rfl) rfl v_nil)) rfl h))
  show outF (B_rests_of [.fz x, .fz d, .un]) = _
  rw [b]
  rfl
theorem rnum_bad {c n d : D} (h : F_check_length [d, n] = .exc .mal) : F_rests_number [c, n, d] = .exc .mal := by
  have b : B_rests_number [.fz c, .fz n, .fz d, .un, .un, .un, .un] = .exc .mal := v_seqx (v_exx (v_callx (v_cons (v_fz rfl) rfl (v_cons (v_fz rfl) rfl v_nil)) rfl h))
  show outF (B_rests_number [.fz c, .fz n, .fz d, .un, .un, .un, .un]) = _
  rw [b]
  rfl
theorem rnum_badc (hs : Sz p N) {c : D} (h : F_is_integer [c] = .ok (.fz (.bl false))) : F_rests_number [c, .int N, .int p] = .exc .mal := by
  have hN := hs.n3
  have b : B_rests_number [.fz c, .fz (.int N), .fz (.int p), .un, .un, .un, .un] = .exc .mal := by
    refine v_seq (v_ex (v_call0 (v_cons (v_fz rfl) rfl (v_cons (v_fz rfl) rfl v_nil)) rfl (length_n hs))) (v_seq (ρ1 := [.fz c, .fz (.int N), .fz (.int p), .un, .un, .un, .un]) (v_sifF (ρ1 := [.fz c, .fz (.int N), .fz (.int p), .un, .un, .un, .un]) ?_ rfl) (v_seqx (v_sifT (v_not (v_t (v_call0 (v_cons (v_fz rfl) rfl v_nil) rfl h))) rfl)))
    rcases hs with ⟨rfl, h1, h2⟩ | ⟨rfl, h1, h2⟩ | ⟨rfl, h1, h2⟩
    · exact v_tandF (v_t (v_op (v_fz rfl) v_c rfl rfl rfl))
    · exact v_tandF (v_t (v_op (v_fz rfl) v_c rfl rfl rfl))
    · refine v_tandT (v_t (v_op (v_fz rfl) v_c rfl rfl rfl)) (v_t (v_op (v_fz rfl) v_c rfl rfl ?_))
      show some (PV.fz (.bl (decide ((4 : Int) < N)))) = _
      rw [decide_eq_false (by omega)]
  show outF (B_rests_number [.fz c, .fz (.int N), .fz (.int p), .un, .un, .un, .un]) = _
  rw [b]
  rfl
theorem isvec_bad {d : D} (hs : Sz p N) (h : F_is_whole_row [d] = .ok (.fz (.bl false))) : F_check_vector [d, .int p] = .exc .mal := by
  have b1 : B_is_vector [.fz d, .fz (.int p), .un] = .ok (.rt (.fz (.bl false)), [.fz d, .fz (.int p), .un]) :=
    v_seqR (v_sifT (v_orT (v_not (v_t (v_call0 (v_cons (v_fz rfl) rfl v_nil) rfl h)))) rfl)
  have b2 : F_is_vector [d, .int p] = .ok (.fz (.bl false)) := by
    show outF (B_is_vector [.fz d, .fz (.int p), .un]) = _
    rw [b1]
    rfl
  have b : B_check_vector [.fz d, .fz (.int p)] = .exc .mal :=
    v_seq (v_ex (v_call0 (v_cons (v_fz rfl) rfl (v_cons v_c rfl v_nil)) rfl (length_one hs))) (v_sifT (v_not (v_t (v_call0 (v_cons (v_fz rfl) rfl (v_cons (v_fz rfl) rfl v_nil)) rfl b2))) rfl)
  show outF (B_check_vector [.fz d, .fz (.int p)]) = _
  rw [b]
  rfl
theorem row_true (t : List Int) (h : t.length < 1000) : F_is_whole_row [.tup (.bl true :: IL t)] = .ok (.fz (.bl false)) := by
  have b : B_is_whole_row [.fz (.tup (.bl true :: IL t)), .un] = .ok (.rt (.fz (.bl false)), [.fz (.tup (.bl true :: IL t)), .un]) := by
    refine v_ret (v_andT (v_u (v_fz rfl) rfl rfl) (v_u (v_lc (L := none :: t.map some) (c := fun o : Option Int => match o with | none => .bl true | some i => .int i) (g := fun o : Option Int => .bl o.isSome) (ρ1 := [.fz (.tup (.bl true :: IL t)), .un]) ?_ rfl (by simp; omega) rfl (fun o _ => ?_) rfl) rfl (all_map _ _))) (by simp; rfl)
    · have e : (none :: t.map some).map (fun o : Option Int => match o with | none => D.bl true | some i => .int i) = .bl true :: IL t := by simp [IL]
      rw [e]
      exact v_seqT (v_fz rfl) rfl
    · cases o with
      | none => exact ⟨[.fz (.tup (.bl true :: IL t)), .fz (.bl true)], _, rfl, v_call0 (v_cons (v_fz rfl) rfl v_nil) rfl rfl, rfl⟩
      | some i => exact ⟨[.fz (.tup (.bl true :: IL t)), .fz (.int i)], _, rfl, v_call0 (v_cons (v_fz rfl) rfl v_nil) rfl rfl, rfl⟩
  show outF (B_is_whole_row [.fz (.tup (.bl true :: IL t)), .un]) = _
  rw [b]
  rfl
end
end L50
end
section
set_option Elab.async false
set_option linter.all false
set_option maxRecDepth 100000
set_option maxHeartbeats 4000000
namespace L50
open PySem PySem.Spec PyProof.Rows L2 Rf WM
/-! the words -/
def wl (p : Nat) : Nat → List (List Int)
  | 0 => [[]]
  | k + 1 => ((wl p k).map fun own => (List.range p).map fun (x : Nat) => own ++ [(x : Int)]).flatten
def ilB : List D → List Int → Bool
  | [], [] => true
  | .int i :: ds, x :: xs => decide (i = x) && ilB ds xs
  | _, _ => false
theorem ilB_eq : ∀ {ds : List D} {xs : List Int}, ilB ds xs = true → ds = IL xs
  | [], [], _ => rfl
  | .int i :: ds, x :: xs, h => by
    have h' : (decide (i = x) && ilB ds xs) = true := h
    rw [Bool.and_eq_true] at h'
    rw [of_decide_eq_true h'.1, ilB_eq h'.2]
    rfl
def rowsB : List D → List (List Int) → Bool
  | [], [] => true
  | .tup a :: ds, x :: xs => ilB a x && rowsB ds xs
  | _, _ => false
theorem rowsB_eq : ∀ {ds : List D} {xs : List (List Int)}, rowsB ds xs = true → ds = xs.map fun r => .tup (IL r)
  | [], [], _ => rfl
  | .tup a :: ds, x :: xs, h => by
    have h' : (ilB a x && rowsB ds xs) = true := h
    rw [Bool.and_eq_true] at h'
    rw [ilB_eq h'.1, rowsB_eq h'.2]
    rfl
def resB (r : R PV) (ls : List (List Int)) : Bool := match r with
  | .ok (.fr ds) => rowsB ds ls
  | _ => false
theorem resB_eq : ∀ {r : R PV} {ls : List (List Int)}, resB r ls = true → r = .ok (.fr (ls.map fun x => .tup (IL x)))
  | .ok (.fr ds), ls, h => by rw [rowsB_eq (show rowsB ds ls = true from h)]
abbrev kk (N : Nat) : Nat := min N 3
theorem words_eq {p N : Nat} (hs : Sz p N) : F__law_words [.lst (List.replicate (kk N) (.int p))] = .ok (.fr ((wl p (kk N)).map fun x => .tup (IL x))) := by
  rcases hs with ⟨rfl, h1, h2⟩ | ⟨rfl, h1, h2⟩ | ⟨rfl, h1, h2⟩
  all_goals
    have : N = 1 ∨ N = 2 ∨ N = 3 ∨ N = 4 := by omega
    rcases this with rfl | rfl | rfl | rfl <;> first | omega | exact resB_eq (by decide +kernel)
theorem words_row {p N : Nat} (hs : Sz p N) : ∀ r, r ∈ wl p (kk N) → r.length = kk N ∧ ∀ x, x ∈ r → 0 ≤ x ∧ x < (p : Int) := by
  rcases hs with ⟨rfl, h1, h2⟩ | ⟨rfl, h1, h2⟩ | ⟨rfl, h1, h2⟩
  all_goals
    have : N = 1 ∨ N = 2 ∨ N = 3 ∨ N = 4 := by omega
    rcases this with rfl | rfl | rfl | rfl <;> first | omega | decide +kernel
theorem Sz.kk {p N : Nat} (hs : Sz p N) : Sz p (kk N) := by
  unfold Sz at hs ⊢
  have : L50.kk N = min N 3 := rfl
  omega
theorem words_num {p N : Nat} (hs : Sz p N) : (srtI ((wl p (kk N)).map (nb p (kk N)))).length = p ^ kk N ∧ (wl p (kk N)).length < 64 := by
  rcases hs with ⟨rfl, h1, h2⟩ | ⟨rfl, h1, h2⟩ | ⟨rfl, h1, h2⟩
  all_goals
    have : N = 1 ∨ N = 2 ∨ N = 3 ∨ N = 4 := by omega
    rcases this with rfl | rfl | rfl | rfl <;> first | omega | decide +kernel
theorem words_vc {p N : Nat} (hs : Sz p N) {r : List Int} (hr : r ∈ wl p (kk N)) : Vc p (kk N) r := (rw_mk hs.kk (words_row hs r hr).1 (words_row hs r hr).2).vc
theorem min_eq' {p N : Nat} (hs : Sz p N) : gMin (.int N) (.int 3) = some (.fz (.int (kk N : Nat))) := by
  rcases hs.cases with ⟨_, rfl | rfl | rfl | rfl⟩ <;> rfl
theorem mul_kk {p N : Nat} (hs : Sz p N) : gMul2 (.lst [.int p]) (.int (kk N : Nat)) = some (.fr (List.replicate (kk N) (.int p))) := by
  rcases hs.cases with ⟨_, rfl | rfl | rfl | rfl⟩ <;> rfl
theorem srt_eq' {p N : Nat} (hs : Sz p N) : gSrtSet (.lst ((wl p (kk N)).map fun r => .int (nb p (kk N) r))) = some (.fr (IL (srtI ((wl p (kk N)).map (nb p (kk N)))))) := by
  have e : ((wl p (kk N)).map fun r => D.int (nb p (kk N) r)) = IL ((wl p (kk N)).map (nb p (kk N))) := by simp [IL]
  rw [e]
  unfold gSrtSet
  simp only []
  rw [show intsD (IL ((wl p (kk N)).map (nb p (kk N)))) = some _ from intsD_map _]
  simp only []
  rw [if_pos (by rw [Nat.blt_eq, List.length_map]; exact (words_num hs).2)]
theorem add_t0 {xs : List Int} (h : xs.length ≤ 50) : gAdd (.tup (IL xs)) (.tup [.int 0]) = some (.fz (.tup (IL (xs ++ [0])))) := add_tt (ys := [0]) (by simp; omega)
theorem add_bt {xs : List Int} (h : xs.length ≤ 50) : gAdd (.tup [.bl true]) (.tup (IL xs)) = some (.fz (.tup (.bl true :: IL xs))) := by
  show (if szOk ([D.bl true].length + (IL xs).length) = true then some (PV.fz (.tup ([D.bl true] ++ IL xs))) else none) = _
  rw [if_pos (by simp [szOk]; omega)]
  rfl
/-! the wrong values -/
section
variable {p N : Nat} {xs ys : List Int}
abbrev wr8 (p : Nat) (xs : List Int) : List D := [.non, .int 0, .lst (IL xs), .tup [], .tup (IL ((p : Int) :: xs.tail)), .tup (IL (-1 :: xs.tail)), .tup (.bl true :: IL xs.tail), .tup [.str "0"]]
theorem wr_cases (hx : Rw p N xs) {d : D} (hd : d ∈ wr8 p xs) : F_check_vector [d, .int p] = .exc .mal ∨ ∃ zs c, d = .tup (IL zs) ∧ Vc p N zs ∧ c ∈ zs ∧ ¬ (0 ≤ c ∧ c < (p : Int)) := by
  have hs := hx.vc.sz
  have hN := hs.n3
  have hl := hx.vc.len
  have hp := hs.p5
  have mk : ∀ c : Int, c.natAbs ≤ 5 → Vc p N (c :: xs.tail) := fun c hc => ⟨hs, by simp; omega, fun x h => by
    rcases List.mem_cons.1 h with rfl | h
    · exact Nat.le_trans hc (by decide)
    · exact hx.vc.sm x (List.mem_of_mem_tail h)⟩
  simp only [wr8, List.mem_cons, List.not_mem_nil, or_false] at hd
  rcases hd with rfl | rfl | rfl | rfl | rfl | rfl | rfl | rfl
  · exact .inl (isvec_bad hs rfl)
  · exact .inl (isvec_bad hs rfl)
  · exact .inl (isvec_bad hs rfl)
  · left
    rcases hs.cases with ⟨rfl | rfl | rfl, _⟩ <;> rfl
  · exact .inr ⟨_, (p : Int), rfl, mk _ (by omega), by simp, by omega⟩
  · exact .inr ⟨_, -1, rfl, mk _ (by decide), by simp, by omega⟩
  · exact .inl (isvec_bad hs (row_true _ (by simp; omega)))
  · exact .inl (isvec_bad hs rfl)
theorem wr_one (hx : Rw p N xs) (hy : Rw p N ys) : ∀ d, d ∈ wr8 p xs → F_check_rests [d, .tup (IL ys), .int p] = .exc .mal := fun d hd => by
  rcases wr_cases hx hd with h | ⟨zs, c, rfl, hv, hc, hb⟩
  · exact rests_bad (two_bad1 h)
  · exact check_rests_bad hv hy.vc (List.mem_append_left _ hc) hb
theorem wr_two (hx : Rw p N xs) : ∀ d, d ∈ wr8 p xs → F_check_rests [.tup (IL xs), d, .int p] = .exc .mal := fun d hd => by
  rcases wr_cases hx hd with h | ⟨zs, c, rfl, hv, hc, hb⟩
  · exact rests_bad (two_bad2 hx.vc h)
  · exact check_rests_bad hx.vc hv (List.mem_append_right _ hc) hb
theorem wr_both (hx : Rw p N xs) : ∀ d, d ∈ wr8 p xs → F_check_rests [d, d, .int p] = .exc .mal := fun d hd => by
  rcases wr_cases hx hd with h | ⟨zs, c, rfl, hv, hc, hb⟩
  · exact rests_bad (two_bad1 h)
  · exact check_rests_bad hv hv (List.mem_append_left _ hc) hb
theorem wr_long (hx : Rw p N xs) (hy : Rw p N ys) : F_check_rests [.tup (IL (xs ++ [0])), .tup (IL ys), .int p] = .exc .mal := by
  have hs := hx.vc.sz
  have hl := hx.vc.len
  refine rests_bad (two_badl hy.vc (check_vector_eq hs (by simp) (by simp; unfold Sz at hs; split <;> omega) fun x h => ?_) (by simp; omega))
  rcases List.mem_append.1 h with h | h
  · exact hx.vc.sm x h
  · rw [List.mem_singleton.1 h]; decide
theorem chk_badp (x : D) : ∀ d, d ∈ ([.non, .int 4, .int 17, .bl true] : List D) → F_check_vector [x, d] = .exc .mal := by
  intro d hd
  simp only [List.mem_cons, List.not_mem_nil, or_false] at hd
  rcases hd with rfl | rfl | rfl | rfl <;> rfl
theorem chk_badq (x : D) : ∀ d, d ∈ ([.non, .int 4, .int 17] : List D) → F_check_vector [x, d] = .exc .mal := by
  intro d hd
  simp only [List.mem_cons, List.not_mem_nil, or_false] at hd
  rcases hd with rfl | rfl | rfl <;> rfl
theorem chk_badr (x : D) : ∀ d, d ∈ ([.non, .int 6, .int 17] : List D) → F_check_vector [x, d] = .exc .mal := by
  intro d hd
  simp only [List.mem_cons, List.not_mem_nil, or_false] at hd
  rcases hd with rfl | rfl | rfl <;> rfl
theorem chk_badw (hs : Sz p N) (w : List Int) : ∀ d, d ∈ ([.non, .tup [], .lst (IL w), .tup [.str "1"]] : List D) → F_check_vector [d, .int p] = .exc .mal := by
  intro d hd
  simp only [List.mem_cons, List.not_mem_nil, or_false] at hd
  rcases hs.cases with ⟨rfl | rfl | rfl, _⟩ <;> (rcases hd with rfl | rfl | rfl | rfl <;> rfl)
theorem int_bad : ∀ d, d ∈ ([.non, .bl true, .str "1"] : List D) → F_is_integer [d] = .ok (.fz (.bl false)) := by
  intro d hd
  simp only [List.mem_cons, List.not_mem_nil, or_false] at hd
  rcases hd with rfl | rfl | rfl <;> rfl
theorem len_bad (hs : Sz p N) : ∀ d, d ∈ ([.int 0, .int 7, .non] : List D) → F_check_length [.int p, d] = .exc .mal := by
  intro d hd
  simp only [List.mem_cons, List.not_mem_nil, or_false] at hd
  rcases hs.cases with ⟨rfl | rfl | rfl, _⟩ <;> (rcases hd with rfl | rfl | rfl <;> rfl)
theorem len_badp (n : D) : ∀ d, d ∈ ([.non, .int 1, .int 17] : List D) → F_check_length [d, n] = .exc .mal := by
  intro d hd
  simp only [List.mem_cons, List.not_mem_nil, or_false] at hd
  rcases hd with rfl | rfl | rfl <;> rfl
theorem vc_wide (hs : Sz p N) (hl : xs.length = N) (h : ∀ x, x ∈ xs → x.natAbs ≤ 20) : Vc p N xs := ⟨hs, hl, fun x hx => Nat.le_trans (h x hx) (by decide)⟩
theorem plain_eq (i : Int) : F__law_plain [.int i] = .ok (.fz (.bl true)) := rfl
end
end L50
end
section
set_option Elab.async false
set_option linter.all false
set_option maxRecDepth 100000
set_option maxHeartbeats 4000000
namespace L50
open PySem PySem.Spec PyProof.Rows L2 Rf WM
abbrev S0 : Es := sSet 3 (eCallB 1 2 F__law_prime (aCons (eC (.int 5)) aNil))
abbrev S1 : Es := sSet 4 (eOp gAdd (eC (.int 1)) (eCallB 1 2 F__law_take (aCons (eIfF (tOf (eOp gLt (eVar 3) (eC (.int 5)))) (eC (.int 4)) (eC (.int 2))) aNil)))
abbrev S2 : Es := sSet 5 (eCall 2 F__law_raised [] (aCons (eVar 3) (aCons (eVar 4) aNil)))
abbrev S3 : Es := sUnp [6, 7] (eLc [17] (iRg1 (aCons (eC (.int 2)) aNil)) (.nm 17) tYesF (eU gTup (eLc [18] (iRg1 (aCons (eVar 4) aNil)) (.nm 18) tYesF (eCallB 1 2 F__law_take (aCons (eVar 3) aNil)))))
abbrev S4 : Es := sPar 8 9 (eCall 2 F__law_number [] (aCons (eVar 6) (aCons (eVar 3) aNil))) (eCall 2 F__law_number [] (aCons (eVar 7) (aCons (eVar 3) aNil)))
abbrev S5 : Es := sIf (tOrF (tNotF (tOf (eCall 3 F__law_tells [] (aCons (eC (.fn 21)) (aCons (eTup (aCons (eVar 6) (aCons (eVar 3) aNil))) (aCons (eVar 8) aNil)))))) (tNotF (tOf (eCall 3 F__law_tells [] (aCons (eC (.fn 22)) (aCons (eTup (aCons (eVar 8) (aCons (eVar 4) (aCons (eVar 3) aNil)))) (aCons (eVar 6) aNil))))))) (sRet (eC (.bl false))) sNil
abbrev S6 : Es := sPar 10 11 (eCall 2 F__law_value [] (aCons (eC (.fn 18)) (aCons (eTup (aCons (eVar 6) (aCons (eVar 7) (aCons (eVar 3) aNil)))) aNil))) (eCall 2 F__law_value [] (aCons (eC (.fn 19)) (aCons (eTup (aCons (eVar 6) (aCons (eVar 7) (aCons (eVar 3) aNil)))) aNil)))
abbrev S7 : Es := sIf (tOrF (tOf (eOp gNe (eCall 2 F__law_number [] (aCons (eVar 10) (aCons (eVar 3) aNil))) (eOp gMod (eU gInt (eOp gAdd (eVar 8) (eVar 9))) (eVar 5)))) (tOrF (tOf (eOp gNe (eCall 2 F__law_number [] (aCons (eVar 11) (aCons (eVar 3) aNil))) (eOp gMod (eU gInt (eOp gMul2 (eVar 8) (eVar 9))) (eVar 5)))) (tOrF (tNotF (tOf (eU gAll (eLc [12] (iSeq (eOp gAdd (eVar 10) (eVar 11))) (.nm 12) tYesF (eChain gLe gLt (eC (.int 0)) (eVar 12) (eVar 3)))))) (tOrF (tOf (eOp gNe (eU gLen (eVar 10)) (eVar 4))) (tOf (eOp gNe (eU gLen (eVar 11)) (eVar 4))))))) (sRet (eC (.bl false))) sNil
abbrev S8 : Es := sIf (tOrF (tOf (eOp gNe (eVar 10) (eU gTup (eLc [12] (iSeq (eCall 2 F__law_value [] (aCons (eC (.fn 15)) (aCons (eTup (aCons (eVar 6) (aCons (eVar 7) (aCons (eVar 3) aNil)))) aNil)))) (.nm 12) tYesF (eOp gMod (eU gInt (eVar 12)) (eVar 3)))))) (tOf (eOp gNe (eVar 11) (eU gTup (eLc [12] (iSeq (eCall 2 F__law_value [] (aCons (eC (.fn 16)) (aCons (eTup (aCons (eVar 6) (aCons (eVar 7) (aCons (eVar 3) aNil)))) aNil)))) (.nm 12) tYesF (eOp gMod (eU gInt (eVar 12)) (eVar 3))))))) (sRet (eC (.bl false))) sNil
abbrev S9 : Es := sSet 12 (eOp Rf.gSub (eCallB 1 2 F__law_take (aCons (eOp gMul2 (eC (.int 4)) (eVar 5)) aNil)) (eOp gMul2 (eC (.int 2)) (eVar 5)))
abbrev S10 : Es := sSet 13 (eCall 2 F__law_value [] (aCons (eC (.fn 22)) (aCons (eTup (aCons (eVar 12) (aCons (eVar 4) (aCons (eVar 3) aNil)))) aNil)))
abbrev S11 : Es := sIf (tOrF (tOf (eOp gNe (eU gLen (eVar 13)) (eVar 4))) (tOrF (tNotF (tOf (eU gAll (eLc [19] (iSeq (eVar 13)) (.nm 19) tYesF (eAndV (eCall 1 F__law_plain [] (aCons (eVar 19) aNil)) (eChain gLe gLt (eC (.int 0)) (eVar 19) (eVar 3))))))) (tOf (eOp gNe (eCall 2 F__law_number [] (aCons (eVar 13) (aCons (eVar 3) aNil))) (eOp gMod (eU gInt (eVar 12)) (eVar 5)))))) (sRet (eC (.bl false))) sNil
abbrev S12 : Es := sSet 14 (eU gTup (eLc [18] (iRg1 (aCons (eVar 4) aNil)) (.nm 18) tYesF (eOp Rf.gSub (eCallB 1 2 F__law_take (aCons (eC (.int 41)) aNil)) (eC (.int 20)))))
abbrev S13 : Es := sIf (tNotF (tOf (eCall 3 F__law_tells [] (aCons (eC (.fn 17)) (aCons (eTup (aCons (eVar 14) (aCons (eVar 3) aNil))) (aCons (eU gTup (eLc [19] (iSeq (eVar 14)) (.nm 19) tYesF (eOp gMod (eU gInt (eVar 19)) (eVar 3)))) aNil)))))) (sRet (eC (.bl false))) sNil
abbrev S14 : Es := sIf (tOf (eOp gNe (eU gLen (eU gSrtSet (eLc [20] (iSeq (eCall 1 F__law_words [] (aCons (eOp gMul2 (eLst (aCons (eVar 3) aNil)) (eOp gMin (eVar 4) (eC (.int 3)))) aNil))) (.nm 20) tYesF (eCall 2 F__law_number [] (aCons (eVar 20) (aCons (eVar 3) aNil)))))) (eCall 2 F__law_raised [] (aCons (eVar 3) (aCons (eOp gMin (eVar 4) (eC (.int 3))) aNil))))) (sRet (eC (.bl false))) sNil
abbrev S15 : Es := sSet 15 (eLst (aCons (eC .non) (aCons (eC (.int 0)) (aCons (eU gLst (eVar 6)) (aCons (eTup aNil) (aCons (eOp gAdd (eTup (aCons (eVar 3) aNil)) (eSl (eVar 6) (oSome (eC (.int 1))) oNone)) (aCons (eOp gAdd (eTup (aCons (eU gNeg (eC (.int 1))) aNil)) (eSl (eVar 6) (oSome (eC (.int 1))) oNone)) (aCons (eOp gAdd (eTup (aCons (eC (.bl true)) aNil)) (eSl (eVar 6) (oSome (eC (.int 1))) oNone)) (aCons (eTup (aCons (eC (.str "0")) aNil)) aNil)))))))))
abbrev S16 : Es := sFor (iSeq (eTup (aCons (eC (.fn 18)) (aCons (eC (.fn 19)) aNil)))) (.nm 16) (sIf (tOrF (tNotF (tOf (eCall 4 F__law_bads [] (aCons (eVar 16) (aCons (eTup (aCons (eVar 6) (aCons (eVar 7) (aCons (eVar 3) aNil)))) (aCons (eC (.int 0)) (aCons (eOp gAdd (eVar 15) (eLst (aCons (eOp gAdd (eVar 6) (eTup (aCons (eC (.int 0)) aNil))) aNil))) aNil))))))) (tOrF (tNotF (tOf (eCall 4 F__law_bads [] (aCons (eVar 16) (aCons (eTup (aCons (eVar 6) (aCons (eVar 7) (aCons (eVar 3) aNil)))) (aCons (eC (.int 1)) (aCons (eVar 15) aNil))))))) (tNotF (tOf (eCall 4 F__law_bads [] (aCons (eVar 16) (aCons (eTup (aCons (eVar 6) (aCons (eVar 7) (aCons (eVar 3) aNil)))) (aCons (eC (.int 2)) (aCons (eLst (aCons (eC .non) (aCons (eC (.int 4)) (aCons (eC (.int 17)) (aCons (eC (.bl true)) aNil))))) aNil))))))))) (sRet (eC (.bl false))) sNil)
abbrev S17 : Es := sIf (tOrF (tNotF (tOf (eCall 4 F__law_bads [] (aCons (eC (.fn 21)) (aCons (eTup (aCons (eVar 6) (aCons (eVar 3) aNil))) (aCons (eC (.int 0)) (aCons (eVar 15) aNil))))))) (tOrF (tNotF (tOf (eCall 4 F__law_bads [] (aCons (eC (.fn 21)) (aCons (eTup (aCons (eVar 6) (aCons (eVar 3) aNil))) (aCons (eC (.int 1)) (aCons (eLst (aCons (eC .non) (aCons (eC (.int 4)) (aCons (eC (.int 17)) aNil)))) aNil))))))) (tOrF (tNotF (tOf (eCall 4 F__law_bads [] (aCons (eC (.fn 17)) (aCons (eTup (aCons (eVar 14) (aCons (eVar 3) aNil))) (aCons (eC (.int 0)) (aCons (eLst (aCons (eC .non) (aCons (eTup aNil) (aCons (eU gLst (eVar 14)) (aCons (eTup (aCons (eC (.str "1")) aNil)) aNil))))) aNil))))))) (tNotF (tOf (eCall 4 F__law_bads [] (aCons (eC (.fn 17)) (aCons (eTup (aCons (eVar 14) (aCons (eVar 3) aNil))) (aCons (eC (.int 1)) (aCons (eLst (aCons (eC .non) (aCons (eC (.int 6)) (aCons (eC (.int 17)) aNil)))) aNil)))))))))) (sRet (eC (.bl false))) sNil
abbrev S18 : Es := sIf (tOrF (tNotF (tOf (eCall 4 F__law_bads [] (aCons (eC (.fn 22)) (aCons (eTup (aCons (eVar 12) (aCons (eVar 4) (aCons (eVar 3) aNil)))) (aCons (eC (.int 0)) (aCons (eLst (aCons (eC .non) (aCons (eC (.bl true)) (aCons (eC (.str "1")) aNil)))) aNil))))))) (tOrF (tNotF (tOf (eCall 4 F__law_bads [] (aCons (eC (.fn 22)) (aCons (eTup (aCons (eVar 12) (aCons (eVar 4) (aCons (eVar 3) aNil)))) (aCons (eC (.int 1)) (aCons (eLst (aCons (eC (.int 0)) (aCons (eC (.int 7)) (aCons (eC .non) aNil)))) aNil))))))) (tNotF (tOf (eCall 4 F__law_bads [] (aCons (eC (.fn 22)) (aCons (eTup (aCons (eVar 12) (aCons (eVar 4) (aCons (eVar 3) aNil)))) (aCons (eC (.int 2)) (aCons (eLst (aCons (eC .non) (aCons (eC (.int 1)) (aCons (eC (.int 17)) aNil)))) aNil))))))))) (sRet (eC (.bl false))) sNil
abbrev TB : Es := sSeq S0 (sSeq S1 (sSeq S2 (sSeq S3 (sSeq S4 (sSeq S5 (sSeq S6 (sSeq S7 (sSeq S8 (sSeq S9 (sSeq S10 (sSeq S11 (sSeq S12 (sSeq S13 (sSeq S14 (sSeq S15 (sSeq S16 (sSeq S17 (S18))))))))))))))))))
theorem t4 {p N : Nat} {x y : List Int} {ns : List Int} {a b : Int} {c2 c3 c4 c5 c6 c7 c8 c9 c10 c11 c12 c13 c14 c15 c16 : Cell} (hx : Rw p N x) (hy : Rw p N y) (h6 : PL c6) (h7 : PL c7) (h8 : PL c8) (h9 : PL c9) (h10 : PL c10) (h11 : PL c11) (h13 : PL c13) (h14 : PL c14) (h15 : PL c15) (h16 : PL c16) (h12 : c12 = .un ∨ ∃ d, c12 = .fz d): S4 [.fz (.lck (IL ns)), .ow false [.int a, .int b], c2, .fz (.int p), .fz (.int N), .fz (.int ((p : Int) ^ N)), .fz (.tup (IL (x))), .fz (.tup (IL (y))), c8, c9, c10, c11, c12, c13, c14, c15, c16, .un, .un, .un, .un] = .ok (.nx, [.fz (.lck (IL ns)), .ow false [.int a, .int b], c2, .fz (.int p), .fz (.int N), .fz (.int ((p : Int) ^ N)), .fz (.tup (IL (x))), .fz (.tup (IL (y))), .fz (.int (nb p N (x))), .fz (.int (nb p N (y))), c10, c11, c12, c13, c14, c15, c16, .un, .un, .un, .un]) := by
  have hs := hx.vc.sz
  have n3 := hs.n3
  have hp5 := hs.p5
  have lx := hx.vc.len
  have pN := hs.pN
  have ex := law_number_eq hx.vc
  have ey := law_number_eq hy.vc
  exact v_par (v_call0 (v_cons (v_fz rfl) rfl (v_cons (v_fz rfl) rfl v_nil)) rfl ex) rfl (v_call0 (v_cons (v_fz rfl) rfl (v_cons (v_fz rfl) rfl v_nil)) rfl ey) rfl (set_fz rfl h8 rfl) (set_fz rfl h9 rfl)
theorem t5 {p N : Nat} {x y : List Int} {ns : List Int} {a b : Int} {c2 c3 c4 c5 c6 c7 c8 c9 c10 c11 c12 c13 c14 c15 c16 : Cell} (hx : Rw p N x) (hy : Rw p N y) (h6 : PL c6) (h7 : PL c7) (h8 : PL c8) (h9 : PL c9) (h10 : PL c10) (h11 : PL c11) (h13 : PL c13) (h14 : PL c14) (h15 : PL c15) (h16 : PL c16) (h12 : c12 = .un ∨ ∃ d, c12 = .fz d): S5 [.fz (.lck (IL ns)), .ow false [.int a, .int b], c2, .fz (.int p), .fz (.int N), .fz (.int ((p : Int) ^ N)), .fz (.tup (IL (x))), .fz (.tup (IL (y))), .fz (.int (nb p N (x))), .fz (.int (nb p N (y))), c10, c11, c12, c13, c14, c15, c16, .un, .un, .un, .un] = .ok (.nx, [.fz (.lck (IL ns)), .ow false [.int a, .int b], c2, .fz (.int p), .fz (.int N), .fz (.int ((p : Int) ^ N)), .fz (.tup (IL (x))), .fz (.tup (IL (y))), .fz (.int (nb p N (x))), .fz (.int (nb p N (y))), c10, c11, c12, c13, c14, c15, c16, .un, .un, .un, .un]) := by
  have hs := hx.vc.sz
  have n3 := hs.n3
  have hp5 := hs.p5
  have lx := hx.vc.len
  have pN := hs.pN
  have ex := law_number_eq hx.vc
  have ey := law_number_eq hy.vc
  have k21 := tells_eq (m := 21) (told2 rfl (number_of_eq hx.vc hx.dg)) (same4_int _)
  have k22 : F__law_tells [.fn 22, .tup [.int (nb p N (x)), .int N, .int p], .tup (IL (x))] = .ok (.fz (.bl true)) := by
    have h := tells_eq (m := 22) (told3 rfl (rests_number_eq (c := nb p N (x)) hs)) (same_T _ (by rw [dg_len]; omega))
    rw [dg_back hx] at h
    exact h
  exact (v_sifF (v_orF (v_not (v_t (v_call0 (v_cons v_c rfl (v_cons (v_tup (v_cons (v_fz rfl) rfl (v_cons (v_fz rfl) rfl v_nil)) rfl) rfl (v_cons (v_fz rfl) rfl v_nil))) rfl k21))) (v_not (v_t (v_call0 (v_cons v_c rfl (v_cons (v_tup (v_cons (v_fz rfl) rfl (v_cons (v_fz rfl) rfl (v_cons (v_fz rfl) rfl v_nil))) rfl) rfl (v_cons (v_fz rfl) rfl v_nil))) rfl k22)))) rfl)
theorem t6 {p N : Nat} {x y : List Int} {ns : List Int} {a b : Int} {c2 c3 c4 c5 c6 c7 c8 c9 c10 c11 c12 c13 c14 c15 c16 : Cell} (hx : Rw p N x) (hy : Rw p N y) (h6 : PL c6) (h7 : PL c7) (h8 : PL c8) (h9 : PL c9) (h10 : PL c10) (h11 : PL c11) (h13 : PL c13) (h14 : PL c14) (h15 : PL c15) (h16 : PL c16) (h12 : c12 = .un ∨ ∃ d, c12 = .fz d): S6 [.fz (.lck (IL ns)), .ow false [.int a, .int b], c2, .fz (.int p), .fz (.int N), .fz (.int ((p : Int) ^ N)), .fz (.tup (IL (x))), .fz (.tup (IL (y))), .fz (.int (nb p N (x))), .fz (.int (nb p N (y))), c10, c11, c12, c13, c14, c15, c16, .un, .un, .un, .un] = .ok (.nx, [.fz (.lck (IL ns)), .ow false [.int a, .int b], c2, .fz (.int p), .fz (.int N), .fz (.int ((p : Int) ^ N)), .fz (.tup (IL (x))), .fz (.tup (IL (y))), .fz (.int (nb p N (x))), .fz (.int (nb p N (y))), .fz (.tup (IL (rs p (ad p N (x) (y))))), .fz (.tup (IL (rs p (mu p N (x) (y))))), c12, c13, c14, c15, c16, .un, .un, .un, .un]) := by
  have hs := hx.vc.sz
  have n3 := hs.n3
  have hp5 := hs.p5
  have lx := hx.vc.len
  have pN := hs.pN
  have ex := law_number_eq hx.vc
  have ey := law_number_eq hy.vc
  have k21 := tells_eq (m := 21) (told2 rfl (number_of_eq hx.vc hx.dg)) (same4_int _)
  have k22 : F__law_tells [.fn 22, .tup [.int (nb p N (x)), .int N, .int p], .tup (IL (x))] = .ok (.fz (.bl true)) := by
    have h := tells_eq (m := 22) (told3 rfl (rests_number_eq (c := nb p N (x)) hs)) (same_T _ (by rw [dg_len]; omega))
    rw [dg_back hx] at h
    exact h
  obtain ⟨fp, np⟩ := do_plus hx hy
  obtain ⟨ft, nt⟩ := do_times hx hy
  have lA : (ad p N (x) (y)).length = N := vec_len _ _ _
  have lM : (mu p N (x) (y)).length = N := vec_len _ _ _
  have vp := val3 (m := 18) rfl (rest_plus_eq hx.vc hy.vc hx.dg hy.dg (by omega) fp)
  have vt := val3 (m := 19) rfl (rest_times_eq hx.vc hy.vc hx.dg hy.dg (by omega) ft)
  exact v_par (v_call0 (v_cons v_c rfl (v_cons (v_tup (v_cons (v_fz rfl) rfl (v_cons (v_fz rfl) rfl (v_cons (v_fz rfl) rfl v_nil))) rfl) rfl v_nil)) rfl vp) rfl (v_call0 (v_cons v_c rfl (v_cons (v_tup (v_cons (v_fz rfl) rfl (v_cons (v_fz rfl) rfl (v_cons (v_fz rfl) rfl v_nil))) rfl) rfl v_nil)) rfl vt) rfl (set_fz rfl h10 rfl) (set_fz rfl h11 rfl)
theorem t7 {p N : Nat} {x y : List Int} {ns : List Int} {a b : Int} {c2 c3 c4 c5 c6 c7 c8 c9 c10 c11 c12 c13 c14 c15 c16 : Cell} (hx : Rw p N x) (hy : Rw p N y) (h6 : PL c6) (h7 : PL c7) (h8 : PL c8) (h9 : PL c9) (h10 : PL c10) (h11 : PL c11) (h13 : PL c13) (h14 : PL c14) (h15 : PL c15) (h16 : PL c16) (h12 : c12 = .un ∨ ∃ d, c12 = .fz d): S7 [.fz (.lck (IL ns)), .ow false [.int a, .int b], c2, .fz (.int p), .fz (.int N), .fz (.int ((p : Int) ^ N)), .fz (.tup (IL (x))), .fz (.tup (IL (y))), .fz (.int (nb p N (x))), .fz (.int (nb p N (y))), .fz (.tup (IL (rs p (ad p N (x) (y))))), .fz (.tup (IL (rs p (mu p N (x) (y))))), c12, c13, c14, c15, c16, .un, .un, .un, .un] = .ok (.nx, [.fz (.lck (IL ns)), .ow false [.int a, .int b], c2, .fz (.int p), .fz (.int N), .fz (.int ((p : Int) ^ N)), .fz (.tup (IL (x))), .fz (.tup (IL (y))), .fz (.int (nb p N (x))), .fz (.int (nb p N (y))), .fz (.tup (IL (rs p (ad p N (x) (y))))), .fz (.tup (IL (rs p (mu p N (x) (y))))), c12, c13, c14, c15, c16, .un, .un, .un, .un]) := by
  have hs := hx.vc.sz
  have n3 := hs.n3
  have hp5 := hs.p5
  have lx := hx.vc.len
  have pN := hs.pN
  have ex := law_number_eq hx.vc
  have ey := law_number_eq hy.vc
  have k21 := tells_eq (m := 21) (told2 rfl (number_of_eq hx.vc hx.dg)) (same4_int _)
  have k22 : F__law_tells [.fn 22, .tup [.int (nb p N (x)), .int N, .int p], .tup (IL (x))] = .ok (.fz (.bl true)) := by
    have h := tells_eq (m := 22) (told3 rfl (rests_number_eq (c := nb p N (x)) hs)) (same_T _ (by rw [dg_len]; omega))
    rw [dg_back hx] at h
    exact h
  obtain ⟨fp, np⟩ := do_plus hx hy
  obtain ⟨ft, nt⟩ := do_times hx hy
  have lA : (ad p N (x) (y)).length = N := vec_len _ _ _
  have lM : (mu p N (x) (y)).length = N := vec_len _ _ _
  have vp := val3 (m := 18) rfl (rest_plus_eq hx.vc hy.vc hx.dg hy.dg (by omega) fp)
  have vt := val3 (m := 19) rfl (rest_times_eq hx.vc hy.vc hx.dg hy.dg (by omega) ft)
  have rA := rs_rw hs lA
  have rM := rs_rw hs lM
  have eA := law_number_eq rA.vc
  have eM := law_number_eq rM.vc
  have mxy : mulOk (nb p N (x)) (nb p N (y)) = true := mulOk_l (by have := nb_range hs x; omega)
  have lrA : ((rs p (ad p N (x) (y))).length : Int) = N := by rw [rA.vc.len]
  have lrM : ((rs p (mu p N (x) (y))).length : Int) = N := by rw [rM.vc.len]
  have lc7 : eLc [12] (iSeq (eOp gAdd (eVar 10) (eVar 11))) (.nm 12) tYesF (eChain gLe gLt (eC (.int 0)) (eVar 12) (eVar 3)) [.fz (.lck (IL ns)), .ow false [.int a, .int b], c2, .fz (.int p), .fz (.int N), .fz (.int ((p : Int) ^ N)), .fz (.tup (IL (x))), .fz (.tup (IL (y))), .fz (.int (nb p N (x))), .fz (.int (nb p N (y))), .fz (.tup (IL (rs p (ad p N (x) (y))))), .fz (.tup (IL (rs p (mu p N (x) (y))))), c12, c13, c14, c15, c16, .un, .un, .un, .un] = .ok (.fr ((rs p (ad p N (x) (y)) ++ rs p (mu p N (x) (y))).map fun z => D.bl (decide (0 ≤ z ∧ z < (p : Int)))), [.fz (.lck (IL ns)), .ow false [.int a, .int b], c2, .fz (.int p), .fz (.int N), .fz (.int ((p : Int) ^ N)), .fz (.tup (IL (x))), .fz (.tup (IL (y))), .fz (.int (nb p N (x))), .fz (.int (nb p N (y))), .fz (.tup (IL (rs p (ad p N (x) (y))))), .fz (.tup (IL (rs p (mu p N (x) (y))))), c12, c13, c14, c15, c16, .un, .un, .un, .un]) := by
    have h := v_lc (ρ := [.fz (.lck (IL ns)), .ow false [.int a, .int b], c2, .fz (.int p), .fz (.int N), .fz (.int ((p : Int) ^ N)), .fz (.tup (IL (x))), .fz (.tup (IL (y))), .fz (.int (nb p N (x))), .fz (.int (nb p N (y))), .fz (.tup (IL (rs p (ad p N (x) (y))))), .fz (.tup (IL (rs p (mu p N (x) (y))))), c12, c13, c14, c15, c16, .un, .un, .un, .un]) (ρ1 := [.fz (.lck (IL ns)), .ow false [.int a, .int b], c2, .fz (.int p), .fz (.int N), .fz (.int ((p : Int) ^ N)), .fz (.tup (IL (x))), .fz (.tup (IL (y))), .fz (.int (nb p N (x))), .fz (.int (nb p N (y))), .fz (.tup (IL (rs p (ad p N (x) (y))))), .fz (.tup (IL (rs p (mu p N (x) (y))))), c12, c13, c14, c15, c16, .un, .un, .un, .un]) (ρ2 := [.fz (.lck (IL ns)), .ow false [.int a, .int b], c2, .fz (.int p), .fz (.int N), .fz (.int ((p : Int) ^ N)), .fz (.tup (IL (x))), .fz (.tup (IL (y))), .fz (.int (nb p N (x))), .fz (.int (nb p N (y))), .fz (.tup (IL (rs p (ad p N (x) (y))))), .fz (.tup (IL (rs p (mu p N (x) (y))))), c12, c13, c14, c15, c16, .un, .un, .un, .un]) (vs := [12]) (t := .nm 12) (fi := iSeq (eOp gAdd (eVar 10) (eVar 11))) (fe := eChain gLe gLt (eC (.int 0)) (eVar 12) (eVar 3)) (L := (rs p (ad p N (x) (y)) ++ rs p (mu p N (x) (y)))) (c := .int) (g := fun z => .bl (decide (0 ≤ z ∧ z < (p : Int)))) (by exact v_seqT (v_op (v_fz rfl) (v_fz rfl) rfl rfl (add_tt (by rw [rA.vc.len, rM.vc.len]; omega))) rfl) (by rcases h12 with rfl | ⟨d, rfl⟩ <;> rfl) (by rw [List.length_append, rA.vc.len, rM.vc.len]; omega) rfl (fun z hz => ⟨[.fz (.lck (IL ns)), .ow false [.int a, .int b], c2, .fz (.int p), .fz (.int N), .fz (.int ((p : Int) ^ N)), .fz (.tup (IL (x))), .fz (.tup (IL (y))), .fz (.int (nb p N (x))), .fz (.int (nb p N (y))), .fz (.tup (IL (rs p (ad p N (x) (y))))), .fz (.tup (IL (rs p (mu p N (x) (y))))), .fz (.int z), c13, c14, c15, c16, .un, .un, .un, .un], [.fz (.lck (IL ns)), .ow false [.int a, .int b], c2, .fz (.int p), .fz (.int N), .fz (.int ((p : Int) ^ N)), .fz (.tup (IL (x))), .fz (.tup (IL (y))), .fz (.int (nb p N (x))), .fz (.int (nb p N (y))), .fz (.tup (IL (rs p (ad p N (x) (y))))), .fz (.tup (IL (rs p (mu p N (x) (y))))), .fz (.int z), c13, c14, c15, c16, .un, .un, .un, .un], rfl, by exact v_ch01 v_c (v_fz rfl) (v_fz rfl), rfl⟩) rfl
    exact h
  have all7 : gAll (.lst ((rs p (ad p N (x) (y)) ++ rs p (mu p N (x) (y))).map fun z => D.bl (decide (0 ≤ z ∧ z < (p : Int))))) = some (.fz (.bl true)) := by
    rw [all_map, List.all_eq_true.2]
    intro z hz
    rcases List.mem_append.1 hz with h | h
    · exact decide_eq_true (rA.dg z h)
    · exact decide_eq_true (rM.dg z h)
  exact (v_sifF (v_orF (v_t (v_op (v_call0 (v_cons (v_fz rfl) rfl (v_cons (v_fz rfl) rfl v_nil)) rfl eA) (v_op (v_u (v_op (v_fz rfl) (v_fz rfl) rfl rfl rfl) rfl rfl) (v_fz rfl) rfl rfl (gMod_int pN.1)) rfl rfl (ne_i np))) (v_orF (v_t (v_op (v_call0 (v_cons (v_fz rfl) rfl (v_cons (v_fz rfl) rfl v_nil)) rfl eM) (v_op (v_u (v_op (v_fz rfl) (v_fz rfl) rfl rfl (gMul2_int mxy)) rfl rfl) (v_fz rfl) rfl rfl (gMod_int pN.1)) rfl rfl (ne_i nt))) (v_orF (v_not (v_t (v_u lc7 rfl all7))) (v_orF (v_t (v_op (v_u (v_fz rfl) rfl (len_IL _)) (v_fz rfl) rfl rfl (ne_i lrA))) (v_t (v_op (v_u (v_fz rfl) rfl (len_IL _)) (v_fz rfl) rfl rfl (ne_i lrM))))))) rfl)
theorem t8 {p N : Nat} {x y : List Int} {ns : List Int} {a b : Int} {c2 c3 c4 c5 c6 c7 c8 c9 c10 c11 c12 c13 c14 c15 c16 : Cell} (hx : Rw p N x) (hy : Rw p N y) (h6 : PL c6) (h7 : PL c7) (h8 : PL c8) (h9 : PL c9) (h10 : PL c10) (h11 : PL c11) (h13 : PL c13) (h14 : PL c14) (h15 : PL c15) (h16 : PL c16) (h12 : c12 = .un ∨ ∃ d, c12 = .fz d): S8 [.fz (.lck (IL ns)), .ow false [.int a, .int b], c2, .fz (.int p), .fz (.int N), .fz (.int ((p : Int) ^ N)), .fz (.tup (IL (x))), .fz (.tup (IL (y))), .fz (.int (nb p N (x))), .fz (.int (nb p N (y))), .fz (.tup (IL (rs p (ad p N (x) (y))))), .fz (.tup (IL (rs p (mu p N (x) (y))))), c12, c13, c14, c15, c16, .un, .un, .un, .un] = .ok (.nx, [.fz (.lck (IL ns)), .ow false [.int a, .int b], c2, .fz (.int p), .fz (.int N), .fz (.int ((p : Int) ^ N)), .fz (.tup (IL (x))), .fz (.tup (IL (y))), .fz (.int (nb p N (x))), .fz (.int (nb p N (y))), .fz (.tup (IL (rs p (ad p N (x) (y))))), .fz (.tup (IL (rs p (mu p N (x) (y))))), c12, c13, c14, c15, c16, .un, .un, .un, .un]) := by
  have hs := hx.vc.sz
  have n3 := hs.n3
  have hp5 := hs.p5
  have lx := hx.vc.len
  have pN := hs.pN
  have ex := law_number_eq hx.vc
  have ey := law_number_eq hy.vc
  have k21 := tells_eq (m := 21) (told2 rfl (number_of_eq hx.vc hx.dg)) (same4_int _)
  have k22 : F__law_tells [.fn 22, .tup [.int (nb p N (x)), .int N, .int p], .tup (IL (x))] = .ok (.fz (.bl true)) := by
    have h := tells_eq (m := 22) (told3 rfl (rests_number_eq (c := nb p N (x)) hs)) (same_T _ (by rw [dg_len]; omega))
    rw [dg_back hx] at h
    exact h
  obtain ⟨fp, np⟩ := do_plus hx hy
  obtain ⟨ft, nt⟩ := do_times hx hy
  have lA : (ad p N (x) (y)).length = N := vec_len _ _ _
  have lM : (mu p N (x) (y)).length = N := vec_len _ _ _
  have vp := val3 (m := 18) rfl (rest_plus_eq hx.vc hy.vc hx.dg hy.dg (by omega) fp)
  have vt := val3 (m := 19) rfl (rest_times_eq hx.vc hy.vc hx.dg hy.dg (by omega) ft)
  have rA := rs_rw hs lA
  have rM := rs_rw hs lM
  have eA := law_number_eq rA.vc
  have eM := law_number_eq rM.vc
  have mxy : mulOk (nb p N (x)) (nb p N (y)) = true := mulOk_l (by have := nb_range hs x; omega)
  have lrA : ((rs p (ad p N (x) (y))).length : Int) = N := by rw [rA.vc.len]
  have lrM : ((rs p (mu p N (x) (y))).length : Int) = N := by rw [rM.vc.len]
  have lc7 : eLc [12] (iSeq (eOp gAdd (eVar 10) (eVar 11))) (.nm 12) tYesF (eChain gLe gLt (eC (.int 0)) (eVar 12) (eVar 3)) [.fz (.lck (IL ns)), .ow false [.int a, .int b], c2, .fz (.int p), .fz (.int N), .fz (.int ((p : Int) ^ N)), .fz (.tup (IL (x))), .fz (.tup (IL (y))), .fz (.int (nb p N (x))), .fz (.int (nb p N (y))), .fz (.tup (IL (rs p (ad p N (x) (y))))), .fz (.tup (IL (rs p (mu p N (x) (y))))), c12, c13, c14, c15, c16, .un, .un, .un, .un] = .ok (.fr ((rs p (ad p N (x) (y)) ++ rs p (mu p N (x) (y))).map fun z => D.bl (decide (0 ≤ z ∧ z < (p : Int)))), [.fz (.lck (IL ns)), .ow false [.int a, .int b], c2, .fz (.int p), .fz (.int N), .fz (.int ((p : Int) ^ N)), .fz (.tup (IL (x))), .fz (.tup (IL (y))), .fz (.int (nb p N (x))), .fz (.int (nb p N (y))), .fz (.tup (IL (rs p (ad p N (x) (y))))), .fz (.tup (IL (rs p (mu p N (x) (y))))), c12, c13, c14, c15, c16, .un, .un, .un, .un]) := by
    have h := v_lc (ρ := [.fz (.lck (IL ns)), .ow false [.int a, .int b], c2, .fz (.int p), .fz (.int N), .fz (.int ((p : Int) ^ N)), .fz (.tup (IL (x))), .fz (.tup (IL (y))), .fz (.int (nb p N (x))), .fz (.int (nb p N (y))), .fz (.tup (IL (rs p (ad p N (x) (y))))), .fz (.tup (IL (rs p (mu p N (x) (y))))), c12, c13, c14, c15, c16, .un, .un, .un, .un]) (ρ1 := [.fz (.lck (IL ns)), .ow false [.int a, .int b], c2, .fz (.int p), .fz (.int N), .fz (.int ((p : Int) ^ N)), .fz (.tup (IL (x))), .fz (.tup (IL (y))), .fz (.int (nb p N (x))), .fz (.int (nb p N (y))), .fz (.tup (IL (rs p (ad p N (x) (y))))), .fz (.tup (IL (rs p (mu p N (x) (y))))), c12, c13, c14, c15, c16, .un, .un, .un, .un]) (ρ2 := [.fz (.lck (IL ns)), .ow false [.int a, .int b], c2, .fz (.int p), .fz (.int N), .fz (.int ((p : Int) ^ N)), .fz (.tup (IL (x))), .fz (.tup (IL (y))), .fz (.int (nb p N (x))), .fz (.int (nb p N (y))), .fz (.tup (IL (rs p (ad p N (x) (y))))), .fz (.tup (IL (rs p (mu p N (x) (y))))), c12, c13, c14, c15, c16, .un, .un, .un, .un]) (vs := [12]) (t := .nm 12) (fi := iSeq (eOp gAdd (eVar 10) (eVar 11))) (fe := eChain gLe gLt (eC (.int 0)) (eVar 12) (eVar 3)) (L := (rs p (ad p N (x) (y)) ++ rs p (mu p N (x) (y)))) (c := .int) (g := fun z => .bl (decide (0 ≤ z ∧ z < (p : Int)))) (by exact v_seqT (v_op (v_fz rfl) (v_fz rfl) rfl rfl (add_tt (by rw [rA.vc.len, rM.vc.len]; omega))) rfl) (by rcases h12 with rfl | ⟨d, rfl⟩ <;> rfl) (by rw [List.length_append, rA.vc.len, rM.vc.len]; omega) rfl (fun z hz => ⟨[.fz (.lck (IL ns)), .ow false [.int a, .int b], c2, .fz (.int p), .fz (.int N), .fz (.int ((p : Int) ^ N)), .fz (.tup (IL (x))), .fz (.tup (IL (y))), .fz (.int (nb p N (x))), .fz (.int (nb p N (y))), .fz (.tup (IL (rs p (ad p N (x) (y))))), .fz (.tup (IL (rs p (mu p N (x) (y))))), .fz (.int z), c13, c14, c15, c16, .un, .un, .un, .un], [.fz (.lck (IL ns)), .ow false [.int a, .int b], c2, .fz (.int p), .fz (.int N), .fz (.int ((p : Int) ^ N)), .fz (.tup (IL (x))), .fz (.tup (IL (y))), .fz (.int (nb p N (x))), .fz (.int (nb p N (y))), .fz (.tup (IL (rs p (ad p N (x) (y))))), .fz (.tup (IL (rs p (mu p N (x) (y))))), .fz (.int z), c13, c14, c15, c16, .un, .un, .un, .un], rfl, by exact v_ch01 v_c (v_fz rfl) (v_fz rfl), rfl⟩) rfl
    exact h
  have all7 : gAll (.lst ((rs p (ad p N (x) (y)) ++ rs p (mu p N (x) (y))).map fun z => D.bl (decide (0 ≤ z ∧ z < (p : Int))))) = some (.fz (.bl true)) := by
    rw [all_map, List.all_eq_true.2]
    intro z hz
    rcases List.mem_append.1 hz with h | h
    · exact decide_eq_true (rA.dg z h)
    · exact decide_eq_true (rM.dg z h)
  have vP := val3 (m := 15) rfl fp
  have vT := val3 (m := 16) rfl ft
  have lc80 : eLc [12] (iSeq (eCall 2 F__law_value [] (aCons (eC (.fn 15)) (aCons (eTup (aCons (eVar 6) (aCons (eVar 7) (aCons (eVar 3) aNil)))) aNil)))) (.nm 12) tYesF (eOp gMod (eU gInt (eVar 12)) (eVar 3)) [.fz (.lck (IL ns)), .ow false [.int a, .int b], c2, .fz (.int p), .fz (.int N), .fz (.int ((p : Int) ^ N)), .fz (.tup (IL (x))), .fz (.tup (IL (y))), .fz (.int (nb p N (x))), .fz (.int (nb p N (y))), .fz (.tup (IL (rs p (ad p N (x) (y))))), .fz (.tup (IL (rs p (mu p N (x) (y))))), c12, c13, c14, c15, c16, .un, .un, .un, .un] = .ok (.fr ((ad p N (x) (y)).map fun z => D.int (z % (p : Int))), [.fz (.lck (IL ns)), .ow false [.int a, .int b], c2, .fz (.int p), .fz (.int N), .fz (.int ((p : Int) ^ N)), .fz (.tup (IL (x))), .fz (.tup (IL (y))), .fz (.int (nb p N (x))), .fz (.int (nb p N (y))), .fz (.tup (IL (rs p (ad p N (x) (y))))), .fz (.tup (IL (rs p (mu p N (x) (y))))), c12, c13, c14, c15, c16, .un, .un, .un, .un]) := by
    have h := v_lc (ρ := [.fz (.lck (IL ns)), .ow false [.int a, .int b], c2, .fz (.int p), .fz (.int N), .fz (.int ((p : Int) ^ N)), .fz (.tup (IL (x))), .fz (.tup (IL (y))), .fz (.int (nb p N (x))), .fz (.int (nb p N (y))), .fz (.tup (IL (rs p (ad p N (x) (y))))), .fz (.tup (IL (rs p (mu p N (x) (y))))), c12, c13, c14, c15, c16, .un, .un, .un, .un]) (ρ1 := [.fz (.lck (IL ns)), .ow false [.int a, .int b], c2, .fz (.int p), .fz (.int N), .fz (.int ((p : Int) ^ N)), .fz (.tup (IL (x))), .fz (.tup (IL (y))), .fz (.int (nb p N (x))), .fz (.int (nb p N (y))), .fz (.tup (IL (rs p (ad p N (x) (y))))), .fz (.tup (IL (rs p (mu p N (x) (y))))), c12, c13, c14, c15, c16, .un, .un, .un, .un]) (ρ2 := [.fz (.lck (IL ns)), .ow false [.int a, .int b], c2, .fz (.int p), .fz (.int N), .fz (.int ((p : Int) ^ N)), .fz (.tup (IL (x))), .fz (.tup (IL (y))), .fz (.int (nb p N (x))), .fz (.int (nb p N (y))), .fz (.tup (IL (rs p (ad p N (x) (y))))), .fz (.tup (IL (rs p (mu p N (x) (y))))), c12, c13, c14, c15, c16, .un, .un, .un, .un]) (vs := [12]) (t := .nm 12) (fi := iSeq (eCall 2 F__law_value [] (aCons (eC (.fn 15)) (aCons (eTup (aCons (eVar 6) (aCons (eVar 7) (aCons (eVar 3) (aNil))))) (aNil))))) (fe := eOp gMod (eU gInt (eVar 12)) (eVar 3)) (L := ad p N (x) (y)) (c := .int) (g := fun z => .int (z % (p : Int))) (by exact v_seqT (v_call0 (v_cons v_c rfl (v_cons (v_tup (v_cons (v_fz rfl) rfl (v_cons (v_fz rfl) rfl (v_cons (v_fz rfl) rfl v_nil))) rfl) rfl v_nil)) rfl vP) rfl) (by rcases h12 with rfl | ⟨d, rfl⟩ <;> rfl) (by omega) rfl (fun z hz => ⟨[.fz (.lck (IL ns)), .ow false [.int a, .int b], c2, .fz (.int p), .fz (.int N), .fz (.int ((p : Int) ^ N)), .fz (.tup (IL (x))), .fz (.tup (IL (y))), .fz (.int (nb p N (x))), .fz (.int (nb p N (y))), .fz (.tup (IL (rs p (ad p N (x) (y))))), .fz (.tup (IL (rs p (mu p N (x) (y))))), .fz (.int z), c13, c14, c15, c16, .un, .un, .un, .un], [.fz (.lck (IL ns)), .ow false [.int a, .int b], c2, .fz (.int p), .fz (.int N), .fz (.int ((p : Int) ^ N)), .fz (.tup (IL (x))), .fz (.tup (IL (y))), .fz (.int (nb p N (x))), .fz (.int (nb p N (y))), .fz (.tup (IL (rs p (ad p N (x) (y))))), .fz (.tup (IL (rs p (mu p N (x) (y))))), .fz (.int z), c13, c14, c15, c16, .un, .un, .un, .un], rfl, by exact v_op (v_u (v_fz rfl) rfl rfl) (v_fz rfl) rfl rfl (gMod_int (by omega)), rfl⟩) rfl
    exact h
  have lc80s : ((ad p N (x) (y)).map fun z => D.int (z % (p : Int))) = IL (rs p (ad p N (x) (y))) := by simp [IL]
  rw [lc80s] at lc80
  have lc81 : eLc [12] (iSeq (eCall 2 F__law_value [] (aCons (eC (.fn 16)) (aCons (eTup (aCons (eVar 6) (aCons (eVar 7) (aCons (eVar 3) aNil)))) aNil)))) (.nm 12) tYesF (eOp gMod (eU gInt (eVar 12)) (eVar 3)) [.fz (.lck (IL ns)), .ow false [.int a, .int b], c2, .fz (.int p), .fz (.int N), .fz (.int ((p : Int) ^ N)), .fz (.tup (IL (x))), .fz (.tup (IL (y))), .fz (.int (nb p N (x))), .fz (.int (nb p N (y))), .fz (.tup (IL (rs p (ad p N (x) (y))))), .fz (.tup (IL (rs p (mu p N (x) (y))))), c12, c13, c14, c15, c16, .un, .un, .un, .un] = .ok (.fr ((mu p N (x) (y)).map fun z => D.int (z % (p : Int))), [.fz (.lck (IL ns)), .ow false [.int a, .int b], c2, .fz (.int p), .fz (.int N), .fz (.int ((p : Int) ^ N)), .fz (.tup (IL (x))), .fz (.tup (IL (y))), .fz (.int (nb p N (x))), .fz (.int (nb p N (y))), .fz (.tup (IL (rs p (ad p N (x) (y))))), .fz (.tup (IL (rs p (mu p N (x) (y))))), c12, c13, c14, c15, c16, .un, .un, .un, .un]) := by
    have h := v_lc (ρ := [.fz (.lck (IL ns)), .ow false [.int a, .int b], c2, .fz (.int p), .fz (.int N), .fz (.int ((p : Int) ^ N)), .fz (.tup (IL (x))), .fz (.tup (IL (y))), .fz (.int (nb p N (x))), .fz (.int (nb p N (y))), .fz (.tup (IL (rs p (ad p N (x) (y))))), .fz (.tup (IL (rs p (mu p N (x) (y))))), c12, c13, c14, c15, c16, .un, .un, .un, .un]) (ρ1 := [.fz (.lck (IL ns)), .ow false [.int a, .int b], c2, .fz (.int p), .fz (.int N), .fz (.int ((p : Int) ^ N)), .fz (.tup (IL (x))), .fz (.tup (IL (y))), .fz (.int (nb p N (x))), .fz (.int (nb p N (y))), .fz (.tup (IL (rs p (ad p N (x) (y))))), .fz (.tup (IL (rs p (mu p N (x) (y))))), c12, c13, c14, c15, c16, .un, .un, .un, .un]) (ρ2 := [.fz (.lck (IL ns)), .ow false [.int a, .int b], c2, .fz (.int p), .fz (.int N), .fz (.int ((p : Int) ^ N)), .fz (.tup (IL (x))), .fz (.tup (IL (y))), .fz (.int (nb p N (x))), .fz (.int (nb p N (y))), .fz (.tup (IL (rs p (ad p N (x) (y))))), .fz (.tup (IL (rs p (mu p N (x) (y))))), c12, c13, c14, c15, c16, .un, .un, .un, .un]) (vs := [12]) (t := .nm 12) (fi := iSeq (eCall 2 F__law_value [] (aCons (eC (.fn 16)) (aCons (eTup (aCons (eVar 6) (aCons (eVar 7) (aCons (eVar 3) (aNil))))) (aNil))))) (fe := eOp gMod (eU gInt (eVar 12)) (eVar 3)) (L := mu p N (x) (y)) (c := .int) (g := fun z => .int (z % (p : Int))) (by exact v_seqT (v_call0 (v_cons v_c rfl (v_cons (v_tup (v_cons (v_fz rfl) rfl (v_cons (v_fz rfl) rfl (v_cons (v_fz rfl) rfl v_nil))) rfl) rfl v_nil)) rfl vT) rfl) (by rcases h12 with rfl | ⟨d, rfl⟩ <;> rfl) (by omega) rfl (fun z hz => ⟨[.fz (.lck (IL ns)), .ow false [.int a, .int b], c2, .fz (.int p), .fz (.int N), .fz (.int ((p : Int) ^ N)), .fz (.tup (IL (x))), .fz (.tup (IL (y))), .fz (.int (nb p N (x))), .fz (.int (nb p N (y))), .fz (.tup (IL (rs p (ad p N (x) (y))))), .fz (.tup (IL (rs p (mu p N (x) (y))))), .fz (.int z), c13, c14, c15, c16, .un, .un, .un, .un], [.fz (.lck (IL ns)), .ow false [.int a, .int b], c2, .fz (.int p), .fz (.int N), .fz (.int ((p : Int) ^ N)), .fz (.tup (IL (x))), .fz (.tup (IL (y))), .fz (.int (nb p N (x))), .fz (.int (nb p N (y))), .fz (.tup (IL (rs p (ad p N (x) (y))))), .fz (.tup (IL (rs p (mu p N (x) (y))))), .fz (.int z), c13, c14, c15, c16, .un, .un, .un, .un], rfl, by exact v_op (v_u (v_fz rfl) rfl rfl) (v_fz rfl) rfl rfl (gMod_int (by omega)), rfl⟩) rfl
    exact h
  have lc81s : ((mu p N (x) (y)).map fun z => D.int (z % (p : Int))) = IL (rs p (mu p N (x) (y))) := by simp [IL]
  rw [lc81s] at lc81
  exact (v_sifF (v_orF (v_t (v_op (v_fz rfl) (v_u lc80 rfl rfl) rfl rfl (ne_T rfl))) (v_t (v_op (v_fz rfl) (v_u lc81 rfl rfl) rfl rfl (ne_T rfl)))) rfl)
theorem t10 {p N : Nat} {x y : List Int} {ns : List Int} {a b : Int} {c2 c3 c4 c5 c6 c7 c8 c9 c10 c11 c12 c13 c14 c15 c16 : Cell} {c : Int} (hx : Rw p N x) (hy : Rw p N y) (h6 : PL c6) (h7 : PL c7) (h8 : PL c8) (h9 : PL c9) (h10 : PL c10) (h11 : PL c11) (h13 : PL c13) (h14 : PL c14) (h15 : PL c15) (h16 : PL c16) (h12 : c12 = .un ∨ ∃ d, c12 = .fz d): S10 [.fz (.lck (IL ns)), .ow false [.int a, .int b], c2, .fz (.int p), .fz (.int N), .fz (.int ((p : Int) ^ N)), .fz (.tup (IL (x))), .fz (.tup (IL (y))), .fz (.int (nb p N (x))), .fz (.int (nb p N (y))), .fz (.tup (IL (rs p (ad p N (x) (y))))), .fz (.tup (IL (rs p (mu p N (x) (y))))), .fz (.int c), c13, c14, c15, c16, .un, .un, .un, .un] = .ok (.nx, [.fz (.lck (IL ns)), .ow false [.int a, .int b], c2, .fz (.int p), .fz (.int N), .fz (.int ((p : Int) ^ N)), .fz (.tup (IL (x))), .fz (.tup (IL (y))), .fz (.int (nb p N (x))), .fz (.int (nb p N (y))), .fz (.tup (IL (rs p (ad p N (x) (y))))), .fz (.tup (IL (rs p (mu p N (x) (y))))), .fz (.int c), .fz (.tup (IL (dg p N c N))), c14, c15, c16, .un, .un, .un, .un]) := by
  have hs := hx.vc.sz
  have n3 := hs.n3
  have hp5 := hs.p5
  have lx := hx.vc.len
  have pN := hs.pN
  have ex := law_number_eq hx.vc
  have ey := law_number_eq hy.vc
  have k21 := tells_eq (m := 21) (told2 rfl (number_of_eq hx.vc hx.dg)) (same4_int _)
  have k22 : F__law_tells [.fn 22, .tup [.int (nb p N (x)), .int N, .int p], .tup (IL (x))] = .ok (.fz (.bl true)) := by
    have h := tells_eq (m := 22) (told3 rfl (rests_number_eq (c := nb p N (x)) hs)) (same_T _ (by rw [dg_len]; omega))
    rw [dg_back hx] at h
    exact h
  obtain ⟨fp, np⟩ := do_plus hx hy
  obtain ⟨ft, nt⟩ := do_times hx hy
  have lA : (ad p N (x) (y)).length = N := vec_len _ _ _
  have lM : (mu p N (x) (y)).length = N := vec_len _ _ _
  have vp := val3 (m := 18) rfl (rest_plus_eq hx.vc hy.vc hx.dg hy.dg (by omega) fp)
  have vt := val3 (m := 19) rfl (rest_times_eq hx.vc hy.vc hx.dg hy.dg (by omega) ft)
  have rA := rs_rw hs lA
  have rM := rs_rw hs lM
  have eA := law_number_eq rA.vc
  have eM := law_number_eq rM.vc
  have mxy : mulOk (nb p N (x)) (nb p N (y)) = true := mulOk_l (by have := nb_range hs x; omega)
  have lrA : ((rs p (ad p N (x) (y))).length : Int) = N := by rw [rA.vc.len]
  have lrM : ((rs p (mu p N (x) (y))).length : Int) = N := by rw [rM.vc.len]
  have lc7 : eLc [12] (iSeq (eOp gAdd (eVar 10) (eVar 11))) (.nm 12) tYesF (eChain gLe gLt (eC (.int 0)) (eVar 12) (eVar 3)) [.fz (.lck (IL ns)), .ow false [.int a, .int b], c2, .fz (.int p), .fz (.int N), .fz (.int ((p : Int) ^ N)), .fz (.tup (IL (x))), .fz (.tup (IL (y))), .fz (.int (nb p N (x))), .fz (.int (nb p N (y))), .fz (.tup (IL (rs p (ad p N (x) (y))))), .fz (.tup (IL (rs p (mu p N (x) (y))))), c12, c13, c14, c15, c16, .un, .un, .un, .un] = .ok (.fr ((rs p (ad p N (x) (y)) ++ rs p (mu p N (x) (y))).map fun z => D.bl (decide (0 ≤ z ∧ z < (p : Int)))), [.fz (.lck (IL ns)), .ow false [.int a, .int b], c2, .fz (.int p), .fz (.int N), .fz (.int ((p : Int) ^ N)), .fz (.tup (IL (x))), .fz (.tup (IL (y))), .fz (.int (nb p N (x))), .fz (.int (nb p N (y))), .fz (.tup (IL (rs p (ad p N (x) (y))))), .fz (.tup (IL (rs p (mu p N (x) (y))))), c12, c13, c14, c15, c16, .un, .un, .un, .un]) := by
    have h := v_lc (ρ := [.fz (.lck (IL ns)), .ow false [.int a, .int b], c2, .fz (.int p), .fz (.int N), .fz (.int ((p : Int) ^ N)), .fz (.tup (IL (x))), .fz (.tup (IL (y))), .fz (.int (nb p N (x))), .fz (.int (nb p N (y))), .fz (.tup (IL (rs p (ad p N (x) (y))))), .fz (.tup (IL (rs p (mu p N (x) (y))))), c12, c13, c14, c15, c16, .un, .un, .un, .un]) (ρ1 := [.fz (.lck (IL ns)), .ow false [.int a, .int b], c2, .fz (.int p), .fz (.int N), .fz (.int ((p : Int) ^ N)), .fz (.tup (IL (x))), .fz (.tup (IL (y))), .fz (.int (nb p N (x))), .fz (.int (nb p N (y))), .fz (.tup (IL (rs p (ad p N (x) (y))))), .fz (.tup (IL (rs p (mu p N (x) (y))))), c12, c13, c14, c15, c16, .un, .un, .un, .un]) (ρ2 := [.fz (.lck (IL ns)), .ow false [.int a, .int b], c2, .fz (.int p), .fz (.int N), .fz (.int ((p : Int) ^ N)), .fz (.tup (IL (x))), .fz (.tup (IL (y))), .fz (.int (nb p N (x))), .fz (.int (nb p N (y))), .fz (.tup (IL (rs p (ad p N (x) (y))))), .fz (.tup (IL (rs p (mu p N (x) (y))))), c12, c13, c14, c15, c16, .un, .un, .un, .un]) (vs := [12]) (t := .nm 12) (fi := iSeq (eOp gAdd (eVar 10) (eVar 11))) (fe := eChain gLe gLt (eC (.int 0)) (eVar 12) (eVar 3)) (L := (rs p (ad p N (x) (y)) ++ rs p (mu p N (x) (y)))) (c := .int) (g := fun z => .bl (decide (0 ≤ z ∧ z < (p : Int)))) (by exact v_seqT (v_op (v_fz rfl) (v_fz rfl) rfl rfl (add_tt (by rw [rA.vc.len, rM.vc.len]; omega))) rfl) (by rcases h12 with rfl | ⟨d, rfl⟩ <;> rfl) (by rw [List.length_append, rA.vc.len, rM.vc.len]; omega) rfl (fun z hz => ⟨[.fz (.lck (IL ns)), .ow false [.int a, .int b], c2, .fz (.int p), .fz (.int N), .fz (.int ((p : Int) ^ N)), .fz (.tup (IL (x))), .fz (.tup (IL (y))), .fz (.int (nb p N (x))), .fz (.int (nb p N (y))), .fz (.tup (IL (rs p (ad p N (x) (y))))), .fz (.tup (IL (rs p (mu p N (x) (y))))), .fz (.int z), c13, c14, c15, c16, .un, .un, .un, .un], [.fz (.lck (IL ns)), .ow false [.int a, .int b], c2, .fz (.int p), .fz (.int N), .fz (.int ((p : Int) ^ N)), .fz (.tup (IL (x))), .fz (.tup (IL (y))), .fz (.int (nb p N (x))), .fz (.int (nb p N (y))), .fz (.tup (IL (rs p (ad p N (x) (y))))), .fz (.tup (IL (rs p (mu p N (x) (y))))), .fz (.int z), c13, c14, c15, c16, .un, .un, .un, .un], rfl, by exact v_ch01 v_c (v_fz rfl) (v_fz rfl), rfl⟩) rfl
    exact h
  have all7 : gAll (.lst ((rs p (ad p N (x) (y)) ++ rs p (mu p N (x) (y))).map fun z => D.bl (decide (0 ≤ z ∧ z < (p : Int))))) = some (.fz (.bl true)) := by
    rw [all_map, List.all_eq_true.2]
    intro z hz
    rcases List.mem_append.1 hz with h | h
    · exact decide_eq_true (rA.dg z h)
    · exact decide_eq_true (rM.dg z h)
  have vP := val3 (m := 15) rfl fp
  have vT := val3 (m := 16) rfl ft
  have lc80 : eLc [12] (iSeq (eCall 2 F__law_value [] (aCons (eC (.fn 15)) (aCons (eTup (aCons (eVar 6) (aCons (eVar 7) (aCons (eVar 3) aNil)))) aNil)))) (.nm 12) tYesF (eOp gMod (eU gInt (eVar 12)) (eVar 3)) [.fz (.lck (IL ns)), .ow false [.int a, .int b], c2, .fz (.int p), .fz (.int N), .fz (.int ((p : Int) ^ N)), .fz (.tup (IL (x))), .fz (.tup (IL (y))), .fz (.int (nb p N (x))), .fz (.int (nb p N (y))), .fz (.tup (IL (rs p (ad p N (x) (y))))), .fz (.tup (IL (rs p (mu p N (x) (y))))), c12, c13, c14, c15, c16, .un, .un, .un, .un] = .ok (.fr ((ad p N (x) (y)).map fun z => D.int (z % (p : Int))), [.fz (.lck (IL ns)), .ow false [.int a, .int b], c2, .fz (.int p), .fz (.int N), .fz (.int ((p : Int) ^ N)), .fz (.tup (IL (x))), .fz (.tup (IL (y))), .fz (.int (nb p N (x))), .fz (.int (nb p N (y))), .fz (.tup (IL (rs p (ad p N (x) (y))))), .fz (.tup (IL (rs p (mu p N (x) (y))))), c12, c13, c14, c15, c16, .un, .un, .un, .un]) := by
    have h := v_lc (ρ := [.fz (.lck (IL ns)), .ow false [.int a, .int b], c2, .fz (.int p), .fz (.int N), .fz (.int ((p : Int) ^ N)), .fz (.tup (IL (x))), .fz (.tup (IL (y))), .fz (.int (nb p N (x))), .fz (.int (nb p N (y))), .fz (.tup (IL (rs p (ad p N (x) (y))))), .fz (.tup (IL (rs p (mu p N (x) (y))))), c12, c13, c14, c15, c16, .un, .un, .un, .un]) (ρ1 := [.fz (.lck (IL ns)), .ow false [.int a, .int b], c2, .fz (.int p), .fz (.int N), .fz (.int ((p : Int) ^ N)), .fz (.tup (IL (x))), .fz (.tup (IL (y))), .fz (.int (nb p N (x))), .fz (.int (nb p N (y))), .fz (.tup (IL (rs p (ad p N (x) (y))))), .fz (.tup (IL (rs p (mu p N (x) (y))))), c12, c13, c14, c15, c16, .un, .un, .un, .un]) (ρ2 := [.fz (.lck (IL ns)), .ow false [.int a, .int b], c2, .fz (.int p), .fz (.int N), .fz (.int ((p : Int) ^ N)), .fz (.tup (IL (x))), .fz (.tup (IL (y))), .fz (.int (nb p N (x))), .fz (.int (nb p N (y))), .fz (.tup (IL (rs p (ad p N (x) (y))))), .fz (.tup (IL (rs p (mu p N (x) (y))))), c12, c13, c14, c15, c16, .un, .un, .un, .un]) (vs := [12]) (t := .nm 12) (fi := iSeq (eCall 2 F__law_value [] (aCons (eC (.fn 15)) (aCons (eTup (aCons (eVar 6) (aCons (eVar 7) (aCons (eVar 3) (aNil))))) (aNil))))) (fe := eOp gMod (eU gInt (eVar 12)) (eVar 3)) (L := ad p N (x) (y)) (c := .int) (g := fun z => .int (z % (p : Int))) (by exact v_seqT (v_call0 (v_cons v_c rfl (v_cons (v_tup (v_cons (v_fz rfl) rfl (v_cons (v_fz rfl) rfl (v_cons (v_fz rfl) rfl v_nil))) rfl) rfl v_nil)) rfl vP) rfl) (by rcases h12 with rfl | ⟨d, rfl⟩ <;> rfl) (by omega) rfl (fun z hz => ⟨[.fz (.lck (IL ns)), .ow false [.int a, .int b], c2, .fz (.int p), .fz (.int N), .fz (.int ((p : Int) ^ N)), .fz (.tup (IL (x))), .fz (.tup (IL (y))), .fz (.int (nb p N (x))), .fz (.int (nb p N (y))), .fz (.tup (IL (rs p (ad p N (x) (y))))), .fz (.tup (IL (rs p (mu p N (x) (y))))), .fz (.int z), c13, c14, c15, c16, .un, .un, .un, .un], [.fz (.lck (IL ns)), .ow false [.int a, .int b], c2, .fz (.int p), .fz (.int N), .fz (.int ((p : Int) ^ N)), .fz (.tup (IL (x))), .fz (.tup (IL (y))), .fz (.int (nb p N (x))), .fz (.int (nb p N (y))), .fz (.tup (IL (rs p (ad p N (x) (y))))), .fz (.tup (IL (rs p (mu p N (x) (y))))), .fz (.int z), c13, c14, c15, c16, .un, .un, .un, .un], rfl, by exact v_op (v_u (v_fz rfl) rfl rfl) (v_fz rfl) rfl rfl (gMod_int (by omega)), rfl⟩) rfl
    exact h
  have lc80s : ((ad p N (x) (y)).map fun z => D.int (z % (p : Int))) = IL (rs p (ad p N (x) (y))) := by simp [IL]
  rw [lc80s] at lc80
  have lc81 : eLc [12] (iSeq (eCall 2 F__law_value [] (aCons (eC (.fn 16)) (aCons (eTup (aCons (eVar 6) (aCons (eVar 7) (aCons (eVar 3) aNil)))) aNil)))) (.nm 12) tYesF (eOp gMod (eU gInt (eVar 12)) (eVar 3)) [.fz (.lck (IL ns)), .ow false [.int a, .int b], c2, .fz (.int p), .fz (.int N), .fz (.int ((p : Int) ^ N)), .fz (.tup (IL (x))), .fz (.tup (IL (y))), .fz (.int (nb p N (x))), .fz (.int (nb p N (y))), .fz (.tup (IL (rs p (ad p N (x) (y))))), .fz (.tup (IL (rs p (mu p N (x) (y))))), c12, c13, c14, c15, c16, .un, .un, .un, .un] = .ok (.fr ((mu p N (x) (y)).map fun z => D.int (z % (p : Int))), [.fz (.lck (IL ns)), .ow false [.int a, .int b], c2, .fz (.int p), .fz (.int N), .fz (.int ((p : Int) ^ N)), .fz (.tup (IL (x))), .fz (.tup (IL (y))), .fz (.int (nb p N (x))), .fz (.int (nb p N (y))), .fz (.tup (IL (rs p (ad p N (x) (y))))), .fz (.tup (IL (rs p (mu p N (x) (y))))), c12, c13, c14, c15, c16, .un, .un, .un, .un]) := by
    have h := v_lc (ρ := [.fz (.lck (IL ns)), .ow false [.int a, .int b], c2, .fz (.int p), .fz (.int N), .fz (.int ((p : Int) ^ N)), .fz (.tup (IL (x))), .fz (.tup (IL (y))), .fz (.int (nb p N (x))), .fz (.int (nb p N (y))), .fz (.tup (IL (rs p (ad p N (x) (y))))), .fz (.tup (IL (rs p (mu p N (x) (y))))), c12, c13, c14, c15, c16, .un, .un, .un, .un]) (ρ1 := [.fz (.lck (IL ns)), .ow false [.int a, .int b], c2, .fz (.int p), .fz (.int N), .fz (.int ((p : Int) ^ N)), .fz (.tup (IL (x))), .fz (.tup (IL (y))), .fz (.int (nb p N (x))), .fz (.int (nb p N (y))), .fz (.tup (IL (rs p (ad p N (x) (y))))), .fz (.tup (IL (rs p (mu p N (x) (y))))), c12, c13, c14, c15, c16, .un, .un, .un, .un]) (ρ2 := [.fz (.lck (IL ns)), .ow false [.int a, .int b], c2, .fz (.int p), .fz (.int N), .fz (.int ((p : Int) ^ N)), .fz (.tup (IL (x))), .fz (.tup (IL (y))), .fz (.int (nb p N (x))), .fz (.int (nb p N (y))), .fz (.tup (IL (rs p (ad p N (x) (y))))), .fz (.tup (IL (rs p (mu p N (x) (y))))), c12, c13, c14, c15, c16, .un, .un, .un, .un]) (vs := [12]) (t := .nm 12) (fi := iSeq (eCall 2 F__law_value [] (aCons (eC (.fn 16)) (aCons (eTup (aCons (eVar 6) (aCons (eVar 7) (aCons (eVar 3) (aNil))))) (aNil))))) (fe := eOp gMod (eU gInt (eVar 12)) (eVar 3)) (L := mu p N (x) (y)) (c := .int) (g := fun z => .int (z % (p : Int))) (by exact v_seqT (v_call0 (v_cons v_c rfl (v_cons (v_tup (v_cons (v_fz rfl) rfl (v_cons (v_fz rfl) rfl (v_cons (v_fz rfl) rfl v_nil))) rfl) rfl v_nil)) rfl vT) rfl) (by rcases h12 with rfl | ⟨d, rfl⟩ <;> rfl) (by omega) rfl (fun z hz => ⟨[.fz (.lck (IL ns)), .ow false [.int a, .int b], c2, .fz (.int p), .fz (.int N), .fz (.int ((p : Int) ^ N)), .fz (.tup (IL (x))), .fz (.tup (IL (y))), .fz (.int (nb p N (x))), .fz (.int (nb p N (y))), .fz (.tup (IL (rs p (ad p N (x) (y))))), .fz (.tup (IL (rs p (mu p N (x) (y))))), .fz (.int z), c13, c14, c15, c16, .un, .un, .un, .un], [.fz (.lck (IL ns)), .ow false [.int a, .int b], c2, .fz (.int p), .fz (.int N), .fz (.int ((p : Int) ^ N)), .fz (.tup (IL (x))), .fz (.tup (IL (y))), .fz (.int (nb p N (x))), .fz (.int (nb p N (y))), .fz (.tup (IL (rs p (ad p N (x) (y))))), .fz (.tup (IL (rs p (mu p N (x) (y))))), .fz (.int z), c13, c14, c15, c16, .un, .un, .un, .un], rfl, by exact v_op (v_u (v_fz rfl) rfl rfl) (v_fz rfl) rfl rfl (gMod_int (by omega)), rfl⟩) rfl
    exact h
  have lc81s : ((mu p N (x) (y)).map fun z => D.int (z % (p : Int))) = IL (rs p (mu p N (x) (y))) := by simp [IL]
  rw [lc81s] at lc81
  have v10 := val3 (m := 22) rfl (rests_number_eq (c := c) hs)
  exact (v_set (v_call0 (v_cons v_c rfl (v_cons (v_tup (v_cons (v_fz rfl) rfl (v_cons (v_fz rfl) rfl (v_cons (v_fz rfl) rfl v_nil))) rfl) rfl v_nil)) rfl v10) (set_fz rfl h13 rfl))
theorem t11 {p N : Nat} {x y : List Int} {ns : List Int} {a b : Int} {c2 c3 c4 c5 c6 c7 c8 c9 c10 c11 c12 c13 c14 c15 c16 : Cell} {c : Int} (hx : Rw p N x) (hy : Rw p N y) (h6 : PL c6) (h7 : PL c7) (h8 : PL c8) (h9 : PL c9) (h10 : PL c10) (h11 : PL c11) (h13 : PL c13) (h14 : PL c14) (h15 : PL c15) (h16 : PL c16) (h12 : c12 = .un ∨ ∃ d, c12 = .fz d): S11 [.fz (.lck (IL ns)), .ow false [.int a, .int b], c2, .fz (.int p), .fz (.int N), .fz (.int ((p : Int) ^ N)), .fz (.tup (IL (x))), .fz (.tup (IL (y))), .fz (.int (nb p N (x))), .fz (.int (nb p N (y))), .fz (.tup (IL (rs p (ad p N (x) (y))))), .fz (.tup (IL (rs p (mu p N (x) (y))))), .fz (.int c), .fz (.tup (IL (dg p N c N))), c14, c15, c16, .un, .un, .un, .un] = .ok (.nx, [.fz (.lck (IL ns)), .ow false [.int a, .int b], c2, .fz (.int p), .fz (.int N), .fz (.int ((p : Int) ^ N)), .fz (.tup (IL (x))), .fz (.tup (IL (y))), .fz (.int (nb p N (x))), .fz (.int (nb p N (y))), .fz (.tup (IL (rs p (ad p N (x) (y))))), .fz (.tup (IL (rs p (mu p N (x) (y))))), .fz (.int c), .fz (.tup (IL (dg p N c N))), c14, c15, c16, .un, .un, .un, .un]) := by
  have hs := hx.vc.sz
  have n3 := hs.n3
  have hp5 := hs.p5
  have lx := hx.vc.len
  have pN := hs.pN
  have ex := law_number_eq hx.vc
  have ey := law_number_eq hy.vc
  have k21 := tells_eq (m := 21) (told2 rfl (number_of_eq hx.vc hx.dg)) (same4_int _)
  have k22 : F__law_tells [.fn 22, .tup [.int (nb p N (x)), .int N, .int p], .tup (IL (x))] = .ok (.fz (.bl true)) := by
    have h := tells_eq (m := 22) (told3 rfl (rests_number_eq (c := nb p N (x)) hs)) (same_T _ (by rw [dg_len]; omega))
    rw [dg_back hx] at h
    exact h
  obtain ⟨fp, np⟩ := do_plus hx hy
  obtain ⟨ft, nt⟩ := do_times hx hy
  have lA : (ad p N (x) (y)).length = N := vec_len _ _ _
  have lM : (mu p N (x) (y)).length = N := vec_len _ _ _
  have vp := val3 (m := 18) rfl (rest_plus_eq hx.vc hy.vc hx.dg hy.dg (by omega) fp)
  have vt := val3 (m := 19) rfl (rest_times_eq hx.vc hy.vc hx.dg hy.dg (by omega) ft)
  have rA := rs_rw hs lA
  have rM := rs_rw hs lM
  have eA := law_number_eq rA.vc
  have eM := law_number_eq rM.vc
  have mxy : mulOk (nb p N (x)) (nb p N (y)) = true := mulOk_l (by have := nb_range hs x; omega)
  have lrA : ((rs p (ad p N (x) (y))).length : Int) = N := by rw [rA.vc.len]
  have lrM : ((rs p (mu p N (x) (y))).length : Int) = N := by rw [rM.vc.len]
  have lc7 : eLc [12] (iSeq (eOp gAdd (eVar 10) (eVar 11))) (.nm 12) tYesF (eChain gLe gLt (eC (.int 0)) (eVar 12) (eVar 3)) [.fz (.lck (IL ns)), .ow false [.int a, .int b], c2, .fz (.int p), .fz (.int N), .fz (.int ((p : Int) ^ N)), .fz (.tup (IL (x))), .fz (.tup (IL (y))), .fz (.int (nb p N (x))), .fz (.int (nb p N (y))), .fz (.tup (IL (rs p (ad p N (x) (y))))), .fz (.tup (IL (rs p (mu p N (x) (y))))), c12, c13, c14, c15, c16, .un, .un, .un, .un] = .ok (.fr ((rs p (ad p N (x) (y)) ++ rs p (mu p N (x) (y))).map fun z => D.bl (decide (0 ≤ z ∧ z < (p : Int)))), [.fz (.lck (IL ns)), .ow false [.int a, .int b], c2, .fz (.int p), .fz (.int N), .fz (.int ((p : Int) ^ N)), .fz (.tup (IL (x))), .fz (.tup (IL (y))), .fz (.int (nb p N (x))), .fz (.int (nb p N (y))), .fz (.tup (IL (rs p (ad p N (x) (y))))), .fz (.tup (IL (rs p (mu p N (x) (y))))), c12, c13, c14, c15, c16, .un, .un, .un, .un]) := by
    have h := v_lc (ρ := [.fz (.lck (IL ns)), .ow false [.int a, .int b], c2, .fz (.int p), .fz (.int N), .fz (.int ((p : Int) ^ N)), .fz (.tup (IL (x))), .fz (.tup (IL (y))), .fz (.int (nb p N (x))), .fz (.int (nb p N (y))), .fz (.tup (IL (rs p (ad p N (x) (y))))), .fz (.tup (IL (rs p (mu p N (x) (y))))), c12, c13, c14, c15, c16, .un, .un, .un, .un]) (ρ1 := [.fz (.lck (IL ns)), .ow false [.int a, .int b], c2, .fz (.int p), .fz (.int N), .fz (.int ((p : Int) ^ N)), .fz (.tup (IL (x))), .fz (.tup (IL (y))), .fz (.int (nb p N (x))), .fz (.int (nb p N (y))), .fz (.tup (IL (rs p (ad p N (x) (y))))), .fz (.tup (IL (rs p (mu p N (x) (y))))), c12, c13, c14, c15, c16, .un, .un, .un, .un]) (ρ2 := [.fz (.lck (IL ns)), .ow false [.int a, .int b], c2, .fz (.int p), .fz (.int N), .fz (.int ((p : Int) ^ N)), .fz (.tup (IL (x))), .fz (.tup (IL (y))), .fz (.int (nb p N (x))), .fz (.int (nb p N (y))), .fz (.tup (IL (rs p (ad p N (x) (y))))), .fz (.tup (IL (rs p (mu p N (x) (y))))), c12, c13, c14, c15, c16, .un, .un, .un, .un]) (vs := [12]) (t := .nm 12) (fi := iSeq (eOp gAdd (eVar 10) (eVar 11))) (fe := eChain gLe gLt (eC (.int 0)) (eVar 12) (eVar 3)) (L := (rs p (ad p N (x) (y)) ++ rs p (mu p N (x) (y)))) (c := .int) (g := fun z => .bl (decide (0 ≤ z ∧ z < (p : Int)))) (by exact v_seqT (v_op (v_fz rfl) (v_fz rfl) rfl rfl (add_tt (by rw [rA.vc.len, rM.vc.len]; omega))) rfl) (by rcases h12 with rfl | ⟨d, rfl⟩ <;> rfl) (by rw [List.length_append, rA.vc.len, rM.vc.len]; omega) rfl (fun z hz => ⟨[.fz (.lck (IL ns)), .ow false [.int a, .int b], c2, .fz (.int p), .fz (.int N), .fz (.int ((p : Int) ^ N)), .fz (.tup (IL (x))), .fz (.tup (IL (y))), .fz (.int (nb p N (x))), .fz (.int (nb p N (y))), .fz (.tup (IL (rs p (ad p N (x) (y))))), .fz (.tup (IL (rs p (mu p N (x) (y))))), .fz (.int z), c13, c14, c15, c16, .un, .un, .un, .un], [.fz (.lck (IL ns)), .ow false [.int a, .int b], c2, .fz (.int p), .fz (.int N), .fz (.int ((p : Int) ^ N)), .fz (.tup (IL (x))), .fz (.tup (IL (y))), .fz (.int (nb p N (x))), .fz (.int (nb p N (y))), .fz (.tup (IL (rs p (ad p N (x) (y))))), .fz (.tup (IL (rs p (mu p N (x) (y))))), .fz (.int z), c13, c14, c15, c16, .un, .un, .un, .un], rfl, by exact v_ch01 v_c (v_fz rfl) (v_fz rfl), rfl⟩) rfl
    exact h
  have all7 : gAll (.lst ((rs p (ad p N (x) (y)) ++ rs p (mu p N (x) (y))).map fun z => D.bl (decide (0 ≤ z ∧ z < (p : Int))))) = some (.fz (.bl true)) := by
    rw [all_map, List.all_eq_true.2]
    intro z hz
    rcases List.mem_append.1 hz with h | h
    · exact decide_eq_true (rA.dg z h)
    · exact decide_eq_true (rM.dg z h)
  have vP := val3 (m := 15) rfl fp
  have vT := val3 (m := 16) rfl ft
  have lc80 : eLc [12] (iSeq (eCall 2 F__law_value [] (aCons (eC (.fn 15)) (aCons (eTup (aCons (eVar 6) (aCons (eVar 7) (aCons (eVar 3) aNil)))) aNil)))) (.nm 12) tYesF (eOp gMod (eU gInt (eVar 12)) (eVar 3)) [.fz (.lck (IL ns)), .ow false [.int a, .int b], c2, .fz (.int p), .fz (.int N), .fz (.int ((p : Int) ^ N)), .fz (.tup (IL (x))), .fz (.tup (IL (y))), .fz (.int (nb p N (x))), .fz (.int (nb p N (y))), .fz (.tup (IL (rs p (ad p N (x) (y))))), .fz (.tup (IL (rs p (mu p N (x) (y))))), c12, c13, c14, c15, c16, .un, .un, .un, .un] = .ok (.fr ((ad p N (x) (y)).map fun z => D.int (z % (p : Int))), [.fz (.lck (IL ns)), .ow false [.int a, .int b], c2, .fz (.int p), .fz (.int N), .fz (.int ((p : Int) ^ N)), .fz (.tup (IL (x))), .fz (.tup (IL (y))), .fz (.int (nb p N (x))), .fz (.int (nb p N (y))), .fz (.tup (IL (rs p (ad p N (x) (y))))), .fz (.tup (IL (rs p (mu p N (x) (y))))), c12, c13, c14, c15, c16, .un, .un, .un, .un]) := by
    have h := v_lc (ρ := [.fz (.lck (IL ns)), .ow false [.int a, .int b], c2, .fz (.int p), .fz (.int N), .fz (.int ((p : Int) ^ N)), .fz (.tup (IL (x))), .fz (.tup (IL (y))), .fz (.int (nb p N (x))), .fz (.int (nb p N (y))), .fz (.tup (IL (rs p (ad p N (x) (y))))), .fz (.tup (IL (rs p (mu p N (x) (y))))), c12, c13, c14, c15, c16, .un, .un, .un, .un]) (ρ1 := [.fz (.lck (IL ns)), .ow false [.int a, .int b], c2, .fz (.int p), .fz (.int N), .fz (.int ((p : Int) ^ N)), .fz (.tup (IL (x))), .fz (.tup (IL (y))), .fz (.int (nb p N (x))), .fz (.int (nb p N (y))), .fz (.tup (IL (rs p (ad p N (x) (y))))), .fz (.tup (IL (rs p (mu p N (x) (y))))), c12, c13, c14, c15, c16, .un, .un, .un, .un]) (ρ2 := [.fz (.lck (IL ns)), .ow false [.int a, .int b], c2, .fz (.int p), .fz (.int N), .fz (.int ((p : Int) ^ N)), .fz (.tup (IL (x))), .fz (.tup (IL (y))), .fz (.int (nb p N (x))), .fz (.int (nb p N (y))), .fz (.tup (IL (rs p (ad p N (x) (y))))), .fz (.tup (IL (rs p (mu p N (x) (y))))), c12, c13, c14, c15, c16, .un, .un, .un, .un]) (vs := [12]) (t := .nm 12) (fi := iSeq (eCall 2 F__law_value [] (aCons (eC (.fn 15)) (aCons (eTup (aCons (eVar 6) (aCons (eVar 7) (aCons (eVar 3) (aNil))))) (aNil))))) (fe := eOp gMod (eU gInt (eVar 12)) (eVar 3)) (L := ad p N (x) (y)) (c := .int) (g := fun z => .int (z % (p : Int))) (by exact v_seqT (v_call0 (v_cons v_c rfl (v_cons (v_tup (v_cons (v_fz rfl) rfl (v_cons (v_fz rfl) rfl (v_cons (v_fz rfl) rfl v_nil))) rfl) rfl v_nil)) rfl vP) rfl) (by rcases h12 with rfl | ⟨d, rfl⟩ <;> rfl) (by omega) rfl (fun z hz => ⟨[.fz (.lck (IL ns)), .ow false [.int a, .int b], c2, .fz (.int p), .fz (.int N), .fz (.int ((p : Int) ^ N)), .fz (.tup (IL (x))), .fz (.tup (IL (y))), .fz (.int (nb p N (x))), .fz (.int (nb p N (y))), .fz (.tup (IL (rs p (ad p N (x) (y))))), .fz (.tup (IL (rs p (mu p N (x) (y))))), .fz (.int z), c13, c14, c15, c16, .un, .un, .un, .un], [.fz (.lck (IL ns)), .ow false [.int a, .int b], c2, .fz (.int p), .fz (.int N), .fz (.int ((p : Int) ^ N)), .fz (.tup (IL (x))), .fz (.tup (IL (y))), .fz (.int (nb p N (x))), .fz (.int (nb p N (y))), .fz (.tup (IL (rs p (ad p N (x) (y))))), .fz (.tup (IL (rs p (mu p N (x) (y))))), .fz (.int z), c13, c14, c15, c16, .un, .un, .un, .un], rfl, by exact v_op (v_u (v_fz rfl) rfl rfl) (v_fz rfl) rfl rfl (gMod_int (by omega)), rfl⟩) rfl
    exact h
  have lc80s : ((ad p N (x) (y)).map fun z => D.int (z % (p : Int))) = IL (rs p (ad p N (x) (y))) := by simp [IL]
  rw [lc80s] at lc80
  have lc81 : eLc [12] (iSeq (eCall 2 F__law_value [] (aCons (eC (.fn 16)) (aCons (eTup (aCons (eVar 6) (aCons (eVar 7) (aCons (eVar 3) aNil)))) aNil)))) (.nm 12) tYesF (eOp gMod (eU gInt (eVar 12)) (eVar 3)) [.fz (.lck (IL ns)), .ow false [.int a, .int b], c2, .fz (.int p), .fz (.int N), .fz (.int ((p : Int) ^ N)), .fz (.tup (IL (x))), .fz (.tup (IL (y))), .fz (.int (nb p N (x))), .fz (.int (nb p N (y))), .fz (.tup (IL (rs p (ad p N (x) (y))))), .fz (.tup (IL (rs p (mu p N (x) (y))))), c12, c13, c14, c15, c16, .un, .un, .un, .un] = .ok (.fr ((mu p N (x) (y)).map fun z => D.int (z % (p : Int))), [.fz (.lck (IL ns)), .ow false [.int a, .int b], c2, .fz (.int p), .fz (.int N), .fz (.int ((p : Int) ^ N)), .fz (.tup (IL (x))), .fz (.tup (IL (y))), .fz (.int (nb p N (x))), .fz (.int (nb p N (y))), .fz (.tup (IL (rs p (ad p N (x) (y))))), .fz (.tup (IL (rs p (mu p N (x) (y))))), c12, c13, c14, c15, c16, .un, .un, .un, .un]) := by
    have h := v_lc (ρ := [.fz (.lck (IL ns)), .ow false [.int a, .int b], c2, .fz (.int p), .fz (.int N), .fz (.int ((p : Int) ^ N)), .fz (.tup (IL (x))), .fz (.tup (IL (y))), .fz (.int (nb p N (x))), .fz (.int (nb p N (y))), .fz (.tup (IL (rs p (ad p N (x) (y))))), .fz (.tup (IL (rs p (mu p N (x) (y))))), c12, c13, c14, c15, c16, .un, .un, .un, .un]) (ρ1 := [.fz (.lck (IL ns)), .ow false [.int a, .int b], c2, .fz (.int p), .fz (.int N), .fz (.int ((p : Int) ^ N)), .fz (.tup (IL (x))), .fz (.tup (IL (y))), .fz (.int (nb p N (x))), .fz (.int (nb p N (y))), .fz (.tup (IL (rs p (ad p N (x) (y))))), .fz (.tup (IL (rs p (mu p N (x) (y))))), c12, c13, c14, c15, c16, .un, .un, .un, .un]) (ρ2 := [.fz (.lck (IL ns)), .ow false [.int a, .int b], c2, .fz (.int p), .fz (.int N), .fz (.int ((p : Int) ^ N)), .fz (.tup (IL (x))), .fz (.tup (IL (y))), .fz (.int (nb p N (x))), .fz (.int (nb p N (y))), .fz (.tup (IL (rs p (ad p N (x) (y))))), .fz (.tup (IL (rs p (mu p N (x) (y))))), c12, c13, c14, c15, c16, .un, .un, .un, .un]) (vs := [12]) (t := .nm 12) (fi := iSeq (eCall 2 F__law_value [] (aCons (eC (.fn 16)) (aCons (eTup (aCons (eVar 6) (aCons (eVar 7) (aCons (eVar 3) (aNil))))) (aNil))))) (fe := eOp gMod (eU gInt (eVar 12)) (eVar 3)) (L := mu p N (x) (y)) (c := .int) (g := fun z => .int (z % (p : Int))) (by exact v_seqT (v_call0 (v_cons v_c rfl (v_cons (v_tup (v_cons (v_fz rfl) rfl (v_cons (v_fz rfl) rfl (v_cons (v_fz rfl) rfl v_nil))) rfl) rfl v_nil)) rfl vT) rfl) (by rcases h12 with rfl | ⟨d, rfl⟩ <;> rfl) (by omega) rfl (fun z hz => ⟨[.fz (.lck (IL ns)), .ow false [.int a, .int b], c2, .fz (.int p), .fz (.int N), .fz (.int ((p : Int) ^ N)), .fz (.tup (IL (x))), .fz (.tup (IL (y))), .fz (.int (nb p N (x))), .fz (.int (nb p N (y))), .fz (.tup (IL (rs p (ad p N (x) (y))))), .fz (.tup (IL (rs p (mu p N (x) (y))))), .fz (.int z), c13, c14, c15, c16, .un, .un, .un, .un], [.fz (.lck (IL ns)), .ow false [.int a, .int b], c2, .fz (.int p), .fz (.int N), .fz (.int ((p : Int) ^ N)), .fz (.tup (IL (x))), .fz (.tup (IL (y))), .fz (.int (nb p N (x))), .fz (.int (nb p N (y))), .fz (.tup (IL (rs p (ad p N (x) (y))))), .fz (.tup (IL (rs p (mu p N (x) (y))))), .fz (.int z), c13, c14, c15, c16, .un, .un, .un, .un], rfl, by exact v_op (v_u (v_fz rfl) rfl rfl) (v_fz rfl) rfl rfl (gMod_int (by omega)), rfl⟩) rfl
    exact h
  have lc81s : ((mu p N (x) (y)).map fun z => D.int (z % (p : Int))) = IL (rs p (mu p N (x) (y))) := by simp [IL]
  rw [lc81s] at lc81
  have v10 := val3 (m := 22) rfl (rests_number_eq (c := c) hs)
  have rD := dg_rw hs c
  have eD := law_number_eq rD.vc
  have nD := dg_nb hs c
  have lD : ((dg p N c N).length : Int) = N := by rw [rD.vc.len]
  have lc11 : eLc [19] (iSeq (eVar 13)) (.nm 19) tYesF (eAndV (eCall 1 F__law_plain [] (aCons (eVar 19) aNil)) (eChain gLe gLt (eC (.int 0)) (eVar 19) (eVar 3))) [.fz (.lck (IL ns)), .ow false [.int a, .int b], c2, .fz (.int p), .fz (.int N), .fz (.int ((p : Int) ^ N)), .fz (.tup (IL (x))), .fz (.tup (IL (y))), .fz (.int (nb p N (x))), .fz (.int (nb p N (y))), .fz (.tup (IL (rs p (ad p N (x) (y))))), .fz (.tup (IL (rs p (mu p N (x) (y))))), .fz (.int c), .fz (.tup (IL (dg p N c N))), c14, c15, c16, .un, .un, .un, .un] = .ok (.fr ((dg p N c N).map fun z => D.bl (decide (0 ≤ z ∧ z < (p : Int)))), [.fz (.lck (IL ns)), .ow false [.int a, .int b], c2, .fz (.int p), .fz (.int N), .fz (.int ((p : Int) ^ N)), .fz (.tup (IL (x))), .fz (.tup (IL (y))), .fz (.int (nb p N (x))), .fz (.int (nb p N (y))), .fz (.tup (IL (rs p (ad p N (x) (y))))), .fz (.tup (IL (rs p (mu p N (x) (y))))), .fz (.int c), .fz (.tup (IL (dg p N c N))), c14, c15, c16, .un, .un, .un, .un]) := by
    have h := v_lc (ρ := [.fz (.lck (IL ns)), .ow false [.int a, .int b], c2, .fz (.int p), .fz (.int N), .fz (.int ((p : Int) ^ N)), .fz (.tup (IL (x))), .fz (.tup (IL (y))), .fz (.int (nb p N (x))), .fz (.int (nb p N (y))), .fz (.tup (IL (rs p (ad p N (x) (y))))), .fz (.tup (IL (rs p (mu p N (x) (y))))), .fz (.int c), .fz (.tup (IL (dg p N c N))), c14, c15, c16, .un, .un, .un, .un]) (ρ1 := [.fz (.lck (IL ns)), .ow false [.int a, .int b], c2, .fz (.int p), .fz (.int N), .fz (.int ((p : Int) ^ N)), .fz (.tup (IL (x))), .fz (.tup (IL (y))), .fz (.int (nb p N (x))), .fz (.int (nb p N (y))), .fz (.tup (IL (rs p (ad p N (x) (y))))), .fz (.tup (IL (rs p (mu p N (x) (y))))), .fz (.int c), .fz (.tup (IL (dg p N c N))), c14, c15, c16, .un, .un, .un, .un]) (ρ2 := [.fz (.lck (IL ns)), .ow false [.int a, .int b], c2, .fz (.int p), .fz (.int N), .fz (.int ((p : Int) ^ N)), .fz (.tup (IL (x))), .fz (.tup (IL (y))), .fz (.int (nb p N (x))), .fz (.int (nb p N (y))), .fz (.tup (IL (rs p (ad p N (x) (y))))), .fz (.tup (IL (rs p (mu p N (x) (y))))), .fz (.int c), .fz (.tup (IL (dg p N c N))), c14, c15, c16, .un, .un, .un, .un]) (vs := [19]) (t := .nm 19) (fi := iSeq (eVar 13)) (fe := eAndV (eCall 1 F__law_plain [] (aCons (eVar 19) (aNil))) (eChain gLe gLt (eC (.int 0)) (eVar 19) (eVar 3))) (L := dg p N c N) (c := .int) (g := fun z => .bl (decide (0 ≤ z ∧ z < (p : Int)))) (by exact v_seqT (v_fz rfl) rfl) rfl (by rw [rD.vc.len]; omega) rfl (fun z hz => ⟨[.fz (.lck (IL ns)), .ow false [.int a, .int b], c2, .fz (.int p), .fz (.int N), .fz (.int ((p : Int) ^ N)), .fz (.tup (IL (x))), .fz (.tup (IL (y))), .fz (.int (nb p N (x))), .fz (.int (nb p N (y))), .fz (.tup (IL (rs p (ad p N (x) (y))))), .fz (.tup (IL (rs p (mu p N (x) (y))))), .fz (.int c), .fz (.tup (IL (dg p N c N))), c14, c15, c16, .un, .un, .fz (.int z), .un], [.fz (.lck (IL ns)), .ow false [.int a, .int b], c2, .fz (.int p), .fz (.int N), .fz (.int ((p : Int) ^ N)), .fz (.tup (IL (x))), .fz (.tup (IL (y))), .fz (.int (nb p N (x))), .fz (.int (nb p N (y))), .fz (.tup (IL (rs p (ad p N (x) (y))))), .fz (.tup (IL (rs p (mu p N (x) (y))))), .fz (.int c), .fz (.tup (IL (dg p N c N))), c14, c15, c16, .un, .un, .fz (.int z), .un], rfl, by exact v_andT (v_call0 (v_cons (v_fz rfl) rfl v_nil) rfl (plain_eq _)) (v_ch01 v_c (v_fz rfl) (v_fz rfl)), rfl⟩) rfl
    exact h
  have all11 : gAll (.lst ((dg p N c N).map fun z => D.bl (decide (0 ≤ z ∧ z < (p : Int))))) = some (.fz (.bl true)) := by
    rw [all_map, List.all_eq_true.2]
    intro z hz
    exact decide_eq_true (rD.dg z hz)
  exact (v_sifF (v_orF (v_t (v_op (v_u (v_fz rfl) rfl (len_IL _)) (v_fz rfl) rfl rfl (ne_i lD))) (v_orF (v_not (v_t (v_u lc11 rfl all11))) (v_t (v_op (v_call0 (v_cons (v_fz rfl) rfl (v_cons (v_fz rfl) rfl v_nil)) rfl eD) (v_op (v_u (v_fz rfl) rfl rfl) (v_fz rfl) rfl rfl (gMod_int pN.1)) rfl rfl (ne_i nD))))) rfl)
theorem t13 {p N : Nat} {x y : List Int} {ns : List Int} {a b : Int} {c2 c3 c4 c5 c6 c7 c8 c9 c10 c11 c12 c13 c14 c15 c16 : Cell} {c : Int} {w : List Int} (hx : Rw p N x) (hy : Rw p N y) (hw : Vc p N w) (h6 : PL c6) (h7 : PL c7) (h8 : PL c8) (h9 : PL c9) (h10 : PL c10) (h11 : PL c11) (h13 : PL c13) (h14 : PL c14) (h15 : PL c15) (h16 : PL c16) (h12 : c12 = .un ∨ ∃ d, c12 = .fz d): S13 [.fz (.lck (IL ns)), .ow false [.int a, .int b], c2, .fz (.int p), .fz (.int N), .fz (.int ((p : Int) ^ N)), .fz (.tup (IL (x))), .fz (.tup (IL (y))), .fz (.int (nb p N (x))), .fz (.int (nb p N (y))), .fz (.tup (IL (rs p (ad p N (x) (y))))), .fz (.tup (IL (rs p (mu p N (x) (y))))), .fz (.int c), .fz (.tup (IL (dg p N c N))), .fz (.tup (IL (w))), c15, c16, .un, .un, .un, .un] = .ok (.nx, [.fz (.lck (IL ns)), .ow false [.int a, .int b], c2, .fz (.int p), .fz (.int N), .fz (.int ((p : Int) ^ N)), .fz (.tup (IL (x))), .fz (.tup (IL (y))), .fz (.int (nb p N (x))), .fz (.int (nb p N (y))), .fz (.tup (IL (rs p (ad p N (x) (y))))), .fz (.tup (IL (rs p (mu p N (x) (y))))), .fz (.int c), .fz (.tup (IL (dg p N c N))), .fz (.tup (IL (w))), c15, c16, .un, .un, .un, .un]) := by
  have hs := hx.vc.sz
  have n3 := hs.n3
  have hp5 := hs.p5
  have lx := hx.vc.len
  have pN := hs.pN
  have ex := law_number_eq hx.vc
  have ey := law_number_eq hy.vc
  have k21 := tells_eq (m := 21) (told2 rfl (number_of_eq hx.vc hx.dg)) (same4_int _)
  have k22 : F__law_tells [.fn 22, .tup [.int (nb p N (x)), .int N, .int p], .tup (IL (x))] = .ok (.fz (.bl true)) := by
    have h := tells_eq (m := 22) (told3 rfl (rests_number_eq (c := nb p N (x)) hs)) (same_T _ (by rw [dg_len]; omega))
    rw [dg_back hx] at h
    exact h
  obtain ⟨fp, np⟩ := do_plus hx hy
  obtain ⟨ft, nt⟩ := do_times hx hy
  have lA : (ad p N (x) (y)).length = N := vec_len _ _ _
  have lM : (mu p N (x) (y)).length = N := vec_len _ _ _
  have vp := val3 (m := 18) rfl (rest_plus_eq hx.vc hy.vc hx.dg hy.dg (by omega) fp)
  have vt := val3 (m := 19) rfl (rest_times_eq hx.vc hy.vc hx.dg hy.dg (by omega) ft)
  have rA := rs_rw hs lA
  have rM := rs_rw hs lM
  have eA := law_number_eq rA.vc
  have eM := law_number_eq rM.vc
  have mxy : mulOk (nb p N (x)) (nb p N (y)) = true := mulOk_l (by have := nb_range hs x; omega)
  have lrA : ((rs p (ad p N (x) (y))).length : Int) = N := by rw [rA.vc.len]
  have lrM : ((rs p (mu p N (x) (y))).length : Int) = N := by rw [rM.vc.len]
  have lc7 : eLc [12] (iSeq (eOp gAdd (eVar 10) (eVar 11))) (.nm 12) tYesF (eChain gLe gLt (eC (.int 0)) (eVar 12) (eVar 3)) [.fz (.lck (IL ns)), .ow false [.int a, .int b], c2, .fz (.int p), .fz (.int N), .fz (.int ((p : Int) ^ N)), .fz (.tup (IL (x))), .fz (.tup (IL (y))), .fz (.int (nb p N (x))), .fz (.int (nb p N (y))), .fz (.tup (IL (rs p (ad p N (x) (y))))), .fz (.tup (IL (rs p (mu p N (x) (y))))), c12, c13, c14, c15, c16, .un, .un, .un, .un] = .ok (.fr ((rs p (ad p N (x) (y)) ++ rs p (mu p N (x) (y))).map fun z => D.bl (decide (0 ≤ z ∧ z < (p : Int)))), [.fz (.lck (IL ns)), .ow false [.int a, .int b], c2, .fz (.int p), .fz (.int N), .fz (.int ((p : Int) ^ N)), .fz (.tup (IL (x))), .fz (.tup (IL (y))), .fz (.int (nb p N (x))), .fz (.int (nb p N (y))), .fz (.tup (IL (rs p (ad p N (x) (y))))), .fz (.tup (IL (rs p (mu p N (x) (y))))), c12, c13, c14, c15, c16, .un, .un, .un, .un]) := by
    have h := v_lc (ρ := [.fz (.lck (IL ns)), .ow false [.int a, .int b], c2, .fz (.int p), .fz (.int N), .fz (.int ((p : Int) ^ N)), .fz (.tup (IL (x))), .fz (.tup (IL (y))), .fz (.int (nb p N (x))), .fz (.int (nb p N (y))), .fz (.tup (IL (rs p (ad p N (x) (y))))), .fz (.tup (IL (rs p (mu p N (x) (y))))), c12, c13, c14, c15, c16, .un, .un, .un, .un]) (ρ1 := [.fz (.lck (IL ns)), .ow false [.int a, .int b], c2, .fz (.int p), .fz (.int N), .fz (.int ((p : Int) ^ N)), .fz (.tup (IL (x))), .fz (.tup (IL (y))), .fz (.int (nb p N (x))), .fz (.int (nb p N (y))), .fz (.tup (IL (rs p (ad p N (x) (y))))), .fz (.tup (IL (rs p (mu p N (x) (y))))), c12, c13, c14, c15, c16, .un, .un, .un, .un]) (ρ2 := [.fz (.lck (IL ns)), .ow false [.int a, .int b], c2, .fz (.int p), .fz (.int N), .fz (.int ((p : Int) ^ N)), .fz (.tup (IL (x))), .fz (.tup (IL (y))), .fz (.int (nb p N (x))), .fz (.int (nb p N (y))), .fz (.tup (IL (rs p (ad p N (x) (y))))), .fz (.tup (IL (rs p (mu p N (x) (y))))), c12, c13, c14, c15, c16, .un, .un, .un, .un]) (vs := [12]) (t := .nm 12) (fi := iSeq (eOp gAdd (eVar 10) (eVar 11))) (fe := eChain gLe gLt (eC (.int 0)) (eVar 12) (eVar 3)) (L := (rs p (ad p N (x) (y)) ++ rs p (mu p N (x) (y)))) (c := .int) (g := fun z => .bl (decide (0 ≤ z ∧ z < (p : Int)))) (by exact v_seqT (v_op (v_fz rfl) (v_fz rfl) rfl rfl (add_tt (by rw [rA.vc.len, rM.vc.len]; omega))) rfl) (by rcases h12 with rfl | ⟨d, rfl⟩ <;> rfl) (by rw [List.length_append, rA.vc.len, rM.vc.len]; omega) rfl (fun z hz => ⟨[.fz (.lck (IL ns)), .ow false [.int a, .int b], c2, .fz (.int p), .fz (.int N), .fz (.int ((p : Int) ^ N)), .fz (.tup (IL (x))), .fz (.tup (IL (y))), .fz (.int (nb p N (x))), .fz (.int (nb p N (y))), .fz (.tup (IL (rs p (ad p N (x) (y))))), .fz (.tup (IL (rs p (mu p N (x) (y))))), .fz (.int z), c13, c14, c15, c16, .un, .un, .un, .un], [.fz (.lck (IL ns)), .ow false [.int a, .int b], c2, .fz (.int p), .fz (.int N), .fz (.int ((p : Int) ^ N)), .fz (.tup (IL (x))), .fz (.tup (IL (y))), .fz (.int (nb p N (x))), .fz (.int (nb p N (y))), .fz (.tup (IL (rs p (ad p N (x) (y))))), .fz (.tup (IL (rs p (mu p N (x) (y))))), .fz (.int z), c13, c14, c15, c16, .un, .un, .un, .un], rfl, by exact v_ch01 v_c (v_fz rfl) (v_fz rfl), rfl⟩) rfl
    exact h
  have all7 : gAll (.lst ((rs p (ad p N (x) (y)) ++ rs p (mu p N (x) (y))).map fun z => D.bl (decide (0 ≤ z ∧ z < (p : Int))))) = some (.fz (.bl true)) := by
    rw [all_map, List.all_eq_true.2]
    intro z hz
    rcases List.mem_append.1 hz with h | h
    · exact decide_eq_true (rA.dg z h)
    · exact decide_eq_true (rM.dg z h)
  have vP := val3 (m := 15) rfl fp
  have vT := val3 (m := 16) rfl ft
  have lc80 : eLc [12] (iSeq (eCall 2 F__law_value [] (aCons (eC (.fn 15)) (aCons (eTup (aCons (eVar 6) (aCons (eVar 7) (aCons (eVar 3) aNil)))) aNil)))) (.nm 12) tYesF (eOp gMod (eU gInt (eVar 12)) (eVar 3)) [.fz (.lck (IL ns)), .ow false [.int a, .int b], c2, .fz (.int p), .fz (.int N), .fz (.int ((p : Int) ^ N)), .fz (.tup (IL (x))), .fz (.tup (IL (y))), .fz (.int (nb p N (x))), .fz (.int (nb p N (y))), .fz (.tup (IL (rs p (ad p N (x) (y))))), .fz (.tup (IL (rs p (mu p N (x) (y))))), c12, c13, c14, c15, c16, .un, .un, .un, .un] = .ok (.fr ((ad p N (x) (y)).map fun z => D.int (z % (p : Int))), [.fz (.lck (IL ns)), .ow false [.int a, .int b], c2, .fz (.int p), .fz (.int N), .fz (.int ((p : Int) ^ N)), .fz (.tup (IL (x))), .fz (.tup (IL (y))), .fz (.int (nb p N (x))), .fz (.int (nb p N (y))), .fz (.tup (IL (rs p (ad p N (x) (y))))), .fz (.tup (IL (rs p (mu p N (x) (y))))), c12, c13, c14, c15, c16, .un, .un, .un, .un]) := by
    have h := v_lc (ρ := [.fz (.lck (IL ns)), .ow false [.int a, .int b], c2, .fz (.int p), .fz (.int N), .fz (.int ((p : Int) ^ N)), .fz (.tup (IL (x))), .fz (.tup (IL (y))), .fz (.int (nb p N (x))), .fz (.int (nb p N (y))), .fz (.tup (IL (rs p (ad p N (x) (y))))), .fz (.tup (IL (rs p (mu p N (x) (y))))), c12, c13, c14, c15, c16, .un, .un, .un, .un]) (ρ1 := [.fz (.lck (IL ns)), .ow false [.int a, .int b], c2, .fz (.int p), .fz (.int N), .fz (.int ((p : Int) ^ N)), .fz (.tup (IL (x))), .fz (.tup (IL (y))), .fz (.int (nb p N (x))), .fz (.int (nb p N (y))), .fz (.tup (IL (rs p (ad p N (x) (y))))), .fz (.tup (IL (rs p (mu p N (x) (y))))), c12, c13, c14, c15, c16, .un, .un, .un, .un]) (ρ2 := [.fz (.lck (IL ns)), .ow false [.int a, .int b], c2, .fz (.int p), .fz (.int N), .fz (.int ((p : Int) ^ N)), .fz (.tup (IL (x))), .fz (.tup (IL (y))), .fz (.int (nb p N (x))), .fz (.int (nb p N (y))), .fz (.tup (IL (rs p (ad p N (x) (y))))), .fz (.tup (IL (rs p (mu p N (x) (y))))), c12, c13, c14, c15, c16, .un, .un, .un, .un]) (vs := [12]) (t := .nm 12) (fi := iSeq (eCall 2 F__law_value [] (aCons (eC (.fn 15)) (aCons (eTup (aCons (eVar 6) (aCons (eVar 7) (aCons (eVar 3) (aNil))))) (aNil))))) (fe := eOp gMod (eU gInt (eVar 12)) (eVar 3)) (L := ad p N (x) (y)) (c := .int) (g := fun z => .int (z % (p : Int))) (by exact v_seqT (v_call0 (v_cons v_c rfl (v_cons (v_tup (v_cons (v_fz rfl) rfl (v_cons (v_fz rfl) rfl (v_cons (v_fz rfl) rfl v_nil))) rfl) rfl v_nil)) rfl vP) rfl) (by rcases h12 with rfl | ⟨d, rfl⟩ <;> rfl) (by omega) rfl (fun z hz => ⟨[.fz (.lck (IL ns)), .ow false [.int a, .int b], c2, .fz (.int p), .fz (.int N), .fz (.int ((p : Int) ^ N)), .fz (.tup (IL (x))), .fz (.tup (IL (y))), .fz (.int (nb p N (x))), .fz (.int (nb p N (y))), .fz (.tup (IL (rs p (ad p N (x) (y))))), .fz (.tup (IL (rs p (mu p N (x) (y))))), .fz (.int z), c13, c14, c15, c16, .un, .un, .un, .un], [.fz (.lck (IL ns)), .ow false [.int a, .int b], c2, .fz (.int p), .fz (.int N), .fz (.int ((p : Int) ^ N)), .fz (.tup (IL (x))), .fz (.tup (IL (y))), .fz (.int (nb p N (x))), .fz (.int (nb p N (y))), .fz (.tup (IL (rs p (ad p N (x) (y))))), .fz (.tup (IL (rs p (mu p N (x) (y))))), .fz (.int z), c13, c14, c15, c16, .un, .un, .un, .un], rfl, by exact v_op (v_u (v_fz rfl) rfl rfl) (v_fz rfl) rfl rfl (gMod_int (by omega)), rfl⟩) rfl
    exact h
  have lc80s : ((ad p N (x) (y)).map fun z => D.int (z % (p : Int))) = IL (rs p (ad p N (x) (y))) := by simp [IL]
  rw [lc80s] at lc80
  have lc81 : eLc [12] (iSeq (eCall 2 F__law_value [] (aCons (eC (.fn 16)) (aCons (eTup (aCons (eVar 6) (aCons (eVar 7) (aCons (eVar 3) aNil)))) aNil)))) (.nm 12) tYesF (eOp gMod (eU gInt (eVar 12)) (eVar 3)) [.fz (.lck (IL ns)), .ow false [.int a, .int b], c2, .fz (.int p), .fz (.int N), .fz (.int ((p : Int) ^ N)), .fz (.tup (IL (x))), .fz (.tup (IL (y))), .fz (.int (nb p N (x))), .fz (.int (nb p N (y))), .fz (.tup (IL (rs p (ad p N (x) (y))))), .fz (.tup (IL (rs p (mu p N (x) (y))))), c12, c13, c14, c15, c16, .un, .un, .un, .un] = .ok (.fr ((mu p N (x) (y)).map fun z => D.int (z % (p : Int))), [.fz (.lck (IL ns)), .ow false [.int a, .int b], c2, .fz (.int p), .fz (.int N), .fz (.int ((p : Int) ^ N)), .fz (.tup (IL (x))), .fz (.tup (IL (y))), .fz (.int (nb p N (x))), .fz (.int (nb p N (y))), .fz (.tup (IL (rs p (ad p N (x) (y))))), .fz (.tup (IL (rs p (mu p N (x) (y))))), c12, c13, c14, c15, c16, .un, .un, .un, .un]) := by
    have h := v_lc (ρ := [.fz (.lck (IL ns)), .ow false [.int a, .int b], c2, .fz (.int p), .fz (.int N), .fz (.int ((p : Int) ^ N)), .fz (.tup (IL (x))), .fz (.tup (IL (y))), .fz (.int (nb p N (x))), .fz (.int (nb p N (y))), .fz (.tup (IL (rs p (ad p N (x) (y))))), .fz (.tup (IL (rs p (mu p N (x) (y))))), c12, c13, c14, c15, c16, .un, .un, .un, .un]) (ρ1 := [.fz (.lck (IL ns)), .ow false [.int a, .int b], c2, .fz (.int p), .fz (.int N), .fz (.int ((p : Int) ^ N)), .fz (.tup (IL (x))), .fz (.tup (IL (y))), .fz (.int (nb p N (x))), .fz (.int (nb p N (y))), .fz (.tup (IL (rs p (ad p N (x) (y))))), .fz (.tup (IL (rs p (mu p N (x) (y))))), c12, c13, c14, c15, c16, .un, .un, .un, .un]) (ρ2 := [.fz (.lck (IL ns)), .ow false [.int a, .int b], c2, .fz (.int p), .fz (.int N), .fz (.int ((p : Int) ^ N)), .fz (.tup (IL (x))), .fz (.tup (IL (y))), .fz (.int (nb p N (x))), .fz (.int (nb p N (y))), .fz (.tup (IL (rs p (ad p N (x) (y))))), .fz (.tup (IL (rs p (mu p N (x) (y))))), c12, c13, c14, c15, c16, .un, .un, .un, .un]) (vs := [12]) (t := .nm 12) (fi := iSeq (eCall 2 F__law_value [] (aCons (eC (.fn 16)) (aCons (eTup (aCons (eVar 6) (aCons (eVar 7) (aCons (eVar 3) (aNil))))) (aNil))))) (fe := eOp gMod (eU gInt (eVar 12)) (eVar 3)) (L := mu p N (x) (y)) (c := .int) (g := fun z => .int (z % (p : Int))) (by exact v_seqT (v_call0 (v_cons v_c rfl (v_cons (v_tup (v_cons (v_fz rfl) rfl (v_cons (v_fz rfl) rfl (v_cons (v_fz rfl) rfl v_nil))) rfl) rfl v_nil)) rfl vT) rfl) (by rcases h12 with rfl | ⟨d, rfl⟩ <;> rfl) (by omega) rfl (fun z hz => ⟨[.fz (.lck (IL ns)), .ow false [.int a, .int b], c2, .fz (.int p), .fz (.int N), .fz (.int ((p : Int) ^ N)), .fz (.tup (IL (x))), .fz (.tup (IL (y))), .fz (.int (nb p N (x))), .fz (.int (nb p N (y))), .fz (.tup (IL (rs p (ad p N (x) (y))))), .fz (.tup (IL (rs p (mu p N (x) (y))))), .fz (.int z), c13, c14, c15, c16, .un, .un, .un, .un], [.fz (.lck (IL ns)), .ow false [.int a, .int b], c2, .fz (.int p), .fz (.int N), .fz (.int ((p : Int) ^ N)), .fz (.tup (IL (x))), .fz (.tup (IL (y))), .fz (.int (nb p N (x))), .fz (.int (nb p N (y))), .fz (.tup (IL (rs p (ad p N (x) (y))))), .fz (.tup (IL (rs p (mu p N (x) (y))))), .fz (.int z), c13, c14, c15, c16, .un, .un, .un, .un], rfl, by exact v_op (v_u (v_fz rfl) rfl rfl) (v_fz rfl) rfl rfl (gMod_int (by omega)), rfl⟩) rfl
    exact h
  have lc81s : ((mu p N (x) (y)).map fun z => D.int (z % (p : Int))) = IL (rs p (mu p N (x) (y))) := by simp [IL]
  rw [lc81s] at lc81
  have v10 := val3 (m := 22) rfl (rests_number_eq (c := c) hs)
  have rD := dg_rw hs c
  have eD := law_number_eq rD.vc
  have nD := dg_nb hs c
  have lD : ((dg p N c N).length : Int) = N := by rw [rD.vc.len]
  have lc11 : eLc [19] (iSeq (eVar 13)) (.nm 19) tYesF (eAndV (eCall 1 F__law_plain [] (aCons (eVar 19) aNil)) (eChain gLe gLt (eC (.int 0)) (eVar 19) (eVar 3))) [.fz (.lck (IL ns)), .ow false [.int a, .int b], c2, .fz (.int p), .fz (.int N), .fz (.int ((p : Int) ^ N)), .fz (.tup (IL (x))), .fz (.tup (IL (y))), .fz (.int (nb p N (x))), .fz (.int (nb p N (y))), .fz (.tup (IL (rs p (ad p N (x) (y))))), .fz (.tup (IL (rs p (mu p N (x) (y))))), .fz (.int c), .fz (.tup (IL (dg p N c N))), c14, c15, c16, .un, .un, .un, .un] = .ok (.fr ((dg p N c N).map fun z => D.bl (decide (0 ≤ z ∧ z < (p : Int)))), [.fz (.lck (IL ns)), .ow false [.int a, .int b], c2, .fz (.int p), .fz (.int N), .fz (.int ((p : Int) ^ N)), .fz (.tup (IL (x))), .fz (.tup (IL (y))), .fz (.int (nb p N (x))), .fz (.int (nb p N (y))), .fz (.tup (IL (rs p (ad p N (x) (y))))), .fz (.tup (IL (rs p (mu p N (x) (y))))), .fz (.int c), .fz (.tup (IL (dg p N c N))), c14, c15, c16, .un, .un, .un, .un]) := by
    have h := v_lc (ρ := [.fz (.lck (IL ns)), .ow false [.int a, .int b], c2, .fz (.int p), .fz (.int N), .fz (.int ((p : Int) ^ N)), .fz (.tup (IL (x))), .fz (.tup (IL (y))), .fz (.int (nb p N (x))), .fz (.int (nb p N (y))), .fz (.tup (IL (rs p (ad p N (x) (y))))), .fz (.tup (IL (rs p (mu p N (x) (y))))), .fz (.int c), .fz (.tup (IL (dg p N c N))), c14, c15, c16, .un, .un, .un, .un]) (ρ1 := [.fz (.lck (IL ns)), .ow false [.int a, .int b], c2, .fz (.int p), .fz (.int N), .fz (.int ((p : Int) ^ N)), .fz (.tup (IL (x))), .fz (.tup (IL (y))), .fz (.int (nb p N (x))), .fz (.int (nb p N (y))), .fz (.tup (IL (rs p (ad p N (x) (y))))), .fz (.tup (IL (rs p (mu p N (x) (y))))), .fz (.int c), .fz (.tup (IL (dg p N c N))), c14, c15, c16, .un, .un, .un, .un]) (ρ2 := [.fz (.lck (IL ns)), .ow false [.int a, .int b], c2, .fz (.int p), .fz (.int N), .fz (.int ((p : Int) ^ N)), .fz (.tup (IL (x))), .fz (.tup (IL (y))), .fz (.int (nb p N (x))), .fz (.int (nb p N (y))), .fz (.tup (IL (rs p (ad p N (x) (y))))), .fz (.tup (IL (rs p (mu p N (x) (y))))), .fz (.int c), .fz (.tup (IL (dg p N c N))), c14, c15, c16, .un, .un, .un, .un]) (vs := [19]) (t := .nm 19) (fi := iSeq (eVar 13)) (fe := eAndV (eCall 1 F__law_plain [] (aCons (eVar 19) (aNil))) (eChain gLe gLt (eC (.int 0)) (eVar 19) (eVar 3))) (L := dg p N c N) (c := .int) (g := fun z => .bl (decide (0 ≤ z ∧ z < (p : Int)))) (by exact v_seqT (v_fz rfl) rfl) rfl (by rw [rD.vc.len]; omega) rfl (fun z hz => ⟨[.fz (.lck (IL ns)), .ow false [.int a, .int b], c2, .fz (.int p), .fz (.int N), .fz (.int ((p : Int) ^ N)), .fz (.tup (IL (x))), .fz (.tup (IL (y))), .fz (.int (nb p N (x))), .fz (.int (nb p N (y))), .fz (.tup (IL (rs p (ad p N (x) (y))))), .fz (.tup (IL (rs p (mu p N (x) (y))))), .fz (.int c), .fz (.tup (IL (dg p N c N))), c14, c15, c16, .un, .un, .fz (.int z), .un], [.fz (.lck (IL ns)), .ow false [.int a, .int b], c2, .fz (.int p), .fz (.int N), .fz (.int ((p : Int) ^ N)), .fz (.tup (IL (x))), .fz (.tup (IL (y))), .fz (.int (nb p N (x))), .fz (.int (nb p N (y))), .fz (.tup (IL (rs p (ad p N (x) (y))))), .fz (.tup (IL (rs p (mu p N (x) (y))))), .fz (.int c), .fz (.tup (IL (dg p N c N))), c14, c15, c16, .un, .un, .fz (.int z), .un], rfl, by exact v_andT (v_call0 (v_cons (v_fz rfl) rfl v_nil) rfl (plain_eq _)) (v_ch01 v_c (v_fz rfl) (v_fz rfl)), rfl⟩) rfl
    exact h
  have all11 : gAll (.lst ((dg p N c N).map fun z => D.bl (decide (0 ≤ z ∧ z < (p : Int))))) = some (.fz (.bl true)) := by
    rw [all_map, List.all_eq_true.2]
    intro z hz
    exact decide_eq_true (rD.dg z hz)
  have lw := hw.len
  have k17 := tells_eq (m := 17) (told2 rfl (rests_of_eq hw)) (same_T _ (by simp; omega))
  have lc13 : eLc [19] (iSeq (eVar 14)) (.nm 19) tYesF (eOp gMod (eU gInt (eVar 19)) (eVar 3)) [.fz (.lck (IL ns)), .ow false [.int a, .int b], c2, .fz (.int p), .fz (.int N), .fz (.int ((p : Int) ^ N)), .fz (.tup (IL (x))), .fz (.tup (IL (y))), .fz (.int (nb p N (x))), .fz (.int (nb p N (y))), .fz (.tup (IL (rs p (ad p N (x) (y))))), .fz (.tup (IL (rs p (mu p N (x) (y))))), .fz (.int c), .fz (.tup (IL (dg p N c N))), .fz (.tup (IL (w))), c15, c16, .un, .un, .un, .un] = .ok (.fr ((w).map fun z => D.int (z % (p : Int))), [.fz (.lck (IL ns)), .ow false [.int a, .int b], c2, .fz (.int p), .fz (.int N), .fz (.int ((p : Int) ^ N)), .fz (.tup (IL (x))), .fz (.tup (IL (y))), .fz (.int (nb p N (x))), .fz (.int (nb p N (y))), .fz (.tup (IL (rs p (ad p N (x) (y))))), .fz (.tup (IL (rs p (mu p N (x) (y))))), .fz (.int c), .fz (.tup (IL (dg p N c N))), .fz (.tup (IL (w))), c15, c16, .un, .un, .un, .un]) := by
    have h := v_lc (ρ := [.fz (.lck (IL ns)), .ow false [.int a, .int b], c2, .fz (.int p), .fz (.int N), .fz (.int ((p : Int) ^ N)), .fz (.tup (IL (x))), .fz (.tup (IL (y))), .fz (.int (nb p N (x))), .fz (.int (nb p N (y))), .fz (.tup (IL (rs p (ad p N (x) (y))))), .fz (.tup (IL (rs p (mu p N (x) (y))))), .fz (.int c), .fz (.tup (IL (dg p N c N))), .fz (.tup (IL (w))), c15, c16, .un, .un, .un, .un]) (ρ1 := [.fz (.lck (IL ns)), .ow false [.int a, .int b], c2, .fz (.int p), .fz (.int N), .fz (.int ((p : Int) ^ N)), .fz (.tup (IL (x))), .fz (.tup (IL (y))), .fz (.int (nb p N (x))), .fz (.int (nb p N (y))), .fz (.tup (IL (rs p (ad p N (x) (y))))), .fz (.tup (IL (rs p (mu p N (x) (y))))), .fz (.int c), .fz (.tup (IL (dg p N c N))), .fz (.tup (IL (w))), c15, c16, .un, .un, .un, .un]) (ρ2 := [.fz (.lck (IL ns)), .ow false [.int a, .int b], c2, .fz (.int p), .fz (.int N), .fz (.int ((p : Int) ^ N)), .fz (.tup (IL (x))), .fz (.tup (IL (y))), .fz (.int (nb p N (x))), .fz (.int (nb p N (y))), .fz (.tup (IL (rs p (ad p N (x) (y))))), .fz (.tup (IL (rs p (mu p N (x) (y))))), .fz (.int c), .fz (.tup (IL (dg p N c N))), .fz (.tup (IL (w))), c15, c16, .un, .un, .un, .un]) (vs := [19]) (t := .nm 19) (fi := iSeq (eVar 14)) (fe := eOp gMod (eU gInt (eVar 19)) (eVar 3)) (L := w) (c := .int) (g := fun z => .int (z % (p : Int))) (by exact v_seqT (v_fz rfl) rfl) rfl (by omega) rfl (fun z hz => ⟨[.fz (.lck (IL ns)), .ow false [.int a, .int b], c2, .fz (.int p), .fz (.int N), .fz (.int ((p : Int) ^ N)), .fz (.tup (IL (x))), .fz (.tup (IL (y))), .fz (.int (nb p N (x))), .fz (.int (nb p N (y))), .fz (.tup (IL (rs p (ad p N (x) (y))))), .fz (.tup (IL (rs p (mu p N (x) (y))))), .fz (.int c), .fz (.tup (IL (dg p N c N))), .fz (.tup (IL (w))), c15, c16, .un, .un, .fz (.int z), .un], [.fz (.lck (IL ns)), .ow false [.int a, .int b], c2, .fz (.int p), .fz (.int N), .fz (.int ((p : Int) ^ N)), .fz (.tup (IL (x))), .fz (.tup (IL (y))), .fz (.int (nb p N (x))), .fz (.int (nb p N (y))), .fz (.tup (IL (rs p (ad p N (x) (y))))), .fz (.tup (IL (rs p (mu p N (x) (y))))), .fz (.int c), .fz (.tup (IL (dg p N c N))), .fz (.tup (IL (w))), c15, c16, .un, .un, .fz (.int z), .un], rfl, by exact v_op (v_u (v_fz rfl) rfl rfl) (v_fz rfl) rfl rfl (gMod_int (by omega)), rfl⟩) rfl
    exact h
  have lc13s : ((w).map fun z => D.int (z % (p : Int))) = IL (rs p (w)) := by simp [IL]
  rw [lc13s] at lc13
  exact (v_sifF (v_not (v_t (v_call0 (v_cons v_c rfl (v_cons (v_tup (v_cons (v_fz rfl) rfl (v_cons (v_fz rfl) rfl v_nil)) rfl) rfl (v_cons (v_u lc13 rfl rfl) rfl v_nil))) rfl k17))) rfl)
theorem t14 {p N : Nat} {x y : List Int} {ns : List Int} {a b : Int} {c2 c3 c4 c5 c6 c7 c8 c9 c10 c11 c12 c13 c14 c15 c16 : Cell} {c : Int} {w : List Int} (hx : Rw p N x) (hy : Rw p N y) (hw : Vc p N w) (h6 : PL c6) (h7 : PL c7) (h8 : PL c8) (h9 : PL c9) (h10 : PL c10) (h11 : PL c11) (h13 : PL c13) (h14 : PL c14) (h15 : PL c15) (h16 : PL c16) (h12 : c12 = .un ∨ ∃ d, c12 = .fz d): S14 [.fz (.lck (IL ns)), .ow false [.int a, .int b], c2, .fz (.int p), .fz (.int N), .fz (.int ((p : Int) ^ N)), .fz (.tup (IL (x))), .fz (.tup (IL (y))), .fz (.int (nb p N (x))), .fz (.int (nb p N (y))), .fz (.tup (IL (rs p (ad p N (x) (y))))), .fz (.tup (IL (rs p (mu p N (x) (y))))), .fz (.int c), .fz (.tup (IL (dg p N c N))), .fz (.tup (IL (w))), c15, c16, .un, .un, .un, .un] = .ok (.nx, [.fz (.lck (IL ns)), .ow false [.int a, .int b], c2, .fz (.int p), .fz (.int N), .fz (.int ((p : Int) ^ N)), .fz (.tup (IL (x))), .fz (.tup (IL (y))), .fz (.int (nb p N (x))), .fz (.int (nb p N (y))), .fz (.tup (IL (rs p (ad p N (x) (y))))), .fz (.tup (IL (rs p (mu p N (x) (y))))), .fz (.int c), .fz (.tup (IL (dg p N c N))), .fz (.tup (IL (w))), c15, c16, .un, .un, .un, .un]) := by
  have hs := hx.vc.sz
  have n3 := hs.n3
  have hp5 := hs.p5
  have lx := hx.vc.len
  have pN := hs.pN
  have ex := law_number_eq hx.vc
  have ey := law_number_eq hy.vc
  have k21 := tells_eq (m := 21) (told2 rfl (number_of_eq hx.vc hx.dg)) (same4_int _)
  have k22 : F__law_tells [.fn 22, .tup [.int (nb p N (x)), .int N, .int p], .tup (IL (x))] = .ok (.fz (.bl true)) := by
    have h := tells_eq (m := 22) (told3 rfl (rests_number_eq (c := nb p N (x)) hs)) (same_T _ (by rw [dg_len]; omega))
    rw [dg_back hx] at h
    exact h
  obtain ⟨fp, np⟩ := do_plus hx hy
  obtain ⟨ft, nt⟩ := do_times hx hy
  have lA : (ad p N (x) (y)).length = N := vec_len _ _ _
  have lM : (mu p N (x) (y)).length = N := vec_len _ _ _
  have vp := val3 (m := 18) rfl (rest_plus_eq hx.vc hy.vc hx.dg hy.dg (by omega) fp)
  have vt := val3 (m := 19) rfl (rest_times_eq hx.vc hy.vc hx.dg hy.dg (by omega) ft)
  have rA := rs_rw hs lA
  have rM := rs_rw hs lM
  have eA := law_number_eq rA.vc
  have eM := law_number_eq rM.vc
  have mxy : mulOk (nb p N (x)) (nb p N (y)) = true := mulOk_l (by have := nb_range hs x; omega)
  have lrA : ((rs p (ad p N (x) (y))).length : Int) = N := by rw [rA.vc.len]
  have lrM : ((rs p (mu p N (x) (y))).length : Int) = N := by rw [rM.vc.len]
  have lc7 : eLc [12] (iSeq (eOp gAdd (eVar 10) (eVar 11))) (.nm 12) tYesF (eChain gLe gLt (eC (.int 0)) (eVar 12) (eVar 3)) [.fz (.lck (IL ns)), .ow false [.int a, .int b], c2, .fz (.int p), .fz (.int N), .fz (.int ((p : Int) ^ N)), .fz (.tup (IL (x))), .fz (.tup (IL (y))), .fz (.int (nb p N (x))), .fz (.int (nb p N (y))), .fz (.tup (IL (rs p (ad p N (x) (y))))), .fz (.tup (IL (rs p (mu p N (x) (y))))), c12, c13, c14, c15, c16, .un, .un, .un, .un] = .ok (.fr ((rs p (ad p N (x) (y)) ++ rs p (mu p N (x) (y))).map fun z => D.bl (decide (0 ≤ z ∧ z < (p : Int)))), [.fz (.lck (IL ns)), .ow false [.int a, .int b], c2, .fz (.int p), .fz (.int N), .fz (.int ((p : Int) ^ N)), .fz (.tup (IL (x))), .fz (.tup (IL (y))), .fz (.int (nb p N (x))), .fz (.int (nb p N (y))), .fz (.tup (IL (rs p (ad p N (x) (y))))), .fz (.tup (IL (rs p (mu p N (x) (y))))), c12, c13, c14, c15, c16, .un, .un, .un, .un]) := by
    have h := v_lc (ρ := [.fz (.lck (IL ns)), .ow false [.int a, .int b], c2, .fz (.int p), .fz (.int N), .fz (.int ((p : Int) ^ N)), .fz (.tup (IL (x))), .fz (.tup (IL (y))), .fz (.int (nb p N (x))), .fz (.int (nb p N (y))), .fz (.tup (IL (rs p (ad p N (x) (y))))), .fz (.tup (IL (rs p (mu p N (x) (y))))), c12, c13, c14, c15, c16, .un, .un, .un, .un]) (ρ1 := [.fz (.lck (IL ns)), .ow false [.int a, .int b], c2, .fz (.int p), .fz (.int N), .fz (.int ((p : Int) ^ N)), .fz (.tup (IL (x))), .fz (.tup (IL (y))), .fz (.int (nb p N (x))), .fz (.int (nb p N (y))), .fz (.tup (IL (rs p (ad p N (x) (y))))), .fz (.tup (IL (rs p (mu p N (x) (y))))), c12, c13, c14, c15, c16, .un, .un, .un, .un]) (ρ2 := [.fz (.lck (IL ns)), .ow false [.int a, .int b], c2, .fz (.int p), .fz (.int N), .fz (.int ((p : Int) ^ N)), .fz (.tup (IL (x))), .fz (.tup (IL (y))), .fz (.int (nb p N (x))), .fz (.int (nb p N (y))), .fz (.tup (IL (rs p (ad p N (x) (y))))), .fz (.tup (IL (rs p (mu p N (x) (y))))), c12, c13, c14, c15, c16, .un, .un, .un, .un]) (vs := [12]) (t := .nm 12) (fi := iSeq (eOp gAdd (eVar 10) (eVar 11))) (fe := eChain gLe gLt (eC (.int 0)) (eVar 12) (eVar 3)) (L := (rs p (ad p N (x) (y)) ++ rs p (mu p N (x) (y)))) (c := .int) (g := fun z => .bl (decide (0 ≤ z ∧ z < (p : Int)))) (by exact v_seqT (v_op (v_fz rfl) (v_fz rfl) rfl rfl (add_tt (by rw [rA.vc.len, rM.vc.len]; omega))) rfl) (by rcases h12 with rfl | ⟨d, rfl⟩ <;> rfl) (by rw [List.length_append, rA.vc.len, rM.vc.len]; omega) rfl (fun z hz => ⟨[.fz (.lck (IL ns)), .ow false [.int a, .int b], c2, .fz (.int p), .fz (.int N), .fz (.int ((p : Int) ^ N)), .fz (.tup (IL (x))), .fz (.tup (IL (y))), .fz (.int (nb p N (x))), .fz (.int (nb p N (y))), .fz (.tup (IL (rs p (ad p N (x) (y))))), .fz (.tup (IL (rs p (mu p N (x) (y))))), .fz (.int z), c13, c14, c15, c16, .un, .un, .un, .un], [.fz (.lck (IL ns)), .ow false [.int a, .int b], c2, .fz (.int p), .fz (.int N), .fz (.int ((p : Int) ^ N)), .fz (.tup (IL (x))), .fz (.tup (IL (y))), .fz (.int (nb p N (x))), .fz (.int (nb p N (y))), .fz (.tup (IL (rs p (ad p N (x) (y))))), .fz (.tup (IL (rs p (mu p N (x) (y))))), .fz (.int z), c13, c14, c15, c16, .un, .un, .un, .un], rfl, by exact v_ch01 v_c (v_fz rfl) (v_fz rfl), rfl⟩) rfl
    exact h
  have all7 : gAll (.lst ((rs p (ad p N (x) (y)) ++ rs p (mu p N (x) (y))).map fun z => D.bl (decide (0 ≤ z ∧ z < (p : Int))))) = some (.fz (.bl true)) := by
    rw [all_map, List.all_eq_true.2]
    intro z hz
    rcases List.mem_append.1 hz with h | h
    · exact decide_eq_true (rA.dg z h)
    · exact decide_eq_true (rM.dg z h)
  have vP := val3 (m := 15) rfl fp
  have vT := val3 (m := 16) rfl ft
  have lc80 : eLc [12] (iSeq (eCall 2 F__law_value [] (aCons (eC (.fn 15)) (aCons (eTup (aCons (eVar 6) (aCons (eVar 7) (aCons (eVar 3) aNil)))) aNil)))) (.nm 12) tYesF (eOp gMod (eU gInt (eVar 12)) (eVar 3)) [.fz (.lck (IL ns)), .ow false [.int a, .int b], c2, .fz (.int p), .fz (.int N), .fz (.int ((p : Int) ^ N)), .fz (.tup (IL (x))), .fz (.tup (IL (y))), .fz (.int (nb p N (x))), .fz (.int (nb p N (y))), .fz (.tup (IL (rs p (ad p N (x) (y))))), .fz (.tup (IL (rs p (mu p N (x) (y))))), c12, c13, c14, c15, c16, .un, .un, .un, .un] = .ok (.fr ((ad p N (x) (y)).map fun z => D.int (z % (p : Int))), [.fz (.lck (IL ns)), .ow false [.int a, .int b], c2, .fz (.int p), .fz (.int N), .fz (.int ((p : Int) ^ N)), .fz (.tup (IL (x))), .fz (.tup (IL (y))), .fz (.int (nb p N (x))), .fz (.int (nb p N (y))), .fz (.tup (IL (rs p (ad p N (x) (y))))), .fz (.tup (IL (rs p (mu p N (x) (y))))), c12, c13, c14, c15, c16, .un, .un, .un, .un]) := by
    have h := v_lc (ρ := [.fz (.lck (IL ns)), .ow false [.int a, .int b], c2, .fz (.int p), .fz (.int N), .fz (.int ((p : Int) ^ N)), .fz (.tup (IL (x))), .fz (.tup (IL (y))), .fz (.int (nb p N (x))), .fz (.int (nb p N (y))), .fz (.tup (IL (rs p (ad p N (x) (y))))), .fz (.tup (IL (rs p (mu p N (x) (y))))), c12, c13, c14, c15, c16, .un, .un, .un, .un]) (ρ1 := [.fz (.lck (IL ns)), .ow false [.int a, .int b], c2, .fz (.int p), .fz (.int N), .fz (.int ((p : Int) ^ N)), .fz (.tup (IL (x))), .fz (.tup (IL (y))), .fz (.int (nb p N (x))), .fz (.int (nb p N (y))), .fz (.tup (IL (rs p (ad p N (x) (y))))), .fz (.tup (IL (rs p (mu p N (x) (y))))), c12, c13, c14, c15, c16, .un, .un, .un, .un]) (ρ2 := [.fz (.lck (IL ns)), .ow false [.int a, .int b], c2, .fz (.int p), .fz (.int N), .fz (.int ((p : Int) ^ N)), .fz (.tup (IL (x))), .fz (.tup (IL (y))), .fz (.int (nb p N (x))), .fz (.int (nb p N (y))), .fz (.tup (IL (rs p (ad p N (x) (y))))), .fz (.tup (IL (rs p (mu p N (x) (y))))), c12, c13, c14, c15, c16, .un, .un, .un, .un]) (vs := [12]) (t := .nm 12) (fi := iSeq (eCall 2 F__law_value [] (aCons (eC (.fn 15)) (aCons (eTup (aCons (eVar 6) (aCons (eVar 7) (aCons (eVar 3) (aNil))))) (aNil))))) (fe := eOp gMod (eU gInt (eVar 12)) (eVar 3)) (L := ad p N (x) (y)) (c := .int) (g := fun z => .int (z % (p : Int))) (by exact v_seqT (v_call0 (v_cons v_c rfl (v_cons (v_tup (v_cons (v_fz rfl) rfl (v_cons (v_fz rfl) rfl (v_cons (v_fz rfl) rfl v_nil))) rfl) rfl v_nil)) rfl vP) rfl) (by rcases h12 with rfl | ⟨d, rfl⟩ <;> rfl) (by omega) rfl (fun z hz => ⟨[.fz (.lck (IL ns)), .ow false [.int a, .int b], c2, .fz (.int p), .fz (.int N), .fz (.int ((p : Int) ^ N)), .fz (.tup (IL (x))), .fz (.tup (IL (y))), .fz (.int (nb p N (x))), .fz (.int (nb p N (y))), .fz (.tup (IL (rs p (ad p N (x) (y))))), .fz (.tup (IL (rs p (mu p N (x) (y))))), .fz (.int z), c13, c14, c15, c16, .un, .un, .un, .un], [.fz (.lck (IL ns)), .ow false [.int a, .int b], c2, .fz (.int p), .fz (.int N), .fz (.int ((p : Int) ^ N)), .fz (.tup (IL (x))), .fz (.tup (IL (y))), .fz (.int (nb p N (x))), .fz (.int (nb p N (y))), .fz (.tup (IL (rs p (ad p N (x) (y))))), .fz (.tup (IL (rs p (mu p N (x) (y))))), .fz (.int z), c13, c14, c15, c16, .un, .un, .un, .un], rfl, by exact v_op (v_u (v_fz rfl) rfl rfl) (v_fz rfl) rfl rfl (gMod_int (by omega)), rfl⟩) rfl
    exact h
  have lc80s : ((ad p N (x) (y)).map fun z => D.int (z % (p : Int))) = IL (rs p (ad p N (x) (y))) := by simp [IL]
  rw [lc80s] at lc80
  have lc81 : eLc [12] (iSeq (eCall 2 F__law_value [] (aCons (eC (.fn 16)) (aCons (eTup (aCons (eVar 6) (aCons (eVar 7) (aCons (eVar 3) aNil)))) aNil)))) (.nm 12) tYesF (eOp gMod (eU gInt (eVar 12)) (eVar 3)) [.fz (.lck (IL ns)), .ow false [.int a, .int b], c2, .fz (.int p), .fz (.int N), .fz (.int ((p : Int) ^ N)), .fz (.tup (IL (x))), .fz (.tup (IL (y))), .fz (.int (nb p N (x))), .fz (.int (nb p N (y))), .fz (.tup (IL (rs p (ad p N (x) (y))))), .fz (.tup (IL (rs p (mu p N (x) (y))))), c12, c13, c14, c15, c16, .un, .un, .un, .un] = .ok (.fr ((mu p N (x) (y)).map fun z => D.int (z % (p : Int))), [.fz (.lck (IL ns)), .ow false [.int a, .int b], c2, .fz (.int p), .fz (.int N), .fz (.int ((p : Int) ^ N)), .fz (.tup (IL (x))), .fz (.tup (IL (y))), .fz (.int (nb p N (x))), .fz (.int (nb p N (y))), .fz (.tup (IL (rs p (ad p N (x) (y))))), .fz (.tup (IL (rs p (mu p N (x) (y))))), c12, c13, c14, c15, c16, .un, .un, .un, .un]) := by
    have h := v_lc (ρ := [.fz (.lck (IL ns)), .ow false [.int a, .int b], c2, .fz (.int p), .fz (.int N), .fz (.int ((p : Int) ^ N)), .fz (.tup (IL (x))), .fz (.tup (IL (y))), .fz (.int (nb p N (x))), .fz (.int (nb p N (y))), .fz (.tup (IL (rs p (ad p N (x) (y))))), .fz (.tup (IL (rs p (mu p N (x) (y))))), c12, c13, c14, c15, c16, .un, .un, .un, .un]) (ρ1 := [.fz (.lck (IL ns)), .ow false [.int a, .int b], c2, .fz (.int p), .fz (.int N), .fz (.int ((p : Int) ^ N)), .fz (.tup (IL (x))), .fz (.tup (IL (y))), .fz (.int (nb p N (x))), .fz (.int (nb p N (y))), .fz (.tup (IL (rs p (ad p N (x) (y))))), .fz (.tup (IL (rs p (mu p N (x) (y))))), c12, c13, c14, c15, c16, .un, .un, .un, .un]) (ρ2 := [.fz (.lck (IL ns)), .ow false [.int a, .int b], c2, .fz (.int p), .fz (.int N), .fz (.int ((p : Int) ^ N)), .fz (.tup (IL (x))), .fz (.tup (IL (y))), .fz (.int (nb p N (x))), .fz (.int (nb p N (y))), .fz (.tup (IL (rs p (ad p N (x) (y))))), .fz (.tup (IL (rs p (mu p N (x) (y))))), c12, c13, c14, c15, c16, .un, .un, .un, .un]) (vs := [12]) (t := .nm 12) (fi := iSeq (eCall 2 F__law_value [] (aCons (eC (.fn 16)) (aCons (eTup (aCons (eVar 6) (aCons (eVar 7) (aCons (eVar 3) (aNil))))) (aNil))))) (fe := eOp gMod (eU gInt (eVar 12)) (eVar 3)) (L := mu p N (x) (y)) (c := .int) (g := fun z => .int (z % (p : Int))) (by exact v_seqT (v_call0 (v_cons v_c rfl (v_cons (v_tup (v_cons (v_fz rfl) rfl (v_cons (v_fz rfl) rfl (v_cons (v_fz rfl) rfl v_nil))) rfl) rfl v_nil)) rfl vT) rfl) (by rcases h12 with rfl | ⟨d, rfl⟩ <;> rfl) (by omega) rfl (fun z hz => ⟨[.fz (.lck (IL ns)), .ow false [.int a, .int b], c2, .fz (.int p), .fz (.int N), .fz (.int ((p : Int) ^ N)), .fz (.tup (IL (x))), .fz (.tup (IL (y))), .fz (.int (nb p N (x))), .fz (.int (nb p N (y))), .fz (.tup (IL (rs p (ad p N (x) (y))))), .fz (.tup (IL (rs p (mu p N (x) (y))))), .fz (.int z), c13, c14, c15, c16, .un, .un, .un, .un], [.fz (.lck (IL ns)), .ow false [.int a, .int b], c2, .fz (.int p), .fz (.int N), .fz (.int ((p : Int) ^ N)), .fz (.tup (IL (x))), .fz (.tup (IL (y))), .fz (.int (nb p N (x))), .fz (.int (nb p N (y))), .fz (.tup (IL (rs p (ad p N (x) (y))))), .fz (.tup (IL (rs p (mu p N (x) (y))))), .fz (.int z), c13, c14, c15, c16, .un, .un, .un, .un], rfl, by exact v_op (v_u (v_fz rfl) rfl rfl) (v_fz rfl) rfl rfl (gMod_int (by omega)), rfl⟩) rfl
    exact h
  have lc81s : ((mu p N (x) (y)).map fun z => D.int (z % (p : Int))) = IL (rs p (mu p N (x) (y))) := by simp [IL]
  rw [lc81s] at lc81
  have v10 := val3 (m := 22) rfl (rests_number_eq (c := c) hs)
  have rD := dg_rw hs c
  have eD := law_number_eq rD.vc
  have nD := dg_nb hs c
  have lD : ((dg p N c N).length : Int) = N := by rw [rD.vc.len]
  have lc11 : eLc [19] (iSeq (eVar 13)) (.nm 19) tYesF (eAndV (eCall 1 F__law_plain [] (aCons (eVar 19) aNil)) (eChain gLe gLt (eC (.int 0)) (eVar 19) (eVar 3))) [.fz (.lck (IL ns)), .ow false [.int a, .int b], c2, .fz (.int p), .fz (.int N), .fz (.int ((p : Int) ^ N)), .fz (.tup (IL (x))), .fz (.tup (IL (y))), .fz (.int (nb p N (x))), .fz (.int (nb p N (y))), .fz (.tup (IL (rs p (ad p N (x) (y))))), .fz (.tup (IL (rs p (mu p N (x) (y))))), .fz (.int c), .fz (.tup (IL (dg p N c N))), c14, c15, c16, .un, .un, .un, .un] = .ok (.fr ((dg p N c N).map fun z => D.bl (decide (0 ≤ z ∧ z < (p : Int)))), [.fz (.lck (IL ns)), .ow false [.int a, .int b], c2, .fz (.int p), .fz (.int N), .fz (.int ((p : Int) ^ N)), .fz (.tup (IL (x))), .fz (.tup (IL (y))), .fz (.int (nb p N (x))), .fz (.int (nb p N (y))), .fz (.tup (IL (rs p (ad p N (x) (y))))), .fz (.tup (IL (rs p (mu p N (x) (y))))), .fz (.int c), .fz (.tup (IL (dg p N c N))), c14, c15, c16, .un, .un, .un, .un]) := by
    have h := v_lc (ρ := [.fz (.lck (IL ns)), .ow false [.int a, .int b], c2, .fz (.int p), .fz (.int N), .fz (.int ((p : Int) ^ N)), .fz (.tup (IL (x))), .fz (.tup (IL (y))), .fz (.int (nb p N (x))), .fz (.int (nb p N (y))), .fz (.tup (IL (rs p (ad p N (x) (y))))), .fz (.tup (IL (rs p (mu p N (x) (y))))), .fz (.int c), .fz (.tup (IL (dg p N c N))), c14, c15, c16, .un, .un, .un, .un]) (ρ1 := [.fz (.lck (IL ns)), .ow false [.int a, .int b], c2, .fz (.int p), .fz (.int N), .fz (.int ((p : Int) ^ N)), .fz (.tup (IL (x))), .fz (.tup (IL (y))), .fz (.int (nb p N (x))), .fz (.int (nb p N (y))), .fz (.tup (IL (rs p (ad p N (x) (y))))), .fz (.tup (IL (rs p (mu p N (x) (y))))), .fz (.int c), .fz (.tup (IL (dg p N c N))), c14, c15, c16, .un, .un, .un, .un]) (ρ2 := [.fz (.lck (IL ns)), .ow false [.int a, .int b], c2, .fz (.int p), .fz (.int N), .fz (.int ((p : Int) ^ N)), .fz (.tup (IL (x))), .fz (.tup (IL (y))), .fz (.int (nb p N (x))), .fz (.int (nb p N (y))), .fz (.tup (IL (rs p (ad p N (x) (y))))), .fz (.tup (IL (rs p (mu p N (x) (y))))), .fz (.int c), .fz (.tup (IL (dg p N c N))), c14, c15, c16, .un, .un, .un, .un]) (vs := [19]) (t := .nm 19) (fi := iSeq (eVar 13)) (fe := eAndV (eCall 1 F__law_plain [] (aCons (eVar 19) (aNil))) (eChain gLe gLt (eC (.int 0)) (eVar 19) (eVar 3))) (L := dg p N c N) (c := .int) (g := fun z => .bl (decide (0 ≤ z ∧ z < (p : Int)))) (by exact v_seqT (v_fz rfl) rfl) rfl (by rw [rD.vc.len]; omega) rfl (fun z hz => ⟨[.fz (.lck (IL ns)), .ow false [.int a, .int b], c2, .fz (.int p), .fz (.int N), .fz (.int ((p : Int) ^ N)), .fz (.tup (IL (x))), .fz (.tup (IL (y))), .fz (.int (nb p N (x))), .fz (.int (nb p N (y))), .fz (.tup (IL (rs p (ad p N (x) (y))))), .fz (.tup (IL (rs p (mu p N (x) (y))))), .fz (.int c), .fz (.tup (IL (dg p N c N))), c14, c15, c16, .un, .un, .fz (.int z), .un], [.fz (.lck (IL ns)), .ow false [.int a, .int b], c2, .fz (.int p), .fz (.int N), .fz (.int ((p : Int) ^ N)), .fz (.tup (IL (x))), .fz (.tup (IL (y))), .fz (.int (nb p N (x))), .fz (.int (nb p N (y))), .fz (.tup (IL (rs p (ad p N (x) (y))))), .fz (.tup (IL (rs p (mu p N (x) (y))))), .fz (.int c), .fz (.tup (IL (dg p N c N))), c14, c15, c16, .un, .un, .fz (.int z), .un], rfl, by exact v_andT (v_call0 (v_cons (v_fz rfl) rfl v_nil) rfl (plain_eq _)) (v_ch01 v_c (v_fz rfl) (v_fz rfl)), rfl⟩) rfl
    exact h
  have all11 : gAll (.lst ((dg p N c N).map fun z => D.bl (decide (0 ≤ z ∧ z < (p : Int))))) = some (.fz (.bl true)) := by
    rw [all_map, List.all_eq_true.2]
    intro z hz
    exact decide_eq_true (rD.dg z hz)
  have lw := hw.len
  have k17 := tells_eq (m := 17) (told2 rfl (rests_of_eq hw)) (same_T _ (by simp; omega))
  have lc13 : eLc [19] (iSeq (eVar 14)) (.nm 19) tYesF (eOp gMod (eU gInt (eVar 19)) (eVar 3)) [.fz (.lck (IL ns)), .ow false [.int a, .int b], c2, .fz (.int p), .fz (.int N), .fz (.int ((p : Int) ^ N)), .fz (.tup (IL (x))), .fz (.tup (IL (y))), .fz (.int (nb p N (x))), .fz (.int (nb p N (y))), .fz (.tup (IL (rs p (ad p N (x) (y))))), .fz (.tup (IL (rs p (mu p N (x) (y))))), .fz (.int c), .fz (.tup (IL (dg p N c N))), .fz (.tup (IL (w))), c15, c16, .un, .un, .un, .un] = .ok (.fr ((w).map fun z => D.int (z % (p : Int))), [.fz (.lck (IL ns)), .ow false [.int a, .int b], c2, .fz (.int p), .fz (.int N), .fz (.int ((p : Int) ^ N)), .fz (.tup (IL (x))), .fz (.tup (IL (y))), .fz (.int (nb p N (x))), .fz (.int (nb p N (y))), .fz (.tup (IL (rs p (ad p N (x) (y))))), .fz (.tup (IL (rs p (mu p N (x) (y))))), .fz (.int c), .fz (.tup (IL (dg p N c N))), .fz (.tup (IL (w))), c15, c16, .un, .un, .un, .un]) := by
    have h := v_lc (ρ := [.fz (.lck (IL ns)), .ow false [.int a, .int b], c2, .fz (.int p), .fz (.int N), .fz (.int ((p : Int) ^ N)), .fz (.tup (IL (x))), .fz (.tup (IL (y))), .fz (.int (nb p N (x))), .fz (.int (nb p N (y))), .fz (.tup (IL (rs p (ad p N (x) (y))))), .fz (.tup (IL (rs p (mu p N (x) (y))))), .fz (.int c), .fz (.tup (IL (dg p N c N))), .fz (.tup (IL (w))), c15, c16, .un, .un, .un, .un]) (ρ1 := [.fz (.lck (IL ns)), .ow false [.int a, .int b], c2, .fz (.int p), .fz (.int N), .fz (.int ((p : Int) ^ N)), .fz (.tup (IL (x))), .fz (.tup (IL (y))), .fz (.int (nb p N (x))), .fz (.int (nb p N (y))), .fz (.tup (IL (rs p (ad p N (x) (y))))), .fz (.tup (IL (rs p (mu p N (x) (y))))), .fz (.int c), .fz (.tup (IL (dg p N c N))), .fz (.tup (IL (w))), c15, c16, .un, .un, .un, .un]) (ρ2 := [.fz (.lck (IL ns)), .ow false [.int a, .int b], c2, .fz (.int p), .fz (.int N), .fz (.int ((p : Int) ^ N)), .fz (.tup (IL (x))), .fz (.tup (IL (y))), .fz (.int (nb p N (x))), .fz (.int (nb p N (y))), .fz (.tup (IL (rs p (ad p N (x) (y))))), .fz (.tup (IL (rs p (mu p N (x) (y))))), .fz (.int c), .fz (.tup (IL (dg p N c N))), .fz (.tup (IL (w))), c15, c16, .un, .un, .un, .un]) (vs := [19]) (t := .nm 19) (fi := iSeq (eVar 14)) (fe := eOp gMod (eU gInt (eVar 19)) (eVar 3)) (L := w) (c := .int) (g := fun z => .int (z % (p : Int))) (by exact v_seqT (v_fz rfl) rfl) rfl (by omega) rfl (fun z hz => ⟨[.fz (.lck (IL ns)), .ow false [.int a, .int b], c2, .fz (.int p), .fz (.int N), .fz (.int ((p : Int) ^ N)), .fz (.tup (IL (x))), .fz (.tup (IL (y))), .fz (.int (nb p N (x))), .fz (.int (nb p N (y))), .fz (.tup (IL (rs p (ad p N (x) (y))))), .fz (.tup (IL (rs p (mu p N (x) (y))))), .fz (.int c), .fz (.tup (IL (dg p N c N))), .fz (.tup (IL (w))), c15, c16, .un, .un, .fz (.int z), .un], [.fz (.lck (IL ns)), .ow false [.int a, .int b], c2, .fz (.int p), .fz (.int N), .fz (.int ((p : Int) ^ N)), .fz (.tup (IL (x))), .fz (.tup (IL (y))), .fz (.int (nb p N (x))), .fz (.int (nb p N (y))), .fz (.tup (IL (rs p (ad p N (x) (y))))), .fz (.tup (IL (rs p (mu p N (x) (y))))), .fz (.int c), .fz (.tup (IL (dg p N c N))), .fz (.tup (IL (w))), c15, c16, .un, .un, .fz (.int z), .un], rfl, by exact v_op (v_u (v_fz rfl) rfl rfl) (v_fz rfl) rfl rfl (gMod_int (by omega)), rfl⟩) rfl
    exact h
  have lc13s : ((w).map fun z => D.int (z % (p : Int))) = IL (rs p (w)) := by simp [IL]
  rw [lc13s] at lc13
  have eW := words_eq hs
  have hk3 : (kk N : Nat) ≤ 3 := Nat.min_le_right _ _
  have eR := raised_eq (a := (p : Int)) (k := kk N) rfl hs.p1 (by omega)
  have nW : ((srtI ((wl p (kk N)).map (nb p (kk N)))).length : Int) = (p : Int) ^ kk N := by rw [(words_num hs).1]; simp
  have lc14 : eLc [20] (iSeq (eCall 1 F__law_words [] (aCons (eOp gMul2 (eLst (aCons (eVar 3) aNil)) (eOp gMin (eVar 4) (eC (.int 3)))) aNil))) (.nm 20) tYesF (eCall 2 F__law_number [] (aCons (eVar 20) (aCons (eVar 3) aNil))) [.fz (.lck (IL ns)), .ow false [.int a, .int b], c2, .fz (.int p), .fz (.int N), .fz (.int ((p : Int) ^ N)), .fz (.tup (IL (x))), .fz (.tup (IL (y))), .fz (.int (nb p N (x))), .fz (.int (nb p N (y))), .fz (.tup (IL (rs p (ad p N (x) (y))))), .fz (.tup (IL (rs p (mu p N (x) (y))))), .fz (.int c), .fz (.tup (IL (dg p N c N))), .fz (.tup (IL (w))), c15, c16, .un, .un, .un, .un] = .ok (.fr ((wl p (kk N)).map fun z => D.int (nb p (kk N) z)), [.fz (.lck (IL ns)), .ow false [.int a, .int b], c2, .fz (.int p), .fz (.int N), .fz (.int ((p : Int) ^ N)), .fz (.tup (IL (x))), .fz (.tup (IL (y))), .fz (.int (nb p N (x))), .fz (.int (nb p N (y))), .fz (.tup (IL (rs p (ad p N (x) (y))))), .fz (.tup (IL (rs p (mu p N (x) (y))))), .fz (.int c), .fz (.tup (IL (dg p N c N))), .fz (.tup (IL (w))), c15, c16, .un, .un, .un, .un]) := by
    have h := v_lc (ρ := [.fz (.lck (IL ns)), .ow false [.int a, .int b], c2, .fz (.int p), .fz (.int N), .fz (.int ((p : Int) ^ N)), .fz (.tup (IL (x))), .fz (.tup (IL (y))), .fz (.int (nb p N (x))), .fz (.int (nb p N (y))), .fz (.tup (IL (rs p (ad p N (x) (y))))), .fz (.tup (IL (rs p (mu p N (x) (y))))), .fz (.int c), .fz (.tup (IL (dg p N c N))), .fz (.tup (IL (w))), c15, c16, .un, .un, .un, .un]) (ρ1 := [.fz (.lck (IL ns)), .ow false [.int a, .int b], c2, .fz (.int p), .fz (.int N), .fz (.int ((p : Int) ^ N)), .fz (.tup (IL (x))), .fz (.tup (IL (y))), .fz (.int (nb p N (x))), .fz (.int (nb p N (y))), .fz (.tup (IL (rs p (ad p N (x) (y))))), .fz (.tup (IL (rs p (mu p N (x) (y))))), .fz (.int c), .fz (.tup (IL (dg p N c N))), .fz (.tup (IL (w))), c15, c16, .un, .un, .un, .un]) (ρ2 := [.fz (.lck (IL ns)), .ow false [.int a, .int b], c2, .fz (.int p), .fz (.int N), .fz (.int ((p : Int) ^ N)), .fz (.tup (IL (x))), .fz (.tup (IL (y))), .fz (.int (nb p N (x))), .fz (.int (nb p N (y))), .fz (.tup (IL (rs p (ad p N (x) (y))))), .fz (.tup (IL (rs p (mu p N (x) (y))))), .fz (.int c), .fz (.tup (IL (dg p N c N))), .fz (.tup (IL (w))), c15, c16, .un, .un, .un, .un]) (vs := [20]) (t := .nm 20) (fi := iSeq (eCall 1 F__law_words [] (aCons (eOp gMul2 (eLst (aCons (eVar 3) (aNil))) (eOp gMin (eVar 4) (eC (.int 3)))) (aNil)))) (fe := eCall 2 F__law_number [] (aCons (eVar 20) (aCons (eVar 3) (aNil)))) (L := wl p (kk N)) (c := fun z => .tup (IL z)) (g := fun z => .int (nb p (kk N) z)) (by exact v_seqL (v_call0 (v_cons (v_op (v_lst (v_cons (v_fz rfl) rfl v_nil) rfl) (v_op (v_fz rfl) v_c rfl rfl (min_eq' hs)) rfl rfl (mul_kk hs)) rfl v_nil) rfl eW) rfl) rfl (by have := (words_num hs).2; omega) rfl (fun z hz => ⟨[.fz (.lck (IL ns)), .ow false [.int a, .int b], c2, .fz (.int p), .fz (.int N), .fz (.int ((p : Int) ^ N)), .fz (.tup (IL (x))), .fz (.tup (IL (y))), .fz (.int (nb p N (x))), .fz (.int (nb p N (y))), .fz (.tup (IL (rs p (ad p N (x) (y))))), .fz (.tup (IL (rs p (mu p N (x) (y))))), .fz (.int c), .fz (.tup (IL (dg p N c N))), .fz (.tup (IL (w))), c15, c16, .un, .un, .un, .fz (.tup (IL z))], [.fz (.lck (IL ns)), .ow false [.int a, .int b], c2, .fz (.int p), .fz (.int N), .fz (.int ((p : Int) ^ N)), .fz (.tup (IL (x))), .fz (.tup (IL (y))), .fz (.int (nb p N (x))), .fz (.int (nb p N (y))), .fz (.tup (IL (rs p (ad p N (x) (y))))), .fz (.tup (IL (rs p (mu p N (x) (y))))), .fz (.int c), .fz (.tup (IL (dg p N c N))), .fz (.tup (IL (w))), c15, c16, .un, .un, .un, .fz (.tup (IL z))], rfl, by exact v_call0 (v_cons (v_fz rfl) rfl (v_cons (v_fz rfl) rfl v_nil)) rfl (law_number_eq (words_vc hs hz)), rfl⟩) rfl
    exact h
  exact (v_sifF (v_t (v_op (v_u (v_u lc14 rfl (srt_eq' hs)) rfl (len_ILl _)) (v_call0 (v_cons (v_fz rfl) rfl (v_cons (v_op (v_fz rfl) v_c rfl rfl (min_eq' hs)) rfl v_nil)) rfl eR) rfl rfl (ne_i nW))) rfl)
theorem t15 {p N : Nat} {x y : List Int} {ns : List Int} {a b : Int} {c2 c3 c4 c5 c6 c7 c8 c9 c10 c11 c12 c13 c14 c15 c16 : Cell} {c : Int} {w : List Int} (hx : Rw p N x) (hy : Rw p N y) (hw : Vc p N w) (h6 : PL c6) (h7 : PL c7) (h8 : PL c8) (h9 : PL c9) (h10 : PL c10) (h11 : PL c11) (h13 : PL c13) (h14 : PL c14) (h15 : PL c15) (h16 : PL c16) (h12 : c12 = .un ∨ ∃ d, c12 = .fz d): S15 [.fz (.lck (IL ns)), .ow false [.int a, .int b], c2, .fz (.int p), .fz (.int N), .fz (.int ((p : Int) ^ N)), .fz (.tup (IL (x))), .fz (.tup (IL (y))), .fz (.int (nb p N (x))), .fz (.int (nb p N (y))), .fz (.tup (IL (rs p (ad p N (x) (y))))), .fz (.tup (IL (rs p (mu p N (x) (y))))), .fz (.int c), .fz (.tup (IL (dg p N c N))), .fz (.tup (IL (w))), c15, c16, .un, .un, .un, .un] = .ok (.nx, [.fz (.lck (IL ns)), .ow false [.int a, .int b], c2, .fz (.int p), .fz (.int N), .fz (.int ((p : Int) ^ N)), .fz (.tup (IL (x))), .fz (.tup (IL (y))), .fz (.int (nb p N (x))), .fz (.int (nb p N (y))), .fz (.tup (IL (rs p (ad p N (x) (y))))), .fz (.tup (IL (rs p (mu p N (x) (y))))), .fz (.int c), .fz (.tup (IL (dg p N c N))), .fz (.tup (IL (w))), .ow false ([.non, .int 0, .lst ((IL (x))), .tup [], .tup (IL ((p : Int) :: x.tail)), .tup (IL (-1 :: x.tail)), .tup (.bl true :: IL (x.tail)), .tup [.str "0"]]), c16, .un, .un, .un, .un]) := by
  have hs := hx.vc.sz
  have n3 := hs.n3
  have hp5 := hs.p5
  have lx := hx.vc.len
  have pN := hs.pN
  have lw := hw.len
  have lt : x.tail.length ≤ 50 := by simp; omega
  exact (v_set (v_lst (v_cons v_c rfl (v_cons v_c rfl (v_cons (v_u (v_fz rfl) rfl rfl) rfl (v_cons (v_tup v_nil rfl) rfl (v_cons (v_op (v_tup (v_cons (v_fz rfl) rfl v_nil) rfl) (v_sl (v_fz rfl) (v_oS (i := 1) v_c) v_oN rfl (sl_tail x)) rfl rfl (add_tt (xs := [(p : Int)]) (by simp; omega))) rfl (v_cons (v_op (v_tup (v_cons (v_u v_c rfl rfl) rfl v_nil) rfl) (v_sl (v_fz rfl) (v_oS (i := 1) v_c) v_oN rfl (sl_tail x)) rfl rfl (add_tt (xs := [-1]) (by simp; omega))) rfl (v_cons (v_op (v_tup (v_cons v_c rfl v_nil) rfl) (v_sl (v_fz rfl) (v_oS (i := 1) v_c) v_oN rfl (sl_tail x)) rfl rfl (add_bt lt)) rfl (v_cons (v_tup (v_cons v_c rfl v_nil) rfl) rfl v_nil)))))))) rfl) (set_fr rfl h15 rfl))
theorem t16 {p N : Nat} {x y : List Int} {ns : List Int} {a b : Int} {c2 c3 c4 c5 c6 c7 c8 c9 c10 c11 c12 c13 c14 c15 c16 : Cell} {c : Int} {w : List Int} (hx : Rw p N x) (hy : Rw p N y) (hw : Vc p N w) (h6 : PL c6) (h7 : PL c7) (h8 : PL c8) (h9 : PL c9) (h10 : PL c10) (h11 : PL c11) (h13 : PL c13) (h14 : PL c14) (h15 : PL c15) (h16 : PL c16) (h12 : c12 = .un ∨ ∃ d, c12 = .fz d): S16 [.fz (.lck (IL ns)), .ow false [.int a, .int b], c2, .fz (.int p), .fz (.int N), .fz (.int ((p : Int) ^ N)), .fz (.tup (IL (x))), .fz (.tup (IL (y))), .fz (.int (nb p N (x))), .fz (.int (nb p N (y))), .fz (.tup (IL (rs p (ad p N (x) (y))))), .fz (.tup (IL (rs p (mu p N (x) (y))))), .fz (.int c), .fz (.tup (IL (dg p N c N))), .fz (.tup (IL (w))), .ow false ([.non, .int 0, .lst ((IL (x))), .tup [], .tup (IL ((p : Int) :: x.tail)), .tup (IL (-1 :: x.tail)), .tup (.bl true :: IL (x.tail)), .tup [.str "0"]]), c16, .un, .un, .un, .un] = .ok (.nx, [.fz (.lck (IL ns)), .ow false [.int a, .int b], c2, .fz (.int p), .fz (.int N), .fz (.int ((p : Int) ^ N)), .fz (.tup (IL (x))), .fz (.tup (IL (y))), .fz (.int (nb p N (x))), .fz (.int (nb p N (y))), .fz (.tup (IL (rs p (ad p N (x) (y))))), .fz (.tup (IL (rs p (mu p N (x) (y))))), .fz (.int c), .fz (.tup (IL (dg p N c N))), .fz (.tup (IL (w))), .fz (.lst ([.non, .int 0, .lst ((IL (x))), .tup [], .tup (IL ((p : Int) :: x.tail)), .tup (IL (-1 :: x.tail)), .tup (.bl true :: IL (x.tail)), .tup [.str "0"]])), .fz (.fn 19), .un, .un, .un, .un]) := by
  have hs := hx.vc.sz
  have n3 := hs.n3
  have hp5 := hs.p5
  have lx := hx.vc.len
  have pN := hs.pN
  have lw := hw.len
  have lt : x.tail.length ≤ 50 := by simp; omega
  have w9 : ∀ d, d ∈ ([.non, .int 0, .lst ((IL (x))), .tup [], .tup (IL ((p : Int) :: x.tail)), .tup (IL (-1 :: x.tail)), .tup (.bl true :: IL (x.tail)), .tup [.str "0"], .tup (IL (x ++ [0]))] : List D) → F_check_rests [d, .tup (IL (y)), .int p] = .exc .mal := fun d hd => by
    have hd2 : d ∈ wr8 p x ++ [.tup (IL (x ++ [0]))] := hd
    rcases List.mem_append.1 hd2 with h | h
    · exact wr_one hx hy d h
    · rw [List.mem_singleton.1 h]; exact wr_long hx hy
  have w8 := wr_two hx
  have w8b := wr_both hx
  have kb10 : F__law_bads [.fn 18, .tup [.tup (IL (x)), .tup (IL (y)), .int p], .int 0, .lst ([.non, .int 0, .lst ((IL (x))), .tup [], .tup (IL ((p : Int) :: x.tail)), .tup (IL (-1 :: x.tail)), .tup (.bl true :: IL (x.tail)), .tup [.str "0"], .tup (IL (x ++ [0]))])] = .ok (.fz (.bl true)) := bads_eq (n := 0) rfl (fun d hd => told3x rfl (rplus_bad (w9 d hd)))
  have w218 : ∀ d, d ∈ ([.non, .int 0, .lst ((IL (x))), .tup [], .tup (IL ((p : Int) :: x.tail)), .tup (IL (-1 :: x.tail)), .tup (.bl true :: IL (x.tail)), .tup [.str "0"]] : List D) → F_check_rests [.tup (IL (x)), d, .int p] = .exc .mal := fun d hd => w8 d hd
  have kb12 : F__law_bads [.fn 18, .tup [.tup (IL (x)), .tup (IL (y)), .int p], .int 1, .lst ([.non, .int 0, .lst ((IL (x))), .tup [], .tup (IL ((p : Int) :: x.tail)), .tup (IL (-1 :: x.tail)), .tup (.bl true :: IL (x.tail)), .tup [.str "0"]])] = .ok (.fz (.bl true)) := bads_eq (n := 1) rfl (fun d hd => told3x rfl (rplus_bad (w218 d hd)))
  have kb13 : F__law_bads [.fn 18, .tup [.tup (IL (x)), .tup (IL (y)), .int p], .int 2, .lst ([.non, .int 4, .int 17, .bl true])] = .ok (.fz (.bl true)) := bads_eq (n := 2) rfl (fun d hd => told3x rfl (rplus_bad (rests_bad (two_badp (chk_badp _ d hd)))))
  have kb14 : F__law_bads [.fn 19, .tup [.tup (IL (x)), .tup (IL (y)), .int p], .int 0, .lst ([.non, .int 0, .lst ((IL (x))), .tup [], .tup (IL ((p : Int) :: x.tail)), .tup (IL (-1 :: x.tail)), .tup (.bl true :: IL (x.tail)), .tup [.str "0"], .tup (IL (x ++ [0]))])] = .ok (.fz (.bl true)) := bads_eq (n := 0) rfl (fun d hd => told3x rfl (rtimes_bad (w9 d hd)))
  have w219 : ∀ d, d ∈ ([.non, .int 0, .lst ((IL (x))), .tup [], .tup (IL ((p : Int) :: x.tail)), .tup (IL (-1 :: x.tail)), .tup (.bl true :: IL (x.tail)), .tup [.str "0"]] : List D) → F_check_rests [.tup (IL (x)), d, .int p] = .exc .mal := fun d hd => w8 d hd
  have kb16 : F__law_bads [.fn 19, .tup [.tup (IL (x)), .tup (IL (y)), .int p], .int 1, .lst ([.non, .int 0, .lst ((IL (x))), .tup [], .tup (IL ((p : Int) :: x.tail)), .tup (IL (-1 :: x.tail)), .tup (.bl true :: IL (x.tail)), .tup [.str "0"]])] = .ok (.fz (.bl true)) := bads_eq (n := 1) rfl (fun d hd => told3x rfl (rtimes_bad (w219 d hd)))
  have kb17 : F__law_bads [.fn 19, .tup [.tup (IL (x)), .tup (IL (y)), .int p], .int 2, .lst ([.non, .int 4, .int 17, .bl true])] = .ok (.fz (.bl true)) := bads_eq (n := 2) rfl (fun d hd => told3x rfl (rtimes_bad (rests_bad (two_badp (chk_badp _ d hd)))))
  exact v_for (v_seqT (v_tup (v_cons v_c rfl (v_cons v_c rfl v_nil)) rfl) rfl) (forGo_nx (ρ1 := [.fz (.lck (IL ns)), .ow false [.int a, .int b], c2, .fz (.int p), .fz (.int N), .fz (.int ((p : Int) ^ N)), .fz (.tup (IL (x))), .fz (.tup (IL (y))), .fz (.int (nb p N (x))), .fz (.int (nb p N (y))), .fz (.tup (IL (rs p (ad p N (x) (y))))), .fz (.tup (IL (rs p (mu p N (x) (y))))), .fz (.int c), .fz (.tup (IL (dg p N c N))), .fz (.tup (IL (w))), .ow false ([.non, .int 0, .lst ((IL (x))), .tup [], .tup (IL ((p : Int) :: x.tail)), .tup (IL (-1 :: x.tail)), .tup (.bl true :: IL (x.tail)), .tup [.str "0"]]), .fz (.fn 18), .un, .un, .un, .un]) (ρ2 := [.fz (.lck (IL ns)), .ow false [.int a, .int b], c2, .fz (.int p), .fz (.int N), .fz (.int ((p : Int) ^ N)), .fz (.tup (IL (x))), .fz (.tup (IL (y))), .fz (.int (nb p N (x))), .fz (.int (nb p N (y))), .fz (.tup (IL (rs p (ad p N (x) (y))))), .fz (.tup (IL (rs p (mu p N (x) (y))))), .fz (.int c), .fz (.tup (IL (dg p N c N))), .fz (.tup (IL (w))), .fz (.lst ([.non, .int 0, .lst ((IL (x))), .tup [], .tup (IL ((p : Int) :: x.tail)), .tup (IL (-1 :: x.tail)), .tup (.bl true :: IL (x.tail)), .tup [.str "0"]])), .fz (.fn 18), .un, .un, .un, .un]) (set_R rfl h16 rfl) (v_sifF (v_orF (v_not (v_t (v_call0 (v_cons (v_fz rfl) rfl (v_cons (v_tup (v_cons (v_fz rfl) rfl (v_cons (v_fz rfl) rfl (v_cons (v_fz rfl) rfl v_nil))) rfl) rfl (v_cons v_c rfl (v_cons (v_op (v_ow rfl) (v_lst (v_cons (v_op (v_fz rfl) (v_tup (v_cons v_c rfl v_nil) rfl) rfl rfl (add_t0 (by omega))) rfl v_nil) rfl) rfl rfl rfl) rfl v_nil)))) rfl kb10))) (v_orF (v_not (v_t (v_call0 (v_cons (v_fz rfl) rfl (v_cons (v_tup (v_cons (v_fz rfl) rfl (v_cons (v_fz rfl) rfl (v_cons (v_fz rfl) rfl v_nil))) rfl) rfl (v_cons v_c rfl (v_cons (v_ow rfl) rfl v_nil)))) rfl kb12))) (v_not (v_t (v_call0 (v_cons (v_fz rfl) rfl (v_cons (v_tup (v_cons (v_fz rfl) rfl (v_cons (v_fz rfl) rfl (v_cons (v_fz rfl) rfl v_nil))) rfl) rfl (v_cons v_c rfl (v_cons (v_lst (v_cons v_c rfl (v_cons v_c rfl (v_cons v_c rfl (v_cons v_c rfl v_nil)))) rfl) rfl v_nil)))) rfl kb13))))) rfl) (forGo_nx (ρ1 := [.fz (.lck (IL ns)), .ow false [.int a, .int b], c2, .fz (.int p), .fz (.int N), .fz (.int ((p : Int) ^ N)), .fz (.tup (IL (x))), .fz (.tup (IL (y))), .fz (.int (nb p N (x))), .fz (.int (nb p N (y))), .fz (.tup (IL (rs p (ad p N (x) (y))))), .fz (.tup (IL (rs p (mu p N (x) (y))))), .fz (.int c), .fz (.tup (IL (dg p N c N))), .fz (.tup (IL (w))), .fz (.lst ([.non, .int 0, .lst ((IL (x))), .tup [], .tup (IL ((p : Int) :: x.tail)), .tup (IL (-1 :: x.tail)), .tup (.bl true :: IL (x.tail)), .tup [.str "0"]])), .fz (.fn 19), .un, .un, .un, .un]) (ρ2 := [.fz (.lck (IL ns)), .ow false [.int a, .int b], c2, .fz (.int p), .fz (.int N), .fz (.int ((p : Int) ^ N)), .fz (.tup (IL (x))), .fz (.tup (IL (y))), .fz (.int (nb p N (x))), .fz (.int (nb p N (y))), .fz (.tup (IL (rs p (ad p N (x) (y))))), .fz (.tup (IL (rs p (mu p N (x) (y))))), .fz (.int c), .fz (.tup (IL (dg p N c N))), .fz (.tup (IL (w))), .fz (.lst ([.non, .int 0, .lst ((IL (x))), .tup [], .tup (IL ((p : Int) :: x.tail)), .tup (IL (-1 :: x.tail)), .tup (.bl true :: IL (x.tail)), .tup [.str "0"]])), .fz (.fn 19), .un, .un, .un, .un]) rfl (v_sifF (v_orF (v_not (v_t (v_call0 (v_cons (v_fz rfl) rfl (v_cons (v_tup (v_cons (v_fz rfl) rfl (v_cons (v_fz rfl) rfl (v_cons (v_fz rfl) rfl v_nil))) rfl) rfl (v_cons v_c rfl (v_cons (v_op (v_fz rfl) (v_lst (v_cons (v_op (v_fz rfl) (v_tup (v_cons v_c rfl v_nil) rfl) rfl rfl (add_t0 (by omega))) rfl v_nil) rfl) rfl rfl rfl) rfl v_nil)))) rfl kb14))) (v_orF (v_not (v_t (v_call0 (v_cons (v_fz rfl) rfl (v_cons (v_tup (v_cons (v_fz rfl) rfl (v_cons (v_fz rfl) rfl (v_cons (v_fz rfl) rfl v_nil))) rfl) rfl (v_cons v_c rfl (v_cons (v_fz rfl) rfl v_nil)))) rfl kb16))) (v_not (v_t (v_call0 (v_cons (v_fz rfl) rfl (v_cons (v_tup (v_cons (v_fz rfl) rfl (v_cons (v_fz rfl) rfl (v_cons (v_fz rfl) rfl v_nil))) rfl) rfl (v_cons v_c rfl (v_cons (v_lst (v_cons v_c rfl (v_cons v_c rfl (v_cons v_c rfl (v_cons v_c rfl v_nil)))) rfl) rfl v_nil)))) rfl kb17))))) rfl) rfl))
theorem t17 {p N : Nat} {x y : List Int} {ns : List Int} {a b : Int} {c2 c3 c4 c5 c6 c7 c8 c9 c10 c11 c12 c13 c14 c15 c16 : Cell} {c : Int} {w : List Int} (hx : Rw p N x) (hy : Rw p N y) (hw : Vc p N w) (h6 : PL c6) (h7 : PL c7) (h8 : PL c8) (h9 : PL c9) (h10 : PL c10) (h11 : PL c11) (h13 : PL c13) (h14 : PL c14) (h15 : PL c15) (h16 : PL c16) (h12 : c12 = .un ∨ ∃ d, c12 = .fz d): S17 [.fz (.lck (IL ns)), .ow false [.int a, .int b], c2, .fz (.int p), .fz (.int N), .fz (.int ((p : Int) ^ N)), .fz (.tup (IL (x))), .fz (.tup (IL (y))), .fz (.int (nb p N (x))), .fz (.int (nb p N (y))), .fz (.tup (IL (rs p (ad p N (x) (y))))), .fz (.tup (IL (rs p (mu p N (x) (y))))), .fz (.int c), .fz (.tup (IL (dg p N c N))), .fz (.tup (IL (w))), .fz (.lst ([.non, .int 0, .lst ((IL (x))), .tup [], .tup (IL ((p : Int) :: x.tail)), .tup (IL (-1 :: x.tail)), .tup (.bl true :: IL (x.tail)), .tup [.str "0"]])), .fz (.fn 19), .un, .un, .un, .un] = .ok (.nx, [.fz (.lck (IL ns)), .ow false [.int a, .int b], c2, .fz (.int p), .fz (.int N), .fz (.int ((p : Int) ^ N)), .fz (.tup (IL (x))), .fz (.tup (IL (y))), .fz (.int (nb p N (x))), .fz (.int (nb p N (y))), .fz (.tup (IL (rs p (ad p N (x) (y))))), .fz (.tup (IL (rs p (mu p N (x) (y))))), .fz (.int c), .fz (.tup (IL (dg p N c N))), .fz (.tup (IL (w))), .fz (.lst ([.non, .int 0, .lst ((IL (x))), .tup [], .tup (IL ((p : Int) :: x.tail)), .tup (IL (-1 :: x.tail)), .tup (.bl true :: IL (x.tail)), .tup [.str "0"]])), .fz (.fn 19), .un, .un, .un, .un]) := by
  have hs := hx.vc.sz
  have n3 := hs.n3
  have hp5 := hs.p5
  have lx := hx.vc.len
  have pN := hs.pN
  have lw := hw.len
  have lt : x.tail.length ≤ 50 := by simp; omega
  have w9 : ∀ d, d ∈ ([.non, .int 0, .lst ((IL (x))), .tup [], .tup (IL ((p : Int) :: x.tail)), .tup (IL (-1 :: x.tail)), .tup (.bl true :: IL (x.tail)), .tup [.str "0"], .tup (IL (x ++ [0]))] : List D) → F_check_rests [d, .tup (IL (y)), .int p] = .exc .mal := fun d hd => by
    have hd2 : d ∈ wr8 p x ++ [.tup (IL (x ++ [0]))] := hd
    rcases List.mem_append.1 hd2 with h | h
    · exact wr_one hx hy d h
    · rw [List.mem_singleton.1 h]; exact wr_long hx hy
  have w8 := wr_two hx
  have w8b := wr_both hx
  have kb10 : F__law_bads [.fn 18, .tup [.tup (IL (x)), .tup (IL (y)), .int p], .int 0, .lst ([.non, .int 0, .lst ((IL (x))), .tup [], .tup (IL ((p : Int) :: x.tail)), .tup (IL (-1 :: x.tail)), .tup (.bl true :: IL (x.tail)), .tup [.str "0"], .tup (IL (x ++ [0]))])] = .ok (.fz (.bl true)) := bads_eq (n := 0) rfl (fun d hd => told3x rfl (rplus_bad (w9 d hd)))
  have w218 : ∀ d, d ∈ ([.non, .int 0, .lst ((IL (x))), .tup [], .tup (IL ((p : Int) :: x.tail)), .tup (IL (-1 :: x.tail)), .tup (.bl true :: IL (x.tail)), .tup [.str "0"]] : List D) → F_check_rests [.tup (IL (x)), d, .int p] = .exc .mal := fun d hd => w8 d hd
  have kb12 : F__law_bads [.fn 18, .tup [.tup (IL (x)), .tup (IL (y)), .int p], .int 1, .lst ([.non, .int 0, .lst ((IL (x))), .tup [], .tup (IL ((p : Int) :: x.tail)), .tup (IL (-1 :: x.tail)), .tup (.bl true :: IL (x.tail)), .tup [.str "0"]])] = .ok (.fz (.bl true)) := bads_eq (n := 1) rfl (fun d hd => told3x rfl (rplus_bad (w218 d hd)))
  have kb13 : F__law_bads [.fn 18, .tup [.tup (IL (x)), .tup (IL (y)), .int p], .int 2, .lst ([.non, .int 4, .int 17, .bl true])] = .ok (.fz (.bl true)) := bads_eq (n := 2) rfl (fun d hd => told3x rfl (rplus_bad (rests_bad (two_badp (chk_badp _ d hd)))))
  have kb14 : F__law_bads [.fn 19, .tup [.tup (IL (x)), .tup (IL (y)), .int p], .int 0, .lst ([.non, .int 0, .lst ((IL (x))), .tup [], .tup (IL ((p : Int) :: x.tail)), .tup (IL (-1 :: x.tail)), .tup (.bl true :: IL (x.tail)), .tup [.str "0"], .tup (IL (x ++ [0]))])] = .ok (.fz (.bl true)) := bads_eq (n := 0) rfl (fun d hd => told3x rfl (rtimes_bad (w9 d hd)))
  have w219 : ∀ d, d ∈ ([.non, .int 0, .lst ((IL (x))), .tup [], .tup (IL ((p : Int) :: x.tail)), .tup (IL (-1 :: x.tail)), .tup (.bl true :: IL (x.tail)), .tup [.str "0"]] : List D) → F_check_rests [.tup (IL (x)), d, .int p] = .exc .mal := fun d hd => w8 d hd
  have kb16 : F__law_bads [.fn 19, .tup [.tup (IL (x)), .tup (IL (y)), .int p], .int 1, .lst ([.non, .int 0, .lst ((IL (x))), .tup [], .tup (IL ((p : Int) :: x.tail)), .tup (IL (-1 :: x.tail)), .tup (.bl true :: IL (x.tail)), .tup [.str "0"]])] = .ok (.fz (.bl true)) := bads_eq (n := 1) rfl (fun d hd => told3x rfl (rtimes_bad (w219 d hd)))
  have kb17 : F__law_bads [.fn 19, .tup [.tup (IL (x)), .tup (IL (y)), .int p], .int 2, .lst ([.non, .int 4, .int 17, .bl true])] = .ok (.fz (.bl true)) := bads_eq (n := 2) rfl (fun d hd => told3x rfl (rtimes_bad (rests_bad (two_badp (chk_badp _ d hd)))))
  have w2b : ∀ d, d ∈ ([.non, .int 0, .lst ((IL (x))), .tup [], .tup (IL ((p : Int) :: x.tail)), .tup (IL (-1 :: x.tail)), .tup (.bl true :: IL (x.tail)), .tup [.str "0"]] : List D) → F_check_rests [d, d, .int p] = .exc .mal := fun d hd => w8b d hd
  have kb19 : F__law_bads [.fn 21, .tup [.tup (IL (x)), .int p], .int 0, .lst ([.non, .int 0, .lst ((IL (x))), .tup [], .tup (IL ((p : Int) :: x.tail)), .tup (IL (-1 :: x.tail)), .tup (.bl true :: IL (x.tail)), .tup [.str "0"]])] = .ok (.fz (.bl true)) := bads_eq (n := 0) rfl (fun d hd => told2x rfl (numof_bad (w2b d hd)))
  have kb20 : F__law_bads [.fn 21, .tup [.tup (IL (x)), .int p], .int 1, .lst ([.non, .int 4, .int 17])] = .ok (.fz (.bl true)) := bads_eq (n := 1) rfl (fun d hd => told2x rfl (numof_bad (rests_bad (two_badp (chk_badq _ d hd)))))
  have kb21 : F__law_bads [.fn 17, .tup [.tup (IL (w)), .int p], .int 0, .lst ([.non, .tup [], .lst ((IL (w))), .tup [.str "1"]])] = .ok (.fz (.bl true)) := bads_eq (n := 0) rfl (fun d hd => told2x rfl (restsof_bad (chk_badw hs w d hd)))
  have kb22 : F__law_bads [.fn 17, .tup [.tup (IL (w)), .int p], .int 1, .lst ([.non, .int 6, .int 17])] = .ok (.fz (.bl true)) := bads_eq (n := 1) rfl (fun d hd => told2x rfl (restsof_bad (chk_badr _ d hd)))
  exact (v_sifF (v_orF (v_not (v_t (v_call0 (v_cons v_c rfl (v_cons (v_tup (v_cons (v_fz rfl) rfl (v_cons (v_fz rfl) rfl v_nil)) rfl) rfl (v_cons v_c rfl (v_cons (v_fz rfl) rfl v_nil)))) rfl kb19))) (v_orF (v_not (v_t (v_call0 (v_cons v_c rfl (v_cons (v_tup (v_cons (v_fz rfl) rfl (v_cons (v_fz rfl) rfl v_nil)) rfl) rfl (v_cons v_c rfl (v_cons (v_lst (v_cons v_c rfl (v_cons v_c rfl (v_cons v_c rfl v_nil))) rfl) rfl v_nil)))) rfl kb20))) (v_orF (v_not (v_t (v_call0 (v_cons v_c rfl (v_cons (v_tup (v_cons (v_fz rfl) rfl (v_cons (v_fz rfl) rfl v_nil)) rfl) rfl (v_cons v_c rfl (v_cons (v_lst (v_cons v_c rfl (v_cons (v_tup v_nil rfl) rfl (v_cons (v_u (v_fz rfl) rfl rfl) rfl (v_cons (v_tup (v_cons v_c rfl v_nil) rfl) rfl v_nil)))) rfl) rfl v_nil)))) rfl kb21))) (v_not (v_t (v_call0 (v_cons v_c rfl (v_cons (v_tup (v_cons (v_fz rfl) rfl (v_cons (v_fz rfl) rfl v_nil)) rfl) rfl (v_cons v_c rfl (v_cons (v_lst (v_cons v_c rfl (v_cons v_c rfl (v_cons v_c rfl v_nil))) rfl) rfl v_nil)))) rfl kb22)))))) rfl)
theorem t18 {p N : Nat} {x y : List Int} {ns : List Int} {a b : Int} {c2 c3 c4 c5 c6 c7 c8 c9 c10 c11 c12 c13 c14 c15 c16 : Cell} {c : Int} {w : List Int} (hx : Rw p N x) (hy : Rw p N y) (hw : Vc p N w) (h6 : PL c6) (h7 : PL c7) (h8 : PL c8) (h9 : PL c9) (h10 : PL c10) (h11 : PL c11) (h13 : PL c13) (h14 : PL c14) (h15 : PL c15) (h16 : PL c16) (h12 : c12 = .un ∨ ∃ d, c12 = .fz d): S18 [.fz (.lck (IL ns)), .ow false [.int a, .int b], c2, .fz (.int p), .fz (.int N), .fz (.int ((p : Int) ^ N)), .fz (.tup (IL (x))), .fz (.tup (IL (y))), .fz (.int (nb p N (x))), .fz (.int (nb p N (y))), .fz (.tup (IL (rs p (ad p N (x) (y))))), .fz (.tup (IL (rs p (mu p N (x) (y))))), .fz (.int c), .fz (.tup (IL (dg p N c N))), .fz (.tup (IL (w))), .fz (.lst ([.non, .int 0, .lst ((IL (x))), .tup [], .tup (IL ((p : Int) :: x.tail)), .tup (IL (-1 :: x.tail)), .tup (.bl true :: IL (x.tail)), .tup [.str "0"]])), .fz (.fn 19), .un, .un, .un, .un] = .ok (.nx, [.fz (.lck (IL ns)), .ow false [.int a, .int b], c2, .fz (.int p), .fz (.int N), .fz (.int ((p : Int) ^ N)), .fz (.tup (IL (x))), .fz (.tup (IL (y))), .fz (.int (nb p N (x))), .fz (.int (nb p N (y))), .fz (.tup (IL (rs p (ad p N (x) (y))))), .fz (.tup (IL (rs p (mu p N (x) (y))))), .fz (.int c), .fz (.tup (IL (dg p N c N))), .fz (.tup (IL (w))), .fz (.lst ([.non, .int 0, .lst ((IL (x))), .tup [], .tup (IL ((p : Int) :: x.tail)), .tup (IL (-1 :: x.tail)), .tup (.bl true :: IL (x.tail)), .tup [.str "0"]])), .fz (.fn 19), .un, .un, .un, .un]) := by
  have hs := hx.vc.sz
  have n3 := hs.n3
  have hp5 := hs.p5
  have lx := hx.vc.len
  have pN := hs.pN
  have lw := hw.len
  have lt : x.tail.length ≤ 50 := by simp; omega
  have w9 : ∀ d, d ∈ ([.non, .int 0, .lst ((IL (x))), .tup [], .tup (IL ((p : Int) :: x.tail)), .tup (IL (-1 :: x.tail)), .tup (.bl true :: IL (x.tail)), .tup [.str "0"], .tup (IL (x ++ [0]))] : List D) → F_check_rests [d, .tup (IL (y)), .int p] = .exc .mal := fun d hd => by
    have hd2 : d ∈ wr8 p x ++ [.tup (IL (x ++ [0]))] := hd
    rcases List.mem_append.1 hd2 with h | h
    · exact wr_one hx hy d h
    · rw [List.mem_singleton.1 h]; exact wr_long hx hy
  have w8 := wr_two hx
  have w8b := wr_both hx
  have kb10 : F__law_bads [.fn 18, .tup [.tup (IL (x)), .tup (IL (y)), .int p], .int 0, .lst ([.non, .int 0, .lst ((IL (x))), .tup [], .tup (IL ((p : Int) :: x.tail)), .tup (IL (-1 :: x.tail)), .tup (.bl true :: IL (x.tail)), .tup [.str "0"], .tup (IL (x ++ [0]))])] = .ok (.fz (.bl true)) := bads_eq (n := 0) rfl (fun d hd => told3x rfl (rplus_bad (w9 d hd)))
  have w218 : ∀ d, d ∈ ([.non, .int 0, .lst ((IL (x))), .tup [], .tup (IL ((p : Int) :: x.tail)), .tup (IL (-1 :: x.tail)), .tup (.bl true :: IL (x.tail)), .tup [.str "0"]] : List D) → F_check_rests [.tup (IL (x)), d, .int p] = .exc .mal := fun d hd => w8 d hd
  have kb12 : F__law_bads [.fn 18, .tup [.tup (IL (x)), .tup (IL (y)), .int p], .int 1, .lst ([.non, .int 0, .lst ((IL (x))), .tup [], .tup (IL ((p : Int) :: x.tail)), .tup (IL (-1 :: x.tail)), .tup (.bl true :: IL (x.tail)), .tup [.str "0"]])] = .ok (.fz (.bl true)) := bads_eq (n := 1) rfl (fun d hd => told3x rfl (rplus_bad (w218 d hd)))
  have kb13 : F__law_bads [.fn 18, .tup [.tup (IL (x)), .tup (IL (y)), .int p], .int 2, .lst ([.non, .int 4, .int 17, .bl true])] = .ok (.fz (.bl true)) := bads_eq (n := 2) rfl (fun d hd => told3x rfl (rplus_bad (rests_bad (two_badp (chk_badp _ d hd)))))
  have kb14 : F__law_bads [.fn 19, .tup [.tup (IL (x)), .tup (IL (y)), .int p], .int 0, .lst ([.non, .int 0, .lst ((IL (x))), .tup [], .tup (IL ((p : Int) :: x.tail)), .tup (IL (-1 :: x.tail)), .tup (.bl true :: IL (x.tail)), .tup [.str "0"], .tup (IL (x ++ [0]))])] = .ok (.fz (.bl true)) := bads_eq (n := 0) rfl (fun d hd => told3x rfl (rtimes_bad (w9 d hd)))
  have w219 : ∀ d, d ∈ ([.non, .int 0, .lst ((IL (x))), .tup [], .tup (IL ((p : Int) :: x.tail)), .tup (IL (-1 :: x.tail)), .tup (.bl true :: IL (x.tail)), .tup [.str "0"]] : List D) → F_check_rests [.tup (IL (x)), d, .int p] = .exc .mal := fun d hd => w8 d hd
  have kb16 : F__law_bads [.fn 19, .tup [.tup (IL (x)), .tup (IL (y)), .int p], .int 1, .lst ([.non, .int 0, .lst ((IL (x))), .tup [], .tup (IL ((p : Int) :: x.tail)), .tup (IL (-1 :: x.tail)), .tup (.bl true :: IL (x.tail)), .tup [.str "0"]])] = .ok (.fz (.bl true)) := bads_eq (n := 1) rfl (fun d hd => told3x rfl (rtimes_bad (w219 d hd)))
  have kb17 : F__law_bads [.fn 19, .tup [.tup (IL (x)), .tup (IL (y)), .int p], .int 2, .lst ([.non, .int 4, .int 17, .bl true])] = .ok (.fz (.bl true)) := bads_eq (n := 2) rfl (fun d hd => told3x rfl (rtimes_bad (rests_bad (two_badp (chk_badp _ d hd)))))
  have w2b : ∀ d, d ∈ ([.non, .int 0, .lst ((IL (x))), .tup [], .tup (IL ((p : Int) :: x.tail)), .tup (IL (-1 :: x.tail)), .tup (.bl true :: IL (x.tail)), .tup [.str "0"]] : List D) → F_check_rests [d, d, .int p] = .exc .mal := fun d hd => w8b d hd
  have kb19 : F__law_bads [.fn 21, .tup [.tup (IL (x)), .int p], .int 0, .lst ([.non, .int 0, .lst ((IL (x))), .tup [], .tup (IL ((p : Int) :: x.tail)), .tup (IL (-1 :: x.tail)), .tup (.bl true :: IL (x.tail)), .tup [.str "0"]])] = .ok (.fz (.bl true)) := bads_eq (n := 0) rfl (fun d hd => told2x rfl (numof_bad (w2b d hd)))
  have kb20 : F__law_bads [.fn 21, .tup [.tup (IL (x)), .int p], .int 1, .lst ([.non, .int 4, .int 17])] = .ok (.fz (.bl true)) := bads_eq (n := 1) rfl (fun d hd => told2x rfl (numof_bad (rests_bad (two_badp (chk_badq _ d hd)))))
  have kb21 : F__law_bads [.fn 17, .tup [.tup (IL (w)), .int p], .int 0, .lst ([.non, .tup [], .lst ((IL (w))), .tup [.str "1"]])] = .ok (.fz (.bl true)) := bads_eq (n := 0) rfl (fun d hd => told2x rfl (restsof_bad (chk_badw hs w d hd)))
  have kb22 : F__law_bads [.fn 17, .tup [.tup (IL (w)), .int p], .int 1, .lst ([.non, .int 6, .int 17])] = .ok (.fz (.bl true)) := bads_eq (n := 1) rfl (fun d hd => told2x rfl (restsof_bad (chk_badr _ d hd)))
  have kb23 : F__law_bads [.fn 22, .tup [.int c, .int N, .int p], .int 0, .lst ([.non, .bl true, .str "1"])] = .ok (.fz (.bl true)) := bads_eq (n := 0) rfl (fun d hd => told3x rfl (rnum_badc hs (int_bad d hd)))
  have kb24 : F__law_bads [.fn 22, .tup [.int c, .int N, .int p], .int 1, .lst ([.int 0, .int 7, .non])] = .ok (.fz (.bl true)) := bads_eq (n := 1) rfl (fun d hd => told3x rfl (rnum_bad (len_bad hs d hd)))
  have kb25 : F__law_bads [.fn 22, .tup [.int c, .int N, .int p], .int 2, .lst ([.non, .int 1, .int 17])] = .ok (.fz (.bl true)) := bads_eq (n := 2) rfl (fun d hd => told3x rfl (rnum_bad (len_badp _ d hd)))
  exact (v_sifF (v_orF (v_not (v_t (v_call0 (v_cons v_c rfl (v_cons (v_tup (v_cons (v_fz rfl) rfl (v_cons (v_fz rfl) rfl (v_cons (v_fz rfl) rfl v_nil))) rfl) rfl (v_cons v_c rfl (v_cons (v_lst (v_cons v_c rfl (v_cons v_c rfl (v_cons v_c rfl v_nil))) rfl) rfl v_nil)))) rfl kb23))) (v_orF (v_not (v_t (v_call0 (v_cons v_c rfl (v_cons (v_tup (v_cons (v_fz rfl) rfl (v_cons (v_fz rfl) rfl (v_cons (v_fz rfl) rfl v_nil))) rfl) rfl (v_cons v_c rfl (v_cons (v_lst (v_cons v_c rfl (v_cons v_c rfl (v_cons v_c rfl v_nil))) rfl) rfl v_nil)))) rfl kb24))) (v_not (v_t (v_call0 (v_cons v_c rfl (v_cons (v_tup (v_cons (v_fz rfl) rfl (v_cons (v_fz rfl) rfl (v_cons (v_fz rfl) rfl v_nil))) rfl) rfl (v_cons v_c rfl (v_cons (v_lst (v_cons v_c rfl (v_cons v_c rfl (v_cons v_c rfl v_nil))) rfl) rfl v_nil)))) rfl kb25))))) rfl)
theorem t0 {ns : List Int} {a b : Int} {c2 c3 c4 c5 c6 c7 c8 c9 c10 c11 c12 c13 c14 c15 c16 : Cell} (h3 : PL c3) : ∃ (p : Nat) (a' b' : Int), (p = 2 ∨ p = 3 ∨ p = 5) ∧ S0 [.fz (.lck (IL ns)), .ow false [.int a, .int b], c2, c3, c4, c5, c6, c7, c8, c9, c10, c11, c12, c13, c14, c15, c16, .un, .un, .un, .un] = .ok (.nx, [.fz (.lck (IL ns)), .ow false [.int a', .int b'], c2, .fz (.int p), c4, c5, c6, c7, c8, c9, c10, c11, c12, c13, c14, c15, c16, .un, .un, .un, .un]) := by
  obtain ⟨p, a', b', hp, e⟩ := prime_eq a b
  exact ⟨p, a', b', hp, v_set (v_callB rfl (v_cons v_c rfl v_nil) rfl rfl e rfl) (set_fz rfl h3 rfl)⟩
theorem t1 {p : Nat} (hp : p = 2 ∨ p = 3 ∨ p = 5) {ns : List Int} {a b : Int} {c2 c3 c4 c5 c6 c7 c8 c9 c10 c11 c12 c13 c14 c15 c16 : Cell} (h4 : PL c4) : ∃ (N : Nat) (a' b' : Int), Sz p N ∧ S1 [.fz (.lck (IL ns)), .ow false [.int a, .int b], c2, .fz (.int p), c4, c5, c6, c7, c8, c9, c10, c11, c12, c13, c14, c15, c16, .un, .un, .un, .un] = .ok (.nx, [.fz (.lck (IL ns)), .ow false [.int a', .int b'], c2, .fz (.int p), .fz (.int N), c5, c6, c7, c8, c9, c10, c11, c12, c13, c14, c15, c16, .un, .un, .un, .un]) := by
  have key : ∀ m : Int, 0 < m → m < 1000 → (∀ N : Nat, 1 ≤ N → (N : Int) ≤ m → Sz p N) → eIfF (tOf (eOp gLt (eVar 3) (eC (.int 5)))) (eC (.int 4)) (eC (.int 2)) [.fz (.lck (IL ns)), .ow false [.int a, .int b], c2, .fz (.int p), c4, c5, c6, c7, c8, c9, c10, c11, c12, c13, c14, c15, c16, .un, .un, .un, .un] = .ok (.fz (.int m), [.fz (.lck (IL ns)), .ow false [.int a, .int b], c2, .fz (.int p), c4, c5, c6, c7, c8, c9, c10, c11, c12, c13, c14, c15, c16, .un, .un, .un, .un]) → ∃ (N : Nat) (a' b' : Int), Sz p N ∧ S1 [.fz (.lck (IL ns)), .ow false [.int a, .int b], c2, .fz (.int p), c4, c5, c6, c7, c8, c9, c10, c11, c12, c13, c14, c15, c16, .un, .un, .un, .un] = .ok (.nx, [.fz (.lck (IL ns)), .ow false [.int a', .int b'], c2, .fz (.int p), .fz (.int N), c5, c6, c7, c8, c9, c10, c11, c12, c13, c14, c15, c16, .un, .un, .un, .un]) := fun m h0 h1 hN hi => by
    obtain ⟨v, a', b', hv, e⟩ := take_eq (a := a) (b := b) h0 h1
    obtain ⟨k, hk⟩ : ∃ k : Nat, v = k := ⟨v.toNat, by omega⟩
    refine ⟨k + 1, a', b', hN (k + 1) (by omega) (by omega), ?_⟩
    have e1 : (1 : Int) + v = ((k + 1 : Nat) : Int) := by omega
    have o : gAdd (.int 1) (.int v) = some (.fz (.int ((k + 1 : Nat) : Int))) := by
      rw [← e1]; rfl
    exact v_set (v_op v_c (v_callB rfl (v_cons hi rfl v_nil) rfl rfl e rfl) rfl rfl o) (set_fz rfl h4 rfl)
  rcases hp with rfl | rfl | rfl
  · exact key 4 (by decide) (by decide) (fun N h1 h2 => .inl ⟨rfl, h1, by omega⟩) rfl
  · exact key 4 (by decide) (by decide) (fun N h1 h2 => .inr (.inl ⟨rfl, h1, by omega⟩)) rfl
  · exact key 2 (by decide) (by decide) (fun N h1 h2 => .inr (.inr ⟨rfl, h1, by omega⟩)) rfl
theorem t2 {p N : Nat} (hs : Sz p N) {ns : List Int} {a b : Int} {c2 c3 c4 c5 c6 c7 c8 c9 c10 c11 c12 c13 c14 c15 c16 : Cell} (h5 : PL c5) : S2 [.fz (.lck (IL ns)), .ow false [.int a, .int b], c2, .fz (.int p), .fz (.int N), c5, c6, c7, c8, c9, c10, c11, c12, c13, c14, c15, c16, .un, .un, .un, .un] = .ok (.nx, [.fz (.lck (IL ns)), .ow false [.int a, .int b], c2, .fz (.int p), .fz (.int N), .fz (.int ((p : Int) ^ N)), c6, c7, c8, c9, c10, c11, c12, c13, c14, c15, c16, .un, .un, .un, .un]) := by
  have := hs.n3
  exact v_set (v_call0 (v_cons (v_fz rfl) rfl (v_cons (v_fz rfl) rfl v_nil)) rfl (raised_eq (k := N) rfl hs.p1 (by omega))) (set_fz rfl h5 rfl)
theorem to_ints {q : Int → Prop} : ∀ {es : List D}, (∀ e, e ∈ es → ∃ x : Int, q x ∧ e = .int x) → ∃ xs : List Int, es = IL xs ∧ xs.length = es.length ∧ ∀ x, x ∈ xs → q x
  | [], _ => ⟨[], rfl, rfl, fun _ h => by cases h⟩
  | e :: es, h => by
    obtain ⟨x, hx, rfl⟩ := h e List.mem_cons_self
    obtain ⟨xs, rfl, hl, hq⟩ := to_ints (fun e he => h e (List.mem_cons_of_mem _ he))
    refine ⟨x :: xs, rfl, by simp, fun y hy => ?_⟩
    rcases List.mem_cons.1 hy with rfl | h
    · exact hx
    · exact hq y h
theorem t3 {p N : Nat} (hs : Sz p N) {ns : List Int} {a b : Int} {c2 c3 c4 c5 c6 c7 c8 c9 c10 c11 c12 c13 c14 c15 c16 : Cell} (h6 : PL c6) (h7 : PL c7) : ∃ (x y : List Int) (a' b' : Int), Rw p N x ∧ Rw p N y ∧ S3 [.fz (.lck (IL ns)), .ow false [.int a, .int b], c2, .fz (.int p), .fz (.int N), .fz (.int ((p : Int) ^ N)), c6, c7, c8, c9, c10, c11, c12, c13, c14, c15, c16, .un, .un, .un, .un] = .ok (.nx, [.fz (.lck (IL ns)), .ow false [.int a', .int b'], c2, .fz (.int p), .fz (.int N), .fz (.int ((p : Int) ^ N)), .fz (.tup (IL (x))), .fz (.tup (IL (y))), c8, c9, c10, c11, c12, c13, c14, c15, c16, .un, .un, .un, .un]) := by
  have n3 := hs.n3
  have p5 := hs.p5
  obtain ⟨es, ρ2, e1, ⟨a', b', rfl⟩, e3, e4⟩ := v_lcI (ρ := [.fz (.lck (IL ns)), .ow false [.int a, .int b], c2, .fz (.int p), .fz (.int N), .fz (.int ((p : Int) ^ N)), c6, c7, c8, c9, c10, c11, c12, c13, c14, c15, c16, .un, .un, .un, .un]) (ρ1 := [.fz (.lck (IL ns)), .ow false [.int a, .int b], c2, .fz (.int p), .fz (.int N), .fz (.int ((p : Int) ^ N)), c6, c7, c8, c9, c10, c11, c12, c13, c14, c15, c16, .un, .un, .un, .un]) (vs := [17]) (t := .nm 17) (fi := iRg1 (aCons (eC (.int 2)) aNil)) (fe := eU gTup (eLc [18] (iRg1 (aCons (eVar 4) aNil)) (.nm 18) tYesF (eCallB 1 2 F__law_take (aCons (eVar 3) aNil)))) (fun ρ => ∃ a b, ρ = [.fz (.lck (IL ns)), .ow false [.int a, .int b], c2, .fz (.int p), .fz (.int N), .fz (.int ((p : Int) ^ N)), c6, c7, c8, c9, c10, c11, c12, c13, c14, c15, c16, .un, .un, .un, .un]) (fun d => ∃ xs : List Int, d = .tup (IL xs) ∧ Rw p N xs) (ds := (List.range 2).map nI) (v_rg1 (n := 2) (v_cons v_c rfl v_nil) (by decide)) rfl (by decide) (fun d ρ hd hI => by
    obtain ⟨a, b, rfl⟩ := hI
    obtain ⟨es, ρ2, e1, ⟨a', b', rfl⟩, e3, e4⟩ := v_lcI (ρ := [.fz (.lck (IL ns)), .ow false [.int a, .int b], c2, .fz (.int p), .fz (.int N), .fz (.int ((p : Int) ^ N)), c6, c7, c8, c9, c10, c11, c12, c13, c14, c15, c16, .fz d, .un, .un, .un]) (ρ1 := [.fz (.lck (IL ns)), .ow false [.int a, .int b], c2, .fz (.int p), .fz (.int N), .fz (.int ((p : Int) ^ N)), c6, c7, c8, c9, c10, c11, c12, c13, c14, c15, c16, .fz d, .un, .un, .un]) (vs := [18]) (t := .nm 18) (fi := iRg1 (aCons (eVar 4) aNil)) (fe := eCallB 1 2 F__law_take (aCons (eVar 3) aNil)) (fun ρ => ∃ a b, ρ = [.fz (.lck (IL ns)), .ow false [.int a, .int b], c2, .fz (.int p), .fz (.int N), .fz (.int ((p : Int) ^ N)), c6, c7, c8, c9, c10, c11, c12, c13, c14, c15, c16, .fz d, .un, .un, .un]) (fun d => ∃ x : Int, (0 ≤ x ∧ x < (p : Int)) ∧ d = .int x) (ds := (List.range N).map nI) (v_rg1 (n := N) (v_cons (v_fz rfl) rfl v_nil) (by omega)) rfl (by rw [List.length_map, List.length_range]; omega) (fun d' ρ hd hI => by
      obtain ⟨a, b, rfl⟩ := hI
      obtain ⟨u, a', b', hu, e⟩ := take_eq (a := a) (b := b) (m := (p : Int)) (by omega) (by omega)
      exact ⟨[.fz (.lck (IL ns)), .ow false [.int a, .int b], c2, .fz (.int p), .fz (.int N), .fz (.int ((p : Int) ^ N)), c6, c7, c8, c9, c10, c11, c12, c13, c14, c15, c16, .fz d, .fz d', .un, .un], [.fz (.lck (IL ns)), .ow false [.int a', .int b'], c2, .fz (.int p), .fz (.int N), .fz (.int ((p : Int) ^ N)), c6, c7, c8, c9, c10, c11, c12, c13, c14, c15, c16, .fz d, .fz d', .un, .un], .int u, rfl, v_callB rfl (v_cons (v_fz rfl) rfl v_nil) rfl rfl e rfl, ⟨a', b', rfl⟩, u, hu, rfl⟩) ⟨a, b, rfl⟩
    obtain ⟨xs, rfl, hl, hq⟩ := to_ints e4
    exact ⟨[.fz (.lck (IL ns)), .ow false [.int a, .int b], c2, .fz (.int p), .fz (.int N), .fz (.int ((p : Int) ^ N)), c6, c7, c8, c9, c10, c11, c12, c13, c14, c15, c16, .fz d, .un, .un, .un], [.fz (.lck (IL ns)), .ow false [.int a', .int b'], c2, .fz (.int p), .fz (.int N), .fz (.int ((p : Int) ^ N)), c6, c7, c8, c9, c10, c11, c12, c13, c14, c15, c16, .fz d, .un, .un, .un], .tup (IL xs), rfl, v_u e1 rfl rfl, ⟨a', b', rfl⟩, xs, rfl, rw_mk hs (by rw [hl, e3, List.length_map, List.length_range]) hq⟩) ⟨a, b, rfl⟩
  match es, e3, e4 with
  | [d5, d6], _, e4 =>
    obtain ⟨x, rfl, rx⟩ := e4 d5 (by simp)
    obtain ⟨y, rfl, ry⟩ := e4 d6 (by simp)
    exact ⟨x, y, a', b', rx, ry, v_unp e1 (bindL_c (set_R rfl h6 rfl) (bindL_c (set_R rfl h7 rfl) rfl))⟩
theorem t9 {p N : Nat} {x y : List Int} (hs : Sz p N) {ns : List Int} {a b : Int} {c2 c3 c4 c5 c6 c7 c8 c9 c10 c11 c12 c13 c14 c15 c16 : Cell} (h12 : c12 = .un ∨ ∃ d, c12 = .fz d) : ∃ (c a' b' : Int), S9 [.fz (.lck (IL ns)), .ow false [.int a, .int b], c2, .fz (.int p), .fz (.int N), .fz (.int ((p : Int) ^ N)), .fz (.tup (IL (x))), .fz (.tup (IL (y))), .fz (.int (nb p N (x))), .fz (.int (nb p N (y))), .fz (.tup (IL (rs p (ad p N (x) (y))))), .fz (.tup (IL (rs p (mu p N (x) (y))))), c12, c13, c14, c15, c16, .un, .un, .un, .un] = .ok (.nx, [.fz (.lck (IL ns)), .ow false [.int a', .int b'], c2, .fz (.int p), .fz (.int N), .fz (.int ((p : Int) ^ N)), .fz (.tup (IL (x))), .fz (.tup (IL (y))), .fz (.int (nb p N (x))), .fz (.int (nb p N (y))), .fz (.tup (IL (rs p (ad p N (x) (y))))), .fz (.tup (IL (rs p (mu p N (x) (y))))), .fz (.int c), c13, c14, c15, c16, .un, .un, .un, .un]) := by
  have pN := hs.pN
  obtain ⟨v, a', b', hv, e⟩ := take_eq (a := a) (b := b) (m := 4 * (p : Int) ^ N) (by omega) (by omega)
  exact ⟨v - 2 * (p : Int) ^ N, a', b', v_set (v_op (v_callB rfl (v_cons (v_op v_c (v_fz rfl) rfl rfl (gMul2_int (mulOk_l (by decide)))) rfl v_nil) rfl rfl e rfl) (v_op v_c (v_fz rfl) rfl rfl (gMul2_int (mulOk_l (by decide)))) rfl rfl rfl) (set_fz rfl (by rcases h12 with rfl | ⟨d, rfl⟩ <;> rfl) rfl)⟩
theorem drawn {a b : Int} : ∃ (u a' b' : Int), u.natAbs ≤ 20 ∧ F__law_take [.int a, .int b] [.int 41] = .ok (.fz (.int (u + 20)), [.int a', .int b']) := by
  obtain ⟨v, a', b', hv, e⟩ := take_eq (a := a) (b := b) (m := 41) (by decide) (by decide)
  refine ⟨v - 20, a', b', by omega, ?_⟩
  rw [Int.sub_add_cancel]
  exact e
theorem subd (u : Int) : Rf.gSub (.int (u + 20)) (.int 20) = some (.fz (.int u)) := by
  show some (PV.fz (.int (u + 20 - 20))) = _
  rw [Int.add_sub_cancel]
theorem t12 {p N : Nat} {x y : List Int} {c : Int} (hs : Sz p N) {ns : List Int} {a b : Int} {c2 c3 c4 c5 c6 c7 c8 c9 c10 c11 c12 c13 c14 c15 c16 : Cell} (h14 : PL c14) : ∃ (w : List Int) (a' b' : Int), Vc p N w ∧ S12 [.fz (.lck (IL ns)), .ow false [.int a, .int b], c2, .fz (.int p), .fz (.int N), .fz (.int ((p : Int) ^ N)), .fz (.tup (IL (x))), .fz (.tup (IL (y))), .fz (.int (nb p N (x))), .fz (.int (nb p N (y))), .fz (.tup (IL (rs p (ad p N (x) (y))))), .fz (.tup (IL (rs p (mu p N (x) (y))))), .fz (.int c), .fz (.tup (IL (dg p N c N))), c14, c15, c16, .un, .un, .un, .un] = .ok (.nx, [.fz (.lck (IL ns)), .ow false [.int a', .int b'], c2, .fz (.int p), .fz (.int N), .fz (.int ((p : Int) ^ N)), .fz (.tup (IL (x))), .fz (.tup (IL (y))), .fz (.int (nb p N (x))), .fz (.int (nb p N (y))), .fz (.tup (IL (rs p (ad p N (x) (y))))), .fz (.tup (IL (rs p (mu p N (x) (y))))), .fz (.int c), .fz (.tup (IL (dg p N c N))), .fz (.tup (IL (w))), c15, c16, .un, .un, .un, .un]) := by
  have n3 := hs.n3
  obtain ⟨es, ρ2, e1, ⟨a', b', rfl⟩, e3, e4⟩ := v_lcI (ρ := [.fz (.lck (IL ns)), .ow false [.int a, .int b], c2, .fz (.int p), .fz (.int N), .fz (.int ((p : Int) ^ N)), .fz (.tup (IL (x))), .fz (.tup (IL (y))), .fz (.int (nb p N (x))), .fz (.int (nb p N (y))), .fz (.tup (IL (rs p (ad p N (x) (y))))), .fz (.tup (IL (rs p (mu p N (x) (y))))), .fz (.int c), .fz (.tup (IL (dg p N c N))), c14, c15, c16, .un, .un, .un, .un]) (ρ1 := [.fz (.lck (IL ns)), .ow false [.int a, .int b], c2, .fz (.int p), .fz (.int N), .fz (.int ((p : Int) ^ N)), .fz (.tup (IL (x))), .fz (.tup (IL (y))), .fz (.int (nb p N (x))), .fz (.int (nb p N (y))), .fz (.tup (IL (rs p (ad p N (x) (y))))), .fz (.tup (IL (rs p (mu p N (x) (y))))), .fz (.int c), .fz (.tup (IL (dg p N c N))), c14, c15, c16, .un, .un, .un, .un]) (vs := [18]) (t := .nm 18) (fi := iRg1 (aCons (eVar 4) aNil)) (fe := eOp Rf.gSub (eCallB 1 2 F__law_take (aCons (eC (.int 41)) aNil)) (eC (.int 20))) (fun ρ => ∃ a b, ρ = [.fz (.lck (IL ns)), .ow false [.int a, .int b], c2, .fz (.int p), .fz (.int N), .fz (.int ((p : Int) ^ N)), .fz (.tup (IL (x))), .fz (.tup (IL (y))), .fz (.int (nb p N (x))), .fz (.int (nb p N (y))), .fz (.tup (IL (rs p (ad p N (x) (y))))), .fz (.tup (IL (rs p (mu p N (x) (y))))), .fz (.int c), .fz (.tup (IL (dg p N c N))), c14, c15, c16, .un, .un, .un, .un]) (fun d => ∃ x : Int, x.natAbs ≤ 20 ∧ d = .int x) (ds := (List.range N).map nI) (v_rg1 (n := N) (v_cons (v_fz rfl) rfl v_nil) (by omega)) rfl (by rw [List.length_map, List.length_range]; omega) (fun d' ρ hd hI => by
    obtain ⟨a, b, rfl⟩ := hI
    obtain ⟨u, a', b', hu, e⟩ := drawn (a := a) (b := b)
    exact ⟨[.fz (.lck (IL ns)), .ow false [.int a, .int b], c2, .fz (.int p), .fz (.int N), .fz (.int ((p : Int) ^ N)), .fz (.tup (IL (x))), .fz (.tup (IL (y))), .fz (.int (nb p N (x))), .fz (.int (nb p N (y))), .fz (.tup (IL (rs p (ad p N (x) (y))))), .fz (.tup (IL (rs p (mu p N (x) (y))))), .fz (.int c), .fz (.tup (IL (dg p N c N))), c14, c15, c16, .un, .fz d', .un, .un], [.fz (.lck (IL ns)), .ow false [.int a', .int b'], c2, .fz (.int p), .fz (.int N), .fz (.int ((p : Int) ^ N)), .fz (.tup (IL (x))), .fz (.tup (IL (y))), .fz (.int (nb p N (x))), .fz (.int (nb p N (y))), .fz (.tup (IL (rs p (ad p N (x) (y))))), .fz (.tup (IL (rs p (mu p N (x) (y))))), .fz (.int c), .fz (.tup (IL (dg p N c N))), c14, c15, c16, .un, .fz d', .un, .un], .int u, rfl, v_op (v_callB rfl (v_cons v_c rfl v_nil) rfl rfl e rfl) v_c rfl rfl (subd u), ⟨a', b', rfl⟩, u, hu, rfl⟩) ⟨a, b, rfl⟩
  obtain ⟨w, rfl, hl, hq⟩ := to_ints e4
  exact ⟨w, a', b', vc_wide hs (by rw [hl, e3, List.length_map, List.length_range]) hq, v_set (v_u e1 rfl rfl) (set_fz rfl h14 rfl)⟩
def IV (ns : List Int) (ρ : Rho) : Prop := ∃ (a b : Int) (c2 c3 c4 c5 c6 c7 c8 c9 c10 c11 c12 c13 c14 c15 c16 : Cell), (PL c2 ∧ PL c3 ∧ PL c4 ∧ PL c5 ∧ PL c6 ∧ PL c7 ∧ PL c8 ∧ PL c9 ∧ PL c10 ∧ PL c11 ∧ (c12 = .un ∨ ∃ d, c12 = .fz d) ∧ PL c13 ∧ PL c14 ∧ PL c15 ∧ PL c16) ∧ ρ = [.fz (.lck (IL ns)), .ow false [.int a, .int b], c2, c3, c4, c5, c6, c7, c8, c9, c10, c11, c12, c13, c14, c15, c16, .un, .un, .un, .un]
theorem turn {ns : List Int} (d : D) (ρ : Rho) (hI : IV ns ρ) : ∃ ρ1 ρ2, bindT (.nm 2) d ρ = some ρ1 ∧ TB ρ1 = .ok (.nx, ρ2) ∧ IV ns ρ2 := by
  obtain ⟨a, b, c2, c3, c4, c5, c6, c7, c8, c9, c10, c11, c12, c13, c14, c15, c16, ⟨h2, h3, h4, h5, h6, h7, h8, h9, h10, h11, h12, h13, h14, h15, h16⟩, rfl⟩ := hI
  obtain ⟨p, a1, b1, hp, r0⟩ := t0 (ns := ns) (a := a) (b := b) (c2 := .fz d) (c3 := c3) (c4 := c4) (c5 := c5) (c6 := c6) (c7 := c7) (c8 := c8) (c9 := c9) (c10 := c10) (c11 := c11) (c12 := c12) (c13 := c13) (c14 := c14) (c15 := c15) (c16 := c16) h3
  obtain ⟨N, a2, b2, hs, r1⟩ := t1 (ns := ns) (a := a1) (b := b1) (c2 := .fz d) (c3 := c3) (c4 := c4) (c5 := c5) (c6 := c6) (c7 := c7) (c8 := c8) (c9 := c9) (c10 := c10) (c11 := c11) (c12 := c12) (c13 := c13) (c14 := c14) (c15 := c15) (c16 := c16) hp h4
  have r2 := t2 (ns := ns) (a := a2) (b := b2) (c2 := .fz d) (c3 := c3) (c4 := c4) (c5 := c5) (c6 := c6) (c7 := c7) (c8 := c8) (c9 := c9) (c10 := c10) (c11 := c11) (c12 := c12) (c13 := c13) (c14 := c14) (c15 := c15) (c16 := c16) hs h5
  obtain ⟨x, y, a3, b3, hx, hy, r3⟩ := t3 (ns := ns) (a := a2) (b := b2) (c2 := .fz d) (c3 := c3) (c4 := c4) (c5 := c5) (c6 := c6) (c7 := c7) (c8 := c8) (c9 := c9) (c10 := c10) (c11 := c11) (c12 := c12) (c13 := c13) (c14 := c14) (c15 := c15) (c16 := c16) hs h6 h7
  have r4 := t4 (ns := ns) (a := a3) (b := b3) (c2 := .fz d) (c3 := c3) (c4 := c4) (c5 := c5) (c6 := c6) (c7 := c7) (c8 := c8) (c9 := c9) (c10 := c10) (c11 := c11) (c12 := c12) (c13 := c13) (c14 := c14) (c15 := c15) (c16 := c16) hx hy h6 h7 h8 h9 h10 h11 h13 h14 h15 h16 h12
  have r5 := t5 (ns := ns) (a := a3) (b := b3) (c2 := .fz d) (c3 := c3) (c4 := c4) (c5 := c5) (c6 := c6) (c7 := c7) (c8 := c8) (c9 := c9) (c10 := c10) (c11 := c11) (c12 := c12) (c13 := c13) (c14 := c14) (c15 := c15) (c16 := c16) hx hy h6 h7 h8 h9 h10 h11 h13 h14 h15 h16 h12
  have r6 := t6 (ns := ns) (a := a3) (b := b3) (c2 := .fz d) (c3 := c3) (c4 := c4) (c5 := c5) (c6 := c6) (c7 := c7) (c8 := c8) (c9 := c9) (c10 := c10) (c11 := c11) (c12 := c12) (c13 := c13) (c14 := c14) (c15 := c15) (c16 := c16) hx hy h6 h7 h8 h9 h10 h11 h13 h14 h15 h16 h12
  have r7 := t7 (ns := ns) (a := a3) (b := b3) (c2 := .fz d) (c3 := c3) (c4 := c4) (c5 := c5) (c6 := c6) (c7 := c7) (c8 := c8) (c9 := c9) (c10 := c10) (c11 := c11) (c12 := c12) (c13 := c13) (c14 := c14) (c15 := c15) (c16 := c16) hx hy h6 h7 h8 h9 h10 h11 h13 h14 h15 h16 h12
  have r8 := t8 (ns := ns) (a := a3) (b := b3) (c2 := .fz d) (c3 := c3) (c4 := c4) (c5 := c5) (c6 := c6) (c7 := c7) (c8 := c8) (c9 := c9) (c10 := c10) (c11 := c11) (c12 := c12) (c13 := c13) (c14 := c14) (c15 := c15) (c16 := c16) hx hy h6 h7 h8 h9 h10 h11 h13 h14 h15 h16 h12
  obtain ⟨c, a4, b4, r9⟩ := t9 (x := x) (y := y) (ns := ns) (a := a3) (b := b3) (c2 := .fz d) (c3 := c3) (c4 := c4) (c5 := c5) (c6 := c6) (c7 := c7) (c8 := c8) (c9 := c9) (c10 := c10) (c11 := c11) (c12 := c12) (c13 := c13) (c14 := c14) (c15 := c15) (c16 := c16) hs h12
  have r10 := t10 (ns := ns) (a := a4) (b := b4) (c2 := .fz d) (c3 := c3) (c4 := c4) (c5 := c5) (c6 := c6) (c7 := c7) (c8 := c8) (c9 := c9) (c10 := c10) (c11 := c11) (c12 := c12) (c13 := c13) (c14 := c14) (c15 := c15) (c16 := c16) (c := c) hx hy h6 h7 h8 h9 h10 h11 h13 h14 h15 h16 h12
  have r11 := t11 (ns := ns) (a := a4) (b := b4) (c2 := .fz d) (c3 := c3) (c4 := c4) (c5 := c5) (c6 := c6) (c7 := c7) (c8 := c8) (c9 := c9) (c10 := c10) (c11 := c11) (c12 := c12) (c13 := c13) (c14 := c14) (c15 := c15) (c16 := c16) (c := c) hx hy h6 h7 h8 h9 h10 h11 h13 h14 h15 h16 h12
  obtain ⟨w, a5, b5, hw, r12⟩ := t12 (x := x) (y := y) (c := c) (ns := ns) (a := a4) (b := b4) (c2 := .fz d) (c3 := c3) (c4 := c4) (c5 := c5) (c6 := c6) (c7 := c7) (c8 := c8) (c9 := c9) (c10 := c10) (c11 := c11) (c12 := c12) (c13 := c13) (c14 := c14) (c15 := c15) (c16 := c16) hs h14
  have r13 := t13 (ns := ns) (a := a5) (b := b5) (c2 := .fz d) (c3 := c3) (c4 := c4) (c5 := c5) (c6 := c6) (c7 := c7) (c8 := c8) (c9 := c9) (c10 := c10) (c11 := c11) (c12 := c12) (c13 := c13) (c14 := c14) (c15 := c15) (c16 := c16) (c := c) hx hy hw h6 h7 h8 h9 h10 h11 h13 h14 h15 h16 h12
  have r14 := t14 (ns := ns) (a := a5) (b := b5) (c2 := .fz d) (c3 := c3) (c4 := c4) (c5 := c5) (c6 := c6) (c7 := c7) (c8 := c8) (c9 := c9) (c10 := c10) (c11 := c11) (c12 := c12) (c13 := c13) (c14 := c14) (c15 := c15) (c16 := c16) (c := c) hx hy hw h6 h7 h8 h9 h10 h11 h13 h14 h15 h16 h12
  have r15 := t15 (ns := ns) (a := a5) (b := b5) (c2 := .fz d) (c3 := c3) (c4 := c4) (c5 := c5) (c6 := c6) (c7 := c7) (c8 := c8) (c9 := c9) (c10 := c10) (c11 := c11) (c12 := c12) (c13 := c13) (c14 := c14) (c15 := c15) (c16 := c16) (c := c) hx hy hw h6 h7 h8 h9 h10 h11 h13 h14 h15 h16 h12
  have r16 := t16 (ns := ns) (a := a5) (b := b5) (c2 := .fz d) (c3 := c3) (c4 := c4) (c5 := c5) (c6 := c6) (c7 := c7) (c8 := c8) (c9 := c9) (c10 := c10) (c11 := c11) (c12 := c12) (c13 := c13) (c14 := c14) (c15 := c15) (c16 := c16) (c := c) hx hy hw h6 h7 h8 h9 h10 h11 h13 h14 h15 h16 h12
  have r17 := t17 (ns := ns) (a := a5) (b := b5) (c2 := .fz d) (c3 := c3) (c4 := c4) (c5 := c5) (c6 := c6) (c7 := c7) (c8 := c8) (c9 := c9) (c10 := c10) (c11 := c11) (c12 := c12) (c13 := c13) (c14 := c14) (c15 := c15) (c16 := c16) (c := c) hx hy hw h6 h7 h8 h9 h10 h11 h13 h14 h15 h16 h12
  have r18 := t18 (ns := ns) (a := a5) (b := b5) (c2 := .fz d) (c3 := c3) (c4 := c4) (c5 := c5) (c6 := c6) (c7 := c7) (c8 := c8) (c9 := c9) (c10 := c10) (c11 := c11) (c12 := c12) (c13 := c13) (c14 := c14) (c15 := c15) (c16 := c16) (c := c) hx hy hw h6 h7 h8 h9 h10 h11 h13 h14 h15 h16 h12
  refine ⟨_, _, set_R rfl h2 rfl, v_seq r0 (v_seq r1 (v_seq r2 (v_seq r3 (v_seq r4 (v_seq r5 (v_seq r6 (v_seq r7 (v_seq r8 (v_seq r9 (v_seq r10 (v_seq r11 (v_seq r12 (v_seq r13 (v_seq r14 (v_seq r15 (v_seq r16 (v_seq r17 r18))))))))))))))))), ⟨_, _, _, _, _, _, _, _, _, _, _, _, _, _, _, _, _, ⟨?_, ?_, ?_, ?_, ?_, ?_, ?_, ?_, ?_, ?_, ?_, ?_, ?_, ?_, ?_⟩, rfl⟩⟩
  all_goals first | rfl | exact .inr ⟨_, rfl⟩
theorem law_true : ∀ ns : List Int, ns.length ≤ 63 → F_law [.lck (ns.map .int)] = .ok (.fz (.bl true)) := by
  intro ns _
  obtain ⟨a, b, e⟩ := state_eq ns
  obtain ⟨ρ2, r, hI⟩ := forGo_inv (t := .nm 2) (body := TB) (ds := (List.range 4).map nI) (IV ns) (fun d ρ _ hI => turn d ρ hI) (ρ := [.fz (.lck (IL ns)), .ow false [.int a, .int b], .un, .un, .un, .un, .un, .un, .un, .un, .un, .un, .un, .un, .un, .un, .un, .un, .un, .un, .un]) ⟨a, b, .un, .un, .un, .un, .un, .un, .un, .un, .un, .un, .un, .un, .un, .un, .un, ⟨rfl, rfl, rfl, rfl, rfl, rfl, rfl, rfl, rfl, rfl, .inl rfl, rfl, rfl, rfl, rfl⟩, rfl⟩
  have t : B_law [.fz (.lck (IL ns)), .un, .un, .un, .un, .un, .un, .un, .un, .un, .un, .un, .un, .un, .un, .un, .un, .un, .un, .un, .un] = .ok (.rt (.fz (.bl true)), ρ2) := v_seq (ρ1 := [.fz (.lck (IL ns)), .ow false [.int a, .int b], .un, .un, .un, .un, .un, .un, .un, .un, .un, .un, .un, .un, .un, .un, .un, .un, .un, .un, .un]) (v_set (v_call0 (v_cons (v_fz rfl) rfl v_nil) rfl e) rfl) (v_seq (v_for (v_rg1 (n := 4) (v_cons v_c rfl v_nil) (by decide)) r) (v_ret (v_andT (v_call0 (v_cons v_c rfl (v_cons (v_tup (v_cons v_c rfl (v_cons v_c rfl (v_cons v_c rfl v_nil))) rfl) rfl (v_cons v_c rfl v_nil))) rfl last_raises) (v_call0 (v_cons v_c rfl (v_cons (v_tup (v_cons (v_u v_c rfl rfl) rfl (v_cons v_c rfl (v_cons v_c rfl v_nil))) rfl) rfl (v_cons (v_tup (v_cons v_c rfl (v_cons v_c rfl (v_cons v_c rfl v_nil))) rfl) rfl v_nil))) rfl last_tells)) rfl))
  show outF (B_law [.fz (.lck (IL ns)), .un, .un, .un, .un, .un, .un, .un, .un, .un, .un, .un, .un, .un, .un, .un, .un, .un, .un, .un, .un]) = _
  rw [t]
  rfl
end L50
end
section

end
section
set_option Elab.async false
set_option linter.all false
set_option maxRecDepth 100000
set_option maxHeartbeats 0
namespace L50
open PySem PySem.Spec PyProof.Rows L2 Rf
/-! ### what the top leaves -/
structure Tx (K : PySem.W.Frag) (mg : Str → Option Value) (G : Wd) : Prop where
  d_is_integer : Def K G 0 "is_integer" s_is_integer ["value"] []
  m_is_integer : mg "is_integer" = some (.ref (G.fnA 0))
  d_is_count : Def K G 1 "is_count" s_is_count ["value", "low", "high"] []
  m_is_count : mg "is_count" = some (.ref (G.fnA 1))
  d_check_count : Def K G 2 "check_count" s_check_count ["value", "low", "high"] []
  m_check_count : mg "check_count" = some (.ref (G.fnA 2))
  d_is_whole_row : Def K G 3 "is_whole_row" s_is_whole_row ["value"] []
  m_is_whole_row : mg "is_whole_row" = some (.ref (G.fnA 3))
  d_power : Def K G 4 "power" s_power ["a", "k"] []
  m_power : mg "power" = some (.ref (G.fnA 4))
  d_power_mod : Def K G 5 "power_mod" s_power_mod ["a", "k", "m"] []
  m_power_mod : mg "power_mod" = some (.ref (G.fnA 5))
  d_is_prime : Def K G 6 "is_prime" s_is_prime ["n"] []
  m_is_prime : mg "is_prime" = some (.ref (G.fnA 6))
  d_check_prime : Def K G 7 "check_prime" s_check_prime ["p", "high"] []
  m_check_prime : mg "check_prime" = some (.ref (G.fnA 7))
  d_check_place : Def K G 8 "check_place" s_check_place ["p"] []
  m_check_place : mg "check_place" = some (.ref (G.fnA 8))
  d_check_length : Def K G 9 "check_length" s_check_length ["p", "n"] []
  m_check_length : mg "check_length" = some (.ref (G.fnA 9))
  d_is_vector : Def K G 10 "is_vector" s_is_vector ["value", "p"] []
  m_is_vector : mg "is_vector" = some (.ref (G.fnA 10))
  d_check_vector : Def K G 11 "check_vector" s_check_vector ["x", "p"] []
  m_check_vector : mg "check_vector" = some (.ref (G.fnA 11))
  d_check_two : Def K G 12 "check_two" s_check_two ["x", "y", "p"] []
  m_check_two : mg "check_two" = some (.ref (G.fnA 12))
  d_ghosts_of : Def K G 13 "ghosts_of" s_ghosts_of ["x", "p"] []
  m_ghosts_of : mg "ghosts_of" = some (.ref (G.fnA 13))
  d_vector_of : Def K G 14 "vector_of" s_vector_of ["row", "p"] []
  m_vector_of : mg "vector_of" = some (.ref (G.fnA 14))
  d_vector_plus : Def K G 15 "vector_plus" s_vector_plus ["x", "y", "p"] []
  m_vector_plus : mg "vector_plus" = some (.ref (G.fnA 15))
  d_vector_times : Def K G 16 "vector_times" s_vector_times ["x", "y", "p"] []
  m_vector_times : mg "vector_times" = some (.ref (G.fnA 16))
  d_rests_of : Def K G 17 "rests_of" s_rests_of ["x", "p"] []
  m_rests_of : mg "rests_of" = some (.ref (G.fnA 17))
  d_rest_plus : Def K G 18 "rest_plus" s_rest_plus ["x", "y", "p"] []
  m_rest_plus : mg "rest_plus" = some (.ref (G.fnA 18))
  d_rest_times : Def K G 19 "rest_times" s_rest_times ["x", "y", "p"] []
  m_rest_times : mg "rest_times" = some (.ref (G.fnA 19))
  d_check_rests : Def K G 20 "check_rests" s_check_rests ["x", "y", "p"] []
  m_check_rests : mg "check_rests" = some (.ref (G.fnA 20))
  d_number_of : Def K G 21 "number_of" s_number_of ["x", "p"] []
  m_number_of : mg "number_of" = some (.ref (G.fnA 21))
  d_rests_number : Def K G 22 "rests_number" s_rests_number ["c", "n", "p"] []
  m_rests_number : mg "rests_number" = some (.ref (G.fnA 22))
  d__law_state : Def K G 23 "_law_state" s__law_state ["script"] []
  m__law_state : mg "_law_state" = some (.ref (G.fnA 23))
  d__law_take : Def K G 24 "_law_take" s__law_take ["state", "m"] []
  m__law_take : mg "_law_take" = some (.ref (G.fnA 24))
  d__law_same : Def K G 25 "_law_same" s__law_same ["value", "due"] []
  m__law_same : mg "_law_same" = some (.ref (G.fnA 25))
  d__law_told : Def K G 26 "_law_told" s__law_told ["f", "given"] []
  m__law_told : mg "_law_told" = some (.ref (G.fnA 26))
  d__law_is_told : Def K G 27 "_law_is_told" s__law_is_told ["pair", "due"] []
  m__law_is_told : mg "_law_is_told" = some (.ref (G.fnA 27))
  d__law_is_raised : Def K G 28 "_law_is_raised" s__law_is_raised ["pair", "reason"] []
  m__law_is_raised : mg "_law_is_raised" = some (.ref (G.fnA 28))
  d__law_tells : Def K G 29 "_law_tells" s__law_tells ["f", "given", "due"] []
  m__law_tells : mg "_law_tells" = some (.ref (G.fnA 29))
  d__law_raises : Def K G 30 "_law_raises" s__law_raises ["f", "given", "reason"] []
  m__law_raises : mg "_law_raises" = some (.ref (G.fnA 30))
  d__law_plain : Def K G 31 "_law_plain" s__law_plain ["x"] []
  m__law_plain : mg "_law_plain" = some (.ref (G.fnA 31))
  d__law_value : Def K G 32 "_law_value" s__law_value ["f", "given"] []
  m__law_value : mg "_law_value" = some (.ref (G.fnA 32))
  d__law_bads : Def K G 33 "_law_bads" s__law_bads ["f", "given", "at", "bads"] []
  m__law_bads : mg "_law_bads" = some (.ref (G.fnA 33))
  d__law_raised : Def K G 34 "_law_raised" s__law_raised ["a", "k"] []
  m__law_raised : mg "_law_raised" = some (.ref (G.fnA 34))
  d__law_words : Def K G 35 "_law_words" s__law_words ["sizes"] []
  m__law_words : mg "_law_words" = some (.ref (G.fnA 35))
  d__law_prime : Def K G 36 "_law_prime" s__law_prime ["state", "high"] []
  m__law_prime : mg "_law_prime" = some (.ref (G.fnA 36))
  d__law_number : Def K G 37 "_law_number" s__law_number ["x", "p"] []
  m__law_number : mg "_law_number" = some (.ref (G.fnA 37))
  d_law : Def K G 38 "law" s_law ["script"] []
  m_law : mg "law" = some (.ref (G.fnA 38))
  n_abs : mg "abs" = none
  n_all : mg "all" = none
  n_bool : mg "bool" = none
  n_enumerate : mg "enumerate" = none
  n_int : mg "int" = none
  n_isinstance : mg "isinstance" = none
  n_len : mg "len" = none
  n_list : mg "list" = none
  n_min : mg "min" = none
  n_range : mg "range" = none
  n_set : mg "set" = none
  n_sorted : mg "sorted" = none
  n_str : mg "str" = none
  n_sum : mg "sum" = none
  n_tuple : mg "tuple" = none
  n_zip : mg "zip" = none
  c_MOST_PRIME : ∃ t, mg "MOST_PRIME" = some (.int 997 t)
  c_MOST_LENGTH : ∃ t, mg "MOST_LENGTH" = some (.int 6 t)
  c_MOST_ITEM : ∃ t, mg "MOST_ITEM" = some (.int 1000000000000000000000000000000000000000000000000000000000000 t)
  gM : mg "Malformed" = some (.ref (G.clA 0))
  gR : mg "Refused" = some (.ref (G.clA 1))
  xM : PySem.W.excIn K (G.clA 0) [.type "ValueError", .type "Exception", .type "BaseException", .type "object"] "ValueError.__new__" = true
  kM : PySem.W.keepIn K (.ref (G.clA 0)) = true
  bM : PySem.W.subIn K (.ref (G.clA 0)) (.type "BaseException") = some true
  tM : PySem.W.typeIn K (.ref (G.clA 0)) = some (.type "type")
  eMM : PySem.W.exmOne K (.ref (G.clA 0)) (.ref (G.clA 0)) = some true
  gF : mg "Fault" = some (.ref (G.clA 2))
  rC : RfdC K (G.clA 1) (G.clA 2)
  d_init : DefI K (G.clA 1) s_init
  eRM : PySem.W.exmOne K (.ref (G.clA 1)) (.ref (G.clA 0)) = some false
  eRR : PySem.W.exmOne K (.ref (G.clA 1)) (.ref (G.clA 1)) = some true
/-! ### the derivations -/
section
variable {P : Program} {w : World} {K : PySem.W.Frag} {mg : Str → Option Value} {base : Heap} {G : Wd}
theorem sc_init : FnScope ["self", "reason"] ["self", "reason"] (defScope s_init) := ⟨rfl, rfl, rfl, by decide +kernel, rfl, by decide +kernel, by decide +kernel⟩
theorem ok_init (T : Tx K mg G) : GoodI P w K mg base (G.clA 1) 1 :=
  goodI_of (st := s_init) T.d_init sc_init T.rC fun f cdv A outer s H E => pss_init T.rC rfl rfl (by first | exact Or.inl rfl | exact Or.inr (Or.inl rfl)) (by first | exact Or.inl rfl | exact Or.inr (Or.inl rfl)) (by rfl) T.gF
abbrev N_is_integer : List Str := ["value"]
theorem sc_is_integer : FnScope N_is_integer ["value"] (defScope s_is_integer) := ⟨rfl, rfl, rfl, by decide +kernel, rfl, by decide +kernel, by decide +kernel⟩
theorem ok_is_integer (T : Tx K mg G) : Good P w K mg base G 1 0 1 ["value"] [] F_is_integer :=
  good_of (N := N_is_integer) T.d_is_integer sc_is_integer rfl fun f cdv A outer s H E hr => by
    have nd := sc_is_integer.nd
    have tk : Takes (cxOf (L2.CX P w) P w K mg base N_is_integer "is_integer" (defScope s_is_integer) f cdv A outer s H E) (fun cls d _ H => E cls d H) := takes_of rfl rfl rfl rfl
    have hp : PassesOwn (model P w) (cxOf (L2.CX P w) P w K mg base N_is_integer "is_integer" (defScope s_is_integer) f cdv A outer s H E).A (cxOf (L2.CX P w) P w K mg base N_is_integer "is_integer" (defScope s_is_integer) f cdv A outer s H E).env (cxOf (L2.CX P w) P w K mg base N_is_integer "is_integer" (defScope s_is_integer) f cdv A outer s H E).xe := PassesOwn.leaving
    exact rs_one (rs_ret (re_and (re_isi .int (by rfl) T.n_isinstance (by rfl) T.n_int (by decide +kernel) (ev 0)) (re_one (re_not (re_isi .bool (by rfl) T.n_isinstance (by rfl) T.n_bool (by decide +kernel) (ev 0))))))
abbrev N_power : List Str := ["a", "k", "found"]
theorem sc_power : FnScope N_power ["a", "k"] (defScope s_power) := ⟨rfl, rfl, rfl, by decide +kernel, rfl, by decide +kernel, by decide +kernel⟩
theorem ok_power (T : Tx K mg G) : Good P w K mg base G 1 4 2 ["a", "k"] [] F_power :=
  good_of (N := N_power) T.d_power sc_power rfl fun f cdv A outer s H E hr => by
    have nd := sc_power.nd
    have tk : Takes (cxOf (L2.CX P w) P w K mg base N_power "power" (defScope s_power) f cdv A outer s H E) (fun cls d _ H => E cls d H) := takes_of rfl rfl rfl rfl
    have hp : PassesOwn (model P w) (cxOf (L2.CX P w) P w K mg base N_power "power" (defScope s_power) f cdv A outer s H E).A (cxOf (L2.CX P w) P w K mg base N_power "power" (defScope s_power) f cdv A outer s H E).env (cxOf (L2.CX P w) P w K mg base N_power "power" (defScope s_power) f cdv A outer s H E).xe := PassesOwn.leaving
    exact rs_cons (rs_set (i := 2) nd rfl (by first | exact Or.inl rfl | exact Or.inr rfl) (re_int) (by first | exact .inl rfl | exact .inr rfl))
        (rs_cons (rs_while (n := 1000000) hp (rt_cmp op_gt ops_gt (ev 1) (re_int) (nomark _)) (rs_cons (rs_if (rt_cmp (opr_eq hr.units) ops_eq (re_op op_mod ops_mod (ev 1) (re_int)) (re_int) (nomark _)) (rs_one (rs_set (i := 2) nd rfl (by first | exact Or.inl rfl | exact Or.inr rfl) (re_op opr_mul2 ops_mul2 (ev 2) (ev 0)) (by first | exact .inl rfl | exact .inr rfl))) (rs_nil))
        (rs_one (rs_par (i := 0) (j := 1) rfl nd rfl rfl (by decide) rfl rfl (re_op opr_mul2 ops_mul2 (ev 0) (ev 0)) (re_op op_fdivW ops_div (ev 1) (re_int)) (by rfl)))))
        (rs_one (rs_ret (ev 2))))
abbrev N_power_mod : List Str := ["a", "k", "m", "found"]
theorem sc_power_mod : FnScope N_power_mod ["a", "k", "m"] (defScope s_power_mod) := ⟨rfl, rfl, rfl, by decide +kernel, rfl, by decide +kernel, by decide +kernel⟩
theorem ok_power_mod (T : Tx K mg G) : Good P w K mg base G 1 5 3 ["a", "k", "m"] [] F_power_mod :=
  good_of (N := N_power_mod) T.d_power_mod sc_power_mod rfl fun f cdv A outer s H E hr => by
    have nd := sc_power_mod.nd
    have tk : Takes (cxOf (L2.CX P w) P w K mg base N_power_mod "power_mod" (defScope s_power_mod) f cdv A outer s H E) (fun cls d _ H => E cls d H) := takes_of rfl rfl rfl rfl
    have hp : PassesOwn (model P w) (cxOf (L2.CX P w) P w K mg base N_power_mod "power_mod" (defScope s_power_mod) f cdv A outer s H E).A (cxOf (L2.CX P w) P w K mg base N_power_mod "power_mod" (defScope s_power_mod) f cdv A outer s H E).env (cxOf (L2.CX P w) P w K mg base N_power_mod "power_mod" (defScope s_power_mod) f cdv A outer s H E).xe := PassesOwn.leaving
    exact rs_cons (rs_par (i := 3) (j := 0) rfl nd rfl rfl (by decide) rfl rfl (re_op op_mod ops_mod (re_int) (ev 2)) (re_op op_mod ops_mod (ev 0) (ev 2)) (by rfl))
        (rs_cons (rs_while (n := 1000000) hp (rt_cmp op_gt ops_gt (ev 1) (re_int) (nomark _)) (rs_cons (rs_if (rt_cmp (opr_eq hr.units) ops_eq (re_op op_mod ops_mod (ev 1) (re_int)) (re_int) (nomark _)) (rs_one (rs_set (i := 3) nd rfl (by first | exact Or.inl rfl | exact Or.inr rfl) (re_op op_mod ops_mod (re_op opr_mul2 ops_mul2 (ev 3) (ev 0)) (ev 2)) (by first | exact .inl rfl | exact .inr rfl))) (rs_nil))
        (rs_one (rs_par (i := 0) (j := 1) rfl nd rfl rfl (by decide) rfl rfl (re_op op_mod ops_mod (re_op opr_mul2 ops_mul2 (ev 0) (ev 0)) (ev 2)) (re_op op_fdivW ops_div (ev 1) (re_int)) (by rfl)))))
        (rs_one (rs_ret (ev 3))))
abbrev N__law_state : List Str := ["script", "seed", "total", "cell"]
theorem sc__law_state : FnScope N__law_state ["script"] (defScope s__law_state) := ⟨rfl, rfl, rfl, by decide +kernel, rfl, by decide +kernel, by decide +kernel⟩
theorem ok__law_state (T : Tx K mg G) : Good P w K mg base G 1 23 1 ["script"] [] F__law_state :=
  good_of (N := N__law_state) T.d__law_state sc__law_state rfl fun f cdv A outer s H E hr => by
    have nd := sc__law_state.nd
    have tk : Takes (cxOf (L2.CX P w) P w K mg base N__law_state "_law_state" (defScope s__law_state) f cdv A outer s H E) (fun cls d _ H => E cls d H) := takes_of rfl rfl rfl rfl
    have hp : PassesOwn (model P w) (cxOf (L2.CX P w) P w K mg base N__law_state "_law_state" (defScope s__law_state) f cdv A outer s H E).A (cxOf (L2.CX P w) P w K mg base N__law_state "_law_state" (defScope s__law_state) f cdv A outer s H E).env (cxOf (L2.CX P w) P w K mg base N__law_state "_law_state" (defScope s__law_state) f cdv A outer s H E).xe := PassesOwn.leaving
    exact rs_cons (rs_set (i := 1) nd rfl (by first | exact Or.inl rfl | exact Or.inr rfl) (re_int) (by first | exact .inl rfl | exact .inr rfl))
        (rs_cons (rs_set (i := 2) nd rfl (by first | exact Or.inl rfl | exact Or.inr rfl) (re_int) (by first | exact .inl rfl | exact .inr rfl))
        (rs_cons (rs_for' (.nm 3) hp (ri_seq (re_sl (ev 0) (ro_none) (ro_some (re_int)))) (pg_name (i := 3) nd rfl (by first | exact Or.inl rfl | exact Or.inr rfl) (by first | exact .inl rfl | exact .inr rfl)) (rs_cons (rs_set (i := 1) nd rfl (by first | exact Or.inl rfl | exact Or.inr rfl) (re_op opr_add ops_add (re_op opr_mul2 ops_mul2 (ev 1) (re_int)) (re_b1 call_abs uns_abs (by rfl) T.n_abs (by decide +kernel) (ev 3))) (by first | exact .inl rfl | exact .inr rfl))
        (rs_one (rs_set (i := 2) nd rfl (by first | exact Or.inl rfl | exact Or.inr rfl) (re_op op_mod ops_mod (re_t1 call_int1 uns_int (by rfl) T.n_int (by decide +kernel) (re_op opr_add ops_add (re_op opr_mul2 ops_mul2 (ev 2) (re_int)) (ev 3))) (re_int)) (by first | exact .inl rfl | exact .inr rfl)))))
        (rs_one (rs_ret (re_lst (ra_cons (ev 1) (ra_cons (re_if (rt_cmp (opr_ne hr.units) ops_ne (ev 2) (re_int) (nomark _)) (ev 2) (re_int)) (ra_nil))))))))
abbrev N__law_take : List Str := ["state", "m", "value"]
theorem sc__law_take : FnScope N__law_take ["state", "m"] (defScope s__law_take) := ⟨rfl, rfl, rfl, by decide +kernel, rfl, by decide +kernel, by decide +kernel⟩
theorem ok__law_take (T : Tx K mg G) : GoodB P w K mg base G 1 24 2 ["state", "m"] F__law_take :=
  goodB_of (N := N__law_take) T.d__law_take sc__law_take rfl fun f cdv A outer s H E hr => by
    have nd := sc__law_take.nd
    have tk : Takes (cxOf (L2.CX P w) P w K mg base N__law_take "_law_take" (defScope s__law_take) f cdv A outer s H E) (fun cls d _ H => E cls d H) := takes_of rfl rfl rfl rfl
    have hp : PassesOwn (model P w) (cxOf (L2.CX P w) P w K mg base N__law_take "_law_take" (defScope s__law_take) f cdv A outer s H E).A (cxOf (L2.CX P w) P w K mg base N__law_take "_law_take" (defScope s__law_take) f cdv A outer s H E).env (cxOf (L2.CX P w) P w K mg base N__law_take "_law_take" (defScope s__law_take) f cdv A outer s H E).xe := PassesOwn.leaving
    exact rs_cons (rs_if (rt_cmp op_gt ops_gt (re_ix ixr_any ops_ix (ev 0) (re_int) (fun _ _ => rfl)) (re_int) (nomark _)) (rs_cons (rs_set (i := 2) nd rfl (by first | exact Or.inl rfl | exact Or.inr rfl) (re_op op_mod ops_mod (re_t1 call_int1 uns_int (by rfl) T.n_int (by decide +kernel) (re_ix ixr_any ops_ix (ev 0) (re_int) (fun _ _ => rfl))) (ev 1)) (by first | exact .inl rfl | exact .inr rfl))
        (rs_cons (rs_sto (j := 0) rfl (by first | exact Or.inl rfl | exact Or.inr (Or.inl rfl)) (re_op op_fdivW ops_div (re_ix ixr_any ops_ix (ev 0) (re_int) (fun _ _ => rfl)) (ev 1)) (re_int) (ps_asg (re_op op_fdivW ops_div (re_ix ixr_any ops_ix (ev 0) (re_int) (fun _ _ => rfl)) (ev 1)) (pg_sub (pv 0) (re_int) set_list)))
        (rs_one (rs_ret (ev 2))))) (rs_nil))
        (rs_cons (rs_sto (j := 0) rfl (by first | exact Or.inl rfl | exact Or.inr (Or.inl rfl)) (re_op op_mod ops_mod (re_t1 call_int1 uns_int (by rfl) T.n_int (by decide +kernel) (re_op opr_add ops_add (re_op opr_mul2 ops_mul2 (re_ix ixr_any ops_ix (ev 0) (re_int) (fun _ _ => rfl)) (re_int)) (re_int))) (re_int)) (re_int) (ps_asg (re_op op_mod ops_mod (re_t1 call_int1 uns_int (by rfl) T.n_int (by decide +kernel) (re_op opr_add ops_add (re_op opr_mul2 ops_mul2 (re_ix ixr_any ops_ix (ev 0) (re_int) (fun _ _ => rfl)) (re_int)) (re_int))) (re_int)) (pg_sub (pv 0) (re_int) set_list)))
        (rs_one (rs_ret (re_op op_mod ops_mod (re_t1 call_int1 uns_int (by rfl) T.n_int (by decide +kernel) (re_op op_fdivW ops_div (re_ix ixr_any ops_ix (ev 0) (re_int) (fun _ _ => rfl)) (re_int))) (ev 1)))))
abbrev N__law_plain : List Str := ["x"]
theorem sc__law_plain : FnScope N__law_plain ["x"] (defScope s__law_plain) := ⟨rfl, rfl, rfl, by decide +kernel, rfl, by decide +kernel, by decide +kernel⟩
theorem ok__law_plain (T : Tx K mg G) : Good P w K mg base G 1 31 1 ["x"] [] F__law_plain :=
  good_of (N := N__law_plain) T.d__law_plain sc__law_plain rfl fun f cdv A outer s H E hr => by
    have nd := sc__law_plain.nd
    have tk : Takes (cxOf (L2.CX P w) P w K mg base N__law_plain "_law_plain" (defScope s__law_plain) f cdv A outer s H E) (fun cls d _ H => E cls d H) := takes_of rfl rfl rfl rfl
    have hp : PassesOwn (model P w) (cxOf (L2.CX P w) P w K mg base N__law_plain "_law_plain" (defScope s__law_plain) f cdv A outer s H E).A (cxOf (L2.CX P w) P w K mg base N__law_plain "_law_plain" (defScope s__law_plain) f cdv A outer s H E).env (cxOf (L2.CX P w) P w K mg base N__law_plain "_law_plain" (defScope s__law_plain) f cdv A outer s H E).xe := PassesOwn.leaving
    exact rs_one (rs_ret (re_and (re_isi .int (by rfl) T.n_isinstance (by rfl) T.n_int (by decide +kernel) (ev 0)) (re_one (re_not (re_isi .bool (by rfl) T.n_isinstance (by rfl) T.n_bool (by decide +kernel) (ev 0))))))
abbrev N__law_raised : List Str := ["a", "k", "total", "t"]
theorem sc__law_raised : FnScope N__law_raised ["a", "k"] (defScope s__law_raised) := ⟨rfl, rfl, rfl, by decide +kernel, rfl, by decide +kernel, by decide +kernel⟩
theorem ok__law_raised (T : Tx K mg G) : Good P w K mg base G 1 34 2 ["a", "k"] [] F__law_raised :=
  good_of (N := N__law_raised) T.d__law_raised sc__law_raised rfl fun f cdv A outer s H E hr => by
    have nd := sc__law_raised.nd
    have tk : Takes (cxOf (L2.CX P w) P w K mg base N__law_raised "_law_raised" (defScope s__law_raised) f cdv A outer s H E) (fun cls d _ H => E cls d H) := takes_of rfl rfl rfl rfl
    have hp : PassesOwn (model P w) (cxOf (L2.CX P w) P w K mg base N__law_raised "_law_raised" (defScope s__law_raised) f cdv A outer s H E).A (cxOf (L2.CX P w) P w K mg base N__law_raised "_law_raised" (defScope s__law_raised) f cdv A outer s H E).env (cxOf (L2.CX P w) P w K mg base N__law_raised "_law_raised" (defScope s__law_raised) f cdv A outer s H E).xe := PassesOwn.leaving
    exact rs_cons (rs_set (i := 2) nd rfl (by first | exact Or.inl rfl | exact Or.inr rfl) (re_int) (by first | exact .inl rfl | exact .inr rfl))
        (rs_cons (rs_for' (.nm 3) hp (ri_range1 (by rfl) T.n_range (ra_cons (ev 1) (ra_nil))) (pg_name (i := 3) nd rfl (by first | exact Or.inl rfl | exact Or.inr rfl) (by first | exact .inl rfl | exact .inr rfl)) (rs_one (rs_set (i := 2) nd rfl (by first | exact Or.inl rfl | exact Or.inr rfl) (re_op opr_mul2 ops_mul2 (ev 2) (ev 0)) (by first | exact .inl rfl | exact .inr rfl))))
        (rs_one (rs_ret (ev 2))))
abbrev N__law_words : List Str := ["sizes", "found", "size", "longer", "own", "x"]
def sc__law_words_0 : PySem.Scope := { kind := PySem.ScopeKind.function, names := [(PySem.Str.ofString ".0", PySem.NameKind.local), (PySem.Str.ofString "x", PySem.NameKind.local), (PySem.Str.ofString "own", PySem.NameKind.cell)], isGenerator := false, isCoroutine := false, more := [] : PySem.Scope }
theorem sc__law_words : FnScope N__law_words ["sizes"] (defScope s__law_words) := ⟨rfl, rfl, rfl, by decide +kernel, rfl, by decide +kernel, by decide +kernel⟩
theorem ok__law_words (T : Tx K mg G) : Good P w K mg base G 1 35 1 ["sizes"] [] F__law_words :=
  good_of (N := N__law_words) T.d__law_words sc__law_words rfl fun f cdv A outer s H E hr => by
    have nd := sc__law_words.nd
    have tk : Takes (cxOf (L2.CX P w) P w K mg base N__law_words "_law_words" (defScope s__law_words) f cdv A outer s H E) (fun cls d _ H => E cls d H) := takes_of rfl rfl rfl rfl
    have hp : PassesOwn (model P w) (cxOf (L2.CX P w) P w K mg base N__law_words "_law_words" (defScope s__law_words) f cdv A outer s H E).A (cxOf (L2.CX P w) P w K mg base N__law_words "_law_words" (defScope s__law_words) f cdv A outer s H E).env (cxOf (L2.CX P w) P w K mg base N__law_words "_law_words" (defScope s__law_words) f cdv A outer s H E).xe := PassesOwn.leaving
    exact rs_cons (rs_set (i := 1) nd rfl (by first | exact Or.inl rfl | exact Or.inr rfl) (re_lst (ra_cons (re_tup (ra_nil)) (ra_nil))) (by first | exact .inl rfl | exact .inr rfl))
        (rs_cons (rs_for' (.nm 2) hp (ri_seq (ev 0)) (pg_name (i := 2) nd rfl (by first | exact Or.inl rfl | exact Or.inr rfl) (by first | exact .inl rfl | exact .inr rfl)) (rs_cons (rs_set (i := 3) nd rfl (by first | exact Or.inl rfl | exact Or.inr rfl) (re_lst (ra_nil)) (by first | exact .inl rfl | exact .inr rfl))
        (rs_cons (rs_for' (.nm 4) hp (ri_seq (ev 1)) (pg_name (i := 4) nd rfl (by first | exact Or.inl rfl | exact Or.inr rfl) (by first | exact .inl rfl | exact .inr rfl)) (rs_one (rs_set (i := 3) nd rfl (by first | exact Or.inl rfl | exact Or.inr rfl) (re_op opr_add ops_add (ev 3) (re_lc (own := [("x", 5)]) (t := .nm 5) rfl nd (ri_range1 (by rfl) T.n_range (ra_cons (ev 2) (ra_nil))) (blkOk_by (own := [("x", 5)]) (N := N__law_words) (sc := (defScope s__law_words)) (by decide +kernel)) (fun _ _ _ _ _ => pg_name (i := 5) nd rfl (by first | exact Or.inl rfl | exact Or.inr rfl) (by first | exact .inl rfl | exact .inr rfl)) (fun _ _ _ _ _ => rts_nil) (fun _ _ _ _ _ => re_op opr_add ops_add (ev 4) (re_tup (ra_cons (ev 5) (ra_nil)))) (by decide))) (by first | exact .inl rfl | exact .inr rfl))))
        (rs_one (rs_set (i := 1) nd rfl (by first | exact Or.inl rfl | exact Or.inr rfl) (re_t1 call_list_of uns_lst (by rfl) T.n_list (by decide +kernel) (ev 3)) (by first | exact .inl rfl | exact .inr rfl))))))
        (rs_one (rs_ret (ev 1))))
abbrev N_is_count : List Str := ["value", "low", "high"]
theorem sc_is_count : FnScope N_is_count ["value", "low", "high"] (defScope s_is_count) := ⟨rfl, rfl, rfl, by decide +kernel, rfl, by decide +kernel, by decide +kernel⟩
theorem ok_is_count (T : Tx K mg G) : Good P w K mg base G 2 1 3 ["value", "low", "high"] [] F_is_count :=
  good_of (N := N_is_count) T.d_is_count sc_is_count rfl fun f cdv A outer s H E hr => by
    have nd := sc_is_count.nd
    have tk : Takes (cxOf (L2.CX P w) P w K mg base N_is_count "is_count" (defScope s_is_count) f cdv A outer s H E) (fun cls d _ H => E cls d H) := takes_of rfl rfl rfl rfl
    have hp : PassesOwn (model P w) (cxOf (L2.CX P w) P w K mg base N_is_count "is_count" (defScope s_is_count) f cdv A outer s H E).A (cxOf (L2.CX P w) P w K mg base N_is_count "is_count" (defScope s_is_count) f cdv A outer s H E).env (cxOf (L2.CX P w) P w K mg base N_is_count "is_count" (defScope s_is_count) f cdv A outer s H E).xe := PassesOwn.leaving
    exact rs_one (rs_ret (re_and (ecall0 (ok_is_integer T) (hr.mono (by decide)) tk T.m_is_integer (ra_cons (ev 0) (ra_nil))) (re_one (re_chain op_le op_le ops_le ops_le (ev 1) (ev 0) (ev 2)))))
abbrev N_is_whole_row : List Str := ["value", "x"]
def sc_is_whole_row_0 : PySem.Scope := { kind := PySem.ScopeKind.function, names := [(PySem.Str.ofString ".0", PySem.NameKind.local), (PySem.Str.ofString "x", PySem.NameKind.local), (PySem.Str.ofString "is_integer", PySem.NameKind.globalImplicit)], isGenerator := false, isCoroutine := false, more := [] : PySem.Scope }
theorem sc_is_whole_row : FnScope N_is_whole_row ["value"] (defScope s_is_whole_row) := ⟨rfl, rfl, rfl, by decide +kernel, rfl, by decide +kernel, by decide +kernel⟩
theorem ok_is_whole_row (T : Tx K mg G) : Good P w K mg base G 2 3 1 ["value"] [] F_is_whole_row :=
  good_of (N := N_is_whole_row) T.d_is_whole_row sc_is_whole_row rfl fun f cdv A outer s H E hr => by
    have nd := sc_is_whole_row.nd
    have tk : Takes (cxOf (L2.CX P w) P w K mg base N_is_whole_row "is_whole_row" (defScope s_is_whole_row) f cdv A outer s H E) (fun cls d _ H => E cls d H) := takes_of rfl rfl rfl rfl
    have hp : PassesOwn (model P w) (cxOf (L2.CX P w) P w K mg base N_is_whole_row "is_whole_row" (defScope s_is_whole_row) f cdv A outer s H E).A (cxOf (L2.CX P w) P w K mg base N_is_whole_row "is_whole_row" (defScope s_is_whole_row) f cdv A outer s H E).env (cxOf (L2.CX P w) P w K mg base N_is_whole_row "is_whole_row" (defScope s_is_whole_row) f cdv A outer s H E).xe := PassesOwn.leaving
    exact rs_one (rs_ret (re_and (re_isi .tuple (by rfl) T.n_isinstance (by rfl) T.n_tuple (by decide +kernel) (ev 0)) (re_one (re_b1 (cr_all rfl) uns_all (by rfl) T.n_all (by decide +kernel) (re_lc (own := [("x", 1)]) (t := .nm 1) rfl nd (ri_seq (ev 0)) (blkOk_by (own := [("x", 1)]) (N := N_is_whole_row) (sc := (defScope s_is_whole_row)) (by decide +kernel)) (fun _ _ _ _ _ => pg_name (i := 1) nd rfl (by first | exact Or.inl rfl | exact Or.inr rfl) (by first | exact .inl rfl | exact .inr rfl)) (fun _ _ _ _ _ => rts_nil) (fun _ _ _ _ _ => ecall0 (ok_is_integer T) (hr.mono (by decide)) takes0 T.m_is_integer (ra_cons (ev 1) (ra_nil))) (by decide))))))
abbrev N_is_prime : List Str := ["n", "p"]
theorem sc_is_prime : FnScope N_is_prime ["n"] (defScope s_is_prime) := ⟨rfl, rfl, rfl, by decide +kernel, rfl, by decide +kernel, by decide +kernel⟩
theorem ok_is_prime (T : Tx K mg G) : Good P w K mg base G 2 6 1 ["n"] [] F_is_prime :=
  good_of (N := N_is_prime) T.d_is_prime sc_is_prime rfl fun f cdv A outer s H E hr => by
    have nd := sc_is_prime.nd
    have tk : Takes (cxOf (L2.CX P w) P w K mg base N_is_prime "is_prime" (defScope s_is_prime) f cdv A outer s H E) (fun cls d _ H => E cls d H) := takes_of rfl rfl rfl rfl
    have hp : PassesOwn (model P w) (cxOf (L2.CX P w) P w K mg base N_is_prime "is_prime" (defScope s_is_prime) f cdv A outer s H E).A (cxOf (L2.CX P w) P w K mg base N_is_prime "is_prime" (defScope s_is_prime) f cdv A outer s H E).env (cxOf (L2.CX P w) P w K mg base N_is_prime "is_prime" (defScope s_is_prime) f cdv A outer s H E).xe := PassesOwn.leaving
    exact rs_cons (rs_if ((rw_or (rt_not (rt_val (ecall0 (ok_is_integer T) (hr.mono (by decide)) tk T.m_is_integer (ra_cons (ev 0) (ra_nil))))) (rw_or1 (rt_cmp op_lt ops_lt (ev 0) (re_int) (nomark _)))).pt) (rs_one (rs_ret (re_bl))) (rs_nil))
        (rs_cons (rs_set (i := 1) nd rfl (by first | exact Or.inl rfl | exact Or.inr rfl) (re_int) (by first | exact .inl rfl | exact .inr rfl))
        (rs_cons (rs_while (n := 1000000) hp (rt_cmp op_le ops_le (re_op opr_mul2 ops_mul2 (ev 1) (ev 1)) (ev 0) (nomark _)) (rs_cons (rs_if (rt_cmp (opr_eq hr.units) ops_eq (re_op op_mod ops_mod (ev 0) (ev 1)) (re_int) (nomark _)) (rs_one (rs_ret (re_bl))) (rs_nil))
        (rs_one (rs_set (i := 1) nd rfl (by first | exact Or.inl rfl | exact Or.inr rfl) (re_op opr_add ops_add (ev 1) (re_int)) (by first | exact .inl rfl | exact .inr rfl)))))
        (rs_one (rs_ret (re_bl)))))
abbrev N_ghosts_of : List Str := ["x", "p", "found", "n", "k"]
def sc_ghosts_of_0 : PySem.Scope := { kind := PySem.ScopeKind.function, names := [(PySem.Str.ofString ".0", PySem.NameKind.local), (PySem.Str.ofString "k", PySem.NameKind.local), (PySem.Str.ofString "power", PySem.NameKind.globalImplicit), (PySem.Str.ofString "n", PySem.NameKind.cell), (PySem.Str.ofString "p", PySem.NameKind.cell), (PySem.Str.ofString "x", PySem.NameKind.cell)], isGenerator := false, isCoroutine := false, more := [] : PySem.Scope }
theorem sc_ghosts_of : FnScope N_ghosts_of ["x", "p"] (defScope s_ghosts_of) := ⟨rfl, rfl, rfl, by decide +kernel, rfl, by decide +kernel, by decide +kernel⟩
theorem ok_ghosts_of (T : Tx K mg G) : Good P w K mg base G 2 13 2 ["x", "p"] [] F_ghosts_of :=
  good_of (N := N_ghosts_of) T.d_ghosts_of sc_ghosts_of rfl fun f cdv A outer s H E hr => by
    have nd := sc_ghosts_of.nd
    have tk : Takes (cxOf (L2.CX P w) P w K mg base N_ghosts_of "ghosts_of" (defScope s_ghosts_of) f cdv A outer s H E) (fun cls d _ H => E cls d H) := takes_of rfl rfl rfl rfl
    have hp : PassesOwn (model P w) (cxOf (L2.CX P w) P w K mg base N_ghosts_of "ghosts_of" (defScope s_ghosts_of) f cdv A outer s H E).A (cxOf (L2.CX P w) P w K mg base N_ghosts_of "ghosts_of" (defScope s_ghosts_of) f cdv A outer s H E).env (cxOf (L2.CX P w) P w K mg base N_ghosts_of "ghosts_of" (defScope s_ghosts_of) f cdv A outer s H E).xe := PassesOwn.leaving
    exact rs_cons (rs_set (i := 2) nd rfl (by first | exact Or.inl rfl | exact Or.inr rfl) (re_lst (ra_nil)) (by first | exact .inl rfl | exact .inr rfl))
        (rs_cons (rs_for' (.nm 3) hp (ri_range1 (by rfl) T.n_range (ra_cons (re_b1 call_len_seq uns_len (by rfl) T.n_len PySem.boot_len (ev 0)) (ra_nil))) (pg_name (i := 3) nd rfl (by first | exact Or.inl rfl | exact Or.inr rfl) (by first | exact .inl rfl | exact .inr rfl)) (rs_one (rs_app' 2 (re_b1 (cr_sum rfl) uns_sum (by rfl) T.n_sum (by decide +kernel) (re_lc (own := [("k", 4)]) (t := .nm 4) rfl nd (ri_range1 (by rfl) T.n_range (ra_cons (re_op opr_add ops_add (ev 3) (re_int)) (ra_nil))) (blkOk_by (own := [("k", 4)]) (N := N_ghosts_of) (sc := (defScope s_ghosts_of)) (by decide +kernel)) (fun _ _ _ _ _ => pg_name (i := 4) nd rfl (by first | exact Or.inl rfl | exact Or.inr rfl) (by first | exact .inl rfl | exact .inr rfl)) (fun _ _ _ _ _ => rts_nil) (fun _ _ _ _ _ => re_op opr_mul2 ops_mul2 (ecall0 (ok_power T) (hr.mono (by decide)) takes0 T.m_power (ra_cons (ev 1) (ra_cons (ev 4) (ra_nil)))) (ecall0 (ok_power T) (hr.mono (by decide)) takes0 T.m_power (ra_cons (re_ix ixr_any ops_ix (ev 0) (ev 4) (fun _ _ => rfl)) (ra_cons (ecall0 (ok_power T) (hr.mono (by decide)) takes0 T.m_power (ra_cons (ev 1) (ra_cons (re_op op_sub ops_sub (ev 3) (ev 4)) (ra_nil)))) (ra_nil))))) (by decide))) (hcall := pe_bm PySem.F.plainAttrs_list PySem.F.slot_list_append PySem.F.type_list_append mt_append (pv 2) (pa_cons (re_b1 (cr_sum rfl) uns_sum (by rfl) T.n_sum (by decide +kernel) (re_lc (own := [("k", 4)]) (t := .nm 4) rfl nd (ri_range1 (by rfl) T.n_range (ra_cons (re_op opr_add ops_add (ev 3) (re_int)) (ra_nil))) (blkOk_by (own := [("k", 4)]) (N := N_ghosts_of) (sc := (defScope s_ghosts_of)) (by decide +kernel)) (fun _ _ _ _ _ => pg_name (i := 4) nd rfl (by first | exact Or.inl rfl | exact Or.inr rfl) (by first | exact .inl rfl | exact .inr rfl)) (fun _ _ _ _ _ => rts_nil) (fun _ _ _ _ _ => re_op opr_mul2 ops_mul2 (ecall0 (ok_power T) (hr.mono (by decide)) takes0 T.m_power (ra_cons (ev 1) (ra_cons (ev 4) (ra_nil)))) (ecall0 (ok_power T) (hr.mono (by decide)) takes0 T.m_power (ra_cons (re_ix ixr_any ops_ix (ev 0) (ev 4) (fun _ _ => rfl)) (ra_cons (ecall0 (ok_power T) (hr.mono (by decide)) takes0 T.m_power (ra_cons (ev 1) (ra_cons (re_op op_sub ops_sub (ev 3) (ev 4)) (ra_nil)))) (ra_nil))))) (by decide))) pa_nil)))))
        (rs_one (rs_ret (re_t1 call_tuple_of uns_tup (by rfl) T.n_tuple (by decide +kernel) (ev 2)))))
abbrev N_vector_of : List Str := ["row", "p", "found", "n", "rest", "k"]
def sc_vector_of_0 : PySem.Scope := { kind := PySem.ScopeKind.function, names := [(PySem.Str.ofString ".0", PySem.NameKind.local), (PySem.Str.ofString "k", PySem.NameKind.local), (PySem.Str.ofString "power", PySem.NameKind.globalImplicit), (PySem.Str.ofString "found", PySem.NameKind.cell), (PySem.Str.ofString "n", PySem.NameKind.cell), (PySem.Str.ofString "p", PySem.NameKind.cell)], isGenerator := false, isCoroutine := false, more := [] : PySem.Scope }
theorem sc_vector_of : FnScope N_vector_of ["row", "p"] (defScope s_vector_of) := ⟨rfl, rfl, rfl, by decide +kernel, rfl, by decide +kernel, by decide +kernel⟩
theorem ok_vector_of (T : Tx K mg G) : Good P w K mg base G 2 14 2 ["row", "p"] [] F_vector_of :=
  good_of (N := N_vector_of) T.d_vector_of sc_vector_of rfl fun f cdv A outer s H E hr => by
    have nd := sc_vector_of.nd
    have tk : Takes (cxOf (L2.CX P w) P w K mg base N_vector_of "vector_of" (defScope s_vector_of) f cdv A outer s H E) (fun cls d _ H => E cls d H) := takes_of rfl rfl rfl rfl
    have hp : PassesOwn (model P w) (cxOf (L2.CX P w) P w K mg base N_vector_of "vector_of" (defScope s_vector_of) f cdv A outer s H E).A (cxOf (L2.CX P w) P w K mg base N_vector_of "vector_of" (defScope s_vector_of) f cdv A outer s H E).env (cxOf (L2.CX P w) P w K mg base N_vector_of "vector_of" (defScope s_vector_of) f cdv A outer s H E).xe := PassesOwn.leaving
    exact rs_cons (rs_set (i := 2) nd rfl (by first | exact Or.inl rfl | exact Or.inr rfl) (re_lst (ra_nil)) (by first | exact .inl rfl | exact .inr rfl))
        (rs_cons (rs_for' (.nm 3) hp (ri_range1 (by rfl) T.n_range (ra_cons (re_b1 call_len_seq uns_len (by rfl) T.n_len PySem.boot_len (ev 0)) (ra_nil))) (pg_name (i := 3) nd rfl (by first | exact Or.inl rfl | exact Or.inr rfl) (by first | exact .inl rfl | exact .inr rfl)) (rs_cons (rs_set (i := 4) nd rfl (by first | exact Or.inl rfl | exact Or.inr rfl) (re_op op_sub ops_sub (re_ix ixr_any ops_ix (ev 0) (ev 3) (fun _ _ => rfl)) (re_b1 (cr_sum rfl) uns_sum (by rfl) T.n_sum (by decide +kernel) (re_lc (own := [("k", 5)]) (t := .nm 5) rfl nd (ri_range1 (by rfl) T.n_range (ra_cons (ev 3) (ra_nil))) (blkOk_by (own := [("k", 5)]) (N := N_vector_of) (sc := (defScope s_vector_of)) (by decide +kernel)) (fun _ _ _ _ _ => pg_name (i := 5) nd rfl (by first | exact Or.inl rfl | exact Or.inr rfl) (by first | exact .inl rfl | exact .inr rfl)) (fun _ _ _ _ _ => rts_nil) (fun _ _ _ _ _ => re_op opr_mul2 ops_mul2 (ecall0 (ok_power T) (hr.mono (by decide)) takes0 T.m_power (ra_cons (ev 1) (ra_cons (ev 5) (ra_nil)))) (ecall0 (ok_power T) (hr.mono (by decide)) takes0 T.m_power (ra_cons (re_ix ixr_any ops_ix (ev 2) (ev 5) (fun _ _ => rfl)) (ra_cons (ecall0 (ok_power T) (hr.mono (by decide)) takes0 T.m_power (ra_cons (ev 1) (ra_cons (re_op op_sub ops_sub (ev 3) (ev 5)) (ra_nil)))) (ra_nil))))) (by decide)))) (by first | exact .inl rfl | exact .inr rfl))
        (rs_one (rs_app' 2 (re_op op_fdivW ops_div (ev 4) (ecall0 (ok_power T) (hr.mono (by decide)) tk T.m_power (ra_cons (ev 1) (ra_cons (ev 3) (ra_nil))))) (hcall := pe_bm PySem.F.plainAttrs_list PySem.F.slot_list_append PySem.F.type_list_append mt_append (pv 2) (pa_cons (re_op op_fdivW ops_div (ev 4) (ecall0 (ok_power T) (hr.mono (by decide)) tk T.m_power (ra_cons (ev 1) (ra_cons (ev 3) (ra_nil))))) pa_nil))))))
        (rs_one (rs_ret (re_t1 call_tuple_of uns_tup (by rfl) T.n_tuple (by decide +kernel) (ev 2)))))
abbrev N__law_prime : List Str := ["state", "high", "lot", "p"]
def sc__law_prime_0 : PySem.Scope := { kind := PySem.ScopeKind.function, names := [(PySem.Str.ofString ".0", PySem.NameKind.local), (PySem.Str.ofString "p", PySem.NameKind.local), (PySem.Str.ofString "high", PySem.NameKind.cell)], isGenerator := false, isCoroutine := false, more := [] : PySem.Scope }
theorem sc__law_prime : FnScope N__law_prime ["state", "high"] (defScope s__law_prime) := ⟨rfl, rfl, rfl, by decide +kernel, rfl, by decide +kernel, by decide +kernel⟩
theorem ok__law_prime (T : Tx K mg G) : GoodB P w K mg base G 2 36 2 ["state", "high"] F__law_prime :=
  goodB_of (N := N__law_prime) T.d__law_prime sc__law_prime rfl fun f cdv A outer s H E hr => by
    have nd := sc__law_prime.nd
    have tk : Takes (cxOf (L2.CX P w) P w K mg base N__law_prime "_law_prime" (defScope s__law_prime) f cdv A outer s H E) (fun cls d _ H => E cls d H) := takes_of rfl rfl rfl rfl
    have hp : PassesOwn (model P w) (cxOf (L2.CX P w) P w K mg base N__law_prime "_law_prime" (defScope s__law_prime) f cdv A outer s H E).A (cxOf (L2.CX P w) P w K mg base N__law_prime "_law_prime" (defScope s__law_prime) f cdv A outer s H E).env (cxOf (L2.CX P w) P w K mg base N__law_prime "_law_prime" (defScope s__law_prime) f cdv A outer s H E).xe := PassesOwn.leaving
    exact rs_cons (rs_setLc (i := 2) (own := [("p", 3)]) (t := .nm 3) rfl nd rfl rfl (sw_true rfl rfl rfl (by decide +kernel)) (ri_seq (re_tup (ra_cons (re_int) (ra_cons (re_int) (ra_cons (re_int) (ra_cons (re_int) (ra_cons (re_int) (ra_cons (re_int) (ra_nil))))))))) (blkOk_by (own := [("p", 3)]) (N := N__law_prime) (sc := (defScope s__law_prime)) (by decide +kernel)) (fun _ _ _ _ _ => pg_name (i := 3) nd rfl (by first | exact Or.inl rfl | exact Or.inr rfl) (by first | exact .inl rfl | exact .inr rfl)) (fun _ _ _ _ _ => rts_one (rt_cmp op_le ops_le (ev 3) (ev 1) (nomark _))) (fun _ _ _ _ _ => ev 3) (by decide))
        (rs_one (rs_ret (re_ix ixr_any ops_ix (ev 2) (ecallB (j := 0) (ok__law_take T) (hr.mono (by decide)) tk T.m__law_take (ra_cons (re_b1 call_len_seq uns_len (by rfl) T.n_len PySem.boot_len (ev 2)) (ra_nil))) (fun _ _ => rfl))))
abbrev N__law_number : List Str := ["x", "p", "n", "k"]
def sc__law_number_0 : PySem.Scope := { kind := PySem.ScopeKind.function, names := [(PySem.Str.ofString ".0", PySem.NameKind.local), (PySem.Str.ofString "k", PySem.NameKind.local), (PySem.Str.ofString "_law_raised", PySem.NameKind.globalImplicit), (PySem.Str.ofString "n", PySem.NameKind.cell), (PySem.Str.ofString "p", PySem.NameKind.cell), (PySem.Str.ofString "x", PySem.NameKind.cell)], isGenerator := false, isCoroutine := false, more := [] : PySem.Scope }
theorem sc__law_number : FnScope N__law_number ["x", "p"] (defScope s__law_number) := ⟨rfl, rfl, rfl, by decide +kernel, rfl, by decide +kernel, by decide +kernel⟩
theorem ok__law_number (T : Tx K mg G) : Good P w K mg base G 2 37 2 ["x", "p"] [] F__law_number :=
  good_of (N := N__law_number) T.d__law_number sc__law_number rfl fun f cdv A outer s H E hr => by
    have nd := sc__law_number.nd
    have tk : Takes (cxOf (L2.CX P w) P w K mg base N__law_number "_law_number" (defScope s__law_number) f cdv A outer s H E) (fun cls d _ H => E cls d H) := takes_of rfl rfl rfl rfl
    have hp : PassesOwn (model P w) (cxOf (L2.CX P w) P w K mg base N__law_number "_law_number" (defScope s__law_number) f cdv A outer s H E).A (cxOf (L2.CX P w) P w K mg base N__law_number "_law_number" (defScope s__law_number) f cdv A outer s H E).env (cxOf (L2.CX P w) P w K mg base N__law_number "_law_number" (defScope s__law_number) f cdv A outer s H E).xe := PassesOwn.leaving
    exact rs_cons (rs_set (i := 2) nd rfl (by first | exact Or.inl rfl | exact Or.inr rfl) (re_b1 call_len_seq uns_len (by rfl) T.n_len PySem.boot_len (ev 0)) (by first | exact .inl rfl | exact .inr rfl))
        (rs_one (rs_ret (re_op op_mod ops_mod (re_t1 call_int1 uns_int (by rfl) T.n_int (by decide +kernel) (re_b1 (cr_sum rfl) uns_sum (by rfl) T.n_sum (by decide +kernel) (re_lc (own := [("k", 3)]) (t := .nm 3) rfl nd (ri_range1 (by rfl) T.n_range (ra_cons (ev 2) (ra_nil))) (blkOk_by (own := [("k", 3)]) (N := N__law_number) (sc := (defScope s__law_number)) (by decide +kernel)) (fun _ _ _ _ _ => pg_name (i := 3) nd rfl (by first | exact Or.inl rfl | exact Or.inr rfl) (by first | exact .inl rfl | exact .inr rfl)) (fun _ _ _ _ _ => rts_nil) (fun _ _ _ _ _ => re_op opr_mul2 ops_mul2 (ecall0 (ok__law_raised T) (hr.mono (by decide)) takes0 T.m__law_raised (ra_cons (ev 1) (ra_cons (ev 3) (ra_nil)))) (ecall0 (ok__law_raised T) (hr.mono (by decide)) takes0 T.m__law_raised (ra_cons (re_ix ixr_any ops_ix (ev 0) (ev 3) (fun _ _ => rfl)) (ra_cons (ecall0 (ok__law_raised T) (hr.mono (by decide)) takes0 T.m__law_raised (ra_cons (ev 1) (ra_cons (re_op op_sub ops_sub (ev 2) (re_int)) (ra_nil)))) (ra_nil))))) (by decide)))) (ecall0 (ok__law_raised T) (hr.mono (by decide)) tk T.m__law_raised (ra_cons (ev 1) (ra_cons (ev 2) (ra_nil)))))))
abbrev N_check_count : List Str := ["value", "low", "high"]
theorem sc_check_count : FnScope N_check_count ["value", "low", "high"] (defScope s_check_count) := ⟨rfl, rfl, rfl, by decide +kernel, rfl, by decide +kernel, by decide +kernel⟩
theorem ok_check_count (T : Tx K mg G) : Good P w K mg base G 3 2 3 ["value", "low", "high"] [] F_check_count :=
  good_of (N := N_check_count) T.d_check_count sc_check_count rfl fun f cdv A outer s H E hr => by
    have nd := sc_check_count.nd
    have tk : Takes (cxOf (L2.CX P w) P w K mg base N_check_count "check_count" (defScope s_check_count) f cdv A outer s H E) (fun cls d _ H => E cls d H) := takes_of rfl rfl rfl rfl
    have hp : PassesOwn (model P w) (cxOf (L2.CX P w) P w K mg base N_check_count "check_count" (defScope s_check_count) f cdv A outer s H E).A (cxOf (L2.CX P w) P w K mg base N_check_count "check_count" (defScope s_check_count) f cdv A outer s H E).env (cxOf (L2.CX P w) P w K mg base N_check_count "check_count" (defScope s_check_count) f cdv A outer s H E).xe := PassesOwn.leaving
    exact rs_one (rs_if (rt_not (rt_val (ecall0 (ok_is_count T) (hr.mono (by decide)) tk T.m_is_count (ra_cons (ev 0) (ra_cons (ev 1) (ra_cons (ev 2) (ra_nil))))))) (rs_one (rs_mal rfl rfl tk PySem.F.excBase_ValueError T.xM T.gM T.kM (raises_own T.bM T.tM) (by rfl))) (rs_nil))
abbrev N_check_prime : List Str := ["p", "high"]
theorem sc_check_prime : FnScope N_check_prime ["p", "high"] (defScope s_check_prime) := ⟨rfl, rfl, rfl, by decide +kernel, rfl, by decide +kernel, by decide +kernel⟩
theorem ok_check_prime (T : Tx K mg G) : Good P w K mg base G 3 7 2 ["p", "high"] [] F_check_prime :=
  good_of (N := N_check_prime) T.d_check_prime sc_check_prime rfl fun f cdv A outer s H E hr => by
    have nd := sc_check_prime.nd
    have tk : Takes (cxOf (L2.CX P w) P w K mg base N_check_prime "check_prime" (defScope s_check_prime) f cdv A outer s H E) (fun cls d _ H => E cls d H) := takes_of rfl rfl rfl rfl
    have hp : PassesOwn (model P w) (cxOf (L2.CX P w) P w K mg base N_check_prime "check_prime" (defScope s_check_prime) f cdv A outer s H E).A (cxOf (L2.CX P w) P w K mg base N_check_prime "check_prime" (defScope s_check_prime) f cdv A outer s H E).env (cxOf (L2.CX P w) P w K mg base N_check_prime "check_prime" (defScope s_check_prime) f cdv A outer s H E).xe := PassesOwn.leaving
    exact rs_one (rs_if ((rw_or (rt_not (rt_val (ecall0 (ok_is_count T) (hr.mono (by decide)) tk T.m_is_count (ra_cons (ev 0) (ra_cons (re_int) (ra_cons (ev 1) (ra_nil))))))) (rw_or1 (rt_not (rt_val (ecall0 (ok_is_prime T) (hr.mono (by decide)) tk T.m_is_prime (ra_cons (ev 0) (ra_nil))))))).pt) (rs_one (rs_mal rfl rfl tk PySem.F.excBase_ValueError T.xM T.gM T.kM (raises_own T.bM T.tM) (by rfl))) (rs_nil))
abbrev N_is_vector : List Str := ["value", "p", "x"]
def sc_is_vector_0 : PySem.Scope := { kind := PySem.ScopeKind.function, names := [(PySem.Str.ofString ".0", PySem.NameKind.local), (PySem.Str.ofString "x", PySem.NameKind.local), (PySem.Str.ofString "abs", PySem.NameKind.globalImplicit), (PySem.Str.ofString "MOST_ITEM", PySem.NameKind.globalImplicit)], isGenerator := false, isCoroutine := false, more := [] : PySem.Scope }
theorem sc_is_vector : FnScope N_is_vector ["value", "p"] (defScope s_is_vector) := ⟨rfl, rfl, rfl, by decide +kernel, rfl, by decide +kernel, by decide +kernel⟩
theorem ok_is_vector (T : Tx K mg G) : Good P w K mg base G 3 10 2 ["value", "p"] [] F_is_vector :=
  good_of (N := N_is_vector) T.d_is_vector sc_is_vector rfl fun f cdv A outer s H E hr => by
    have nd := sc_is_vector.nd
    have tk : Takes (cxOf (L2.CX P w) P w K mg base N_is_vector "is_vector" (defScope s_is_vector) f cdv A outer s H E) (fun cls d _ H => E cls d H) := takes_of rfl rfl rfl rfl
    have hp : PassesOwn (model P w) (cxOf (L2.CX P w) P w K mg base N_is_vector "is_vector" (defScope s_is_vector) f cdv A outer s H E).A (cxOf (L2.CX P w) P w K mg base N_is_vector "is_vector" (defScope s_is_vector) f cdv A outer s H E).env (cxOf (L2.CX P w) P w K mg base N_is_vector "is_vector" (defScope s_is_vector) f cdv A outer s H E).xe := PassesOwn.leaving
    exact rs_cons (rs_if ((rw_or (rt_not (rt_val (ecall0 (ok_is_whole_row T) (hr.mono (by decide)) tk T.m_is_whole_row (ra_cons (ev 0) (ra_nil))))) (rw_or1 (rt_not (rt_chain op_le op_le ops_le ops_le (re_int) (re_b1 call_len_seq uns_len (by rfl) T.n_len PySem.boot_len (ev 0)) (re_if (rt_cmp op_lt ops_lt (ev 1) (re_int) (nomark _)) (re_gint (by rfl) T.c_MOST_LENGTH) (re_int)))))).pt) (rs_one (rs_ret (re_bl))) (rs_nil))
        (rs_one (rs_ret (re_b1 (cr_all rfl) uns_all (by rfl) T.n_all (by decide +kernel) (re_lc (own := [("x", 2)]) (t := .nm 2) rfl nd (ri_seq (ev 0)) (blkOk_by (own := [("x", 2)]) (N := N_is_vector) (sc := (defScope s_is_vector)) (by decide +kernel)) (fun _ _ _ _ _ => pg_name (i := 2) nd rfl (by first | exact Or.inl rfl | exact Or.inr rfl) (by first | exact .inl rfl | exact .inr rfl)) (fun _ _ _ _ _ => rts_nil) (fun _ _ _ _ _ => re_cmp op_le ops_le (re_b1 call_abs uns_abs (by rfl) T.n_abs (by decide +kernel) (ev 2)) (re_gint (by rfl) T.c_MOST_ITEM) (nomark _)) (by decide)))))
abbrev N_check_place : List Str := ["p"]
theorem sc_check_place : FnScope N_check_place ["p"] (defScope s_check_place) := ⟨rfl, rfl, rfl, by decide +kernel, rfl, by decide +kernel, by decide +kernel⟩
theorem ok_check_place (T : Tx K mg G) : Good P w K mg base G 4 8 1 ["p"] [] F_check_place :=
  good_of (N := N_check_place) T.d_check_place sc_check_place rfl fun f cdv A outer s H E hr => by
    have nd := sc_check_place.nd
    have tk : Takes (cxOf (L2.CX P w) P w K mg base N_check_place "check_place" (defScope s_check_place) f cdv A outer s H E) (fun cls d _ H => E cls d H) := takes_of rfl rfl rfl rfl
    have hp : PassesOwn (model P w) (cxOf (L2.CX P w) P w K mg base N_check_place "check_place" (defScope s_check_place) f cdv A outer s H E).A (cxOf (L2.CX P w) P w K mg base N_check_place "check_place" (defScope s_check_place) f cdv A outer s H E).env (cxOf (L2.CX P w) P w K mg base N_check_place "check_place" (defScope s_check_place) f cdv A outer s H E).xe := PassesOwn.leaving
    exact rs_one (rs_expr (ecall0 (ok_check_prime T) (hr.mono (by decide)) tk T.m_check_prime (ra_cons (ev 0) (ra_cons (re_gint (by rfl) T.c_MOST_PRIME) (ra_nil)))))
abbrev N_check_length : List Str := ["p", "n"]
theorem sc_check_length : FnScope N_check_length ["p", "n"] (defScope s_check_length) := ⟨rfl, rfl, rfl, by decide +kernel, rfl, by decide +kernel, by decide +kernel⟩
theorem ok_check_length (T : Tx K mg G) : Good P w K mg base G 5 9 2 ["p", "n"] [] F_check_length :=
  good_of (N := N_check_length) T.d_check_length sc_check_length rfl fun f cdv A outer s H E hr => by
    have nd := sc_check_length.nd
    have tk : Takes (cxOf (L2.CX P w) P w K mg base N_check_length "check_length" (defScope s_check_length) f cdv A outer s H E) (fun cls d _ H => E cls d H) := takes_of rfl rfl rfl rfl
    have hp : PassesOwn (model P w) (cxOf (L2.CX P w) P w K mg base N_check_length "check_length" (defScope s_check_length) f cdv A outer s H E).A (cxOf (L2.CX P w) P w K mg base N_check_length "check_length" (defScope s_check_length) f cdv A outer s H E).env (cxOf (L2.CX P w) P w K mg base N_check_length "check_length" (defScope s_check_length) f cdv A outer s H E).xe := PassesOwn.leaving
    exact rs_cons (rs_expr (ecall0 (ok_check_place T) (hr.mono (by decide)) tk T.m_check_place (ra_cons (ev 0) (ra_nil))))
        (rs_cons (rs_if (rt_cmp op_gt ops_gt (ev 0) (re_int) (nomark _)) (rs_one (rs_mal rfl rfl tk PySem.F.excBase_ValueError T.xM T.gM T.kM (raises_own T.bM T.tM) (by rfl))) (rs_nil))
        (rs_one (rs_expr (ecall0 (ok_check_count T) (hr.mono (by decide)) tk T.m_check_count (ra_cons (ev 1) (ra_cons (re_int) (ra_cons (re_gint (by rfl) T.c_MOST_LENGTH) (ra_nil))))))))
abbrev N__law_same : List Str := ["value", "due", "k"]
def sc__law_same_0 : PySem.Scope := { kind := PySem.ScopeKind.function, names := [(PySem.Str.ofString ".0", PySem.NameKind.local), (PySem.Str.ofString "k", PySem.NameKind.local), (PySem.Str.ofString "_law_same", PySem.NameKind.globalImplicit), (PySem.Str.ofString "due", PySem.NameKind.cell), (PySem.Str.ofString "value", PySem.NameKind.cell)], isGenerator := false, isCoroutine := false, more := [] : PySem.Scope }
theorem sc__law_same : FnScope N__law_same ["value", "due"] (defScope s__law_same) := ⟨rfl, rfl, rfl, by decide +kernel, rfl, by decide +kernel, by decide +kernel⟩
theorem ok__law_same_0 (T : Tx K mg G) : Good P w K mg base G 1 25 2 ["value", "due"] [] F__law_same_0 := good_no T.d__law_same sc__law_same
theorem ok__law_same_1 (T : Tx K mg G) : Good P w K mg base G 2 25 2 ["value", "due"] [] F__law_same_1 :=
  good_of (N := N__law_same) T.d__law_same sc__law_same rfl fun f cdv A outer s H E hr => by
    have nd := sc__law_same.nd
    have tk : Takes (cxOf (L2.CX P w) P w K mg base N__law_same "_law_same" (defScope s__law_same) f cdv A outer s H E) (fun cls d _ H => E cls d H) := takes_of rfl rfl rfl rfl
    have hp : PassesOwn (model P w) (cxOf (L2.CX P w) P w K mg base N__law_same "_law_same" (defScope s__law_same) f cdv A outer s H E).A (cxOf (L2.CX P w) P w K mg base N__law_same "_law_same" (defScope s__law_same) f cdv A outer s H E).env (cxOf (L2.CX P w) P w K mg base N__law_same "_law_same" (defScope s__law_same) f cdv A outer s H E).xe := PassesOwn.leaving
    exact rs_cons (rs_if (rt_val (re_isi .list (by rfl) T.n_isinstance (by rfl) T.n_list (by decide +kernel) (ev 1))) (rs_one (rs_ret (re_and (re_isi .list (by rfl) T.n_isinstance (by rfl) T.n_list (by decide +kernel) (ev 0)) (re_one (ecall0 (ok__law_same_0 T) (hr.mono (by decide)) tk T.m__law_same (ra_cons (re_t1 call_tuple_of uns_tup (by rfl) T.n_tuple (by decide +kernel) (ev 0)) (ra_cons (re_t1 call_tuple_of uns_tup (by rfl) T.n_tuple (by decide +kernel) (ev 1)) (ra_nil)))))))) (rs_nil))
        (rs_cons (rs_if (rt_val (re_isi .tuple (by rfl) T.n_isinstance (by rfl) T.n_tuple (by decide +kernel) (ev 1))) (rs_one (rs_ret (re_and (re_isi .tuple (by rfl) T.n_isinstance (by rfl) T.n_tuple (by decide +kernel) (ev 0)) (re_and (re_cmp (opr_eq hr.units) ops_eq (re_b1 call_len_seq uns_len (by rfl) T.n_len PySem.boot_len (ev 0)) (re_b1 call_len_seq uns_len (by rfl) T.n_len PySem.boot_len (ev 1)) (nomark _)) (re_one (re_b1 (cr_all rfl) uns_all (by rfl) T.n_all (by decide +kernel) (re_lc (own := [("k", 2)]) (t := .nm 2) rfl nd (ri_range1 (by rfl) T.n_range (ra_cons (re_b1 call_len_seq uns_len (by rfl) T.n_len PySem.boot_len (ev 1)) (ra_nil))) (blkOk_by (own := [("k", 2)]) (N := N__law_same) (sc := (defScope s__law_same)) (by decide +kernel)) (fun _ _ _ _ _ => pg_name (i := 2) nd rfl (by first | exact Or.inl rfl | exact Or.inr rfl) (by first | exact .inl rfl | exact .inr rfl)) (fun _ _ _ _ _ => rts_nil) (fun _ _ _ _ _ => ecall0 (ok__law_same_0 T) (hr.mono (by decide)) takes0 T.m__law_same (ra_cons (re_ix ixr_any ops_ix (ev 0) (ev 2) (fun _ _ => rfl)) (ra_cons (re_ix ixr_any ops_ix (ev 1) (ev 2) (fun _ _ => rfl)) (ra_nil)))) (by decide)))))))) (rs_nil))
        (rs_cons (rs_if (rt_cmp op_isN ops_isN (ev 1) re_non (nomark _)) (rs_one (rs_ret (re_cmp op_isN ops_isN (ev 0) re_non (nomark _)))) (rs_nil))
        (rs_cons (rs_if (rt_val (re_isi .bool (by rfl) T.n_isinstance (by rfl) T.n_bool (by decide +kernel) (ev 1))) (rs_one (rs_ret (re_and (re_isi .bool (by rfl) T.n_isinstance (by rfl) T.n_bool (by decide +kernel) (ev 0)) (re_one (re_cmp (opr_eq hr.units) ops_eq (ev 0) (ev 1) (nomark _)))))) (rs_nil))
        (rs_cons (rs_if (rt_val (re_isi .str (by rfl) T.n_isinstance (by rfl) T.n_str (by decide +kernel) (ev 1))) (rs_one (rs_ret (re_and (re_isi .str (by rfl) T.n_isinstance (by rfl) T.n_str (by decide +kernel) (ev 0)) (re_one (re_cmp (opr_eq hr.units) ops_eq (ev 0) (ev 1) (nomark _)))))) (rs_nil))
        (rs_cons (rs_if (rt_val (re_isi .int (by rfl) T.n_isinstance (by rfl) T.n_int (by decide +kernel) (ev 1))) (rs_one (rs_ret (re_and (re_isi .int (by rfl) T.n_isinstance (by rfl) T.n_int (by decide +kernel) (ev 0)) (re_and (re_not (re_isi .bool (by rfl) T.n_isinstance (by rfl) T.n_bool (by decide +kernel) (ev 0))) (re_one (re_cmp (opr_eq hr.units) ops_eq (ev 0) (ev 1) (nomark _))))))) (rs_nil))
        (rs_one (rs_ret (re_and (re_not (re_isi .int (by rfl) T.n_isinstance (by rfl) T.n_int (by decide +kernel) (ev 0))) (re_one (re_cmp (opr_eq hr.units) ops_eq (ev 0) (ev 1) (nomark _)))))))))))
theorem ok__law_same_2 (T : Tx K mg G) : Good P w K mg base G 3 25 2 ["value", "due"] [] F__law_same_2 :=
  good_of (N := N__law_same) T.d__law_same sc__law_same rfl fun f cdv A outer s H E hr => by
    have nd := sc__law_same.nd
    have tk : Takes (cxOf (L2.CX P w) P w K mg base N__law_same "_law_same" (defScope s__law_same) f cdv A outer s H E) (fun cls d _ H => E cls d H) := takes_of rfl rfl rfl rfl
    have hp : PassesOwn (model P w) (cxOf (L2.CX P w) P w K mg base N__law_same "_law_same" (defScope s__law_same) f cdv A outer s H E).A (cxOf (L2.CX P w) P w K mg base N__law_same "_law_same" (defScope s__law_same) f cdv A outer s H E).env (cxOf (L2.CX P w) P w K mg base N__law_same "_law_same" (defScope s__law_same) f cdv A outer s H E).xe := PassesOwn.leaving
    exact rs_cons (rs_if (rt_val (re_isi .list (by rfl) T.n_isinstance (by rfl) T.n_list (by decide +kernel) (ev 1))) (rs_one (rs_ret (re_and (re_isi .list (by rfl) T.n_isinstance (by rfl) T.n_list (by decide +kernel) (ev 0)) (re_one (ecall0 (ok__law_same_1 T) (hr.mono (by decide)) tk T.m__law_same (ra_cons (re_t1 call_tuple_of uns_tup (by rfl) T.n_tuple (by decide +kernel) (ev 0)) (ra_cons (re_t1 call_tuple_of uns_tup (by rfl) T.n_tuple (by decide +kernel) (ev 1)) (ra_nil)))))))) (rs_nil))
        (rs_cons (rs_if (rt_val (re_isi .tuple (by rfl) T.n_isinstance (by rfl) T.n_tuple (by decide +kernel) (ev 1))) (rs_one (rs_ret (re_and (re_isi .tuple (by rfl) T.n_isinstance (by rfl) T.n_tuple (by decide +kernel) (ev 0)) (re_and (re_cmp (opr_eq hr.units) ops_eq (re_b1 call_len_seq uns_len (by rfl) T.n_len PySem.boot_len (ev 0)) (re_b1 call_len_seq uns_len (by rfl) T.n_len PySem.boot_len (ev 1)) (nomark _)) (re_one (re_b1 (cr_all rfl) uns_all (by rfl) T.n_all (by decide +kernel) (re_lc (own := [("k", 2)]) (t := .nm 2) rfl nd (ri_range1 (by rfl) T.n_range (ra_cons (re_b1 call_len_seq uns_len (by rfl) T.n_len PySem.boot_len (ev 1)) (ra_nil))) (blkOk_by (own := [("k", 2)]) (N := N__law_same) (sc := (defScope s__law_same)) (by decide +kernel)) (fun _ _ _ _ _ => pg_name (i := 2) nd rfl (by first | exact Or.inl rfl | exact Or.inr rfl) (by first | exact .inl rfl | exact .inr rfl)) (fun _ _ _ _ _ => rts_nil) (fun _ _ _ _ _ => ecall0 (ok__law_same_1 T) (hr.mono (by decide)) takes0 T.m__law_same (ra_cons (re_ix ixr_any ops_ix (ev 0) (ev 2) (fun _ _ => rfl)) (ra_cons (re_ix ixr_any ops_ix (ev 1) (ev 2) (fun _ _ => rfl)) (ra_nil)))) (by decide)))))))) (rs_nil))
        (rs_cons (rs_if (rt_cmp op_isN ops_isN (ev 1) re_non (nomark _)) (rs_one (rs_ret (re_cmp op_isN ops_isN (ev 0) re_non (nomark _)))) (rs_nil))
        (rs_cons (rs_if (rt_val (re_isi .bool (by rfl) T.n_isinstance (by rfl) T.n_bool (by decide +kernel) (ev 1))) (rs_one (rs_ret (re_and (re_isi .bool (by rfl) T.n_isinstance (by rfl) T.n_bool (by decide +kernel) (ev 0)) (re_one (re_cmp (opr_eq hr.units) ops_eq (ev 0) (ev 1) (nomark _)))))) (rs_nil))
        (rs_cons (rs_if (rt_val (re_isi .str (by rfl) T.n_isinstance (by rfl) T.n_str (by decide +kernel) (ev 1))) (rs_one (rs_ret (re_and (re_isi .str (by rfl) T.n_isinstance (by rfl) T.n_str (by decide +kernel) (ev 0)) (re_one (re_cmp (opr_eq hr.units) ops_eq (ev 0) (ev 1) (nomark _)))))) (rs_nil))
        (rs_cons (rs_if (rt_val (re_isi .int (by rfl) T.n_isinstance (by rfl) T.n_int (by decide +kernel) (ev 1))) (rs_one (rs_ret (re_and (re_isi .int (by rfl) T.n_isinstance (by rfl) T.n_int (by decide +kernel) (ev 0)) (re_and (re_not (re_isi .bool (by rfl) T.n_isinstance (by rfl) T.n_bool (by decide +kernel) (ev 0))) (re_one (re_cmp (opr_eq hr.units) ops_eq (ev 0) (ev 1) (nomark _))))))) (rs_nil))
        (rs_one (rs_ret (re_and (re_not (re_isi .int (by rfl) T.n_isinstance (by rfl) T.n_int (by decide +kernel) (ev 0))) (re_one (re_cmp (opr_eq hr.units) ops_eq (ev 0) (ev 1) (nomark _)))))))))))
theorem ok__law_same_3 (T : Tx K mg G) : Good P w K mg base G 4 25 2 ["value", "due"] [] F__law_same_3 :=
  good_of (N := N__law_same) T.d__law_same sc__law_same rfl fun f cdv A outer s H E hr => by
    have nd := sc__law_same.nd
    have tk : Takes (cxOf (L2.CX P w) P w K mg base N__law_same "_law_same" (defScope s__law_same) f cdv A outer s H E) (fun cls d _ H => E cls d H) := takes_of rfl rfl rfl rfl
    have hp : PassesOwn (model P w) (cxOf (L2.CX P w) P w K mg base N__law_same "_law_same" (defScope s__law_same) f cdv A outer s H E).A (cxOf (L2.CX P w) P w K mg base N__law_same "_law_same" (defScope s__law_same) f cdv A outer s H E).env (cxOf (L2.CX P w) P w K mg base N__law_same "_law_same" (defScope s__law_same) f cdv A outer s H E).xe := PassesOwn.leaving
    exact rs_cons (rs_if (rt_val (re_isi .list (by rfl) T.n_isinstance (by rfl) T.n_list (by decide +kernel) (ev 1))) (rs_one (rs_ret (re_and (re_isi .list (by rfl) T.n_isinstance (by rfl) T.n_list (by decide +kernel) (ev 0)) (re_one (ecall0 (ok__law_same_2 T) (hr.mono (by decide)) tk T.m__law_same (ra_cons (re_t1 call_tuple_of uns_tup (by rfl) T.n_tuple (by decide +kernel) (ev 0)) (ra_cons (re_t1 call_tuple_of uns_tup (by rfl) T.n_tuple (by decide +kernel) (ev 1)) (ra_nil)))))))) (rs_nil))
        (rs_cons (rs_if (rt_val (re_isi .tuple (by rfl) T.n_isinstance (by rfl) T.n_tuple (by decide +kernel) (ev 1))) (rs_one (rs_ret (re_and (re_isi .tuple (by rfl) T.n_isinstance (by rfl) T.n_tuple (by decide +kernel) (ev 0)) (re_and (re_cmp (opr_eq hr.units) ops_eq (re_b1 call_len_seq uns_len (by rfl) T.n_len PySem.boot_len (ev 0)) (re_b1 call_len_seq uns_len (by rfl) T.n_len PySem.boot_len (ev 1)) (nomark _)) (re_one (re_b1 (cr_all rfl) uns_all (by rfl) T.n_all (by decide +kernel) (re_lc (own := [("k", 2)]) (t := .nm 2) rfl nd (ri_range1 (by rfl) T.n_range (ra_cons (re_b1 call_len_seq uns_len (by rfl) T.n_len PySem.boot_len (ev 1)) (ra_nil))) (blkOk_by (own := [("k", 2)]) (N := N__law_same) (sc := (defScope s__law_same)) (by decide +kernel)) (fun _ _ _ _ _ => pg_name (i := 2) nd rfl (by first | exact Or.inl rfl | exact Or.inr rfl) (by first | exact .inl rfl | exact .inr rfl)) (fun _ _ _ _ _ => rts_nil) (fun _ _ _ _ _ => ecall0 (ok__law_same_2 T) (hr.mono (by decide)) takes0 T.m__law_same (ra_cons (re_ix ixr_any ops_ix (ev 0) (ev 2) (fun _ _ => rfl)) (ra_cons (re_ix ixr_any ops_ix (ev 1) (ev 2) (fun _ _ => rfl)) (ra_nil)))) (by decide)))))))) (rs_nil))
        (rs_cons (rs_if (rt_cmp op_isN ops_isN (ev 1) re_non (nomark _)) (rs_one (rs_ret (re_cmp op_isN ops_isN (ev 0) re_non (nomark _)))) (rs_nil))
        (rs_cons (rs_if (rt_val (re_isi .bool (by rfl) T.n_isinstance (by rfl) T.n_bool (by decide +kernel) (ev 1))) (rs_one (rs_ret (re_and (re_isi .bool (by rfl) T.n_isinstance (by rfl) T.n_bool (by decide +kernel) (ev 0)) (re_one (re_cmp (opr_eq hr.units) ops_eq (ev 0) (ev 1) (nomark _)))))) (rs_nil))
        (rs_cons (rs_if (rt_val (re_isi .str (by rfl) T.n_isinstance (by rfl) T.n_str (by decide +kernel) (ev 1))) (rs_one (rs_ret (re_and (re_isi .str (by rfl) T.n_isinstance (by rfl) T.n_str (by decide +kernel) (ev 0)) (re_one (re_cmp (opr_eq hr.units) ops_eq (ev 0) (ev 1) (nomark _)))))) (rs_nil))
        (rs_cons (rs_if (rt_val (re_isi .int (by rfl) T.n_isinstance (by rfl) T.n_int (by decide +kernel) (ev 1))) (rs_one (rs_ret (re_and (re_isi .int (by rfl) T.n_isinstance (by rfl) T.n_int (by decide +kernel) (ev 0)) (re_and (re_not (re_isi .bool (by rfl) T.n_isinstance (by rfl) T.n_bool (by decide +kernel) (ev 0))) (re_one (re_cmp (opr_eq hr.units) ops_eq (ev 0) (ev 1) (nomark _))))))) (rs_nil))
        (rs_one (rs_ret (re_and (re_not (re_isi .int (by rfl) T.n_isinstance (by rfl) T.n_int (by decide +kernel) (ev 0))) (re_one (re_cmp (opr_eq hr.units) ops_eq (ev 0) (ev 1) (nomark _)))))))))))
theorem ok__law_same_4 (T : Tx K mg G) : Good P w K mg base G 5 25 2 ["value", "due"] [] F__law_same_4 :=
  good_of (N := N__law_same) T.d__law_same sc__law_same rfl fun f cdv A outer s H E hr => by
    have nd := sc__law_same.nd
    have tk : Takes (cxOf (L2.CX P w) P w K mg base N__law_same "_law_same" (defScope s__law_same) f cdv A outer s H E) (fun cls d _ H => E cls d H) := takes_of rfl rfl rfl rfl
    have hp : PassesOwn (model P w) (cxOf (L2.CX P w) P w K mg base N__law_same "_law_same" (defScope s__law_same) f cdv A outer s H E).A (cxOf (L2.CX P w) P w K mg base N__law_same "_law_same" (defScope s__law_same) f cdv A outer s H E).env (cxOf (L2.CX P w) P w K mg base N__law_same "_law_same" (defScope s__law_same) f cdv A outer s H E).xe := PassesOwn.leaving
    exact rs_cons (rs_if (rt_val (re_isi .list (by rfl) T.n_isinstance (by rfl) T.n_list (by decide +kernel) (ev 1))) (rs_one (rs_ret (re_and (re_isi .list (by rfl) T.n_isinstance (by rfl) T.n_list (by decide +kernel) (ev 0)) (re_one (ecall0 (ok__law_same_3 T) (hr.mono (by decide)) tk T.m__law_same (ra_cons (re_t1 call_tuple_of uns_tup (by rfl) T.n_tuple (by decide +kernel) (ev 0)) (ra_cons (re_t1 call_tuple_of uns_tup (by rfl) T.n_tuple (by decide +kernel) (ev 1)) (ra_nil)))))))) (rs_nil))
        (rs_cons (rs_if (rt_val (re_isi .tuple (by rfl) T.n_isinstance (by rfl) T.n_tuple (by decide +kernel) (ev 1))) (rs_one (rs_ret (re_and (re_isi .tuple (by rfl) T.n_isinstance (by rfl) T.n_tuple (by decide +kernel) (ev 0)) (re_and (re_cmp (opr_eq hr.units) ops_eq (re_b1 call_len_seq uns_len (by rfl) T.n_len PySem.boot_len (ev 0)) (re_b1 call_len_seq uns_len (by rfl) T.n_len PySem.boot_len (ev 1)) (nomark _)) (re_one (re_b1 (cr_all rfl) uns_all (by rfl) T.n_all (by decide +kernel) (re_lc (own := [("k", 2)]) (t := .nm 2) rfl nd (ri_range1 (by rfl) T.n_range (ra_cons (re_b1 call_len_seq uns_len (by rfl) T.n_len PySem.boot_len (ev 1)) (ra_nil))) (blkOk_by (own := [("k", 2)]) (N := N__law_same) (sc := (defScope s__law_same)) (by decide +kernel)) (fun _ _ _ _ _ => pg_name (i := 2) nd rfl (by first | exact Or.inl rfl | exact Or.inr rfl) (by first | exact .inl rfl | exact .inr rfl)) (fun _ _ _ _ _ => rts_nil) (fun _ _ _ _ _ => ecall0 (ok__law_same_3 T) (hr.mono (by decide)) takes0 T.m__law_same (ra_cons (re_ix ixr_any ops_ix (ev 0) (ev 2) (fun _ _ => rfl)) (ra_cons (re_ix ixr_any ops_ix (ev 1) (ev 2) (fun _ _ => rfl)) (ra_nil)))) (by decide)))))))) (rs_nil))
        (rs_cons (rs_if (rt_cmp op_isN ops_isN (ev 1) re_non (nomark _)) (rs_one (rs_ret (re_cmp op_isN ops_isN (ev 0) re_non (nomark _)))) (rs_nil))
        (rs_cons (rs_if (rt_val (re_isi .bool (by rfl) T.n_isinstance (by rfl) T.n_bool (by decide +kernel) (ev 1))) (rs_one (rs_ret (re_and (re_isi .bool (by rfl) T.n_isinstance (by rfl) T.n_bool (by decide +kernel) (ev 0)) (re_one (re_cmp (opr_eq hr.units) ops_eq (ev 0) (ev 1) (nomark _)))))) (rs_nil))
        (rs_cons (rs_if (rt_val (re_isi .str (by rfl) T.n_isinstance (by rfl) T.n_str (by decide +kernel) (ev 1))) (rs_one (rs_ret (re_and (re_isi .str (by rfl) T.n_isinstance (by rfl) T.n_str (by decide +kernel) (ev 0)) (re_one (re_cmp (opr_eq hr.units) ops_eq (ev 0) (ev 1) (nomark _)))))) (rs_nil))
        (rs_cons (rs_if (rt_val (re_isi .int (by rfl) T.n_isinstance (by rfl) T.n_int (by decide +kernel) (ev 1))) (rs_one (rs_ret (re_and (re_isi .int (by rfl) T.n_isinstance (by rfl) T.n_int (by decide +kernel) (ev 0)) (re_and (re_not (re_isi .bool (by rfl) T.n_isinstance (by rfl) T.n_bool (by decide +kernel) (ev 0))) (re_one (re_cmp (opr_eq hr.units) ops_eq (ev 0) (ev 1) (nomark _))))))) (rs_nil))
        (rs_one (rs_ret (re_and (re_not (re_isi .int (by rfl) T.n_isinstance (by rfl) T.n_int (by decide +kernel) (ev 0))) (re_one (re_cmp (opr_eq hr.units) ops_eq (ev 0) (ev 1) (nomark _)))))))))))
theorem ok__law_same (T : Tx K mg G) : Good P w K mg base G 5 25 2 ["value", "due"] [] F__law_same := ok__law_same_4 T
abbrev N_check_vector : List Str := ["x", "p"]
theorem sc_check_vector : FnScope N_check_vector ["x", "p"] (defScope s_check_vector) := ⟨rfl, rfl, rfl, by decide +kernel, rfl, by decide +kernel, by decide +kernel⟩
theorem ok_check_vector (T : Tx K mg G) : Good P w K mg base G 6 11 2 ["x", "p"] [] F_check_vector :=
  good_of (N := N_check_vector) T.d_check_vector sc_check_vector rfl fun f cdv A outer s H E hr => by
    have nd := sc_check_vector.nd
    have tk : Takes (cxOf (L2.CX P w) P w K mg base N_check_vector "check_vector" (defScope s_check_vector) f cdv A outer s H E) (fun cls d _ H => E cls d H) := takes_of rfl rfl rfl rfl
    have hp : PassesOwn (model P w) (cxOf (L2.CX P w) P w K mg base N_check_vector "check_vector" (defScope s_check_vector) f cdv A outer s H E).A (cxOf (L2.CX P w) P w K mg base N_check_vector "check_vector" (defScope s_check_vector) f cdv A outer s H E).env (cxOf (L2.CX P w) P w K mg base N_check_vector "check_vector" (defScope s_check_vector) f cdv A outer s H E).xe := PassesOwn.leaving
    exact rs_cons (rs_expr (ecall0 (ok_check_length T) (hr.mono (by decide)) tk T.m_check_length (ra_cons (ev 1) (ra_cons (re_int) (ra_nil)))))
        (rs_one (rs_if (rt_not (rt_val (ecall0 (ok_is_vector T) (hr.mono (by decide)) tk T.m_is_vector (ra_cons (ev 0) (ra_cons (ev 1) (ra_nil)))))) (rs_one (rs_mal rfl rfl tk PySem.F.excBase_ValueError T.xM T.gM T.kM (raises_own T.bM T.tM) (by rfl))) (rs_nil)))
abbrev N_rests_number : List Str := ["c", "n", "p", "m", "found", "_", "digit"]
theorem sc_rests_number : FnScope N_rests_number ["c", "n", "p"] (defScope s_rests_number) := ⟨rfl, rfl, rfl, by decide +kernel, rfl, by decide +kernel, by decide +kernel⟩
theorem ok_rests_number (T : Tx K mg G) : Good P w K mg base G 6 22 3 ["c", "n", "p"] [] F_rests_number :=
  good_of (N := N_rests_number) T.d_rests_number sc_rests_number rfl fun f cdv A outer s H E hr => by
    have nd := sc_rests_number.nd
    have tk : Takes (cxOf (L2.CX P w) P w K mg base N_rests_number "rests_number" (defScope s_rests_number) f cdv A outer s H E) (fun cls d _ H => E cls d H) := takes_of rfl rfl rfl rfl
    have hp : PassesOwn (model P w) (cxOf (L2.CX P w) P w K mg base N_rests_number "rests_number" (defScope s_rests_number) f cdv A outer s H E).A (cxOf (L2.CX P w) P w K mg base N_rests_number "rests_number" (defScope s_rests_number) f cdv A outer s H E).env (cxOf (L2.CX P w) P w K mg base N_rests_number "rests_number" (defScope s_rests_number) f cdv A outer s H E).xe := PassesOwn.leaving
    exact rs_cons (rs_expr (ecall0 (ok_check_length T) (hr.mono (by decide)) tk T.m_check_length (ra_cons (ev 2) (ra_cons (ev 1) (ra_nil)))))
        (rs_cons (rs_if ((rw_and (rt_cmp op_gt ops_gt (ev 2) (re_int) (nomark _)) (rw_and1 (rt_cmp op_gt ops_gt (ev 1) (re_int) (nomark _)))).pt) (rs_one (rs_rfd' T.rC (ok_init T) (hr.mono (by decide)) rfl tk (by rfl) T.gR (ra_cons (re_str) (ra_nil)))) (rs_nil))
        (rs_cons (rs_if (rt_not (rt_val (ecall0 (ok_is_integer T) (hr.mono (by decide)) tk T.m_is_integer (ra_cons (ev 0) (ra_nil))))) (rs_one (rs_mal rfl rfl tk PySem.F.excBase_ValueError T.xM T.gM T.kM (raises_own T.bM T.tM) (by rfl))) (rs_nil))
        (rs_cons (rs_par (i := 3) (j := 4) rfl nd rfl rfl (by decide) rfl rfl (ecall0 (ok_power T) (hr.mono (by decide)) tk T.m_power (ra_cons (ev 2) (ra_cons (ev 1) (ra_nil)))) (re_lst (ra_nil)) (by rfl))
        (rs_cons (rs_for' (.nm 5) hp (ri_range1 (by rfl) T.n_range (ra_cons (ev 1) (ra_nil))) (pg_name (i := 5) nd rfl (by first | exact Or.inl rfl | exact Or.inr rfl) (by first | exact .inl rfl | exact .inr rfl)) (rs_cons (rs_set (i := 6) nd rfl (by first | exact Or.inl rfl | exact Or.inr rfl) (re_op op_mod ops_mod (ev 0) (ev 2)) (by first | exact .inl rfl | exact .inr rfl))
        (rs_cons (rs_app' 4 (ev 6) (hcall := pe_bm PySem.F.plainAttrs_list PySem.F.slot_list_append PySem.F.type_list_append mt_append (pv 4) (pa_cons (ev 6) pa_nil)))
        (rs_one (rs_set (i := 0) nd rfl (by first | exact Or.inl rfl | exact Or.inr rfl) (re_op op_mod ops_mod (re_op op_fdivW ops_div (re_op op_sub ops_sub (ev 0) (ecall0 (ok_power_mod T) (hr.mono (by decide)) tk T.m_power_mod (ra_cons (ev 6) (ra_cons (ecall0 (ok_power T) (hr.mono (by decide)) tk T.m_power (ra_cons (ev 2) (ra_cons (re_op op_sub ops_sub (ev 1) (re_int)) (ra_nil)))) (ra_cons (ev 3) (ra_nil)))))) (ev 2)) (ev 3)) (by first | exact .inl rfl | exact .inr rfl))))))
        (rs_one (rs_ret (re_t1 call_tuple_of uns_tup (by rfl) T.n_tuple (by decide +kernel) (ev 4))))))))
abbrev N__law_is_told : List Str := ["pair", "due"]
theorem sc__law_is_told : FnScope N__law_is_told ["pair", "due"] (defScope s__law_is_told) := ⟨rfl, rfl, rfl, by decide +kernel, rfl, by decide +kernel, by decide +kernel⟩
theorem ok__law_is_told (T : Tx K mg G) : Good P w K mg base G 6 27 2 ["pair", "due"] [] F__law_is_told :=
  good_of (N := N__law_is_told) T.d__law_is_told sc__law_is_told rfl fun f cdv A outer s H E hr => by
    have nd := sc__law_is_told.nd
    have tk : Takes (cxOf (L2.CX P w) P w K mg base N__law_is_told "_law_is_told" (defScope s__law_is_told) f cdv A outer s H E) (fun cls d _ H => E cls d H) := takes_of rfl rfl rfl rfl
    have hp : PassesOwn (model P w) (cxOf (L2.CX P w) P w K mg base N__law_is_told "_law_is_told" (defScope s__law_is_told) f cdv A outer s H E).A (cxOf (L2.CX P w) P w K mg base N__law_is_told "_law_is_told" (defScope s__law_is_told) f cdv A outer s H E).env (cxOf (L2.CX P w) P w K mg base N__law_is_told "_law_is_told" (defScope s__law_is_told) f cdv A outer s H E).xe := PassesOwn.leaving
    exact rs_one (rs_ret (re_and (re_cmp (opr_eq hr.units) ops_eq (re_ix ixr_any ops_ix (ev 0) (re_int) (fun _ _ => rfl)) (re_str) (nomark _)) (re_one (ecall0 (ok__law_same T) (hr.mono (by decide)) tk T.m__law_same (ra_cons (re_ix ixr_any ops_ix (ev 0) (re_int) (fun _ _ => rfl)) (ra_cons (ev 1) (ra_nil)))))))
abbrev N__law_is_raised : List Str := ["pair", "reason"]
theorem sc__law_is_raised : FnScope N__law_is_raised ["pair", "reason"] (defScope s__law_is_raised) := ⟨rfl, rfl, rfl, by decide +kernel, rfl, by decide +kernel, by decide +kernel⟩
theorem ok__law_is_raised (T : Tx K mg G) : Good P w K mg base G 6 28 2 ["pair", "reason"] [] F__law_is_raised :=
  good_of (N := N__law_is_raised) T.d__law_is_raised sc__law_is_raised rfl fun f cdv A outer s H E hr => by
    have nd := sc__law_is_raised.nd
    have tk : Takes (cxOf (L2.CX P w) P w K mg base N__law_is_raised "_law_is_raised" (defScope s__law_is_raised) f cdv A outer s H E) (fun cls d _ H => E cls d H) := takes_of rfl rfl rfl rfl
    have hp : PassesOwn (model P w) (cxOf (L2.CX P w) P w K mg base N__law_is_raised "_law_is_raised" (defScope s__law_is_raised) f cdv A outer s H E).A (cxOf (L2.CX P w) P w K mg base N__law_is_raised "_law_is_raised" (defScope s__law_is_raised) f cdv A outer s H E).env (cxOf (L2.CX P w) P w K mg base N__law_is_raised "_law_is_raised" (defScope s__law_is_raised) f cdv A outer s H E).xe := PassesOwn.leaving
    exact rs_cons (rs_if (rt_cmp (opr_eq hr.units) ops_eq (ev 1) (re_str) (nomark _)) (rs_one (rs_ret (re_cmp (opr_eq hr.units) ops_eq (re_ix ixr_any ops_ix (ev 0) (re_int) (fun _ _ => rfl)) (re_str) (nomark _)))) (rs_nil))
        (rs_one (rs_ret (re_and (re_cmp (opr_eq hr.units) ops_eq (re_ix ixr_any ops_ix (ev 0) (re_int) (fun _ _ => rfl)) (re_str) (nomark _)) (re_one (ecall0 (ok__law_same T) (hr.mono (by decide)) tk T.m__law_same (ra_cons (re_ix ixr_any ops_ix (ev 0) (re_int) (fun _ _ => rfl)) (ra_cons (ev 1) (ra_nil))))))))
abbrev N_check_two : List Str := ["x", "y", "p"]
theorem sc_check_two : FnScope N_check_two ["x", "y", "p"] (defScope s_check_two) := ⟨rfl, rfl, rfl, by decide +kernel, rfl, by decide +kernel, by decide +kernel⟩
theorem ok_check_two (T : Tx K mg G) : Good P w K mg base G 7 12 3 ["x", "y", "p"] [] F_check_two :=
  good_of (N := N_check_two) T.d_check_two sc_check_two rfl fun f cdv A outer s H E hr => by
    have nd := sc_check_two.nd
    have tk : Takes (cxOf (L2.CX P w) P w K mg base N_check_two "check_two" (defScope s_check_two) f cdv A outer s H E) (fun cls d _ H => E cls d H) := takes_of rfl rfl rfl rfl
    have hp : PassesOwn (model P w) (cxOf (L2.CX P w) P w K mg base N_check_two "check_two" (defScope s_check_two) f cdv A outer s H E).A (cxOf (L2.CX P w) P w K mg base N_check_two "check_two" (defScope s_check_two) f cdv A outer s H E).env (cxOf (L2.CX P w) P w K mg base N_check_two "check_two" (defScope s_check_two) f cdv A outer s H E).xe := PassesOwn.leaving
    exact rs_cons (rs_expr (ecall0 (ok_check_vector T) (hr.mono (by decide)) tk T.m_check_vector (ra_cons (ev 0) (ra_cons (ev 2) (ra_nil)))))
        (rs_cons (rs_expr (ecall0 (ok_check_vector T) (hr.mono (by decide)) tk T.m_check_vector (ra_cons (ev 1) (ra_cons (ev 2) (ra_nil)))))
        (rs_one (rs_if (rt_cmp (opr_ne hr.units) ops_ne (re_b1 call_len_seq uns_len (by rfl) T.n_len PySem.boot_len (ev 0)) (re_b1 call_len_seq uns_len (by rfl) T.n_len PySem.boot_len (ev 1)) (nomark _)) (rs_one (rs_mal rfl rfl tk PySem.F.excBase_ValueError T.xM T.gM T.kM (raises_own T.bM T.tM) (by rfl))) (rs_nil))))
abbrev N_rests_of : List Str := ["x", "p", "c"]
def sc_rests_of_0 : PySem.Scope := { kind := PySem.ScopeKind.function, names := [(PySem.Str.ofString ".0", PySem.NameKind.local), (PySem.Str.ofString "c", PySem.NameKind.local), (PySem.Str.ofString "p", PySem.NameKind.cell)], isGenerator := false, isCoroutine := false, more := [] : PySem.Scope }
theorem sc_rests_of : FnScope N_rests_of ["x", "p"] (defScope s_rests_of) := ⟨rfl, rfl, rfl, by decide +kernel, rfl, by decide +kernel, by decide +kernel⟩
theorem ok_rests_of (T : Tx K mg G) : Good P w K mg base G 7 17 2 ["x", "p"] [] F_rests_of :=
  good_of (N := N_rests_of) T.d_rests_of sc_rests_of rfl fun f cdv A outer s H E hr => by
    have nd := sc_rests_of.nd
    have tk : Takes (cxOf (L2.CX P w) P w K mg base N_rests_of "rests_of" (defScope s_rests_of) f cdv A outer s H E) (fun cls d _ H => E cls d H) := takes_of rfl rfl rfl rfl
    have hp : PassesOwn (model P w) (cxOf (L2.CX P w) P w K mg base N_rests_of "rests_of" (defScope s_rests_of) f cdv A outer s H E).A (cxOf (L2.CX P w) P w K mg base N_rests_of "rests_of" (defScope s_rests_of) f cdv A outer s H E).env (cxOf (L2.CX P w) P w K mg base N_rests_of "rests_of" (defScope s_rests_of) f cdv A outer s H E).xe := PassesOwn.leaving
    exact rs_cons (rs_expr (ecall0 (ok_check_vector T) (hr.mono (by decide)) tk T.m_check_vector (ra_cons (ev 0) (ra_cons (ev 1) (ra_nil)))))
        (rs_one (rs_ret (re_t1 call_tuple_of uns_tup (by rfl) T.n_tuple (by decide +kernel) (re_lc (own := [("c", 2)]) (t := .nm 2) rfl nd (ri_seq (ev 0)) (blkOk_by (own := [("c", 2)]) (N := N_rests_of) (sc := (defScope s_rests_of)) (by decide +kernel)) (fun _ _ _ _ _ => pg_name (i := 2) nd rfl (by first | exact Or.inl rfl | exact Or.inr rfl) (by first | exact .inl rfl | exact .inr rfl)) (fun _ _ _ _ _ => rts_nil) (fun _ _ _ _ _ => re_op op_mod ops_mod (ev 2) (ev 1)) (by decide)))))
abbrev N_vector_plus : List Str := ["x", "y", "p", "a", "b"]
def sc_vector_plus_0 : PySem.Scope := { kind := PySem.ScopeKind.function, names := [(PySem.Str.ofString ".0", PySem.NameKind.local), (PySem.Str.ofString "a", PySem.NameKind.local), (PySem.Str.ofString "b", PySem.NameKind.local)], isGenerator := false, isCoroutine := false, more := [] : PySem.Scope }
theorem sc_vector_plus : FnScope N_vector_plus ["x", "y", "p"] (defScope s_vector_plus) := ⟨rfl, rfl, rfl, by decide +kernel, rfl, by decide +kernel, by decide +kernel⟩
theorem ok_vector_plus (T : Tx K mg G) : Good P w K mg base G 8 15 3 ["x", "y", "p"] [] F_vector_plus :=
  good_of (N := N_vector_plus) T.d_vector_plus sc_vector_plus rfl fun f cdv A outer s H E hr => by
    have nd := sc_vector_plus.nd
    have tk : Takes (cxOf (L2.CX P w) P w K mg base N_vector_plus "vector_plus" (defScope s_vector_plus) f cdv A outer s H E) (fun cls d _ H => E cls d H) := takes_of rfl rfl rfl rfl
    have hp : PassesOwn (model P w) (cxOf (L2.CX P w) P w K mg base N_vector_plus "vector_plus" (defScope s_vector_plus) f cdv A outer s H E).A (cxOf (L2.CX P w) P w K mg base N_vector_plus "vector_plus" (defScope s_vector_plus) f cdv A outer s H E).env (cxOf (L2.CX P w) P w K mg base N_vector_plus "vector_plus" (defScope s_vector_plus) f cdv A outer s H E).xe := PassesOwn.leaving
    exact rs_cons (rs_expr (ecall0 (ok_check_two T) (hr.mono (by decide)) tk T.m_check_two (ra_cons (ev 0) (ra_cons (ev 1) (ra_cons (ev 2) (ra_nil))))))
        (rs_one (rs_ret (ecall0 (ok_vector_of T) (hr.mono (by decide)) tk T.m_vector_of (ra_cons (re_lc (own := [("a", 3), ("b", 4)]) (t := .tp [3, 4]) rfl nd (ri_zip (by rfl) T.n_zip (ra_cons (ecall0 (ok_ghosts_of T) (hr.mono (by decide)) tk T.m_ghosts_of (ra_cons (ev 0) (ra_cons (ev 2) (ra_nil)))) (ra_cons (ecall0 (ok_ghosts_of T) (hr.mono (by decide)) tk T.m_ghosts_of (ra_cons (ev 1) (ra_cons (ev 2) (ra_nil)))) (ra_nil)))) (blkOk_by (own := [("a", 3), ("b", 4)]) (N := N_vector_plus) (sc := (defScope s_vector_plus)) (by decide +kernel)) (fun _ _ _ _ _ => pg_tup rfl (pgs_cons (pg_name (i := 3) nd rfl (by first | exact Or.inl rfl | exact Or.inr rfl) (by first | exact .inl rfl | exact .inr rfl)) (pgs_cons (pg_name (i := 4) nd rfl (by first | exact Or.inl rfl | exact Or.inr rfl) (by first | exact .inl rfl | exact .inr rfl)) (pgs_nil)))) (fun _ _ _ _ _ => rts_nil) (fun _ _ _ _ _ => re_op opr_add ops_add (ev 3) (ev 4)) (by decide)) (ra_cons (ev 2) (ra_nil))))))
abbrev N_vector_times : List Str := ["x", "y", "p", "a", "b"]
def sc_vector_times_0 : PySem.Scope := { kind := PySem.ScopeKind.function, names := [(PySem.Str.ofString ".0", PySem.NameKind.local), (PySem.Str.ofString "a", PySem.NameKind.local), (PySem.Str.ofString "b", PySem.NameKind.local)], isGenerator := false, isCoroutine := false, more := [] : PySem.Scope }
theorem sc_vector_times : FnScope N_vector_times ["x", "y", "p"] (defScope s_vector_times) := ⟨rfl, rfl, rfl, by decide +kernel, rfl, by decide +kernel, by decide +kernel⟩
theorem ok_vector_times (T : Tx K mg G) : Good P w K mg base G 8 16 3 ["x", "y", "p"] [] F_vector_times :=
  good_of (N := N_vector_times) T.d_vector_times sc_vector_times rfl fun f cdv A outer s H E hr => by
    have nd := sc_vector_times.nd
    have tk : Takes (cxOf (L2.CX P w) P w K mg base N_vector_times "vector_times" (defScope s_vector_times) f cdv A outer s H E) (fun cls d _ H => E cls d H) := takes_of rfl rfl rfl rfl
    have hp : PassesOwn (model P w) (cxOf (L2.CX P w) P w K mg base N_vector_times "vector_times" (defScope s_vector_times) f cdv A outer s H E).A (cxOf (L2.CX P w) P w K mg base N_vector_times "vector_times" (defScope s_vector_times) f cdv A outer s H E).env (cxOf (L2.CX P w) P w K mg base N_vector_times "vector_times" (defScope s_vector_times) f cdv A outer s H E).xe := PassesOwn.leaving
    exact rs_cons (rs_expr (ecall0 (ok_check_two T) (hr.mono (by decide)) tk T.m_check_two (ra_cons (ev 0) (ra_cons (ev 1) (ra_cons (ev 2) (ra_nil))))))
        (rs_one (rs_ret (ecall0 (ok_vector_of T) (hr.mono (by decide)) tk T.m_vector_of (ra_cons (re_lc (own := [("a", 3), ("b", 4)]) (t := .tp [3, 4]) rfl nd (ri_zip (by rfl) T.n_zip (ra_cons (ecall0 (ok_ghosts_of T) (hr.mono (by decide)) tk T.m_ghosts_of (ra_cons (ev 0) (ra_cons (ev 2) (ra_nil)))) (ra_cons (ecall0 (ok_ghosts_of T) (hr.mono (by decide)) tk T.m_ghosts_of (ra_cons (ev 1) (ra_cons (ev 2) (ra_nil)))) (ra_nil)))) (blkOk_by (own := [("a", 3), ("b", 4)]) (N := N_vector_times) (sc := (defScope s_vector_times)) (by decide +kernel)) (fun _ _ _ _ _ => pg_tup rfl (pgs_cons (pg_name (i := 3) nd rfl (by first | exact Or.inl rfl | exact Or.inr rfl) (by first | exact .inl rfl | exact .inr rfl)) (pgs_cons (pg_name (i := 4) nd rfl (by first | exact Or.inl rfl | exact Or.inr rfl) (by first | exact .inl rfl | exact .inr rfl)) (pgs_nil)))) (fun _ _ _ _ _ => rts_nil) (fun _ _ _ _ _ => re_op opr_mul2 ops_mul2 (ev 3) (ev 4)) (by decide)) (ra_cons (ev 2) (ra_nil))))))
abbrev N_check_rests : List Str := ["x", "y", "p", "c"]
def sc_check_rests_0 : PySem.Scope := { kind := PySem.ScopeKind.function, names := [(PySem.Str.ofString ".0", PySem.NameKind.local), (PySem.Str.ofString "c", PySem.NameKind.local), (PySem.Str.ofString "p", PySem.NameKind.cell)], isGenerator := false, isCoroutine := false, more := [] : PySem.Scope }
theorem sc_check_rests : FnScope N_check_rests ["x", "y", "p"] (defScope s_check_rests) := ⟨rfl, rfl, rfl, by decide +kernel, rfl, by decide +kernel, by decide +kernel⟩
theorem ok_check_rests (T : Tx K mg G) : Good P w K mg base G 8 20 3 ["x", "y", "p"] [] F_check_rests :=
  good_of (N := N_check_rests) T.d_check_rests sc_check_rests rfl fun f cdv A outer s H E hr => by
    have nd := sc_check_rests.nd
    have tk : Takes (cxOf (L2.CX P w) P w K mg base N_check_rests "check_rests" (defScope s_check_rests) f cdv A outer s H E) (fun cls d _ H => E cls d H) := takes_of rfl rfl rfl rfl
    have hp : PassesOwn (model P w) (cxOf (L2.CX P w) P w K mg base N_check_rests "check_rests" (defScope s_check_rests) f cdv A outer s H E).A (cxOf (L2.CX P w) P w K mg base N_check_rests "check_rests" (defScope s_check_rests) f cdv A outer s H E).env (cxOf (L2.CX P w) P w K mg base N_check_rests "check_rests" (defScope s_check_rests) f cdv A outer s H E).xe := PassesOwn.leaving
    exact rs_cons (rs_expr (ecall0 (ok_check_two T) (hr.mono (by decide)) tk T.m_check_two (ra_cons (ev 0) (ra_cons (ev 1) (ra_cons (ev 2) (ra_nil))))))
        (rs_one (rs_if (rt_not (rt_val (re_b1 (cr_all rfl) uns_all (by rfl) T.n_all (by decide +kernel) (re_lc (own := [("c", 3)]) (t := .nm 3) rfl nd (ri_seq (re_op opr_add ops_add (ev 0) (ev 1))) (blkOk_by (own := [("c", 3)]) (N := N_check_rests) (sc := (defScope s_check_rests)) (by decide +kernel)) (fun _ _ _ _ _ => pg_name (i := 3) nd rfl (by first | exact Or.inl rfl | exact Or.inr rfl) (by first | exact .inl rfl | exact .inr rfl)) (fun _ _ _ _ _ => rts_nil) (fun _ _ _ _ _ => re_chain op_le op_lt ops_le ops_lt (re_int) (ev 3) (ev 2)) (by decide))))) (rs_one (rs_mal rfl rfl tk PySem.F.excBase_ValueError T.xM T.gM T.kM (raises_own T.bM T.tM) (by rfl))) (rs_nil)))
abbrev N_rest_plus : List Str := ["x", "y", "p", "c"]
def sc_rest_plus_0 : PySem.Scope := { kind := PySem.ScopeKind.function, names := [(PySem.Str.ofString ".0", PySem.NameKind.local), (PySem.Str.ofString "c", PySem.NameKind.local), (PySem.Str.ofString "p", PySem.NameKind.cell)], isGenerator := false, isCoroutine := false, more := [] : PySem.Scope }
theorem sc_rest_plus : FnScope N_rest_plus ["x", "y", "p"] (defScope s_rest_plus) := ⟨rfl, rfl, rfl, by decide +kernel, rfl, by decide +kernel, by decide +kernel⟩
theorem ok_rest_plus (T : Tx K mg G) : Good P w K mg base G 9 18 3 ["x", "y", "p"] [] F_rest_plus :=
  good_of (N := N_rest_plus) T.d_rest_plus sc_rest_plus rfl fun f cdv A outer s H E hr => by
    have nd := sc_rest_plus.nd
    have tk : Takes (cxOf (L2.CX P w) P w K mg base N_rest_plus "rest_plus" (defScope s_rest_plus) f cdv A outer s H E) (fun cls d _ H => E cls d H) := takes_of rfl rfl rfl rfl
    have hp : PassesOwn (model P w) (cxOf (L2.CX P w) P w K mg base N_rest_plus "rest_plus" (defScope s_rest_plus) f cdv A outer s H E).A (cxOf (L2.CX P w) P w K mg base N_rest_plus "rest_plus" (defScope s_rest_plus) f cdv A outer s H E).env (cxOf (L2.CX P w) P w K mg base N_rest_plus "rest_plus" (defScope s_rest_plus) f cdv A outer s H E).xe := PassesOwn.leaving
    exact rs_cons (rs_expr (ecall0 (ok_check_rests T) (hr.mono (by decide)) tk T.m_check_rests (ra_cons (ev 0) (ra_cons (ev 1) (ra_cons (ev 2) (ra_nil))))))
        (rs_one (rs_ret (re_t1 call_tuple_of uns_tup (by rfl) T.n_tuple (by decide +kernel) (re_lc (own := [("c", 3)]) (t := .nm 3) rfl nd (ri_seq (ecall0 (ok_vector_plus T) (hr.mono (by decide)) tk T.m_vector_plus (ra_cons (ev 0) (ra_cons (ev 1) (ra_cons (ev 2) (ra_nil)))))) (blkOk_by (own := [("c", 3)]) (N := N_rest_plus) (sc := (defScope s_rest_plus)) (by decide +kernel)) (fun _ _ _ _ _ => pg_name (i := 3) nd rfl (by first | exact Or.inl rfl | exact Or.inr rfl) (by first | exact .inl rfl | exact .inr rfl)) (fun _ _ _ _ _ => rts_nil) (fun _ _ _ _ _ => re_op op_mod ops_mod (ev 3) (ev 2)) (by decide)))))
abbrev N_rest_times : List Str := ["x", "y", "p", "c"]
def sc_rest_times_0 : PySem.Scope := { kind := PySem.ScopeKind.function, names := [(PySem.Str.ofString ".0", PySem.NameKind.local), (PySem.Str.ofString "c", PySem.NameKind.local), (PySem.Str.ofString "p", PySem.NameKind.cell)], isGenerator := false, isCoroutine := false, more := [] : PySem.Scope }
theorem sc_rest_times : FnScope N_rest_times ["x", "y", "p"] (defScope s_rest_times) := ⟨rfl, rfl, rfl, by decide +kernel, rfl, by decide +kernel, by decide +kernel⟩
theorem ok_rest_times (T : Tx K mg G) : Good P w K mg base G 9 19 3 ["x", "y", "p"] [] F_rest_times :=
  good_of (N := N_rest_times) T.d_rest_times sc_rest_times rfl fun f cdv A outer s H E hr => by
    have nd := sc_rest_times.nd
    have tk : Takes (cxOf (L2.CX P w) P w K mg base N_rest_times "rest_times" (defScope s_rest_times) f cdv A outer s H E) (fun cls d _ H => E cls d H) := takes_of rfl rfl rfl rfl
    have hp : PassesOwn (model P w) (cxOf (L2.CX P w) P w K mg base N_rest_times "rest_times" (defScope s_rest_times) f cdv A outer s H E).A (cxOf (L2.CX P w) P w K mg base N_rest_times "rest_times" (defScope s_rest_times) f cdv A outer s H E).env (cxOf (L2.CX P w) P w K mg base N_rest_times "rest_times" (defScope s_rest_times) f cdv A outer s H E).xe := PassesOwn.leaving
    exact rs_cons (rs_expr (ecall0 (ok_check_rests T) (hr.mono (by decide)) tk T.m_check_rests (ra_cons (ev 0) (ra_cons (ev 1) (ra_cons (ev 2) (ra_nil))))))
        (rs_one (rs_ret (re_t1 call_tuple_of uns_tup (by rfl) T.n_tuple (by decide +kernel) (re_lc (own := [("c", 3)]) (t := .nm 3) rfl nd (ri_seq (ecall0 (ok_vector_times T) (hr.mono (by decide)) tk T.m_vector_times (ra_cons (ev 0) (ra_cons (ev 1) (ra_cons (ev 2) (ra_nil)))))) (blkOk_by (own := [("c", 3)]) (N := N_rest_times) (sc := (defScope s_rest_times)) (by decide +kernel)) (fun _ _ _ _ _ => pg_name (i := 3) nd rfl (by first | exact Or.inl rfl | exact Or.inr rfl) (by first | exact .inl rfl | exact .inr rfl)) (fun _ _ _ _ _ => rts_nil) (fun _ _ _ _ _ => re_op op_mod ops_mod (ev 3) (ev 2)) (by decide)))))
abbrev N_number_of : List Str := ["x", "p", "n", "m", "k", "c"]
def sc_number_of_0 : PySem.Scope := { kind := PySem.ScopeKind.function, names := [(PySem.Str.ofString ".0", PySem.NameKind.local), (PySem.Str.ofString "k", PySem.NameKind.local), (PySem.Str.ofString "c", PySem.NameKind.local), (PySem.Str.ofString "power", PySem.NameKind.globalImplicit), (PySem.Str.ofString "power_mod", PySem.NameKind.globalImplicit), (PySem.Str.ofString "m", PySem.NameKind.cell), (PySem.Str.ofString "n", PySem.NameKind.cell), (PySem.Str.ofString "p", PySem.NameKind.cell)], isGenerator := false, isCoroutine := false, more := [] : PySem.Scope }
theorem sc_number_of : FnScope N_number_of ["x", "p"] (defScope s_number_of) := ⟨rfl, rfl, rfl, by decide +kernel, rfl, by decide +kernel, by decide +kernel⟩
theorem ok_number_of (T : Tx K mg G) : Good P w K mg base G 9 21 2 ["x", "p"] [] F_number_of :=
  good_of (N := N_number_of) T.d_number_of sc_number_of rfl fun f cdv A outer s H E hr => by
    have nd := sc_number_of.nd
    have tk : Takes (cxOf (L2.CX P w) P w K mg base N_number_of "number_of" (defScope s_number_of) f cdv A outer s H E) (fun cls d _ H => E cls d H) := takes_of rfl rfl rfl rfl
    have hp : PassesOwn (model P w) (cxOf (L2.CX P w) P w K mg base N_number_of "number_of" (defScope s_number_of) f cdv A outer s H E).A (cxOf (L2.CX P w) P w K mg base N_number_of "number_of" (defScope s_number_of) f cdv A outer s H E).env (cxOf (L2.CX P w) P w K mg base N_number_of "number_of" (defScope s_number_of) f cdv A outer s H E).xe := PassesOwn.leaving
    exact rs_cons (rs_expr (ecall0 (ok_check_rests T) (hr.mono (by decide)) tk T.m_check_rests (ra_cons (ev 0) (ra_cons (ev 0) (ra_cons (ev 1) (ra_nil))))))
        (rs_cons (rs_set (i := 2) nd rfl (by first | exact Or.inl rfl | exact Or.inr rfl) (re_b1 call_len_seq uns_len (by rfl) T.n_len PySem.boot_len (ev 0)) (by first | exact .inl rfl | exact .inr rfl))
        (rs_cons (rs_set (i := 3) nd rfl (by first | exact Or.inl rfl | exact Or.inr rfl) (ecall0 (ok_power T) (hr.mono (by decide)) tk T.m_power (ra_cons (ev 1) (ra_cons (ev 2) (ra_nil)))) (by first | exact .inl rfl | exact .inr rfl))
        (rs_one (rs_ret (re_op op_mod ops_mod (re_b1 (cr_sum rfl) uns_sum (by rfl) T.n_sum (by decide +kernel) (re_lc (own := [("k", 4), ("c", 5)]) (t := .tp [4, 5]) rfl nd (ri_enum2 (by rfl) T.n_enumerate (ra_cons (ev 0) (ra_nil))) (blkOk_by (own := [("k", 4), ("c", 5)]) (N := N_number_of) (sc := (defScope s_number_of)) (by decide +kernel)) (fun _ _ _ _ _ => pg_tup rfl (pgs_cons (pg_name (i := 4) nd rfl (by first | exact Or.inl rfl | exact Or.inr rfl) (by first | exact .inl rfl | exact .inr rfl)) (pgs_cons (pg_name (i := 5) nd rfl (by first | exact Or.inl rfl | exact Or.inr rfl) (by first | exact .inl rfl | exact .inr rfl)) (pgs_nil)))) (fun _ _ _ _ _ => rts_nil) (fun _ _ _ _ _ => re_op opr_mul2 ops_mul2 (ecall0 (ok_power T) (hr.mono (by decide)) takes0 T.m_power (ra_cons (ev 1) (ra_cons (ev 4) (ra_nil)))) (ecall0 (ok_power_mod T) (hr.mono (by decide)) takes0 T.m_power_mod (ra_cons (ev 5) (ra_cons (ecall0 (ok_power T) (hr.mono (by decide)) takes0 T.m_power (ra_cons (ev 1) (ra_cons (re_op op_sub ops_sub (ev 2) (re_int)) (ra_nil)))) (ra_cons (ev 3) (ra_nil)))))) (by decide))) (ev 3))))))
theorem tab_held {X : Cx} {mg : Str → Option Value} {K : PySem.W.Frag} {G : Wd} (T : Tx K mg G) (hK : X.K = K := by rfl) (hmg : X.mg = mg := by rfl) : ∀ m n F, tab m = some (n, F) → Held' X G 9 m n F := by
  subst hK hmg
  intro m n F h
  unfold tab at h
  split at h
  · cases h
    exact held_mono (held_of (ok_vector_plus T)) (by decide)
  · cases h
    exact held_mono (held_of (ok_vector_times T)) (by decide)
  · cases h
    exact held_mono (held_of (ok_rests_of T)) (by decide)
  · cases h
    exact held_mono (held_of (ok_rest_plus T)) (by decide)
  · cases h
    exact held_mono (held_of (ok_rest_times T)) (by decide)
  · cases h
    exact held_mono (held_of (ok_number_of T)) (by decide)
  · cases h
    exact held_mono (held_of (ok_rests_number T)) (by decide)
  · cases h
abbrev N__law_told : List Str := ["f", "given", "error"]
theorem sc__law_told : FnScope N__law_told ["f", "given"] (defScope s__law_told) := ⟨rfl, rfl, rfl, by decide +kernel, rfl, by decide +kernel, by decide +kernel⟩
theorem ok__law_told (T : Tx K mg G) : Good P w K mg base G 10 26 2 ["f", "given"] [] F__law_told :=
  good_of (N := N__law_told) T.d__law_told sc__law_told rfl fun f cdv A outer s H E hr => by
    have nd := sc__law_told.nd
    have tk : Takes (cxOf (L2.CX P w) P w K mg base N__law_told "_law_told" (defScope s__law_told) f cdv A outer s H E) (fun cls d _ H => E cls d H) := takes_of rfl rfl rfl rfl
    have hp : PassesOwn (model P w) (cxOf (L2.CX P w) P w K mg base N__law_told "_law_told" (defScope s__law_told) f cdv A outer s H E).A (cxOf (L2.CX P w) P w K mg base N__law_told "_law_told" (defScope s__law_told) f cdv A outer s H E).env (cxOf (L2.CX P w) P w K mg base N__law_told "_law_told" (defScope s__law_told) f cdv A outer s H E).xe := PassesOwn.leaving
    have hrD := hr
    exact rs_one (rs_try (f1 := sRet (eTup (aCons (eC (.str "malformed")) (aCons (eC .non) (aNil))))) (i := 2) (ts2 := fun a cls d => tErr a cls d (G.clA 1) 2) rfl rfl nd rfl rfl ⟨rfl, by decide, .inl T.gM⟩ ⟨rfl, by decide, .inl T.gR⟩ (fun W pn xe tk2 hp2 => rs_cons (rs_if (rt_cmp (opr_eq hr.units) ops_eq (re_b1 call_len_seq uns_len (by rfl) T.n_len PySem.boot_len (ev 1)) (re_int) (nomark _)) (rs_one (rs_ret (re_tup (ra_cons (re_str) (ra_cons (re_never) (ra_nil)))))) (rs_nil))
        (rs_cons (rs_if (rt_cmp (opr_eq hr.units) ops_eq (re_b1 call_len_seq uns_len (by rfl) T.n_len PySem.boot_len (ev 1)) (re_int) (nomark _)) (rs_one (rs_ret (re_tup (ra_cons (re_str) (ra_cons (re_callD (tab_held T) hrD rfl (by first | exact Or.inl rfl | exact Or.inr (Or.inl rfl)) tk2 (ra_cons (re_ix ixr_any ops_ix (ev 1) (re_int) (fun _ _ => rfl)) (ra_nil))) (ra_nil)))))) (rs_nil))
        (rs_cons (rs_if (rt_cmp (opr_eq hr.units) ops_eq (re_b1 call_len_seq uns_len (by rfl) T.n_len PySem.boot_len (ev 1)) (re_int) (nomark _)) (rs_one (rs_ret (re_tup (ra_cons (re_str) (ra_cons (re_callD (tab_held T) hrD rfl (by first | exact Or.inl rfl | exact Or.inr (Or.inl rfl)) tk2 (ra_cons (re_ix ixr_any ops_ix (ev 1) (re_int) (fun _ _ => rfl)) (ra_cons (re_ix ixr_any ops_ix (ev 1) (re_int) (fun _ _ => rfl)) (ra_nil)))) (ra_nil)))))) (rs_nil))
        (rs_cons (rs_if (rt_cmp (opr_eq hr.units) ops_eq (re_b1 call_len_seq uns_len (by rfl) T.n_len PySem.boot_len (ev 1)) (re_int) (nomark _)) (rs_one (rs_ret (re_tup (ra_cons (re_str) (ra_cons (re_callD (tab_held T) hrD rfl (by first | exact Or.inl rfl | exact Or.inr (Or.inl rfl)) tk2 (ra_cons (re_ix ixr_any ops_ix (ev 1) (re_int) (fun _ _ => rfl)) (ra_cons (re_ix ixr_any ops_ix (ev 1) (re_int) (fun _ _ => rfl)) (ra_cons (re_ix ixr_any ops_ix (ev 1) (re_int) (fun _ _ => rfl)) (ra_nil))))) (ra_nil)))))) (rs_nil))
        (rs_cons (rs_if (rt_cmp (opr_eq hr.units) ops_eq (re_b1 call_len_seq uns_len (by rfl) T.n_len PySem.boot_len (ev 1)) (re_int) (nomark _)) (rs_one (rs_ret (re_tup (ra_cons (re_str) (ra_cons (re_callD (tab_held T) hrD rfl (by first | exact Or.inl rfl | exact Or.inr (Or.inl rfl)) tk2 (ra_cons (re_ix ixr_any ops_ix (ev 1) (re_int) (fun _ _ => rfl)) (ra_cons (re_ix ixr_any ops_ix (ev 1) (re_int) (fun _ _ => rfl)) (ra_cons (re_ix ixr_any ops_ix (ev 1) (re_int) (fun _ _ => rfl)) (ra_cons (re_ix ixr_any ops_ix (ev 1) (re_int) (fun _ _ => rfl)) (ra_nil)))))) (ra_nil)))))) (rs_nil))
        (rs_cons (rs_if (rt_cmp (opr_eq hr.units) ops_eq (re_b1 call_len_seq uns_len (by rfl) T.n_len PySem.boot_len (ev 1)) (re_int) (nomark _)) (rs_one (rs_ret (re_tup (ra_cons (re_str) (ra_cons (re_callD (tab_held T) hrD rfl (by first | exact Or.inl rfl | exact Or.inr (Or.inl rfl)) tk2 (ra_cons (re_ix ixr_any ops_ix (ev 1) (re_int) (fun _ _ => rfl)) (ra_cons (re_ix ixr_any ops_ix (ev 1) (re_int) (fun _ _ => rfl)) (ra_cons (re_ix ixr_any ops_ix (ev 1) (re_int) (fun _ _ => rfl)) (ra_cons (re_ix ixr_any ops_ix (ev 1) (re_int) (fun _ _ => rfl)) (ra_cons (re_ix ixr_any ops_ix (ev 1) (re_int) (fun _ _ => rfl)) (ra_nil))))))) (ra_nil)))))) (rs_nil))
        (rs_one (rs_ret (re_tup (ra_cons (re_str) (ra_cons (re_callD (tab_held T) hrD rfl (by first | exact Or.inl rfl | exact Or.inr (Or.inl rfl)) tk2 (ra_cons (re_ix ixr_any ops_ix (ev 1) (re_int) (fun _ _ => rfl)) (ra_cons (re_ix ixr_any ops_ix (ev 1) (re_int) (fun _ _ => rfl)) (ra_cons (re_ix ixr_any ops_ix (ev 1) (re_int) (fun _ _ => rfl)) (ra_cons (re_ix ixr_any ops_ix (ev 1) (re_int) (fun _ _ => rfl)) (ra_cons (re_ix ixr_any ops_ix (ev 1) (re_int) (fun _ _ => rfl)) (ra_cons (re_ix ixr_any ops_ix (ev 1) (re_int) (fun _ _ => rfl)) (ra_nil)))))))) (ra_nil)))))))))))) (fun _ _ _ _ _ _ _ => rs_one (rs_ret (re_tup (ra_cons (re_str) (ra_cons (re_non) (ra_nil)))))) (fun _ _ _ _ _ hz hf => pss_err T.rC hz hf rfl (by first | exact Or.inl rfl | exact Or.inr (Or.inl rfl))) rfl (fun _ _ _ _ _ _ _ _ _ _ e n na rx zh fh k => err_ok rfl (by decide) e n na rx zh fh k) T.eMM (fun _ => ⟨T.eRM, T.eRR⟩) rfl)
abbrev N__law_tells : List Str := ["f", "given", "due"]
theorem sc__law_tells : FnScope N__law_tells ["f", "given", "due"] (defScope s__law_tells) := ⟨rfl, rfl, rfl, by decide +kernel, rfl, by decide +kernel, by decide +kernel⟩
theorem ok__law_tells (T : Tx K mg G) : Good P w K mg base G 11 29 3 ["f", "given", "due"] [] F__law_tells :=
  good_of (N := N__law_tells) T.d__law_tells sc__law_tells rfl fun f cdv A outer s H E hr => by
    have nd := sc__law_tells.nd
    have tk : Takes (cxOf (L2.CX P w) P w K mg base N__law_tells "_law_tells" (defScope s__law_tells) f cdv A outer s H E) (fun cls d _ H => E cls d H) := takes_of rfl rfl rfl rfl
    have hp : PassesOwn (model P w) (cxOf (L2.CX P w) P w K mg base N__law_tells "_law_tells" (defScope s__law_tells) f cdv A outer s H E).A (cxOf (L2.CX P w) P w K mg base N__law_tells "_law_tells" (defScope s__law_tells) f cdv A outer s H E).env (cxOf (L2.CX P w) P w K mg base N__law_tells "_law_tells" (defScope s__law_tells) f cdv A outer s H E).xe := PassesOwn.leaving
    exact rs_one (rs_ret (ecall0 (ok__law_is_told T) (hr.mono (by decide)) tk T.m__law_is_told (ra_cons (ecall0 (ok__law_told T) (hr.mono (by decide)) tk T.m__law_told (ra_cons (ev 0) (ra_cons (ev 1) (ra_nil)))) (ra_cons (ev 2) (ra_nil)))))
abbrev N__law_raises : List Str := ["f", "given", "reason"]
theorem sc__law_raises : FnScope N__law_raises ["f", "given", "reason"] (defScope s__law_raises) := ⟨rfl, rfl, rfl, by decide +kernel, rfl, by decide +kernel, by decide +kernel⟩
theorem ok__law_raises (T : Tx K mg G) : Good P w K mg base G 11 30 3 ["f", "given", "reason"] [] F__law_raises :=
  good_of (N := N__law_raises) T.d__law_raises sc__law_raises rfl fun f cdv A outer s H E hr => by
    have nd := sc__law_raises.nd
    have tk : Takes (cxOf (L2.CX P w) P w K mg base N__law_raises "_law_raises" (defScope s__law_raises) f cdv A outer s H E) (fun cls d _ H => E cls d H) := takes_of rfl rfl rfl rfl
    have hp : PassesOwn (model P w) (cxOf (L2.CX P w) P w K mg base N__law_raises "_law_raises" (defScope s__law_raises) f cdv A outer s H E).A (cxOf (L2.CX P w) P w K mg base N__law_raises "_law_raises" (defScope s__law_raises) f cdv A outer s H E).env (cxOf (L2.CX P w) P w K mg base N__law_raises "_law_raises" (defScope s__law_raises) f cdv A outer s H E).xe := PassesOwn.leaving
    exact rs_one (rs_ret (ecall0 (ok__law_is_raised T) (hr.mono (by decide)) tk T.m__law_is_raised (ra_cons (ecall0 (ok__law_told T) (hr.mono (by decide)) tk T.m__law_told (ra_cons (ev 0) (ra_cons (ev 1) (ra_nil)))) (ra_cons (ev 2) (ra_nil)))))
abbrev N__law_value : List Str := ["f", "given", "told"]
theorem sc__law_value : FnScope N__law_value ["f", "given"] (defScope s__law_value) := ⟨rfl, rfl, rfl, by decide +kernel, rfl, by decide +kernel, by decide +kernel⟩
theorem ok__law_value (T : Tx K mg G) : Good P w K mg base G 11 32 2 ["f", "given"] [] F__law_value :=
  good_of (N := N__law_value) T.d__law_value sc__law_value rfl fun f cdv A outer s H E hr => by
    have nd := sc__law_value.nd
    have tk : Takes (cxOf (L2.CX P w) P w K mg base N__law_value "_law_value" (defScope s__law_value) f cdv A outer s H E) (fun cls d _ H => E cls d H) := takes_of rfl rfl rfl rfl
    have hp : PassesOwn (model P w) (cxOf (L2.CX P w) P w K mg base N__law_value "_law_value" (defScope s__law_value) f cdv A outer s H E).A (cxOf (L2.CX P w) P w K mg base N__law_value "_law_value" (defScope s__law_value) f cdv A outer s H E).env (cxOf (L2.CX P w) P w K mg base N__law_value "_law_value" (defScope s__law_value) f cdv A outer s H E).xe := PassesOwn.leaving
    exact rs_cons (rs_set (i := 2) nd rfl (by first | exact Or.inl rfl | exact Or.inr rfl) (ecall0 (ok__law_told T) (hr.mono (by decide)) tk T.m__law_told (ra_cons (ev 0) (ra_cons (ev 1) (ra_nil)))) (by first | exact .inl rfl | exact .inr rfl))
        (rs_one (rs_ret (re_if (rt_cmp (opr_eq hr.units) ops_eq (re_ix ixr_any ops_ix (ev 2) (re_int) (fun _ _ => rfl)) (re_str) (nomark _)) (re_ix ixr_any ops_ix (ev 2) (re_int) (fun _ _ => rfl)) (ev 2))))
abbrev N__law_bads : List Str := ["f", "given", "at", "bads", "bad", "own"]
theorem sc__law_bads : FnScope N__law_bads ["f", "given", "at", "bads"] (defScope s__law_bads) := ⟨rfl, rfl, rfl, by decide +kernel, rfl, by decide +kernel, by decide +kernel⟩
theorem ok__law_bads (T : Tx K mg G) : Good P w K mg base G 11 33 4 ["f", "given", "at", "bads"] [] F__law_bads :=
  good_of (N := N__law_bads) T.d__law_bads sc__law_bads rfl fun f cdv A outer s H E hr => by
    have nd := sc__law_bads.nd
    have tk : Takes (cxOf (L2.CX P w) P w K mg base N__law_bads "_law_bads" (defScope s__law_bads) f cdv A outer s H E) (fun cls d _ H => E cls d H) := takes_of rfl rfl rfl rfl
    have hp : PassesOwn (model P w) (cxOf (L2.CX P w) P w K mg base N__law_bads "_law_bads" (defScope s__law_bads) f cdv A outer s H E).A (cxOf (L2.CX P w) P w K mg base N__law_bads "_law_bads" (defScope s__law_bads) f cdv A outer s H E).env (cxOf (L2.CX P w) P w K mg base N__law_bads "_law_bads" (defScope s__law_bads) f cdv A outer s H E).xe := PassesOwn.leaving
    exact rs_cons (rs_for' (.nm 4) hp (ri_seq (ev 3)) (pg_name (i := 4) nd rfl (by first | exact Or.inl rfl | exact Or.inr rfl) (by first | exact .inl rfl | exact .inr rfl)) (rs_cons (rs_set (i := 5) nd rfl (by first | exact Or.inl rfl | exact Or.inr rfl) (re_t1 call_list_of uns_lst (by rfl) T.n_list (by decide +kernel) (ev 1)) (by first | exact .inl rfl | exact .inr rfl))
        (rs_cons (rs_sto (j := 5) rfl (by first | exact Or.inl rfl | exact Or.inr (Or.inl rfl)) (ev 4) (ev 2) (ps_asg (ev 4) (pg_sub (pv 5) (ev 2) set_list)))
        (rs_one (rs_if (rt_cmp (opr_ne hr.units) ops_ne (ecall0 (ok__law_told T) (hr.mono (by decide)) tk T.m__law_told (ra_cons (ev 0) (ra_cons (re_t1 call_tuple_of uns_tup (by rfl) T.n_tuple (by decide +kernel) (ev 5)) (ra_nil)))) (re_tup (ra_cons (re_str) (ra_cons (re_non) (ra_nil)))) (nomark _)) (rs_one (rs_ret (re_bl))) (rs_nil))))))
        (rs_one (rs_ret (re_bl)))
abbrev N_law : List Str := ["script", "state", "turn", "p", "n", "m", "x", "y", "a", "b", "both", "whole", "c", "own", "wide", "wrong", "act", "t", "k", "d", "row"]
def sc_law_0 : PySem.Scope := { kind := PySem.ScopeKind.function, names := [(PySem.Str.ofString ".0", PySem.NameKind.local), (PySem.Str.ofString "t", PySem.NameKind.local), (PySem.Str.ofString "tuple", PySem.NameKind.globalImplicit), (PySem.Str.ofString "range", PySem.NameKind.globalImplicit), (PySem.Str.ofString "n", PySem.NameKind.cell), (PySem.Str.ofString "p", PySem.NameKind.cell), (PySem.Str.ofString "state", PySem.NameKind.cell)], isGenerator := false, isCoroutine := false, more := [] : PySem.Scope }
def sc_law_1 : PySem.Scope := { kind := PySem.ScopeKind.function, names := [(PySem.Str.ofString ".0", PySem.NameKind.local), (PySem.Str.ofString "k", PySem.NameKind.local), (PySem.Str.ofString "_law_take", PySem.NameKind.globalImplicit), (PySem.Str.ofString "p", PySem.NameKind.cell), (PySem.Str.ofString "state", PySem.NameKind.cell)], isGenerator := false, isCoroutine := false, more := [] : PySem.Scope }
def sc_law_2 : PySem.Scope := { kind := PySem.ScopeKind.function, names := [(PySem.Str.ofString ".0", PySem.NameKind.local), (PySem.Str.ofString "c", PySem.NameKind.local), (PySem.Str.ofString "p", PySem.NameKind.cell)], isGenerator := false, isCoroutine := false, more := [] : PySem.Scope }
def sc_law_3 : PySem.Scope := { kind := PySem.ScopeKind.function, names := [(PySem.Str.ofString ".0", PySem.NameKind.local), (PySem.Str.ofString "c", PySem.NameKind.local), (PySem.Str.ofString "int", PySem.NameKind.globalImplicit), (PySem.Str.ofString "p", PySem.NameKind.cell)], isGenerator := false, isCoroutine := false, more := [] : PySem.Scope }
def sc_law_4 : PySem.Scope := { kind := PySem.ScopeKind.function, names := [(PySem.Str.ofString ".0", PySem.NameKind.local), (PySem.Str.ofString "c", PySem.NameKind.local), (PySem.Str.ofString "int", PySem.NameKind.globalImplicit), (PySem.Str.ofString "p", PySem.NameKind.cell)], isGenerator := false, isCoroutine := false, more := [] : PySem.Scope }
def sc_law_5 : PySem.Scope := { kind := PySem.ScopeKind.function, names := [(PySem.Str.ofString ".0", PySem.NameKind.local), (PySem.Str.ofString "d", PySem.NameKind.local), (PySem.Str.ofString "_law_plain", PySem.NameKind.globalImplicit), (PySem.Str.ofString "p", PySem.NameKind.cell)], isGenerator := false, isCoroutine := false, more := [] : PySem.Scope }
def sc_law_6 : PySem.Scope := { kind := PySem.ScopeKind.function, names := [(PySem.Str.ofString ".0", PySem.NameKind.local), (PySem.Str.ofString "k", PySem.NameKind.local), (PySem.Str.ofString "_law_take", PySem.NameKind.globalImplicit), (PySem.Str.ofString "state", PySem.NameKind.cell)], isGenerator := false, isCoroutine := false, more := [] : PySem.Scope }
def sc_law_7 : PySem.Scope := { kind := PySem.ScopeKind.function, names := [(PySem.Str.ofString ".0", PySem.NameKind.local), (PySem.Str.ofString "d", PySem.NameKind.local), (PySem.Str.ofString "int", PySem.NameKind.globalImplicit), (PySem.Str.ofString "p", PySem.NameKind.cell)], isGenerator := false, isCoroutine := false, more := [] : PySem.Scope }
def sc_law_8 : PySem.Scope := { kind := PySem.ScopeKind.function, names := [(PySem.Str.ofString ".0", PySem.NameKind.local), (PySem.Str.ofString "row", PySem.NameKind.local), (PySem.Str.ofString "_law_number", PySem.NameKind.globalImplicit), (PySem.Str.ofString "p", PySem.NameKind.cell)], isGenerator := false, isCoroutine := false, more := [] : PySem.Scope }
theorem sc_law : FnScope N_law ["script"] (defScope s_law) := ⟨rfl, rfl, rfl, by decide +kernel, rfl, by decide +kernel, by decide +kernel⟩
theorem law_fn (T : Tx K mg G) {f : Addr} {fd : FuncData} (F : Fun K "law" "law" s_law f fd) : FnOk P w K mg base (L2.CX P w) 12 f fd ["script"] (spF K G 1 F_law) :=
  fn_ok (N := N_law) F sc_law fun cdv A outer s H E hr => by
    have nd := sc_law.nd
    have tk : Takes (cxOf (L2.CX P w) P w K mg base N_law "law" (defScope s_law) f cdv A outer s H E) (fun cls d _ H => E cls d H) := takes_of rfl rfl rfl rfl
    have hp : PassesOwn (model P w) (cxOf (L2.CX P w) P w K mg base N_law "law" (defScope s_law) f cdv A outer s H E).A (cxOf (L2.CX P w) P w K mg base N_law "law" (defScope s_law) f cdv A outer s H E).env (cxOf (L2.CX P w) P w K mg base N_law "law" (defScope s_law) f cdv A outer s H E).xe := PassesOwn.leaving
    exact rs_cons (rs_set (i := 1) nd rfl (by first | exact Or.inl rfl | exact Or.inr rfl) (ecall0 (ok__law_state T) (hr.mono (by decide)) tk T.m__law_state (ra_cons (ev 0) (ra_nil))) (by first | exact .inl rfl | exact .inr rfl))
        (rs_cons (rs_for' (.nm 2) hp (ri_range1 (by rfl) T.n_range (ra_cons (re_int) (ra_nil))) (pg_name (i := 2) nd rfl (by first | exact Or.inl rfl | exact Or.inr rfl) (by first | exact .inl rfl | exact .inr rfl)) (rs_cons (rs_set (i := 3) nd rfl (by first | exact Or.inl rfl | exact Or.inr rfl) (ecallB (j := 1) (ok__law_prime T) (hr.mono (by decide)) tk T.m__law_prime (ra_cons (re_int) (ra_nil))) (by first | exact .inl rfl | exact .inr rfl))
        (rs_cons (rs_set (i := 4) nd rfl (by first | exact Or.inl rfl | exact Or.inr rfl) (re_op opr_add ops_add (re_int) (ecallB (j := 1) (ok__law_take T) (hr.mono (by decide)) tk T.m__law_take (ra_cons (re_if (rt_cmp op_lt ops_lt (ev 3) (re_int) (nomark _)) (re_int) (re_int)) (ra_nil)))) (by first | exact .inl rfl | exact .inr rfl))
        (rs_cons (rs_set (i := 5) nd rfl (by first | exact Or.inl rfl | exact Or.inr rfl) (ecall0 (ok__law_raised T) (hr.mono (by decide)) tk T.m__law_raised (ra_cons (ev 3) (ra_cons (ev 4) (ra_nil)))) (by first | exact .inl rfl | exact .inr rfl))
        (rs_cons (rs_unp (is := [6, 7]) (re_lc (own := [("t", 17)]) (t := .nm 17) rfl nd (ri_range1 (by rfl) T.n_range (ra_cons (re_int) (ra_nil))) (blkOk_by (own := [("t", 17)]) (N := N_law) (sc := (defScope s_law)) (by decide +kernel)) (fun _ _ _ _ _ => pg_name (i := 17) nd rfl (by first | exact Or.inl rfl | exact Or.inr rfl) (by first | exact .inl rfl | exact .inr rfl)) (fun _ _ _ _ _ => rts_nil) (fun _ _ _ _ _ => re_t1 call_tuple_of uns_tup (by rfl) T.n_tuple (by decide +kernel) (re_lc (own := [("k", 18)]) (t := .nm 18) rfl nd (ri_range1 (by rfl) T.n_range (ra_cons (ev 4) (ra_nil))) (blkOk_by (own := [("k", 18)]) (N := N_law) (sc := sc_law_0) (by decide +kernel)) (fun _ _ _ _ _ => pg_name (i := 18) nd rfl (by first | exact Or.inl rfl | exact Or.inr rfl) (by first | exact .inl rfl | exact .inr rfl)) (fun _ _ _ _ _ => rts_nil) (fun _ _ _ _ _ => ecallB (j := 1) (ok__law_take T) (hr.mono (by decide)) takes0 T.m__law_take (ra_cons (ev 3) (ra_nil))) (by decide))) (by decide)) (pg_tup rfl (pgs_cons (pg_name (i := 6) nd rfl (by first | exact Or.inl rfl | exact Or.inr rfl) (by first | exact .inl rfl | exact .inr rfl)) (pgs_cons (pg_name (i := 7) nd rfl (by first | exact Or.inl rfl | exact Or.inr rfl) (by first | exact .inl rfl | exact .inr rfl)) (pgs_nil)))) (pg_unl rfl (pgs_cons (pg_name (i := 6) nd rfl (by first | exact Or.inl rfl | exact Or.inr rfl) (by first | exact .inl rfl | exact .inr rfl)) (pgs_cons (pg_name (i := 7) nd rfl (by first | exact Or.inl rfl | exact Or.inr rfl) (by first | exact .inl rfl | exact .inr rfl)) (pgs_nil)))))
        (rs_cons (rs_par (i := 8) (j := 9) rfl nd rfl rfl (by decide) rfl rfl (ecall0 (ok__law_number T) (hr.mono (by decide)) tk T.m__law_number (ra_cons (ev 6) (ra_cons (ev 3) (ra_nil)))) (ecall0 (ok__law_number T) (hr.mono (by decide)) tk T.m__law_number (ra_cons (ev 7) (ra_cons (ev 3) (ra_nil)))) (by rfl))
        (rs_cons (rs_if ((rw_or (rt_not (rt_val (ecall0 (ok__law_tells T) (hr.mono (by decide)) tk T.m__law_tells (ra_cons (re_gfn (n := 21) (by rfl) T.m_number_of) (ra_cons (re_tup (ra_cons (ev 6) (ra_cons (ev 3) (ra_nil)))) (ra_cons (ev 8) (ra_nil))))))) (rw_or1 (rt_not (rt_val (ecall0 (ok__law_tells T) (hr.mono (by decide)) tk T.m__law_tells (ra_cons (re_gfn (n := 22) (by rfl) T.m_rests_number) (ra_cons (re_tup (ra_cons (ev 8) (ra_cons (ev 4) (ra_cons (ev 3) (ra_nil))))) (ra_cons (ev 6) (ra_nil))))))))).pt) (rs_one (rs_ret (re_bl))) (rs_nil))
        (rs_cons (rs_par (i := 10) (j := 11) rfl nd rfl rfl (by decide) rfl rfl (ecall0 (ok__law_value T) (hr.mono (by decide)) tk T.m__law_value (ra_cons (re_gfn (n := 18) (by rfl) T.m_rest_plus) (ra_cons (re_tup (ra_cons (ev 6) (ra_cons (ev 7) (ra_cons (ev 3) (ra_nil))))) (ra_nil)))) (ecall0 (ok__law_value T) (hr.mono (by decide)) tk T.m__law_value (ra_cons (re_gfn (n := 19) (by rfl) T.m_rest_times) (ra_cons (re_tup (ra_cons (ev 6) (ra_cons (ev 7) (ra_cons (ev 3) (ra_nil))))) (ra_nil)))) (by rfl))
        (rs_cons (rs_if ((rw_or (rt_cmp (opr_ne hr.units) ops_ne (ecall0 (ok__law_number T) (hr.mono (by decide)) tk T.m__law_number (ra_cons (ev 10) (ra_cons (ev 3) (ra_nil)))) (re_op op_mod ops_mod (re_t1 call_int1 uns_int (by rfl) T.n_int (by decide +kernel) (re_op opr_add ops_add (ev 8) (ev 9))) (ev 5)) (nomark _)) (rw_or (rt_cmp (opr_ne hr.units) ops_ne (ecall0 (ok__law_number T) (hr.mono (by decide)) tk T.m__law_number (ra_cons (ev 11) (ra_cons (ev 3) (ra_nil)))) (re_op op_mod ops_mod (re_t1 call_int1 uns_int (by rfl) T.n_int (by decide +kernel) (re_op opr_mul2 ops_mul2 (ev 8) (ev 9))) (ev 5)) (nomark _)) (rw_or (rt_not (rt_val (re_b1 (cr_all rfl) uns_all (by rfl) T.n_all (by decide +kernel) (re_lc (own := [("c", 12)]) (t := .nm 12) rfl nd (ri_seq (re_op opr_add ops_add (ev 10) (ev 11))) (blkOk_by (own := [("c", 12)]) (N := N_law) (sc := (defScope s_law)) (by decide +kernel)) (fun _ _ _ _ _ => pg_name (i := 12) nd rfl (by first | exact Or.inl rfl | exact Or.inr rfl) (by first | exact .inl rfl | exact .inr rfl)) (fun _ _ _ _ _ => rts_nil) (fun _ _ _ _ _ => re_chain op_le op_lt ops_le ops_lt (re_int) (ev 12) (ev 3)) (by decide))))) (rw_or (rt_cmp (opr_ne hr.units) ops_ne (re_b1 call_len_seq uns_len (by rfl) T.n_len PySem.boot_len (ev 10)) (ev 4) (nomark _)) (rw_or1 (rt_cmp (opr_ne hr.units) ops_ne (re_b1 call_len_seq uns_len (by rfl) T.n_len PySem.boot_len (ev 11)) (ev 4) (nomark _))))))).pt) (rs_one (rs_ret (re_bl))) (rs_nil))
        (rs_cons (rs_if ((rw_or (rt_cmp (opr_ne hr.units) ops_ne (ev 10) (re_t1 call_tuple_of uns_tup (by rfl) T.n_tuple (by decide +kernel) (re_lc (own := [("c", 12)]) (t := .nm 12) rfl nd (ri_seq (ecall0 (ok__law_value T) (hr.mono (by decide)) tk T.m__law_value (ra_cons (re_gfn (n := 15) (by rfl) T.m_vector_plus) (ra_cons (re_tup (ra_cons (ev 6) (ra_cons (ev 7) (ra_cons (ev 3) (ra_nil))))) (ra_nil))))) (blkOk_by (own := [("c", 12)]) (N := N_law) (sc := (defScope s_law)) (by decide +kernel)) (fun _ _ _ _ _ => pg_name (i := 12) nd rfl (by first | exact Or.inl rfl | exact Or.inr rfl) (by first | exact .inl rfl | exact .inr rfl)) (fun _ _ _ _ _ => rts_nil) (fun _ _ _ _ _ => re_op op_mod ops_mod (re_t1 call_int1 uns_int (by rfl) T.n_int (by decide +kernel) (ev 12)) (ev 3)) (by decide))) (nomark _)) (rw_or1 (rt_cmp (opr_ne hr.units) ops_ne (ev 11) (re_t1 call_tuple_of uns_tup (by rfl) T.n_tuple (by decide +kernel) (re_lc (own := [("c", 12)]) (t := .nm 12) rfl nd (ri_seq (ecall0 (ok__law_value T) (hr.mono (by decide)) tk T.m__law_value (ra_cons (re_gfn (n := 16) (by rfl) T.m_vector_times) (ra_cons (re_tup (ra_cons (ev 6) (ra_cons (ev 7) (ra_cons (ev 3) (ra_nil))))) (ra_nil))))) (blkOk_by (own := [("c", 12)]) (N := N_law) (sc := (defScope s_law)) (by decide +kernel)) (fun _ _ _ _ _ => pg_name (i := 12) nd rfl (by first | exact Or.inl rfl | exact Or.inr rfl) (by first | exact .inl rfl | exact .inr rfl)) (fun _ _ _ _ _ => rts_nil) (fun _ _ _ _ _ => re_op op_mod ops_mod (re_t1 call_int1 uns_int (by rfl) T.n_int (by decide +kernel) (ev 12)) (ev 3)) (by decide))) (nomark _)))).pt) (rs_one (rs_ret (re_bl))) (rs_nil))
        (rs_cons (rs_set (i := 12) nd rfl (by first | exact Or.inl rfl | exact Or.inr rfl) (re_op op_sub ops_sub (ecallB (j := 1) (ok__law_take T) (hr.mono (by decide)) tk T.m__law_take (ra_cons (re_op opr_mul2 ops_mul2 (re_int) (ev 5)) (ra_nil))) (re_op opr_mul2 ops_mul2 (re_int) (ev 5))) (by first | exact .inl rfl | exact .inr rfl))
        (rs_cons (rs_set (i := 13) nd rfl (by first | exact Or.inl rfl | exact Or.inr rfl) (ecall0 (ok__law_value T) (hr.mono (by decide)) tk T.m__law_value (ra_cons (re_gfn (n := 22) (by rfl) T.m_rests_number) (ra_cons (re_tup (ra_cons (ev 12) (ra_cons (ev 4) (ra_cons (ev 3) (ra_nil))))) (ra_nil)))) (by first | exact .inl rfl | exact .inr rfl))
        (rs_cons (rs_if ((rw_or (rt_cmp (opr_ne hr.units) ops_ne (re_b1 call_len_seq uns_len (by rfl) T.n_len PySem.boot_len (ev 13)) (ev 4) (nomark _)) (rw_or (rt_not (rt_val (re_b1 (cr_all rfl) uns_all (by rfl) T.n_all (by decide +kernel) (re_lc (own := [("d", 19)]) (t := .nm 19) rfl nd (ri_seq (ev 13)) (blkOk_by (own := [("d", 19)]) (N := N_law) (sc := (defScope s_law)) (by decide +kernel)) (fun _ _ _ _ _ => pg_name (i := 19) nd rfl (by first | exact Or.inl rfl | exact Or.inr rfl) (by first | exact .inl rfl | exact .inr rfl)) (fun _ _ _ _ _ => rts_nil) (fun _ _ _ _ _ => re_and (ecall0 (ok__law_plain T) (hr.mono (by decide)) takes0 T.m__law_plain (ra_cons (ev 19) (ra_nil))) (re_one (re_chain op_le op_lt ops_le ops_lt (re_int) (ev 19) (ev 3)))) (by decide))))) (rw_or1 (rt_cmp (opr_ne hr.units) ops_ne (ecall0 (ok__law_number T) (hr.mono (by decide)) tk T.m__law_number (ra_cons (ev 13) (ra_cons (ev 3) (ra_nil)))) (re_op op_mod ops_mod (re_t1 call_int1 uns_int (by rfl) T.n_int (by decide +kernel) (ev 12)) (ev 5)) (nomark _))))).pt) (rs_one (rs_ret (re_bl))) (rs_nil))
        (rs_cons (rs_set (i := 14) nd rfl (by first | exact Or.inl rfl | exact Or.inr rfl) (re_t1 call_tuple_of uns_tup (by rfl) T.n_tuple (by decide +kernel) (re_lc (own := [("k", 18)]) (t := .nm 18) rfl nd (ri_range1 (by rfl) T.n_range (ra_cons (ev 4) (ra_nil))) (blkOk_by (own := [("k", 18)]) (N := N_law) (sc := (defScope s_law)) (by decide +kernel)) (fun _ _ _ _ _ => pg_name (i := 18) nd rfl (by first | exact Or.inl rfl | exact Or.inr rfl) (by first | exact .inl rfl | exact .inr rfl)) (fun _ _ _ _ _ => rts_nil) (fun _ _ _ _ _ => re_op op_sub ops_sub (ecallB (j := 1) (ok__law_take T) (hr.mono (by decide)) takes0 T.m__law_take (ra_cons (re_int) (ra_nil))) (re_int)) (by decide))) (by first | exact .inl rfl | exact .inr rfl))
        (rs_cons (rs_if (rt_not (rt_val (ecall0 (ok__law_tells T) (hr.mono (by decide)) tk T.m__law_tells (ra_cons (re_gfn (n := 17) (by rfl) T.m_rests_of) (ra_cons (re_tup (ra_cons (ev 14) (ra_cons (ev 3) (ra_nil)))) (ra_cons (re_t1 call_tuple_of uns_tup (by rfl) T.n_tuple (by decide +kernel) (re_lc (own := [("d", 19)]) (t := .nm 19) rfl nd (ri_seq (ev 14)) (blkOk_by (own := [("d", 19)]) (N := N_law) (sc := (defScope s_law)) (by decide +kernel)) (fun _ _ _ _ _ => pg_name (i := 19) nd rfl (by first | exact Or.inl rfl | exact Or.inr rfl) (by first | exact .inl rfl | exact .inr rfl)) (fun _ _ _ _ _ => rts_nil) (fun _ _ _ _ _ => re_op op_mod ops_mod (re_t1 call_int1 uns_int (by rfl) T.n_int (by decide +kernel) (ev 19)) (ev 3)) (by decide))) (ra_nil))))))) (rs_one (rs_ret (re_bl))) (rs_nil))
        (rs_cons (rs_if (rt_cmp (opr_ne hr.units) ops_ne (re_b1 call_len_seq uns_len (by rfl) T.n_len PySem.boot_len (re_srtSet rfl (by rfl) T.n_sorted (by rfl) T.n_set (re_lc (own := [("row", 20)]) (t := .nm 20) rfl nd (ri_seq (ecall0 (ok__law_words T) (hr.mono (by decide)) tk T.m__law_words (ra_cons (re_op opr_mul2 ops_mul2 (re_lst (ra_cons (ev 3) (ra_nil))) (re_b2 (call_min2 rfl) ops_min (by rfl) T.n_min (by decide +kernel) (ev 4) (re_int))) (ra_nil)))) (blkOk_by (own := [("row", 20)]) (N := N_law) (sc := (defScope s_law)) (by decide +kernel)) (fun _ _ _ _ _ => pg_name (i := 20) nd rfl (by first | exact Or.inl rfl | exact Or.inr rfl) (by first | exact .inl rfl | exact .inr rfl)) (fun _ _ _ _ _ => rts_nil) (fun _ _ _ _ _ => ecall0 (ok__law_number T) (hr.mono (by decide)) takes0 T.m__law_number (ra_cons (ev 20) (ra_cons (ev 3) (ra_nil)))) (by decide)))) (ecall0 (ok__law_raised T) (hr.mono (by decide)) tk T.m__law_raised (ra_cons (ev 3) (ra_cons (re_b2 (call_min2 rfl) ops_min (by rfl) T.n_min (by decide +kernel) (ev 4) (re_int)) (ra_nil)))) (nomark _)) (rs_one (rs_ret (re_bl))) (rs_nil))
        (rs_cons (rs_set (i := 15) nd rfl (by first | exact Or.inl rfl | exact Or.inr rfl) (re_lst (ra_cons (re_non) (ra_cons (re_int) (ra_cons (re_t1 call_list_of uns_lst (by rfl) T.n_list (by decide +kernel) (ev 6)) (ra_cons (re_tup (ra_nil)) (ra_cons (re_op opr_add ops_add (re_tup (ra_cons (ev 3) (ra_nil))) (re_sl (ev 6) (ro_some (re_int)) (ro_none))) (ra_cons (re_op opr_add ops_add (re_tup (ra_cons (re_un un_neg uns_neg (re_int)) (ra_nil))) (re_sl (ev 6) (ro_some (re_int)) (ro_none))) (ra_cons (re_op opr_add ops_add (re_tup (ra_cons (re_bl) (ra_nil))) (re_sl (ev 6) (ro_some (re_int)) (ro_none))) (ra_cons (re_tup (ra_cons (re_str) (ra_nil))) (ra_nil)))))))))) (by first | exact .inl rfl | exact .inr rfl))
        (rs_cons (rs_for' (.nm 16) hp (ri_seq (re_tup (ra_cons (re_gfn (n := 18) (by rfl) T.m_rest_plus) (ra_cons (re_gfn (n := 19) (by rfl) T.m_rest_times) (ra_nil))))) (pg_name (i := 16) nd rfl (by first | exact Or.inl rfl | exact Or.inr rfl) (by first | exact .inl rfl | exact .inr rfl)) (rs_one (rs_if ((rw_or (rt_not (rt_val (ecall0 (ok__law_bads T) (hr.mono (by decide)) tk T.m__law_bads (ra_cons (ev 16) (ra_cons (re_tup (ra_cons (ev 6) (ra_cons (ev 7) (ra_cons (ev 3) (ra_nil))))) (ra_cons (re_int) (ra_cons (re_op opr_add ops_add (ev 15) (re_lst (ra_cons (re_op opr_add ops_add (ev 6) (re_tup (ra_cons (re_int) (ra_nil)))) (ra_nil)))) (ra_nil)))))))) (rw_or (rt_not (rt_val (ecall0 (ok__law_bads T) (hr.mono (by decide)) tk T.m__law_bads (ra_cons (ev 16) (ra_cons (re_tup (ra_cons (ev 6) (ra_cons (ev 7) (ra_cons (ev 3) (ra_nil))))) (ra_cons (re_int) (ra_cons (ev 15) (ra_nil)))))))) (rw_or1 (rt_not (rt_val (ecall0 (ok__law_bads T) (hr.mono (by decide)) tk T.m__law_bads (ra_cons (ev 16) (ra_cons (re_tup (ra_cons (ev 6) (ra_cons (ev 7) (ra_cons (ev 3) (ra_nil))))) (ra_cons (re_int) (ra_cons (re_lst (ra_cons (re_non) (ra_cons (re_int) (ra_cons (re_int) (ra_cons (re_bl) (ra_nil)))))) (ra_nil))))))))))).pt) (rs_one (rs_ret (re_bl))) (rs_nil))))
        (rs_cons (rs_if ((rw_or (rt_not (rt_val (ecall0 (ok__law_bads T) (hr.mono (by decide)) tk T.m__law_bads (ra_cons (re_gfn (n := 21) (by rfl) T.m_number_of) (ra_cons (re_tup (ra_cons (ev 6) (ra_cons (ev 3) (ra_nil)))) (ra_cons (re_int) (ra_cons (ev 15) (ra_nil)))))))) (rw_or (rt_not (rt_val (ecall0 (ok__law_bads T) (hr.mono (by decide)) tk T.m__law_bads (ra_cons (re_gfn (n := 21) (by rfl) T.m_number_of) (ra_cons (re_tup (ra_cons (ev 6) (ra_cons (ev 3) (ra_nil)))) (ra_cons (re_int) (ra_cons (re_lst (ra_cons (re_non) (ra_cons (re_int) (ra_cons (re_int) (ra_nil))))) (ra_nil)))))))) (rw_or (rt_not (rt_val (ecall0 (ok__law_bads T) (hr.mono (by decide)) tk T.m__law_bads (ra_cons (re_gfn (n := 17) (by rfl) T.m_rests_of) (ra_cons (re_tup (ra_cons (ev 14) (ra_cons (ev 3) (ra_nil)))) (ra_cons (re_int) (ra_cons (re_lst (ra_cons (re_non) (ra_cons (re_tup (ra_nil)) (ra_cons (re_t1 call_list_of uns_lst (by rfl) T.n_list (by decide +kernel) (ev 14)) (ra_cons (re_tup (ra_cons (re_str) (ra_nil))) (ra_nil)))))) (ra_nil)))))))) (rw_or1 (rt_not (rt_val (ecall0 (ok__law_bads T) (hr.mono (by decide)) tk T.m__law_bads (ra_cons (re_gfn (n := 17) (by rfl) T.m_rests_of) (ra_cons (re_tup (ra_cons (ev 14) (ra_cons (ev 3) (ra_nil)))) (ra_cons (re_int) (ra_cons (re_lst (ra_cons (re_non) (ra_cons (re_int) (ra_cons (re_int) (ra_nil))))) (ra_nil)))))))))))).pt) (rs_one (rs_ret (re_bl))) (rs_nil))
        (rs_one (rs_if ((rw_or (rt_not (rt_val (ecall0 (ok__law_bads T) (hr.mono (by decide)) tk T.m__law_bads (ra_cons (re_gfn (n := 22) (by rfl) T.m_rests_number) (ra_cons (re_tup (ra_cons (ev 12) (ra_cons (ev 4) (ra_cons (ev 3) (ra_nil))))) (ra_cons (re_int) (ra_cons (re_lst (ra_cons (re_non) (ra_cons (re_bl) (ra_cons (re_str) (ra_nil))))) (ra_nil)))))))) (rw_or (rt_not (rt_val (ecall0 (ok__law_bads T) (hr.mono (by decide)) tk T.m__law_bads (ra_cons (re_gfn (n := 22) (by rfl) T.m_rests_number) (ra_cons (re_tup (ra_cons (ev 12) (ra_cons (ev 4) (ra_cons (ev 3) (ra_nil))))) (ra_cons (re_int) (ra_cons (re_lst (ra_cons (re_int) (ra_cons (re_int) (ra_cons (re_non) (ra_nil))))) (ra_nil)))))))) (rw_or1 (rt_not (rt_val (ecall0 (ok__law_bads T) (hr.mono (by decide)) tk T.m__law_bads (ra_cons (re_gfn (n := 22) (by rfl) T.m_rests_number) (ra_cons (re_tup (ra_cons (ev 12) (ra_cons (ev 4) (ra_cons (ev 3) (ra_nil))))) (ra_cons (re_int) (ra_cons (re_lst (ra_cons (re_non) (ra_cons (re_int) (ra_cons (re_int) (ra_nil))))) (ra_nil))))))))))).pt) (rs_one (rs_ret (re_bl))) (rs_nil))))))))))))))))))))))
        (rs_one (rs_ret (re_and (ecall0 (ok__law_raises T) (hr.mono (by decide)) tk T.m__law_raises (ra_cons (re_gfn (n := 22) (by rfl) T.m_rests_number) (ra_cons (re_tup (ra_cons (re_int) (ra_cons (re_int) (ra_cons (re_int) (ra_nil))))) (ra_cons (re_str) (ra_nil))))) (re_one (ecall0 (ok__law_tells T) (hr.mono (by decide)) tk T.m__law_tells (ra_cons (re_gfn (n := 22) (by rfl) T.m_rests_number) (ra_cons (re_tup (ra_cons (re_un un_neg uns_neg (re_int)) (ra_cons (re_int) (ra_cons (re_int) (ra_nil))))) (ra_cons (re_tup (ra_cons (re_int) (ra_cons (re_int) (ra_cons (re_int) (ra_nil))))) (ra_nil))))))))))
end
end L50
end
section
set_option Elab.async false
set_option linter.all false
set_option maxRecDepth 100000
set_option maxHeartbeats 0
namespace L50
open PySem PySem.Spec PyProof.Rows L2 Rf
theorem all_mk {l : PySem.W.OpenLaw} {w : World} {K : PySem.W.Frag} {h : Heap} {mg : Str → Option Value} {fa CM CR CF fI : Addr} (X : K.In h) (Gn : h.Ns mainGlobals mg) (hfa : mg "law" = some (.ref fa))
    {f0 : Addr} {od0 an0 : Option Addr} {sl0 : Array (Option Value)} {oc0 kV0 dc0 pm0 cd0 ct0 : Value}
    (a0 : PySem.W.nsIn K mainGlobals "is_integer" = some (some (.ref f0))) (l0 : K.lookup f0 = some ⟨oc0, od0, .func (PySem.W.fnOf "is_integer" "is_integer" (defArgs s_is_integer) (defBody s_is_integer) (defScope s_is_integer) .none kV0 dc0 pm0 an0 cd0 ct0), sl0⟩) (c0 : PySem.W.codeIn K cd0 "is_integer" = true) (k0 : PySem.W.keepIn K (.ref f0) = true)
    {f1 : Addr} {od1 an1 : Option Addr} {sl1 : Array (Option Value)} {oc1 kV1 dc1 pm1 cd1 ct1 : Value}
    (a1 : PySem.W.nsIn K mainGlobals "is_count" = some (some (.ref f1))) (l1 : K.lookup f1 = some ⟨oc1, od1, .func (PySem.W.fnOf "is_count" "is_count" (defArgs s_is_count) (defBody s_is_count) (defScope s_is_count) .none kV1 dc1 pm1 an1 cd1 ct1), sl1⟩) (c1 : PySem.W.codeIn K cd1 "is_count" = true) (k1 : PySem.W.keepIn K (.ref f1) = true)
    {f2 : Addr} {od2 an2 : Option Addr} {sl2 : Array (Option Value)} {oc2 kV2 dc2 pm2 cd2 ct2 : Value}
    (a2 : PySem.W.nsIn K mainGlobals "check_count" = some (some (.ref f2))) (l2 : K.lookup f2 = some ⟨oc2, od2, .func (PySem.W.fnOf "check_count" "check_count" (defArgs s_check_count) (defBody s_check_count) (defScope s_check_count) .none kV2 dc2 pm2 an2 cd2 ct2), sl2⟩) (c2 : PySem.W.codeIn K cd2 "check_count" = true) (k2 : PySem.W.keepIn K (.ref f2) = true)
    {f3 : Addr} {od3 an3 : Option Addr} {sl3 : Array (Option Value)} {oc3 kV3 dc3 pm3 cd3 ct3 : Value}
    (a3 : PySem.W.nsIn K mainGlobals "is_whole_row" = some (some (.ref f3))) (l3 : K.lookup f3 = some ⟨oc3, od3, .func (PySem.W.fnOf "is_whole_row" "is_whole_row" (defArgs s_is_whole_row) (defBody s_is_whole_row) (defScope s_is_whole_row) .none kV3 dc3 pm3 an3 cd3 ct3), sl3⟩) (c3 : PySem.W.codeIn K cd3 "is_whole_row" = true) (k3 : PySem.W.keepIn K (.ref f3) = true)
    {f4 : Addr} {od4 an4 : Option Addr} {sl4 : Array (Option Value)} {oc4 kV4 dc4 pm4 cd4 ct4 : Value}
    (a4 : PySem.W.nsIn K mainGlobals "power" = some (some (.ref f4))) (l4 : K.lookup f4 = some ⟨oc4, od4, .func (PySem.W.fnOf "power" "power" (defArgs s_power) (defBody s_power) (defScope s_power) .none kV4 dc4 pm4 an4 cd4 ct4), sl4⟩) (c4 : PySem.W.codeIn K cd4 "power" = true) (k4 : PySem.W.keepIn K (.ref f4) = true)
    {f5 : Addr} {od5 an5 : Option Addr} {sl5 : Array (Option Value)} {oc5 kV5 dc5 pm5 cd5 ct5 : Value}
    (a5 : PySem.W.nsIn K mainGlobals "power_mod" = some (some (.ref f5))) (l5 : K.lookup f5 = some ⟨oc5, od5, .func (PySem.W.fnOf "power_mod" "power_mod" (defArgs s_power_mod) (defBody s_power_mod) (defScope s_power_mod) .none kV5 dc5 pm5 an5 cd5 ct5), sl5⟩) (c5 : PySem.W.codeIn K cd5 "power_mod" = true) (k5 : PySem.W.keepIn K (.ref f5) = true)
    {f6 : Addr} {od6 an6 : Option Addr} {sl6 : Array (Option Value)} {oc6 kV6 dc6 pm6 cd6 ct6 : Value}
    (a6 : PySem.W.nsIn K mainGlobals "is_prime" = some (some (.ref f6))) (l6 : K.lookup f6 = some ⟨oc6, od6, .func (PySem.W.fnOf "is_prime" "is_prime" (defArgs s_is_prime) (defBody s_is_prime) (defScope s_is_prime) .none kV6 dc6 pm6 an6 cd6 ct6), sl6⟩) (c6 : PySem.W.codeIn K cd6 "is_prime" = true) (k6 : PySem.W.keepIn K (.ref f6) = true)
    {f7 : Addr} {od7 an7 : Option Addr} {sl7 : Array (Option Value)} {oc7 kV7 dc7 pm7 cd7 ct7 : Value}
    (a7 : PySem.W.nsIn K mainGlobals "check_prime" = some (some (.ref f7))) (l7 : K.lookup f7 = some ⟨oc7, od7, .func (PySem.W.fnOf "check_prime" "check_prime" (defArgs s_check_prime) (defBody s_check_prime) (defScope s_check_prime) .none kV7 dc7 pm7 an7 cd7 ct7), sl7⟩) (c7 : PySem.W.codeIn K cd7 "check_prime" = true) (k7 : PySem.W.keepIn K (.ref f7) = true)
    {f8 : Addr} {od8 an8 : Option Addr} {sl8 : Array (Option Value)} {oc8 kV8 dc8 pm8 cd8 ct8 : Value}
    (a8 : PySem.W.nsIn K mainGlobals "check_place" = some (some (.ref f8))) (l8 : K.lookup f8 = some ⟨oc8, od8, .func (PySem.W.fnOf "check_place" "check_place" (defArgs s_check_place) (defBody s_check_place) (defScope s_check_place) .none kV8 dc8 pm8 an8 cd8 ct8), sl8⟩) (c8 : PySem.W.codeIn K cd8 "check_place" = true) (k8 : PySem.W.keepIn K (.ref f8) = true)
    {f9 : Addr} {od9 an9 : Option Addr} {sl9 : Array (Option Value)} {oc9 kV9 dc9 pm9 cd9 ct9 : Value}
    (a9 : PySem.W.nsIn K mainGlobals "check_length" = some (some (.ref f9))) (l9 : K.lookup f9 = some ⟨oc9, od9, .func (PySem.W.fnOf "check_length" "check_length" (defArgs s_check_length) (defBody s_check_length) (defScope s_check_length) .none kV9 dc9 pm9 an9 cd9 ct9), sl9⟩) (c9 : PySem.W.codeIn K cd9 "check_length" = true) (k9 : PySem.W.keepIn K (.ref f9) = true)
    {f10 : Addr} {od10 an10 : Option Addr} {sl10 : Array (Option Value)} {oc10 kV10 dc10 pm10 cd10 ct10 : Value}
    (a10 : PySem.W.nsIn K mainGlobals "is_vector" = some (some (.ref f10))) (l10 : K.lookup f10 = some ⟨oc10, od10, .func (PySem.W.fnOf "is_vector" "is_vector" (defArgs s_is_vector) (defBody s_is_vector) (defScope s_is_vector) .none kV10 dc10 pm10 an10 cd10 ct10), sl10⟩) (c10 : PySem.W.codeIn K cd10 "is_vector" = true) (k10 : PySem.W.keepIn K (.ref f10) = true)
    {f11 : Addr} {od11 an11 : Option Addr} {sl11 : Array (Option Value)} {oc11 kV11 dc11 pm11 cd11 ct11 : Value}
    (a11 : PySem.W.nsIn K mainGlobals "check_vector" = some (some (.ref f11))) (l11 : K.lookup f11 = some ⟨oc11, od11, .func (PySem.W.fnOf "check_vector" "check_vector" (defArgs s_check_vector) (defBody s_check_vector) (defScope s_check_vector) .none kV11 dc11 pm11 an11 cd11 ct11), sl11⟩) (c11 : PySem.W.codeIn K cd11 "check_vector" = true) (k11 : PySem.W.keepIn K (.ref f11) = true)
    {f12 : Addr} {od12 an12 : Option Addr} {sl12 : Array (Option Value)} {oc12 kV12 dc12 pm12 cd12 ct12 : Value}
    (a12 : PySem.W.nsIn K mainGlobals "check_two" = some (some (.ref f12))) (l12 : K.lookup f12 = some ⟨oc12, od12, .func (PySem.W.fnOf "check_two" "check_two" (defArgs s_check_two) (defBody s_check_two) (defScope s_check_two) .none kV12 dc12 pm12 an12 cd12 ct12), sl12⟩) (c12 : PySem.W.codeIn K cd12 "check_two" = true) (k12 : PySem.W.keepIn K (.ref f12) = true)
    {f13 : Addr} {od13 an13 : Option Addr} {sl13 : Array (Option Value)} {oc13 kV13 dc13 pm13 cd13 ct13 : Value}
    (a13 : PySem.W.nsIn K mainGlobals "ghosts_of" = some (some (.ref f13))) (l13 : K.lookup f13 = some ⟨oc13, od13, .func (PySem.W.fnOf "ghosts_of" "ghosts_of" (defArgs s_ghosts_of) (defBody s_ghosts_of) (defScope s_ghosts_of) .none kV13 dc13 pm13 an13 cd13 ct13), sl13⟩) (c13 : PySem.W.codeIn K cd13 "ghosts_of" = true) (k13 : PySem.W.keepIn K (.ref f13) = true)
    {f14 : Addr} {od14 an14 : Option Addr} {sl14 : Array (Option Value)} {oc14 kV14 dc14 pm14 cd14 ct14 : Value}
    (a14 : PySem.W.nsIn K mainGlobals "vector_of" = some (some (.ref f14))) (l14 : K.lookup f14 = some ⟨oc14, od14, .func (PySem.W.fnOf "vector_of" "vector_of" (defArgs s_vector_of) (defBody s_vector_of) (defScope s_vector_of) .none kV14 dc14 pm14 an14 cd14 ct14), sl14⟩) (c14 : PySem.W.codeIn K cd14 "vector_of" = true) (k14 : PySem.W.keepIn K (.ref f14) = true)
    {f15 : Addr} {od15 an15 : Option Addr} {sl15 : Array (Option Value)} {oc15 kV15 dc15 pm15 cd15 ct15 : Value}
    (a15 : PySem.W.nsIn K mainGlobals "vector_plus" = some (some (.ref f15))) (l15 : K.lookup f15 = some ⟨oc15, od15, .func (PySem.W.fnOf "vector_plus" "vector_plus" (defArgs s_vector_plus) (defBody s_vector_plus) (defScope s_vector_plus) .none kV15 dc15 pm15 an15 cd15 ct15), sl15⟩) (c15 : PySem.W.codeIn K cd15 "vector_plus" = true) (k15 : PySem.W.keepIn K (.ref f15) = true)
    {f16 : Addr} {od16 an16 : Option Addr} {sl16 : Array (Option Value)} {oc16 kV16 dc16 pm16 cd16 ct16 : Value}
    (a16 : PySem.W.nsIn K mainGlobals "vector_times" = some (some (.ref f16))) (l16 : K.lookup f16 = some ⟨oc16, od16, .func (PySem.W.fnOf "vector_times" "vector_times" (defArgs s_vector_times) (defBody s_vector_times) (defScope s_vector_times) .none kV16 dc16 pm16 an16 cd16 ct16), sl16⟩) (c16 : PySem.W.codeIn K cd16 "vector_times" = true) (k16 : PySem.W.keepIn K (.ref f16) = true)
    {f17 : Addr} {od17 an17 : Option Addr} {sl17 : Array (Option Value)} {oc17 kV17 dc17 pm17 cd17 ct17 : Value}
    (a17 : PySem.W.nsIn K mainGlobals "rests_of" = some (some (.ref f17))) (l17 : K.lookup f17 = some ⟨oc17, od17, .func (PySem.W.fnOf "rests_of" "rests_of" (defArgs s_rests_of) (defBody s_rests_of) (defScope s_rests_of) .none kV17 dc17 pm17 an17 cd17 ct17), sl17⟩) (c17 : PySem.W.codeIn K cd17 "rests_of" = true) (k17 : PySem.W.keepIn K (.ref f17) = true)
    {f18 : Addr} {od18 an18 : Option Addr} {sl18 : Array (Option Value)} {oc18 kV18 dc18 pm18 cd18 ct18 : Value}
    (a18 : PySem.W.nsIn K mainGlobals "rest_plus" = some (some (.ref f18))) (l18 : K.lookup f18 = some ⟨oc18, od18, .func (PySem.W.fnOf "rest_plus" "rest_plus" (defArgs s_rest_plus) (defBody s_rest_plus) (defScope s_rest_plus) .none kV18 dc18 pm18 an18 cd18 ct18), sl18⟩) (c18 : PySem.W.codeIn K cd18 "rest_plus" = true) (k18 : PySem.W.keepIn K (.ref f18) = true)
    {f19 : Addr} {od19 an19 : Option Addr} {sl19 : Array (Option Value)} {oc19 kV19 dc19 pm19 cd19 ct19 : Value}
    (a19 : PySem.W.nsIn K mainGlobals "rest_times" = some (some (.ref f19))) (l19 : K.lookup f19 = some ⟨oc19, od19, .func (PySem.W.fnOf "rest_times" "rest_times" (defArgs s_rest_times) (defBody s_rest_times) (defScope s_rest_times) .none kV19 dc19 pm19 an19 cd19 ct19), sl19⟩) (c19 : PySem.W.codeIn K cd19 "rest_times" = true) (k19 : PySem.W.keepIn K (.ref f19) = true)
    {f20 : Addr} {od20 an20 : Option Addr} {sl20 : Array (Option Value)} {oc20 kV20 dc20 pm20 cd20 ct20 : Value}
    (a20 : PySem.W.nsIn K mainGlobals "check_rests" = some (some (.ref f20))) (l20 : K.lookup f20 = some ⟨oc20, od20, .func (PySem.W.fnOf "check_rests" "check_rests" (defArgs s_check_rests) (defBody s_check_rests) (defScope s_check_rests) .none kV20 dc20 pm20 an20 cd20 ct20), sl20⟩) (c20 : PySem.W.codeIn K cd20 "check_rests" = true) (k20 : PySem.W.keepIn K (.ref f20) = true)
    {f21 : Addr} {od21 an21 : Option Addr} {sl21 : Array (Option Value)} {oc21 kV21 dc21 pm21 cd21 ct21 : Value}
    (a21 : PySem.W.nsIn K mainGlobals "number_of" = some (some (.ref f21))) (l21 : K.lookup f21 = some ⟨oc21, od21, .func (PySem.W.fnOf "number_of" "number_of" (defArgs s_number_of) (defBody s_number_of) (defScope s_number_of) .none kV21 dc21 pm21 an21 cd21 ct21), sl21⟩) (c21 : PySem.W.codeIn K cd21 "number_of" = true) (k21 : PySem.W.keepIn K (.ref f21) = true)
    {f22 : Addr} {od22 an22 : Option Addr} {sl22 : Array (Option Value)} {oc22 kV22 dc22 pm22 cd22 ct22 : Value}
    (a22 : PySem.W.nsIn K mainGlobals "rests_number" = some (some (.ref f22))) (l22 : K.lookup f22 = some ⟨oc22, od22, .func (PySem.W.fnOf "rests_number" "rests_number" (defArgs s_rests_number) (defBody s_rests_number) (defScope s_rests_number) .none kV22 dc22 pm22 an22 cd22 ct22), sl22⟩) (c22 : PySem.W.codeIn K cd22 "rests_number" = true) (k22 : PySem.W.keepIn K (.ref f22) = true)
    {f23 : Addr} {od23 an23 : Option Addr} {sl23 : Array (Option Value)} {oc23 kV23 dc23 pm23 cd23 ct23 : Value}
    (a23 : PySem.W.nsIn K mainGlobals "_law_state" = some (some (.ref f23))) (l23 : K.lookup f23 = some ⟨oc23, od23, .func (PySem.W.fnOf "_law_state" "_law_state" (defArgs s__law_state) (defBody s__law_state) (defScope s__law_state) .none kV23 dc23 pm23 an23 cd23 ct23), sl23⟩) (c23 : PySem.W.codeIn K cd23 "_law_state" = true) (k23 : PySem.W.keepIn K (.ref f23) = true)
    {f24 : Addr} {od24 an24 : Option Addr} {sl24 : Array (Option Value)} {oc24 kV24 dc24 pm24 cd24 ct24 : Value}
    (a24 : PySem.W.nsIn K mainGlobals "_law_take" = some (some (.ref f24))) (l24 : K.lookup f24 = some ⟨oc24, od24, .func (PySem.W.fnOf "_law_take" "_law_take" (defArgs s__law_take) (defBody s__law_take) (defScope s__law_take) .none kV24 dc24 pm24 an24 cd24 ct24), sl24⟩) (c24 : PySem.W.codeIn K cd24 "_law_take" = true) (k24 : PySem.W.keepIn K (.ref f24) = true)
    {f25 : Addr} {od25 an25 : Option Addr} {sl25 : Array (Option Value)} {oc25 kV25 dc25 pm25 cd25 ct25 : Value}
    (a25 : PySem.W.nsIn K mainGlobals "_law_same" = some (some (.ref f25))) (l25 : K.lookup f25 = some ⟨oc25, od25, .func (PySem.W.fnOf "_law_same" "_law_same" (defArgs s__law_same) (defBody s__law_same) (defScope s__law_same) .none kV25 dc25 pm25 an25 cd25 ct25), sl25⟩) (c25 : PySem.W.codeIn K cd25 "_law_same" = true) (k25 : PySem.W.keepIn K (.ref f25) = true)
    {f26 : Addr} {od26 an26 : Option Addr} {sl26 : Array (Option Value)} {oc26 kV26 dc26 pm26 cd26 ct26 : Value}
    (a26 : PySem.W.nsIn K mainGlobals "_law_told" = some (some (.ref f26))) (l26 : K.lookup f26 = some ⟨oc26, od26, .func (PySem.W.fnOf "_law_told" "_law_told" (defArgs s__law_told) (defBody s__law_told) (defScope s__law_told) .none kV26 dc26 pm26 an26 cd26 ct26), sl26⟩) (c26 : PySem.W.codeIn K cd26 "_law_told" = true) (k26 : PySem.W.keepIn K (.ref f26) = true)
    {f27 : Addr} {od27 an27 : Option Addr} {sl27 : Array (Option Value)} {oc27 kV27 dc27 pm27 cd27 ct27 : Value}
    (a27 : PySem.W.nsIn K mainGlobals "_law_is_told" = some (some (.ref f27))) (l27 : K.lookup f27 = some ⟨oc27, od27, .func (PySem.W.fnOf "_law_is_told" "_law_is_told" (defArgs s__law_is_told) (defBody s__law_is_told) (defScope s__law_is_told) .none kV27 dc27 pm27 an27 cd27 ct27), sl27⟩) (c27 : PySem.W.codeIn K cd27 "_law_is_told" = true) (k27 : PySem.W.keepIn K (.ref f27) = true)
    {f28 : Addr} {od28 an28 : Option Addr} {sl28 : Array (Option Value)} {oc28 kV28 dc28 pm28 cd28 ct28 : Value}
    (a28 : PySem.W.nsIn K mainGlobals "_law_is_raised" = some (some (.ref f28))) (l28 : K.lookup f28 = some ⟨oc28, od28, .func (PySem.W.fnOf "_law_is_raised" "_law_is_raised" (defArgs s__law_is_raised) (defBody s__law_is_raised) (defScope s__law_is_raised) .none kV28 dc28 pm28 an28 cd28 ct28), sl28⟩) (c28 : PySem.W.codeIn K cd28 "_law_is_raised" = true) (k28 : PySem.W.keepIn K (.ref f28) = true)
    {f29 : Addr} {od29 an29 : Option Addr} {sl29 : Array (Option Value)} {oc29 kV29 dc29 pm29 cd29 ct29 : Value}
    (a29 : PySem.W.nsIn K mainGlobals "_law_tells" = some (some (.ref f29))) (l29 : K.lookup f29 = some ⟨oc29, od29, .func (PySem.W.fnOf "_law_tells" "_law_tells" (defArgs s__law_tells) (defBody s__law_tells) (defScope s__law_tells) .none kV29 dc29 pm29 an29 cd29 ct29), sl29⟩) (c29 : PySem.W.codeIn K cd29 "_law_tells" = true) (k29 : PySem.W.keepIn K (.ref f29) = true)
    {f30 : Addr} {od30 an30 : Option Addr} {sl30 : Array (Option Value)} {oc30 kV30 dc30 pm30 cd30 ct30 : Value}
    (a30 : PySem.W.nsIn K mainGlobals "_law_raises" = some (some (.ref f30))) (l30 : K.lookup f30 = some ⟨oc30, od30, .func (PySem.W.fnOf "_law_raises" "_law_raises" (defArgs s__law_raises) (defBody s__law_raises) (defScope s__law_raises) .none kV30 dc30 pm30 an30 cd30 ct30), sl30⟩) (c30 : PySem.W.codeIn K cd30 "_law_raises" = true) (k30 : PySem.W.keepIn K (.ref f30) = true)
    {f31 : Addr} {od31 an31 : Option Addr} {sl31 : Array (Option Value)} {oc31 kV31 dc31 pm31 cd31 ct31 : Value}
    (a31 : PySem.W.nsIn K mainGlobals "_law_plain" = some (some (.ref f31))) (l31 : K.lookup f31 = some ⟨oc31, od31, .func (PySem.W.fnOf "_law_plain" "_law_plain" (defArgs s__law_plain) (defBody s__law_plain) (defScope s__law_plain) .none kV31 dc31 pm31 an31 cd31 ct31), sl31⟩) (c31 : PySem.W.codeIn K cd31 "_law_plain" = true) (k31 : PySem.W.keepIn K (.ref f31) = true)
    {f32 : Addr} {od32 an32 : Option Addr} {sl32 : Array (Option Value)} {oc32 kV32 dc32 pm32 cd32 ct32 : Value}
    (a32 : PySem.W.nsIn K mainGlobals "_law_value" = some (some (.ref f32))) (l32 : K.lookup f32 = some ⟨oc32, od32, .func (PySem.W.fnOf "_law_value" "_law_value" (defArgs s__law_value) (defBody s__law_value) (defScope s__law_value) .none kV32 dc32 pm32 an32 cd32 ct32), sl32⟩) (c32 : PySem.W.codeIn K cd32 "_law_value" = true) (k32 : PySem.W.keepIn K (.ref f32) = true)
    {f33 : Addr} {od33 an33 : Option Addr} {sl33 : Array (Option Value)} {oc33 kV33 dc33 pm33 cd33 ct33 : Value}
    (a33 : PySem.W.nsIn K mainGlobals "_law_bads" = some (some (.ref f33))) (l33 : K.lookup f33 = some ⟨oc33, od33, .func (PySem.W.fnOf "_law_bads" "_law_bads" (defArgs s__law_bads) (defBody s__law_bads) (defScope s__law_bads) .none kV33 dc33 pm33 an33 cd33 ct33), sl33⟩) (c33 : PySem.W.codeIn K cd33 "_law_bads" = true) (k33 : PySem.W.keepIn K (.ref f33) = true)
    {f34 : Addr} {od34 an34 : Option Addr} {sl34 : Array (Option Value)} {oc34 kV34 dc34 pm34 cd34 ct34 : Value}
    (a34 : PySem.W.nsIn K mainGlobals "_law_raised" = some (some (.ref f34))) (l34 : K.lookup f34 = some ⟨oc34, od34, .func (PySem.W.fnOf "_law_raised" "_law_raised" (defArgs s__law_raised) (defBody s__law_raised) (defScope s__law_raised) .none kV34 dc34 pm34 an34 cd34 ct34), sl34⟩) (c34 : PySem.W.codeIn K cd34 "_law_raised" = true) (k34 : PySem.W.keepIn K (.ref f34) = true)
    {f35 : Addr} {od35 an35 : Option Addr} {sl35 : Array (Option Value)} {oc35 kV35 dc35 pm35 cd35 ct35 : Value}
    (a35 : PySem.W.nsIn K mainGlobals "_law_words" = some (some (.ref f35))) (l35 : K.lookup f35 = some ⟨oc35, od35, .func (PySem.W.fnOf "_law_words" "_law_words" (defArgs s__law_words) (defBody s__law_words) (defScope s__law_words) .none kV35 dc35 pm35 an35 cd35 ct35), sl35⟩) (c35 : PySem.W.codeIn K cd35 "_law_words" = true) (k35 : PySem.W.keepIn K (.ref f35) = true)
    {f36 : Addr} {od36 an36 : Option Addr} {sl36 : Array (Option Value)} {oc36 kV36 dc36 pm36 cd36 ct36 : Value}
    (a36 : PySem.W.nsIn K mainGlobals "_law_prime" = some (some (.ref f36))) (l36 : K.lookup f36 = some ⟨oc36, od36, .func (PySem.W.fnOf "_law_prime" "_law_prime" (defArgs s__law_prime) (defBody s__law_prime) (defScope s__law_prime) .none kV36 dc36 pm36 an36 cd36 ct36), sl36⟩) (c36 : PySem.W.codeIn K cd36 "_law_prime" = true) (k36 : PySem.W.keepIn K (.ref f36) = true)
    {f37 : Addr} {od37 an37 : Option Addr} {sl37 : Array (Option Value)} {oc37 kV37 dc37 pm37 cd37 ct37 : Value}
    (a37 : PySem.W.nsIn K mainGlobals "_law_number" = some (some (.ref f37))) (l37 : K.lookup f37 = some ⟨oc37, od37, .func (PySem.W.fnOf "_law_number" "_law_number" (defArgs s__law_number) (defBody s__law_number) (defScope s__law_number) .none kV37 dc37 pm37 an37 cd37 ct37), sl37⟩) (c37 : PySem.W.codeIn K cd37 "_law_number" = true) (k37 : PySem.W.keepIn K (.ref f37) = true)
    {f38 : Addr} {od38 an38 : Option Addr} {sl38 : Array (Option Value)} {oc38 kV38 dc38 pm38 cd38 ct38 : Value}
    (a38 : PySem.W.nsIn K mainGlobals "law" = some (some (.ref f38))) (l38 : K.lookup f38 = some ⟨oc38, od38, .func (PySem.W.fnOf "law" "law" (defArgs s_law) (defBody s_law) (defScope s_law) .none kV38 dc38 pm38 an38 cd38 ct38), sl38⟩) (c38 : PySem.W.codeIn K cd38 "law" = true) (k38 : PySem.W.keepIn K (.ref f38) = true)
    (aM : PySem.W.nsIn K mainGlobals "Malformed" = some (some (.ref CM))) (aR : PySem.W.nsIn K mainGlobals "Refused" = some (some (.ref CR))) (xM : PySem.W.excIn K CM [.type "ValueError", .type "Exception", .type "BaseException", .type "object"] "ValueError.__new__" = true) (kM : PySem.W.keepIn K (.ref CM) = true) (bM : PySem.W.subIn K (.ref CM) (.type "BaseException") = some true) (tM : PySem.W.typeIn K (.ref CM) = some (.type "type")) (iM : PySem.W.isClsIn K CM = true) (sM : PySem.W.subIn K (.ref CM) (.ref CM) = some true)
    {nmR : _} {qR : _} {NR : _} {bsR : _} {bmR : _} {snR : _} {subR : _} {abR : _} {colR : _} {ddR : _} {k0R : _} {k1R : _} {k2R : _} {k3R : _} {k5R : _} (lR : K.lookup CR = some (excClassObj nmR qR CR NR bsR bmR true snR subR abR colR ddR k0R k1R k2R k3R k5R "ValueError.__new__")) (rR : PySem.HandSPX.refsVE bmR = true)
    (saR : PySem.W.findIn K (.ref CR) "__setattr__" = some (some (.builtin "object.__setattr__"))) (bR : PySem.W.subIn K (.ref CR) (.type "BaseException") = some true) (tR : PySem.W.typeIn K (.ref CR) = some (.type "type")) (kR : PySem.W.keepIn K (.ref CR) = true)
    (noR : PySem.W.findIn K (.ref CR) "reason" = some none) (aF : PySem.W.nsIn K mainGlobals "Fault" = some (some (.ref CF))) (rdF : PySem.W.readsIn K CF (.type "type") = true) (gaF : PySem.W.specialIn K (.ref CF) "__getattribute__" = some (some (.builtin "type.__getattribute__"))) (vVF : PySem.W.findCls K (.ref CF) (.type "type") "__init__" = some (.val (.builtin "ValueError.__init__"))) (xfR : xfB K CR = true)
    (iR : PySem.W.isClsIn K CR = true) (sRM : PySem.W.subIn K (.ref CR) (.ref CM) = some false) (sRR : PySem.W.subIn K (.ref CR) (.ref CR) = some true) (iI : PySem.W.findIn K (.ref CR) "__init__" = some (some (.ref fI))) (tI : PySem.W.typeIn K (.ref fI) = some (.type "function"))
    {odI anI : Option Addr} {slI : Array (Option Value)} {ocI kVI dcI pmI cdI ctI : Value} (lI : K.lookup fI = some ⟨ocI, odI, .func (PySem.W.fnOf "__init__" "Refused.__init__" (defArgs s_init) (defBody s_init) (defScope s_init) .none kVI dcI pmI anI cdI ctI), slI⟩) (cI : PySem.W.codeIn K cdI "Refused.__init__" = true) (kI : PySem.W.keepIn K (.ref fI) = true)
    (z_abs : PySem.W.nsIn K mainGlobals "abs" = some none)
    (z_all : PySem.W.nsIn K mainGlobals "all" = some none)
    (z_bool : PySem.W.nsIn K mainGlobals "bool" = some none)
    (z_enumerate : PySem.W.nsIn K mainGlobals "enumerate" = some none)
    (z_int : PySem.W.nsIn K mainGlobals "int" = some none)
    (z_isinstance : PySem.W.nsIn K mainGlobals "isinstance" = some none)
    (z_len : PySem.W.nsIn K mainGlobals "len" = some none)
    (z_list : PySem.W.nsIn K mainGlobals "list" = some none)
    (z_min : PySem.W.nsIn K mainGlobals "min" = some none)
    (z_range : PySem.W.nsIn K mainGlobals "range" = some none)
    (z_set : PySem.W.nsIn K mainGlobals "set" = some none)
    (z_sorted : PySem.W.nsIn K mainGlobals "sorted" = some none)
    (z_str : PySem.W.nsIn K mainGlobals "str" = some none)
    (z_sum : PySem.W.nsIn K mainGlobals "sum" = some none)
    (z_tuple : PySem.W.nsIn K mainGlobals "tuple" = some none)
    (z_zip : PySem.W.nsIn K mainGlobals "zip" = some none)
    {t_MOST_PRIME : Tok} (v_MOST_PRIME : PySem.W.nsIn K mainGlobals "MOST_PRIME" = some (some (.int 997 t_MOST_PRIME)))
    {t_MOST_LENGTH : Tok} (v_MOST_LENGTH : PySem.W.nsIn K mainGlobals "MOST_LENGTH" = some (some (.int 6 t_MOST_LENGTH)))
    {t_MOST_ITEM : Tok} (v_MOST_ITEM : PySem.W.nsIn K mainGlobals "MOST_ITEM" = some (some (.int 1000000000000000000000000000000000000000000000000000000000000 t_MOST_ITEM)))
    : ∃ fd : FuncData, (∀ (s : Shared) (v : Value), BindsTo s fd ⟨[v], []⟩ [("script", v)]) ∧ ∀ base : Heap, K.In base → base.Ns mainGlobals mg → FnOk l.prog w K mg base (L2.CX l.prog w) 12 fa fd ["script"] (spLaw K) := by
  have e := hfa.symm.trans (PySem.W.mg_of X Gn a38)
  cases e
  let G : Wd := ⟨fun n => [f0, f1, f2, f3, f4, f5, f6, f7, f8, f9, f10, f11, f12, f13, f14, f15, f16, f17, f18, f19, f20, f21, f22, f23, f24, f25, f26, f27, f28, f29, f30, f31, f32, f33, f34, f35, f36, f37, fa].getD n 0, fun n => [CM, CR, CF].getD n 0, fun _ => []⟩
  have T : Tx K mg G := {
    d_is_integer := ⟨⟨_, fun_mk (st := s_is_integer) l0 c0 k0, (fun_mk (st := s_is_integer) l0 c0 k0).binds (ps := ["value"]) fun _ _ _ _ _ _ us hl => match us, hl with | [_], _ => rfl⟩⟩
    m_is_integer := PySem.W.mg_of X Gn a0
    d_is_count := ⟨⟨_, fun_mk (st := s_is_count) l1 c1 k1, (fun_mk (st := s_is_count) l1 c1 k1).binds (ps := ["value", "low", "high"]) fun _ _ _ _ _ _ us hl => match us, hl with | [_, _, _], _ => rfl⟩⟩
    m_is_count := PySem.W.mg_of X Gn a1
    d_check_count := ⟨⟨_, fun_mk (st := s_check_count) l2 c2 k2, (fun_mk (st := s_check_count) l2 c2 k2).binds (ps := ["value", "low", "high"]) fun _ _ _ _ _ _ us hl => match us, hl with | [_, _, _], _ => rfl⟩⟩
    m_check_count := PySem.W.mg_of X Gn a2
    d_is_whole_row := ⟨⟨_, fun_mk (st := s_is_whole_row) l3 c3 k3, (fun_mk (st := s_is_whole_row) l3 c3 k3).binds (ps := ["value"]) fun _ _ _ _ _ _ us hl => match us, hl with | [_], _ => rfl⟩⟩
    m_is_whole_row := PySem.W.mg_of X Gn a3
    d_power := ⟨⟨_, fun_mk (st := s_power) l4 c4 k4, (fun_mk (st := s_power) l4 c4 k4).binds (ps := ["a", "k"]) fun _ _ _ _ _ _ us hl => match us, hl with | [_, _], _ => rfl⟩⟩
    m_power := PySem.W.mg_of X Gn a4
    d_power_mod := ⟨⟨_, fun_mk (st := s_power_mod) l5 c5 k5, (fun_mk (st := s_power_mod) l5 c5 k5).binds (ps := ["a", "k", "m"]) fun _ _ _ _ _ _ us hl => match us, hl with | [_, _, _], _ => rfl⟩⟩
    m_power_mod := PySem.W.mg_of X Gn a5
    d_is_prime := ⟨⟨_, fun_mk (st := s_is_prime) l6 c6 k6, (fun_mk (st := s_is_prime) l6 c6 k6).binds (ps := ["n"]) fun _ _ _ _ _ _ us hl => match us, hl with | [_], _ => rfl⟩⟩
    m_is_prime := PySem.W.mg_of X Gn a6
    d_check_prime := ⟨⟨_, fun_mk (st := s_check_prime) l7 c7 k7, (fun_mk (st := s_check_prime) l7 c7 k7).binds (ps := ["p", "high"]) fun _ _ _ _ _ _ us hl => match us, hl with | [_, _], _ => rfl⟩⟩
    m_check_prime := PySem.W.mg_of X Gn a7
    d_check_place := ⟨⟨_, fun_mk (st := s_check_place) l8 c8 k8, (fun_mk (st := s_check_place) l8 c8 k8).binds (ps := ["p"]) fun _ _ _ _ _ _ us hl => match us, hl with | [_], _ => rfl⟩⟩
    m_check_place := PySem.W.mg_of X Gn a8
    d_check_length := ⟨⟨_, fun_mk (st := s_check_length) l9 c9 k9, (fun_mk (st := s_check_length) l9 c9 k9).binds (ps := ["p", "n"]) fun _ _ _ _ _ _ us hl => match us, hl with | [_, _], _ => rfl⟩⟩
    m_check_length := PySem.W.mg_of X Gn a9
    d_is_vector := ⟨⟨_, fun_mk (st := s_is_vector) l10 c10 k10, (fun_mk (st := s_is_vector) l10 c10 k10).binds (ps := ["value", "p"]) fun _ _ _ _ _ _ us hl => match us, hl with | [_, _], _ => rfl⟩⟩
    m_is_vector := PySem.W.mg_of X Gn a10
    d_check_vector := ⟨⟨_, fun_mk (st := s_check_vector) l11 c11 k11, (fun_mk (st := s_check_vector) l11 c11 k11).binds (ps := ["x", "p"]) fun _ _ _ _ _ _ us hl => match us, hl with | [_, _], _ => rfl⟩⟩
    m_check_vector := PySem.W.mg_of X Gn a11
    d_check_two := ⟨⟨_, fun_mk (st := s_check_two) l12 c12 k12, (fun_mk (st := s_check_two) l12 c12 k12).binds (ps := ["x", "y", "p"]) fun _ _ _ _ _ _ us hl => match us, hl with | [_, _, _], _ => rfl⟩⟩
    m_check_two := PySem.W.mg_of X Gn a12
    d_ghosts_of := ⟨⟨_, fun_mk (st := s_ghosts_of) l13 c13 k13, (fun_mk (st := s_ghosts_of) l13 c13 k13).binds (ps := ["x", "p"]) fun _ _ _ _ _ _ us hl => match us, hl with | [_, _], _ => rfl⟩⟩
    m_ghosts_of := PySem.W.mg_of X Gn a13
    d_vector_of := ⟨⟨_, fun_mk (st := s_vector_of) l14 c14 k14, (fun_mk (st := s_vector_of) l14 c14 k14).binds (ps := ["row", "p"]) fun _ _ _ _ _ _ us hl => match us, hl with | [_, _], _ => rfl⟩⟩
    m_vector_of := PySem.W.mg_of X Gn a14
    d_vector_plus := ⟨⟨_, fun_mk (st := s_vector_plus) l15 c15 k15, (fun_mk (st := s_vector_plus) l15 c15 k15).binds (ps := ["x", "y", "p"]) fun _ _ _ _ _ _ us hl => match us, hl with | [_, _, _], _ => rfl⟩⟩
    m_vector_plus := PySem.W.mg_of X Gn a15
    d_vector_times := ⟨⟨_, fun_mk (st := s_vector_times) l16 c16 k16, (fun_mk (st := s_vector_times) l16 c16 k16).binds (ps := ["x", "y", "p"]) fun _ _ _ _ _ _ us hl => match us, hl with | [_, _, _], _ => rfl⟩⟩
    m_vector_times := PySem.W.mg_of X Gn a16
    d_rests_of := ⟨⟨_, fun_mk (st := s_rests_of) l17 c17 k17, (fun_mk (st := s_rests_of) l17 c17 k17).binds (ps := ["x", "p"]) fun _ _ _ _ _ _ us hl => match us, hl with | [_, _], _ => rfl⟩⟩
    m_rests_of := PySem.W.mg_of X Gn a17
    d_rest_plus := ⟨⟨_, fun_mk (st := s_rest_plus) l18 c18 k18, (fun_mk (st := s_rest_plus) l18 c18 k18).binds (ps := ["x", "y", "p"]) fun _ _ _ _ _ _ us hl => match us, hl with | [_, _, _], _ => rfl⟩⟩
    m_rest_plus := PySem.W.mg_of X Gn a18
    d_rest_times := ⟨⟨_, fun_mk (st := s_rest_times) l19 c19 k19, (fun_mk (st := s_rest_times) l19 c19 k19).binds (ps := ["x", "y", "p"]) fun _ _ _ _ _ _ us hl => match us, hl with | [_, _, _], _ => rfl⟩⟩
    m_rest_times := PySem.W.mg_of X Gn a19
    d_check_rests := ⟨⟨_, fun_mk (st := s_check_rests) l20 c20 k20, (fun_mk (st := s_check_rests) l20 c20 k20).binds (ps := ["x", "y", "p"]) fun _ _ _ _ _ _ us hl => match us, hl with | [_, _, _], _ => rfl⟩⟩
    m_check_rests := PySem.W.mg_of X Gn a20
    d_number_of := ⟨⟨_, fun_mk (st := s_number_of) l21 c21 k21, (fun_mk (st := s_number_of) l21 c21 k21).binds (ps := ["x", "p"]) fun _ _ _ _ _ _ us hl => match us, hl with | [_, _], _ => rfl⟩⟩
    m_number_of := PySem.W.mg_of X Gn a21
    d_rests_number := ⟨⟨_, fun_mk (st := s_rests_number) l22 c22 k22, (fun_mk (st := s_rests_number) l22 c22 k22).binds (ps := ["c", "n", "p"]) fun _ _ _ _ _ _ us hl => match us, hl with | [_, _, _], _ => rfl⟩⟩
    m_rests_number := PySem.W.mg_of X Gn a22
    d__law_state := ⟨⟨_, fun_mk (st := s__law_state) l23 c23 k23, (fun_mk (st := s__law_state) l23 c23 k23).binds (ps := ["script"]) fun _ _ _ _ _ _ us hl => match us, hl with | [_], _ => rfl⟩⟩
    m__law_state := PySem.W.mg_of X Gn a23
    d__law_take := ⟨⟨_, fun_mk (st := s__law_take) l24 c24 k24, (fun_mk (st := s__law_take) l24 c24 k24).binds (ps := ["state", "m"]) fun _ _ _ _ _ _ us hl => match us, hl with | [_, _], _ => rfl⟩⟩
    m__law_take := PySem.W.mg_of X Gn a24
    d__law_same := ⟨⟨_, fun_mk (st := s__law_same) l25 c25 k25, (fun_mk (st := s__law_same) l25 c25 k25).binds (ps := ["value", "due"]) fun _ _ _ _ _ _ us hl => match us, hl with | [_, _], _ => rfl⟩⟩
    m__law_same := PySem.W.mg_of X Gn a25
    d__law_told := ⟨⟨_, fun_mk (st := s__law_told) l26 c26 k26, (fun_mk (st := s__law_told) l26 c26 k26).binds (ps := ["f", "given"]) fun _ _ _ _ _ _ us hl => match us, hl with | [_, _], _ => rfl⟩⟩
    m__law_told := PySem.W.mg_of X Gn a26
    d__law_is_told := ⟨⟨_, fun_mk (st := s__law_is_told) l27 c27 k27, (fun_mk (st := s__law_is_told) l27 c27 k27).binds (ps := ["pair", "due"]) fun _ _ _ _ _ _ us hl => match us, hl with | [_, _], _ => rfl⟩⟩
    m__law_is_told := PySem.W.mg_of X Gn a27
    d__law_is_raised := ⟨⟨_, fun_mk (st := s__law_is_raised) l28 c28 k28, (fun_mk (st := s__law_is_raised) l28 c28 k28).binds (ps := ["pair", "reason"]) fun _ _ _ _ _ _ us hl => match us, hl with | [_, _], _ => rfl⟩⟩
    m__law_is_raised := PySem.W.mg_of X Gn a28
    d__law_tells := ⟨⟨_, fun_mk (st := s__law_tells) l29 c29 k29, (fun_mk (st := s__law_tells) l29 c29 k29).binds (ps := ["f", "given", "due"]) fun _ _ _ _ _ _ us hl => match us, hl with | [_, _, _], _ => rfl⟩⟩
    m__law_tells := PySem.W.mg_of X Gn a29
    d__law_raises := ⟨⟨_, fun_mk (st := s__law_raises) l30 c30 k30, (fun_mk (st := s__law_raises) l30 c30 k30).binds (ps := ["f", "given", "reason"]) fun _ _ _ _ _ _ us hl => match us, hl with | [_, _, _], _ => rfl⟩⟩
    m__law_raises := PySem.W.mg_of X Gn a30
    d__law_plain := ⟨⟨_, fun_mk (st := s__law_plain) l31 c31 k31, (fun_mk (st := s__law_plain) l31 c31 k31).binds (ps := ["x"]) fun _ _ _ _ _ _ us hl => match us, hl with | [_], _ => rfl⟩⟩
    m__law_plain := PySem.W.mg_of X Gn a31
    d__law_value := ⟨⟨_, fun_mk (st := s__law_value) l32 c32 k32, (fun_mk (st := s__law_value) l32 c32 k32).binds (ps := ["f", "given"]) fun _ _ _ _ _ _ us hl => match us, hl with | [_, _], _ => rfl⟩⟩
    m__law_value := PySem.W.mg_of X Gn a32
    d__law_bads := ⟨⟨_, fun_mk (st := s__law_bads) l33 c33 k33, (fun_mk (st := s__law_bads) l33 c33 k33).binds (ps := ["f", "given", "at", "bads"]) fun _ _ _ _ _ _ us hl => match us, hl with | [_, _, _, _], _ => rfl⟩⟩
    m__law_bads := PySem.W.mg_of X Gn a33
    d__law_raised := ⟨⟨_, fun_mk (st := s__law_raised) l34 c34 k34, (fun_mk (st := s__law_raised) l34 c34 k34).binds (ps := ["a", "k"]) fun _ _ _ _ _ _ us hl => match us, hl with | [_, _], _ => rfl⟩⟩
    m__law_raised := PySem.W.mg_of X Gn a34
    d__law_words := ⟨⟨_, fun_mk (st := s__law_words) l35 c35 k35, (fun_mk (st := s__law_words) l35 c35 k35).binds (ps := ["sizes"]) fun _ _ _ _ _ _ us hl => match us, hl with | [_], _ => rfl⟩⟩
    m__law_words := PySem.W.mg_of X Gn a35
    d__law_prime := ⟨⟨_, fun_mk (st := s__law_prime) l36 c36 k36, (fun_mk (st := s__law_prime) l36 c36 k36).binds (ps := ["state", "high"]) fun _ _ _ _ _ _ us hl => match us, hl with | [_, _], _ => rfl⟩⟩
    m__law_prime := PySem.W.mg_of X Gn a36
    d__law_number := ⟨⟨_, fun_mk (st := s__law_number) l37 c37 k37, (fun_mk (st := s__law_number) l37 c37 k37).binds (ps := ["x", "p"]) fun _ _ _ _ _ _ us hl => match us, hl with | [_, _], _ => rfl⟩⟩
    m__law_number := PySem.W.mg_of X Gn a37
    d_law := ⟨⟨_, fun_mk (st := s_law) l38 c38 k38, (fun_mk (st := s_law) l38 c38 k38).binds (ps := ["script"]) fun _ _ _ _ _ _ us hl => match us, hl with | [_], _ => rfl⟩⟩
    m_law := PySem.W.mg_of X Gn a38
    n_abs := PySem.W.mg_none_of X Gn z_abs
    n_all := PySem.W.mg_none_of X Gn z_all
    n_bool := PySem.W.mg_none_of X Gn z_bool
    n_enumerate := PySem.W.mg_none_of X Gn z_enumerate
    n_int := PySem.W.mg_none_of X Gn z_int
    n_isinstance := PySem.W.mg_none_of X Gn z_isinstance
    n_len := PySem.W.mg_none_of X Gn z_len
    n_list := PySem.W.mg_none_of X Gn z_list
    n_min := PySem.W.mg_none_of X Gn z_min
    n_range := PySem.W.mg_none_of X Gn z_range
    n_set := PySem.W.mg_none_of X Gn z_set
    n_sorted := PySem.W.mg_none_of X Gn z_sorted
    n_str := PySem.W.mg_none_of X Gn z_str
    n_sum := PySem.W.mg_none_of X Gn z_sum
    n_tuple := PySem.W.mg_none_of X Gn z_tuple
    n_zip := PySem.W.mg_none_of X Gn z_zip
    c_MOST_PRIME := ⟨_, PySem.W.mg_of X Gn v_MOST_PRIME⟩
    c_MOST_LENGTH := ⟨_, PySem.W.mg_of X Gn v_MOST_LENGTH⟩
    c_MOST_ITEM := ⟨_, PySem.W.mg_of X Gn v_MOST_ITEM⟩
    gM := PySem.W.mg_of X Gn aM
    gR := PySem.W.mg_of X Gn aR
    xM := xM
    kM := kM
    bM := bM
    tM := tM
    eMM := exm_self' bM iM tM sM
    gF := PySem.W.mg_of X Gn aF
    rC := rfd_mk (oex_mk lR rR saR bR tR kR) noR rdF gaF vVF xfR
    d_init := ⟨_, _, fun_mk (st := s_init) lI cI kI, iI, tI, (fun_mk (st := s_init) lI cI kI).binds (ps := ["self", "reason"]) fun _ _ _ _ _ _ us hl => match us, hl with | [_, _], _ => rfl⟩
    eRM := exm_self' bM iM tM sRM
    eRR := exm_self' bR iR tR sRR }
  refine ⟨PySem.W.fnOf "law" "law" (defArgs s_law) (defBody s_law) (defScope s_law) .none kV38 dc38 pm38 an38 cd38 ct38, fun s v => .of_eq rfl, fun base _ _ => ?_⟩
  have F := fun_mk (st := s_law) l38 c38 k38
  exact law_of law_true (law_fn T F)
end L50
open PySem PySem.W PyProof.Rows
set_option maxHeartbeats 0 in
theorem PySem.Challenge.cw_localroads_k50_whole_vectors_of_rests_holds : PySem.Challenge.rw_localroads_k50_whole_vectors_of_rests.Holds := by
  w_on; o_law; k_head; (case hw => w_witness2)
  k_fill
  refine L2.walk_of (l := PySem.Challenge.rw_localroads_k50_whole_vectors_of_rests) (n := 63) (k := 12) (x := "script") (CX := fun w => L2.CX PySem.Challenge.rw_localroads_k50_whole_vectors_of_rests.prog w) (sp := fun w => Rf.spLaw _) rfl (by decide) rfl ⟨rfl, by decide, by decide⟩ (fun w h Y => PySem.W.kIn_of Y) ?F (fun _ _ a ns hl _ hS => ⟨a, ns, rfl, hS, hl, fun _ => rfl⟩) (fun _ _ _ _ _ h => Rf.law_cx h)
  case F =>
    intro w mg fa h KX G hmg
    refine' L50.all_mk KX G hmg ?a0 ?l0 ?c0 ?k0 ?a1 ?l1 ?c1 ?k1 ?a2 ?l2 ?c2 ?k2 ?a3 ?l3 ?c3 ?k3 ?a4 ?l4 ?c4 ?k4 ?a5 ?l5 ?c5 ?k5 ?a6 ?l6 ?c6 ?k6 ?a7 ?l7 ?c7 ?k7 ?a8 ?l8 ?c8 ?k8 ?a9 ?l9 ?c9 ?k9 ?a10 ?l10 ?c10 ?k10 ?a11 ?l11 ?c11 ?k11 ?a12 ?l12 ?c12 ?k12 ?a13 ?l13 ?c13 ?k13 ?a14 ?l14 ?c14 ?k14 ?a15 ?l15 ?c15 ?k15 ?a16 ?l16 ?c16 ?k16 ?a17 ?l17 ?c17 ?k17 ?a18 ?l18 ?c18 ?k18 ?a19 ?l19 ?c19 ?k19 ?a20 ?l20 ?c20 ?k20 ?a21 ?l21 ?c21 ?k21 ?a22 ?l22 ?c22 ?k22 ?a23 ?l23 ?c23 ?k23 ?a24 ?l24 ?c24 ?k24 ?a25 ?l25 ?c25 ?k25 ?a26 ?l26 ?c26 ?k26 ?a27 ?l27 ?c27 ?k27 ?a28 ?l28 ?c28 ?k28 ?a29 ?l29 ?c29 ?k29 ?a30 ?l30 ?c30 ?k30 ?a31 ?l31 ?c31 ?k31 ?a32 ?l32 ?c32 ?k32 ?a33 ?l33 ?c33 ?k33 ?a34 ?l34 ?c34 ?k34 ?a35 ?l35 ?c35 ?k35 ?a36 ?l36 ?c36 ?k36 ?a37 ?l37 ?c37 ?k37 ?a38 ?l38 ?c38 ?k38 ?aM ?aR ?xM ?kM ?bM ?tM ?iM ?sM ?lR ?rR ?saR ?bR ?tR ?kR ?noR ?aF ?rdF ?gaF ?vVF ?xfR ?iR ?sRM ?sRR ?iI ?tI ?lI ?cI ?kI ?z_abs ?z_all ?z_bool ?z_enumerate ?z_int ?z_isinstance ?z_len ?z_list ?z_min ?z_range ?z_set ?z_sorted ?z_str ?z_sum ?z_tuple ?z_zip ?v_MOST_PRIME ?v_MOST_LENGTH ?v_MOST_ITEM
    (case a0 => k_is)
    (case l0 => k_is)
    (case c0 => k_is)
    (case k0 => k_is)
    (case a1 => k_is)
    (case l1 => k_is)
    (case c1 => k_is)
    (case k1 => k_is)
    (case a2 => k_is)
    (case l2 => k_is)
    (case c2 => k_is)
    (case k2 => k_is)
    (case a3 => k_is)
    (case l3 => k_is)
    (case c3 => k_is)
    (case k3 => k_is)
    (case a4 => k_is)
    (case l4 => k_is)
    (case c4 => k_is)
    (case k4 => k_is)
    (case a5 => k_is)
    (case l5 => k_is)
    (case c5 => k_is)
    (case k5 => k_is)
    (case a6 => k_is)
    (case l6 => k_is)
    (case c6 => k_is)
    (case k6 => k_is)
    (case a7 => k_is)
    (case l7 => k_is)
    (case c7 => k_is)
    (case k7 => k_is)
    (case a8 => k_is)
    (case l8 => k_is)
    (case c8 => k_is)
    (case k8 => k_is)
    (case a9 => k_is)
    (case l9 => k_is)
    (case c9 => k_is)
    (case k9 => k_is)
    (case a10 => k_is)
    (case l10 => k_is)
    (case c10 => k_is)
    (case k10 => k_is)
    (case a11 => k_is)
    (case l11 => k_is)
    (case c11 => k_is)
    (case k11 => k_is)
    (case a12 => k_is)
    (case l12 => k_is)
    (case c12 => k_is)
    (case k12 => k_is)
    (case a13 => k_is)
    (case l13 => k_is)
    (case c13 => k_is)
    (case k13 => k_is)
    (case a14 => k_is)
    (case l14 => k_is)
    (case c14 => k_is)
    (case k14 => k_is)
    (case a15 => k_is)
    (case l15 => k_is)
    (case c15 => k_is)
    (case k15 => k_is)
    (case a16 => k_is)
    (case l16 => k_is)
    (case c16 => k_is)
    (case k16 => k_is)
    (case a17 => k_is)
    (case l17 => k_is)
    (case c17 => k_is)
    (case k17 => k_is)
    (case a18 => k_is)
    (case l18 => k_is)
    (case c18 => k_is)
    (case k18 => k_is)
    (case a19 => k_is)
    (case l19 => k_is)
    (case c19 => k_is)
    (case k19 => k_is)
    (case a20 => k_is)
    (case l20 => k_is)
    (case c20 => k_is)
    (case k20 => k_is)
    (case a21 => k_is)
    (case l21 => k_is)
    (case c21 => k_is)
    (case k21 => k_is)
    (case a22 => k_is)
    (case l22 => k_is)
    (case c22 => k_is)
    (case k22 => k_is)
    (case a23 => k_is)
    (case l23 => k_is)
    (case c23 => k_is)
    (case k23 => k_is)
    (case a24 => k_is)
    (case l24 => k_is)
    (case c24 => k_is)
    (case k24 => k_is)
    (case a25 => k_is)
    (case l25 => k_is)
    (case c25 => k_is)
    (case k25 => k_is)
    (case a26 => k_is)
    (case l26 => k_is)
    (case c26 => k_is)
    (case k26 => k_is)
    (case a27 => k_is)
    (case l27 => k_is)
    (case c27 => k_is)
    (case k27 => k_is)
    (case a28 => k_is)
    (case l28 => k_is)
    (case c28 => k_is)
    (case k28 => k_is)
    (case a29 => k_is)
    (case l29 => k_is)
    (case c29 => k_is)
    (case k29 => k_is)
    (case a30 => k_is)
    (case l30 => k_is)
    (case c30 => k_is)
    (case k30 => k_is)
    (case a31 => k_is)
    (case l31 => k_is)
    (case c31 => k_is)
    (case k31 => k_is)
    (case a32 => k_is)
    (case l32 => k_is)
    (case c32 => k_is)
    (case k32 => k_is)
    (case a33 => k_is)
    (case l33 => k_is)
    (case c33 => k_is)
    (case k33 => k_is)
    (case a34 => k_is)
    (case l34 => k_is)
    (case c34 => k_is)
    (case k34 => k_is)
    (case a35 => k_is)
    (case l35 => k_is)
    (case c35 => k_is)
    (case k35 => k_is)
    (case a36 => k_is)
    (case l36 => k_is)
    (case c36 => k_is)
    (case k36 => k_is)
    (case a37 => k_is)
    (case l37 => k_is)
    (case c37 => k_is)
    (case k37 => k_is)
    (case a38 => k_is)
    (case l38 => k_is)
    (case c38 => k_is)
    (case k38 => k_is)
    (case aM => k_is)
    (case aR => k_is)
    (case xM => k_exc)
    (case kM => k_is)
    (case bM => k_is)
    (case tM => k_is)
    (case iM => k_is)
    (case sM => first | rfl | k_is)
    (case lR => k_is)
    (case rR => first | rfl | k_is)
    (case saR => k_is)
    (case bR => k_is)
    (case tR => k_is)
    (case kR => k_is)
    (case noR => k_is)
    (case aF => k_is)
    (case rdF => first | rfl | k_is)
    (case gaF => k_is)
    (case vVF => k_is)
    (case xfR => first | rfl | k_is)
    (case iR => first | rfl | k_is)
    (case sRM => first | rfl | k_is)
    (case sRR => first | rfl | k_is)
    (case iI => k_is)
    (case tI => k_is)
    (case lI => k_is)
    (case cI => k_is)
    (case kI => k_is)
    (case z_abs => k_is)
    (case z_all => k_is)
    (case z_bool => k_is)
    (case z_enumerate => k_is)
    (case z_int => k_is)
    (case z_isinstance => k_is)
    (case z_len => k_is)
    (case z_list => k_is)
    (case z_min => k_is)
    (case z_range => k_is)
    (case z_set => k_is)
    (case z_sorted => k_is)
    (case z_str => k_is)
    (case z_sum => k_is)
    (case z_tuple => k_is)
    (case z_zip => k_is)
    (case v_MOST_PRIME => k_is)
    (case v_MOST_LENGTH => k_is)
    (case v_MOST_ITEM => k_is)
end
