import PyProof.Rows.All
import Wide.All
import OpenK.AllK
import Wide.FinOn
import PyProof.EqAt
import PyProof.EqKinds
import PyProof.TupleCall
import KE.KLam
import HandS.Base
import HandS.Call
import HandS.List
import HandS.Dict
import HandS.Iter
import HandS.Comp
import HandS.Text
import HandS.Exc
import HandS.ExcOwn
import HandS.ExcInit
import HandS.TryOnly
import HandS.TryMany
import HandS.Words
import HandS.WordsExc
import HandS.CallSlots
import HandS.Defaults
import HandS.Lambda
import HandS.HeadHook1
import HandS.HeadHook2
import KE.KSortTupAny
import KE.KSortTup
import KE.KSortAsk
import HandS.SortOrd
import HandS.SortRule
import HandS.SortInts
import HandS.SortKw
import HandS.TupAny
import HandS.Flow
import KE.KEqNest
import HandS.SetFor
import KE.KDictSum
import KE.KDictList
import HandS.Small
import HandS.RaiseMore
import KE.KItemsList
import HandS.ListItems
import KE.KMinKey
import KE.LtData
import HandS.GenList
import HandS.AnyAll
import PyProof.GenQ
import HandS.Conv
import HandS.HeadHook4
import HandS.HeadWalk
import HandS.Codes
import HandS.HeadHook3
import KE.KNestM
import PyProof.ExcBaseAll.ValueError
import KE.KStateDown
import Lean
import HandS.Ends
import HandS.Head0
import HandS.Head1
import HandS.Head2
import HandS.HeadEnd
import PySem.Challenge.RW_lamphall_k01_oils
set_option Elab.async false
set_option linter.all false
set_option maxRecDepth 100000
set_option maxHeartbeats 2000000
/-! AL1: data of a program as plain trees with references into a store of cells; what they stand for in a heap; growth. -/
namespace AL
open PySem PySem.Spec PyProof.Rows L2
/-- data -/
inductive D where
  | non | bl (b : Bool) | int (i : Int) | str (x : Str) | ref (i : Nat)
  | tup (l : List D) | lst (l : List D)
  /-- a tuple that the module's top has written -/
  | con (l : List D)
  | dk (l : List (Key × D)) | dt (l : List (List Key × D))
  | obj (c : Str) (l : List (Str × D))
/-- what stands in the store -/
inductive Cell where
  | lst (l : List D) | dk (l : List (Key × D)) | dt (l : List (List Key × D))
  | ins (c : Str) (l : List (Str × D))
structure S where
  st : List Cell
  /-- where the running defs' own cells begin -/
  bases : List Nat
  lk : List Nat
/-- an exception: its class, its row -/
structure Ex where
  cls : Str
  row : Option D
inductive R (α : Type) where
  | ok (a : α) (s : S) | err (x : Ex) (s : S) | bad
abbrev Sl := List (Option D)
/-- what a statement comes to -/
inductive RS where
  | nx (sl : Sl) (s : S) | rt (d : D) (s : S) | bk (sl : Sl) (s : S) | ct (sl : Sl) (s : S) | er (x : Ex) (sl : Sl) (s : S) | bad
def R.bind {α β : Type} (r : R α) (f : α → S → R β) : R β := match r with
  | .ok a s => f a s
  | .err x s => .err x s
  | .bad => .bad
def R.sbind {α : Type} (r : R α) (sl : Sl) (f : α → S → RS) : RS := match r with
  | .ok a s => f a s
  | .err x s => .er x sl s
  | .bad => .bad

mutual
/-- no reference at or above n -/
def D.under (n : Nat) : D → Bool
  | .non => true
  | .bl _ => true
  | .int _ => true
  | .str _ => true
  | .ref i => decide (i < n)
  | .tup l => belowL n l
  | .con l => belowL n l
  | .lst l => belowL n l
  | .dk l => belowK n l
  | .dt l => belowT n l
  | .obj _ l => belowO n l
def belowL (n : Nat) : List D → Bool
  | [] => true
  | d :: l => D.under n d && belowL n l
def belowK (n : Nat) : List (Key × D) → Bool
  | [] => true
  | (_, d) :: l => D.under n d && belowK n l
def belowT (n : Nat) : List (List Key × D) → Bool
  | [] => true
  | (_, d) :: l => D.under n d && belowT n l
def belowO (n : Nat) : List (Str × D) → Bool
  | [] => true
  | (_, d) :: l => D.under n d && belowO n l
end
def Cell.under (n : Nat) : Cell → Bool
  | .lst l => belowL n l
  | .dk l => belowK n l
  | .dt l => belowT n l
  | .ins _ l => belowO n l
/-- a key that is a text is not too long -/
def keyOk : Key → Prop
  | .inl _ => True
  | .inr x => x.length ≤ sizeLine
/-- an instance's class, its attributes' names -/
structure InsOk (K : PySem.W.Frag) (C : Addr) (vs : List (Str × V)) : Prop where
  cls : Cls K C
  no : ∀ f ∈ vs.map (·.1), NoAttr K C f
/-! ### what data stand for -/
section
variable (ca : Str → Addr) (K : PySem.W.Frag) (ρ : List Addr) (F : Hp)
mutual
def RepD : D → V → Prop
  | .non, v => v = .non
  | .bl b, v => v = .bl b
  | .int i, v => v = .int i
  | .str x, v => v = .str x ∧ x.length ≤ sizeLine
  | .ref i, v => ∃ a, ρ[i]? = some a ∧ v = .ref a
  | .tup l, v => ∃ a vs, v = .ref a ∧ F a = some (.tup vs) ∧ RepL l vs
  | .con l, v => ∃ a vs, v = .ref a ∧ SqT K F a vs ∧ RepL l vs
  | .lst l, v => ∃ a vs, v = .ref a ∧ Rd F a (.lst vs) ∧ RepL l vs
  | .dk l, v => ∃ a vs, v = .ref a ∧ Rd F a (.dK vs) ∧ RepK l vs
  | .dt l, v => ∃ a vs, v = .ref a ∧ Rd F a (.dT vs) ∧ RepT l vs
  | .obj c l, v => ∃ a dx vs, v = .ref a ∧ F a = some (.ins (ca c) dx vs) ∧ RepO l vs ∧ InsOk K (ca c) vs
def RepL : List D → List V → Prop
  | [], vs => vs = []
  | d :: l, vs => ∃ v r, vs = v :: r ∧ RepD d v ∧ RepL l r
def RepK : List (Key × D) → List (Key × V) → Prop
  | [], vs => vs = []
  | (k, d) :: l, vs => ∃ v r, vs = (k, v) :: r ∧ RepD d v ∧ RepK l r ∧ keyOk k
def RepT : List (List Key × D) → List (List Key × V) → Prop
  | [], vs => vs = []
  | (k, d) :: l, vs => ∃ v r, vs = (k, v) :: r ∧ RepD d v ∧ RepT l r ∧ ∀ q ∈ k, keyOk q
def RepO : List (Str × D) → List (Str × V) → Prop
  | [], vs => vs = []
  | (k, d) :: l, vs => ∃ v r, vs = (k, v) :: r ∧ RepD d v ∧ RepO l r
end
end

/-! ### growth -/
def dictO : HO → Bool
  | .dK _ => true
  | .dT _ => true
  | _ => false
/-- what is frozen stays, but a dict may come under a lock -/
def SubF (F F' : Hp) : Prop := ∀ a u, F a = some u → F' a = some u ∨ (dictO u = true ∧ ∃ o, F' a = some (.frz o u))
structure Le (ρ : List Addr) (F : Hp) (ρ' : List Addr) (F' : Hp) : Prop where
  pre : ∀ (i : Nat) (a : Addr), ρ[i]? = some a → ρ'[i]? = some a
  sub : SubF F F'
theorem SubF.refl (F : Hp) : SubF F F := fun _ _ h => .inl h
theorem SubF.trans {F F1 F2 : Hp} (a : SubF F F1) (b : SubF F1 F2) : SubF F F2 := fun x u h => by
  rcases a x u h with h1 | ⟨d, o, h1⟩
  · exact b x u h1
  · rcases b x _ h1 with h2 | ⟨d2, _⟩
    · exact .inr ⟨d, o, h2⟩
    · cases d2
theorem Le.refl (ρ : List Addr) (F : Hp) : Le ρ F ρ F := ⟨fun _ _ h => h, .refl F⟩
theorem Le.trans {ρ ρ1 ρ2 : List Addr} {F F1 F2 : Hp} (a : Le ρ F ρ1 F1) (b : Le ρ1 F1 ρ2 F2) : Le ρ F ρ2 F2 := ⟨fun i x h => b.pre i x (a.pre i x h), a.sub.trans b.sub⟩
theorem SubF.rd {F F' : Hp} (s : SubF F F') {a : Addr} {u : HO} (h : Rd F a u) : Rd F' a u := by
  rcases h with h | ⟨o, h⟩
  · rcases s a u h with h1 | ⟨_, o, h1⟩
    · exact .inl h1
    · exact .inr ⟨o, h1⟩
  · rcases s a _ h with h1 | ⟨d, _⟩
    · exact .inr ⟨o, h1⟩
    · cases d
theorem SubF.sqT {K : PySem.W.Frag} {F F' : Hp} (s : SubF F F') {a : Addr} {xs : List V} (h : SqT K F a xs) : SqT K F' a xs := h.imp s.rd id
theorem SubF.sqL {K : PySem.W.Frag} {F F' : Hp} (s : SubF F F') {a : Addr} {xs : List V} (h : SqL K F a xs) : SqL K F' a xs := h.imp s.rd id
theorem SubF.ins {F F' : Hp} (s : SubF F F') {a C dx : Addr} {vs : List (Str × V)} (h : F a = some (.ins C dx vs)) : F' a = some (.ins C dx vs) := by
  rcases s a _ h with h1 | ⟨d, _⟩
  · exact h1
  · cases d
theorem SubF.tup {F F' : Hp} (s : SubF F F') {a : Addr} {vs : List V} (h : F a = some (.tup vs)) : F' a = some (.tup vs) := by
  rcases s a _ h with h1 | ⟨d, _⟩
  · exact h1
  · cases d
theorem SubF.new {F : Hp} {p : Addr} {o : HO} (h : F p = none) : SubF F (upd F p o) := fun a u e => .inl (by
  rw [upd_ne (ne_of_none e h)]
  exact e)
section
variable {ca : Str → Addr} {K : PySem.W.Frag} {ρ ρ' : List Addr} {F F' : Hp}
mutual
theorem RepD.mono (s : Le ρ F ρ' F') : ∀ (d : D) (v : V), RepD ca K ρ F d v → RepD ca K ρ' F' d v
  | .non, _, h => h
  | .bl _, _, h => h
  | .int _, _, h => h
  | .str _, _, h => h
  | .ref i, _, ⟨a, h, e⟩ => ⟨a, s.pre i a h, e⟩
  | .tup l, v, ⟨a, vs, e, r, q⟩ => ⟨a, vs, e, s.sub.tup r, RepL.mono s l vs q⟩
  | .con l, v, ⟨a, vs, e, r, q⟩ => ⟨a, vs, e, s.sub.sqT r, RepL.mono s l vs q⟩
  | .lst l, v, ⟨a, vs, e, r, q⟩ => ⟨a, vs, e, s.sub.rd r, RepL.mono s l vs q⟩
  | .dk l, v, ⟨a, vs, e, r, q⟩ => ⟨a, vs, e, s.sub.rd r, RepK.mono s l vs q⟩
  | .dt l, v, ⟨a, vs, e, r, q⟩ => ⟨a, vs, e, s.sub.rd r, RepT.mono s l vs q⟩
  | .obj c l, v, ⟨a, dx, vs, e, r, q, n⟩ => ⟨a, dx, vs, e, s.sub.ins r, RepO.mono s l vs q, n⟩
theorem RepL.mono (s : Le ρ F ρ' F') : ∀ (l : List D) (vs : List V), RepL ca K ρ F l vs → RepL ca K ρ' F' l vs
  | [], _, h => h
  | d :: l, _, ⟨v, r, e, h, t⟩ => ⟨v, r, e, RepD.mono s d v h, RepL.mono s l r t⟩
theorem RepK.mono (s : Le ρ F ρ' F') : ∀ (l : List (Key × D)) (vs : List (Key × V)), RepK ca K ρ F l vs → RepK ca K ρ' F' l vs
  | [], _, h => h
  | (_, d) :: l, _, ⟨v, r, e, h, t, k⟩ => ⟨v, r, e, RepD.mono s d v h, RepK.mono s l r t, k⟩
theorem RepT.mono (s : Le ρ F ρ' F') : ∀ (l : List (List Key × D)) (vs : List (List Key × V)), RepT ca K ρ F l vs → RepT ca K ρ' F' l vs
  | [], _, h => h
  | (_, d) :: l, _, ⟨v, r, e, h, t, k⟩ => ⟨v, r, e, RepD.mono s d v h, RepT.mono s l r t, k⟩
theorem RepO.mono (s : Le ρ F ρ' F') : ∀ (l : List (Str × D)) (vs : List (Str × V)), RepO ca K ρ F l vs → RepO ca K ρ' F' l vs
  | [], _, h => h
  | (_, d) :: l, _, ⟨v, r, e, h, t⟩ => ⟨v, r, e, RepD.mono s d v h, RepO.mono s l r t⟩
end
end

/-! ### the store in a heap -/
/-- a cell at a; lk: it is under a lock, that L knows -/
def CellR (ca : Str → Addr) (K : PySem.W.Frag) (ρ : List Addr) (F L H : Hp) (lk : Bool) (a : Addr) (c : Cell) : Prop :=
  let Ct : HO → Prop := fun u => if lk = true then Rd L a u else H a = some u
  match c with
  | .lst l => ∃ vs, Ct (.lst vs) ∧ RepL ca K ρ F l vs
  | .dk l => ∃ vs, Ct (.dK vs) ∧ RepK ca K ρ F l vs
  | .dt l => ∃ vs, Ct (.dT vs) ∧ RepT ca K ρ F l vs
  | .ins c l => ∃ dx vs, H a = some (.ins (ca c) dx vs) ∧ RepO ca K ρ F l vs ∧ InsOk K (ca c) vs
/-- H without what stands at ρ -/
def off (ρ : List Addr) (H : Hp) : Hp := fun a => if a ∈ ρ then none else H a
theorem off_out {ρ : List Addr} {H : Hp} {a : Addr} (h : a ∉ ρ) : off ρ H a = H a := if_neg h
theorem off_in {ρ : List Addr} {H : Hp} {a : Addr} (h : a ∈ ρ) : off ρ H a = none := if_pos h
/-- the static side: class addresses, the written part, the tables of code objects -/
structure Env1 where
  ca : Str → Addr
  K : PySem.W.Frag
  T : List (Addr × Str)
structure Rel (G : Env1) (L H : Hp) (s : S) (ρ : List Addr) (F : Hp) : Prop where
  len : ρ.length = s.st.length
  nd : ρ.Nodup
  frz : ∀ a u, F a = some u → H a = some u ∧ a ∉ ρ ∧ L a = none
  lkd : ∀ a u, L a = some u → H a = some u ∧ ∀ (i : Nat), ρ[i]? = some a → s.lk.contains i = true ∧ dictO u = false
  cell : ∀ (i : Nat) (c : Cell) (a : Addr), s.st[i]? = some c → ρ[i]? = some a → CellR G.ca G.K ρ F L H (s.lk.contains i) a c
  there : ∀ a, a ∈ ρ → H a ≠ none
  tabs : LamX.Tabs G.T (off ρ H)
  lkb : ∀ i, s.lk.contains i = true → i < s.st.length
  bsl : ∀ b ∈ s.bases, b ≤ s.st.length
  /-- what stands ahead of a base knows nothing behind it -/
  disc : ∀ (i : Nat) (c : Cell), s.st[i]? = some c → ∀ b ∈ s.bases, i < b → c.under b = true
  ntF : ∀ a ps, F a ≠ some (.tbl ps)
  ntL : ∀ a ps, L a ≠ some (.tbl ps)
/-- slots -/
structure SlR (G : Env1) (ρ : List Addr) (F : Hp) (sl : Sl) (σ : L2.St) : Prop where
  len : sl.length = σ.length
  at_ : ∀ (j : Nat) (d : D), sl[j]? = some (some d) → ∃ v, σ[j]? = some (some v) ∧ RepD G.ca G.K ρ F d v
theorem SlR.mono {G : Env1} {ρ ρ' : List Addr} {F F' : Hp} {sl : Sl} {σ : L2.St} (h : SlR G ρ F sl σ) (l : Le ρ F ρ' F') : SlR G ρ' F' sl σ :=
  ⟨h.len, fun j d e => let ⟨v, e1, r⟩ := h.at_ j d e; ⟨v, e1, RepD.mono l _ _ r⟩⟩
theorem SlR.set {G : Env1} {ρ : List Addr} {F : Hp} {sl : Sl} {σ : L2.St} (h : SlR G ρ F sl σ) (i : Nat) {d : D} {v : V} (r : RepD G.ca G.K ρ F d v) : SlR G ρ F (sl.set i (some d)) (σ.set i (some v)) := by
  refine ⟨by simp [h.len], fun j d' e => ?_⟩
  by_cases hij : i = j
  · subst hij
    rw [List.getElem?_set] at e
    simp only [if_true] at e
    split at e
    · rename_i hl
      cases e
      refine ⟨v, ?_, r⟩
      rw [List.getElem?_set]
      simp only [if_true]
      rw [if_pos (by rw [← h.len]; exact hl)]
    · cases e
  · rw [List.getElem?_set_ne hij] at e
    obtain ⟨w, e1, r1⟩ := h.at_ j d' e
    exact ⟨w, by rw [List.getElem?_set_ne hij]; exact e1, r1⟩
/-- an exception's own dict -/
def ErrR (G : Env1) (ρ : List Addr) (F : Hp) (x : Ex) (c : Value) (d : Option Addr) (H : Hp) : Prop :=
  c = .ref (G.ca x.cls) ∧ match x.row with
    | none => d = none
    | some r => ∃ a v, d = some a ∧ H a = some (.xd [("row", v)]) ∧ RepD G.ca G.K ρ F r v

/-! ### what is wanted of a result -/
section
variable (G : Env1) (L : Hp) (ρ : List Addr) (F : Hp) (W : WX)
def PB (σ : L2.St) {α β : Type} (rp : List Addr → Hp → α → β → Prop) (Q : β → Hp → Prop) : R α → Prop
  | .ok a s' => ∀ v H' ρ' F', Le ρ F ρ' F' → Rel G L H' s' ρ' F' → rp ρ' F' a v → Q v H'
  | .err x s' => ∀ c d H' ρ' F', Le ρ F ρ' F' → Rel G L H' s' ρ' F' → ErrR G ρ' F' x c d H' → W c d σ H'
  | .bad => False
def PQ (D : Ends) : RS → Prop
  | .nx sl s' => ∀ σ' H' ρ' F', Le ρ F ρ' F' → SlR G ρ' F' sl σ' → Rel G L H' s' ρ' F' → D.nx σ' H'
  | .rt d s' => ∀ v H' ρ' F', Le ρ F ρ' F' → Rel G L H' s' ρ' F' → RepD G.ca G.K ρ' F' d v → D.rt v H'
  | .bk sl s' => ∀ σ' H' ρ' F', Le ρ F ρ' F' → SlR G ρ' F' sl σ' → Rel G L H' s' ρ' F' → D.bk σ' H'
  | .ct sl s' => ∀ σ' H' ρ' F', Le ρ F ρ' F' → SlR G ρ' F' sl σ' → Rel G L H' s' ρ' F' → D.ct σ' H'
  | .er x sl s' => ∀ c d σ' H' ρ' F', Le ρ F ρ' F' → SlR G ρ' F' sl σ' → Rel G L H' s' ρ' F' → ErrR G ρ' F' x c d H' → W c d σ' H'
  | .bad => False
end
abbrev rpD (G : Env1) (ρ : List Addr) (F : Hp) : D → V → Prop := RepD G.ca G.K ρ F
abbrev rpL (G : Env1) (ρ : List Addr) (F : Hp) : List D → List V → Prop := RepL G.ca G.K ρ F
abbrev rpB (ρ : List Addr) (F : Hp) : Bool → Bool → Prop := fun a b => a = b
/-- readings -/
def tX {α β : Type} (G : Env1) (W : WX) (rp : List Addr → Hp → α → β → Prop) (m : Sl → S → R α) : L2.St → Hp → (β → Hp → Prop) → Prop := fun σ H Q =>
  ∃ sl s ρ F L, SlR G ρ F sl σ ∧ Rel G L H s ρ F ∧ PB G L ρ F W σ rp Q (m sl s)
abbrev tE (G : Env1) (W : WX) (m : Sl → S → R D) : TE := tX G W (rpD G) m
abbrev tT (G : Env1) (W : WX) (m : Sl → S → R Bool) : TT := tX G W rpB m
abbrev tA (G : Env1) (W : WX) (m : Sl → S → R (List D)) : TA := tX G W (rpL G) m
def tS (G : Env1) (W : WX) (m : Sl → S → RS) : TS := fun D σ H =>
  ∃ sl s ρ F L, SlR G ρ F sl σ ∧ Rel G L H s ρ F ∧ PQ G L ρ F W D (m sl s)

/-! ### weakening -/
section
variable {G : Env1} {L : Hp} {ρ ρ1 : List Addr} {F F1 : Hp} {W : WX} {σ : L2.St}
theorem PB.imp {α β : Type} {rp : List Addr → Hp → α → β → Prop} {Q Q' : β → Hp → Prop} {r : R α} (h : PB G L ρ F W σ rp Q r) (l : Le ρ F ρ1 F1) (k : ∀ a s', r = .ok a s' → ∀ v H' ρ' F', Le ρ1 F1 ρ' F' → Rel G L H' s' ρ' F' → rp ρ' F' a v → Q v H' → Q' v H') : PB G L ρ1 F1 W σ rp Q' r := by
  cases r with
  | ok a s' => exact fun v H' ρ' F' l' r' p => k a s' rfl v H' ρ' F' l' r' p (h v H' ρ' F' (l.trans l') r' p)
  | err x s' => exact fun c d H' ρ' F' l' r' e => h c d H' ρ' F' (l.trans l') r' e
  | bad => exact h
/-- a first part, then the rest -/
theorem PB.bind {α β γ δ : Type} {rp : List Addr → Hp → α → β → Prop} {rq : List Addr → Hp → γ → δ → Prop} {Q : δ → Hp → Prop} {r : R α} {f : α → S → R γ} (h : PB G L ρ F W σ rq Q (r.bind f)) :
    PB G L ρ F W σ rp (fun v H' => ∃ a s' ρ' F', r = .ok a s' ∧ Le ρ F ρ' F' ∧ Rel G L H' s' ρ' F' ∧ rp ρ' F' a v ∧ PB G L ρ' F' W σ rq Q (f a s')) r := by
  cases r with
  | ok a s' => exact fun v H' ρ' F' l' r' p => ⟨a, s', ρ', F', rfl, l', r', p, PB.imp h l' fun _ _ _ _ _ _ _ _ _ _ q => q⟩
  | err x s' => exact h
  | bad => exact h
theorem PQ.le {D : Ends} {r : RS} (h : PQ G L ρ F W D r) (l : Le ρ F ρ1 F1) : PQ G L ρ1 F1 W D r := by
  cases r with
  | nx sl s' => exact fun σ' H' ρ' F' l' => h σ' H' ρ' F' (l.trans l')
  | rt d s' => exact fun v H' ρ' F' l' => h v H' ρ' F' (l.trans l')
  | bk sl s' => exact fun σ' H' ρ' F' l' => h σ' H' ρ' F' (l.trans l')
  | ct sl s' => exact fun σ' H' ρ' F' l' => h σ' H' ρ' F' (l.trans l')
  | er x sl s' => exact fun c d σ' H' ρ' F' l' => h c d σ' H' ρ' F' (l.trans l')
  | bad => exact h
/-- an expression, then the rest of a statement -/
theorem PQ.bind {α β : Type} {rp : List Addr → Hp → α → β → Prop} {D : Ends} {sl : Sl} {r : R α} {f : α → S → RS} (hs : SlR G ρ F sl σ) (h : PQ G L ρ F W D (r.sbind sl f)) :
    PB G L ρ F W σ rp (fun v H' => ∃ a s' ρ' F', r = .ok a s' ∧ Le ρ F ρ' F' ∧ SlR G ρ' F' sl σ ∧ Rel G L H' s' ρ' F' ∧ rp ρ' F' a v ∧ PQ G L ρ' F' W D (f a s')) r := by
  cases r with
  | ok a s' => exact fun v H' ρ' F' l' r' p => ⟨a, s', ρ', F', rfl, l', hs.mono l', r', p, PQ.le h l'⟩
  | err x s' => exact fun c d H' ρ' F' l' r' e => h c d σ H' ρ' F' l' (hs.mono l') r' e
  | bad => exact h
end
end AL
set_option Elab.async false
set_option linter.all false
set_option maxRecDepth 100000
set_option maxHeartbeats 2000000
/-! AL2: the evaluator. -/
namespace AL
open PySem PySem.Spec PyProof.Rows L2
/-! ### data -/
/-- what a reference stands for, one step -/
def D.view (d : D) (s : S) : D := match d with
  | .ref i => (match s.st[i]? with
    | some (.lst l) => .lst l
    | some (.dk l) => .dk l
    | some (.dt l) => .dt l
    | some (.ins c l) => .obj c l
    | _ => .ref i)
  | .con l => .tup l
  | d => d
def D.isCon : D → Bool
  | .con _ => true
  | _ => false
def kD : Key → D
  | .inl i => .int i
  | .inr x => .str x
def D.key : D → Option Key
  | .int i => some (.inl i)
  | .str x => some (.inr x)
  | _ => none
def keysOf : List D → Option (List Key)
  | [] => some []
  | d :: l => match d.key, keysOf l with
    | some k, some r => some (k :: r)
    | _, _ => none
def lookK {κ : Type} [DecidableEq κ] (k : κ) : List (κ × D) → Option D
  | [] => none
  | p :: l => if p.1 = k then some p.2 else lookK k l
def setK {κ : Type} [DecidableEq κ] (k : κ) (d : D) (l : List (κ × D)) : List (κ × D) :=
  if (l.any fun p => decide (p.1 = k)) = true then l.map (fun p => if p.1 = k then (p.1, d) else p) else l ++ [(k, d)]
/-- an attribute -/
def setO (f : Str) (d : D) : List (Str × D) → List (Str × D)
  | [] => [(f, d)]
  | (g, x) :: r => if g = f then (g, d) :: r else (g, x) :: setO f d r
def delK {κ : Type} [DecidableEq κ] (k : κ) (l : List (κ × D)) : List (κ × D) := l.filter fun p => decide (p.1 ≠ k)
def chars (x : Str) : List D := x.cps.toList.map fun c => .str ⟨#[c]⟩
/-- what a walk over d gives (d is viewed) -/
def D.items : D → Option (List D)
  | .lst l => some l
  | .tup l => some l
  | .str x => some (chars x)
  | .dk l => some (l.map fun p => kD p.1)
  | .dt l => some (l.map fun p => .tup (p.1.map kD))
  | _ => none
/-- the written dict d: k's value -/
def getD? (d k : D) : Option (Option D) := match d with
  | .dk l => (match k with
    | .int i => some (lookK (.inl i) l)
    | .str x => some (lookK (.inr x) l)
    | _ => none)
  | .dt l => (match k with
    | .tup ks => (match keysOf ks with
      | some q => some (lookK q l)
      | none => none)
    | _ => none)
  | _ => none
def putD (d k v : D) : Option D := match d, k with
  | .dk l, .int i => some (.dk (setK (.inl i) v l))
  | .dk l, .str x => some (.dk (setK (.inr x) v l))
  | .dt l, .tup ks => (match keysOf ks with
    | some q => some (.dt (setK q v l))
    | none => none)
  | _, _ => none
def dropD (d k : D) : Option D := match d, k with
  | .dk l, .int i => some (.dk (delK (.inl i) l))
  | .dk l, .str x => some (.dk (delK (.inr x) l))
  | .dt l, .tup ks => (match keysOf ks with
    | some q => some (.dt (delK q l))
    | none => none)
  | _, _ => none
def D.cell : D → Option Cell
  | .lst l => some (.lst l)
  | .dk l => some (.dk l)
  | .dt l => some (.dt l)
  | .obj c l => some (.ins c l)
  | _ => none

/-! ### results -/
def R.of {α : Type} (s : S) : Option α → R α
  | some a => .ok a s
  | none => .bad
/-- the cell i becomes c -/
def putC (i : Nat) (c : Cell) (s : S) : S := { s with st := s.st.set i c }
def alloc (c : Cell) (s : S) : R D := .ok (.ref s.st.length) { s with st := s.st ++ [c] }
/-- what may be stored into the cell i -/
def fits (s : S) (i : Nat) (v : D) : Bool := s.bases.all fun b => decide (b ≤ i) || v.under b
def free (s : S) (i : Nat) : Bool := !s.lk.contains i

/-! ### equality, order -/
def b2D (b : Bool) : Int := if b then 1 else 0
/-- item by item, all of them -/
def eqZ (f : D → D → Option Bool) : List D → List D → Option Bool
  | a :: l, b :: r => match f a b, eqZ f l r with
    | some p, some q => some (p && q)
    | _, _ => none
  | _, _ => some true
def eqK {κ : Type} [DecidableEq κ] (f : D → D → Option Bool) : List (κ × D) → List (κ × D) → Option Bool
  | [], _ => some true
  | p :: l, r => match eqK f l r with
    | some q => (match lookK p.1 r with
      | some b => (match f p.2 b with
        | some e => some (e && q)
        | none => none)
      | none => some false)
    | none => none
/-- the kind of a viewed value -/
def kd : D → Nat
  | .non => 0
  | .bl _ => 1
  | .int _ => 2
  | .str _ => 3
  | .tup _ => 4
  | .lst _ => 5
  | _ => 9
def differ (i j : Nat) : Bool := decide (i < 9) && decide (j < 9) && decide (i ≠ j) && !(decide (1 ≤ i ∧ i ≤ 2) && decide (1 ≤ j ∧ j ≤ 2))
/-- x == y in the store, of nesting below n -/
def eqS : Nat → S → D → D → Option Bool
  | 0, _, _, _ => none
  | n + 1, s, x, y => match x.view s, y.view s with
    | .non, .non => some true
    | .bl a, .bl b => some (a == b)
    | .bl a, .int b => some (decide (b2D a = b))
    | .int a, .bl b => some (decide (a = b2D b))
    | .int a, .int b => some (decide (a = b))
    | .str a, .str b => some (decide (a = b))
    | .tup a, .tup b => (match eqZ (eqS n s) a b with
      | some q => some (q && a.length == b.length)
      | none => none)
    | .lst a, .lst b => if a.length = b.length then eqZ (eqS n s) a b else some false
    | .dk a, .dk b => (match eqK (eqS n s) a b with
      | some q => some (a.length == b.length && q)
      | none => none)
    | a, b => if differ (kd a) (kd b) = true then some false else none
/-- references within seen through -/
def snap (s : S) : Nat → D → D
  | 0, d => d
  | n + 1, d => match d.view s with
    | .tup l => .tup (l.map (snap s n))
    | .lst l => .lst (l.map (snap s n))
    | d => d
/-! ### operators -/
def sizeOk (n : Nat) : Bool := decide (n ≤ sizeLine)
def joinStr (sep : Str) : List D → Option Str
  | [] => some ⟨#[]⟩
  | [.str x] => some x
  | .str x :: l => (joinStr sep l).map fun r => x ++ sep ++ r
  | _ => none
def binD (op : Operator) (x y : D) (s : S) : R D := match op, x.view s, y.view s with
  | .Add, .int a, .int b => .ok (.int (a + b)) s
  | .Add, .int a, .bl b => .ok (.int (a + b2D b)) s
  | .Add, .str a, .str b => if a.length + b.length ≤ sizeLine then .ok (.str (a ++ b)) s else .bad
  | .Add, .tup a, .tup b => if (x.isCon || y.isCon) = false ∧ a.length + b.length ≤ sizeLine then .ok (.tup (a ++ b)) s else .bad
  | .Add, .lst a, .lst b => if a.length + b.length ≤ sizeLine then .ok (.lst (a ++ b)) s else .bad
  | .Sub, .int a, .int b => .ok (.int (a - b)) s
  | .Mult, .int a, .int b => if a.natAbs < 2 ^ 64 ∨ b.natAbs < 2 ^ 64 then .ok (.int (a * b)) s else .bad
  | .Mult, .lst a, .int b => if 0 ≤ b ∧ b < 2 ^ 24 ∧ a.length * b.toNat ≤ sizeLine then .ok (.lst (List.replicate b.toNat a).flatten) s else .bad
  | .FloorDiv, .int a, .int b => if b ≠ 0 ∧ b.natAbs < 1073741824 then .ok (.int (a.fdiv b)) s else .bad
  | .Mod, .int a, .int b => if b ≠ 0 then .ok (.int (a.fmod b)) s else .bad
  | .Pow, .int a, .int b => if 0 ≤ b ∧ b ≤ 1000000 ∧ a.natAbs < 2 ^ 64 then .ok (.int (a ^ b.toNat)) s else .bad
  | _, _, _ => .bad
def truthD (d : D) (s : S) : Option Bool := match d.view s with
  | .non => some false
  | .bl b => some b
  | .int i => some (i != 0)
  | .str x => some (x.length != 0)
  | .tup l => some !l.isEmpty
  | .lst l => some !l.isEmpty
  | _ => none
/-- x among flat items -/
def inL (s : S) (x : D) : List D → Option Bool
  | [] => some false
  | y :: l => if kd y < 4 ∧ kd x < 4 then (match eqS 1 s y x, inL s x l with
    | some p, some q => some (p || q)
    | _, _ => none) else none
/-- x in y -/
def inD (x y : D) (s : S) : Option Bool := match y.view s with
  | .str b => (match x with
    | .str a => (match a.cps.toList with
      | [c] => some (decide (c ∈ b.cps.toList))
      | _ => none)
    | _ => none)
  | .lst l => inL s x l
  | .tup l => inL s x l
  | .dk l => (getD? (.dk l) x).map Option.isSome
  | .dt l => (getD? (.dt l) x).map Option.isSome
  | _ => none
def cmpOp (op : CmpOp) (x y : D) (s : S) : Option Bool := match op with
  | .Eq => eqS 8 s x y
  | .NotEq => (eqS 8 s x y).map (!·)
  | .Lt => (match x, y with
    | .int a, .int b => some (decide (a < b))
    | .str a, .str b => some (decide (a.cps.toList < b.cps.toList))
    | _, _ => none)
  | .LtE => (match x, y with
    | .int a, .int b => some (decide (a ≤ b))
    | _, _ => none)
  | .Gt => (match x, y with
    | .int a, .int b => some (decide (b < a))
    | _, _ => none)
  | .GtE => (match x, y with
    | .int a, .int b => some (decide (b ≤ a))
    | _, _ => none)
  | .Is => (match y with
    | .non => (match x with
      | .non => some true
      | _ => some false)
    | _ => none)
  | .IsNot => (match y with
    | .non => (match x with
      | .non => some false
      | _ => some true)
    | _ => none)
  | .In => inD x y s
  | .NotIn => (inD x y s).map (!·)
/-! ### subscripts -/
def ixOf (i : Int) (n : Nat) : Option Nat := L2.ixN n i
def getIx (x k : D) (s : S) : Option D := match x.view s with
  | .lst l => (match k with
    | .int i => (ixOf i l.length).bind fun j => l[j]?
    | _ => none)
  | .tup l => (match k with
    | .int i => (ixOf i l.length).bind fun j => l[j]?
    | _ => none)
  | .str z => (match k with
    | .int i => (ixOf i z.length).bind fun j => z.cps[j]?.map fun c => .str ⟨#[c]⟩
    | _ => none)
  | .dk l => (getD? (.dk l) k).bind id
  | .dt l => (getD? (.dt l) k).bind id
  | _ => none
/-- a slice -/
def cut {α : Type} (lo hi : Option Int) (l : List α) : List α := (l.drop (HT.sIx l.length 0 lo)).take (HT.sIx l.length l.length hi - HT.sIx l.length 0 lo)
def cutD (x : D) (lo hi : Option Int) (s : S) : Option D := match x.view s with
  | .lst l => some (.lst (cut lo hi l))
  | .tup l => if x.isCon = true then some (.con (cut lo hi l)) else some (.tup (cut lo hi l))
  | .str z => some (.str (cutS z lo hi))
  | _ => none
/-- o[k] = v -/
def setIx (o k v : D) (s : S) : R Unit := match o with
  | .ref i => if free s i && fits s i v then (match s.st[i]? with
      | some (.lst l) => (match k with
        | .int j => (match ixOf j l.length with
          | some m => .ok () (putC i (.lst (l.set m v)) s)
          | none => .bad)
        | _ => .bad)
      | some (.dk l) => (match k.key with
        | some q => if l.length < sizeLine then .ok () (putC i (.dk (setK q v l)) s) else .bad
        | none => .bad)
      | _ => .bad) else .bad
  | _ => .bad
def delIx (o k : D) (s : S) : R Unit := match o with
  | .ref i => if free s i then (match s.st[i]? with
      | some (.dk l) => (match k.key with
        | some q => if (lookK q l).isSome then .ok () (putC i (.dk (delK q l)) s) else .bad
        | none => .bad)
      | _ => .bad) else .bad
  | _ => .bad
/-! ### attributes -/
def getAt (o : D) (f : Str) (s : S) : Option D := match o.view s with
  | .obj _ l => lookK f l
  | _ => none
def setAt (at_ : Str → Str → Bool) (o : D) (f : Str) (v : D) (s : S) : R Unit := match o with
  | .ref i => if free s i && fits s i v then (match s.st[i]? with
      | some (.ins c l) => if at_ c f = true ∧ l.length < 999 then .ok () (putC i (.ins c (setO f v l)) s) else .bad
      | _ => .bad) else .bad
  | _ => .bad
/-! ### methods of built-in types -/
def Lstr (l : List Nat) : Str := ⟨l.toArray⟩
def strL (x : Str) : List Nat := x.cps.toList
def appendM (o : D) (args : List D) (s : S) : R D := match o, args with
  | .ref i, [v] => if free s i && fits s i v then (match s.st[i]? with
    | some (.lst l) => if l.length < sizeLine then .ok .non (putC i (.lst (l ++ [v])) s) else .bad
    | _ => .bad) else .bad
  | _, _ => .bad
def popL (o : D) (args : List D) (s : S) : R D := match o, args with
  | .ref i, [] => if free s i then (match s.st[i]? with
    | some (.lst l) => (match l[l.length - 1]? with
      | some v => .ok v (putC i (.lst l.dropLast) s)
      | none => .bad)
    | _ => .bad) else .bad
  | .ref i, [.int j] => if free s i ∧ -(2 ^ 63) ≤ j ∧ j < 2 ^ 63 then (match s.st[i]? with
    | some (.lst l) => (match seqIndex? j l.length with
      | some q => (match l[q]? with
        | some v => .ok v (putC i (.lst (l.eraseIdx q)) s)
        | none => .bad)
      | none => .bad)
    | _ => .bad) else .bad
  | _, _ => .bad
/-- x's first place among flat items -/
def idxL (s : S) (x : D) : List D → Option (Option Nat)
  | [] => some none
  | y :: l => if kd y < 4 ∧ kd x < 4 then (match eqS 1 s y x, idxL s x l with
    | some true, some _ => some (some 0)
    | some false, some q => some (q.map (· + 1))
    | _, _ => none) else none
def indexM (o : D) (args : List D) (s : S) : R D := match args with
  | [v] => (match o.view s with
    | .lst l => (match idxL s v l with
      | some (some j) => .ok (.int j) s
      | _ => .bad)
    | _ => .bad)
  | _ => .bad
/-- how often k stands in a list of ints -/
def countM (o : D) (args : List D) (s : S) : R D := match args with
  | [.int k] => (match o.view s with
    | .lst l => (match intsL l with
      | some ns => .ok (.int (ns.count k : Nat)) s
      | none => .bad)
    | _ => .bad)
  | _ => .bad
where
  intsL : List D → Option (List Int)
    | [] => some []
    | .int i :: l => (intsL l).map (i :: ·)
    | _ => none
def methL (m : Str) : Option (D → List D → S → R D) :=
  if m = ("count" : Str) then some countM else if m = ("append" : Str) then some appendM else if m = ("pop" : Str) then some popL else if m = ("index" : Str) then some indexM else none
def getM (o : D) (args : List D) (s : S) : R D := match args with
  | [k] => (match getD? (o.view s) k with
    | some r => .ok (r.getD .non) s
    | none => .bad)
  | [k, v] => (match getD? (o.view s) k with
    | some r => .ok (r.getD v) s
    | none => .bad)
  | _ => .bad
def popK (o : D) (args : List D) (s : S) : R D := match o, args with
  | .ref i, [k] => if free s i then (match s.st[i]? with
    | some (.dk l) => (match (getD? (.dk l) k).bind id, (dropD (.dk l) k).bind D.cell with
      | some v, some c => .ok v (putC i c s)
      | _, _ => .bad)
    | _ => .bad) else .bad
  | _, _ => .bad
def methK (m : Str) : Option (D → List D → S → R D) :=
  if m = ("get" : Str) then some getM else if m = ("pop" : Str) then some popK else none
def methS (m : Str) : Option (D → List D → S → R D) := none
/-! ### built-ins -/
def sumD : Int → List D → Option Int
  | a, [] => some a
  | a, .int i :: l => sumD (a + i) l
  | a, .bl b :: l => sumD (a + b2D b) l
  | _, _ => none
def boolsD (all : Bool) : List D → Option Bool
  | [] => some all
  | .bl b :: l => if b = all then boolsD all l else some !all
  | _ => none
def dictL : List D → D → Option D
  | [], d => some d
  | .tup [k, v] :: l, d => (putD d k v).bind (dictL l)
  | _, _ => none
/-- the empty dict for such keys -/
def dict0 : List D → D
  | .tup (.tup _ :: _) :: _ => .dt []
  | _ => .dk []
def rangeL (lo hi st : Int) : List D :=
  if 0 < st then (List.range ((hi - lo + st - 1) / st).toNat).map fun (k : Nat) => .int (lo + (k : Int) * st)
  else if st < 0 then (List.range ((lo - hi - st - 1) / (-st)).toNat).map fun (k : Nat) => .int (lo + (k : Int) * st) else []
def lidN : Int := 2 ^ 62
/-- lo, lo + 1, .. (n of them) -/
def upL (lo : Int) : Nat → List D
  | 0 => []
  | n + 1 => .int lo :: upL (lo + 1) n
def rangeD : List D → Option (List D)
  | [.int n] => if -lidN ≤ n ∧ n < 16777216 then some (upL 0 n.toNat) else none
  | [.int a, .int b] => if -lidN ≤ a ∧ a < lidN ∧ -lidN ≤ b ∧ b < lidN ∧ b - a < 16777216 then some (upL a (b - a).toNat) else none
  | _ => none
def digits : Nat → Nat → List Nat
  | 0, _ => []
  | f + 1, n => if n < 10 then [48 + n] else digits f (n / 10) ++ [48 + n % 10]
def strI (i : Int) : List Nat := if i < 0 then 45 :: digits (i.natAbs + 1) i.natAbs else digits (i.natAbs + 1) i.natAbs
def intS : List Nat → Option Int
  | [] => none
  | l => l.foldl (fun a c => a.bind fun n => if 48 ≤ c ∧ c ≤ 57 then some (n * 10 + ((c - 48 : Nat) : Int)) else none) (some 0)
def enumL (l : List D) : List D := l.zipIdx.map fun p => .tup [.int p.2, p.1]
def zipL : List D → List D → List D
  | a :: l, b :: r => .tup [a, b] :: zipL l r
  | _, _ => []
def valuesL (d : D) : Option (List D) := match d with
  | .dk l => some (l.map (·.2))
  | .dt l => some (l.map (·.2))
  | _ => none
def itemsL (d : D) : Option (List D) := match d with
  | .dk l => some (l.map fun p => .tup [kD p.1, p.2])
  | .dt l => some (l.map fun p => .tup [.tup (p.1.map kD), p.2])
  | _ => none
def lenM (args : List D) (s : S) : R D := match args with
  | [x] => (match x.view s with
    | .str z => .ok (.int z.length) s
    | .lst l => .ok (.int l.length) s
    | .tup l => .ok (.int l.length) s
    | .dk l => .ok (.int l.length) s
    | _ => .bad)
  | _ => .bad
def absM (args : List D) (s : S) : R D := match args with
  | [.int i] => .ok (.int (if i < 0 then -i else i)) s
  | _ => .bad
def intM (args : List D) (s : S) : R D := match args with
  | [.int i] => .ok (.int i) s
  | [.bl b] => .ok (.int (b2D b)) s
  | [.str x] => if x.length ≤ 640 then (match PySem.intText? x with
    | some i => .ok (.int i) s
    | none => .bad) else .bad
  | _ => .bad
def intsOf : List D → Option (List Int)
  | [] => some []
  | .int i :: l => (intsOf l).map (i :: ·)
  | _ => none
def strsOf : List D → Option (List Str)
  | [] => some []
  | .str x :: l => (strsOf l).map (x :: ·)
  | _ => none
def maxI : Int → List Int → Int
  | x, [] => x
  | x, y :: l => maxI (if x < y then y else x) l
def minI : Int → List Int → Int
  | x, [] => x
  | x, y :: l => minI (if y < x then y else x) l
def lstOf (x : D) (s : S) : Option (List D) := match x.view s with
  | .lst l => some l
  | _ => none
def maxM (args : List D) (s : S) : R D := match args with
  | [.int a, .int b] => .ok (.int (if b > a then b else a)) s
  | [x] => (match (lstOf x s).bind intsOf with
    | some (y :: l) => .ok (.int (maxI y l)) s
    | _ => .bad)
  | _ => .bad
def minM (args : List D) (s : S) : R D := match args with
  | [.int a, .int b] => .ok (.int (if b < a then b else a)) s
  | [x] => (match (lstOf x s).bind intsOf with
    | some (y :: l) => .ok (.int (minI y l)) s
    | _ => .bad)
  | _ => .bad
def sumM (args : List D) (s : S) : R D := match args with
  | [x] => (match (lstOf x s).bind intsOf with
    | some l => .ok (.int l.sum) s
    | _ => .bad)
  | _ => .bad
def tupleM (args : List D) (s : S) : R D := match args with
  | [x] => (match x.view s with
    | .lst l => .ok (.tup l) s
    | .tup l => if x.isCon = true then .ok (.con l) s else .ok (.tup l) s
    | _ => .bad)
  | _ => .bad
def listM1 (args : List D) (s : S) : R D := match args with
  | [x] => (match x.view s with
    | .lst l => .ok (.lst l) s
    | .tup l => .ok (.lst l) s
    | .dk l => .ok (.lst (l.map fun p => kD p.1)) s
    | _ => .bad)
  | _ => .bad
/-- the pairs of a list, with plain keys -/
def pairsK (s : S) : List D → Option (List (Key × D))
  | [] => some []
  | d :: l => match d.view s with
    | .tup [k, v] => (match k.key, pairsK s l with
      | some q, some r => some ((q, v) :: r)
      | _, _ => none)
    | _ => none
def dictM (args : List D) (s : S) : R D := match args with
  | [x] => (match (lstOf x s).bind (pairsK s) with
    | some ps => .ok (.dk (ps.foldl (fun a q => setK q.1 q.2 a) [])) s
    | none => .bad)
  | _ => .bad
/-- x put ahead of those that are not less (x stood ahead of them) -/
def insI (x : Int) : List Int → List Int
  | [] => [x]
  | y :: l => if x ≤ y then x :: y :: l else y :: insI x l
def sortI : List Int → List Int
  | [] => []
  | x :: l => insI x (sortI l)
def sortedM (args : List D) (s : S) : R D := match args with
  | [x] => (match (lstOf x s).bind intsOf with
    | some l => .ok (.lst ((sortI l).map .int)) s
    | none => .bad)
  | _ => .bad
/-- the built-in f -/
def bltF (f : Str) : Option (List D → S → R D) :=
  if f = ("len" : Str) then some lenM else if f = ("abs" : Str) then some absM else if f = ("int" : Str) then some intM else if f = ("max" : Str) then some maxM
  else if f = ("min" : Str) then some minM else if f = ("sum" : Str) then some sumM else if f = ("tuple" : Str) then some tupleM else if f = ("list" : Str) then some listM1
  else if f = ("dict" : Str) then some dictM else none
end AL
set_option Elab.async false
set_option linter.all false
set_option maxRecDepth 100000
set_option maxHeartbeats 2000000
/-! AL2s: order; sorting. -/
namespace AL
open PySem PySem.Spec PyProof.Rows L2
abbrev KA := Int ⊕ List Nat
abbrev ltKA (a b : List KA) : Bool := lexLt itemOrd a b
def flatK : D → Option KA
  | .int i => some (.inl i)
  | .str x => some (.inr x.cps.toList)
  | _ => none
/-- the flat items ahead -/
def preK : List D → List KA
  | [] => []
  | d :: l => match flatK d with
    | some k => k :: preK l
    | none => []
/-- what a value is sorted by -/
def keyD : D → List KA
  | .int i => [.inl i]
  | .str x => [.inr x.cps.toList]
  | .tup l => preK l
  | .con l => preK l
  | _ => []
def kindK : D → Nat
  | .int _ => 0
  | .str _ => 1
  | .tup _ => 2
  | .con _ => 2
  | _ => 3
def fullD : D → Bool
  | .tup l => (preK l).length == l.length
  | .con l => (preK l).length == l.length
  | _ => true
def isR : KA → Bool
  | .inl _ => false
  | .inr _ => true
def shK (l : List KA) : List Bool := l.map isR
/-- no two alike -/
def nodupB : List (List KA) → Bool
  | [] => true
  | k :: l => (l.all fun q => !decide (q = k)) && nodupB l
/-- these may be compared with one another -/
def okSort (l : List D) : Bool := match l with
  | [] => true
  | d :: _ => decide (kindK d < 3) && !(keyD d).isEmpty && l.all (fun e => kindK e == kindK d && shK (keyD e) == shK (keyD d)) && (l.all fullD || nodupB (l.map keyD))
section
variable {α : Type}
/-- x put ahead of those that are not less (x stood ahead of them) -/
def insBy (k : α → List KA) (x : α) : List α → List α
  | [] => [x]
  | y :: l => if ltKA (k y) (k x) = true then y :: insBy k x l else x :: y :: l
def sortBy (k : α → List KA) : List α → List α
  | [] => []
  | x :: l => insBy k x (sortBy k l)
end
def sortK (l : List D) : Option (List D) := if okSort l = true then some (sortBy keyD l) else none
example : (sortK [.tup [.int 2, .str "a"], .tup [.int 1, .str "b"], .tup [.int 1, .str "a"]]).map (·.map keyD) = some [[.inl 1, .inr [97]], [.inl 1, .inr [98]], [.inl 2, .inr [97]]] := by decide +kernel
/-! ### the sort is sorted, and stable -/
section
variable {α β : Type} {k : α → List KA}
abbrev ltBy (k : α → List KA) (x y : α) : Bool := ltKA (k x) (k y)
theorem swo_by (k : α → List KA) : SrtO.Swo (ltBy k) := by
  refine ⟨fun x y h => ?_, fun x y z h1 h2 => ?_⟩
  · cases q : ltBy k y x with
    | false => rfl
    | true =>
      have := lex_trans (O := itemOrd) _ _ _ h q
      rw [lex_irrefl] at this
      cases this
  · cases q : ltBy k z x with
    | false => rfl
    | true =>
      rcases lex_negTrans (O := itemOrd) _ (k y) _ q with z | z
      · exact absurd (z.symm.trans h2) (by decide)
      · exact absurd (z.symm.trans h1) (by decide)
theorem insBy_perm (x : α) : ∀ l : List α, (insBy k x l).Perm (x :: l)
  | [] => .refl _
  | y :: l => by
    unfold insBy
    split
    · exact ((insBy_perm x l).cons y).trans (List.Perm.swap x y l)
    · exact .refl _
theorem sortBy_perm : ∀ l : List α, (sortBy k l).Perm l
  | [] => .refl _
  | x :: l => (insBy_perm x _).trans ((sortBy_perm l).cons x)
theorem insBy_srtd (x : α) : ∀ {l : List α}, SrtO.Srtd (ltBy k) l → SrtO.Srtd (ltBy k) (insBy k x l)
  | [], _ => List.pairwise_singleton _ _
  | y :: l, h => by
    have hh := List.pairwise_cons.mp h
    unfold insBy
    split
    · rename_i hlt
      refine List.pairwise_cons.mpr ⟨fun z hz => ?_, insBy_srtd x hh.2⟩
      rcases List.mem_cons.mp ((insBy_perm x l).mem_iff.mp hz) with e | e
      · rw [e]
        exact (swo_by k).asym _ _ hlt
      · exact hh.1 z e
    · rename_i hlt
      have hlt : ltBy k y x = false := by simpa using hlt
      refine List.pairwise_cons.mpr ⟨fun z hz => ?_, h⟩
      rcases List.mem_cons.mp hz with e | e
      · rw [e]
        exact hlt
      · exact (swo_by k).tr x y z hlt (hh.1 z e)
theorem sortBy_srtd : ∀ l : List α, SrtO.Srtd (ltBy k) (sortBy k l)
  | [] => List.Pairwise.nil
  | x :: l => insBy_srtd x (sortBy_srtd l)
theorem insBy_stb (x : α) : ∀ l : List α, SrtO.Stb (ltBy k) (insBy k x l) (x :: l)
  | [] => .refl _
  | y :: l => by
    unfold insBy
    split
    · rename_i hlt
      refine ⟨((insBy_perm x l).cons y).trans (List.Perm.swap x y l), fun z => ?_⟩
      have ih := (insBy_stb x l).cls z
      rw [List.filter_cons, ih, List.filter_cons, List.filter_cons, List.filter_cons]
      by_cases h1 : SrtO.eqv (ltBy k) z y = true
      · by_cases h2 : SrtO.eqv (ltBy k) z x = true
        · exfalso
          obtain ⟨a1, a2⟩ := SrtO.eqv_iff.mp h1
          obtain ⟨b1, b2⟩ := SrtO.eqv_iff.mp h2
          have := (swo_by k).tr x z y b1 a2
          exact absurd (this.symm.trans hlt) (by decide)
        · simp only [h1, h2, if_true]
          rfl
      · simp only [h1]
        rfl
    · exact .refl _
theorem sortBy_stb : ∀ l : List α, SrtO.Stb (ltBy k) (sortBy k l) l
  | [] => .refl _
  | x :: l => by
    refine (insBy_stb x _).trans ⟨(sortBy_perm l).cons x, fun z => ?_⟩
    rw [List.filter_cons, List.filter_cons, (sortBy_stb l).cls z]
theorem insBy_map (f : β → α) (x : β) : ∀ l : List β, insBy k (f x) (l.map f) = (insBy (fun b => k (f b)) x l).map f
  | [] => rfl
  | y :: l => by
    rw [List.map_cons]
    unfold insBy
    split
    · rw [insBy_map f x l]
      rfl
    · rfl
theorem sortBy_map (f : β → α) : ∀ l : List β, sortBy k (l.map f) = (sortBy (fun b => k (f b)) l).map f
  | [] => rfl
  | x :: l => by
    rw [List.map_cons]
    unfold sortBy
    rw [sortBy_map f l, insBy_map]
theorem insBy_congr {k' : α → List KA} {x : α} (hx : k x = k' x) : ∀ {l : List α}, (∀ y ∈ l, k y = k' y) → insBy k x l = insBy k' x l
  | [], _ => rfl
  | y :: l, h => by
    unfold insBy
    rw [hx, h y (List.mem_cons_self ..), insBy_congr hx fun z hz => h z (List.mem_cons_of_mem _ hz)]
theorem sortBy_congr {k' : α → List KA} : ∀ {l : List α}, (∀ y ∈ l, k y = k' y) → sortBy k l = sortBy k' l
  | [], _ => rfl
  | x :: l, h => by
    unfold sortBy
    have e := sortBy_congr (l := l) (fun y hy => h y (List.mem_cons_of_mem x hy))
    rw [← e]
    exact insBy_congr (h x (List.mem_cons_self ..)) fun y hy => h y (List.mem_cons_of_mem _ ((sortBy_perm l).mem_iff.mp hy))
/-- it is the one -/
theorem sortBy_one {l m : List α} (h1 : SrtO.Srtd (ltBy k) l) (h2 : SrtO.Stb (ltBy k) l m) : l = sortBy k m := by
  have s := sortBy_stb (k := k) m
  exact SrtO.stb_uniq (swo_by k) h1 (sortBy_srtd m) ⟨h2.perm.trans s.perm.symm, fun x => (h2.cls x).trans (s.cls x).symm⟩
end
/-! ### what stands in a heap is sorted by -/
def flatU : Value → Option KA
  | .int i _ => some (.inl i)
  | .str x _ => some (.inr x.cps.toList)
  | _ => none
def preU : List Value → List KA
  | [] => []
  | d :: l => match flatU d with
    | some k => k :: preU l
    | none => []
def keyU (h : Heap) : Value → List KA
  | .int i _ => [.inl i]
  | .str x _ => [.inr x.cps.toList]
  | .ref a => (match h.get? a with
    | some o => (match o.data with
      | .seq its _ => preU its.toList
      | _ => [])
    | none => [])
  | _ => []
def fullU (h : Heap) : Value → Bool
  | .ref a => (match h.get? a with
    | some o => (match o.data with
      | .seq its _ => (preU its.toList).length == its.size
      | _ => true)
    | none => true)
  | _ => true
section
variable {prog : Program} {w : World} {A : Around} {E : Value → Shared → Prop} {s : Shared}
theorem kat_eqv {b fin : Bool} {Q : Bool → Shared → Prop} : ∀ (ps : List Value) (i : Nat), Q fin s → PySem.W.KatLex prog w A b fin Q (ps.zip ps) i s
  | [], _, h => h
  | p :: ps, i, h => PySem.W.kat_cons (SeqAt.EqAt.same p prog w _ _ (PySem.W.kat_yes (kat_eqv ps (i + 1) h)))
theorem lex_self2 {x : KA} {a b : List KA} : ltKA (x :: a) (x :: b) = ltKA a b := lex_self (O := itemOrd) x a b
theorem lex_diff2 {x y : KA} {a b : List KA} (h : x ≠ y) : ltKA (x :: a) (y :: b) = itemLt x y := lex_diff (O := itemOrd) h
/-- two tuples whose flat items ahead tell them apart, or all are flat -/
theorem kat_pre {b fin : Bool} {Q : Bool → Shared → Prop} : ∀ (ps qs : List Value) (i : Nat), shK (preU ps) = shK (preU qs) → ((preU ps).length = ps.length ∧ (preU qs).length = qs.length ∨ preU ps ≠ preU qs) → fin = decide (ps.length < qs.length) → Q (ltKA (preU ps) (preU qs)) s →
    PySem.W.KatLex prog w A b fin Q (ps.zip qs) i s
  | [], [], i, hs, hd, hf, h => by
    subst hf
    exact PySem.W.kat_nil h
  | [], q :: qs, i, hs, hd, hf, h => by
    subst hf
    unfold preU at hs hd h
    cases hq : flatU q with
    | none =>
      rw [hq] at hd
      rcases hd with ⟨_, z⟩ | z
      · exact absurd z (by simp)
      · exact absurd rfl z
    | some k =>
      rw [hq] at hs
      cases hs
  | p :: ps, [], i, hs, hd, hf, h => by
    subst hf
    unfold preU at hs hd h
    cases hq : flatU p with
    | none =>
      rw [hq] at hd
      rcases hd with ⟨z, _⟩ | z
      · exact absurd z (by simp)
      · exact absurd rfl z
    | some k =>
      rw [hq] at hs
      cases hs
  | p :: ps, q :: qs, i, hs, hd, hf, h => by
    have hf' : fin = decide (ps.length < qs.length) := by
      rw [hf, List.length_cons, List.length_cons]
      simp
    unfold preU at hs hd h
    cases hp : flatU p with
    | none =>
      rw [hp] at hd hs
      cases hq : flatU q with
      | none =>
        rw [hq] at hd
        rcases hd with ⟨z, _⟩ | z
        · exact absurd z (by simp)
        · exact absurd rfl z
      | some k =>
        rw [hq] at hs
        cases hs
    | some k =>
      rw [hp] at hd hs h
      cases hq : flatU q with
      | none =>
        rw [hq] at hs
        cases hs
      | some k2 =>
        rw [hq] at hd hs h
        have hs : (_ :: shK (preU ps)) = (_ :: shK (preU qs)) := hs
        obtain ⟨hs1, hs2⟩ := List.cons.inj hs
        have hd' : k = k2 → ((preU ps).length = ps.length ∧ (preU qs).length = qs.length ∨ preU ps ≠ preU qs) := fun e => by
          rcases hd with ⟨z1, z2⟩ | z
          · exact .inl ⟨by simpa using z1, by simpa using z2⟩
          · exact .inr fun e2 => z (by simp [e, e2])
        cases p <;> simp only [flatU] at hp <;> first | (cases hp; done) | skip
        · rename_i a t
          cases hp
          cases q <;> simp only [flatU] at hq <;> first | (cases hq; done) | skip
          · rename_i c u
            cases hq
            refine PySem.W.kat_cons (SeqAt.EqAt.int_int a t c u prog w _ _ ?_)
            refine PySem.W.kat_go (fun e1 => ?_) (fun e1 => ?_)
            · have ex : a = c := by simpa using e1
              subst ex
              rw [lex_self2] at h
              exact PySem.W.kat_yes (kat_pre ps qs (i + 1) hs2 (hd' rfl) hf' h)
            · have ex : a ≠ c := by simpa using e1
              rw [lex_diff2 (by simpa using ex)] at h
              exact PySem.W.kat_no (oneLt_any_int h)
          · cases hq
            cases hs1
        · rename_i a t
          cases hp
          cases q <;> simp only [flatU] at hq <;> first | (cases hq; done) | skip
          · cases hq
            cases hs1
          · rename_i c u
            cases hq
            refine PySem.W.kat_cons (SeqAt.EqAt.str_str a t c u prog w _ _ ?_)
            refine PySem.W.kat_go (fun e1 => ?_) (fun e1 => ?_)
            · have ex : a = c := by simpa using e1
              subst ex
              rw [lex_self2] at h
              exact PySem.W.kat_yes (kat_pre ps qs (i + 1) hs2 (hd' rfl) hf' h)
            · have ex : a ≠ c := by simpa using e1
              rw [lex_diff2 (fun z => ex (by
                cases a
                cases c
                have := Sum.inr.inj z
                have := Array.toList_inj.mp this
                simpa using this))] at h
              exact PySem.W.kat_no (oneLt_any_str h)
end
end AL
set_option Elab.async false
set_option linter.all false
set_option maxRecDepth 100000
set_option maxHeartbeats 2000000
/-! AL3: the evaluator over the syntax. -/
namespace AL
open PySem PySem.Spec PyProof.Rows L2
abbrev ME := Sl → S → R D
abbrev MT := Sl → S → R Bool
abbrev MS := Sl → S → RS
abbrev MG := D → Sl → S → R Sl
/-- the evaluator of the parts -/
structure Ev where
  e : Scope → Expr → ME
  t : Scope → Expr → MT
  st : Scope → Stmt → MS
  /-- the bodies of lambdas -/
  l : Scope → Expr → ME
  /-- .. as tests -/
  lt : Scope → Expr → MT
/-- a def's surroundings -/
structure Cfg where
  N : List Str
  gl : Str → Option D
  own : Str → Bool
  call : Str → List D → S → R D
  isC : Str → Bool
  new : Str → List D → S → R D
  meth : Str → Str → Option (List D → S → R D)
  attr : Str → Str → Bool
  exc : Str → Bool
  sub : Str → Str → Bool
  chg : Nat → Nat → Bool
  tkd : Nat → Nat → Bool
  fuel : Nat
  /-- how deep lambdas may stand in one another -/
  lam : Nat
  /-- what the def makes: 1 lambdas, 2 generator expressions -/
  tb : Nat
  /-- the highest level of the defs that are called -/
  lvl : Nat
def starB : Expr → Bool
  | .Starred _ _ => true
  | _ => false
def superB : Expr → Bool
  | .Call (.Name id _) [] [] _ => id == ("super" : Str)
  | _ => false
def sliceB : Expr → Bool
  | .Slice _ _ none _ => true
  | _ => false
def atM (f : Str) : D → S → R D := fun x s => match getAt x f s with
  | some d => .ok d s
  | none => .bad
def ixM : D → D → S → R D := fun x y s => match getIx x y s with
  | some d => .ok d s
  | none => .bad
def okN (x : Str) : Bool := !(x == ("__debug__" : Str)) && !(x == ("__classdict__" : Str))
def badE : ME := fun _ _ => .bad
def badT : MT := fun _ _ => .bad
def badS : MS := fun _ _ => .bad
def ixN (N : List Str) (x : Str) : Option Nat := N.findIdx? fun y => decide (y = x)
def slot (i : Nat) : ME := fun sl s => match sl[i]? with
  | some (some d) => .ok d s
  | _ => .bad
def pureE (d : D) : ME := fun _ s => .ok d s
def bin (f : D → D → S → R D) (a b : ME) : ME := fun sl s => (a sl s).bind fun x s1 => (b sl s1).bind fun y s2 => f x y s2
def una (f : D → S → R D) (a : ME) : ME := fun sl s => (a sl s).bind fun x s1 => f x s1
def liftO (f : D → D → S → Option Bool) (x y : D) (s : S) : R D := match f x y s with
  | some b => .ok (.bl b) s
  | none => .bad
def asB : D → S → R Bool
  | .bl b, s => .ok b s
  | _, _ => .bad
def notM : D → S → R D := fun d s => match d with
  | .bl b => .ok (.bl !b) s
  | _ => .bad
def negM : D → S → R D := fun d s => match d with
  | .int i => .ok (.int (-i)) s
  | _ => .bad
def truM (m : ME) : MT := fun sl s => (m sl s).bind fun d s1 => match truthD d s1 with
  | some b => .ok b s1
  | none => .bad
/-- expressions from the left -/
def many (f : Expr → ME) : List Expr → Sl → S → R (List D)
  | [], _, s => .ok [] s
  | e :: es, sl, s => (f e sl s).bind fun d s1 => (many f es sl s1).bind fun ds s2 => .ok (d :: ds) s2
/-- and, or as tests -/
def andT (f : Expr → MT) : List Expr → MT
  | [], _, _ => .bad
  | [a], sl, s => f a sl s
  | a :: l, sl, s => (f a sl s).bind fun b s1 => if b = true then andT f l sl s1 else .ok false s1
def orT (f : Expr → MT) : List Expr → MT
  | [], _, _ => .bad
  | [a], sl, s => f a sl s
  | a :: l, sl, s => (f a sl s).bind fun b s1 => if b = true then .ok true s1 else orT f l sl s1
/-- .. as values -/
def andV (f : Expr → ME) : List Expr → ME
  | [], _, _ => .bad
  | [a], sl, s => f a sl s
  | a :: l, sl, s => (f a sl s).bind fun d s1 => (asB d s1).bind fun b s2 => if b = true then andV f l sl s2 else .ok (.bl false) s2
def orV (f : Expr → ME) : List Expr → ME
  | [], _, _ => .bad
  | [a], sl, s => f a sl s
  | a :: l, sl, s => (f a sl s).bind fun d s1 => (asB d s1).bind fun b s2 => if b = true then .ok (.bl true) s2 else orV f l sl s2
def setB : Expr → Bool
  | .Set _ _ _ => true
  | _ => false
def cmpM (op : CmpOp) : D → D → S → R Bool := fun x y s => match cmpOp op x y s with
  | some b => .ok b s
  | none => .bad
/-- one comparison, two in a row -/
def chain (f : Expr → ME) : List CmpOp → Expr → List Expr → Sl → S → R Bool
  | [op], a, [b], sl, s => if setB b = true then .bad else (f a sl s).bind fun x s1 => (f b sl s1).bind fun y s2 => cmpM op x y s2
  | [op, op'], a, [b, c], sl, s => if setB b = true ∨ setB c = true then .bad else (f a sl s).bind fun x s1 => (f b sl s1).bind fun y s2 => (cmpM op x y s2).bind fun k s3 =>
    if k = true then (f c sl s3).bind fun z s4 => cmpM op' y z s4 else .ok false s3
  | _, _, _, _, _ => .bad
def lockS (i : Nat) (s : S) : S := if s.lk.contains i then s else { s with lk := i :: s.lk }
/-- what d gives to a walk, and the state in which it is walked -/
def lkOf (d : D) (s : S) : S := match d with
  | .ref i => lockS i s
  | _ => s
def walk (d : D) (s : S) : Option (List D × S) := match d.view s with
  | .lst l => some (l, lkOf d s)
  | .tup l => some (l, s)
  | .str x => some (chars x, s)
  | .dk l => some (l.map fun p => kD p.1, lkOf d s)
  | .dt _ => none
  | _ => none
/-- a dict is under the lock -/
def dkL (s0 s1 : S) : Bool := !(s0.lk == s1.lk) && (match s1.lk with
  | i :: _ => (match s1.st[i]? with
    | some (.dk _) => true
    | some (.dt _) => true
    | _ => false)
  | [] => false)
/-- .. of a dict's values, its pairs -/
def walkBy (f : D → Option (List D)) (d : D) (s : S) : Option (List D × S) := match f (d.view s) with
  | none => none
  | some l => match d with
    | .ref i => some (l, lockS i s)
    | _ => some (l, s)
def seqL (d : D) : Option (List D) := match d with
  | .lst l => some l
  | .tup l => some l
  | _ => none
/-- behind a walk: s0 the state ahead of it, s1 the one in which it was walked -/
def unlk (s0 s1 : S) {α : Type} : R α → R α
  | .ok a s => if s.lk = s1.lk then .ok a { s with lk := s0.lk } else .bad
  | .err x s => if s.lk = s1.lk then .err x { s with lk := s0.lk } else .bad
  | .bad => .bad
def unlkS (s0 s1 : S) : RS → RS
  | .nx sl s => if s.lk = s1.lk then .nx sl { s with lk := s0.lk } else .bad
  | .rt d s => if s.lk = s1.lk then .rt d { s with lk := s0.lk } else .bad
  | .bk sl s => if s.lk = s1.lk then .bk sl { s with lk := s0.lk } else .bad
  | .ct sl s => if s.lk = s1.lk then .ct sl { s with lk := s0.lk } else .bad
  | .er x sl s => if s.lk = s1.lk ∧ dkL s0 s1 = false then .er x sl { s with lk := s0.lk } else .bad
  | .bad => .bad
/-- no exception may leave -/
def R.noErr {α : Type} : R α → R α
  | .err _ _ => .bad
  | r => r
/-- a comprehension's turns -/
def compL (g : MG) (t : MT) (e : ME) (sl : Sl) : List D → S → R (List D)
  | [], s => .ok [] s
  | x :: xs, s => (g x sl s).noErr.bind fun sl1 s1 => (t sl1 s1).noErr.bind fun b s2 =>
    if b = true then (e sl1 s2).noErr.bind fun d s3 => if s3.lk = s.lk then (compL g t e sl xs s3).bind fun r s4 => .ok (d :: r) s4 else .bad
    else if s2.lk = s.lk then compL g t e sl xs s2 else .bad
/-- the next item that a generator hands out -/
def gnext (g : MG) (t : MT) (e : ME) (sl : Sl) : List D → S → R (Option (D × List D))
  | [], s => .ok none s
  | x :: xs, s => (g x sl s).noErr.bind fun sl1 s1 => (t sl1 s1).noErr.bind fun b s2 =>
    if b = true then (e sl1 s2).noErr.bind fun d s3 => if s3.lk = s.lk then .ok (some (d, xs)) s3 else .bad
    else if s2.lk = s.lk then gnext g t e sl xs s2 else .bad
/-- any, all: kk ends it -/
def anyG (kk : Bool) (g : MG) (t : MT) (e : ME) (sl : Sl) : Nat → List D → S → R D
  | 0, _, _ => .bad
  | n + 1, l, s => match gnext g t e sl l s with
    | .ok none s1 => .ok (.bl !kk) s1
    | .ok (some (.bl b, xs)) s1 => if b = kk then .ok (.bl kk) s1 else anyG kk g t e sl n xs s1
    | _ => .bad
def longB (i : Int) : Bool := decide (-(2 ^ 63) ≤ i) && decide (i < 2 ^ 63)
def sumG (g : MG) (t : MT) (e : ME) (sl : Sl) : Nat → Int → List D → S → R D
  | 0, _, _, _ => .bad
  | n + 1, a, l, s => match gnext g t e sl l s with
    | .ok none s1 => .ok (.int a) s1
    | .ok (some (.int i, xs)) s1 => if (longB i && longB (a + i)) = true then sumG g t e sl n (a + i) xs s1 else .bad
    | _ => .bad
/-- targets -/
def gName (i : Nat) : MG := fun d sl s => .ok (sl.set i (some d)) s
def gMany (f : Expr → MG) : List Expr → List D → Sl → S → R Sl
  | [], [], sl, s => .ok sl s
  | e :: es, d :: ds, sl, s => (f e d sl s).bind fun sl1 s1 => gMany f es ds sl1 s1
  | _, _, _, _ => .bad
def unpackD (d : D) (s : S) : Option (List D) := match d.view s with
  | .tup l => some l
  | _ => none
def gTup (f : Expr → MG) (es : List Expr) : MG := fun d sl s => match unpackD d s with
  | some l => gMany f es l sl s
  | none => .bad
def unitR (sl : Sl) : R Unit → R Sl
  | .ok _ s => .ok sl s
  | .err x s => .err x s
  | .bad => .bad
def wipeS (sl : Sl) : List Nat → Sl
  | [] => sl
  | v :: vs => (wipeS sl vs).set v none
/-- the own names of a comprehension's scope -/
def ownP (N : List Str) (sc : Scope) : List (Str × Nat) := sc.names.filterMap fun p => match p.2 with
  | .local => (ixN N p.1).map fun i => (p.1, i)
  | .cell => (ixN N p.1).map fun i => (p.1, i)
  | _ => none
def ownN (N : List Str) (sc : Scope) : List Nat := (ownP N sc).map (·.2)
def exSub (c : Cfg) (x : Ex) (C : Str) : Bool := c.sub x.cls C
def exD (x : Ex) : D := .obj x.cls (match x.row with
  | some r => [("row", r)]
  | none => [])
/-- what is said of a caught one: the first that it is under -/
def toldIn (sub : Str → Str → Bool) (x : Str) : List (Str × Str) → Option Str
  | [] => none
  | p :: l => if sub x p.1 = true then some p.2 else toldIn sub x l
def toldL : List (Str × Str) := [("BadSize", "size"), ("BadLamp", "lamp"), ("BadPlan", "plan"), ("NoSuch", "no such"), ("NoRoom", "no room"), ("NoWay", "no way"), ("BadText", "text"), ("BadDeed", "deed")]
def excN : List Str := ["LampFault", "BadSize", "BadLamp", "BadPlan", "NoSuch", "NoRoom", "NoWay", "BadText", "BadDeed"]
def toldM (c : Cfg) (m : ME) : ME := fun sl s => match m sl s with
  | .err x s1 => if c.exc x.cls = true then (match toldIn c.sub x.cls toldL with
    | some t => .ok (.str t) s1
    | none => .bad) else .bad
  | r => r
/-- statements in a row -/
def runs (f : Stmt → MS) : List Stmt → MS
  | [], sl, s => .nx sl s
  | a :: l, sl, s => match f a sl s with
    | .nx sl1 s1 => runs f l sl1 s1
    | r => r
def forL (g : MG) (b : MS) : List D → MS
  | [], sl, s => .nx sl s
  | x :: xs, sl, s => (g x sl s).sbind sl fun sl1 s1 => match b sl1 s1 with
    | .nx sl2 s2 => forL g b xs sl2 s2
    | .ct sl2 s2 => forL g b xs sl2 s2
    | .bk sl2 s2 => .nx sl2 s2
    | r => r
/-- .. with an else -/
def forE (g : MG) (b o : MS) : List D → MS
  | [], sl, s => o sl s
  | x :: xs, sl, s => (g x sl s).sbind sl fun sl1 s1 => match b sl1 s1 with
    | .nx sl2 s2 => forE g b o xs sl2 s2
    | .ct sl2 s2 => forE g b o xs sl2 s2
    | .bk sl2 s2 => .nx sl2 s2
    | r => r
def whileL (t : MT) (b : MS) : Nat → MS
  | 0, _, _ => .bad
  | n + 1, sl, s => (t sl s).sbind sl fun c s1 => if c = true then (match b sl s1 with
      | .nx sl2 s2 => whileL t b n sl2 s2
      | .ct sl2 s2 => whileL t b n sl2 s2
      | .bk sl2 s2 => .nx sl2 s2
      | r => r) else .nx sl s1
/-- the made object, if it may change, into the store -/
def made (c : Cfg) (p : Pos) (d : D) (s : S) : R D := if c.chg p.line p.col then (match d.cell with
  | some q => alloc q s
  | none => .bad) else .ok d s
/-- a display's pairs -/
def dispM (f : Expr → ME) : List Expr → List Expr → Sl → S → R (List (Key × D))
  | [], [], _, s => .ok [] s
  | k :: ks, v :: vs, sl, s => (f k sl s).bind fun x s1 => (f v sl s1).bind fun y s2 => (match x.key with
    | some q => (dispM f ks vs sl s2).bind fun r s3 => .ok ((q, y) :: r) s3
    | none => .bad)
  | _, _, _, _ => .bad
def partE (f : Expr → ME) : Option Expr → Sl → S → R (Option Int)
  | none, _, s => .ok none s
  | some e, sl, s => (f e sl s).bind fun d s1 => (match d with
    | .int i => .ok (some i) s1
    | _ => .bad)
/-- all keys -/
def keysL (f : D → S → R D) : List D → S → R (List (D × D))
  | [], s => .ok [] s
  | d :: l, s => (f d s).noErr.bind fun k s1 => (keysL f l s1).bind fun r s2 => .ok ((k, d) :: r) s2
/-- the least, the first of like ones -/
def minK : D × D → List (D × D) → D × D
  | x, [] => x
  | x, y :: l => if ltKA (keyD y.1) (keyD x.1) = true then minK y l else minK x l
def maxK : D × D → List (D × D) → D × D
  | x, [] => x
  | x, y :: l => if ltKA (keyD x.1) (keyD y.1) = true then maxK y l else maxK x l
/-- what a walk is over -/
inductive IK where
  | val | rng (args : List Expr) | enm (a : Expr) | rev (a : Expr) | zp (a b : Expr) | vals (o : Expr) | itms (o : Expr) | no
def glN0 (sc : Scope) (f : Str) : Bool := okN f && decide (sc.names.lookup f = some .globalImplicit)
/-- tgT: the target is a tuple -/
def itK (own : Str → Bool) (sc : Scope) (tgT : Bool) : Expr → IK
  | .Call (.Name g _) args [] _ => if own g = true then .val else if g = ("range" : Str) then (if glN0 sc g = true ∧ args.any starB = false then .rng args else .no)
    else if g = ("enumerate" : Str) ∨ g = ("reversed" : Str) ∨ g = ("zip" : Str) then .no else .val
  | .Call (.Attribute o m apos) [] [] cpos => if m = ("values" : Str) then (if (apos.endLine == cpos.line) = true ∧ superB o = false then .vals o else .no)
    else if m = ("items" : Str) then (if (apos.endLine == cpos.line) = true ∧ superB o = false ∧ tgT = true then .itms o else .no) else .val
  | .Set _ _ _ => .no
  | _ => .val
def walkV (d : D) (s : S) : Option (List D × S) := match d.view s with
  | .dk l => some (l.map fun p => p.2, lkOf d s)
  | _ => none
def walkI (d : D) (s : S) : Option (List D × S) := match d.view s with
  | .dk l => some (l.map fun p => .tup [kD p.1, p.2], lkOf d s)
  | _ => none
def tupB : Expr → Bool
  | .Tuple _ _ _ => true
  | _ => false
/-- what a walk over e gives: the items, the state in which they are walked; and the state after e -/
def itM (own : Str → Bool) (sc : Scope) (f : Expr → ME) (tgT : Bool) (e : Expr) (sl : Sl) (s : S) : R (List D × S) := match itK own sc tgT e with
  | .val => (f e sl s).bind fun d s1 => R.of s1 (walk d s1)
  | .rng args => (many f args sl s).bind fun ds s1 => R.of s1 ((rangeD ds).map fun l => (l, s1))
  | .vals o => (f o sl s).bind fun d s1 => R.of s1 (walkV d s1)
  | .itms o => (f o sl s).bind fun d s1 => R.of s1 (walkI d s1)
  | _ => .bad
/-- .. of the kind that is no value by itself -/
def isIt (own : Str → Bool) : Expr → Bool
  | .Call (.Name g _) _ [] _ => !own g && (g = ("range" : Str) || g = ("enumerate" : Str) || g = ("reversed" : Str) || g = ("zip" : Str))
  | .Call (.Attribute _ m _) [] [] _ => m = ("values" : Str) || m = ("items" : Str)
  | _ => false
def tests (p : Ev) (sc : Scope) : List Expr → MT
  | [] => fun _ s => .ok true s
  | [a] => p.t sc a
  | _ => badT
/-- targets of a comprehension: names, and tuples of such -/
def gC (N : List Str) (sc : Scope) : Nat → Expr → MG
  | 0, _ => fun _ _ _ => .bad
  | n + 1, .Name x _ => (match sc.names.lookup x with
    | some .local => (match ixN N x with
      | some i => gName i
      | none => fun _ _ _ => .bad)
    | some .cell => (match ixN N x with
      | some i => gName i
      | none => fun _ _ _ => .bad)
    | _ => fun _ _ _ => .bad)
  | n + 1, .Tuple es _ _ => if es.any starB = true then fun _ _ _ => .bad else gTup (gC N sc n) es
  | _, _ => fun _ _ _ => .bad
def testsL (p : Ev) (sc : Scope) : List Expr → MT
  | [] => fun _ s => .ok true s
  | [a] => p.lt sc a
  | _ => badT
/-- a generator's scope: names of its own, captured ones, globals -/
def genSB (sc gsc : Scope) : Bool :=
  decide (gsc.kind = .function) && !gsc.isCoroutine && decide (gsc.names.lookup (".0" : Str) = some NameKind.local) && gsc.names.all fun y => !decide (y.2 = .cell) && (!decide (y.2 = .free) || decide (sc.names.lookup y.1 = some .cell) || decide (sc.names.lookup y.1 = some .free))
def dispB : Expr → Bool
  | .Set _ _ _ => true
  | .List _ _ => true
  | _ => false
/-- what takes in a generator -/
def genC (k : Str) (g : MG) (t : MT) (e : ME) (sl : Sl) (l : List D) (s : S) : R D := if k = ("sum" : Str) then sumG g t e sl (l.length + 1) 0 l s else anyG (decide (k = ("any" : Str))) g t e sl (l.length + 1) l s
def genM (c : Cfg) (p : Ev) (sc : Scope) (k : Str) (elt tg iter : Expr) (ifs : List Expr) (gsc : Scope) : ME := fun sl s =>
  (itM c.own sc (p.e sc) (tupB tg) iter sl s).bind fun ls s1 => unlk s1 ls.2 (genC k (gC c.N gsc 4 tg) (testsL p gsc ifs) (p.l gsc elt) (wipeS sl (ownN c.N gsc)) ls.1 ls.2)
def listM (c : Cfg) (p : Ev) (sc : Scope) (elt tg iter : Expr) (ifs : List Expr) (csc : Scope) : Sl → S → R (List D) := fun sl s =>
  if blkC c.N sc csc (ownP c.N csc) = true then (itM c.own sc (p.e sc) (tupB tg) iter sl s).bind fun ls s1 =>
    unlk s1 ls.2 (compL (gC c.N csc 4 tg) (tests p (relS csc sc) ifs) (p.e (relS csc sc) elt) (wipeS sl (ownN c.N csc)) ls.1 ls.2) else .bad
def gEv (c : Cfg) (p : Ev) (sc : Scope) : Nat → Expr → MG
  | 0, _ => fun _ _ _ => .bad
  | n + 1, .Name x _ => (match sc.names.lookup x with
    | some .local => (match ixN c.N x with
      | some i => gName i
      | none => fun _ _ _ => .bad)
    | some .cell => (match ixN c.N x with
      | some i => gName i
      | none => fun _ _ _ => .bad)
    | _ => fun _ _ _ => .bad)
  | n + 1, .Tuple es _ _ => if es.any starB = true then fun _ _ _ => .bad else gTup (gEv c p sc n) es
  | n + 1, .Attribute o f _ => fun d sl s => (p.e sc o sl s).noErr.bind fun x s1 => unitR sl (setAt c.attr x f d s1)
  | n + 1, .Subscript o k _ => if sliceB k = true then fun _ _ _ => .bad else fun d sl s => (p.e sc o sl s).noErr.bind fun x s1 => (p.e sc k sl s1).noErr.bind fun y s2 => unitR sl (setIx x y d s2)
  | _, _ => fun _ _ _ => .bad
def callOk (o : Expr) (apos pos : Pos) (args : List Expr) : Bool := !superB o && (apos.endLine == pos.line) && !(args.any starB) && decide (args.length < 30)
/-- a name of the module or of the built-ins -/
def glN (sc : Scope) (f : Str) : Bool := okN f && decide (sc.names.lookup f = some .globalImplicit)
/-- the method m of a viewed value -/
def methOf (c : Cfg) (y : D) (m : Str) : Option (D → List D → S → R D) := match y with
  | .obj C _ => (c.meth C m).map fun g x ds s => g (x :: ds) s
  | .lst _ => methL m
  | .dk _ => methK m
  | .dt _ => methK m
  | .str _ => methS m
  | _ => none
/-- the plain road of a call of a name -/
def callP (c : Cfg) (p : Ev) (sc : Scope) (f : Str) (args : List Expr) (pos : Pos) : ME := if glN sc f = false then badE else
  if args.any starB = true then badE else if c.own f then fun sl s => (many (p.e sc) args sl s).bind fun ds s1 => c.call f ds s1
      else if c.isC f then fun sl s => (many (p.e sc) args sl s).bind fun ds s1 => c.new f ds s1
      else if args.any (isIt c.own) then badE
      else if args.isEmpty then badE
      else (match bltF f with
        | some g => fun sl s => (many (p.e sc) args sl s).bind fun ds s1 => (g ds s1).bind fun d s2 => made c pos d s2
        | none => badE)
/-- what a built-in takes in -/
def takeD (d : D) (s : S) : Option (List D) := match d.view s with
  | .lst l => some l
  | .tup l => some l
  | .dk l => some (l.map fun p => kD p.1)
  | _ => none
def srcM (own : Str → Bool) (sc : Scope) (f : Expr → ME) (a : Expr) (sl : Sl) (s : S) : R (List D) := match itK own sc true a with
  | .val => (f a sl s).bind fun d s1 => R.of s1 (takeD d s1)
  | .vals o => (f o sl s).bind fun d s1 => R.of s1 ((walkV d s1).map (·.1))
  | .itms o => (f o sl s).bind fun d s1 => R.of s1 ((walkI d s1).map (·.1))
  | _ => .bad
def sortR (b : Bool) (l : List D) : Option (List D) := if okSort l = true then some (if b = true then (sortBy keyD l.reverse).reverse else sortBy keyD l) else none
def sortM (c : Cfg) (p : Ev) (sc : Scope) (b : Bool) (a : Expr) (pos : Pos) : ME := fun sl s => (srcM c.own sc (p.e sc) a sl s).bind fun l s1 => (match sortR b l with
  | some q => made c pos (.lst q) s1
  | none => .bad)
/-- lo, lo + c, .. -/
def stepL (lo c : Int) (n : Nat) : List D := (List.range n).map fun (i : Nat) => .int (lo + (i : Int) * c)
def rngC (a b c : Int) : Option (List D) := if 0 < c ∧ c < 1073741824 ∧ -lidN ≤ a ∧ a < lidN ∧ -lidN ≤ b ∧ b < lidN ∧ b - a < 16777216 then some (stepL a c (if a < b then ((b - a - 1) / c + 1).toNat else 0)) else none
def rangeX : List D → Option (List D)
  | [.int n] => rngC 0 n 1
  | [.int a, .int b] => rngC a b 1
  | [.int a, .int b, .int c] => rngC a b c
  | _ => none
/-- range(..) -/
def rngB (c : Cfg) (sc : Scope) : Expr → Bool
  | .Call (.Name g _) (e :: args) [] _ => decide (g = ("range" : Str)) && glN sc g && !c.own g && !c.isC g && !(starB e) && !(args.any starB)
  | _ => false
/-- list(range(..)) -/
def lrgM (c : Cfg) (p : Ev) (sc : Scope) (a : Expr) (pos : Pos) : ME := match a with
  | .Call _ args _ _ => fun sl s => (many (p.e sc) args sl s).bind fun ds s1 => (match rangeX ds with
    | some l => made c pos (.lst l) s1
    | none => .bad)
  | _ => badE
/-- one argument -/
def call1 (c : Cfg) (p : Ev) (sc : Scope) (f : Str) (pos : Pos) : Expr → ME
  | .Lambda ⟨[], [], none, [], [], none, []⟩ body lsc _ => if f = ("_law_told" : Str) ∧ glN sc f = true ∧ c.lam = 1 ∧ c.tb = 1 ∧ LamX.lamSB sc lsc = true then toldM c (p.l lsc body) else badE
  | .Lambda _ _ _ _ => badE
  | .GeneratorExp elt [⟨tg, iter, ifs, 0⟩] gsc _ => if (glN sc f && !c.own f && !c.isC f) = true ∧ (f = ("any" : Str) ∨ f = ("all" : Str) ∨ f = ("sum" : Str)) ∧ c.lam = 1 ∧ c.tb = 2 ∧ genSB sc gsc = true ∧ dispB iter = false then genM c p sc f elt tg iter ifs gsc else badE
  | .GeneratorExp _ _ _ _ => badE
  | a => if f = ("sorted" : Str) ∧ (glN sc f && !c.own f && !c.isC f && !starB a) = true then sortM c p sc false a pos
    else if f = ("list" : Str) ∧ (glN sc f && !c.own f && !c.isC f && rngB c sc a) = true then lrgM c p sc a pos else callP c p sc f [a] pos
/-- a lambda's scope: one parameter, captured names and globals -/
def lamSB1 (sc scope : Scope) (x : Str) : Bool :=
  decide (scope.kind = .function) && !scope.isCoroutine && !scope.isGenerator && decide (scope.names.lookup x = some .local) && scope.names.all fun y => (!decide (y.2 = .local) || decide (y.1 = x)) && !decide (y.2 = .cell) && (!decide (y.2 = .free) || decide (sc.names.lookup y.1 = some .cell) || decide (sc.names.lookup y.1 = some .free))
/-- min by a key -/
def keyM (c : Cfg) (p : Ev) (sc : Scope) (x : Str) (body : Expr) (lsc : Scope) (a : Expr) : ME := fun sl s => match ixN c.N x with
  | some i => (p.e sc a sl s).bind fun d s1 => (match walk d s1 with
    | some ls => unlk s1 ls.2 ((keysL (fun d s => p.l lsc body (sl.set i (some d)) s) ls.1 ls.2).bind fun r s3 => (match r with
      | [] => .bad
      | y :: r => if (okSort ((y :: r).map (·.1)) && ((y :: r).map (·.1)).all fullD) = true then .ok (minK y r).2 s3 else .bad))
    | none => .bad)
  | none => .bad
/-- keywords -/
def callK (c : Cfg) (p : Ev) (sc : Scope) (f : Str) (args : List Expr) (kws : List Keyword) (pos : Pos) : ME := if (glN sc f && !c.own f && !c.isC f) = false then badE else (match kws with
    | [⟨some k, .Lambda ⟨[], [⟨x, _, _⟩], none, [], [], none, []⟩ body lsc _, _⟩] => (match args with
      | [a] => if k = ("key" : Str) ∧ f = ("min" : Str) ∧ c.lam = 1 ∧ c.tb = 1 ∧ lamSB1 sc lsc x = true ∧ starB a = false then keyM c p sc x body lsc a else badE
      | _ => badE)
    | [⟨some k, .Constant (.bool b) _ _, _⟩] => (match args with
      | [a] => if k = ("reverse" : Str) ∧ f = ("sorted" : Str) ∧ starB a = false then sortM c p sc b a pos else badE
      | _ => badE)
    | _ => badE)
def callS (c : Cfg) (p : Ev) (sc : Scope) (f : Str) (args : List Expr) (kws : List Keyword) (pos : Pos) : ME := match kws with
  | [] => (match args with
    | [a] => call1 c p sc f pos a
    | args => callP c p sc f args pos)
  | k :: ks => callK c p sc f args (k :: ks) pos
def stepE (c : Cfg) (p : Ev) (sc : Scope) : Expr → ME
  | .Constant v _ _ => (match v with
    | .none => pureE .non
    | .bool b => pureE (.bl b)
    | .int i => pureE (.int i)
    | .str x => if x.length ≤ 1000 then pureE (.str x) else badE
    | _ => badE)
  | .Name x _ => if okN x = false then badE else (match sc.names.lookup x with
    | some .globalImplicit => (match c.gl x with
      | some d => pureE d
      | none => badE)
    | some .globalExplicit => badE
    | some _ => (match ixN c.N x with
      | some i => slot i
      | none => badE)
    | none => badE)
  | .BinOp a op b pos => bin (fun x y s => (binD op x y s).bind fun d s1 => made c pos d s1) (p.e sc a) (p.e sc b)
  | .UnaryOp .Not a _ => una notM (p.e sc a)
  | .UnaryOp .USub a _ => una negM (p.e sc a)
  | .BoolOp .And vs _ => andV (p.e sc) vs
  | .BoolOp .Or vs _ => orV (p.e sc) vs
  | .Compare a ops bs _ => fun sl s => (chain (p.e sc) ops a bs sl s).bind fun b s2 => .ok (.bl b) s2
  | .IfExp t a b _ => fun sl s => (p.t sc t sl s).bind fun b' s1 => if b' = true then p.e sc a sl s1 else p.e sc b sl s1
  | .Tuple es _ _ => if es.any starB = false ∧ es.length ≤ 1000 then fun sl s => (many (p.e sc) es sl s).bind fun ds s1 => .ok (.tup ds) s1 else badE
  | .List es pos => if es.any starB = false ∧ es.length ≤ 1000 then fun sl s => (many (p.e sc) es sl s).bind fun ds s1 => made c pos (.lst ds) s1 else badE
  | .Dict [] [] pos => fun _ s => made c pos (if c.tkd pos.line pos.col then .dt [] else .dk []) s
  | .Attribute o f _ => if superB o then badE else una (atM f) (p.e sc o)
  | .Subscript o (.Slice lo hi none _) pos => fun sl s => (p.e sc o sl s).bind fun x s1 => (partE (p.e sc) lo sl s1).bind fun a s2 => (partE (p.e sc) hi sl s2).bind fun b s3 => (match cutD x a b s3 with
      | some d => .ok d s3
      | none => .bad)
  | .Subscript _ (.Slice _ _ (some _) _) _ => badE
  | .Subscript o k _ => if sliceB k then badE else bin ixM (p.e sc o) (p.e sc k)
  | .ListComp elt [⟨tg, iter, ifs, 0⟩] csc pos => fun sl s => (listM c p sc elt tg iter ifs csc sl s).bind fun l s1 => made c pos (.lst l) s1
  | .Call (.Attribute o m apos) args [] pos => if callOk o apos pos args = false then badE else fun sl s => (p.e sc o sl s).bind fun x s1 => (match methOf c (x.view s1) m with
      | some g => (many (p.e sc) args sl s1).bind fun ds s2 => g x ds s2
      | none => .bad)
  | .Call (.Name f _) args kws pos => callS c p sc f args kws pos
  | _ => badE
def stepT (c : Cfg) (p : Ev) (sc : Scope) : Expr → MT
  | .UnaryOp .Not a _ => fun sl s => (p.t sc a sl s).bind fun b s1 => .ok (!b) s1
  | .BoolOp .And vs _ => andT (p.t sc) vs
  | .BoolOp .Or vs _ => orT (p.t sc) vs
  | .IfExp _ _ _ _ => badT
  | .Compare a ops bs _ => chain (p.e sc) ops a bs
  | e => truM (stepE c p sc e)
def slotI (c : Cfg) (sc : Scope) (x : Str) : Option Nat := match sc.names.lookup x with
  | some .local => ixN c.N x
  | some .cell => ixN c.N x
  | _ => none
def isComp : Expr → Bool
  | .ListComp _ _ _ _ => true
  | .SetComp _ _ _ _ => true
  | .DictComp _ _ _ _ _ => true
  | _ => false
/-- local names on one line, stored from the right -/
def swNames (sc : Scope) (ts : List Expr) : List Str := ts.filterMap fun
  | .Name id pos => if sc.names.lookup id == some .local && pos.line == ((ts.head?.map (·.pos.line)).getD 0) then some id else none
  | _ => none
def swOf (sc : Scope) (ts es : List Expr) : Option (Option (List Str)) :=
  if !(ts.length == 2 || ts.length == 3) || es.length != ts.length then some none
  else if es.any starB then some none
  else if (swNames sc ts).length != ts.length || (swNames sc ts).eraseDups.length != (swNames sc ts).length then some none
  else if es.all (foldedForSure 8) then some none
  else if es.all (constantsAlone 8) then none
  else some (some (swNames sc ts))
def setR (N : List Str) : List Str → List D → Sl → Option Sl
  | [], [], sl => some sl
  | x :: xs, d :: ds, sl => (match setR N xs ds sl, ixN N x with
    | some sl', some i => some (sl'.set i (some d))
    | _, _ => none)
  | _, _, _ => none
def tupS (c : Cfg) (p : Ev) (sc : Scope) (ts es : List Expr) : MS :=
  if es.any starB = true ∨ ts.any starB = true ∨ 1000 < es.length then badS else (match swOf sc ts es with
    | none => badS
    | some none => fun sl s => (many (p.e sc) es sl s).sbind sl fun ds s1 => ((gTup (gEv c p sc 4) ts (.tup ds) sl s1).noErr).sbind sl fun sl1 s2 => .nx sl1 s2
    | some (some xs) => fun sl s => (many (p.e sc) es sl s).sbind sl fun ds s1 => (match setR c.N xs ds sl with
      | some sl1 => .nx sl1 s1
      | none => .bad))
def augD (op : Operator) (x y : D) (s : S) : R D := match op, x, y with
  | .Add, .int a, .int b => .ok (.int (a + b)) s
  | .Sub, .int a, .int b => .ok (.int (a - b)) s
  | .Mult, .int a, .int b => if a.natAbs < 2 ^ 64 ∨ b.natAbs < 2 ^ 64 then .ok (.int (a * b)) s else .bad
  | .FloorDiv, .int a, .int b => if 0 < b ∧ b < 1073741824 then .ok (.int (a / b)) s else .bad
  | .Add, .str a, .str b => if a.length + b.length ≤ sizeLine then .ok (.str (a ++ b)) s else .bad
  | _, _, _ => .bad
/-- no target -/
def asgB (c : Cfg) : Expr → Bool
  | .List _ _ => true
  | .Name x _ => (ixN c.N x).isNone
  | _ => false
def stepS (c : Cfg) (p : Ev) (sc : Scope) : Stmt → MS
  | .Pass _ => fun sl s => .nx sl s
  | .Break _ => fun sl s => .bk sl s
  | .Continue _ => fun sl s => .ct sl s
  | .Return none _ => fun _ s => .rt .non s
  | .Return (some e) _ => fun sl s => (p.e sc e sl s).sbind sl fun d s1 => .rt d s1
  | .Expr e _ => if isComp e = true then badS else fun sl s => (p.e sc e sl s).sbind sl fun _ s1 => .nx sl s1
  | .If t a b _ => fun sl s => (p.t sc t sl s).sbind sl fun b' s1 => if b' = true then runs (p.st sc) a sl s1 else runs (p.st sc) b sl s1
  | .Assign [.Tuple ts _ _] (.Tuple es _ _) _ => tupS c p sc ts es
  | .Assign [tg] e _ => if starB tg = true ∨ asgB c tg = true then badS else fun sl s => ((if isComp e = true then stepE c p sc e else p.e sc e) sl s).sbind sl fun d s1 => ((gEv c p sc 4 tg d sl s1).noErr).sbind sl fun sl1 s2 => .nx sl1 s2
  | .AugAssign (.Name x _) op e _ => (match slotI c sc x with
    | some i => fun sl s => (slot i sl s).sbind sl fun x s1 => (p.e sc e sl s1).sbind sl fun y s2 => (augD op x y s2).sbind sl fun d s3 => .nx (sl.set i (some d)) s3
    | none => badS)
  | .AugAssign (.Attribute o f _) op e _ => fun sl s => (p.e sc o sl s).sbind sl fun ov s1 => (match getAt ov f s1 with
    | some x => (p.e sc e sl s1).sbind sl fun y s2 => (augD op x y s2).sbind sl fun d s3 => (setAt c.attr ov f d s3).sbind sl fun _ s4 => .nx sl s4
    | none => .bad)
  | .For tg iter body [] _ => if setB iter = true then badS else fun sl s => (itM c.own sc (p.e sc) (tupB tg) iter sl s).sbind sl fun ls s1 => unlkS s1 ls.2 (forL (fun d sl s => (gEv c p sc 4 tg d sl s).noErr) (runs (p.st sc) body) ls.1 sl ls.2)
  | .While t body [] _ => whileL (p.t sc t) (runs (p.st sc) body) c.fuel
  | .Raise (some (.Call (.Name C _) [e] [] _)) none _ => if c.exc C = true ∧ glN sc C = true ∧ starB e = false then fun sl s => (p.e sc e sl s).sbind sl fun _ s1 => .er ⟨C, none⟩ sl s1 else badS
  | .Delete [.Subscript o k _] _ => if sliceB k = true then badS else fun sl s => (p.e sc o sl s).sbind sl fun ov s1 => (p.e sc k sl s1).sbind sl fun kv s2 => (delIx ov kv s2).sbind sl fun _ s3 => .nx sl s3
  | _ => badS
def step (c : Cfg) (p : Ev) : Ev := ⟨stepE c p, stepT c p, stepS c p, fun _ _ => badE, fun _ _ => badT⟩
def Cfg.less (c : Cfg) : Cfg := { c with lam := c.lam - 1 }
def withL (p : Ev) (l : Scope → Expr → ME) (lt : Scope → Expr → MT) : Ev := ⟨p.e, p.t, p.st, l, lt⟩
def ev : Nat → Cfg → Ev
  | 0, _ => ⟨fun _ _ => badE, fun _ _ => badT, fun _ _ => badS, fun _ _ => badE, fun _ _ => badT⟩
  | n + 1, c => step c (withL (ev n c) (if c.lam = 0 then fun _ _ => badE else (ev n c.less).e) (if c.lam = 0 then fun _ _ => badT else (ev n c.less).t))
/-! ### the program -/
structure Fn where
  ps : List Str
  N : List Str
  sc : Scope
  body : List Stmt
  tb : Nat
structure Prog where
  fns : List (Str × Fn)
  meths : List ((Str × Str) × Fn)
  classes : List Str
  attrs : List (Str × Str)
  excs : List (Str × List Str)
  gls : List (Str × D)
  chg : Nat → Nat → Bool
  tkd : Nat → Nat → Bool
  frozen : Str → Bool
  depth : Nat
  fuel : Nat
def exitF (n : Nat) (s0 : S) (d : D) (s : S) : R D :=
  if s.lk = s0.lk ∧ s.bases = n :: s0.bases then (if d.under n then .ok d { s with st := s.st.take n, bases := s0.bases } else .ok d { s with bases := s0.bases }) else .bad
def exitX (n : Nat) (s0 : S) (x : Ex) (s : S) : R D := if s.lk = s0.lk ∧ s.bases = n :: s0.bases then (match x.row with
  | none => .err x { s with st := s.st.take n, bases := s0.bases }
  | some r => if r.under n then .err x { s with st := s.st.take n, bases := s0.bases } else .err x { s with bases := s0.bases }) else .bad
def startS (N : List Str) (ds : List D) : Sl := ds.map some ++ List.replicate (N.length - ds.length) none
def runBody (c : Cfg) (k : Nat) (f : Fn) (ds : List D) (s : S) : R D :=
  if ds.length = f.ps.length then (match runs ((ev k c).st f.sc) f.body (startS f.N ds) { s with bases := s.st.length :: s.bases } with
    | .nx _ s1 => exitF s.st.length s .non s1
    | .rt d s1 => exitF s.st.length s d s1
    | .er x _ s1 => exitX s.st.length s x s1
    | _ => .bad) else .bad
/-- behind __init__ -/
def exitI (frozen : Bool) (C : Str) (n : Nat) (s0 : S) (s : S) : R D := if s.lk = s0.lk ∧ s.bases = n :: s0.bases then (if frozen then (match s.st[n]? with
        | some (.ins C' l) => if C' = C ∧ belowO n l then .ok (.obj C l) { s with st := s.st.take n, bases := s0.bases } else .bad
        | _ => .bad) else .ok (.ref n) { s with bases := s0.bases }) else .bad
def runInit (P : Prog) (c : Cfg) (k : Nat) (C : Str) (f : Fn) (ds : List D) (s : S) : R D :=
  if ds.length + 1 = f.ps.length then (match runs ((ev k c).st f.sc) f.body (startS f.N (.ref s.st.length :: ds)) { s with st := s.st ++ [.ins C []], bases := s.st.length :: s.bases } with
    | .nx _ s1 => exitI (P.frozen C) C s.st.length s s1
    | .er x _ s1 => exitX s.st.length s x s1
    | _ => .bad) else .bad
def lookF {κ : Type} [DecidableEq κ] (k : κ) : List (κ × Fn) → Option Fn
  | [] => none
  | p :: l => if p.1 = k then some p.2 else lookF k l
/-- the level of lv's defs -/
def lvN (k : Nat) : Nat := 9 * k + 1
def cfgOf (P : Prog) (N : List Str) (tb k : Nat) (call : Str → List D → S → R D) (new : Str → List D → S → R D) (meth : Str → Str → Option (List D → S → R D)) : Cfg where
  N := N
  gl := fun x => lookK x P.gls
  own := fun x => (lookF x P.fns).isSome
  call := call
  isC := fun x => P.classes.contains x
  new := new
  meth := meth
  attr := fun C f => P.attrs.contains (C, f)
  exc := fun x => (P.excs.lookup x).isSome
  sub := fun x y => match P.excs.lookup x with
    | some l => l.contains y
    | none => false
  chg := P.chg
  tkd := P.tkd
  fuel := P.fuel
  lam := 1
  tb := tb
  lvl := lvN k
structure Lv where
  call : Str → List D → S → R D
  new : Str → List D → S → R D
  meth : Str → Str → Option (List D → S → R D)
def lv (P : Prog) : Nat → Lv
  | 0 => ⟨fun _ _ _ => .bad, fun _ _ _ => .bad, fun _ _ => none⟩
  | k + 1 => let q := lv P k
    ⟨fun x ds s => match lookF x P.fns with
      | some f => runBody (cfgOf P f.N f.tb k q.call q.new q.meth) P.depth f ds s
      | none => .bad,
     fun C ds s => match lookF (C, ("__init__" : Str)) P.meths with
      | some f => runInit P (cfgOf P f.N f.tb k q.call q.new q.meth) P.depth C f ds s
      | none => if ds = [] then .ok (.ref s.st.length) { s with st := s.st ++ [.ins C []] } else .bad,
     fun C m => (lookF (C, m) P.meths).map fun f ds s => runBody (cfgOf P f.N f.tb k q.call q.new q.meth) P.depth f ds s⟩
end AL
set_option Elab.async false
set_option linter.all false
set_option maxRecDepth 100000
set_option maxHeartbeats 2000000
/-! AL3b: the program's table from its text. -/
namespace AL
open PySem PySem.Spec PyProof.Rows L2
/-- own names of the comprehensions, generator expressions and lambdas in e -/
def unionN (a b : List Str) : List Str := a ++ b.filter fun x => !a.contains x
def scN (sc : Scope) : List Str := sc.names.filterMap fun p => match p.2 with
  | .local => some p.1
  | .cell => some p.1
  | _ => none
def inE : Nat → Expr → List Str
  | 0, _ => []
  | n + 1, e => match e with
    | .BoolOp _ vs _ => vs.foldl (fun a x => unionN a (inE n x)) []
    | .BinOp a _ b _ => unionN (inE n a) (inE n b)
    | .UnaryOp _ a _ => inE n a
    | .Lambda _ b sc _ => unionN (scN sc) (inE n b)
    | .IfExp a b c _ => unionN (inE n a) (unionN (inE n b) (inE n c))
    | .Dict ks vs _ => (ks.filterMap id ++ vs).foldl (fun a x => unionN a (inE n x)) []
    | .ListComp e gs sc _ => gs.foldl (fun a g => match g with
      | ⟨t, i, f, _⟩ => unionN a (unionN (inE n i) (f.foldl (fun a x => unionN a (inE n x)) []))) (unionN (scN sc) (inE n e))
    | .GeneratorExp e gs sc _ => gs.foldl (fun a g => match g with
      | ⟨t, i, f, _⟩ => unionN a (unionN (inE n i) (f.foldl (fun a x => unionN a (inE n x)) []))) (unionN (scN sc) (inE n e))
    | .Compare a _ bs _ => (a :: bs).foldl (fun a x => unionN a (inE n x)) []
    | .Call f as ks _ => ((f :: as) ++ ks.map fun (k : Keyword) => k.value).foldl (fun a x => unionN a (inE n x)) []
    | .Attribute v _ _ => inE n v
    | .Subscript a b _ => unionN (inE n a) (inE n b)
    | .List es _ => es.foldl (fun a x => unionN a (inE n x)) []
    | .Tuple es _ _ => es.foldl (fun a x => unionN a (inE n x)) []
    | .Slice a b c _ => ([a, b, c].filterMap id).foldl (fun a x => unionN a (inE n x)) []
    | _ => []
def inS : Nat → Stmt → List Str
  | 0, _ => []
  | n + 1, e => match e with
    | .Return (some e) _ => inE 40 e
    | .Assign ts e _ => (e :: ts).foldl (fun a x => unionN a (inE 40 x)) []
    | .AugAssign t _ e _ => unionN (inE 40 t) (inE 40 e)
    | .For t i b o _ => (b ++ o).foldl (fun a x => unionN a (inS n x)) (unionN (inE 40 t) (inE 40 i))
    | .While t b o _ => (b ++ o).foldl (fun a x => unionN a (inS n x)) (inE 40 t)
    | .If t b o _ => (b ++ o).foldl (fun a x => unionN a (inS n x)) (inE 40 t)
    | .Raise (some e) _ _ => inE 40 e
    | .Try b hs o f _ => (b ++ o ++ f ++ hs.flatMap fun (h : ExceptHandler) => match h with
      | .ExceptHandler _ _ b _ => b).foldl (fun a x => unionN a (inS n x)) []
    | .Expr e _ => inE 40 e
    | .Delete es _ => es.foldl (fun a x => unionN a (inE 40 x)) []
    | _ => []
def fnOf (tb : Nat) (st : Stmt) : Fn :=
  let ps := (defArgs st).args.map fun a => match a with
    | ⟨x, _, _⟩ => x
  ⟨ps, (defBody st).foldl (fun a x => unionN a (inS 40 x)) (unionN ps (scN (defScope st))), defScope st, defBody st, tb⟩
def tabF (tb : Str → Nat) : List Stmt → List (Str × Fn)
  | [] => []
  | st :: l => match st with
    | .FunctionDef x _ _ _ _ _ _ _ _ _ => (x, fnOf (tb x) st) :: tabF tb l
    | _ => tabF tb l
def excNames : List Str := ["LampFault", "BadLamp", "BadPlan", "BadSize", "NoSuch", "NoRoom", "NoWay", "BadText", "BadDeed"]
def tabC : List Stmt → List Str
  | [] => []
  | st :: l => match st with
    | .ClassDef x _ _ _ _ _ _ _ _ _ _ => if excNames.contains x then tabC l else x :: tabC l
    | _ => tabC l
def tabM (tb : Str × Str → Nat) : List Stmt → List ((Str × Str) × Fn)
  | [] => []
  | st :: l => match st with
    | .ClassDef x _ _ b _ _ _ _ _ _ _ => if excNames.contains x then tabM tb l else (tabF (fun m => tb (x, m)) b).map (fun p => ((x, p.1), p.2)) ++ tabM tb l
    | _ => tabM tb l
/-- the exceptions that are raised -/
def tabX (xs : List Str) : List (Str × List Str) := xs.map fun x => (x, [x, "LampFault"])
def cfg0 : Cfg := ⟨[], fun _ => none, fun _ => false, fun _ _ _ => .bad, fun _ => false, fun _ _ _ => .bad, fun _ _ => none, fun _ _ => false, fun _ => false, fun _ _ => false, fun _ _ => false, fun _ _ => false, 0, 0, 0, 0⟩
def S0 : S := ⟨[], [], []⟩
def sc0 : Scope := ⟨.function, [], false, false, []⟩
def tabG : List Stmt → List (Str × D)
  | [] => []
  | st :: l => match st with
    | .Assign [.Name x _] e _ => if x = ("__name__" : Str) then tabG l else (match (ev 20 cfg0).e sc0 e [] S0 with
      | .ok (.tup q) _ => (x, .con q) :: tabG l
      | .ok d _ => (x, d) :: tabG l
      | _ => tabG l)
    | _ => tabG l
/-- the attributes that a class's methods store -/
def stS : Nat → Stmt → List Str
  | 0, _ => []
  | n + 1, e => match e with
    | .Assign ts _ _ => ts.flatMap fun t => match t with
      | .Attribute _ f _ => [f]
      | .Tuple es _ _ => es.flatMap fun t => match t with
        | .Attribute _ f _ => [f]
        | _ => []
      | _ => []
    | .AugAssign (.Attribute _ f _) _ _ _ => [f]
    | .For _ _ b o _ => (b ++ o).flatMap (stS n)
    | .While _ b o _ => (b ++ o).flatMap (stS n)
    | .If _ b o _ => (b ++ o).flatMap (stS n)
    | .Try b hs o f _ => (b ++ o ++ f ++ hs.flatMap fun (h : ExceptHandler) => match h with
      | .ExceptHandler _ _ b _ => b).flatMap (stS n)
    | _ => []
def tabA : List Stmt → List (Str × Str)
  | [] => []
  | st :: l => match st with
    | .ClassDef x _ _ b _ _ _ _ _ _ _ => if excNames.contains x then tabA l else ((b.flatMap fun m => (defBody m).flatMap (stS 40)).eraseDups.map fun f => (x, f)) ++ tabA l
    | _ => tabA l
def progOf (b : List Stmt) (xs : List Str) (tb : Str × Str → Nat) (chg tkd : Nat → Nat → Bool) (frozen : Str → Bool) (depth fuel : Nat) : Prog :=
  ⟨tabF (fun x => tb ("", x)) b, tabM tb b, tabC b, tabA b, tabX xs, tabG b, chg, tkd, frozen, depth, fuel⟩
def isT : R D → Bool
  | .ok (.bl true) _ => true
  | _ => false
def lawR (P : Prog) (k : Nat) (is : List Int) : R D := (lv P k).call "law" [.lst (is.map .int)] S0
end AL
set_option Elab.async false
set_option linter.all false
set_option maxRecDepth 100000
set_option maxHeartbeats 2000000
/-! AL4: the store in a heap: new objects, writes; contexts; the first expressions. -/
namespace AL
open PySem PySem.Spec PyProof.Rows L2
section
variable {G : Env1} {L H H' : Hp} {s : S} {ρ ρ' : List Addr} {F F' : Hp}
theorem CellR.mono {ca : Str → Addr} {K : PySem.W.Frag} {lk : Bool} {a : Addr} {c : Cell} (h : CellR ca K ρ F L H lk a c) (l : Le ρ F ρ' F') (e : H' a = H a) : CellR ca K ρ' F' L H' lk a c := by
  cases c with
  | lst x =>
    obtain ⟨vs, h1, h2⟩ := h
    refine ⟨vs, ?_, RepL.mono l _ _ h2⟩
    cases lk with
    | true => exact h1
    | false => exact e.trans h1
  | dk x =>
    obtain ⟨vs, h1, h2⟩ := h
    refine ⟨vs, ?_, RepK.mono l _ _ h2⟩
    cases lk with
    | true => exact h1
    | false => exact e.trans h1
  | dt x =>
    obtain ⟨vs, h1, h2⟩ := h
    refine ⟨vs, ?_, RepT.mono l _ _ h2⟩
    cases lk with
    | true => exact h1
    | false => exact e.trans h1
  | ins q x =>
    obtain ⟨dx, vs, h1, h2, h3⟩ := h
    exact ⟨dx, vs, e.trans h1, RepO.mono l _ _ h2, h3⟩
theorem Rel.noRho (r : Rel G L H s ρ F) {p : Addr} (hp : H p = none) : p ∉ ρ := fun h => r.there p h hp
theorem Rel.noF (r : Rel G L H s ρ F) {p : Addr} (hp : H p = none) : F p = none := by
  cases e : F p with
  | none => rfl
  | some u =>
    have := (r.frz p u e).1
    rw [hp] at this
    cases this
theorem Rel.noL (r : Rel G L H s ρ F) {p : Addr} (hp : H p = none) : L p = none := by
  cases e : L p with
  | none => rfl
  | some u =>
    have := (r.lkd p u e).1
    rw [hp] at this
    cases this
theorem tabs_upd {T : List (Addr × Str)} {p : Addr} {o : HO} (hp : H p = none) (t : LamX.Tabs T (off ρ H)) : LamX.Tabs T (off ρ (upd H p o)) := t.ext fun b u e => by
  by_cases hb : b ∈ ρ
  · rw [off_in hb] at e
    cases e
  · rw [off_out hb] at e ⊢
    rw [upd_ne (ne_of_none e hp)]
    exact e
/-- a new object, frozen -/
theorem nt_upd {F : Hp} {p : Addr} {o : HO} (h : ∀ a ps, F a ≠ some (.tbl ps)) (ho : ∀ ps, o ≠ .tbl ps) : ∀ a ps, upd F p o a ≠ some (.tbl ps) := fun a ps e => by
  by_cases ha : a = p
  · rw [ha, upd_same] at e
    exact ho ps (Option.some.inj e)
  · rw [upd_ne ha] at e
    exact h a ps e
theorem Rel.frzNew (r : Rel G L H s ρ F) {p : Addr} (hp : H p = none) (o : HO) (ho : ∀ ps, o ≠ .tbl ps := by intro ps z; cases z) : Rel G L (upd H p o) s ρ (upd F p o) := by
  have le : Le ρ F ρ (upd F p o) := ⟨fun _ _ h => h, SubF.new (r.noF hp)⟩
  refine ⟨r.len, r.nd, fun a u e => ?_, fun a u e => ?_, fun i c a e1 e2 => ?_, fun a ha => ?_, tabs_upd hp r.tabs, r.lkb, r.bsl, r.disc, nt_upd r.ntF ho, r.ntL⟩
  · by_cases h : a = p
    · subst h
      rw [upd_same] at e
      exact ⟨by rw [upd_same]; exact e, r.noRho hp, r.noL hp⟩
    · rw [upd_ne h] at e ⊢
      exact r.frz a u e
  · obtain ⟨h1, h2⟩ := r.lkd a u e
    exact ⟨by rw [upd_ne (ne_of_none h1 hp)]; exact h1, h2⟩
  · have hm : a ∈ ρ := List.mem_of_getElem? e2
    have hne : a ≠ p := fun h => r.noRho hp (h ▸ hm)
    exact (r.cell i c a e1 e2).mono le (upd_ne hne)
  · have hne : a ≠ p := fun h => r.noRho hp (h ▸ ha)
    rw [upd_ne hne]
    exact r.there a ha
theorem Rel.frzLe (r : Rel G L H s ρ F) {p : Addr} (hp : H p = none) (o : HO) : Le ρ F ρ (upd F p o) := ⟨fun _ _ h => h, SubF.new (r.noF hp)⟩
/-- a new object, not told -/
theorem Rel.other (r : Rel G L H s ρ F) {p : Addr} (hp : H p = none) (o : HO) : Rel G L (upd H p o) s ρ F := by
  refine ⟨r.len, r.nd, fun a u e => ?_, fun a u e => ?_, fun i c a e1 e2 => ?_, fun a ha => ?_, tabs_upd hp r.tabs, r.lkb, r.bsl, r.disc, r.ntF, r.ntL⟩
  · obtain ⟨h1, h2⟩ := r.frz a u e
    exact ⟨by rw [upd_ne (ne_of_none h1 hp)]; exact h1, h2⟩
  · obtain ⟨h1, h2⟩ := r.lkd a u e
    exact ⟨by rw [upd_ne (ne_of_none h1 hp)]; exact h1, h2⟩
  · have hm : a ∈ ρ := List.mem_of_getElem? e2
    have hne : a ≠ p := fun h => r.noRho hp (h ▸ hm)
    exact (r.cell i c a e1 e2).mono (.refl ρ F) (upd_ne hne)
  · have hne : a ≠ p := fun h => r.noRho hp (h ▸ ha)
    rw [upd_ne hne]
    exact r.there a ha
theorem Le.app (ρ : List Addr) (F : Hp) (p : Addr) : Le ρ F (ρ ++ [p]) F := ⟨fun i a h => by
  have hl : i < ρ.length := by
    rw [List.getElem?_eq_some_iff] at h
    exact h.1
  rw [List.getElem?_append_left hl]
  exact h, .refl F⟩
/-- a new object, a cell -/
theorem Rel.cellNew (r : Rel G L H s ρ F) {p : Addr} (hp : H p = none) {o : HO} {c : Cell} (hc : CellR G.ca G.K ρ F L (upd H p o) false p c) : Rel G L (upd H p o) { s with st := s.st ++ [c] } (ρ ++ [p]) F := by
  have hpr := r.noRho hp
  have hlk : s.lk.contains s.st.length = false := by
    cases q : s.lk.contains s.st.length with
    | false => rfl
    | true => exact absurd (r.lkb _ q) (Nat.lt_irrefl _)
  have app : ∀ {i : Nat} {q : Cell}, (s.st ++ [c])[i]? = some q → i < s.st.length → s.st[i]? = some q := fun {i q} e hl => by
    rw [List.getElem?_append_left hl] at e
    exact e
  refine ⟨by simp [r.len], ?_, fun a u e => ?_, fun a u e => ?_, fun i q a e1 e2 => ?_, fun a ha => ?_, ?_, fun i hi => ?_, fun b hb => Nat.le_trans (r.bsl b hb) (by simp), fun i q e b hb hi => r.disc i q (app e (Nat.lt_of_lt_of_le hi (r.bsl b hb))) b hb hi, r.ntF, r.ntL⟩
  rotate_right
  · have := r.lkb i hi
    show i < (s.st ++ [c]).length
    rw [List.length_append]
    omega
  · rw [List.nodup_append]
    refine ⟨r.nd, by simp, fun a ha b hb => ?_⟩
    rw [List.mem_singleton] at hb
    rw [hb]
    exact fun e => hpr (e ▸ ha)
  · obtain ⟨h1, h2, h3⟩ := r.frz a u e
    refine ⟨by rw [upd_ne (ne_of_none h1 hp)]; exact h1, fun hm => ?_, h3⟩
    rcases List.mem_append.mp hm with h | h
    · exact h2 h
    · rw [List.mem_singleton] at h
      rw [h, hp] at h1
      cases h1
  · obtain ⟨h1, h3⟩ := r.lkd a u e
    refine ⟨by rw [upd_ne (ne_of_none h1 hp)]; exact h1, fun i hi => ?_⟩
    by_cases hl : i < ρ.length
    · rw [List.getElem?_append_left hl] at hi
      exact h3 i hi
    · rw [List.getElem?_append_right (by omega)] at hi
      have := List.mem_of_getElem? hi
      rw [List.mem_singleton] at this
      rw [this, hp] at h1
      cases h1
  · by_cases hl : i < s.st.length
    · have hl' : i < ρ.length := by rw [r.len]; exact hl
      have e1' : (s.st ++ [c])[i]? = some q := e1
      rw [List.getElem?_append_left hl] at e1'
      rw [List.getElem?_append_left hl'] at e2
      have hm : a ∈ ρ := List.mem_of_getElem? e2
      have hne : a ≠ p := fun h => hpr (h ▸ hm)
      exact (r.cell i q a e1' e2).mono (Le.app ρ F p) (upd_ne hne)
    · have e1' : (s.st ++ [c])[i]? = some q := e1
      rw [List.getElem?_append_right (by omega)] at e1'
      have hl' : ¬ i < ρ.length := by rw [r.len]; exact hl
      rw [List.getElem?_append_right (by omega)] at e2
      have hi : i = s.st.length := by
        have := (List.getElem?_eq_some_iff.mp e1').1
        simp at this
        omega
      subst hi
      have ea := List.mem_of_getElem? e2
      rw [List.mem_singleton] at ea
      have eq := List.mem_of_getElem? e1'
      rw [List.mem_singleton] at eq
      subst ea eq
      show CellR _ _ _ _ _ _ (s.lk.contains s.st.length) _ _
      rw [hlk]
      exact hc.mono (Le.app ρ F a) rfl
  · rcases List.mem_append.mp ha with h | h
    · have hne : a ≠ p := fun z => hpr (z ▸ h)
      rw [upd_ne hne]
      exact r.there a h
    · rw [List.mem_singleton] at h
      subst h
      rw [upd_same]
      simp
  · refine r.tabs.ext fun b u e => ?_
    by_cases hb : b ∈ ρ
    · rw [off_in hb] at e
      cases e
    · rw [off_out hb] at e
      have hne := ne_of_none e hp
      rw [off_out (by simp [hb, hne]), upd_ne hne]
      exact e
theorem rho_inj : ∀ {ρ : List Addr} (nd : ρ.Nodup) {i j : Nat} {a : Addr} (h1 : ρ[i]? = some a) (h2 : ρ[j]? = some a), i = j
  | [], _, i, j, a, h1, _ => by simp at h1
  | b :: ρ, nd, 0, 0, a, _, _ => rfl
  | b :: ρ, nd, i + 1, 0, a, h1, h2 => by
    simp at h1 h2
    subst h2
    exact absurd (List.mem_of_getElem? h1) (List.nodup_cons.mp nd).1
  | b :: ρ, nd, 0, j + 1, a, h1, h2 => by
    simp at h1 h2
    subst h1
    exact absurd (List.mem_of_getElem? h2) (List.nodup_cons.mp nd).1
  | b :: ρ, nd, i + 1, j + 1, a, h1, h2 => by
    simp at h1 h2
    rw [rho_inj (List.nodup_cons.mp nd).2 h1 h2]
/-- the cell i is written -/
theorem Rel.write (r : Rel G L H s ρ F) {i : Nat} {a : Addr} (ha : ρ[i]? = some a) (hl : s.lk.contains i = false) {o : HO} {c : Cell} (hc : CellR G.ca G.K ρ F L (upd H a o) false a c) (hd : ∀ b ∈ s.bases, i < b → c.under b = true) : Rel G L (upd H a o) (putC i c s) ρ F := by
  have hm : a ∈ ρ := List.mem_of_getElem? ha
  refine ⟨by simp [putC, r.len], r.nd, fun b u e => ?_, fun b u e => ?_, fun j q b e1 e2 => ?_, fun b hb => ?_, ?_, fun i hi => by simpa [putC] using r.lkb i hi, fun b hb => by simpa [putC] using r.bsl b hb, fun j q e b hb hj => ?_, r.ntF, r.ntL⟩
  rotate_right
  · have e : (s.st.set i c)[j]? = some q := e
    by_cases hij : i = j
    · subst hij
      have hlt : i < s.st.length := Nat.lt_of_lt_of_le hj (r.bsl b hb)
      rw [List.getElem?_set_self hlt] at e
      cases e
      exact hd b hb hj
    · rw [List.getElem?_set_ne hij] at e
      exact r.disc j q e b hb hj
  · obtain ⟨h1, h2⟩ := r.frz b u e
    have hne : b ≠ a := fun z => h2.1 (z ▸ hm)
    exact ⟨by rw [upd_ne hne]; exact h1, h2⟩
  · obtain ⟨h1, h3⟩ := r.lkd b u e
    have hne : b ≠ a := fun z => by
      have q := (h3 i (z ▸ ha)).1
      rw [hl] at q
      cases q
    exact ⟨by rw [upd_ne hne]; exact h1, h3⟩
  · have e1' : (s.st.set i c)[j]? = some q := e1
    by_cases hj : i = j
    · subst hj
      rw [ha] at e2
      cases e2
      have hlt : i < s.st.length := by
        rw [← r.len]
        exact (List.getElem?_eq_some_iff.mp ha).1
      rw [List.getElem?_set_self hlt] at e1'
      cases e1'
      show CellR _ _ _ _ _ _ (s.lk.contains i) _ _
      rw [hl]
      exact hc
    · rw [List.getElem?_set_ne hj] at e1'
      have hne : b ≠ a := fun z => hj (rho_inj r.nd ha (z ▸ e2))
      exact (r.cell j q b e1' e2).mono (.refl ρ F) (upd_ne hne)
  · by_cases hb2 : b = a
    · subst hb2
      rw [upd_same]
      simp
    · rw [upd_ne hb2]
      exact r.there b hb
  · refine r.tabs.ext fun b u e => ?_
    by_cases hb : b ∈ ρ
    · rw [off_in hb] at e
      cases e
    · rw [off_out hb] at e ⊢
      have hne : b ≠ a := fun z => hb (z ▸ hm)
      rw [upd_ne hne]
      exact e
theorem Rel.rdF (r : Rel G L H s ρ F) {a : Addr} {u : HO} (h : Rd F a u) : Rd H a u := h.imp (fun h => (r.frz a _ h).1) fun ⟨o, h⟩ => ⟨o, (r.frz a _ h).1⟩
theorem Rel.rdL (r : Rel G L H s ρ F) {a : Addr} {u : HO} (h : Rd L a u) : Rd H a u := h.imp (fun h => (r.lkd a _ h).1) fun ⟨o, h⟩ => ⟨o, (r.lkd a _ h).1⟩
theorem Rel.sqT (r : Rel G L H s ρ F) {a : Addr} {xs : List V} (h : SqT G.K F a xs) : SqT G.K H a xs := h.imp r.rdF id
theorem Rel.sqL (r : Rel G L H s ρ F) {a : Addr} {xs : List V} (h : SqL G.K F a xs) : SqL G.K H a xs := h.imp r.rdF id
theorem ct_rd (r : Rel G L H s ρ F) {i : Nat} {a : Addr} {u : HO} (h : if s.lk.contains i = true then Rd L a u else H a = some u) : Rd H a u := by
  cases hk : s.lk.contains i with
  | true =>
    rw [hk] at h
    exact r.rdL h
  | false =>
    rw [hk] at h
    exact .inl h
theorem view_cases (i : Nat) (s : S) : (∃ c, s.st[i]? = some c ∧ D.view (.ref i) s = (match c with
    | .lst l => .lst l
    | .dk l => .dk l
    | .dt l => .dt l
    | .ins c l => .obj c l)) ∨ D.view (.ref i) s = .ref i := by
  cases h : s.st[i]? with
  | none => exact .inr (by simp [D.view, h])
  | some c => exact .inl ⟨c, rfl, by cases c <;> simp [D.view, h]⟩
/-- what a value is, seen through one reference -/
theorem Rel.viewL (r : Rel G L H s ρ F) {d : D} {v : V} {l : List D} (h : RepD G.ca G.K ρ F d v) (e : d.view s = .lst l) : ∃ a vs, v = .ref a ∧ Rd H a (.lst vs) ∧ RepL G.ca G.K ρ F l vs := by
  cases d with
  | lst x =>
    have e' : D.lst x = .lst l := e
    cases e'
    obtain ⟨a, vs, h1, h2, h3⟩ := h
    exact ⟨a, vs, h1, r.rdF h2, h3⟩
  | ref i =>
    obtain ⟨a, h1, h2⟩ := h
    rcases view_cases i s with ⟨c, ec, q⟩ | q
    · rw [q] at e
      cases c with
      | lst x =>
        cases e
        obtain ⟨vs, q1, q2⟩ := r.cell i _ a ec h1
        exact ⟨a, vs, h2, ct_rd r q1, q2⟩
      | _ => cases e
    · rw [q] at e
      cases e
  | _ => cases e
theorem Rel.viewT (r : Rel G L H s ρ F) {d : D} {v : V} {l : List D} (h : RepD G.ca G.K ρ F d v) (e : d.view s = .tup l) : ∃ a vs, v = .ref a ∧ SqT G.K H a vs ∧ RepL G.ca G.K ρ F l vs := by
  cases d with
  | tup x =>
    have e' : D.tup x = .tup l := e
    cases e'
    obtain ⟨a, vs, h1, h2, h3⟩ := h
    exact ⟨a, vs, h1, .inl (.inl (r.frz _ _ h2).1), h3⟩
  | con x =>
    have e' : D.tup x = .tup l := e
    cases e'
    obtain ⟨a, vs, h1, h2, h3⟩ := h
    exact ⟨a, vs, h1, r.sqT h2, h3⟩
  | ref i =>
    rcases view_cases i s with ⟨c, ec, q⟩ | q
    · rw [q] at e
      cases c <;> cases e
    · rw [q] at e
      cases e
  | _ => cases e
theorem Rel.viewK (r : Rel G L H s ρ F) {d : D} {v : V} {l : List (Key × D)} (h : RepD G.ca G.K ρ F d v) (e : d.view s = .dk l) : ∃ a vs, v = .ref a ∧ Rd H a (.dK vs) ∧ RepK G.ca G.K ρ F l vs := by
  cases d with
  | dk x =>
    have e' : D.dk x = .dk l := e
    cases e'
    obtain ⟨a, vs, h1, h2, h3⟩ := h
    exact ⟨a, vs, h1, r.rdF h2, h3⟩
  | ref i =>
    obtain ⟨a, h1, h2⟩ := h
    rcases view_cases i s with ⟨c, ec, q⟩ | q
    · rw [q] at e
      cases c with
      | dk x =>
        cases e
        obtain ⟨vs, q1, q2⟩ := r.cell i _ a ec h1
        exact ⟨a, vs, h2, ct_rd r q1, q2⟩
      | _ => cases e
    · rw [q] at e
      cases e
  | _ => cases e
theorem Rel.viewD (r : Rel G L H s ρ F) {d : D} {v : V} {l : List (List Key × D)} (h : RepD G.ca G.K ρ F d v) (e : d.view s = .dt l) : ∃ a vs, v = .ref a ∧ Rd H a (.dT vs) ∧ RepT G.ca G.K ρ F l vs := by
  cases d with
  | dt x =>
    have e' : D.dt x = .dt l := e
    cases e'
    obtain ⟨a, vs, h1, h2, h3⟩ := h
    exact ⟨a, vs, h1, r.rdF h2, h3⟩
  | ref i =>
    obtain ⟨a, h1, h2⟩ := h
    rcases view_cases i s with ⟨c, ec, q⟩ | q
    · rw [q] at e
      cases c with
      | dt x =>
        cases e
        obtain ⟨vs, q1, q2⟩ := r.cell i _ a ec h1
        exact ⟨a, vs, h2, ct_rd r q1, q2⟩
      | _ => cases e
    · rw [q] at e
      cases e
  | _ => cases e
theorem Rel.viewO (r : Rel G L H s ρ F) {d : D} {v : V} {C : Str} {l : List (Str × D)} (h : RepD G.ca G.K ρ F d v) (e : d.view s = .obj C l) : ∃ a dx vs, v = .ref a ∧ H a = some (.ins (G.ca C) dx vs) ∧ RepO G.ca G.K ρ F l vs ∧ InsOk G.K (G.ca C) vs := by
  cases d with
  | obj D' x =>
    have e' : D.obj D' x = .obj C l := e
    cases e'
    obtain ⟨a, dx, vs, h1, h2, h3⟩ := h
    exact ⟨a, dx, vs, h1, (r.frz _ _ h2).1, h3⟩
  | ref i =>
    obtain ⟨a, h1, h2⟩ := h
    rcases view_cases i s with ⟨c, ec, q⟩ | q
    · rw [q] at e
      cases c with
      | ins D' x =>
        cases e
        obtain ⟨dx, vs, q1, q2, q3⟩ := r.cell i _ a ec h1
        exact ⟨a, dx, vs, h2, q1, q2, q3⟩
      | _ => cases e
    · rw [q] at e
      cases e
  | _ => cases e
/-- the plain ones are what they are -/
theorem RepO.look : ∀ {l : List (Str × D)} {vs : List (Str × V)} {f : Str} {d : D}, RepO G.ca G.K ρ F l vs → lookK f l = some d → ∃ v, vs.lookup f = some v ∧ RepD G.ca G.K ρ F d v ∧ f ∈ vs.map (·.1)
  | [], _, _, _, _, e => by cases e
  | (g, d) :: l, _, f, d', ⟨v, r, e, q, t⟩, h => by
    unfold lookK at h
    rw [e]
    by_cases hg : g = f
    · rw [if_pos hg] at h
      cases h
      subst hg
      exact ⟨v, by simp [List.lookup], q, by simp⟩
    · rw [if_neg hg] at h
      obtain ⟨w, h1, h2, h3⟩ := RepO.look t h
      refine ⟨w, ?_, h2, List.mem_cons_of_mem _ h3⟩
      have hb : (f == g) = false := beq_eq_false_iff_ne.mpr (Ne.symm hg)
      simp only [List.lookup, hb]
      exact h1
theorem view_int {d : D} {s : S} {i : Int} (e : d.view s = .int i) : d = .int i := by
  cases d with
  | int j => exact e
  | ref j =>
    rcases view_cases j s with ⟨c, ec, q⟩ | q
    · rw [q] at e
      cases c <;> cases e
    · rw [q] at e
      cases e
  | _ => cases e
theorem view_str {d : D} {s : S} {x : Str} (e : d.view s = .str x) : d = .str x := by
  cases d with
  | str j => exact e
  | ref j =>
    rcases view_cases j s with ⟨c, ec, q⟩ | q
    · rw [q] at e
      cases c <;> cases e
    · rw [q] at e
      cases e
  | _ => cases e
theorem view_bl {d : D} {s : S} {b : Bool} (e : d.view s = .bl b) : d = .bl b := by
  cases d with
  | bl j => exact e
  | ref j =>
    rcases view_cases j s with ⟨c, ec, q⟩ | q
    · rw [q] at e
      cases c <;> cases e
    · rw [q] at e
      cases e
  | _ => cases e
theorem view_non {d : D} {s : S} (e : d.view s = .non) : d = .non := by
  cases d with
  | non => rfl
  | ref j =>
    rcases view_cases j s with ⟨c, ec, q⟩ | q
    · rw [q] at e
      cases c <;> cases e
    · rw [q] at e
      cases e
  | _ => cases e
theorem view_tup {d : D} {s : S} {l : List D} (e : d.view s = .tup l) (hc : d.isCon = false) : d = .tup l := by
  cases d with
  | tup x => exact e
  | con x => cases hc
  | ref j =>
    rcases view_cases j s with ⟨c, ec, q⟩ | q
    · rw [q] at e
      cases c <;> cases e
    · rw [q] at e
      cases e
  | _ => cases e
theorem RepL.length : ∀ {l : List D} {vs : List V}, RepL G.ca G.K ρ F l vs → l.length = vs.length
  | [], _, h => by
    have h : _ = [] := h
    rw [h] <;> rfl
  | d :: l, _, ⟨v, r, e, _, t⟩ => by rw [e, List.length_cons, List.length_cons, RepL.length t]
theorem RepL.append : ∀ {l l' : List D} {vs vs' : List V}, RepL G.ca G.K ρ F l vs → RepL G.ca G.K ρ F l' vs' → RepL G.ca G.K ρ F (l ++ l') (vs ++ vs')
  | [], _, _, _, h, h' => by
    have h : _ = [] := h
    rw [h]
    exact h'
  | d :: l, _, _, _, ⟨v, r, e, q, t⟩, h' => by
    rw [e]
    exact ⟨v, _, rfl, q, RepL.append t h'⟩
theorem RepL.get : ∀ {l : List D} {vs : List V} {i : Nat} {d : D}, RepL G.ca G.K ρ F l vs → l[i]? = some d → ∃ v, vs[i]? = some v ∧ RepD G.ca G.K ρ F d v
  | [], _, i, d, _, e => by simp at e
  | d :: l, _, 0, d', ⟨v, r, e, q, t⟩, h => by
    simp at h
    subst h
    exact ⟨v, by rw [e]; rfl, q⟩
  | d :: l, _, i + 1, d', ⟨v, r, e, q, t⟩, h => by
    rw [e]
    exact RepL.get (i := i) t (by simpa using h)
theorem RepL.set : ∀ {l : List D} {vs : List V} (i : Nat) {d : D} {v : V}, RepL G.ca G.K ρ F l vs → RepD G.ca G.K ρ F d v → RepL G.ca G.K ρ F (l.set i d) (vs.set i v)
  | [], _, i, _, _, h, _ => by
    have h : _ = [] := h
    rw [h]
    cases i <;> rfl
  | d :: l, _, 0, _, _, ⟨v, r, e, q, t⟩, h => by
    rw [e]
    exact ⟨_, _, rfl, h, t⟩
  | d :: l, _, i + 1, _, _, ⟨v, r, e, q, t⟩, h => by
    rw [e]
    exact ⟨_, _, rfl, q, RepL.set i t h⟩
end
end AL
set_option Elab.async false
set_option linter.all false
set_option maxRecDepth 100000
set_option maxHeartbeats 2000000
/-! AL5: expressions. -/
namespace AL
open PySem PySem.Spec PyProof.Rows L2
abbrev gx (X : Cx) (ca : Str → Addr) (T : List (Addr × Str)) : Env1 := ⟨ca, X.K, T⟩
theorem _root_.L2.PE.weak {X : Cx} {e : Expr} {t t' : TE} (h : PE X e t) (k : ∀ σ H Q, t' σ H Q → t σ H Q) : PE X e t' := ⟨fun pins s σ H Q I q => h.run pins s σ H Q I (k σ H Q q)⟩
theorem _root_.L2.PT.weak {X : Cx} {e : Expr} {t t' : TT} (h : PT X e t) (k : ∀ σ H Q, t' σ H Q → t σ H Q) : PT X e t' := ⟨fun pins s σ H Q I q => h.run pins s σ H Q I (k σ H Q q)⟩
theorem _root_.L2.PA.weak {X : Cx} {e : List Expr} {t t' : TA} (h : PA X e t) (k : ∀ σ H Q, t' σ H Q → t σ H Q) : PA X e t' := ⟨fun pos pins s σ H Q I q => h.run pos pins s σ H Q I (k σ H Q q)⟩
theorem _root_.L2.PS.weak {X : Cx} {e : Stmt} {t t' : TS} (h : PS X e t) (k : ∀ D σ H, t' D σ H → t D σ H) : PS X e t' := ⟨fun pins s σ H D I q => h.run pins s σ H D I (k D σ H q)⟩
theorem _root_.L2.PSs.weak {X : Cx} {e : List Stmt} {t t' : TS} (h : PSs X e t) (k : ∀ D σ H, t' D σ H → t D σ H) : PSs X e t' := ⟨fun pins s σ H D I q => h.run pins s σ H D I (k D σ H q)⟩
theorem _root_.L2.PE.never {X : Cx} {e : Expr} {t : TE} (k : ∀ σ H Q, ¬ t σ H Q) : PE X e t := ⟨fun pins s σ H Q I q => (k σ H Q q).elim⟩
theorem _root_.L2.PT.never {X : Cx} {e : Expr} {t : TT} (k : ∀ σ H Q, ¬ t σ H Q) : PT X e t := ⟨fun pins s σ H Q I q => (k σ H Q q).elim⟩
theorem _root_.L2.PS.never {X : Cx} {e : Stmt} {t : TS} (k : ∀ D σ H, ¬ t D σ H) : PS X e t := ⟨fun pins s σ H D I q => (k D σ H q).elim⟩
/-- of a result that is no exception -/
def PV (G : Env1) (L : Hp) (ρ : List Addr) (F : Hp) {α β : Type} (rp : List Addr → Hp → α → β → Prop) (Q : β → Hp → Prop) : R α → Prop
  | .ok a s' => ∀ v H' ρ' F', Le ρ F ρ' F' → Rel G L H' s' ρ' F' → rp ρ' F' a v → Q v H'
  | _ => False
def R.isErr {α : Type} : R α → Bool
  | .err _ _ => true
  | _ => false
section
variable {G : Env1} {L : Hp} {ρ ρ1 : List Addr} {F F1 : Hp} {W : WX} {σ : L2.St}
theorem PB.pv {α β : Type} {rp : List Addr → Hp → α → β → Prop} {Q : β → Hp → Prop} {r : R α} (h : PB G L ρ F W σ rp Q r) (ne : r.isErr = false) : PV G L ρ F rp Q r := by
  cases r with
  | ok a s' => exact h
  | err x s' => cases ne
  | bad => exact h
theorem PB.le {α β : Type} {rp : List Addr → Hp → α → β → Prop} {Q : β → Hp → Prop} {r : R α} (h : PB G L ρ F W σ rp Q r) (l : Le ρ F ρ1 F1) : PB G L ρ1 F1 W σ rp Q r :=
  h.imp l fun _ _ _ _ _ _ _ _ _ _ q => q
theorem tX.bind {α β γ δ : Type} {rp : List Addr → Hp → α → β → Prop} {rq : List Addr → Hp → γ → δ → Prop} {m : Sl → S → R α} {f : Sl → α → S → R γ} {H : Hp} {Q : δ → Hp → Prop}
    (h : tX G W rq (fun sl s => (m sl s).bind (f sl)) σ H Q) :
    tX G W rp m σ H fun v H' => ∃ sl s a s' ρ F L, m sl s = .ok a s' ∧ SlR G ρ F sl σ ∧ Rel G L H' s' ρ F ∧ rp ρ F a v ∧ PB G L ρ F W σ rq Q (f sl a s') := by
  obtain ⟨sl, s, ρ, F, L, hs, hr, hp⟩ := h
  refine ⟨sl, s, ρ, F, L, hs, hr, PB.imp (PB.bind (rp := rp) hp) (.refl ρ F) fun _ _ _ v H' ρ' F' _ _ _ q => ?_⟩
  obtain ⟨a, s', ρ1, F1, e, l, r, p, q⟩ := q
  exact ⟨sl, s, a, s', ρ1, F1, L, e, hs.mono l, r, p, q⟩
end
/-- two values in -/
def r2 (G : Env1) (g : D → D → S → R D) : R2 := fun x y H Q => ∃ dx dy s ρ F L, RepD G.ca G.K ρ F dx x ∧ RepD G.ca G.K ρ F dy y ∧ Rel G L H s ρ F ∧ PV G L ρ F (rpD G) Q (g dx dy s)
/-- one value in -/
def r1 (G : Env1) (g : D → S → R D) : V → Hp → VK → Prop := fun x H Q => ∃ dx s ρ F L, RepD G.ca G.K ρ F dx x ∧ Rel G L H s ρ F ∧ PV G L ρ F (rpD G) Q (g dx s)
section
variable {X : Cx} {ca : Str → Addr} {T : List (Addr × Str)} {W : WX} {a b e : Expr} {pos : Pos} {ma mb : ME}
theorem ae_pure {v : V} {d : D} (h : PE X e (tC v)) (r : ∀ ρ F, RepD ca X.K ρ F d v) : PE X e (tE (gx X ca T) W (pureE d)) := h.weak fun σ H Q q => by
  obtain ⟨sl, s, ρ, F, L, hs, hr, hp⟩ := q
  exact hp v H ρ F (.refl ρ F) hr (r ρ F)
theorem ae_bad : PE X e (tE (gx X ca T) W badE) := PE.never fun σ H Q ⟨sl, s, ρ, F, L, hs, hr, hp⟩ => hp
theorem at_bad : PT X e (tT (gx X ca T) W badT) := PT.never fun σ H Q ⟨sl, s, ρ, F, L, hs, hr, hp⟩ => hp
theorem ae_slot {i : Nat} {x : Str} (h : PE X e (tVar i)) : PE X e (tE (gx X ca T) W (slot i)) := h.weak fun σ H Q q => by
  obtain ⟨sl, s, ρ, F, L, hs, hr, hp⟩ := q
  unfold slot at hp
  cases e1 : sl[i]? with
  | none => rw [e1] at hp; exact hp.elim
  | some o =>
    cases o with
    | none => rw [e1] at hp; exact hp.elim
    | some d =>
      rw [e1] at hp
      obtain ⟨v, h1, h2⟩ := hs.at_ i d e1
      exact ⟨v, h1, hp v H ρ F (.refl ρ F) hr h2⟩
theorem two_step {G : Env1} {g : D → D → S → R D} (hg : ∀ x y s, (g x y s).isErr = false) {σ : L2.St} {H : Hp} {Q : VK} (h : tE G W (bin g ma mb) σ H Q) : tE G W ma σ H fun x H1 => tE G W mb σ H1 fun y H2 => r2 G g x y H2 Q := by
  obtain ⟨sl, s, ρ, F, L, hs, hr, hp⟩ := tX.bind (rp := rpD G) (f := fun sl x s1 => (mb sl s1).bind fun y s2 => g x y s2) h
  refine ⟨sl, s, ρ, F, L, hs, hr, hp.imp (.refl ρ F) fun _ _ _ x H1 _ _ _ _ _ q => ?_⟩
  obtain ⟨sl, s, dx, s1, ρ1, F1, L, _, hs1, hr1, hx, q⟩ := q
  refine ⟨sl, s1, ρ1, F1, L, hs1, hr1, (PB.bind (rp := rpD G) q).imp (.refl ρ1 F1) fun _ _ _ y H2 _ _ _ _ _ q => ?_⟩
  obtain ⟨dy, s2, ρ2, F2, _, l2, hr2, hy, q⟩ := q
  exact ⟨dx, dy, s2, ρ2, F2, L, RepD.mono l2 _ _ hx, hy, hr2, q.pv (hg dx dy s2)⟩
theorem one_step {G : Env1} {g : D → S → R D} (hg : ∀ x s, (g x s).isErr = false) {σ : L2.St} {H : Hp} {Q : VK} (h : tE G W (una g ma) σ H Q) : tE G W ma σ H fun x H1 => r1 G g x H1 Q := by
  obtain ⟨sl, s, ρ, F, L, hs, hr, hp⟩ := tX.bind (rp := rpD G) (f := fun sl x s1 => g x s1) h
  refine ⟨sl, s, ρ, F, L, hs, hr, hp.imp (.refl ρ F) fun _ _ _ x H1 _ _ _ _ _ q => ?_⟩
  obtain ⟨sl, s, dx, s1, ρ1, F1, L, _, hs1, hr1, hx, q⟩ := q
  exact ⟨dx, s1, ρ1, F1, L, hx, hr1, q.pv (hg dx s1)⟩
theorem ae_bin {op : Operator} {g : D → D → S → R D} (hg : ∀ x y s, (g x y s).isErr = false) (ho : OpR X (binaryOp op) (r2 (gx X ca T) g)) (ha : PE X a (tE (gx X ca T) W ma)) (hb : PE X b (tE (gx X ca T) W mb)) :
    PE X (.BinOp a op b pos) (tE (gx X ca T) W (bin g ma mb)) := (pe_op ho ha hb).weak fun σ H Q q => two_step hg q
theorem ae_ix {g : D → D → S → R D} (hg : ∀ x y s, (g x y s).isErr = false) (ho : IxR X (r2 (gx X ca T) g)) (ha : PE X a (tE (gx X ca T) W ma)) (hb : PE X b (tE (gx X ca T) W mb)) (hs : PlainIx b) :
    PE X (.Subscript a b pos) (tE (gx X ca T) W (bin g ma mb)) := (pe_ix ho ha hb hs).weak fun σ H Q q => two_step hg q
theorem ae_un {op : UnaryOp} {g : D → S → R D} (hg : ∀ x s, (g x s).isErr = false) (ho : UnR X (unaryOp op) (r1 (gx X ca T) g)) (ha : PE X a (tE (gx X ca T) W ma)) :
    PE X (.UnaryOp op a pos) (tE (gx X ca T) W (una g ma)) := (pe_un ho ha).weak fun σ H Q q => one_step hg q
/-! ### made objects: as a tree, or a cell -/
theorem made_ne {c : Cfg} {p : Pos} {d : D} {s : S} : (made c p d s).isErr = false := by
  unfold made
  split
  · split <;> rfl
  · rfl
end
end AL
set_option Elab.async false
set_option linter.all false
set_option maxRecDepth 100000
set_option maxHeartbeats 2000000
/-! AL6: operators, displays, attributes, subscripts. -/
namespace AL
open PySem PySem.Spec PyProof.Rows L2
section
variable {X : Cx} {ca : Str → Addr} {T : List (Addr × Str)} {W : WX} {c : Cfg} {p : Pos}
/-- a plain result -/
theorem PV.here {G : Env1} {L H : Hp} {s : S} {ρ : List Addr} {F : Hp} {d : D} {v : V} {Q : VK} (q : PV G L ρ F (rpD G) Q (.ok d s)) (r : Rel G L H s ρ F) (h : RepD G.ca G.K ρ F d v) : Q v H := q v H ρ F (.refl ρ F) r h
theorem made_flat {d : D} {s : S} (h : d.cell = none) {G : Env1} {L : Hp} {ρ : List Addr} {F : Hp} {Q : VK} (q : PV G L ρ F (rpD G) Q (made c p d s)) : PV G L ρ F (rpD G) Q (.ok d s) := by
  unfold made at q
  split at q
  · rw [h] at q
    exact q.elim
  · exact q
/-- a new list, as a tree or a cell -/
theorem made_lst {G : Env1} {L H : Hp} {s : S} {ρ : List Addr} {F : Hp} {l : List D} {vs : List V} {Q : VK} (q : PV G L ρ F (rpD G) Q (made c p (.lst l) s)) (r : Rel G L H s ρ F) (h : RepL G.ca G.K ρ F l vs) {a : Addr} (ha : H a = none) : Q (.ref a) (upd H a (.lst vs)) := by
  unfold made at q
  split at q
  · have r' := r.cellNew ha (o := .lst vs) (c := .lst l) ⟨vs, upd_same, h⟩
    refine q (.ref a) _ (ρ ++ [a]) F (Le.app ρ F a) r' ⟨a, ?_, rfl⟩
    rw [← r.len, List.getElem?_append_right (Nat.le_refl _), Nat.sub_self]
    rfl
  · refine q (.ref a) _ ρ (upd F a (.lst vs)) (r.frzLe ha _) (r.frzNew ha _) ⟨a, vs, rfl, .inl upd_same, RepL.mono (r.frzLe ha _) _ _ h⟩
theorem new_tup {G : Env1} {L H : Hp} {s : S} {ρ : List Addr} {F : Hp} {l : List D} {vs : List V} {Q : VK} (q : PV G L ρ F (rpD G) Q (.ok (.tup l) s)) (r : Rel G L H s ρ F) (h : RepL G.ca G.K ρ F l vs) {a : Addr} (ha : H a = none) : Q (.ref a) (upd H a (.tup vs)) :=
  q (.ref a) _ ρ (upd F a (.tup vs)) (r.frzLe ha _) (r.frzNew ha _) ⟨a, vs, rfl, upd_same, RepL.mono (r.frzLe ha _) _ _ h⟩
theorem binD_ne {op : Operator} {x y : D} {s : S} : ((binD op x y s).bind fun d s1 => made c p d s1).isErr = false := by
  unfold binD
  split <;> (first | rfl | exact made_ne | (split <;> first | rfl | exact made_ne))
theorem rep_int {ρ : List Addr} {F : Hp} {d : D} {s : S} {i : Int} {v : V} (h : RepD ca X.K ρ F d v) (e : d.view s = .int i) : v = .int i := by
  rw [view_int e] at h
  exact h
theorem rep_str {ρ : List Addr} {F : Hp} {d : D} {s : S} {i : Str} {v : V} (h : RepD ca X.K ρ F d v) (e : d.view s = .str i) : v = .str i ∧ i.length ≤ sizeLine := by
  rw [view_str e] at h
  exact h
theorem rep_bl {ρ : List Addr} {F : Hp} {d : D} {s : S} {i : Bool} {v : V} (h : RepD ca X.K ρ F d v) (e : d.view s = .bl i) : v = .bl i := by
  rw [view_bl e] at h
  exact h
/-- a list that is read -/
theorem lstR {pins : List (Addr × Obj)} {σ : L2.St} {H : Hp} {s : Shared} {l : Addr} {xs : List V} (I : Inv X pins σ H s) (hH : Rd H l (.lst xs)) : xs.length ≤ sizeLine ∧ ∃ (its : List Value) (n : Nat), Vals xs its ∧ xs.length = its.length ∧ s.heap.get? l = some { cls := .type "list", data := .seq its.toArray n } := by
  obtain ⟨z, its, n, r, e⟩ := hH.ok I.hok
  exact ⟨z, its, n, r, r.length, e⟩
/-- two lists, whatever knows them -/
theorem op_catL : OpR X (binaryOp .Add) (fun x y H Q => ∃ l b xs zs, x = .ref l ∧ y = .ref b ∧ Rd H l (.lst xs) ∧ Rd H b (.lst zs) ∧ xs.length + zs.length ≤ sizeLine ∧ ∀ p, H p = none → Q (.ref p) (upd H p (.lst (xs ++ zs)))) := by
  intro pins s σ H x y v u Q I rx ry h
  obtain ⟨l, b, xs, zs, rfl, rfl, hH, hB, hz, q⟩ := h
  cases rx
  cases ry
  obtain ⟨z, its, n, r, hl, e⟩ := lstR I hH
  obtain ⟨z2, its2, n2, r2, hl2, e2⟩ := lstR I hB
  refine PySem.P.add_list e e2 ?_ (by rw [List.size_toArray, List.size_toArray]; omega)
  have ea : its.toArray ++ its2.toArray = (its ++ its2).toArray := by simp
  rw [ea]
  exact ⟨.ref _, _, I.lnew (t' := s.toks) (r.append r2) (by rw [List.length_append]; omega), rfl, q _ I.fresh⟩
theorem op_repL : OpR X (binaryOp .Mult) (fun x y H Q => ∃ l k xs, x = .ref l ∧ y = .int k ∧ Rd H l (.lst xs) ∧ -(2 ^ 63) ≤ k ∧ k < 2 ^ 63 ∧ xs.length * k.toNat ≤ sizeLine ∧
  ∀ p, H p = none → Q (.ref p) (upd H p (.lst (List.replicate k.toNat xs).flatten))) := by
  intro pins s σ H x y v u Q I rx ry h
  obtain ⟨l, k, xs, rfl, rfl, hH, h1, h2, hz, q⟩ := h
  cases rx
  obtain ⟨t, rfl⟩ := ry
  obtain ⟨z, its, n, r, hl, e⟩ := lstR I hH
  have hlen : its.toArray.size * k.toNat ≤ sizeLine := by rw [List.size_toArray, ← hl]; exact hz
  have hcap : ¬ its.toArray.size * k.toNat > (2 ^ 63 - 1) / 8 := by
    have : (sizeLine : Nat) ≤ (2 ^ 63 - 1) / 8 := by decide
    omega
  have hfit : ¬ (!Builtin.List.listFitsIndex k) = true := by
    rw [fitsIndex_both h1 h2]
    exact Bool.false_ne_true
  have hlong : ¬ Builtin.List.listTooLong (its.toArray.size * k.toNat) = true := by
    rw [notLongL hlen]
    exact Bool.false_ne_true
  have hnew : List.foldl (fun x1 x2 => x1 ++ x2) #[] (List.replicate (if its.toArray.isEmpty = true then 0 else k.toNat) its.toArray) = (List.replicate k.toNat its).flatten.toArray := by
    have f0 : ∀ m : Nat, List.foldl (fun x1 x2 => x1 ++ x2) #[] (List.replicate m its.toArray) = (List.replicate m its).flatten.toArray := fun m => by
      have := foldl_rep its m []
      rw [List.nil_append] at this
      exact this
    rw [f0]
    cases its with
    | nil => simp
    | cons a r' => rw [if_neg (by simp)]
  refine wpAny_binaryOp_repeat_ref (T := "list") (U := "int") (by decide) ⟨_, e, rfl⟩ (fun s' => typeIs_int s' k t) noFill_list_mul F.fills_int_mul F.slot_int_rmul repeat_list F.slot_int_index.lookup
    (call_meets F.slot_int_rmul (typeIs_int s k t) F.entry_int_rmul (F.args_int_rmul_2 _ _) (int___rmul___int_list k t l its.toArray n)
      ⟨e, rfl, ⟨_, e, rfl⟩, call_meets F.slot_list_mul ⟨_, e, rfl⟩ F.entry_list_mul (F.args_list_mul_2 _ _) (AutoListH.list___mul___list_int_3 l its.toArray n k t hfit hcap hlong) ⟨e, ?_⟩⟩)
  rw [hnew]
  exact ⟨.ref _, _, I.lnew (t' := s.toks) (r.rep k.toNat) (by rw [PyProof.Rows.lm_len_rep_flat, Nat.mul_comm]; exact hz), rfl, q _ I.fresh⟩
theorem repl_rep {G : Env1} {ρ : List Addr} {F : Hp} {l : List D} {vs : List V} (h : RepL G.ca G.K ρ F l vs) : ∀ k : Nat, RepL G.ca G.K ρ F (List.replicate k l).flatten (List.replicate k vs).flatten
  | 0 => by simp [RepL]
  | k + 1 => by
    rw [List.replicate_succ, List.replicate_succ, List.flatten_cons, List.flatten_cons]
    exact RepL.append h (repl_rep h k)
abbrev gB (c : Cfg) (p : Pos) (op : Operator) : D → D → S → R D := fun x y s => (binD op x y s).bind fun d s1 => made c p d s1
theorem op_all (op : Operator) : OpR X (binaryOp op) (r2 (gx X ca T) (gB c p op)) := by
  intro pins s σ H x y v u Q I rx ry h
  obtain ⟨dx, dy, st, ρ, F, L, hx, hy, hr, q⟩ := h
  unfold gB binD at q
  split at q
  · rename_i a b ex ey
    exact op_add pins s σ H x y v u Q I rx ry ⟨a, b, rep_int hx ex, rep_int hy ey, (made_flat rfl q).here hr rfl⟩
  · rename_i a b ex ey
    exact op_add_ib pins s σ H x y v u Q I rx ry ⟨a, b, rep_int hx ex, rep_bl hy ey, (made_flat rfl q).here hr (by cases b <;> rfl)⟩
  · rename_i a b ex ey
    split at q
    · rename_i hz
      exact op_add_str pins s σ H x y v u Q I rx ry ⟨a, b, (rep_str hx ex).1, (rep_str hy ey).1, hz, (made_flat rfl q).here hr ⟨rfl, by show (a.cps ++ b.cps).size ≤ sizeLine; rw [Array.size_append]; exact hz⟩⟩
    · exact q.elim
  · rename_i a b ex ey
    split at q
    · rename_i hz
      obtain ⟨hcc, hz⟩ := hz
      rw [Bool.or_eq_false_iff] at hcc
      obtain ⟨t, vs, e1, h1, h2⟩ := hr.viewT hx ex
      obtain ⟨t', vs', e1', h1', h2'⟩ := hr.viewT hy ey
      have q := made_flat rfl q
      refine op_catA pins s σ H x y v u Q I rx ry ⟨t, t', vs, vs', e1, e1', h1, h1', by rw [← h2.length, ← h2'.length]; exact hz, fun e => ?_, fun _ e => ?_, fun _ _ a ha => new_tup q hr (RepL.append h2 h2') ha⟩
      · have el : a = [] := List.length_eq_zero_iff.mp (by rw [h2.length, e]; rfl)
        subst el
        rw [view_tup ey hcc.2, e1'] at hy
        exact q.here hr hy
      · have el : b = [] := List.length_eq_zero_iff.mp (by rw [h2'.length, e]; rfl)
        subst el
        rw [view_tup ex hcc.1, e1] at hx
        exact q.here hr (by rw [List.append_nil]; exact hx)
    · exact q.elim
  · rename_i a b ex ey
    split at q
    · rename_i hz
      obtain ⟨t, vs, e1, h1, h2⟩ := hr.viewL hx ex
      obtain ⟨t', vs', e1', h1', h2'⟩ := hr.viewL hy ey
      exact op_catL pins s σ H x y v u Q I rx ry ⟨t, t', vs, vs', e1, e1', h1, h1', by rw [← h2.length, ← h2'.length]; exact hz, fun a ha => made_lst q hr (RepL.append h2 h2') ha⟩
    · exact q.elim
  · rename_i a b ex ey
    exact op_sub pins s σ H x y v u Q I rx ry ⟨a, b, rep_int hx ex, rep_int hy ey, (made_flat rfl q).here hr rfl⟩
  · rename_i a b ex ey
    split at q
    · rename_i hz
      exact op_mul pins s σ H x y v u Q I rx ry ⟨a, b, rep_int hx ex, rep_int hy ey, hz.elim (fun h => .inl (by omega)) fun h => .inr (by omega), (made_flat rfl q).here hr rfl⟩
    · exact q.elim
  · rename_i a b ex ey
    split at q
    · rename_i hz
      obtain ⟨t, vs, e1, h1, h2⟩ := hr.viewL hx ex
      exact op_repL pins s σ H x y v u Q I rx ry ⟨t, b, vs, e1, rep_int hy ey, h1, by omega, by omega, by rw [← h2.length]; exact hz.2.2, fun a ha => made_lst q hr (repl_rep h2 _) ha⟩
    · exact q.elim
  · rename_i a b ex ey
    split at q
    · rename_i hz
      exact op_fdivN pins s σ H x y v u Q I rx ry ⟨a, b, rep_int hx ex, rep_int hy ey, hz, (made_flat rfl q).here hr rfl⟩
    · exact q.elim
  · rename_i a b ex ey
    split at q
    · rename_i hz
      exact op_modN pins s σ H x y v u Q I rx ry ⟨a, b, rep_int hx ex, rep_int hy ey, hz, (made_flat rfl q).here hr rfl⟩
    · exact q.elim
  · rename_i a b ex ey
    split at q
    · rename_i hz
      exact op_pow pins s σ H x y v u Q I rx ry ⟨a, b, rep_int hx ex, rep_int hy ey, hz, (made_flat rfl q).here hr rfl⟩
    · exact q.elim
  · exact q.elim
end
end AL
set_option Elab.async false
set_option linter.all false
set_option maxRecDepth 100000
set_option maxHeartbeats 2000000
/-! AL7: displays, attributes, subscripts, and, or, if .. else. -/
namespace AL
open PySem PySem.Spec PyProof.Rows L2
theorem star_ok {e : Expr} {es : List Expr} {env : Env} (h : starB e = false) : starEach (e :: es) env = (false, eval e env) :: starEach es env := by
  cases e <;> first | rfl | cases h
section
variable {X : Cx} {ca : Str → Addr} {T : List (Addr × Str)} {W : WX} {c : Cfg} {pos : Pos}
theorem tA_cons {G : Env1} {m : ME} {ms : Sl → S → R (List D)} {σ : L2.St} {H : Hp} {Q : List V → Hp → Prop} (h : tA G W (fun sl s => (m sl s).bind fun d s1 => (ms sl s1).bind fun ds s2 => .ok (d :: ds) s2) σ H Q) :
    tCons (tE G W m) (tA G W ms) σ H Q := by
  obtain ⟨sl, s, ρ, F, L, hs, hr, hp⟩ := tX.bind (rp := rpD G) (f := fun sl x s1 => (ms sl s1).bind fun ds s2 => .ok (x :: ds) s2) h
  refine ⟨sl, s, ρ, F, L, hs, hr, hp.imp (.refl ρ F) fun _ _ _ x H1 _ _ _ _ _ q => ?_⟩
  obtain ⟨sl, s, dx, s1, ρ1, F1, L, _, hs1, hr1, hx, q⟩ := q
  refine ⟨sl, s1, ρ1, F1, L, hs1, hr1, (PB.bind (rp := rpL G) q).imp (.refl ρ1 F1) fun _ _ _ y H2 _ _ _ _ _ q => ?_⟩
  obtain ⟨dy, s2, ρ2, F2, _, l2, hr2, hy, q⟩ := q
  exact q (x :: y) H2 ρ2 F2 (.refl ρ2 F2) hr2 ⟨x, y, rfl, RepD.mono l2 _ _ hx, hy⟩
theorem aa_many {f : Expr → ME} (hf : ∀ e, PE X e (tE (gx X ca T) W (f e))) : ∀ {es : List Expr}, es.any starB = false → PA X es (tA (gx X ca T) W (many f es))
  | [], _ => pa_nil.weak fun σ H Q ⟨sl, s, ρ, F, L, hs, hr, hp⟩ => hp [] H ρ F (.refl ρ F) hr rfl
  | e :: es, h => by
    rw [List.any_cons, Bool.or_eq_false_iff] at h
    exact (pa_cons (hf e) (aa_many hf h.2) (star_ok h.1)).weak fun σ H Q q => tA_cons q
theorem many_len {f : Expr → ME} : ∀ {es : List Expr} {sl : Sl} {s s' : S} {ds : List D}, many f es sl s = .ok ds s' → ds.length = es.length
  | [], sl, s, s', ds, h => by
    have h : R.ok [] s = R.ok ds s' := h
    cases h
    rfl
  | e :: es, sl, s, s', ds, h => by
    unfold many at h
    cases h1 : f e sl s with
    | ok d s1 =>
      rw [h1] at h
      have h : (many f es sl s1).bind (fun ds s2 => .ok (d :: ds) s2) = .ok ds s' := h
      cases h2 : many f es sl s1 with
      | ok r s2 =>
        rw [h2] at h
        have h : R.ok (d :: r) s2 = R.ok ds s' := h
        cases h
        rw [List.length_cons, List.length_cons, many_len h2]
      | err x s2 => rw [h2] at h; cases h
      | bad => rw [h2] at h; cases h
    | err x s1 => rw [h1] at h; cases h
    | bad => rw [h1] at h; cases h
/-- what follows a list of values -/
theorem tA_then {G : Env1} {ms : Sl → S → R (List D)} {g : List D → S → R D} (hg : ∀ l s, (g l s).isErr = false) {σ : L2.St} {H : Hp} {Q : VK} (h : tE G W (fun sl s => (ms sl s).bind fun ds s1 => g ds s1) σ H Q) :
    tA G W ms σ H fun xs H1 => ∃ sl0 s0 ds s ρ F L, ms sl0 s0 = .ok ds s ∧ Rel G L H1 s ρ F ∧ RepL G.ca G.K ρ F ds xs ∧ PV G L ρ F (rpD G) Q (g ds s) := by
  obtain ⟨sl, s, ρ, F, L, hs, hr, hp⟩ := tX.bind (rp := rpL G) (f := fun sl x s1 => g x s1) h
  refine ⟨sl, s, ρ, F, L, hs, hr, hp.imp (.refl ρ F) fun _ _ _ x H1 _ _ _ _ _ q => ?_⟩
  obtain ⟨sl, s, dx, s1, ρ1, F1, L, e, hs1, hr1, hx, q⟩ := q
  exact ⟨sl, s, dx, s1, ρ1, F1, L, e, hr1, hx, q.pv (hg dx s1)⟩
theorem len1000 {n : Nat} (h : n ≤ 1000) : n ≤ sizeLine := Nat.le_trans h (by decide)
theorem ae_tuple {f : Expr → ME} {es : List Expr} {k : Nat} (hf : ∀ e, PE X e (tE (gx X ca T) W (f e))) (hn : es.any starB = false) (hl : es.length ≤ 1000) :
    PE X (.Tuple es k pos) (tE (gx X ca T) W fun sl s => (many f es sl s).bind fun ds s1 => .ok (.tup ds) s1) :=
  (pe_tup (aa_many hf hn)).weak fun σ H Q q => by
    obtain ⟨sl, s, ρ, F, L, hs, hr, hp⟩ := tA_then (g := fun ds s1 => .ok (.tup ds) s1) (fun _ _ => rfl) q
    refine ⟨sl, s, ρ, F, L, hs, hr, hp.imp (.refl ρ F) fun _ _ _ x H1 _ _ _ _ _ q => ?_⟩
    obtain ⟨sl0, s0, ds, s, ρ, F, L, e, hr, h, q⟩ := q
    exact ⟨by rw [← h.length, many_len e]; exact len1000 hl, fun a ha => new_tup q hr h ha⟩
theorem ae_list {f : Expr → ME} {es : List Expr} {p : Pos} (hf : ∀ e, PE X e (tE (gx X ca T) W (f e))) (hn : es.any starB = false) (hl : es.length ≤ 1000) :
    PE X (.List es pos) (tE (gx X ca T) W fun sl s => (many f es sl s).bind fun ds s1 => made c p (.lst ds) s1) :=
  (pe_lst (aa_many hf hn)).weak fun σ H Q q => by
    obtain ⟨sl, s, ρ, F, L, hs, hr, hp⟩ := tA_then (g := fun ds s1 => made c p (.lst ds) s1) (fun _ _ => made_ne) q
    refine ⟨sl, s, ρ, F, L, hs, hr, hp.imp (.refl ρ F) fun _ _ _ x H1 _ _ _ _ _ q => ?_⟩
    obtain ⟨sl0, s0, ds, s, ρ, F, L, e, hr, h, q⟩ := q
    exact ⟨by rw [← h.length, many_len e]; exact len1000 hl, fun a ha => made_lst q hr h ha⟩
/-! ### attributes -/
theorem noSuper {o : Expr} {f : Str} {env : Env} (h : superB o = false) : attributeBase o f env (eval o env) = eval o env := by
  unfold attributeBase
  split
  · rename_i id _ _
    have h' : (id == ("super" : Str)) = false := h
    have h2 : (id != ("super" : Str)) = true := by rw [bne, h']; rfl
    exact if_pos (by rw [h2, Bool.true_or, Bool.true_or, Bool.true_or])
  · rfl
theorem ae_attr {o : Expr} {m : ME} {f : Str} (ho : PE X o (tE (gx X ca T) W m)) (h : superB o = false) : PE X (.Attribute o f pos) (tE (gx X ca T) W (una (atM f) m)) :=
  (pe_fld ho (noSuper h)).weak fun σ H Q q => by
    obtain ⟨sl, s, ρ, F, L, hs, hr, hp⟩ := one_step (fun x s => by unfold atM; split <;> rfl) q
    refine ⟨sl, s, ρ, F, L, hs, hr, hp.imp (.refl ρ F) fun _ _ _ x H1 _ _ _ _ _ q => ?_⟩
    obtain ⟨dx, s, ρ, F, L, hx, hr, q⟩ := q
    unfold atM getAt at q
    split at q
    · rename_i d hd
      split at hd
      · rename_i C l ev
        obtain ⟨a, dx', vs, e1, h1, h2, h3⟩ := hr.viewO hx ev
        obtain ⟨v, q1, q2, q3⟩ := h2.look hd
        exact ⟨a, _, dx', vs, v, e1, h1, h3.cls, h3.no _ q3, q1, q.here hr q2⟩
      · cases hd
    · exact q.elim
/-! ### subscripts -/
theorem plainIx {b : Expr} (h : sliceB b = false) : PlainIx b := fun o i => by
  cases b with
  | Slice l u s p =>
    cases s with
    | none => cases h
    | some s => rfl
  | _ => rfl
theorem IxR_dict (hu : X.A.units + 1 < cLine) : IxR X (fun x y H Q => ∃ a v, x = .ref a ∧ DGet H a y (some v) ∧ Q v H) := by
  intro value slice pins s σ H x y v u Q I rx ry ⟨a, w, e, g, q⟩ hs
  subst e
  cases rx
  exact tail_any (dict_typeIs I g) PySem.F.slot_dict_getitem.lookup (d_getItem hu I g ry fun w' s' I' rw' => ⟨w, H, I', rw', q⟩) hs
def OptR (G : Env1) (ρ : List Addr) (F : Hp) : Option D → Option V → Prop
  | some d, w => ∃ v, w = some v ∧ RepD G.ca G.K ρ F d v
  | none, w => w = none
theorem RepK.val {G : Env1} {ρ : List Addr} {F : Hp} : ∀ {l : List (Key × D)} {vs : List (Key × V)} (k : Key), RepK G.ca G.K ρ F l vs → OptR G ρ F (lookK k l) (valV vs k)
  | [], _, k, h => by
    have h : _ = [] := h
    rw [h]
    rfl
  | (k', d) :: l, _, k, ⟨v, r, e, q, t, _⟩ => by
    rw [e]
    unfold lookK
    by_cases hk : k' = k
    · rw [if_pos hk]
      exact ⟨v, valV_pos hk, q⟩
    · rw [if_neg hk, valV_neg hk]
      exact RepK.val k t
theorem RepT.val {G : Env1} {ρ : List Addr} {F : Hp} : ∀ {l : List (List Key × D)} {vs : List (List Key × V)} (k : List Key), RepT G.ca G.K ρ F l vs → OptR G ρ F (lookK k l) (valV vs k)
  | [], _, k, h => by
    have h : _ = [] := h
    rw [h]
    rfl
  | (k', d) :: l, _, k, ⟨v, r, e, q, t, _⟩ => by
    rw [e]
    unfold lookK
    by_cases hk : k' = k
    · rw [if_pos hk]
      exact ⟨v, valV_pos hk, q⟩
    · rw [if_neg hk, valV_neg hk]
      exact RepT.val k t
theorem keysOf_rep {G : Env1} {ρ : List Addr} {F : Hp} : ∀ {l : List D} {ks : List Key} {vs : List V}, keysOf l = some ks → RepL G.ca G.K ρ F l vs → vs = ks.map kV ∧ ∀ q ∈ ks, keyOk q
  | [], ks, vs, e, h => by
    cases e
    exact ⟨h, by simp⟩
  | d :: l, ks, vs, e, ⟨v, r, e1, q, t⟩ => by
    unfold keysOf at e
    cases hd : d.key with
    | none => rw [hd] at e; cases e
    | some k =>
      cases hl : keysOf l with
      | none => rw [hd, hl] at e; cases e
      | some ks' =>
        rw [hd, hl] at e
        cases e
        obtain ⟨h1, h2⟩ := keysOf_rep hl t
        have hv : v = kV k ∧ keyOk k := by
          cases d with
          | int i => cases hd; exact ⟨q, trivial⟩
          | str x => cases hd; exact q
          | _ => cases hd
        rw [e1, h1, hv.1]
        exact ⟨rfl, fun z hz => by
          rcases List.mem_cons.mp hz with h | h
          · rw [h]; exact hv.2
          · exact h2 z h⟩
/-- what a written or made dict holds at a key -/
theorem getD_rep {G : Env1} {L H : Hp} {s : S} {ρ : List Addr} {F : Hp} (r : Rel G L H s ρ F) {d k : D} {v y : V} {o : Option D} (h : RepD G.ca G.K ρ F d v) (hk : RepD G.ca G.K ρ F k y) (e : getD? (d.view s) k = some o) :
    ∃ a w, v = .ref a ∧ DGet H a y w ∧ OptR G ρ F o w := by
  unfold getD? at e
  split at e
  · rename_i l ev
    obtain ⟨a, vs, e1, h1, h2⟩ := r.viewK h ev
    have fin : ∀ (q : Key), y = kV q → ∃ a w, v = .ref a ∧ DGet H a y w ∧ OptR G ρ F (lookK q l) w := fun q hq => ⟨a, _, e1, .inl ⟨vs, q, h1, hq, rfl⟩, RepK.val q h2⟩
    split at e
    · cases e
      exact fin (.inl _) hk
    · cases e
      exact fin (.inr _) hk.1
    · cases e
  · rename_i l ev
    obtain ⟨a, vs, e1, h1, h2⟩ := r.viewD h ev
    split at e
    · rename_i ks
      split at e
      · rename_i q hq
        cases e
        obtain ⟨b, ws, q1, q2, q3⟩ := hk
        obtain ⟨q4, _⟩ := keysOf_rep hq q3
        refine ⟨a, _, e1, .inr ⟨vs, q, b, h1, q1, ?_, rfl⟩, ?_⟩
        · rw [← q4]
          exact (r.frz _ _ q2).1
        · exact RepT.val q h2
      · cases e
    · cases e
  · cases e
theorem ixM_ne (x y : D) (s : S) : (ixM x y s).isErr = false := by unfold ixM; split <;> rfl
theorem IxR_all (hu : X.A.units + 1 < cLine) : IxR X (r2 (gx X ca T) ixM) := by
  intro value slice pins s σ H x y v u Q I rx ry ⟨dx, dy, st, ρ, F, L, hx, hy, hr, q⟩ hs
  unfold ixM at q
  split at q
  · rename_i d hd
    unfold getIx at hd
    split at hd
    · rename_i l ev
      split at hd
      rotate_left
      · cases hd
      rename_i i
      obtain ⟨a, vs, e1, h1, h2⟩ := hr.viewL hx ev
      cases hj : ixOf i l.length with
      | none => rw [hj] at hd; cases hd
      | some j =>
        rw [hj] at hd
        obtain ⟨w, hw, hrw⟩ := h2.get hd
        refine ix_list value slice pins s σ H x y v u Q I rx ry ⟨a, vs, i, w, e1, hy, .inl h1, ?_, q.here hr hrw⟩ hs
        unfold atI
        rw [← h2.length]
        have hj : L2.ixN l.length i = some j := hj
        rw [hj]
        exact hw
    · rename_i l ev
      split at hd
      rotate_left
      · cases hd
      rename_i i
      obtain ⟨a, vs, e1, h1, h2⟩ := hr.viewT hx ev
      cases hj : ixOf i l.length with
      | none => rw [hj] at hd; cases hd
      | some j =>
        rw [hj] at hd
        obtain ⟨w, hw, hrw⟩ := h2.get hd
        refine ix_tup value slice pins s σ H x y v u Q I rx ry ⟨a, vs, i, w, e1, hy, h1, ?_, q.here hr hrw⟩ hs
        unfold atI
        rw [← h2.length]
        have hj : L2.ixN l.length i = some j := hj
        rw [hj]
        exact hw
    · rename_i z ev
      split at hd
      rotate_left
      · cases hd
      rename_i i
      obtain ⟨e1, h1⟩ := rep_str hx ev
      cases hj : ixOf i z.length with
      | none => rw [hj] at hd; cases hd
      | some j =>
        rw [hj] at hd
        have hd : (z.cps[j]?).map (fun c => D.str ⟨#[c]⟩) = some d := hd
        cases hc : z.cps[j]? with
        | none => rw [hc] at hd; cases hd
        | some ch =>
          rw [hc] at hd
          cases hd
          refine ix_str value slice pins s σ H x y v u Q I rx ry ⟨z, i, ch, e1, hy, h1, ?_, q.here hr ⟨rfl, by show 1 ≤ sizeLine; decide⟩⟩ hs
          unfold atI
          have hj : L2.ixN z.cps.size i = some j := hj
          rw [Array.length_toList, hj]
          show z.cps.toList[j]? = some ch
          rw [Array.getElem?_toList]
          exact hc
    · rename_i l ev
      cases hg : getD? (.dk l) dy with
      | none => rw [hg] at hd; cases hd
      | some o =>
        rw [hg] at hd
        have hd : o = some d := hd
        subst hd
        obtain ⟨a, w, e1, g, w', e2, h2⟩ := getD_rep hr hx hy (by rw [ev]; exact hg)
        subst e2
        exact IxR_dict hu value slice pins s σ H x y v u Q I rx ry ⟨a, w', e1, g, q.here hr h2⟩ hs
    · rename_i l ev
      cases hg : getD? (.dt l) dy with
      | none => rw [hg] at hd; cases hd
      | some o =>
        rw [hg] at hd
        have hd : o = some d := hd
        subst hd
        obtain ⟨a, w, e1, g, w', e2, h2⟩ := getD_rep hr hx hy (by rw [ev]; exact hg)
        subst e2
        exact IxR_dict hu value slice pins s σ H x y v u Q I rx ry ⟨a, w', e1, g, q.here hr h2⟩ hs
    · cases hd
  · exact q.elim
end
end AL
set_option Elab.async false
set_option linter.all false
set_option maxRecDepth 100000
set_option maxHeartbeats 2000000
/-! AL8: and, or, not, if .. else; tests; slices. -/
namespace AL
open PySem PySem.Spec PyProof.Rows L2
section
variable {X : Cx} {ca : Str → Addr} {T : List (Addr × Str)} {W : WX} {c : Cfg} {pos : Pos} {a b t : Expr} {ma mb : ME} {mt : MT}
theorem ae_ife (ht : PT X t (tT (gx X ca T) W mt)) (ha : PE X a (tE (gx X ca T) W ma)) (hb : PE X b (tE (gx X ca T) W mb)) :
    PE X (.IfExp t a b pos) (tE (gx X ca T) W fun sl s => (mt sl s).bind fun b' s1 => if b' = true then ma sl s1 else mb sl s1) :=
  (pe_ifExp ht ha hb).weak fun σ H Q q => by
    obtain ⟨sl, s, ρ, F, L, hs, hr, hp⟩ := tX.bind (rp := rpB) (f := fun sl b' s1 => if b' = true then ma sl s1 else mb sl s1) q
    refine ⟨sl, s, ρ, F, L, hs, hr, hp.imp (.refl ρ F) fun _ _ _ x H1 _ _ _ _ _ q => ?_⟩
    obtain ⟨sl, s, b', s1, ρ1, F1, L, _, hs1, hr1, hx, q⟩ := q
    have hx : b' = x := hx
    subst hx
    cases b' with
    | true => exact ⟨sl, s1, ρ1, F1, L, hs1, hr1, q⟩
    | false => exact ⟨sl, s1, ρ1, F1, L, hs1, hr1, q⟩
theorem un_not : UnR X (unaryOp .Not) (fun x H Q => ∃ b, x = .bl b ∧ Q (.bl !b) H) := by
  intro pins s σ H x v Q I rx ⟨b, e, q⟩
  subst e
  cases rx
  exact not_of (wpAny_truthy_bool ⟨.bl (!b), H, I, rfl, q⟩)
theorem ae_not (ha : PE X a (tE (gx X ca T) W ma)) : PE X (.UnaryOp .Not a pos) (tE (gx X ca T) W (una notM ma)) :=
  ae_un (fun x s => by unfold notM; split <;> rfl) (fun pins s σ H x v Q I rx ⟨dx, st, ρ, F, L, hx, hr, q⟩ => by
    unfold notM at q
    split at q
    · rename_i b
      exact un_not pins s σ H x v Q I rx ⟨b, hx, q.here hr rfl⟩
    · exact q.elim) ha
theorem ae_neg (ha : PE X a (tE (gx X ca T) W ma)) : PE X (.UnaryOp .USub a pos) (tE (gx X ca T) W (una negM ma)) :=
  ae_un (fun x s => by unfold negM; split <;> rfl) (fun pins s σ H x v Q I rx ⟨dx, st, ρ, F, L, hx, hr, q⟩ => by
    unfold negM at q
    split at q
    · rename_i b
      exact un_neg pins s σ H x v Q I rx ⟨b, hx, q.here hr rfl⟩
    · exact q.elim) ha
theorem ae_andV {f : Expr → ME} (hf : ∀ e, PE X e (tE (gx X ca T) W (f e))) : ∀ vs : List Expr, PE X (.BoolOp .And vs pos) (tE (gx X ca T) W (andV f vs))
  | [] => ae_bad
  | [a] => (pe_one (hf a)).weak fun _ _ _ q => q
  | a :: b :: l => (pe_and (hf a) (ae_andV hf (b :: l))).weak fun σ H Q q => by
    obtain ⟨sl, s, ρ, F, L, hs, hr, hp⟩ := tX.bind (rp := rpD (gx X ca T)) (f := fun sl d s1 => (asB d s1).bind fun b' s2 => if b' = true then andV f (b :: l) sl s2 else .ok (.bl false) s2) q
    refine ⟨sl, s, ρ, F, L, hs, hr, hp.imp (.refl ρ F) fun _ _ _ x H1 _ _ _ _ _ q => ?_⟩
    obtain ⟨sl, s, d, s1, ρ1, F1, L, _, hs1, hr1, hx, q⟩ := q
    unfold asB at q
    cases d with
    | bl b' =>
      refine ⟨b', hx, ?_⟩
      cases b' with
      | true => exact ⟨sl, s1, ρ1, F1, L, hs1, hr1, q⟩
      | false => exact q (.bl false) H1 ρ1 F1 (.refl ρ1 F1) hr1 rfl
    | _ => exact q.elim
theorem ae_orV {f : Expr → ME} (hf : ∀ e, PE X e (tE (gx X ca T) W (f e))) : ∀ vs : List Expr, PE X (.BoolOp .Or vs pos) (tE (gx X ca T) W (orV f vs))
  | [] => ae_bad
  | [a] => (pe_one (hf a)).weak fun _ _ _ q => q
  | a :: b :: l => (pe_or (hf a) (ae_orV hf (b :: l))).weak fun σ H Q q => by
    obtain ⟨sl, s, ρ, F, L, hs, hr, hp⟩ := tX.bind (rp := rpD (gx X ca T)) (f := fun sl d s1 => (asB d s1).bind fun b' s2 => if b' = true then .ok (.bl true) s2 else orV f (b :: l) sl s2) q
    refine ⟨sl, s, ρ, F, L, hs, hr, hp.imp (.refl ρ F) fun _ _ _ x H1 _ _ _ _ _ q => ?_⟩
    obtain ⟨sl, s, d, s1, ρ1, F1, L, _, hs1, hr1, hx, q⟩ := q
    unfold asB at q
    cases d with
    | bl b' =>
      refine ⟨b', hx, ?_⟩
      cases b' with
      | true => exact q (.bl true) H1 ρ1 F1 (.refl ρ1 F1) hr1 rfl
      | false => exact ⟨sl, s1, ρ1, F1, L, hs1, hr1, q⟩
    | _ => exact q.elim
/-! ### tests -/
theorem at_step {f : Expr → MT} {g : Bool → Sl → S → R Bool} {σ : L2.St} {H : Hp} {Q : Bool → Hp → Prop} (h : tT (gx X ca T) W (fun sl s => (mt sl s).bind fun b s1 => g b sl s1) σ H Q) :
    tT (gx X ca T) W mt σ H fun b H1 => tT (gx X ca T) W (g b) σ H1 Q := by
  obtain ⟨sl, s, ρ, F, L, hs, hr, hp⟩ := tX.bind (rp := rpB) (f := fun sl b s1 => g b sl s1) h
  refine ⟨sl, s, ρ, F, L, hs, hr, hp.imp (.refl ρ F) fun _ _ _ x H1 _ _ _ _ _ q => ?_⟩
  obtain ⟨sl, s, b', s1, ρ1, F1, L, _, hs1, hr1, hx, q⟩ := q
  have hx : b' = x := hx
  subst hx
  exact ⟨sl, s1, ρ1, F1, L, hs1, hr1, q⟩
theorem tT_pure {b : Bool} {σ : L2.St} {H : Hp} {Q : Bool → Hp → Prop} (h : tT (gx X ca T) W (fun _ s => .ok b s) σ H Q) : Q b H := by
  obtain ⟨sl, s, ρ, F, L, hs, hr, hp⟩ := h
  exact hp b H ρ F (.refl ρ F) hr rfl
theorem aw_and {f : Expr → MT} (hf : ∀ e, PT X e (tT (gx X ca T) W (f e))) : ∀ (a : Expr) (l : List Expr), PW X (.BoolOp .And (a :: l) pos) (tT (gx X ca T) W (andT f (a :: l)))
  | a, [] => pw_and1 (hf a)
  | a, b :: l => ⟨fun whole pins s σ H Q I q => (pw_and (hf a) (aw_and hf b l)).run whole pins s σ H Q I (by
    have q := at_step (f := f) (g := fun b' sl s1 => if b' = true then andT f (b :: l) sl s1 else .ok false s1) q
    obtain ⟨sl, s, ρ, F, L, hs, hr, hp⟩ := q
    refine ⟨sl, s, ρ, F, L, hs, hr, hp.imp (.refl ρ F) fun _ _ _ x H1 _ _ _ _ _ q => ?_⟩
    cases x with
    | true => exact q
    | false => exact tT_pure q)⟩
theorem aw_or {f : Expr → MT} (hf : ∀ e, PT X e (tT (gx X ca T) W (f e))) : ∀ (a : Expr) (l : List Expr), PW X (.BoolOp .Or (a :: l) pos) (tT (gx X ca T) W (orT f (a :: l)))
  | a, [] => pw_or1 (hf a)
  | a, b :: l => ⟨fun whole pins s σ H Q I q => (pw_or (hf a) (aw_or hf b l)).run whole pins s σ H Q I (by
    have q := at_step (f := f) (g := fun b' sl s1 => if b' = true then .ok true s1 else orT f (b :: l) sl s1) q
    obtain ⟨sl, s, ρ, F, L, hs, hr, hp⟩ := q
    refine ⟨sl, s, ρ, F, L, hs, hr, hp.imp (.refl ρ F) fun _ _ _ x H1 _ _ _ _ _ q => ?_⟩
    cases x with
    | true => exact tT_pure q
    | false => exact q)⟩
theorem at_and {f : Expr → MT} (hf : ∀ e, PT X e (tT (gx X ca T) W (f e))) : ∀ vs : List Expr, PT X (.BoolOp .And vs pos) (tT (gx X ca T) W (andT f vs))
  | [] => at_bad
  | a :: l => (aw_and hf a l).pt
theorem at_or {f : Expr → MT} (hf : ∀ e, PT X e (tT (gx X ca T) W (f e))) : ∀ vs : List Expr, PT X (.BoolOp .Or vs pos) (tT (gx X ca T) W (orT f vs))
  | [] => at_bad
  | a :: l => (aw_or hf a l).pt
theorem at_not (ha : PT X a (tT (gx X ca T) W mt)) : PT X (.UnaryOp .Not a pos) (tT (gx X ca T) W fun sl s => (mt sl s).bind fun b s1 => .ok (!b) s1) :=
  (pt_not ha).weak fun σ H Q q => by
    obtain ⟨sl, s, ρ, F, L, hs, hr, hp⟩ := at_step (f := fun _ => mt) (g := fun b _ s1 => .ok (!b) s1) q
    exact ⟨sl, s, ρ, F, L, hs, hr, hp.imp (.refl ρ F) fun _ _ _ x H1 _ _ _ _ _ q => tT_pure q⟩
/-- a test that is its value's truth -/
theorem at_tru (ha : PE X a (tE (gx X ca T) W ma)) (he : ∀ whole, isTrue a X.env whole = (do let v ← whole; standAt a.pos; holding [v] (truthy v))) : PT X a (tT (gx X ca T) W (truM ma)) :=
  (pt_truth ha he).weak fun σ H Q q => by
    obtain ⟨sl, s, ρ, F, L, hs, hr, hp⟩ := tX.bind (rp := rpD (gx X ca T)) (f := fun sl d s1 => match truthD d s1 with
      | some b => .ok b s1
      | none => .bad) q
    refine ⟨sl, s, ρ, F, L, hs, hr, hp.imp (.refl ρ F) fun _ _ _ x H1 _ _ _ _ _ q => ?_⟩
    obtain ⟨sl, s, d, s1, ρ1, F1, L, _, hs1, hr1, hx, q⟩ := q
    split at q
    rotate_left
    · exact q.elim
    rename_i k hk
    refine ⟨k, ?_, q k H1 ρ1 F1 (.refl ρ1 F1) hr1 rfl⟩
    unfold truthD at hk
    split at hk
    · rename_i ev
      rw [view_non ev] at hx
      cases hk
      have hx : x = .non := hx
      rw [hx]
      rfl
    · rename_i b ev
      rw [rep_bl hx ev]
      cases hk
      rfl
    · rename_i i ev
      rw [rep_int hx ev]
      cases hk
      rfl
    · rename_i z ev
      obtain ⟨e1, e2⟩ := rep_str hx ev
      rw [e1]
      cases hk
      refine ⟨e2, ?_⟩
      cases hz : z.length with
      | zero => rfl
      | succ n =>
        show (n + 1 != 0) = (((n + 1 : Nat) : Int) != 0)
        have h1 : (n + 1 != 0) = true := by simp
        have h2 : (((n + 1 : Nat) : Int) != 0) = true := by
          rw [bne_iff_ne]
          omega
        rw [h1, h2]
    · rename_i l ev
      obtain ⟨a', vs, e1, h1, h2⟩ := hr1.viewT hx ev
      rw [e1]
      cases hk
      refine .inr (.inl ⟨vs, h1, ?_⟩)
      have := h2.length
      cases l <;> cases vs <;> first | rfl | cases this
    · rename_i l ev
      obtain ⟨a', vs, e1, h1, h2⟩ := hr1.viewL hx ev
      rw [e1]
      cases hk
      refine .inl ⟨vs, .inl h1, ?_⟩
      have := h2.length
      cases l <;> cases vs <;> first | rfl | cases this
    · cases hk
end
end AL
set_option Elab.async false
set_option linter.all false
set_option maxRecDepth 100000
set_option maxHeartbeats 4000000
/-! AL9: equality. -/
namespace AL
open PySem PySem.Spec PyProof.Rows L2
open PySem.W (EqTree)
theorem eqZ_ex {f : D → D → Option Bool} : ∀ {l r : List D} {q : Bool}, eqZ f l r = some q → ∃ e : Nat → Bool, (∀ j a b, l[j]? = some a → r[j]? = some b → f a b = some (e j)) ∧ q = (List.range (min l.length r.length)).all e
  | [], r, q, h => by
    have h : some true = some q := h
    cases h
    exact ⟨fun _ => true, fun j a b h1 => by simp at h1, by simp⟩
  | a :: l, [], q, h => by
    have h : some true = some q := h
    cases h
    exact ⟨fun _ => true, fun j a b h1 h2 => by simp at h2, by simp⟩
  | a :: l, b :: r, q, h => by
    unfold eqZ at h
    cases h1 : f a b with
    | none => rw [h1] at h; cases h
    | some p =>
      cases h2 : eqZ f l r with
      | none => rw [h1, h2] at h; cases h
      | some q' =>
        rw [h1, h2] at h
        have h : some (p && q') = some q := h
        cases h
        obtain ⟨e, he, hq⟩ := eqZ_ex h2
        refine ⟨fun j => match j with
          | 0 => p
          | j + 1 => e j, fun j x y hx hy => ?_, ?_⟩
        · cases j with
          | zero =>
            simp at hx hy
            subst hx hy
            exact h1
          | succ j => exact he j x y (by simpa using hx) (by simpa using hy)
        · rw [List.length_cons, List.length_cons, Nat.succ_min_succ, List.range_succ_eq_map, List.all_cons, List.all_map, hq]
          rfl
section
variable {X : Cx} {ca : Str → Addr} {T : List (Addr × Str)} {pins : List (Addr × Obj)} {σ : L2.St} {H L F : Hp} {st : Shared} {s : S} {ρ : List Addr}
theorem see_tup (I : Inv X pins σ H st) (r : Rel (gx X ca T) L H s ρ F) {x : D} {v : V} {u : Value} {l : List D} (h : RepD ca X.K ρ F x v) (rv : RelV v u) (e : x.view s = .tup l) :
    ∃ a vs its, v = .ref a ∧ u = .ref a ∧ SqT X.K H a vs ∧ RepL ca X.K ρ F l vs ∧ Vals vs its ∧ st.heap.IsTuple a its.toArray := by
  obtain ⟨a, vs, e1, h1, h2⟩ := r.viewT h e
  subst e1
  obtain ⟨its, q1, q2, _⟩ := I.tuple h1
  exact ⟨a, vs, its, rfl, rv, h1, h2, q1, q2⟩
theorem see_lst (I : Inv X pins σ H st) (r : Rel (gx X ca T) L H s ρ F) {x : D} {v : V} {u : Value} {l : List D} (h : RepD ca X.K ρ F x v) (rv : RelV v u) (e : x.view s = .lst l) :
    ∃ a vs its, v = .ref a ∧ u = .ref a ∧ Rd H a (.lst vs) ∧ RepL ca X.K ρ F l vs ∧ Vals vs its ∧ st.heap.IsList a its.toArray := by
  obtain ⟨a, vs, e1, h1, h2⟩ := r.viewL h e
  subst e1
  obtain ⟨its, q1, q2, _⟩ := I.list (X := X) (.inl h1)
  exact ⟨a, vs, its, rfl, rv, h1, h2, q1, q2.isList⟩
theorem see_dk (I : Inv X pins σ H st) (r : Rel (gx X ca T) L H s ρ F) {x : D} {v : V} {u : Value} {l : List (Key × D)} (h : RepD ca X.K ρ F x v) (rv : RelV v u) (e : x.view s = .dk l) :
    ∃ a vs us, v = .ref a ∧ u = .ref a ∧ Rd H a (.dK vs) ∧ RepK ca X.K ρ F l vs ∧ KV vs us ∧ (a == sysModules) = false ∧ st.heap.DictOf (mixKind X.prog X.w) a us := by
  obtain ⟨a, vs, e1, h1, h2⟩ := r.viewK h e
  subst e1
  obtain ⟨_, q1, us, q2, q3⟩ := dk_rd I.hok h1
  exact ⟨a, vs, us, rfl, rv, h1, h2, q2, q1, q3⟩
/-- a value by its kind -/
inductive See (h : Heap) : Nat → Value → Prop
  | non : See h 0 .none
  | bl (b : Bool) : See h 1 (.bool b)
  | int (i : Int) (t : Tok) : See h 2 (.int i t)
  | str (x : Str) (t : Tok) : See h 3 (.str x t)
  | tup (a : Addr) (its : Array Value) : h.IsTuple a its → See h 4 (.ref a)
  | lst (a : Addr) (its : Array Value) : h.IsList a its → See h 5 (.ref a)
theorem see (I : Inv X pins σ H st) (r : Rel (gx X ca T) L H s ρ F) {x : D} {v : V} {u : Value} (h : RepD ca X.K ρ F x v) (rv : RelV v u) (e : kd (x.view s) < 9) : See st.heap (kd (x.view s)) u := by
  cases ev : x.view s with
  | non =>
    rw [view_non ev] at h
    have h : v = .non := h
    subst h
    cases rv
    exact .non
  | bl b =>
    obtain rfl := rep_bl h ev
    cases rv
    exact .bl b
  | int i =>
    obtain rfl := rep_int h ev
    obtain ⟨t, rfl⟩ := rv
    exact .int i t
  | str z =>
    obtain ⟨rfl, _⟩ := rep_str h ev
    obtain ⟨t, rfl⟩ := rv
    exact .str z t
  | tup l =>
    obtain ⟨a, vs, its, _, e2, _, _, _, h2⟩ := see_tup I r h rv ev
    subst e2
    exact .tup a _ h2
  | lst l =>
    obtain ⟨a, vs, its, _, e2, _, _, _, h2⟩ := see_lst I r h rv ev
    subst e2
    exact .lst a _ h2
  | _ => rw [ev] at e; exact absurd e (by simp [kd])
theorem see_tree {prog : Program} {w : World} {n : Nat} {i j : Nat} {u z : Value} (h1 : See st.heap i u) (h2 : See st.heap j z) (d : differ i j = true) : EqTree prog w st (n + 1) u z false := by
  have lt : ∀ A : Around, A.units + (n + 1) < cLine → A.units < cLine := fun A h => by omega
  cases h1 with
  | non  =>
    cases h2 with
    | non  => cases d
    | bl b2 => exact .leaf fun A hu => SeqAt.EqAt.none_bool b2
    | int i2 t2 => exact .leaf fun A hu => SeqAt.EqAt.none_int i2 t2
    | str x2 t2 => exact .leaf fun A hu => SeqAt.EqAt.none_str x2 t2
    | tup a2 its2 h2 => exact .leaf fun A hu => SeqAt.EqAt.none_tuple h2 (lt A hu)
    | lst a2 its2 h2 => exact .leaf fun A hu => SeqAt.EqAt.none_list h2 (lt A hu)
  | bl b1 =>
    cases h2 with
    | non  => exact .leaf fun A hu => SeqAt.EqAt.bool_none b1
    | bl b2 => cases d
    | int i2 t2 => cases d
    | str x2 t2 => exact .leaf fun A hu => SeqAt.EqAt.bool_str b1 x2 t2
    | tup a2 its2 h2 => exact .leaf fun A hu => SeqAt.EqAt.bool_tuple b1 h2 (lt A hu)
    | lst a2 its2 h2 => exact .leaf fun A hu => SeqAt.EqAt.bool_list b1 h2 (lt A hu)
  | int i1 t1 =>
    cases h2 with
    | non  => exact .leaf fun A hu => SeqAt.EqAt.int_none i1 t1
    | bl b2 => cases d
    | int i2 t2 => cases d
    | str x2 t2 => exact .leaf fun A hu => SeqAt.EqAt.int_str i1 t1 x2 t2
    | tup a2 its2 h2 => exact .leaf fun A hu => SeqAt.EqAt.int_tuple i1 t1 h2 (lt A hu)
    | lst a2 its2 h2 => exact .leaf fun A hu => SeqAt.EqAt.int_list i1 t1 h2 (lt A hu)
  | str x1 t1 =>
    cases h2 with
    | non  => exact .leaf fun A hu => SeqAt.EqAt.str_none x1 t1
    | bl b2 => exact .leaf fun A hu => SeqAt.EqAt.str_bool x1 t1 b2
    | int i2 t2 => exact .leaf fun A hu => SeqAt.EqAt.str_int x1 t1 i2 t2
    | str x2 t2 => cases d
    | tup a2 its2 h2 => exact .leaf fun A hu => SeqAt.EqAt.str_tuple x1 t1 h2 (lt A hu)
    | lst a2 its2 h2 => exact .leaf fun A hu => SeqAt.EqAt.str_list x1 t1 h2 (lt A hu)
  | tup a1 its1 h1 =>
    cases h2 with
    | non  => exact .leaf fun A hu => SeqAt.EqAt.tuple_none h1 (lt A hu)
    | bl b2 => exact .leaf fun A hu => SeqAt.EqAt.tuple_bool b2 h1 (lt A hu)
    | int i2 t2 => exact .leaf fun A hu => SeqAt.EqAt.tuple_int i2 t2 h1 (lt A hu)
    | str x2 t2 => exact .leaf fun A hu => SeqAt.EqAt.tuple_str x2 t2 h1 (lt A hu)
    | tup a2 its2 h2 => cases d
    | lst a2 its2 h2 => exact .leaf fun A hu => SeqAt.EqAt.tuple_list h1 h2 (lt A hu)
  | lst a1 its1 h1 =>
    cases h2 with
    | non  => exact .leaf fun A hu => SeqAt.EqAt.list_none h1 (lt A hu)
    | bl b2 => exact .leaf fun A hu => SeqAt.EqAt.list_bool b2 h1 (lt A hu)
    | int i2 t2 => exact .leaf fun A hu => SeqAt.EqAt.list_int i2 t2 h1 (lt A hu)
    | str x2 t2 => exact .leaf fun A hu => SeqAt.EqAt.list_str x2 t2 h1 (lt A hu)
    | tup a2 its2 h2 => exact .leaf fun A hu => SeqAt.EqAt.list_tuple h1 h2 (lt A hu)
    | lst a2 its2 h2 => cases d
theorem isTL {h : Heap} {a : Addr} {x y : Array Value} (h1 : h.IsTuple a x) (h2 : h.IsList a y) : False := by
  obtain ⟨o, e, c, _⟩ := h1
  obtain ⟨o', e', c', _⟩ := h2
  rw [e] at e'
  cases e'
  rw [c] at c'
  exact absurd (Value.type.inj c') (by decide)
theorem see_one {h : Heap} {i j : Nat} {u : Value} (h1 : See h i u) (h2 : See h j u) : i = j := by
  cases h1 <;> cases h2 <;> first | rfl | (exfalso; exact isTL (by assumption) (by assumption))
theorem eqK_ex {f : D → D → Option Bool} : ∀ {l r : List (Key × D)} {q : Bool}, eqK f l r = some q → (l.map (·.1)).Nodup → ∃ e : Key → Bool, q = l.all (fun p => (lookK p.1 r).isSome && e p.1) ∧ ∀ k a b, (k, a) ∈ l → lookK k r = some b → f a b = some (e k)
  | [], r, q, h, _ => by
    have h : some true = some q := h
    cases h
    exact ⟨fun _ => true, rfl, fun k a b h1 => by simp at h1⟩
  | (k0, a0) :: l, r, q, h, nd => by
    unfold eqK at h
    have nd' := List.nodup_cons.mp nd
    cases h1 : eqK f l r with
    | none => rw [h1] at h; cases h
    | some q' =>
      rw [h1] at h
      obtain ⟨e, he, hq⟩ := eqK_ex h1 nd'.2
      have ne : ∀ z ∈ l, z.1 ≠ k0 := fun z hz e' => nd'.1 (by
        have := List.mem_map_of_mem (f := (·.1)) hz
        rw [e'] at this
        exact this)
      have step : ∀ p : Bool, (∀ b, lookK k0 r = some b → f a0 b = some p) → q = (((lookK k0 r).isSome && p) && q') → ∃ e : Key → Bool, q = ((k0, a0) :: l).all (fun p => (lookK p.1 r).isSome && e p.1) ∧ ∀ k a b, (k, a) ∈ (k0, a0) :: l → lookK k r = some b → f a b = some (e k) := fun p hp hq' => by
        refine ⟨fun k => if k = k0 then p else e k, ?_, fun k a b hm hb => ?_⟩
        · rw [List.all_cons, hq', he]
          simp only [if_true]
          congr 1
          rw [Bool.eq_iff_iff, List.all_eq_true, List.all_eq_true]
          constructor
          · intro h z hz
            rw [if_neg (ne z hz)]
            exact h z hz
          · intro h z hz
            have := h z hz
            rw [if_neg (ne z hz)] at this
            exact this
        · rcases List.mem_cons.mp hm with h2 | h2
          · cases h2
            simp only [if_true]
            exact hp b hb
          · have := ne _ h2
            show f a b = some (if k = k0 then p else e k)
            rw [if_neg this]
            exact hq k a b h2 hb
      cases h2 : lookK k0 r with
      | none =>
        simp only [h2] at h
        cases h
        exact step true (fun b hb => by rw [h2] at hb; cases hb) (by rw [h2]; rfl)
      | some b =>
        simp only [h2] at h
        cases h3 : f a0 b with
        | none => rw [h3] at h; cases h
        | some p =>
          rw [h3] at h
          cases h
          exact step p (fun b' hb => by rw [h2] at hb; cases hb; exact h3) (by rw [h2]; rfl)
theorem RepK.keys {G : Env1} {ρ : List Addr} {F : Hp} : ∀ {l : List (Key × D)} {vs : List (Key × V)}, RepK G.ca G.K ρ F l vs → l.map (·.1) = vs.map (·.1)
  | [], _, h => by
    have h : _ = [] := h
    rw [h] <;> rfl
  | (k, d) :: l, _, ⟨v, r, e, _, t, _⟩ => by
    rw [e, List.map_cons, List.map_cons, RepK.keys t]
theorem lookK_mem {κ : Type} [DecidableEq κ] : ∀ {l : List (κ × D)} {k : κ} {a : D}, (l.map (·.1)).Nodup → (k, a) ∈ l → lookK k l = some a
  | [], k, a, _, h => by simp at h
  | p :: l, k, a, nd, h => by
    unfold lookK
    rcases List.mem_cons.mp h with e | h
    · rw [← e, if_pos rfl]
    · have nd' := List.nodup_cons.mp nd
      have ne : p.1 ≠ k := fun e => nd'.1 (by
        have := List.mem_map_of_mem (f := (·.1)) h
        show p.1 ∈ l.map (·.1)
        rw [e]
        exact this)
      rw [if_neg ne]
      exact lookK_mem nd'.2 h
theorem valueAt_mem {κ : Type} [DecidableEq κ] : ∀ {l : List (κ × Value)} {k : κ} {a : Value}, (l.map (·.1)).Nodup → (k, a) ∈ l → PySem.valueAt l k = some a
  | [], k, a, _, h => by simp at h
  | p :: l, k, a, nd, h => by
    rcases List.mem_cons.mp h with e | h
    · rw [← e]
      simp [PySem.valueAt]
    · have nd' := List.nodup_cons.mp nd
      have ne : p.1 ≠ k := fun e => nd'.1 (by
        have := List.mem_map_of_mem (f := (·.1)) h
        show p.1 ∈ l.map (·.1)
        rw [e]
        exact this)
      have := valueAt_mem nd'.2 h
      simp only [PySem.valueAt] at this ⊢
      rw [List.find?_cons]
      simp only [ne, decide_false]
      exact this
theorem rd_inj {H : Hp} {a : Addr} {vs vs' : List (Key × V)} (h : Rd H a (.dK vs)) (h' : Rd H a (.dK vs')) : vs = vs' := by
  rcases h with h | ⟨o, h⟩ <;> rcases h' with h' | ⟨o', h'⟩ <;> rw [h] at h' <;> cases h' <;> rfl
theorem OptR.some_of {G : Env1} {ρ : List Addr} {F : Hp} {d : D} {o : Option D} {w : Option V} (h : OptR G ρ F o w) (e : o = some d) : ∃ v, w = some v ∧ RepD G.ca G.K ρ F d v := by
  subst e
  exact h
theorem OptR.isSome {G : Env1} {ρ : List Addr} {F : Hp} {o : Option D} {w : Option V} (h : OptR G ρ F o w) : o.isSome = w.isSome := by
  cases o with
  | none =>
    have h : w = none := h
    rw [h] <;> rfl
  | some d =>
    obtain ⟨v, e, _⟩ := h
    rw [e] <;> rfl
/-- one value is like itself -/
theorem eq_same (I : Inv X pins σ H st) (r : Rel (gx X ca T) L H s ρ F) : ∀ (n : Nat) (x y : D) (v : V) (u : Value) (b : Bool), eqS n s x y = some b → RepD ca X.K ρ F x v → RepD ca X.K ρ F y v → RelV v u → b = true
  | 0, x, y, v, u, b, h, _, _, _ => by cases h
  | n + 1, x, y, v, u, b, h, hx, hy, rv => by
    have seq : ∀ {l l' : List D} {vs : List V} {its : List Value} {q : Bool}, eqZ (eqS n s) l l' = some q → RepL ca X.K ρ F l vs → RepL ca X.K ρ F l' vs → Vals vs its → q = true := fun {l l' vs its q} hq h1 h2 h3 => by
      obtain ⟨e, he, hq'⟩ := eqZ_ex hq
      rw [hq']
      refine List.all_eq_true.mpr fun j hj => ?_
      rw [List.mem_range] at hj
      have l1 : j < l.length := by omega
      have l2 : j < l'.length := by omega
      obtain ⟨w, g1, g2⟩ := RepL.get (G := gx X ca T) h1 (List.getElem?_eq_getElem l1)
      obtain ⟨w', g3, g4⟩ := RepL.get (G := gx X ca T) h2 (List.getElem?_eq_getElem l2)
      rw [g1] at g3
      cases g3
      obtain ⟨z, _, rz⟩ := h3.get g1
      exact eq_same I r n _ _ w z _ (he j _ _ (List.getElem?_eq_getElem l1) (List.getElem?_eq_getElem l2)) g2 g4 rz
    unfold eqS at h
    split at h
    · cases h; rfl
    · rename_i ex ey
      have q1 := rep_bl hx ex
      have q2 := rep_bl hy ey
      rw [q1] at q2
      cases q2
      cases h
      simp
    · rename_i ex ey
      have q1 := rep_bl hx ex
      have q2 := rep_int hy ey
      rw [q1] at q2
      cases q2
    · rename_i ex ey
      have q1 := rep_int hx ex
      have q2 := rep_bl hy ey
      rw [q1] at q2
      cases q2
    · rename_i ex ey
      have q1 := rep_int hx ex
      have q2 := rep_int hy ey
      rw [q1] at q2
      cases q2
      cases h
      simp
    · rename_i ex ey
      have q1 := (rep_str hx ex).1
      have q2 := (rep_str hy ey).1
      rw [q1] at q2
      cases q2
      cases h
      simp
    · rename_i l l' ex ey
      obtain ⟨a, vs, its, e1, _, g1, h1, h2, _⟩ := see_tup I r hx rv ex
      obtain ⟨a', vs', its', e1', _, g1', h1', h2', _⟩ := see_tup I r hy rv ey
      rw [e1] at e1'
      cases e1'
      obtain rfl := I.tuple_inj g1 g1'
      split at h
      · rename_i q hq
        have := seq hq h1 h1' h2
        subst this
        cases h
        have q1 := RepL.length (G := gx X ca T) h1
        have q2 := RepL.length (G := gx X ca T) h1'
        rw [q1, q2]
        simp
      · cases h
    · rename_i l l' ex ey
      obtain ⟨a, vs, its, e1, _, g1, h1, h2, _⟩ := see_lst I r hx rv ex
      obtain ⟨a', vs', its', e1', _, g1', h1', h2', _⟩ := see_lst I r hy rv ey
      rw [e1] at e1'
      cases e1'
      obtain rfl := I.list_inj (.inl g1) (.inl g1')
      have q1 := RepL.length (G := gx X ca T) h1
      have q2 := RepL.length (G := gx X ca T) h1'
      rw [if_pos (q1.trans q2.symm)] at h
      exact seq h h1 h1' h2
    · rename_i l l' ex ey
      obtain ⟨a, vs, us, e1, _, g1, h1, h2, _, dd⟩ := see_dk I r hx rv ex
      obtain ⟨a', vs', us', e1', _, g1', h1', h2', _, dd'⟩ := see_dk I r hy rv ey
      rw [e1] at e1'
      cases e1'
      have ndu : (us.map (·.1)).Nodup := by
        obtain ⟨_, _, _, _, _, _, _, _, nd⟩ := dd
        exact nd
      have hvs : vs = vs' := rd_inj g1 g1'
      subst hvs
      have nd : (l.map (·.1)).Nodup := by rw [RepK.keys (G := gx X ca T) h1, h2.keys]; exact ndu
      have hlen : l.length = l'.length := by
        have q1 := congrArg List.length (RepK.keys (G := gx X ca T) h1)
        have q2 := congrArg List.length (RepK.keys (G := gx X ca T) h1')
        simp only [List.length_map] at q1 q2
        omega
      split at h
      · rename_i q hq
        cases h
        obtain ⟨e, he, hq'⟩ := eqK_ex hq nd
        rw [hlen, he]
        simp only [beq_self_eq_true, Bool.true_and]
        refine List.all_eq_true.mpr fun p hp => ?_
        have lk := lookK_mem nd (show (p.1, p.2) ∈ l from hp)
        obtain ⟨v1, g1, g2⟩ := OptR.some_of (RepK.val (G := gx X ca T) p.1 h1) lk
        have z := RepK.val (G := gx X ca T) p.1 h1'
        cases hl : lookK p.1 l' with
        | none =>
          rw [hl, g1] at z
          cases z
        | some b' =>
          obtain ⟨v2, g3, g4⟩ := OptR.some_of z hl
          rw [g1] at g3
          cases g3
          have rr : RelO (some v1) (PySem.valueAt us p.1) := by rw [← g1]; exact h2.val p.1
          obtain ⟨z1, _, rz⟩ := rr.some_of
          have := eq_same I r n _ _ v1 z1 _ (hq' p.1 p.2 b' hp hl) g2 g4 rz
          rw [this]
          rfl
      · cases h
    · split at h
      · rename_i hd
        have hd' := hd
        unfold differ at hd
        simp only [Bool.and_eq_true, decide_eq_true_eq] at hd
        have q := see_one (see I r hx rv hd.1.1.1) (see I r hy rv hd.1.1.2)
        exact absurd q hd.1.2
      · cases h
/-- two dicts, key by key -/
theorem dk_tree (I : Inv X pins σ H st) (r : Rel (gx X ca T) L H s ρ F) {n : Nat} (ih : ∀ (x y : D) (v w : V) (u z : Value) (b : Bool), eqS n s x y = some b → RepD ca X.K ρ F x v → RepD ca X.K ρ F y w → RelV v u → RelV w z → EqTree X.prog X.w st n u z b)
    {l l' : List (Key × D)} {vs vs' : List (Key × V)} {us us' : List (Key × Value)} {q : Bool} (hq : eqK (eqS n s) l l' = some q) (h1 : RepK ca X.K ρ F l vs) (h1' : RepK ca X.K ρ F l' vs') (h2 : KV vs us) (h2' : KV vs' us') {a : Addr} (dd : st.heap.DictOf (mixKind X.prog X.w) a us) :
    ∃ e : Key → Bool, (l.length == l'.length && q) = (us.length == us'.length && us.all fun p => (PySem.valueAt us' p.1).isSome && e p.1) ∧ ∀ k v y, (k, v) ∈ us → PySem.valueAt us' k = some y → EqTree X.prog X.w st n v y (e k) := by
  have ndu : (us.map (·.1)).Nodup := by
    obtain ⟨_, _, _, _, _, _, _, _, nd⟩ := dd
    exact nd
  have ku := (RepK.keys (G := gx X ca T) h1).trans h2.keys
  have ku' := (RepK.keys (G := gx X ca T) h1').trans h2'.keys
  have nd : (l.map (·.1)).Nodup := by rw [ku]; exact ndu
  obtain ⟨e, he, hq'⟩ := eqK_ex hq nd
  have l1 : l.length = us.length := by simpa using congrArg List.length ku
  have l2 : l'.length = us'.length := by simpa using congrArg List.length ku'
  have vis : ∀ k, (lookK k l').isSome = (PySem.valueAt us' k).isSome := fun k => ((RepK.val (G := gx X ca T) k h1').isSome).trans (h2'.val k).isSome_eq
  have hall : (l.all fun p => (lookK p.1 l').isSome && e p.1) = us.all fun p => (PySem.valueAt us' p.1).isSome && e p.1 := by
    have m1 : (l.all fun p => (lookK p.1 l').isSome && e p.1) = (l.map (·.1)).all fun k => (PySem.valueAt us' k).isSome && e k := by
      rw [List.all_map]
      rw [Bool.eq_iff_iff, List.all_eq_true, List.all_eq_true]
      constructor
      · intro h z hz
        have := h z hz
        rw [vis] at this
        exact this
      · intro h z hz
        rw [vis]
        exact h z hz
    rw [m1, ku, List.all_map]
    rfl
  refine ⟨e, by rw [he, hall, l1, l2], fun k v1 y1 hm hv => ?_⟩
  have hk : k ∈ l.map (·.1) := by
    rw [ku]
    exact List.mem_map_of_mem (f := (·.1)) hm
  obtain ⟨p, hp, ep⟩ := List.mem_map.mp hk
  subst ep
  have lk := lookK_mem nd (show (p.1, p.2) ∈ l from hp)
  obtain ⟨w1, g3, g4⟩ := OptR.some_of (RepK.val (G := gx X ca T) p.1 h1) lk
  have rr : RelO (some w1) (PySem.valueAt us p.1) := by rw [← g3]; exact h2.val p.1
  obtain ⟨z1, ez, rz1⟩ := rr.some_of
  have ev : PySem.valueAt us p.1 = some v1 := valueAt_mem ndu hm
  rw [ev] at ez
  cases ez
  have rr' := h2'.val p.1
  rw [hv] at rr'
  cases hl : lookK p.1 l' with
  | none =>
    have := vis p.1
    rw [hl, hv] at this
    cases this
  | some b' =>
    obtain ⟨w2, g5, g6⟩ := OptR.some_of (RepK.val (G := gx X ca T) p.1 h1') hl
    rw [g5] at rr'
    exact ih _ _ w1 w2 _ _ _ (hq' p.1 p.2 b' hp hl) g4 g6 rz1 rr'
/-- the comparison as a tree -/
theorem eqS_tree (I : Inv X pins σ H st) (r : Rel (gx X ca T) L H s ρ F) : ∀ (n : Nat) (x y : D) (v w : V) (u z : Value) (b : Bool), eqS n s x y = some b → RepD ca X.K ρ F x v → RepD ca X.K ρ F y w → RelV v u → RelV w z → EqTree X.prog X.w st n u z b
  | 0, x, y, v, w, u, z, b, h, _, _, _, _ => by cases h
  | n + 1, x, y, v, w, u, z, b, h, hx, hy, ru, rz => by
    have h0 := h
    unfold eqS at h
    split at h
    · rename_i ex ey
      cases h
      rw [view_non ex] at hx
      rw [view_non ey] at hy
      obtain rfl : v = .non := hx
      obtain rfl : w = .non := hy
      cases ru
      cases rz
      exact .same
    · rename_i a c ex ey
      cases h
      obtain rfl := rep_bl hx ex
      obtain rfl := rep_bl hy ey
      cases ru
      cases rz
      exact .leaf fun A hu => SeqAt.EqAt.bool_bool _ _
    · rename_i a c ex ey
      cases h
      obtain rfl := rep_bl hx ex
      obtain rfl := rep_int hy ey
      cases ru
      obtain ⟨t, rfl⟩ := rz
      have e : decide (b2D a = c) = ((if a then 1 else 0) == c) := by rw [Bool.beq_eq_decide_eq]; rfl
      rw [e]
      exact .leaf fun A hu => SeqAt.EqAt.bool_int _ _ _
    · rename_i a c ex ey
      cases h
      obtain rfl := rep_int hx ex
      obtain rfl := rep_bl hy ey
      cases rz
      obtain ⟨t, rfl⟩ := ru
      have e : decide (a = b2D c) = (a == (if c then 1 else 0)) := by rw [Bool.beq_eq_decide_eq]; rfl
      rw [e]
      exact .leaf fun A hu => SeqAt.EqAt.int_bool _ _ _
    · rename_i a c ex ey
      cases h
      obtain rfl := rep_int hx ex
      obtain rfl := rep_int hy ey
      obtain ⟨t, rfl⟩ := ru
      obtain ⟨t', rfl⟩ := rz
      rw [show decide (a = c) = (a == c) from (Bool.beq_eq_decide_eq a c).symm]
      exact .leaf fun A hu => SeqAt.EqAt.int_int _ _ _ _
    · rename_i a c ex ey
      cases h
      obtain ⟨rfl, _⟩ := rep_str hx ex
      obtain ⟨rfl, _⟩ := rep_str hy ey
      obtain ⟨t, rfl⟩ := ru
      obtain ⟨t', rfl⟩ := rz
      rw [show decide (a = c) = (a == c) from (Bool.beq_eq_decide_eq a c).symm]
      exact .leaf fun A hu => SeqAt.EqAt.str_str _ _ _ _
    · rename_i l l' ex ey
      obtain ⟨a, vs, its, e1, e2, g1, h1, h2, t1⟩ := see_tup I r hx ru ex
      obtain ⟨a', vs', its', e1', e2', g1', h1', h2', t1'⟩ := see_tup I r hy rz ey
      subst e2 e2'
      by_cases hne : a = a'
      · subst hne
        rw [e1] at hx ru
        rw [e1'] at hy
        have := eq_same I r (n + 1) x y _ _ b h0 hx hy ru
        subst this
        exact .same
      · split at h
        · rename_i q hq
          cases h
          obtain ⟨e, he, hq'⟩ := eqZ_ex hq
          have l1 : l.length = its.toArray.size := by rw [RepL.length (G := gx X ca T) h1, h2.length, List.size_toArray]
          have l2 : l'.length = its'.toArray.size := by rw [RepL.length (G := gx X ca T) h1', h2'.length, List.size_toArray]
          rw [hq', l1, l2]
          refine .tuples hne t1 t1' fun j j1 j2 => ?_
          have k1 : j < l.length := by omega
          have k2 : j < l'.length := by omega
          obtain ⟨y1, y2, y3⟩ := RepL.get (G := gx X ca T) h1 (List.getElem?_eq_getElem k1)
          obtain ⟨z1, z2, z3⟩ := RepL.get (G := gx X ca T) h1' (List.getElem?_eq_getElem k2)
          obtain ⟨y4, y5, y6⟩ := h2.get y2
          obtain ⟨z4, z5, z6⟩ := h2'.get z2
          have y7 : its.toArray[j] = y4 := by
            have : its[j]? = some its.toArray[j] := by simp at j1 ⊢
            rw [y5] at this
            exact (Option.some.inj this).symm
          have z7 : its'.toArray[j] = z4 := by
            have : its'[j]? = some its'.toArray[j] := by simp at j2 ⊢
            rw [z5] at this
            exact (Option.some.inj this).symm
          rw [y7, z7]
          exact eqS_tree I r n _ _ _ _ _ _ _ (he j _ _ (List.getElem?_eq_getElem k1) (List.getElem?_eq_getElem k2)) y3 z3 y6 z6
        · cases h
    · rename_i l l' ex ey
      obtain ⟨a, vs, its, e1, e2, g1, h1, h2, t1⟩ := see_lst I r hx ru ex
      obtain ⟨a', vs', its', e1', e2', g1', h1', h2', t1'⟩ := see_lst I r hy rz ey
      subst e2 e2'
      by_cases hne : a = a'
      · subst hne
        rw [e1] at hx ru
        rw [e1'] at hy
        have := eq_same I r (n + 1) x y _ _ b h0 hx hy ru
        subst this
        exact .same
      · have l1 : l.length = its.toArray.size := by rw [RepL.length (G := gx X ca T) h1, h2.length, List.size_toArray]
        have l2 : l'.length = its'.toArray.size := by rw [RepL.length (G := gx X ca T) h1', h2'.length, List.size_toArray]
        split at h
        · rename_i hl
          obtain ⟨e, he, hq'⟩ := eqZ_ex h
          rw [hq', ← hl, Nat.min_self, l1]
          refine .lists hne t1 t1' (by rw [← l1, ← l2]; exact hl) fun j j1 j2 => ?_
          have k1 : j < l.length := by omega
          have k2 : j < l'.length := by omega
          obtain ⟨y1, y2, y3⟩ := RepL.get (G := gx X ca T) h1 (List.getElem?_eq_getElem k1)
          obtain ⟨z1, z2, z3⟩ := RepL.get (G := gx X ca T) h1' (List.getElem?_eq_getElem k2)
          obtain ⟨y4, y5, y6⟩ := h2.get y2
          obtain ⟨z4, z5, z6⟩ := h2'.get z2
          have y7 : its.toArray[j] = y4 := by
            have : its[j]? = some its.toArray[j] := by simp at j1 ⊢
            rw [y5] at this
            exact (Option.some.inj this).symm
          have z7 : its'.toArray[j] = z4 := by
            have : its'[j]? = some its'.toArray[j] := by simp at j2 ⊢
            rw [z5] at this
            exact (Option.some.inj this).symm
          rw [y7, z7]
          exact eqS_tree I r n _ _ _ _ _ _ _ (he j _ _ (List.getElem?_eq_getElem k1) (List.getElem?_eq_getElem k2)) y3 z3 y6 z6
        · rename_i hl
          cases h
          refine .listsLen hne t1 t1' ?_
          rw [← l1, ← l2]
          simpa using hl
    · rename_i l l' ex ey
      obtain ⟨a, vs, us, e1, e2, g1, h1, h2, s1, dd⟩ := see_dk I r hx ru ex
      obtain ⟨a', vs', us', e1', e2', g1', h1', h2', s2, dd'⟩ := see_dk I r hy rz ey
      subst e2 e2'
      by_cases hne : a = a'
      · subst hne
        rw [e1] at hx ru
        rw [e1'] at hy
        have := eq_same I r (n + 1) x y _ _ b h0 hx hy ru
        subst this
        exact .same
      · split at h
        · rename_i q hq
          cases h
          obtain ⟨e, eb, he⟩ := dk_tree I r (fun x y v w u z b => eqS_tree I r n x y v w u z b) hq h1 h1' h2 h2' dd
          rw [eb]
          exact .dicts hne s1 s2 dd dd' he
        · cases h
    · split at h
      · rename_i hd
        cases h
        have hd' := hd
        unfold differ at hd
        simp only [Bool.and_eq_true, decide_eq_true_eq] at hd
        exact see_tree (see I r hx ru hd.1.1.1) (see I r hy rz hd.1.1.2) hd'
      · cases h
end
end AL
set_option Elab.async false
set_option linter.all false
set_option maxRecDepth 100000
set_option maxHeartbeats 4000000
/-! AL10: != where the items may be dicts. -/
namespace AL
open PySem PySem.Spec PyProof.Rows L2
open PySem.AutoSeq1 (wpAny_loadPart')
open PySem.MeetsSeq PySem.MeetsSeq2 PySem.MeetsSeq3 PySem.SeqRoads2
open PySem.SeqAt (EqIn)
section
variable {prog : Program} {w : World}
abbrev listO (xs : Array Value) (k : Nat) (dd : Option Addr) (sl : Array (Option Value)) : Obj := { cls := .type "list", dict := dd, data := .seq xs k, slots := sl }
abbrev tupO (xs : Array Value) (k : Nat) (dd : Option Addr) (sl : Array (Option Value)) : Obj := { cls := .type "tuple", dict := dd, data := .seq xs k, slots := sl }
theorem neIn_loop (a b : Addr) (xs ys : Array Value) (k k2 : Nat) (da db : Option Addr) (sa sb : Array (Option Value)) (same : xs.size = ys.size) (e : Nat → Bool) : ∀ (m i : Nat), xs.size - i = m →
    MeetsIn prog w (Builtin.«list.__eq__.loop» ⟨[.ref a, .ref b, rawInt i, rawInt 3], []⟩) (fun A R s => s.heap.get? a = some (listO xs k da sa) ∧ s.heap.get? b = some (listO ys k2 db sb) ∧
        (∀ j (h1 : j < xs.size) (h2 : j < ys.size), EqIn prog w A.in1 s xs[j] ys[j] (e j)) ∧ R (.ok (.ret (.bool (!((List.range xs.size).drop i).all e)))) s)
  | 0, i, hm, A, R, s, h => by
    obtain ⟨hp, g, d, tk, os⟩ := s
    obtain ⟨ga, gb, _, fin⟩ := h
    wp_walk using wpAny_loadPart' ga, wpAny_loadPart' gb
    rw [show xs[((i : Nat) : Int).toNat]? = none by simp; omega, show ys[((i : Nat) : Int).toNat]? = none by simp; omega]
    rw [show (List.range xs.size).drop i = [] by simp; omega] at fin
    wp_walk using wpAny_loadPart' ga, wpAny_loadPart' gb
    show R (.ok (.ret (.bool (xs.size != ys.size)))) _
    rw [same]
    simpa using fin
  | m + 1, i, hm, A, R, s, h => by
    obtain ⟨hp, g, d, tk, os⟩ := s
    obtain ⟨ga, gb, he, fin⟩ := h
    wp_walk using wpAny_loadPart' ga, wpAny_loadPart' gb
    have lx : i < xs.size := by omega
    have ly : i < ys.size := by omega
    rw [show (List.range xs.size).drop i = i :: (List.range xs.size).drop (i + 1) by simp [List.drop_eq_getElem_cons, lx], List.all_cons] at fin
    rw [show xs[((i : Nat) : Int).toNat]? = some xs[i] by simp [lx], show ys[((i : Nat) : Int).toNat]? = some ys[i] by simp [ly]]
    refine wpAny_bind (he i lx ly _ _ ?_)
    cases q : e i with
    | true =>
      rw [q] at fin
      wp_walk
      rw [show ((i : Int) + 1) = ((i + 1 : Nat) : Int) by push_cast; rfl]
      refine ⟨plainId_quiet plain_eq_loop _, codeAny_builtin entry_eq_loop ?_⟩
      rw [Around.under_plainId plain_eq_loop _]
      exact neIn_loop a b xs ys k k2 da db sa sb same e m (i + 1) (by omega) A R _ ⟨ga, gb, he, by simpa using fin⟩
    | false =>
      rw [q] at fin
      wp_walk using wpAny_loadPart' ga, wpAny_loadPart' gb
      rw [show xs[((i : Nat) : Int).toNat]? = some xs[i] by simp [lx], show ys[((i : Nat) : Int).toNat]? = some ys[i] by simp [ly]]
      wp_walk
      simpa using fin
theorem neIn_list (a b : Addr) (xs ys : Array Value) (k k2 : Nat) (da db : Option Addr) (sa sb : Array (Option Value)) (same : xs.size = ys.size) (e : Nat → Bool) :
    MeetsIn prog w (Builtin.«list.__ne__» ⟨[.ref a, .ref b], []⟩) (fun A R s => s.heap.get? a = some (listO xs k da sa) ∧ s.heap.get? b = some (listO ys k2 db sb) ∧
        (∀ j (h1 : j < xs.size) (h2 : j < ys.size), EqIn prog w A.in1 s xs[j] ys[j] (e j)) ∧ R (.ok (.ret (.bool (!(List.range xs.size).all e)))) s) := by
  intro A R s h
  obtain ⟨hp, g, d, tk, os⟩ := s
  obtain ⟨ga, gb, he, fin⟩ := h
  have sub := AutoSeq1.sub_list_list
  have nsz : ¬ (xs.size != ys.size) = true := by simp [same]
  wp_walk using wpAny_loadPart' ga, wpAny_loadPart' gb
  refine ⟨plainId_quiet plain_eq_loop _, codeAny_builtin entry_eq_loop ?_⟩
  rw [Around.under_plainId plain_eq_loop _]
  exact neIn_loop a b xs ys k k2 da db sa sb same e _ 0 rfl A R _ ⟨ga, gb, he, by simpa using fin⟩
theorem neIn_tup (a b : Addr) (xs ys : Array Value) (k k2 : Nat) (da db : Option Addr) (sa sb : Array (Option Value)) (e : Nat → Bool) :
    MeetsIn prog w (Builtin.«tuple.__ne__» ⟨[.ref a, .ref b], []⟩) (fun A R s => s.heap.get? a = some (tupO xs k da sa) ∧ s.heap.get? b = some (tupO ys k2 db sb) ∧
        (∀ j (h1 : j < xs.size) (h2 : j < ys.size), EqIn prog w A.in1 s xs[j] ys[j] (e j)) ∧
        R (.ok (.ret (.bool (!((List.range (min xs.size ys.size)).all e && xs.size == ys.size))))) s) :=
  .of_wp fun A R s h => by
    obtain ⟨hp, g, d, tk, os⟩ := s
    obtain ⟨ga, gb, he, fin⟩ := h
    have sub := AutoSeq1.sub_tuple_tuple
    have zl : (xs.toList.zip ys.toList).length = min xs.size ys.size := by simp
    wp_walk using wpAny_loadPart' ga, wpAny_loadPart' gb, wpAny_forIn_list _ (fun rest c s' => c.1 = none ∧ s' = ⟨hp, g, d, tk, os⟩ ∧ ∃ i, rest = (xs.toList.zip ys.toList).drop i ∧
      R (.ok (.ret (.bool (!(((List.range (min xs.size ys.size)).drop i).all e && xs.size == ys.size))))) ⟨hp, g, d, tk, os⟩) _
    case turn =>
      rintro ⟨p, q⟩ rest c s' ⟨hc, rfl, i, hz, hR⟩
      have lz : i < (xs.toList.zip ys.toList).length := by
        refine Nat.lt_of_not_le fun hle => ?_
        rw [List.drop_of_length_le hle] at hz
        cases hz
      have lm : i < min xs.size ys.size := by omega
      have lx : i < xs.size := by omega
      have ly : i < ys.size := by omega
      rw [List.drop_eq_getElem_cons lz] at hz
      injection hz with hpq hrest
      obtain rfl : p = xs[i] := by simpa using congrArg Prod.fst hpq
      obtain rfl : q = ys[i] := by simpa using congrArg Prod.snd hpq
      rw [show (List.range (min xs.size ys.size)).drop i = i :: (List.range (min xs.size ys.size)).drop (i + 1) by simp [List.drop_eq_getElem_cons, lm], List.all_cons] at hR
      refine wpAny_bind (he i lx ly _ _ ?_)
      cases z : e i with
      | true =>
        rw [z] at hR
        wp_walk
        exact ⟨rfl, rfl, i + 1, hrest, by simpa using hR⟩
      | false =>
        rw [z] at hR
        wp_walk
        exact ⟨_, rfl, by simpa using hR⟩
    case fin =>
      rintro ⟨c1, c2⟩ s' ⟨hc, rfl, i, hz, hR⟩
      simp only at hc
      subst hc
      have ge : min xs.size ys.size ≤ i := by
        refine Nat.le_of_not_lt fun hlt => ?_
        rw [List.drop_eq_getElem_cons (by omega)] at hz
        cases hz
      rw [List.drop_of_length_le (by simpa using ge)] at hR
      wp_walk
      exact ⟨_, rfl, by simpa [Builtin.Tuple.tupleCompareSizes, bne] using hR⟩
    case h => exact ⟨rfl, rfl, 0, rfl, by simpa using fin⟩
variable {A : Around} {s : Shared} {E : Value → Shared → Prop} {Q : Value → Shared → Prop}
theorem ne_lists {a b : Addr} {xs ys : Array Value} {e : Nat → Bool} (ha : s.heap.IsList a xs) (hb : s.heap.IsList b ys) (same : xs.size = ys.size) (hu : A.units < cLine)
    (he : ∀ j (h1 : j < xs.size) (h2 : j < ys.size), EqIn prog w A.in1 s xs[j] ys[j] (e j)) (q : Q (.bool (!(List.range xs.size).all e)) s) : wpAny (model prog w) A (richCompare .NotEq (.ref a) (.ref b)) Q E s := by
  obtain ⟨⟨c1, d1, t1, l1⟩, ga, rfl, n1, rfl⟩ := ha
  obtain ⟨⟨c2, d2, t2, l2⟩, gb, rfl, n2, rfl⟩ := hb
  refine wpAny_richCompare_same_room (T := "list") (op := .NotEq) ⟨_, ga, rfl⟩ ⟨_, gb, rfl⟩ F.slot_list_ne ?_ hu
  exact call_meetsIn F.slot_list_ne ⟨_, ga, rfl⟩ F.entry_list_ne (F.args_list_ne_2 _ _) (neIn_list a b xs ys n1 n2 d1 d2 l1 l2 same e) ⟨ga, gb, he, show Value.bool (!(List.range xs.size).all e) ≠ .notImplemented ∧ Q (.bool (!(List.range xs.size).all e)) s from ⟨(fun z => nomatch z), q⟩⟩
theorem ne_tups {a b : Addr} {xs ys : Array Value} {e : Nat → Bool} (ha : s.heap.IsTuple a xs) (hb : s.heap.IsTuple b ys) (hu : A.units < cLine)
    (he : ∀ j (h1 : j < xs.size) (h2 : j < ys.size), EqIn prog w A.in1 s xs[j] ys[j] (e j)) (q : Q (.bool (!((List.range (min xs.size ys.size)).all e && xs.size == ys.size))) s) :
    wpAny (model prog w) A (richCompare .NotEq (.ref a) (.ref b)) Q E s := by
  obtain ⟨⟨c1, d1, t1, l1⟩, ga, rfl, n1, rfl⟩ := ha
  obtain ⟨⟨c2, d2, t2, l2⟩, gb, rfl, n2, rfl⟩ := hb
  refine wpAny_richCompare_same_room (T := "tuple") (op := .NotEq) ⟨_, ga, rfl⟩ ⟨_, gb, rfl⟩ F.slot_tuple_ne ?_ hu
  exact call_meetsIn F.slot_tuple_ne ⟨_, ga, rfl⟩ F.entry_tuple_ne (F.args_tuple_ne_2 _ _) (neIn_tup a b xs ys n1 n2 d1 d2 l1 l2 e) ⟨ga, gb, he, show Value.bool (!((List.range (min xs.size ys.size)).all e && xs.size == ys.size)) ≠ .notImplemented ∧ Q (.bool (!((List.range (min xs.size ys.size)).all e && xs.size == ys.size))) s from ⟨(fun z => nomatch z), q⟩⟩
end
end AL
set_option Elab.async false
set_option linter.all false
set_option maxRecDepth 100000
set_option maxHeartbeats 4000000
/-! AL11: comparisons. -/
namespace AL
open PySem PySem.Spec PyProof.Rows L2
open PySem.W (EqTree)
theorem see_rc {i j : Nat} {u z : Value} {A : Around} {st : Shared} (h1 : See st.heap i u) (h2 : See st.heap j z) (d : differ i j = true) (lt : A.units < cLine) : SeqAt.RcAt A st u z false := by
  cases h1 with
  | non  =>
    cases h2 with
    | non  => cases d
    | bl b2 => exact SeqAt.RcAt.none_bool b2
    | int i2 t2 => exact SeqAt.RcAt.none_int i2 t2
    | str x2 t2 => exact SeqAt.RcAt.none_str x2 t2
    | tup a2 its2 h2 => exact SeqAt.RcAt.none_tuple h2 lt
    | lst a2 its2 h2 => exact SeqAt.RcAt.none_list h2 lt
  | bl b1 =>
    cases h2 with
    | non  => exact SeqAt.RcAt.bool_none b1
    | bl b2 => cases d
    | int i2 t2 => cases d
    | str x2 t2 => exact SeqAt.RcAt.bool_str b1 x2 t2
    | tup a2 its2 h2 => exact SeqAt.RcAt.bool_tuple b1 h2 lt
    | lst a2 its2 h2 => exact SeqAt.RcAt.bool_list b1 h2 lt
  | int i1 t1 =>
    cases h2 with
    | non  => exact SeqAt.RcAt.int_none i1 t1
    | bl b2 => cases d
    | int i2 t2 => cases d
    | str x2 t2 => exact SeqAt.RcAt.int_str i1 t1 x2 t2
    | tup a2 its2 h2 => exact SeqAt.RcAt.int_tuple i1 t1 h2 lt
    | lst a2 its2 h2 => exact SeqAt.RcAt.int_list i1 t1 h2 lt
  | str x1 t1 =>
    cases h2 with
    | non  => exact SeqAt.RcAt.str_none x1 t1
    | bl b2 => exact SeqAt.RcAt.str_bool x1 t1 b2
    | int i2 t2 => exact SeqAt.RcAt.str_int x1 t1 i2 t2
    | str x2 t2 => cases d
    | tup a2 its2 h2 => exact SeqAt.RcAt.str_tuple x1 t1 h2 lt
    | lst a2 its2 h2 => exact SeqAt.RcAt.str_list x1 t1 h2 lt
  | tup a1 its1 h1 =>
    cases h2 with
    | non  => exact SeqAt.RcAt.tuple_none h1 lt
    | bl b2 => exact SeqAt.RcAt.tuple_bool b2 h1 lt
    | int i2 t2 => exact SeqAt.RcAt.tuple_int i2 t2 h1 lt
    | str x2 t2 => exact SeqAt.RcAt.tuple_str x2 t2 h1 lt
    | tup a2 its2 h2 => cases d
    | lst a2 its2 h2 => exact SeqAt.RcAt.tuple_list h1 h2 lt
  | lst a1 its1 h1 =>
    cases h2 with
    | non  => exact SeqAt.RcAt.list_none h1 lt
    | bl b2 => exact SeqAt.RcAt.list_bool b2 h1 lt
    | int i2 t2 => exact SeqAt.RcAt.list_int i2 t2 h1 lt
    | str x2 t2 => exact SeqAt.RcAt.list_str x2 t2 h1 lt
    | tup a2 its2 h2 => exact SeqAt.RcAt.list_tuple h1 h2 lt
    | lst a2 its2 h2 => cases d
theorem see_rn {i j : Nat} {u z : Value} {A : Around} {st : Shared} (h1 : See st.heap i u) (h2 : See st.heap j z) (d : differ i j = true) (lt : A.units < cLine) : SeqAt.RcNeAt A st u z true := by
  cases h1 with
  | non  =>
    cases h2 with
    | non  => cases d
    | bl b2 => exact SeqAt.RcNeAt.none_bool b2
    | int i2 t2 => exact SeqAt.RcNeAt.none_int i2 t2
    | str x2 t2 => exact SeqAt.RcNeAt.none_str x2 t2
    | tup a2 its2 h2 => exact SeqAt.RcNeAt.none_tuple h2 lt
    | lst a2 its2 h2 => exact SeqAt.RcNeAt.none_list h2 lt
  | bl b1 =>
    cases h2 with
    | non  => exact SeqAt.RcNeAt.bool_none b1
    | bl b2 => cases d
    | int i2 t2 => cases d
    | str x2 t2 => exact SeqAt.RcNeAt.bool_str b1 x2 t2
    | tup a2 its2 h2 => exact SeqAt.RcNeAt.bool_tuple b1 h2 lt
    | lst a2 its2 h2 => exact SeqAt.RcNeAt.bool_list b1 h2 lt
  | int i1 t1 =>
    cases h2 with
    | non  => exact SeqAt.RcNeAt.int_none i1 t1
    | bl b2 => cases d
    | int i2 t2 => cases d
    | str x2 t2 => exact SeqAt.RcNeAt.int_str i1 t1 x2 t2
    | tup a2 its2 h2 => exact SeqAt.RcNeAt.int_tuple i1 t1 h2 lt
    | lst a2 its2 h2 => exact SeqAt.RcNeAt.int_list i1 t1 h2 lt
  | str x1 t1 =>
    cases h2 with
    | non  => exact SeqAt.RcNeAt.str_none x1 t1
    | bl b2 => exact SeqAt.RcNeAt.str_bool x1 t1 b2
    | int i2 t2 => exact SeqAt.RcNeAt.str_int x1 t1 i2 t2
    | str x2 t2 => cases d
    | tup a2 its2 h2 => exact SeqAt.RcNeAt.str_tuple x1 t1 h2 lt
    | lst a2 its2 h2 => exact SeqAt.RcNeAt.str_list x1 t1 h2 lt
  | tup a1 its1 h1 =>
    cases h2 with
    | non  => exact SeqAt.RcNeAt.tuple_none h1 lt
    | bl b2 => exact SeqAt.RcNeAt.tuple_bool b2 h1 lt
    | int i2 t2 => exact SeqAt.RcNeAt.tuple_int i2 t2 h1 lt
    | str x2 t2 => exact SeqAt.RcNeAt.tuple_str x2 t2 h1 lt
    | tup a2 its2 h2 => cases d
    | lst a2 its2 h2 => exact SeqAt.RcNeAt.tuple_list h1 h2 lt
  | lst a1 its1 h1 =>
    cases h2 with
    | non  => exact SeqAt.RcNeAt.list_none h1 lt
    | bl b2 => exact SeqAt.RcNeAt.list_bool b2 h1 lt
    | int i2 t2 => exact SeqAt.RcNeAt.list_int i2 t2 h1 lt
    | str x2 t2 => exact SeqAt.RcNeAt.list_str x2 t2 h1 lt
    | tup a2 its2 h2 => exact SeqAt.RcNeAt.list_tuple h1 h2 lt
    | lst a2 its2 h2 => cases d

/-- d != e for two dicts -/
theorem ne_dicts {prog : Program} {w : World} {κ : Type} [DecidableEq κ] {knd : KeyKind prog w κ} {A : Around} {E : Value → Shared → Prop} {s : Shared} {a b : Addr} {ka kb : List (κ × Value)} {r : Bool} {Q : Value → Shared → Prop} (ha : (a == sysModules) = false) (hb : (b == sysModules) = false)
    (da : s.heap.DictOf knd a ka) (db : s.heap.DictOf knd b kb) (hu : A.units < cLine) (hits : ka.length = kb.length → PySem.W.KeqHitsIn prog w A.in1 s kb ka r) (h : Q (.bool (!(ka.length == kb.length && r))) s) : wpAny (model prog w) A (compareOp .NotEq (.ref a) (.ref b)) Q E s := by
  have run : wpAny (model prog w) A.in1 (Builtin.Dict.dictSlotArgs "__ne__" ⟨[.ref a, .ref b], []⟩) (fun p s' => p = (.ref a, .ref b) ∧ s' = s) (fun _ _ => False) s := by
    unfold Builtin.Dict.dictSlotArgs; exact wpAny_bind (wpAny_notOrdered_dict da.typeIs (wpAny_pure ⟨rfl, rfl⟩))
  refine wpAny_richCompare_same_room (op := .NotEq) da.typeIs db.typeIs F.slot_dict_ne (wpAny_call_entry F.slot_dict_ne da.typeIs F.entry_dict_ne ?_ (F.args_dict_ne_2 _ _)) hu
  show wpAny _ _ (Builtin.Dict.dictSlotArgs "__ne__" ⟨[.ref a, .ref b], []⟩ >>= _) _ _ s; refine wpAny_bind (wpAny_mono run (fun p s' ⟨e1, e2⟩ => ?_) (fun _ _ z => z.elim))
  subst e1 e2; refine wpAny_bind (wpAny_isInstance (T := "dict") db.typeIs F.sub_dict_dict ?_)
  simp only [Bool.not_true, Bool.false_eq_true, if_false]; refine wpAny_bind (wpAny_pure (wpAny_bind (wpAny_pure (wpAny_bind (PySem.W.keq_samePairsIn ha hb da db hits ?_)))))
  exact wpAny_pure ⟨_, rfl, (fun z => nomatch z), by simpa using h⟩
section
variable {X : Cx} {ca : Str → Addr} {T : List (Addr × Str)} {pins : List (Addr × Obj)} {σ : L2.St} {H L F : Hp} {st : Shared} {s : S} {ρ : List Addr}
/-- the items of two sequences -/
theorem items_tree (I : Inv X pins σ H st) (r : Rel (gx X ca T) L H s ρ F) {n : Nat} {l l' : List D} {vs vs' : List V} {its its' : List Value} {e : Nat → Bool} (h1 : RepL ca X.K ρ F l vs) (h1' : RepL ca X.K ρ F l' vs') (h2 : Vals vs its) (h2' : Vals vs' its')
    (he : ∀ j a b, l[j]? = some a → l'[j]? = some b → eqS n s a b = some (e j)) {A : Around} (hu : A.units + n < cLine) : ∀ j (j1 : j < its.toArray.size) (j2 : j < its'.toArray.size), SeqAt.EqIn X.prog X.w A st its.toArray[j] its'.toArray[j] (e j) := fun j j1 j2 => by
  have l1 : l.length = its.toArray.size := by rw [RepL.length (G := gx X ca T) h1, h2.length, List.size_toArray]
  have l2 : l'.length = its'.toArray.size := by rw [RepL.length (G := gx X ca T) h1', h2'.length, List.size_toArray]
  have k1 : j < l.length := by omega
  have k2 : j < l'.length := by omega
  obtain ⟨y1, y2, y3⟩ := RepL.get (G := gx X ca T) h1 (List.getElem?_eq_getElem k1)
  obtain ⟨z1, z2, z3⟩ := RepL.get (G := gx X ca T) h1' (List.getElem?_eq_getElem k2)
  obtain ⟨y4, y5, y6⟩ := h2.get y2
  obtain ⟨z4, z5, z6⟩ := h2'.get z2
  have y7 : its.toArray[j] = y4 := by
    have q : its[j]? = some its.toArray[j] := by simp at j1 ⊢
    rw [y5] at q
    exact (Option.some.inj q).symm
  have z7 : its'.toArray[j] = z4 := by
    have q : its'[j]? = some its'.toArray[j] := by simp at j2 ⊢
    rw [z5] at q
    exact (Option.some.inj q).symm
  rw [y7, z7]
  exact (eqS_tree I r n _ _ _ _ _ _ _ (he j _ _ (List.getElem?_eq_getElem k1) (List.getElem?_eq_getElem k2)) y3 z3 y6 z6).at A hu
/-- x == y and x != y at the top -/
theorem eq_top (I : Inv X pins σ H st) (r : Rel (gx X ca T) L H s ρ F) {n : Nat} {x y : D} {v w : V} {u z : Value} {b : Bool} (h : eqS (n + 1) s x y = some b) (hx : RepD ca X.K ρ F x v) (hy : RepD ca X.K ρ F y w) (ru : RelV v u) (rz : RelV w z)
    {A : Around} (hu : A.units + (n + 1) < cLine) {E : Value → Shared → Prop} {Q : Value → Shared → Prop} :
    (Q (.bool b) st → wpAny (model X.prog X.w) A (compareOp .Eq u z) Q E st) ∧ (Q (.bool !b) st → wpAny (model X.prog X.w) A (compareOp .NotEq u z) Q E st) := by
  have lt : A.units < cLine := by omega
  have hi : A.in1.units + n < cLine := by show A.units + 1 + n < cLine; omega
  unfold eqS at h
  split at h
  · rename_i ex ey
    cases h
    rw [view_non ex] at hx
    rw [view_non ey] at hy
    obtain rfl : v = .non := hx
    obtain rfl : w = .non := hy
    cases ru
    cases rz
    exact ⟨SeqAt.RcAt.none_none _ _ _ _, SeqAt.RcNeAt.none_none _ _ _ _⟩
  · rename_i a c ex ey
    cases h
    obtain rfl := rep_bl hx ex
    obtain rfl := rep_bl hy ey
    cases ru
    cases rz
    exact ⟨SeqAt.RcAt.bool_bool _ _ _ _ _ _, SeqAt.RcNeAt.bool_bool _ _ _ _ _ _⟩
  · rename_i a c ex ey
    cases h
    obtain rfl := rep_bl hx ex
    obtain rfl := rep_int hy ey
    cases ru
    obtain ⟨t, rfl⟩ := rz
    have e : decide (b2D a = c) = ((if a then 1 else 0) == c) := by rw [Bool.beq_eq_decide_eq]; rfl
    rw [e]
    exact ⟨SeqAt.RcAt.bool_int _ _ _ _ _ _ _, SeqAt.RcNeAt.bool_int _ _ _ _ _ _ _⟩
  · rename_i a c ex ey
    cases h
    obtain rfl := rep_int hx ex
    obtain rfl := rep_bl hy ey
    cases rz
    obtain ⟨t, rfl⟩ := ru
    have e : decide (a = b2D c) = (a == (if c then 1 else 0)) := by rw [Bool.beq_eq_decide_eq]; rfl
    rw [e]
    exact ⟨SeqAt.RcAt.int_bool _ _ _ _ _ _ _, SeqAt.RcNeAt.int_bool _ _ _ _ _ _ _⟩
  · rename_i a c ex ey
    cases h
    obtain rfl := rep_int hx ex
    obtain rfl := rep_int hy ey
    obtain ⟨t, rfl⟩ := ru
    obtain ⟨t', rfl⟩ := rz
    rw [show decide (a = c) = (a == c) from (Bool.beq_eq_decide_eq a c).symm]
    exact ⟨SeqAt.RcAt.int_int _ _ _ _ _ _ _ _, SeqAt.RcNeAt.int_int _ _ _ _ _ _ _ _⟩
  · rename_i a c ex ey
    cases h
    obtain ⟨rfl, _⟩ := rep_str hx ex
    obtain ⟨rfl, _⟩ := rep_str hy ey
    obtain ⟨t, rfl⟩ := ru
    obtain ⟨t', rfl⟩ := rz
    rw [show decide (a = c) = (a == c) from (Bool.beq_eq_decide_eq a c).symm]
    exact ⟨SeqAt.RcAt.str_str _ _ _ _ _ _ _ _, SeqAt.RcNeAt.str_str _ _ _ _ _ _ _ _⟩
  · rename_i l l' ex ey
    obtain ⟨a, vs, its, e1, e2, g1, h1, h2, t1⟩ := see_tup I r hx ru ex
    obtain ⟨a', vs', its', e1', e2', g1', h1', h2', t1'⟩ := see_tup I r hy rz ey
    subst e2 e2'
    split at h
    · rename_i q hq
      cases h
      obtain ⟨e, he, hq'⟩ := eqZ_ex hq
      have l1 : l.length = its.toArray.size := by rw [RepL.length (G := gx X ca T) h1, h2.length, List.size_toArray]
      have l2 : l'.length = its'.toArray.size := by rw [RepL.length (G := gx X ca T) h1', h2'.length, List.size_toArray]
      rw [hq', l1, l2]
      exact ⟨fun q => SeqAt.rcIn_tuples t1 t1' lt (items_tree I r h1 h1' h2 h2' he hi) q, fun q => ne_tups t1 t1' lt (items_tree I r h1 h1' h2 h2' he hi) q⟩
    · cases h
  · rename_i l l' ex ey
    obtain ⟨a, vs, its, e1, e2, g1, h1, h2, t1⟩ := see_lst I r hx ru ex
    obtain ⟨a', vs', its', e1', e2', g1', h1', h2', t1'⟩ := see_lst I r hy rz ey
    subst e2 e2'
    have l1 : l.length = its.toArray.size := by rw [RepL.length (G := gx X ca T) h1, h2.length, List.size_toArray]
    have l2 : l'.length = its'.toArray.size := by rw [RepL.length (G := gx X ca T) h1', h2'.length, List.size_toArray]
    split at h
    · rename_i hl
      obtain ⟨e, he, hq'⟩ := eqZ_ex h
      rw [hq', ← hl, Nat.min_self, l1]
      have sz : its.toArray.size = its'.toArray.size := by rw [← l1, ← l2]; exact hl
      exact ⟨fun q => SeqAt.rcIn_lists t1 t1' sz lt (items_tree I r h1 h1' h2 h2' he hi) q, fun q => ne_lists t1 t1' sz lt (items_tree I r h1 h1' h2 h2' he hi) q⟩
    · rename_i hl
      cases h
      have sz : (its.toArray.size != its'.toArray.size) = true := by rw [← l1, ← l2]; simpa using hl
      exact ⟨SeqAt.RcAt.lists_lengths t1 t1' sz lt _ _ _ _, SeqAt.RcNeAt.lists_lengths t1 t1' sz lt _ _ _ _⟩
  · rename_i l l' ex ey
    obtain ⟨a, vs, us, e1, e2, g1, h1, h2, s1, dd⟩ := see_dk I r hx ru ex
    obtain ⟨a', vs', us', e1', e2', g1', h1', h2', s2, dd'⟩ := see_dk I r hy rz ey
    subst e2 e2'
    split at h
    · rename_i q hq
      cases h
      obtain ⟨e, eb, he⟩ := dk_tree I r (fun x y v w u z b => eqS_tree I r n x y v w u z b) hq h1 h1' h2 h2' dd
      rw [eb]
      have hits : us.length = us'.length → PySem.W.KeqHitsIn X.prog X.w A.in1 st us' us (us.all fun p => (PySem.valueAt us' p.1).isSome && e p.1) := fun _ => PySem.W.KeqHitsIn.of _ fun k v y hm hv => (he k v y hm hv).at A.in1 hi
      exact ⟨fun q => PySem.W.keq_eqIn s1 s2 dd dd' lt hits q, fun q => ne_dicts s1 s2 dd dd' lt hits q⟩
    · cases h
  · split at h
    · rename_i hd
      cases h
      have hd' := hd
      unfold differ at hd
      simp only [Bool.and_eq_true, decide_eq_true_eq] at hd
      have q1 := see I r hx ru hd.1.1.1
      have q2 := see I r hy rz hd.1.1.2
      exact ⟨see_rc q1 q2 hd' lt _ _ _ _, see_rn q1 q2 hd' lt _ _ _ _⟩
    · cases h
end
end AL
set_option Elab.async false
set_option linter.all false
set_option maxRecDepth 100000
set_option maxHeartbeats 4000000
/-! AL12: comparison operators, chains. -/
namespace AL
open PySem PySem.Spec PyProof.Rows L2
section
variable {X : Cx} {ca : Str → Addr} {T : List (Addr × Str)} {W : WX} {a b c' : Expr} {pos : Pos}
/-- by values, to a bool -/
def rB (G : Env1) (g : D → D → S → Option Bool) : R2 := fun x y H Q => ∃ dx dy s ρ F L, RepD G.ca G.K ρ F dx x ∧ RepD G.ca G.K ρ F dy y ∧ Rel G L H s ρ F ∧ ∃ k, g dx dy s = some k ∧ Q (.bl k) H
theorem flat_of {G : Env1} {ρ : List Addr} {F : Hp} {d : D} {v : V} (h : RepD G.ca G.K ρ F d v) (k : kd d < 4) : flatV v = true := by
  cases d with
  | non => have h : v = .non := h; rw [h]; rfl
  | bl b => have h : v = .bl b := h; rw [h]; rfl
  | int i => have h : v = .int i := h; rw [h]; rfl
  | str x => rw [h.1]; rfl
  | _ => exact absurd k (by simp [kd])
theorem eq_flat {G : Env1} {ρ : List Addr} {F : Hp} {d e : D} {v w : V} {s : S} {q : Bool} (h : RepD G.ca G.K ρ F d v) (h' : RepD G.ca G.K ρ F e w) (k : kd d < 4) (k' : kd e < 4) (hq : eqS 1 s d e = some q) : eqV v w = q := by
  have dd : ∀ a b : Int, decide (a = b) = (a == b) := fun a b => (Bool.beq_eq_decide_eq a b).symm
  cases d with
  | non =>
    obtain rfl : v = .non := h
    cases e with
    | non => obtain rfl : w = .non := h'; cases hq; rfl
    | bl b => obtain rfl : w = .bl b := h'; cases hq; rfl
    | int b => obtain rfl : w = .int b := h'; cases hq; rfl
    | str b => obtain ⟨rfl, _⟩ := h'; cases hq; rfl
    | _ => exact absurd k' (by simp [kd])
  | bl a =>
    obtain rfl : v = .bl a := h
    cases e with
    | non => obtain rfl : w = .non := h'; cases hq; rfl
    | bl b => obtain rfl : w = .bl b := h'; cases hq; rfl
    | int b => obtain rfl : w = .int b := h'; cases hq; rw [dd]; rfl
    | str b => obtain ⟨rfl, _⟩ := h'; cases hq; rfl
    | _ => exact absurd k' (by simp [kd])
  | int a =>
    obtain rfl : v = .int a := h
    cases e with
    | non => obtain rfl : w = .non := h'; cases hq; rfl
    | bl b => obtain rfl : w = .bl b := h'; cases hq; rw [dd]; rfl
    | int b => obtain rfl : w = .int b := h'; cases hq; rw [dd]; rfl
    | str b => obtain ⟨rfl, _⟩ := h'; cases hq; rfl
    | _ => exact absurd k' (by simp [kd])
  | str a =>
    obtain ⟨rfl, _⟩ := h
    cases e with
    | non => obtain rfl : w = .non := h'; cases hq; rfl
    | bl b => obtain rfl : w = .bl b := h'; cases hq; rfl
    | int b => obtain rfl : w = .int b := h'; cases hq; rfl
    | str b => obtain ⟨rfl, _⟩ := h'; cases hq; exact (Bool.beq_eq_decide_eq a b)
    | _ => exact absurd k' (by simp [kd])
  | _ => exact absurd k (by simp [kd])
theorem inL_ok {G : Env1} {ρ : List Addr} {F : Hp} {s : S} {x : D} {v : V} (hx : RepD G.ca G.K ρ F x v) : ∀ {l : List D} {vs : List V} {q : Bool}, inL s x l = some q → RepL G.ca G.K ρ F l vs → (l ≠ [] → flatV v = true) ∧ vs.all flatV = true ∧ inV v vs = q
  | [], vs, q, h, hr => by
    have hr : vs = [] := hr
    subst hr
    cases h
    exact ⟨fun z => absurd rfl z, rfl, rfl⟩
  | y :: l, vs, q, h, ⟨w, r, e, h1, h2⟩ => by
    unfold inL at h
    split at h
    · rename_i hk
      split at h
      · rename_i p q' e1 e2
        cases h
        obtain ⟨_, g2, g3⟩ := inL_ok hx e2 h2
        subst e
        refine ⟨fun _ => flat_of hx hk.2, by rw [List.all_cons, flat_of h1 hk.1, g2]; rfl, ?_⟩
        unfold inV at g3 ⊢
        rw [List.any_cons, g3, eq_flat h1 hx hk.1 hk.2 e1]
      · cases h
    · cases h
theorem vals_nil_or {l : List D} : l = [] ∨ l ≠ [] := by cases l <;> simp
/-- x in y -/
theorem in_both (hu : X.A.units + 1 < cLine) : OpR X (compareOp .In) (rB (gx X ca T) inD) ∧ OpR X (compareOp .NotIn) (rB (gx X ca T) fun x y s => (inD x y s).map (!·)) := by
  have key : ∀ (neg : Bool) (pins : List (Addr × Obj)) (s : Shared) (σ : L2.St) (H : Hp) (x y : V) (v u : Value) (Q : VK), Inv X pins σ H s → RelV x v → RelV y u →
      (∃ dx dy st ρ F L, RepD ca X.K ρ F dx x ∧ RepD ca X.K ρ F dy y ∧ Rel (gx X ca T) L H st ρ F ∧ ∃ k, inD dx dy st = some k ∧ Q (.bl (if neg then !k else k)) H) →
      wpAny (model X.prog X.w) X.A (compareOp (if neg then .NotIn else .In) v u) (EP X pins σ Q) X.xe s := by
    intro neg pins s σ H x y v u Q I rx ry ⟨dx, dy, st, ρ, F, L, hx, hy, hr, k, hk, q⟩
    have seq : ∀ {l : List D} {vs : List V} {a : Addr}, y = .ref a → (SqL X.K H a vs ∨ SqT X.K H a vs) → RepL ca X.K ρ F l vs → inL st dx l = some k → wpAny (model X.prog X.w) X.A (compareOp (if neg then .NotIn else .In) v u) (EP X pins σ Q) X.xe s := fun {l vs a} e1 hs h2 hl => by
      obtain ⟨g1, g2, g3⟩ := inL_ok (G := gx X ca T) hx hl h2
      rcases vals_nil_or (l := l) with hn | hn
      · subst hn
        obtain rfl : vs = [] := h2
        have hk' : k = false := by rw [← g3]; rfl
        subst hk' e1
        cases ry
        cases neg with
        | false =>
          rcases hs with hs | hs
          · obtain ⟨its, r, pl, _⟩ := I.list hs
            cases r
            exact SeqAt.in_listAt (fun _ => false) pl.isList (fun w hw => by simp at hw) ⟨.bl false, H, I, by simp [L2.RelV], by simpa using q⟩
          · obtain ⟨its, r, pl, _⟩ := I.tuple hs
            cases r
            exact SeqAt.in_tupleAt (fun _ => false) pl (fun w hw => by simp at hw) ⟨.bl false, H, I, by simp [L2.RelV], by simpa using q⟩
        | true =>
          rcases hs with hs | hs
          · obtain ⟨its, r, pl, _⟩ := I.list hs
            cases r
            exact SeqAt.notIn_listAt (fun _ => false) pl.isList (fun w hw => by simp at hw) ⟨.bl true, H, I, by simp [L2.RelV], by simpa using q⟩
          · obtain ⟨its, r, pl, _⟩ := I.tuple hs
            cases r
            exact SeqAt.notIn_tupleAt (fun _ => false) pl (fun w hw => by simp at hw) ⟨.bl true, H, I, by simp [L2.RelV], by simpa using q⟩
      · cases neg with
        | false => exact op_in_seq pins s σ H x y v u Q I rx ry ⟨a, vs, e1, hs, g1 hn, g2, by rw [g3]; exact q⟩
        | true => exact op_notIn_seq pins s σ H x y v u Q I rx ry ⟨a, vs, e1, hs, g1 hn, g2, by rw [g3]; exact q⟩
    have dic : ∀ {dv : D}, dy.view st = dv → (getD? dv dx).map Option.isSome = some k → wpAny (model X.prog X.w) X.A (compareOp (if neg then .NotIn else .In) v u) (EP X pins σ Q) X.xe s := fun {dv} ev hg => by
      cases hd : getD? dv dx with
      | none => rw [hd] at hg; cases hg
      | some o =>
        rw [hd] at hg
        have hg : some o.isSome = some k := hg
        cases hg
        obtain ⟨a, w, e1, g, hw⟩ := getD_rep (G := gx X ca T) hr hy hx (by rw [ev]; exact hd)
        subst e1
        cases ry
        have ew := hw.isSome
        cases neg with
        | false => exact d_in hu I g rx fun s' I' => ⟨.bl _, H, I', by rw [ew]; rfl, q⟩
        | true => exact d_notIn hu I g rx fun s' I' => ⟨.bl _, H, I', by rw [ew]; rfl, q⟩
    unfold inD at hk
    split at hk
    · rename_i z ev
      split at hk
      · rename_i a'
        split at hk
        · rename_i ch hc
          cases hk
          have ex : x = .str ⟨#[ch]⟩ := by
            rw [hx.1]
            obtain ⟨cps⟩ := a'
            have : cps.toList = [ch] := hc
            rw [show cps = #[ch] from by rw [← Array.toList_inj]; exact this]
          obtain ⟨ey, _⟩ := rep_str hy ev
          cases neg with
          | false => exact op_in_sign pins s σ H x y v u Q I rx ry ⟨ch, z, ex, ey, q⟩
          | true => exact op_notIn_sign pins s σ H x y v u Q I rx ry ⟨ch, z, ex, ey, q⟩
        · cases hk
      · cases hk
    · rename_i l ev
      obtain ⟨a, vs, e1, h1, h2⟩ := hr.viewL hy ev
      exact seq e1 (.inl (.inl h1)) h2 hk
    · rename_i l ev
      obtain ⟨a, vs, e1, h1, h2⟩ := hr.viewT hy ev
      exact seq e1 (.inr h1) h2 hk
    · rename_i l ev
      exact dic ev hk
    · rename_i l ev
      exact dic ev hk
    · cases hk
  refine ⟨fun pins s σ H x y v u Q I rx ry ⟨dx, dy, st, ρ, F, L, hx, hy, hr, k, hk, q⟩ => key false pins s σ H x y v u Q I rx ry ⟨dx, dy, st, ρ, F, L, hx, hy, hr, k, hk, q⟩, fun pins s σ H x y v u Q I rx ry ⟨dx, dy, st, ρ, F, L, hx, hy, hr, k, hk, q⟩ => ?_⟩
  have hk : (inD dx dy st).map (!·) = some k := hk
  cases hi : inD dx dy st with
  | none => rw [hi] at hk; cases hk
  | some k' =>
    rw [hi] at hk
    cases hk
    exact key true pins s σ H x y v u Q I rx ry ⟨dx, dy, st, ρ, F, L, hx, hy, hr, k', hi, q⟩
theorem isN_rep {G : Env1} {ρ : List Addr} {F : Hp} {d : D} {v : V} {s : S} {k : Bool} (h : RepD G.ca G.K ρ F d v) (e : cmpOp .Is d .non s = some k) : decide (v = .non) = k := by
  cases d with
  | non => cases e; exact decide_eq_true h
  | bl b => cases e; obtain rfl : v = .bl b := h; rfl
  | int b => cases e; obtain rfl : v = .int b := h; rfl
  | str b => cases e; rw [h.1]; rfl
  | ref i => cases e; obtain ⟨_, _, rfl⟩ := h; rfl
  | tup l => cases e; obtain ⟨_, _, rfl, _⟩ := h; rfl
  | con l => cases e; obtain ⟨_, _, rfl, _⟩ := h; rfl
  | lst l => cases e; obtain ⟨_, _, rfl, _⟩ := h; rfl
  | dk l => cases e; obtain ⟨_, _, rfl, _⟩ := h; rfl
  | dt l => cases e; obtain ⟨_, _, rfl, _⟩ := h; rfl
  | obj c l => cases e; obtain ⟨_, _, _, rfl, _⟩ := h; rfl
theorem cmp_all (hu : X.A.units + 64 < cLine) (op : CmpOp) : OpR X (compareOp op) (rB (gx X ca T) (cmpOp op)) := by
  cases op with
  | Eq =>
    intro pins s σ H x y v u Q I rx ry ⟨dx, dy, st, ρ, F, L, hx, hy, hr, k, hk, q⟩
    exact (eq_top I hr (n := 7) hk hx hy rx ry (by omega)).1 ⟨.bl k, H, I, rfl, q⟩
  | NotEq =>
    intro pins s σ H x y v u Q I rx ry ⟨dx, dy, st, ρ, F, L, hx, hy, hr, k, hk, q⟩
    have hk : (eqS 8 st dx dy).map (!·) = some k := hk
    cases he : eqS 8 st dx dy with
    | none => rw [he] at hk; cases hk
    | some k' =>
      rw [he] at hk
      cases hk
      exact (eq_top I hr (n := 7) he hx hy rx ry (by omega)).2 ⟨.bl _, H, I, rfl, q⟩
  | Lt =>
    intro pins s σ H x y v u Q I rx ry ⟨dx, dy, st, ρ, F, L, hx, hy, hr, k, hk, q⟩
    dsimp only [cmpOp] at hk
    split at hk
    · cases hk
      exact op_lt pins s σ H x y v u Q I rx ry ⟨_, _, hx, hy, q⟩
    · cases hk
      exact op_lt_str pins s σ H x y v u Q I rx ry ⟨_, _, hx.1, hy.1, q⟩
    · cases hk
  | LtE =>
    intro pins s σ H x y v u Q I rx ry ⟨dx, dy, st, ρ, F, L, hx, hy, hr, k, hk, q⟩
    dsimp only [cmpOp] at hk
    split at hk
    · cases hk
      exact op_le pins s σ H x y v u Q I rx ry ⟨_, _, hx, hy, q⟩
    · cases hk
  | Gt =>
    intro pins s σ H x y v u Q I rx ry ⟨dx, dy, st, ρ, F, L, hx, hy, hr, k, hk, q⟩
    dsimp only [cmpOp] at hk
    split at hk
    · cases hk
      exact op_gt pins s σ H x y v u Q I rx ry ⟨_, _, hx, hy, q⟩
    · cases hk
  | GtE =>
    intro pins s σ H x y v u Q I rx ry ⟨dx, dy, st, ρ, F, L, hx, hy, hr, k, hk, q⟩
    dsimp only [cmpOp] at hk
    split at hk
    · cases hk
      exact op_ge pins s σ H x y v u Q I rx ry ⟨_, _, hx, hy, q⟩
    · cases hk
  | Is =>
    intro pins s σ H x y v u Q I rx ry ⟨dx, dy, st, ρ, F, L, hx, hy, hr, k, hk, q⟩
    refine op_isN pins s σ H x y v u Q I rx ry ?_
    cases dy <;> (first | (cases hk; done) | skip)
    refine ⟨hy, ?_⟩
    rw [isN_rep hx hk]
    exact q
  | IsNot =>
    intro pins s σ H x y v u Q I rx ry ⟨dx, dy, st, ρ, F, L, hx, hy, hr, k, hk, q⟩
    refine op_notN pins s σ H x y v u Q I rx ry ?_
    cases dy <;> (first | (cases hk; done) | skip)
    refine ⟨hy, ?_⟩
    have h1 : cmpOp .Is dx .non st = some (!k) := by cases dx <;> cases hk <;> rfl
    rw [isN_rep hx h1, Bool.not_not]
    exact q
  | In => exact (in_both (by omega)).1
  | NotIn => exact (in_both (by omega)).2
end
end AL
set_option Elab.async false
set_option linter.all false
set_option maxRecDepth 100000
set_option maxHeartbeats 4000000
/-! AL13: comparisons in an expression, in a test; slices. -/
namespace AL
open PySem PySem.Spec PyProof.Rows L2
section
variable {X : Cx} {ca : Str → Addr} {T : List (Addr × Str)} {W : WX} {a b e : Expr} {pos : Pos}
theorem rB.imp {G : Env1} {g : D → D → S → Option Bool} {x y : V} {H : Hp} {Q Q' : VK} (h : rB G g x y H Q) (k : ∀ z, Q z H → Q' z H) : rB G g x y H Q' := by
  obtain ⟨dx, dy, s, ρ, F, L, hx, hy, hr, b, e, q⟩ := h
  exact ⟨dx, dy, s, ρ, F, L, hx, hy, hr, b, e, k _ q⟩
/-- a test's reading, as a value's -/
theorem tT_of_tE {m : MT} {σ : L2.St} {H : Hp} {Q : VK} (h : tE (gx X ca T) W (fun sl s => (m sl s).bind fun b s2 => .ok (.bl b) s2) σ H Q) : tT (gx X ca T) W m σ H fun k H' => Q (.bl k) H' := by
  obtain ⟨sl, s, ρ, F, L, hs, hr, hp⟩ := tX.bind (rp := rpB) (rq := rpD (gx X ca T)) (m := m) (f := fun _ (b : Bool) s2 => R.ok (D.bl b) s2) h
  refine ⟨sl, s, ρ, F, L, hs, hr, hp.imp (.refl ρ F) fun _ _ _ x H1 _ _ _ _ _ q => ?_⟩
  obtain ⟨sl, s, k, s1, ρ1, F1, L, _, hs1, hr1, hx, q⟩ := q
  have hx : k = x := hx
  subst hx
  exact q (.bl k) H1 ρ1 F1 (.refl ρ1 F1) hr1 rfl
abbrev QB (Q : Bool → Hp → Prop) : VK := fun z H' => ∃ k, z = .bl k ∧ Q k H'
theorem cmp_step {ma mb : ME} {op : CmpOp} {σ : L2.St} {H : Hp} {Q : Bool → Hp → Prop} (h : tT (gx X ca T) W (fun sl s => (ma sl s).bind fun x s1 => (mb sl s1).bind fun y s2 => cmpM op x y s2) σ H Q) :
    tOp (rB (gx X ca T) (cmpOp op)) (tE (gx X ca T) W ma) (tE (gx X ca T) W mb) σ H (QB Q) := by
  obtain ⟨sl, s, ρ, F, L, hs, hr, hp⟩ := tX.bind (rp := rpD (gx X ca T)) (f := fun sl x s1 => (mb sl s1).bind fun y s2 => cmpM op x y s2) h
  refine ⟨sl, s, ρ, F, L, hs, hr, hp.imp (.refl ρ F) fun _ _ _ x H1 _ _ _ _ _ q => ?_⟩
  obtain ⟨sl, s, dx, s1, ρ1, F1, L, _, hs1, hr1, hx, q⟩ := q
  refine ⟨sl, s1, ρ1, F1, L, hs1, hr1, (PB.bind (rp := rpD (gx X ca T)) q).imp (.refl ρ1 F1) fun _ _ _ y H2 _ _ _ _ _ q => ?_⟩
  obtain ⟨dy, s2, ρ2, F2, _, l2, hr2, hy, q⟩ := q
  refine ⟨dx, dy, s2, ρ2, F2, L, RepD.mono l2 _ _ hx, hy, hr2, ?_⟩
  unfold cmpM at q
  cases hk : cmpOp op dx dy s2 with
  | none => rw [hk] at q; exact q.elim
  | some k =>
    rw [hk] at q
    exact ⟨k, rfl, k, rfl, q k H2 ρ2 F2 (.refl ρ2 F2) hr2 rfl⟩
theorem cmp_step2 {ma mb mc : ME} {op op' : CmpOp} {σ : L2.St} {H : Hp} {Q : Bool → Hp → Prop} (h : tT (gx X ca T) W (fun sl s => (ma sl s).bind fun x s1 => (mb sl s1).bind fun y s2 => (cmpM op x y s2).bind fun k s3 => if k = true then (mc sl s3).bind fun z s4 => cmpM op' y z s4 else .ok false s3) σ H Q) :
    tChain (rB (gx X ca T) (cmpOp op)) (rB (gx X ca T) (cmpOp op')) (tE (gx X ca T) W ma) (tE (gx X ca T) W mb) (tE (gx X ca T) W mc) σ H (QB Q) := by
  obtain ⟨sl, s, ρ, F, L, hs, hr, hp⟩ := tX.bind (rp := rpD (gx X ca T)) (f := fun sl x s1 => (mb sl s1).bind fun y s2 => (cmpM op x y s2).bind fun k s3 => if k = true then (mc sl s3).bind fun z s4 => cmpM op' y z s4 else .ok false s3) h
  refine ⟨sl, s, ρ, F, L, hs, hr, hp.imp (.refl ρ F) fun _ _ _ x H1 _ _ _ _ _ q => ?_⟩
  obtain ⟨sl, s, dx, s1, ρ1, F1, L, _, hs1, hr1, hx, q⟩ := q
  refine ⟨sl, s1, ρ1, F1, L, hs1, hr1, (PB.bind (rp := rpD (gx X ca T)) q).imp (.refl ρ1 F1) fun _ _ _ y H2 _ _ _ _ _ q => ?_⟩
  obtain ⟨dy, s2, ρ2, F2, _, l2, hr2, hy, q⟩ := q
  refine ⟨dx, dy, s2, ρ2, F2, L, RepD.mono l2 _ _ hx, hy, hr2, ?_⟩
  unfold cmpM at q
  cases hk : cmpOp op dx dy s2 with
  | none => rw [hk] at q; exact q.elim
  | some k =>
    rw [hk] at q
    refine ⟨k, rfl, k, rfl, ?_⟩
    cases k with
    | false =>
      rw [if_neg (by simp)]
      exact ⟨false, rfl, q false H2 ρ2 F2 (.refl ρ2 F2) hr2 rfl⟩
    | true =>
      rw [if_pos rfl]
      have q : PB (gx X ca T) L ρ2 F2 W σ rpB Q ((mc sl s2).bind fun z s4 => match cmpOp op' dy z s4 with
        | some b => .ok b s4
        | none => .bad) := q
      refine ⟨sl, s2, ρ2, F2, L, hs1.mono l2, hr2, (PB.bind (rp := rpD (gx X ca T)) q).imp (.refl ρ2 F2) fun _ _ _ z H3 _ _ _ _ _ q => ?_⟩
      obtain ⟨dz, s3, ρ3, F3, _, l3, hr3, hz, q⟩ := q
      refine ⟨dy, dz, s3, ρ3, F3, L, RepD.mono l3 _ _ hy, hz, hr3, ?_⟩
      cases hk : cmpOp op' dy dz s3 with
      | none => rw [hk] at q; exact q.elim
      | some k =>
        rw [hk] at q
        exact ⟨k, rfl, k, rfl, q k H3 ρ3 F3 (.refl ρ3 F3) hr3 rfl⟩
theorem noSetMark {op : CmpOp} {b : Expr} (h : setB b = false) : behindInMarks op b = false := by
  cases b <;> first | rfl | cases h
theorem chain1 {f : Expr → ME} {op : CmpOp} {a b : Expr} {sl : Sl} {s : S} : chain f [op] a [b] sl s = if setB b = true then .bad else (f a sl s).bind fun x s1 => (f b sl s1).bind fun y s2 => cmpM op x y s2 := rfl
theorem chain2 {f : Expr → ME} {op op' : CmpOp} {a b c : Expr} {sl : Sl} {s : S} : chain f [op, op'] a [b, c] sl s = if setB b = true ∨ setB c = true then .bad else (f a sl s).bind fun x s1 => (f b sl s1).bind fun y s2 => (cmpM op x y s2).bind fun k s3 =>
    if k = true then (f c sl s3).bind fun z s4 => cmpM op' y z s4 else .ok false s3 := rfl
theorem at_compare (hu : X.A.units + 64 < cLine) {f : Expr → ME} (hf : ∀ e, PE X e (tE (gx X ca T) W (f e))) : ∀ (ops : List CmpOp) (a : Expr) (bs : List Expr), PT X (.Compare a ops bs pos) (tT (gx X ca T) W (chain f ops a bs))
  | [op], a, [b] => by
    by_cases hb : setB b = true
    · exact PT.never fun σ H Q ⟨sl, s, ρ, F, L, hs, hr, hp⟩ => by
        rw [chain1] at hp
        rw [if_pos hb] at hp
        exact hp
    · have e : chain f [op] a [b] = fun sl s => (f a sl s).bind fun x s1 => (f b sl s1).bind fun y s2 => cmpM op x y s2 := by
        funext sl s
        rw [chain1]
        rw [if_neg hb]
      rw [e]
      exact (pt_cmpR (cmp_all (ca := ca) (T := T) hu op) (hf a) (hf b) (noSetMark (by simpa using hb))).weak fun σ H Q q => cmp_step q
  | [op, op'], a, [b, c] => by
    by_cases hb : setB b = true ∨ setB c = true
    · exact PT.never fun σ H Q ⟨sl, s, ρ, F, L, hs, hr, hp⟩ => by
        rw [chain2] at hp
        rw [if_pos hb] at hp
        exact hp
    · have e : chain f [op, op'] a [b, c] = fun sl s => (f a sl s).bind fun x s1 => (f b sl s1).bind fun y s2 => (cmpM op x y s2).bind fun k s3 => if k = true then (f c sl s3).bind fun z s4 => cmpM op' y z s4 else .ok false s3 := by
        funext sl s
        rw [chain2]
        rw [if_neg hb]
      rw [e]
      rw [not_or] at hb
      have hm : lastMarks [op, op'] [b, c] = false := by
        show behindInMarks op' c = false
        exact noSetMark (by simpa using hb.2)
      exact (pt_chain (cmp_all (ca := ca) (T := T) hu op) (cmp_all (ca := ca) (T := T) hu op') (hf a) (hf b) (hf c) hm).weak fun σ H Q q => cmp_step2 q
  | [], _, _ => at_bad
  | [_], _, [] => at_bad
  | [_], _, _ :: _ :: _ => at_bad
  | [_, _], _, [] => at_bad
  | [_, _], _, [_] => at_bad
  | [_, _], _, _ :: _ :: _ :: _ => at_bad
  | _ :: _ :: _ :: _, _, _ => at_bad
theorem tOp.impB {op : CmpOp} {ta tb : TE} {σ : L2.St} {H : Hp} {Q : VK} (ma : ∀ σ H Q Q', (∀ v H', Q v H' → Q' v H') → ta σ H Q → ta σ H Q') : True := trivial
theorem tE.imp {m : ME} {σ : L2.St} {H : Hp} {Q Q' : VK} (h : tE (gx X ca T) W m σ H Q) (k : ∀ v H', Q v H' → Q' v H') : tE (gx X ca T) W m σ H Q' := by
  obtain ⟨sl, s, ρ, F, L, hs, hr, hp⟩ := h
  exact ⟨sl, s, ρ, F, L, hs, hr, hp.imp (.refl ρ F) fun _ _ _ v H' _ _ _ _ _ q => k v H' q⟩
theorem ae_compare (hu : X.A.units + 64 < cLine) {f : Expr → ME} (hf : ∀ e, PE X e (tE (gx X ca T) W (f e))) : ∀ (ops : List CmpOp) (a : Expr) (bs : List Expr), PE X (.Compare a ops bs pos) (tE (gx X ca T) W fun sl s => (chain f ops a bs sl s).bind fun b s2 => .ok (.bl b) s2)
  | [op], a, [b] => by
    by_cases hb : setB b = true
    · exact PE.never fun σ H Q q => by
        obtain ⟨sl, s, ρ, F, L, hs, hr, hp⟩ := tT_of_tE q
        rw [chain1] at hp
        rw [if_pos hb] at hp
        exact hp
    · have e : chain f [op] a [b] = fun sl s => (f a sl s).bind fun x s1 => (f b sl s1).bind fun y s2 => cmpM op x y s2 := by
        funext sl s
        rw [chain1]
        rw [if_neg hb]
      refine (pe_cmpR (cmp_all (ca := ca) (T := T) hu op) (hf a) (hf b) (noSetMark (by simpa using hb))).weak fun σ H Q q => ?_
      have q := tT_of_tE q
      rw [e] at q
      exact (cmp_step q).imp fun x H1 q => q.imp fun y H2 q => q.imp fun z q => by
        obtain ⟨k, e, q⟩ := q
        rw [e]
        exact q
  | [op, op'], a, [b, c] => by
    by_cases hb : setB b = true ∨ setB c = true
    · exact PE.never fun σ H Q q => by
        obtain ⟨sl, s, ρ, F, L, hs, hr, hp⟩ := tT_of_tE q
        rw [chain2] at hp
        rw [if_pos hb] at hp
        exact hp
    · have e : chain f [op, op'] a [b, c] = fun sl s => (f a sl s).bind fun x s1 => (f b sl s1).bind fun y s2 => (cmpM op x y s2).bind fun k s3 => if k = true then (f c sl s3).bind fun z s4 => cmpM op' y z s4 else .ok false s3 := by
        funext sl s
        rw [chain2]
        rw [if_neg hb]
      rw [not_or] at hb
      have hm : lastMarks [op, op'] [b, c] = false := by
        show behindInMarks op' c = false
        exact noSetMark (by simpa using hb.2)
      refine (pe_chain (cmp_all (ca := ca) (T := T) hu op) (cmp_all (ca := ca) (T := T) hu op') (hf a) (hf b) (hf c) hm).weak fun σ H Q q => ?_
      have q := tT_of_tE q
      rw [e] at q
      refine (cmp_step2 q).imp fun x H1 q => q.imp fun y H2 q => q.imp fun z q => ?_
      obtain ⟨k, e, q⟩ := q
      refine ⟨k, e, ?_⟩
      have un : ∀ z H', (QB fun k H' => Q (.bl k) H') z H' → Q z H' := fun z H' ⟨k, e, q⟩ => by
        rw [e]
        exact q
      cases k with
      | true =>
        rw [if_pos rfl] at q ⊢
        exact q.imp fun w H4 q => q.imp fun z q => un _ _ q
      | false =>
        rw [if_neg (by simp)] at q ⊢
        exact un _ _ q
  | [], _, _ => ae_bad
  | [_], _, [] => ae_bad
  | [_], _, _ :: _ :: _ => ae_bad
  | [_, _], _, [] => ae_bad
  | [_, _], _, [_] => ae_bad
  | [_, _], _, _ :: _ :: _ :: _ => ae_bad
  | _ :: _ :: _ :: _, _, _ => ae_bad
/-! ### slices -/
/-- a part of a slice -/
theorem ap_part {f : Expr → ME} (hf : ∀ e, PE X e (tE (gx X ca T) W (f e))) : ∀ o : Option Expr, PO X o (fun σ H Q => tX (gx X ca T) W (fun _ _ a b => a = b) (partE f o) σ H Q)
  | none => ⟨fun pins s σ H Q I q => po_none.run pins s σ H Q I (by
    obtain ⟨sl, st, ρ, F, L, hs, hr, hp⟩ := q
    exact hp none H ρ F (.refl ρ F) hr rfl)⟩
  | some e => ⟨fun pins s σ H Q I q => (po_some (hf e)).run pins s σ H Q I (by
    obtain ⟨sl, s, ρ, F, L, hs, hr, hp⟩ := tX.bind (rp := rpD (gx X ca T)) (rq := fun _ _ a b => a = b) (m := f e) (f := fun _ d s1 => (match d with
      | .int i => .ok (some i) s1
      | _ => .bad)) q
    refine ⟨sl, s, ρ, F, L, hs, hr, hp.imp (.refl ρ F) fun _ _ _ x H1 _ _ _ _ _ q => ?_⟩
    obtain ⟨sl, s, d, s1, ρ1, F1, L, _, hs1, hr1, hx, q⟩ := q
    cases d with
    | int i => exact ⟨i, hx, q (some i) H1 ρ1 F1 (.refl ρ1 F1) hr1 rfl⟩
    | _ => exact q.elim)⟩
theorem RepL.drop {G : Env1} {ρ : List Addr} {F : Hp} : ∀ {l : List D} {vs : List V} (k : Nat), RepL G.ca G.K ρ F l vs → RepL G.ca G.K ρ F (l.drop k) (vs.drop k)
  | [], _, k, h => by
    have h : _ = [] := h
    rw [h, List.drop_nil, List.drop_nil]
    rfl
  | d :: l, _, 0, h => h
  | d :: l, _, k + 1, ⟨v, r, e, _, t⟩ => by
    rw [e]
    exact RepL.drop k t
theorem RepL.take {G : Env1} {ρ : List Addr} {F : Hp} : ∀ {l : List D} {vs : List V} (k : Nat), RepL G.ca G.K ρ F l vs → RepL G.ca G.K ρ F (l.take k) (vs.take k)
  | [], _, k, h => by
    have h : _ = [] := h
    rw [h, List.take_nil, List.take_nil]
    rfl
  | d :: l, _, 0, h => rfl
  | d :: l, _, k + 1, ⟨v, r, e, q, t⟩ => by
    rw [e]
    exact ⟨v, _, rfl, q, RepL.take k t⟩
theorem cut_rep {G : Env1} {ρ : List Addr} {F : Hp} {l : List D} {vs : List V} (h : RepL G.ca G.K ρ F l vs) (lo hi : Option Int) : RepL G.ca G.K ρ F (cut lo hi l) (cutV vs lo hi) := by
  unfold cut cutV
  rw [h.length]
  exact RepL.take _ (RepL.drop _ h)
theorem cut_len {z : Str} (lo hi : Option Int) (h : z.length ≤ sizeLine) : (cutS z lo hi).length ≤ sizeLine := by
  show (cutS z lo hi).cps.size ≤ sizeLine
  unfold cutS
  rw [List.size_toArray, List.length_take, List.length_drop, Array.length_toList]
  have : z.cps.size ≤ sizeLine := h
  omega
theorem ae_slice {f : Expr → ME} (hf : ∀ e, PE X e (tE (gx X ca T) W (f e))) (o : Expr) (lo hi : Option Expr) (p2 : Pos) :
    PE X (.Subscript o (.Slice lo hi none p2) pos) (tE (gx X ca T) W fun sl s => (f o sl s).bind fun x s1 => (partE f lo sl s1).bind fun a s2 => (partE f hi sl s2).bind fun b s3 => (match cutD x a b s3 with
      | some d => .ok d s3
      | none => .bad)) :=
  (pe_slice (sl_str.or (sl_list.or sl_tupA)) (hf o) (ap_part (ca := ca) (T := T) (W := W) hf lo) (ap_part (ca := ca) (T := T) (W := W) hf hi)).weak fun σ H Q q => by
    obtain ⟨sl, s, ρ, F, L, hs, hr, hp⟩ := tX.bind (rp := rpD (gx X ca T)) (f := fun sl x s1 => (partE f lo sl s1).bind fun a s2 => (partE f hi sl s2).bind fun b s3 => (match cutD x a b s3 with
      | some d => .ok d s3
      | none => .bad)) q
    refine ⟨sl, s, ρ, F, L, hs, hr, hp.imp (.refl ρ F) fun _ _ _ x H1 _ _ _ _ _ q => ?_⟩
    obtain ⟨sl, s, dx, s1, ρ1, F1, L, _, hs1, hr1, hx, q⟩ := q
    refine ⟨sl, s1, ρ1, F1, L, hs1, hr1, (PB.bind (rp := fun _ _ a b => a = b) q).imp (.refl ρ1 F1) fun _ _ _ a H2 _ _ _ _ _ q => ?_⟩
    obtain ⟨a', s2, ρ2, F2, _, l2, hr2, ha, q⟩ := q
    have ha : a' = a := ha
    subst ha
    refine ⟨sl, s2, ρ2, F2, L, hs1.mono l2, hr2, (PB.bind (rp := fun _ _ a b => a = b) q).imp (.refl ρ2 F2) fun _ _ _ b H3 _ _ _ _ _ q => ?_⟩
    obtain ⟨b', s3, ρ3, F3, _, l3, hr3, hb, q⟩ := q
    have hb : b' = b := hb
    subst hb
    have hx := RepD.mono l3 _ _ (RepD.mono l2 _ _ hx)
    split at q
    rotate_left
    · exact q.elim
    rename_i d hd
    have q : PV (gx X ca T) L ρ3 F3 (rpD (gx X ca T)) Q (.ok d s3) := q
    unfold cutD at hd
    split at hd
    · rename_i l ev
      cases hd
      obtain ⟨t, vs, e1, h1, h2⟩ := hr3.viewL hx ev
      exact .inr (.inl ⟨t, vs, e1, .inl h1, fun p hp => q _ _ ρ3 (upd F3 p (.lst (cutV vs a' b'))) (hr3.frzLe hp _) (hr3.frzNew hp _) ⟨p, _, rfl, .inl upd_same, RepL.mono (hr3.frzLe hp _) _ _ (cut_rep h2 a' b')⟩⟩)
    · rename_i l ev
      obtain ⟨t, vs, e1, h1, h2⟩ := hr3.viewT hx ev
      have same : HT.sIx vs.length 0 a' = 0 ∧ HT.sIx vs.length vs.length b' = vs.length → cut a' b' l = l := fun hw => by
        unfold cut
        rw [← h2.length] at hw
        rw [hw.1, hw.2, List.drop_zero, Nat.sub_zero, List.take_length]
      split at hd
      · cases hd
        refine .inr (.inr ⟨t, vs, e1, h1, fun hw => ?_, fun _ p hp => ?_⟩)
        · rw [same hw] at q
          refine q _ _ ρ3 F3 (.refl ρ3 F3) hr3 ?_
          cases dx with
          | con x =>
            have e' : D.tup x = .tup l := ev
            cases e'
            rw [e1] at hx
            exact hx
          | _ => rename_i hc; cases hc
        · exact q _ _ ρ3 (upd F3 p (.tup (cutV vs a' b'))) (hr3.frzLe hp _) (hr3.frzNew hp _) ⟨p, _, rfl, .inl (.inl upd_same), RepL.mono (hr3.frzLe hp _) _ _ (cut_rep h2 a' b')⟩
      · rename_i hc
        cases hd
        refine .inr (.inr ⟨t, vs, e1, h1, fun hw => ?_, fun _ p hp => new_tup q hr3 (cut_rep h2 a' b') hp⟩)
        rw [same hw] at q
        rw [view_tup ev (by simpa using hc), e1] at hx
        exact q _ _ ρ3 F3 (.refl ρ3 F3) hr3 hx
    · rename_i z ev
      cases hd
      obtain ⟨e1, h1⟩ := rep_str hx ev
      exact .inl ⟨z, e1, h1, q _ _ ρ3 F3 (.refl ρ3 F3) hr3 ⟨rfl, cut_len a' b' h1⟩⟩
    · cases hd
end
end AL
set_option Elab.async false
set_option linter.all false
set_option maxRecDepth 100000
set_option maxHeartbeats 4000000
/-! AL14: a def's end: what it has made goes; a def's promise. -/
namespace AL
open PySem PySem.Spec PyProof.Rows L2
section
variable {ca : Str → Addr} {K : PySem.W.Frag} {ρ : List Addr} {F : Hp} {n : Nat}
mutual
/-- what knows nothing at or behind n stands without what is there -/
theorem RepD.cutN : ∀ (d : D) (v : V), RepD ca K ρ F d v → d.under n = true → RepD ca K (ρ.take n) F d v
  | .non, _, h, _ => h
  | .bl _, _, h, _ => h
  | .int _, _, h, _ => h
  | .str _, _, h, _ => h
  | .ref i, _, ⟨a, h, e⟩, q => ⟨a, by
      have hi : i < n := by simpa [D.under] using q
      rw [List.getElem?_take_of_lt hi]
      exact h, e⟩
  | .tup l, v, ⟨a, vs, e, r, h⟩, q => ⟨a, vs, e, r, RepL.cutN l vs h q⟩
  | .con l, v, ⟨a, vs, e, r, h⟩, q => ⟨a, vs, e, r, RepL.cutN l vs h q⟩
  | .lst l, v, ⟨a, vs, e, r, h⟩, q => ⟨a, vs, e, r, RepL.cutN l vs h q⟩
  | .dk l, v, ⟨a, vs, e, r, h⟩, q => ⟨a, vs, e, r, RepK.cutN l vs h q⟩
  | .dt l, v, ⟨a, vs, e, r, h⟩, q => ⟨a, vs, e, r, RepT.cutN l vs h q⟩
  | .obj c l, v, ⟨a, dx, vs, e, r, h, k⟩, q => ⟨a, dx, vs, e, r, RepO.cutN l vs h q, k⟩
theorem RepL.cutN : ∀ (l : List D) (vs : List V), RepL ca K ρ F l vs → belowL n l = true → RepL ca K (ρ.take n) F l vs
  | [], _, h, _ => h
  | d :: l, _, ⟨v, r, e, h, t⟩, q => by
    have q : (D.under n d && belowL n l) = true := q
    rw [Bool.and_eq_true] at q
    exact ⟨v, r, e, RepD.cutN d v h q.1, RepL.cutN l r t q.2⟩
theorem RepK.cutN : ∀ (l : List (Key × D)) (vs : List (Key × V)), RepK ca K ρ F l vs → belowK n l = true → RepK ca K (ρ.take n) F l vs
  | [], _, h, _ => h
  | (_, d) :: l, _, ⟨v, r, e, h, t, k⟩, q => by
    have q : (D.under n d && belowK n l) = true := q
    rw [Bool.and_eq_true] at q
    exact ⟨v, r, e, RepD.cutN d v h q.1, RepK.cutN l r t q.2, k⟩
theorem RepT.cutN : ∀ (l : List (List Key × D)) (vs : List (List Key × V)), RepT ca K ρ F l vs → belowT n l = true → RepT ca K (ρ.take n) F l vs
  | [], _, h, _ => h
  | (_, d) :: l, _, ⟨v, r, e, h, t, k⟩, q => by
    have q : (D.under n d && belowT n l) = true := q
    rw [Bool.and_eq_true] at q
    exact ⟨v, r, e, RepD.cutN d v h q.1, RepT.cutN l r t q.2, k⟩
theorem RepO.cutN : ∀ (l : List (Str × D)) (vs : List (Str × V)), RepO ca K ρ F l vs → belowO n l = true → RepO ca K (ρ.take n) F l vs
  | [], _, h, _ => h
  | (_, d) :: l, _, ⟨v, r, e, h, t⟩, q => by
    have q : (D.under n d && belowO n l) = true := q
    rw [Bool.and_eq_true] at q
    exact ⟨v, r, e, RepD.cutN d v h q.1, RepO.cutN l r t q.2⟩
end
mutual
/-- what stands knows only what is there -/
theorem RepD.low : ∀ (d : D) (v : V), RepD ca K ρ F d v → d.under ρ.length = true
  | .non, _, _ => rfl
  | .bl _, _, _ => rfl
  | .int _, _, _ => rfl
  | .str _, _, _ => rfl
  | .ref i, _, ⟨a, h, e⟩ => by
    have hi : i < ρ.length := (List.getElem?_eq_some_iff.mp h).1
    simpa [D.under] using hi
  | .tup l, v, ⟨a, vs, e, r, h⟩ => RepL.low l vs h
  | .con l, v, ⟨a, vs, e, r, h⟩ => RepL.low l vs h
  | .lst l, v, ⟨a, vs, e, r, h⟩ => RepL.low l vs h
  | .dk l, v, ⟨a, vs, e, r, h⟩ => RepK.low l vs h
  | .dt l, v, ⟨a, vs, e, r, h⟩ => RepT.low l vs h
  | .obj c l, v, ⟨a, dx, vs, e, r, h, k⟩ => RepO.low l vs h
theorem RepL.low : ∀ (l : List D) (vs : List V), RepL ca K ρ F l vs → belowL ρ.length l = true
  | [], _, h => rfl
  | d :: l, _, ⟨v, r, e, h, t⟩ => by
    show (D.under ρ.length d && belowL ρ.length l) = true
    rw [RepD.low d v h, RepL.low l r t]
    rfl
theorem RepK.low : ∀ (l : List (Key × D)) (vs : List (Key × V)), RepK ca K ρ F l vs → belowK ρ.length l = true
  | [], _, h => rfl
  | (_, d) :: l, _, ⟨v, r, e, h, t, k⟩ => by
    show (D.under ρ.length d && belowK ρ.length l) = true
    rw [RepD.low d v h, RepK.low l r t]
    rfl
theorem RepT.low : ∀ (l : List (List Key × D)) (vs : List (List Key × V)), RepT ca K ρ F l vs → belowT ρ.length l = true
  | [], _, h => rfl
  | (_, d) :: l, _, ⟨v, r, e, h, t, k⟩ => by
    show (D.under ρ.length d && belowT ρ.length l) = true
    rw [RepD.low d v h, RepT.low l r t]
    rfl
theorem RepO.low : ∀ (l : List (Str × D)) (vs : List (Str × V)), RepO ca K ρ F l vs → belowO ρ.length l = true
  | [], _, h => rfl
  | (_, d) :: l, _, ⟨v, r, e, h, t⟩ => by
    show (D.under ρ.length d && belowO ρ.length l) = true
    rw [RepD.low d v h, RepO.low l r t]
    rfl
end
theorem CellR.low {L H : Hp} {lk : Bool} {a : Addr} {c : Cell} (h : CellR ca K ρ F L H lk a c) : c.under ρ.length = true := by
  cases c with
  | lst x =>
    obtain ⟨vs, h1, h2⟩ := h
    exact RepL.low _ _ h2
  | dk x =>
    obtain ⟨vs, h1, h2⟩ := h
    exact RepK.low _ _ h2
  | dt x =>
    obtain ⟨vs, h1, h2⟩ := h
    exact RepT.low _ _ h2
  | ins C x =>
    obtain ⟨dx, vs, h1, h2, h3⟩ := h
    exact RepO.low _ _ h2
theorem CellR.cutN {L H : Hp} {lk : Bool} {a : Addr} {c : Cell} (h : CellR ca K ρ F L H lk a c) (q : c.under n = true) : CellR ca K (ρ.take n) F L H lk a c := by
  cases c with
  | lst x =>
    obtain ⟨vs, h1, h2⟩ := h
    exact ⟨vs, h1, RepL.cutN _ _ h2 q⟩
  | dk x =>
    obtain ⟨vs, h1, h2⟩ := h
    exact ⟨vs, h1, RepK.cutN _ _ h2 q⟩
  | dt x =>
    obtain ⟨vs, h1, h2⟩ := h
    exact ⟨vs, h1, RepT.cutN _ _ h2 q⟩
  | ins C x =>
    obtain ⟨dx, vs, h1, h2, h3⟩ := h
    exact ⟨dx, vs, h1, RepO.cutN _ _ h2 q, h3⟩
end
section
variable {G : Env1} {L H : Hp} {s s0 : S} {ρ ρ0 : List Addr} {F F0 : Hp}
/-- other bases -/
theorem Rel.unbase (r : Rel G L H s ρ F) {bs : List Nat} (h : ∀ b ∈ bs, b ∈ s.bases) : Rel G L H { s with bases := bs } ρ F :=
  ⟨r.len, r.nd, r.frz, r.lkd, r.cell, r.there, r.tabs, r.lkb, fun b hb => r.bsl b (h b hb), fun i c e b hb hi => r.disc i c e b (h b hb) hi, r.ntF, r.ntL⟩
/-- a new base -/
theorem Rel.based (r : Rel G L H s ρ F) : Rel G L H { s with bases := s.st.length :: s.bases } ρ F := by
  refine ⟨r.len, r.nd, r.frz, r.lkd, r.cell, r.there, r.tabs, r.lkb, fun b hb => ?_, fun i c e b hb hi => ?_, r.ntF, r.ntL⟩
  · rcases List.mem_cons.mp hb with h | h
    · rw [h]
      exact Nat.le_refl _
    · exact r.bsl b h
  · rcases List.mem_cons.mp hb with h | h
    · subst h
      have hl : i < ρ.length := by rw [r.len]; exact hi
      obtain ⟨a, ha⟩ := List.getElem?_eq_some_iff.mpr ⟨hl, rfl⟩ |> fun h => (⟨_, h⟩ : ∃ a, ρ[i]? = some a)
      have := (r.cell i c a e ha).low
      rw [r.len] at this
      exact this
    · exact r.disc i c e b h hi
theorem mem_take {α : Type} {l : List α} {n : Nat} {a : α} (h : a ∈ l.take n) : a ∈ l := List.mem_of_mem_take h
theorem take_at {α : Type} {l : List α} {n i : Nat} {a : α} (h : (l.take n)[i]? = some a) : i < n ∧ l[i]? = some a := by
  by_cases hi : i < n
  · rw [List.getElem?_take_of_lt hi] at h
    exact ⟨hi, h⟩
  · rw [List.getElem?_eq_none (by rw [List.length_take]; omega)] at h
    cases h
/-- what lies behind a base goes -/
theorem Rel.trunc (r : Rel G L H s ρ F) {n : Nat} {bs : List Nat} (hn : n ∈ s.bases) (hb : ∀ b ∈ bs, b ∈ s.bases ∧ b ≤ n) (hk : ∀ i, s.lk.contains i = true → i < n) : Rel G L H { s with st := s.st.take n, bases := bs } (ρ.take n) F := by
  have hnl := r.bsl n hn
  refine ⟨by rw [List.length_take, r.len, List.length_take], r.nd.sublist (List.take_sublist n ρ), fun a u e => ?_, fun a u e => ?_, fun i c a e1 e2 => ?_, fun a ha => r.there a (mem_take ha), ?_, fun i hi => ?_, fun b h => ?_, fun i c e b h hi => ?_, r.ntF, r.ntL⟩
  · obtain ⟨h1, h2, h3⟩ := r.frz a u e
    exact ⟨h1, fun h => h2 (mem_take h), h3⟩
  · obtain ⟨h1, h2⟩ := r.lkd a u e
    exact ⟨h1, fun i hi => h2 i (take_at hi).2⟩
  · obtain ⟨hi, e1'⟩ := take_at e1
    exact (r.cell i c a e1' (take_at e2).2).cutN (r.disc i c e1' n hn hi)
  · refine r.tabs.ext fun b u e => ?_
    by_cases hb : b ∈ ρ
    · rw [off_in hb] at e
      cases e
    · rw [off_out hb] at e
      rw [off_out fun h => hb (mem_take h)]
      exact e
  · have := hk i hi
    show i < (s.st.take n).length
    rw [List.length_take]
    omega
  · have := (hb b h).2
    show b ≤ (s.st.take n).length
    rw [List.length_take]
    omega
  · exact r.disc i c (take_at e).2 b (hb b h).1 hi
theorem Le.take {ρ ρ' : List Addr} {F F' : Hp} (l : Le ρ F ρ' F') {n : Nat} (h : ρ.length = n) : Le ρ F (ρ'.take n) F' := ⟨fun i a e => by
  have hi : i < ρ.length := (List.getElem?_eq_some_iff.mp e).1
  rw [List.getElem?_take_of_lt (by omega)]
  exact l.pre i a e, l.sub⟩
/-- behind a def's body -/
theorem exit_ok {W : WX} {σ : L2.St} {Q : VK} {d : D} {v : V} {H0 H' : Hp} {ρ' : List Addr} {F' : Hp} {s1 : S} (r0 : Rel G L H0 s0 ρ F) (q : PB G L ρ F W σ (rpD G) Q (exitF s0.st.length s0 d s1)) (l : Le ρ F ρ' F') (r : Rel G L H' s1 ρ' F') (h : RepD G.ca G.K ρ' F' d v) : Q v H' := by
  unfold exitF at q
  split at q
  · rename_i hc
    have hn : s0.st.length ∈ s1.bases := by rw [hc.2]; exact List.mem_cons_self
    have sub : ∀ b ∈ s0.bases, b ∈ s1.bases := fun b hb => by rw [hc.2]; exact List.mem_cons_of_mem _ hb
    split at q
    · rename_i hu
      exact q v H' (ρ'.take s0.st.length) F' (l.take r0.len) (r.trunc hn (fun b hb => ⟨sub b hb, r0.bsl b hb⟩) fun i hi => r0.lkb i (by rw [← hc.1]; exact hi)) (RepD.cutN _ _ h hu)
    · exact q v H' ρ' F' l (r.unbase sub) h
  · exact q.elim
theorem exitX_ok {W : WX} {σ : L2.St} {Q : VK} {x : Ex} {c : Value} {dx : Option Addr} {H0 H' : Hp} {ρ' : List Addr} {F' : Hp} {s1 : S} (r0 : Rel G L H0 s0 ρ F) (q : PB G L ρ F W σ (rpD G) Q (exitX s0.st.length s0 x s1)) (l : Le ρ F ρ' F') (r : Rel G L H' s1 ρ' F')
    (h : ErrR G ρ' F' x c dx H') : W c dx σ H' := by
  unfold exitX at q
  split at q
  · rename_i hc
    have hn : s0.st.length ∈ s1.bases := by rw [hc.2]; exact List.mem_cons_self
    have sub : ∀ b ∈ s0.bases, b ∈ s1.bases := fun b hb => by rw [hc.2]; exact List.mem_cons_of_mem _ hb
    have cut := r.trunc hn (fun b hb => ⟨sub b hb, r0.bsl b hb⟩) fun i hi => r0.lkb i (by rw [← hc.1]; exact hi)
    obtain ⟨h1, h2⟩ := h
    obtain ⟨cl, row⟩ := x
    cases row with
    | none => exact q c dx H' (ρ'.take s0.st.length) F' (l.take r0.len) cut ⟨h1, h2⟩
    | some d =>
      have q : PB G L ρ F W σ (rpD G) Q (if d.under s0.st.length = true then .err ⟨cl, some d⟩ { s1 with st := s1.st.take s0.st.length, bases := s0.bases } else .err ⟨cl, some d⟩ { s1 with bases := s0.bases }) := q
      split at q
      · rename_i hu
        obtain ⟨a, w, e1, e2, e3⟩ := h2
        exact q c dx H' (ρ'.take s0.st.length) F' (l.take r0.len) cut ⟨h1, a, w, e1, e2, RepD.cutN _ _ e3 hu⟩
      · exact q c dx H' ρ' F' l (r.unbase sub) ⟨h1, h2⟩
  · exact q.elim
theorem slR_start {N : List Str} : ∀ {ds : List D} {vs : List V}, RepL G.ca G.K ρ F ds vs → SlR G ρ F (startS N ds) (L2.start N vs) := fun {ds vs} h => by
  refine ⟨?_, fun j d e => ?_⟩
  · unfold startS L2.start
    rw [List.length_append, List.length_append, List.length_map, List.length_map, List.length_replicate, List.length_replicate, h.length]
  · unfold startS at e
    by_cases hj : j < ds.length
    · rw [List.getElem?_append_left (by simpa using hj), List.getElem?_map] at e
      cases hd : ds[j]? with
      | none => rw [hd] at e; cases e
      | some d' =>
        rw [hd] at e
        cases e
        obtain ⟨v, hv, hr⟩ := h.get hd
        refine ⟨v, ?_, hr⟩
        unfold L2.start
        rw [List.getElem?_append_left (by rw [List.length_map, ← h.length]; exact hj), List.getElem?_map, hv]
        rfl
    · rw [List.getElem?_append_right (by simpa using hj), List.getElem?_replicate] at e
      split at e <;> cases e
/-- a def's promise -/
def spC (G : Env1) (n : Nat) (cl : List D → S → R D) : Sp := fun vs H Q E => vs.length = n ∧ ∃ ds s ρ F L, RepL G.ca G.K ρ F ds vs ∧ Rel G L H s ρ F ∧ PB G L ρ F (fun c d _ H' => E c d H') [] (rpD G) Q (cl ds s)
theorem body_ends {c : Cfg} {k : Nat} {f : Fn} {vs : List V} {Q : VK} {E : XK} (h : spC G f.ps.length (runBody c k f) vs H Q E) :
    tS G (fun c d _ H' => E c d H') (runs ((ev k c).st f.sc) f.body) { nx := fun _ H' => Q .non H', rt := Q } (L2.start f.N vs) H := by
  obtain ⟨hn, ds, s, ρ, F, L, hv, hr, hp⟩ := h
  refine ⟨startS f.N ds, { s with bases := s.st.length :: s.bases }, ρ, F, L, slR_start hv, hr.based, ?_⟩
  unfold runBody at hp
  rw [if_pos (by rw [hv.length]; exact hn)] at hp
  split at hp
  · rename_i sl s1 e
    rw [e]
    exact fun σ' H' ρ' F' l hs r => exit_ok hr hp l r rfl
  · rename_i d s1 e
    rw [e]
    exact fun v H' ρ' F' l r h => exit_ok hr hp l r h
  · rename_i x sl s1 e
    rw [e]
    exact fun cc d σ' H' ρ' F' l hs r h => exitX_ok (σ := []) (W := fun c d _ H' => E c d H') hr hp l r h
  · exact hp.elim
end
end AL
set_option Elab.async false
set_option linter.all false
set_option maxRecDepth 100000
set_option maxHeartbeats 4000000
/-! AL15: surroundings of a body; names; calls of defs, of methods, of classes. -/
namespace AL
open PySem PySem.Spec PyProof.Rows L2
theorem noStar_each {env : Env} : ∀ {es : List Expr}, es.any starB = false → ∀ {pos : Pos}, (backTo pos (starEach es env)).any (·.1) = false ∧ (backTo pos (starEach es env)).all (fun x => !x.1) = true
  | [], _, _ => ⟨rfl, rfl⟩
  | e :: es, h, pos => by
    rw [List.any_cons, Bool.or_eq_false_iff] at h
    obtain ⟨h1, h2⟩ := noStar_each (env := env) h.2 (pos := pos)
    rw [star_ok h.1]
    exact ⟨by show (false || (backTo pos (starEach es env)).any (·.1)) = false; rw [h1]; rfl, by show (!false && (backTo pos (starEach es env)).all (fun x => !x.1)) = true; rw [h2]; rfl⟩
/-- o.m(args), whatever o turns out to be -/
theorem meth_any {M : Model} {A : Around} {E : Value → Shared → Prop} {s : Shared} {env : Env} {o : Expr} {name : Str} {apos pos : Pos} {args : List Expr} {Q : Value → Shared → Prop} (hbase : attributeBase o name env (eval o env) = eval o env)
    (hn : args.any starB = false) (hl : args.length < 30) (hline : (apos.endLine == pos.line) = true)
    (h : wpAny M A (eval o env) (fun ov s1 => ∀ pl, wpAny M A (getMethod ov name pl) (fun fx s2 => wpAny M A (callWith pos fx.1 fx.2 (backTo pos (starEach args env)) []) Q E s2) E s1) E s) :
    wpAny M A (eval (.Call (.Attribute o name apos) args [] pos) env) Q E s := by
  rw [arm_eval_Call, hbase]
  refine wpAny_bind (wpAny_mono h (fun ov s1 h1 => ?_) fun _ _ e => e)
  refine wpAny_bind (wpAny_standAt ?_)
  have hform : methodCallForm (args.length + ([] : List Keyword).length) (backTo pos (starEach args env)) (backToKw pos (keywordEach [] env)) = true := by
    unfold methodCallForm
    rw [(noStar_each hn).2]
    show (true && true && decide (args.length + 0 + 0 < 30)) = true
    simp [hl]
  have hpos : methodCallPos true o env apos pos = pure pos := by
    unfold methodCallPos
    simp [hline]
  unfold methodCall
  rw [hform]
  refine wpAny_bind (wpAny_holding (wpAny_mono (h1 _) (fun fx s2 h2 => ?_) fun _ _ e => e))
  exact wpAny_bind (wpAny_of_eq hpos h2)
section
variable (G : Env1) (X : Cx)
/-- a def of the module, callable here -/
def CallOk (lvl : Nat) (x : Str) (cl : List D → S → R D) : Prop := ∃ k f fd ps, FnOk X.prog X.w X.K X.mg X.base (L2.CX X.prog X.w) k f fd ps (spC G ps.length cl) ∧ (∀ ds s, ds.length ≠ ps.length → cl ds s = .bad) ∧ k ≤ lvl ∧ X.mg x = some (.ref f) ∧ PySem.W.keepIn X.K (.ref f) = true ∧ Binds X.K fd ps []
def MethOk (lvl : Nat) (C m : Str) (cl : List D → S → R D) : Prop := ∃ k f fd ps, FnOk X.prog X.w X.K X.mg X.base (L2.CX X.prog X.w) k f fd ps (spC G ps.length cl) ∧ (∀ ds s, ds.length ≠ ps.length → cl ds s = .bad) ∧ k ≤ lvl ∧ Cls X.K (G.ca C) ∧ Meth X.K (G.ca C) m f ∧ Binds X.K fd ps []
/-- what __init__ promises: a: the new instance -/
def spN (G : Env1) (n : Nat) (C : Str) (cl : List D → S → R D) : Sp := fun vs H Q E => vs.length = n ∧ ∃ (ds : List D) (rest : List V) (s : S) (ρ : List Addr) (F L : Hp) (a dx : Addr) (H1 : Hp) (Q' : VK), vs = .ref a :: rest ∧ H = upd (upd H1 dx (.own a)) a (.ins (G.ca C) dx []) ∧ H1 a = none ∧ H1 dx = none ∧ dx ≠ a ∧
  RepL G.ca G.K ρ F ds rest ∧ Rel G L H1 s ρ F ∧ (∀ H2, Q' (.ref a) H2 → Q .non H2) ∧ PB G L ρ F (fun c d _ H' => E c d H') [] (rpD G) Q' (cl ds s)
def NewOk (lvl : Nat) (x : Str) (cl : List D → S → R D) : Prop := ∃ k f fd ps, FnOk X.prog X.w X.K X.mg X.base (L2.CX X.prog X.w) k f fd ps (spN G ps.length x cl) ∧ (∀ ds s, ds.length + 1 ≠ ps.length → cl ds s = .bad) ∧ k + 1 ≤ lvl ∧ Mk X.K (G.ca x) f ∧ X.mg x = some (.ref (G.ca x)) ∧ Binds X.K fd ps []
end
/-- the handlers of a try that tells -/
def toldHs : List ExceptHandler → Option (List (Str × Str))
  | [] => some []
  | .ExceptHandler (some (.Name e _)) none [.Return (some (.Constant (.str r) _ _)) _] _ :: l => (toldHs l).map ((e, r) :: ·)
  | _ => none
/-- try: return a() except ..: return .. -/
def toldBody (a : Str) : List Stmt → Option (List (Str × Str))
  | [.Try [.Return (some (.Call (.Name b _) [] [] _)) _] hs [] [] _] => if b = a then toldHs hs else none
  | _ => none
/-- the def that tells -/
def ToldOk (P : Program) (K : PySem.W.Frag) (mg : Str → Option Value) : Prop := ∃ (g : Addr) (pg : Arguments) (bg : List Stmt) (sg : Scope) (dV kV doc pm cdv ct oc : Value) (an od : Option Addr) (osl : Array (Option Value)) (Ng : List Str) (a : Str),
  mg "_law_told" = some (.ref g) ∧ PySem.W.keepIn K (.ref g) = true ∧ K.lookup g = some ⟨oc, od, .func (PySem.W.fnOf "_law_told" "_law_told" pg bg sg dV kV doc pm an cdv ct), osl⟩ ∧ PySem.W.codeIn K cdv "_law_told" = true ∧
  L2.Binds K (PySem.W.fnOf "_law_told" "_law_told" pg bg sg dV kV doc pm an cdv ct) [a] [] ∧ FnScope Ng [a] sg ∧ Ng[0]? = some a ∧ okN a = true ∧ toldBody a bg = some toldL ∧ ∀ p ∈ toldL, sg.names.lookup p.1 = some .globalImplicit
/-- the def's own table of code objects of the name q -/
def TabOk (T : List (Addr × Str)) (X : Cx) (q : Str) : Prop := ∃ cA P, LamX.TabB X.base X.mg cA P ∧ X.env.code = .ref cA ∧ (P, X.env.qual ++ q) ∈ T ∧ ∀ p ∈ T, p.1 = P → p.2 = X.env.qual ++ q
/-- the names of the built-ins that are used -/
def bltN : List Str := ["len", "abs", "int", "bool", "str", "max", "min", "sum", "all", "any", "sorted", "tuple", "list", "dict", "range", "enumerate", "reversed", "zip"]
/-- an expression's surroundings -/
structure Sd (c : Cfg) (ca : Str → Addr) (T : List (Addr × Str)) (X : Cx) (W : WX) (sc : Scope) : Prop where
  N : X.N = c.N
  nd : X.N.Nodup
  scp : X.env.scope = sc
  calm : X.calm = true
  tk : Takes X W
  room : Room (c.lvl + 3 + 3 * c.lam) X.A
  gl : ∀ x d, c.gl x = some d → ∃ v u, X.mg x = some u ∧ RelV v u ∧ ∀ ρ F, RepD ca X.K ρ F d v
  fns : ∀ x, c.own x = true → CallOk (gx X ca T) X c.lvl x (c.call x)
  meth : ∀ C m g, c.meth C m = some g → MethOk (gx X ca T) X c.lvl C m g
  new : ∀ x, c.own x = false → c.isC x = true → NewOk (gx X ca T) X c.lvl x (c.new x)
  blt : ∀ x ∈ bltN, c.own x = false → c.isC x = false → X.mg x = none
  attr : ∀ C f, c.attr C f = true → Cls X.K (ca C) ∧ NoAttr X.K (ca C) f
  exc : ∀ C, c.exc C = true → (∃ bmB B newId initId, ExcBaseFacts B newId initId bmB ∧ PySem.W.excIn X.K (ca C) bmB newId = true) ∧ X.mg C = some (.ref (ca C)) ∧ PySem.W.keepIn X.K (.ref (ca C)) = true ∧ PySem.W.subIn X.K (.ref (ca C)) (.type "BaseException") = some true ∧ PySem.W.typeIn X.K (.ref (ca C)) = some (.type "type")
  exm : ∀ x y, c.exc x = true → y ∈ excN → PySem.W.exmOne X.K (.ref (ca x)) (.ref (ca y)) = some (c.sub x y)
  excG : ∀ y ∈ excN, X.mg y = some (.ref (ca y))
  tab1 : 0 < c.lam → c.tb = 1 → TabOk T X "<lambda>"
  tab2 : 0 < c.lam → c.tb = 2 → TabOk T X "<genexpr>"
  told : 0 < c.lam → c.tb = 1 → ToldOk X.prog X.K X.mg
section
variable {c : Cfg} {ca : Str → Addr} {T : List (Addr × Str)} {X : Cx} {W : WX} {sc : Scope} {pos p : Pos} {x : Str}
theorem Sd.units (h : Sd c ca T X W sc) : X.A.units + 64 < cLine := h.room.units
theorem ixN_at : ∀ {N : List Str} {i : Nat}, ixN N x = some i → N[i]? = some x := fun {N i} h => by
  unfold ixN at h
  rw [List.findIdx?_eq_some_iff_getElem] at h
  obtain ⟨hl, h1, _⟩ := h
  rw [List.getElem?_eq_getElem hl]
  exact congrArg some (of_decide_eq_true h1)
theorem okN_dbg (h : okN x = true) : (x == ("__debug__" : Str)) = false ∧ (x == ("__classdict__" : Str)) = false := by
  unfold okN at h
  rw [Bool.and_eq_true] at h
  exact ⟨by simpa using h.1, by simpa using h.2⟩
theorem glN_ok (h : Sd c ca T X W sc) (g : glN sc x = true) : Gl X x ∧ (x == ("__debug__" : Str)) = false := by
  unfold glN at g
  rw [Bool.and_eq_true] at g
  refine ⟨?_, (okN_dbg g.1).1⟩
  show X.env.scope.names.lookup x = _
  rw [h.scp]
  exact of_decide_eq_true g.2
theorem ae_name (h : Sd c ca T X W sc) : PE X (.Name x pos) (tE (gx X ca T) W (if okN x = false then badE else (match sc.names.lookup x with
    | some .globalImplicit => (match c.gl x with
      | some d => pureE d
      | none => badE)
    | some .globalExplicit => badE
    | some _ => (match ixN c.N x with
      | some i => slot i
      | none => badE)
    | none => badE))) := by
  by_cases ho : okN x = false
  · rw [if_pos ho]
    exact ae_bad
  rw [if_neg ho]
  have ok : okN x = true := by simpa using ho
  have vis : ∀ {k : NameKind}, sc.names.lookup x = some k → k = .local ∨ k = .cell ∨ k = .free → PE X (.Name x pos) (tE (gx X ca T) W (match ixN c.N x with
      | some i => slot i
      | none => badE)) := fun {k} e hk => by
    cases hi : ixN c.N x with
    | none => exact ae_bad
    | some i =>
      have hv : Vis X.env.scope x := by
        rw [h.scp]
        unfold Vis
        rw [e]
        rcases hk with rfl | rfl | rfl
        · exact .inl rfl
        · exact .inr (.inl rfl)
        · exact .inr (.inr rfl)
      exact ae_slot (x := x) (pe_var (by rw [h.N]; exact ixN_at hi) hv (okN_dbg ok).1 (okN_dbg ok).2)
  cases e : sc.names.lookup x with
  | none => exact ae_bad
  | some k =>
    cases k with
    | globalImplicit =>
      show PE X _ (tE (gx X ca T) W (match c.gl x with
        | some d => pureE d
        | none => badE))
      cases hg : c.gl x with
      | none => exact ae_bad
      | some d =>
        obtain ⟨v, u, e1, e2, e3⟩ := h.gl x d hg
        exact ae_pure (pe_glob (by show X.env.scope.names.lookup x = _; rw [h.scp]; exact e) e1 e2 (okN_dbg ok).1) e3
    | globalExplicit => exact ae_bad
    | «local» => exact vis e (.inl rfl)
    | cell => exact vis e (.inr (.inl rfl))
    | free => exact vis e (.inr (.inr rfl))
theorem ae_const {v : Const} {j : Nat} : PE X (.Constant v j pos) (tE (gx X ca T) W (match v with
    | .none => pureE .non
    | .bool b => pureE (.bl b)
    | .int i => pureE (.int i)
    | .str x => if x.length ≤ 1000 then pureE (.str x) else badE
    | _ => badE)) := by
  cases v with
  | none => exact ae_pure pe_non fun _ _ => rfl
  | bool b => exact ae_pure pe_bl fun _ _ => rfl
  | int i => exact ae_pure pe_int fun _ _ => rfl
  | str x =>
    show PE X _ (tE (gx X ca T) W (if x.length ≤ 1000 then pureE (.str x) else badE))
    by_cases hl : x.length ≤ 1000
    · rw [if_pos hl]
      exact ae_pure pe_str fun _ _ => ⟨rfl, len1000 hl⟩
    · rw [if_neg hl]
      exact ae_bad
  | _ => exact ae_bad
/-! ### calls -/
/-- the arguments, then a call that may raise -/
theorem tA_call {G : Env1} {ms : Sl → S → R (List D)} {g : List D → S → R D} {σ : L2.St} {H : Hp} {Q : VK} (h : tE G W (fun sl s => (ms sl s).bind fun ds s1 => g ds s1) σ H Q) :
    tA G W ms σ H fun xs H1 => ∃ ds s ρ F L, RepL G.ca G.K ρ F ds xs ∧ Rel G L H1 s ρ F ∧ PB G L ρ F W σ (rpD G) Q (g ds s) := by
  obtain ⟨sl, s, ρ, F, L, hs, hr, hp⟩ := tX.bind (rp := rpL G) (f := fun sl x s1 => g x s1) h
  refine ⟨sl, s, ρ, F, L, hs, hr, hp.imp (.refl ρ F) fun _ _ _ x H1 _ _ _ _ _ q => ?_⟩
  obtain ⟨sl, s, ds, s1, ρ1, F1, L, e, hs1, hr1, hx, q⟩ := q
  exact ⟨ds, s1, ρ1, F1, L, hx, hr1, q⟩
theorem PB.at {G : Env1} {L : Hp} {ρ : List Addr} {F : Hp} {σ σ' : L2.St} {Q : VK} {r : R D} (h : PB G L ρ F W σ (rpD G) Q r) : PB G L ρ F (fun c d _ H' => W c d σ H') σ' (rpD G) Q r := by
  cases r with
  | ok a s' => exact h
  | err x s' => exact h
  | bad => exact h
theorem run_call {k : Nat} {a : Addr} {fd : FuncData} {ps : List Str} {cl : List D → S → R D} (tk : Takes X W) (F : FnOk X.prog X.w X.K X.mg X.base (L2.CX X.prog X.w) k a fd ps (spC (gx X ca T) ps.length cl)) (hl : ∀ ds s, ds.length ≠ ps.length → cl ds s = .bad)
    (hr : Room k X.A) (hb : Binds X.K fd ps []) {pins : List (Addr × Obj)} {σ : L2.St} {s1 : Shared} {H1 : Hp} {Q : VK} {us : List Value} {vs : List V} (I1 : Inv X pins σ H1 s1) (r : Vals vs us)
    (q : ∃ ds s ρ F L, RepL ca X.K ρ F ds vs ∧ Rel (gx X ca T) L H1 s ρ F ∧ PB (gx X ca T) L ρ F W σ (rpD (gx X ca T)) Q (cl ds s)) : wpAny (model X.prog X.w) X.A (call (.ref a) us) (EP X pins σ Q) X.xe s1 := by
  obtain ⟨ds, s, ρ, F', L, hv, hr', hp⟩ := q
  refine run_fnS F hr hb (E := WE W) (passAt tk σ) I1 r ?_
  refine ⟨?_, ds, s, ρ, F', L, hv, hr', hp.at⟩
  have e := RepL.length (G := gx X ca T) hv
  by_cases h : ds.length = ps.length
  · rw [← e, h]
  · rw [hl ds s h] at hp
    exact hp.elim
theorem ae_call (h : Sd c ca T X W sc) (g : glN sc x = true) (ho : c.own x = true) {f : Expr → ME} (hf : ∀ e, PE X e (tE (gx X ca T) W (f e))) {es : List Expr} (hn : es.any starB = false) :
    PE X (.Call (.Name x p) es [] pos) (tE (gx X ca T) W fun sl s => (many f es sl s).bind fun ds s1 => c.call x ds s1) := by
  obtain ⟨k, a, fd, ps, F, hl, hle, hm, hk, hb⟩ := h.fns x ho
  have hr := h.room.mono (j := k) (by omega)
  obtain ⟨hg, hdb⟩ := glN_ok h g
  refine ⟨fun pins s σ H Q I q => ?_⟩
  cases es with
  | nil =>
    refine wpAny_Call_Name_kw (ld_glob I hg hm ?_ hdb)
    refine PySem.W.callWith_K0 I.kIn hk ?_
    obtain ⟨sl, s', ρ, F', L, hs, hr', hp⟩ := q
    exact run_call h.tk F hl hr hb (us := []) I .nil ⟨[], s', ρ, F', L, rfl, hr', hp⟩
  | cons e es =>
    have hn' := hn
    rw [List.any_cons, Bool.or_eq_false_iff] at hn
    refine wpAny_Call_Name_kw (ld_glob I hg hm ?_ hdb)
    refine PySem.W.callWith_K (h₀ := X.base) I.ok.mod.kin hk (thn ((aa_many (ca := ca) (T := T) hf hn').run pos pins s σ H _ I (tA_call q)) fun us s1 ⟨vs, H1, I1, r, q⟩ => ⟨I1.kIn, ?_⟩) (star_ok hn.1) (noStar_each hn.2).1
    exact run_call h.tk F hl hr hb I1 r q
/-- C(..) -/
theorem run_new {k : Nat} {a : Addr} {fd : FuncData} {ps : List Str} {cl : List D → S → R D} (tk : Takes X W) (M : Mk X.K (ca x) a) (F : FnOk X.prog X.w X.K X.mg X.base (L2.CX X.prog X.w) k a fd ps (spN (gx X ca T) ps.length x cl)) (hl : ∀ ds s, ds.length + 1 ≠ ps.length → cl ds s = .bad)
    (hr : Room (k + 1) X.A) (hb : Binds X.K fd ps []) {pins : List (Addr × Obj)} {σ : L2.St} {s1 : Shared} {H1 : Hp} {Q : VK} {us : List Value} {vs : List V} (I1 : Inv X pins σ H1 s1) (r : Vals vs us)
    (q : ∃ ds s ρ F L, RepL ca X.K ρ F ds vs ∧ Rel (gx X ca T) L H1 s ρ F ∧ PB (gx X ca T) L ρ F W σ (rpD (gx X ca T)) Q (cl ds s)) : wpAny (model X.prog X.w) X.A (call (.ref (ca x)) us) (EP X pins σ Q) X.xe s1 := by
  obtain ⟨ds, s, ρ, F', L, hv, hr', hp⟩ := q
  have e := RepL.length (G := gx X ca T) hv
  have hlen : ds.length + 1 = ps.length := by
    by_cases h : ds.length + 1 = ps.length
    · exact h
    · rw [hl ds s h] at hp
      exact hp.elim
  -- the new instance and its dict
  have f0 : H1 s1.heap.objs.size = none := I1.hok.fresh (Nat.le_refl _)
  have f1 : H1 (s1.heap.objs.size + 1) = none := I1.hok.fresh (Nat.le_succ _)
  have I2 := Inv.made (C := ca x) I1
  have r2 : Vals (V.ref (s1.heap.objs.size + 1) :: vs) (Value.ref (s1.heap.objs.size + 1) :: us) := .cons rfl r
  have hsp : spN (gx X ca T) ps.length x cl (V.ref (s1.heap.objs.size + 1) :: vs) (upd (upd H1 s1.heap.objs.size (.own (s1.heap.objs.size + 1))) (s1.heap.objs.size + 1) (.ins (ca x) s1.heap.objs.size []))
      (fun v H2 => v = .non ∧ Q (.ref (s1.heap.objs.size + 1)) H2) (WE W σ) :=
    ⟨by rw [List.length_cons, ← e, hlen], ds, vs, s, ρ, F', L, _, _, H1, Q, rfl, rfl, f1, f0, Nat.ne_of_lt (Nat.lt_succ_self _), hv, hr', fun H2 q => ⟨rfl, q⟩, hp.at⟩
  have hlv : (Value.ref (s1.heap.objs.size + 1) :: us).length = ps.length := by
    rw [← Vals.length r2, List.length_cons, ← e, hlen]
  have hbs := hb _ (Value.ref (s1.heap.objs.size + 1) :: us) I2.kIn (by rw [List.append_nil]; exact hlv)
  rw [List.append_nil] at hbs
  refine wpAny_call (make_map (f := a) I1.kIn M.makes M.init (beq_iff_eq.mp M.fn) (codeAny_mono (F.run _ X.stack _ _ ⟨Value.ref (s1.heap.objs.size + 1) :: us, []⟩ (Value.ref (s1.heap.objs.size + 1) :: us) _ _ (WE W σ) (hr.make (ca x) us [])
    (I2.env0.make (ca x) us []) hbs r2 hsp) fun r' s' hq' => ?_))
  cases r' with
  | error ev => exact passAt tk σ pins _ _ ev s' I2 hq'
  | ok fl =>
    cases fl with
    | ret u =>
      obtain ⟨v, H', I3, rv, ev, q3⟩ := I2.after hq'
      subst ev
      exact ⟨rv, ⟨V.ref (s1.heap.objs.size + 1), H', I3, rfl, q3⟩⟩
    | next => exact False.elim hq'
    | brk => exact False.elim hq'
    | cont => exact False.elim hq'
theorem ae_new (h : Sd c ca T X W sc) (g : glN sc x = true) (hown : c.own x = false) (ho : c.isC x = true) {f : Expr → ME} (hf : ∀ e, PE X e (tE (gx X ca T) W (f e))) {es : List Expr} (hn : es.any starB = false) :
    PE X (.Call (.Name x p) es [] pos) (tE (gx X ca T) W fun sl s => (many f es sl s).bind fun ds s1 => c.new x ds s1) := by
  obtain ⟨k, a, fd, ps, F, hl, hle, hmk, hm, hb⟩ := h.new x hown ho
  have hr := h.room.mono (j := k + 1) (by omega)
  obtain ⟨hg, hdb⟩ := glN_ok h g
  refine ⟨fun pins s σ H Q I q => ?_⟩
  cases es with
  | nil =>
    refine wpAny_Call_Name_kw (ld_glob I hg hm ?_ hdb)
    refine PySem.W.callWith_K0 I.kIn hmk.kp ?_
    obtain ⟨sl, s', ρ, F', L, hs, hr', hp⟩ := q
    exact run_new h.tk hmk F hl hr hb (us := []) I .nil ⟨[], s', ρ, F', L, rfl, hr', hp⟩
  | cons e es =>
    have hn' := hn
    rw [List.any_cons, Bool.or_eq_false_iff] at hn
    refine wpAny_Call_Name_kw (ld_glob I hg hm ?_ hdb)
    refine PySem.W.callWith_K (h₀ := X.base) I.ok.mod.kin hmk.kp (thn ((aa_many (ca := ca) (T := T) hf hn').run pos pins s σ H _ I (tA_call q)) fun us s1 ⟨vs, H1, I1, r, q⟩ => ⟨I1.kIn, ?_⟩) (star_ok hn.1) (noStar_each hn.2).1
    exact run_new h.tk hmk F hl hr hb I1 r q
/-! ### methods -/
/-- a built-in method by values -/
def MtA (X : Cx) (ca : Str → Addr) (T : List (Addr × Str)) (id : String) (g : D → List D → S → R D) : Prop :=
  ∀ (pins : List (Addr × Obj)) (s : Shared) (σ : L2.St) (H : Hp) (x : V) (xs : List V) (v : Value) (us : List Value) (Q : VK), Inv X pins σ H s → L2.RelV x v → Vals xs us →
    (∃ d ds st ρ F L, RepD ca X.K ρ F d x ∧ RepL ca X.K ρ F ds xs ∧ Rel (gx X ca T) L H st ρ F ∧ PV (gx X ca T) L ρ F (rpD (gx X ca T)) Q (g d ds st)) → wpAny (model X.prog X.w) X.A (call (.builtin id) (v :: us)) (EP X pins σ Q) X.xe s
structure MtOk (X : Cx) (ca : Str → Addr) (T : List (Addr × Str)) (ty : String) (m : Str) (g : D → List D → S → R D) : Prop where
  ne : ∀ d ds s, (g d ds s).isErr = false
  ok : ∃ id, Slot ty m id ∧ typeOf (.builtin id) = pure (.type "method_descriptor") ∧ MtA X ca T id g
/-- what follows the arguments -/
theorem many_step {f : Expr → ME} {es : List Expr} {g : D → List D → S → R D} {d : D} {v : V} {sl : Sl} {s : S} {ρ : List Addr} {F L H : Hp} {σ : L2.St} {Q : VK} (hs : SlR (gx X ca T) ρ F sl σ) (hr : Rel (gx X ca T) L H s ρ F) (hd : RepD ca X.K ρ F d v)
    (q : PB (gx X ca T) L ρ F W σ (rpD (gx X ca T)) Q ((many f es sl s).bind fun ds s2 => g d ds s2)) :
    tA (gx X ca T) W (many f es) σ H fun xs H1 => ∃ ds st ρ F L, RepD ca X.K ρ F d v ∧ RepL ca X.K ρ F ds xs ∧ Rel (gx X ca T) L H1 st ρ F ∧ PB (gx X ca T) L ρ F W σ (rpD (gx X ca T)) Q (g d ds st) := by
  refine ⟨sl, s, ρ, F, L, hs, hr, (PB.bind (rp := rpL (gx X ca T)) q).imp (.refl ρ F) fun _ _ _ xs H1 _ _ _ _ _ q => ?_⟩
  obtain ⟨ds, s2, ρ2, F2, _, l2, hr2, hx, q⟩ := q
  exact ⟨ds, s2, ρ2, F2, L, RepD.mono l2 _ _ hd, hx, hr2, q⟩
theorem bm_call {ty : String} {m : Str} {g : D → List D → S → R D} (M : MtOk X ca T ty m g) (pa : PlainAttrs ty) {f : Expr → ME} (hf : ∀ e, PE X e (tE (gx X ca T) W (f e))) {es : List Expr} (hn : es.any starB = false) {pl : Sem Bool}
    {pins : List (Addr × Obj)} {s1 : Shared} {σ : L2.St} {H1 : Hp} {Q : VK} {d : D} {x : V} {u : Value} (I : Inv X pins σ H1 s1) (rx : L2.RelV x u) (hT : s1.TypeIs u ty) (hdt : ∀ a, u = .ref a → ∃ o, s1.heap.get? a = some o ∧ o.dict = none)
    (q : tA (gx X ca T) W (many f es) σ H1 fun xs H1 => ∃ ds st ρ F L, RepD ca X.K ρ F d x ∧ RepL ca X.K ρ F ds xs ∧ Rel (gx X ca T) L H1 st ρ F ∧ PB (gx X ca T) L ρ F W σ (rpD (gx X ca T)) Q (g d ds st)) :
    wpAny (model X.prog X.w) X.A (getMethod u m pl) (fun fx s2 => wpAny (model X.prog X.w) X.A (callWith pos fx.1 fx.2 (backTo pos (starEach es X.env)) []) (EP X pins σ Q) X.xe s2) X.xe s1 := by
  obtain ⟨id, slot, hty, hm⟩ := M.ok
  refine getMethod_builtin hT pa slot hty hdt ?_
  refine Calls.callWith_builtin (noStar_each hn).1 ?_
  have run := fun {s2 : Shared} {xs : List V} {us : List Value} {H2 : Hp} (I2 : Inv X pins σ H2 s2) (r : Vals xs us) (q : ∃ ds st ρ F L, RepD ca X.K ρ F d x ∧ RepL ca X.K ρ F ds xs ∧ Rel (gx X ca T) L H2 st ρ F ∧ PB (gx X ca T) L ρ F W σ (rpD (gx X ca T)) Q (g d ds st)) => 
    (show wpAny (model X.prog X.w) X.A (call (.builtin id) (u :: us)) (EP X pins σ Q) X.xe s2 from by
      obtain ⟨ds, st, ρ, F, L, h1, h2, h3, q⟩ := q
      exact hm pins s2 σ H2 x xs u us Q I2 rx r ⟨d, ds, st, ρ, F, L, h1, h2, h3, q.pv (M.ne d ds st)⟩)
  cases es with
  | nil =>
    obtain ⟨sl, st, ρ, F, L, hs, hr, hp⟩ := q
    exact PySem.evalArgs_none (run (us := []) I .nil (hp [] H1 ρ F (.refl ρ F) hr rfl))
  | cons e es =>
    have hA := (aa_many (ca := ca) (T := T) hf hn).run pos pins s1 σ H1 _ I q
    rw [List.any_cons, Bool.or_eq_false_iff] at hn
    rw [star_ok hn.1] at hA ⊢
    refine Calls.evalArgs_plain (thn hA fun us s2 hh => ?_)
    obtain ⟨vs, H2, I2, r, q⟩ := hh
    exact run I2 r q
theorem ae_meth (h : Sd c ca T X W sc) (hL : ∀ m g, methL m = some g → MtOk X ca T "list" m g) (hK : ∀ m g, methK m = some g → MtOk X ca T "dict" m g) (hS : ∀ m g, methS m = some g → MtOk X ca T "str" m g)
    {o : Expr} {m : Str} {apos : Pos} {f : Expr → ME} (hf : ∀ e, PE X e (tE (gx X ca T) W (f e))) {es : List Expr} (hc : callOk o apos pos es = true) :
    PE X (.Call (.Attribute o m apos) es [] pos) (tE (gx X ca T) W fun sl s => (f o sl s).bind fun x s1 => (match methOf c (x.view s1) m with
      | some g => (many f es sl s1).bind fun ds s2 => g x ds s2
      | none => .bad)) := by
  unfold callOk at hc
  simp only [Bool.and_eq_true, Bool.not_eq_true', decide_eq_true_eq] at hc
  obtain ⟨⟨⟨h1, h2⟩, h3⟩, h4⟩ := hc
  refine ⟨fun pins s σ H Q I q => ?_⟩
  refine meth_any (noSuper h1) h3 h4 h2 ?_
  obtain ⟨sl, st, ρ, F, L, hs, hr, hp⟩ := tX.bind (rp := rpD (gx X ca T)) (f := fun sl x s1 => (match methOf c (x.view s1) m with
      | some g => (many f es sl s1).bind fun ds s2 => g x ds s2
      | none => .bad)) q
  refine thn ((hf o).run pins s σ H _ I ⟨sl, st, ρ, F, L, hs, hr, hp⟩) fun u s1 ⟨x, H1, I1, rx, q1⟩ pl => ?_
  obtain ⟨sl, st, d, s', ρ1, F1, L, _, hs1, hr1, hx, q⟩ := q1
  split at q
  rotate_left
  · exact q.elim
  rename_i g hg
  have qa := many_step hs1 hr1 hx q
  unfold methOf at hg
  split at hg
  · -- an instance
    rename_i C l ev
    cases hm : c.meth C m with
    | none => rw [hm] at hg; cases hg
    | some g' =>
      rw [hm] at hg
      cases hg
      obtain ⟨k, fa, fd, ps, F, hl, hle, hcl, hme, hb⟩ := h.meth C m g' hm
      have hr := h.room.mono (j := k) (by omega)
      obtain ⟨a, dx, vs, e1, e2, e3, e4⟩ := hr1.viewO hx ev
      subst e1
      obtain rfl : u = Value.ref a := rx
      have lk : vs.lookup m = none := by
        cases hq : vs.lookup m with
        | none => rfl
        | some w =>
          have hmem : m ∈ vs.map (·.1) := List.mem_map.mpr ⟨(m, w), PySem.mem_of_lookup hq, rfl⟩
          have n1 : PySem.W.findIn X.K (.ref (ca C)) m = some none := e4.no m hmem
          have n2 : PySem.W.findIn X.K (.ref (ca C)) m = some (some (.ref fa)) := hme.at_
          rw [n1] at n2
          cases n2
      refine getmeth_ok I1 e2 hcl hme lk ?_
      have run := fun {s2 : Shared} {xs : List V} {us : List Value} {H2 : Hp} (I2 : Inv X pins σ H2 s2) (r : Vals xs us) (q : ∃ ds st ρ F L, RepD ca X.K ρ F d (.ref a) ∧ RepL ca X.K ρ F ds xs ∧ Rel (gx X ca T) L H2 st ρ F ∧ PB (gx X ca T) L ρ F W σ (rpD (gx X ca T)) Q (g' (d :: ds) st)) => 
        (show wpAny (model X.prog X.w) X.A (call (.ref fa) (.ref a :: us)) (EP X pins σ Q) X.xe s2 from by
          obtain ⟨ds, st, ρ, F', L, h1, h2, h3, q⟩ := q
          exact run_call h.tk F hl hr hb (us := .ref a :: us) (vs := .ref a :: xs) I2 (.cons rfl r) ⟨d :: ds, st, ρ, F', L, ⟨_, _, rfl, h1, h2⟩, h3, q⟩)
      cases es with
      | nil =>
        obtain ⟨sl, st, ρ, F, L, hs, hr, hp⟩ := qa
        exact PySem.W.callWith_K0 (first := [.ref a]) I1.kIn hme.kp (run (us := []) I1 .nil (hp [] H1 ρ F (.refl ρ F) hr rfl))
      | cons e es =>
        have h3' := h3
        rw [List.any_cons, Bool.or_eq_false_iff] at h3'
        exact PySem.W.callWith_K (first := [.ref a]) (h₀ := X.base) I1.ok.mod.kin hme.kp (thn ((aa_many (ca := ca) (T := T) hf h3).run pos pins s1 σ H1 _ I1 qa) fun us s2 ⟨vs, H2, I2, r, q⟩ => ⟨I2.kIn, run I2 r q⟩) (star_ok h3'.1) (noStar_each h3'.2).1
  · rename_i l ev
    obtain ⟨a, vs, e1, e2, e3⟩ := hr1.viewL hx ev
    subst e1
    obtain rfl : u = Value.ref a := rx
    obtain ⟨its, _, pl', _⟩ := I1.list (show SqL X.K H1 a vs from .inl e2)
    exact bm_call (x := .ref a) (hL m g hg) PySem.F.plainAttrs_list hf h3 I1 rfl pl'.isList.typeIs (fun b e => by
      cases e
      obtain ⟨o, n, e, c, hd, _⟩ := pl'
      exact ⟨o, e, hd⟩) qa
  · rename_i l ev
    obtain ⟨a, vs, e1, e2, e3⟩ := hr1.viewK hx ev
    subst e1
    obtain rfl : u = Value.ref a := rx
    obtain ⟨_, _, _, _, o, _, _, e, ex, _⟩ := e2.ok I1.hok
    exact bm_call (x := .ref a) (hK m g hg) PySem.F.plainAttrs_dict hf h3 I1 rfl ⟨o, e, ex.1⟩ (fun b e' => by
      cases e'
      exact ⟨o, e, ex.2.1⟩) qa
  · rename_i l ev
    obtain ⟨a, vs, e1, e2, e3⟩ := hr1.viewD hx ev
    subst e1
    obtain rfl : u = Value.ref a := rx
    obtain ⟨_, _, _, _, o, _, _, e, ex, _⟩ := e2.ok I1.hok
    exact bm_call (x := .ref a) (hK m g hg) PySem.F.plainAttrs_dict hf h3 I1 rfl ⟨o, e, ex.1⟩ (fun b e' => by
      cases e'
      exact ⟨o, e, ex.2.1⟩) qa
  · rename_i z ev
    obtain ⟨e1, e2⟩ := rep_str hx ev
    subst e1
    obtain ⟨t, rfl⟩ := rx
    exact bm_call (x := .str z) (hS m g hg) PySem.F.plainAttrs_str hf h3 I1 ⟨t, rfl⟩ (typeIs_str _ _ _) (fun b e' => by cases e') qa
  · cases hg
end
end AL
set_option Elab.async false
set_option linter.all false
set_option maxRecDepth 100000
set_option maxHeartbeats 4000000
/-! AL16: behind __init__; built-in methods. -/
namespace AL
open PySem PySem.Spec PyProof.Rows L2
section
variable {G : Env1} {L H : Hp} {s s0 : S} {ρ : List Addr} {F : Hp}
theorem Rel.baseAt (r : Rel G L H s ρ F) {n : Nat} (hn : n ≤ s.st.length) (hd : ∀ i c, s.st[i]? = some c → i < n → c.under n = true) : Rel G L H { s with bases := n :: s.bases } ρ F := by
  refine ⟨r.len, r.nd, r.frz, r.lkd, r.cell, r.there, r.tabs, r.lkb, fun b hb => ?_, fun i c e b hb hi => ?_, r.ntF, r.ntL⟩
  · rcases List.mem_cons.mp hb with h | h
    · rw [h]
      exact hn
    · exact r.bsl b h
  · rcases List.mem_cons.mp hb with h | h
    · subst h
      exact hd i c e hi
    · exact r.disc i c e b h hi
theorem Rel.closed (r : Rel G L H s ρ F) {i : Nat} {c : Cell} (e : s.st[i]? = some c) : c.under s.st.length = true := by
  have hi : i < s.st.length := (List.getElem?_eq_some_iff.mp e).1
  have hl : i < ρ.length := by rw [r.len]; exact hi
  have := (r.cell i c _ e (List.getElem?_eq_getElem hl)).low
  rw [r.len] at this
  exact this
/-- a told object, from now on frozen -/
theorem Rel.addF (r : Rel G L H s ρ F) {a : Addr} {u : HO} (hH : H a = some u) (hρ : a ∉ ρ) (hL : L a = none) (hF : F a = none) (ho : ∀ ps, u ≠ .tbl ps := by intro ps z; cases z) : Rel G L H s ρ (upd F a u) ∧ Le ρ F ρ (upd F a u) := by
  have le : Le ρ F ρ (upd F a u) := ⟨fun _ _ h => h, SubF.new hF⟩
  refine ⟨⟨r.len, r.nd, fun b o e => ?_, r.lkd, fun i c b e1 e2 => (r.cell i c b e1 e2).mono le rfl, r.there, r.tabs, r.lkb, r.bsl, r.disc, nt_upd r.ntF ho, r.ntL⟩, le⟩
  by_cases h : b = a
  · subst h
    rw [upd_same] at e
    cases e
    exact ⟨hH, hρ, hL⟩
  · rw [upd_ne h] at e
    exact r.frz b o e
theorem init_ends {P : Prog} {c : Cfg} {k : Nat} {C : Str} {f : Fn} {vs : List V} {Q : VK} {E : XK} (hcls : Cls G.K (G.ca C)) (h : spN G f.ps.length C (runInit P c k C f) vs H Q E) :
    tS G (fun c d _ H' => E c d H') (runs ((ev k c).st f.sc) f.body) { nx := fun _ H' => Q .non H', rt := Q } (L2.start f.N vs) H := by
  obtain ⟨hn, ds, rest, s, ρ, F, L, a, dx, H1, Q', e1, e2, ha, hdx, hne, hv, hr, hQ, hp⟩ := h
  subst e1 e2
  have ha' : (upd H1 dx (.own a)) a = none := by
    rw [upd_ne (Ne.symm hne)]
    exact ha
  have r1 := hr.other hdx (.own a)
  have r2 := r1.cellNew ha' (o := .ins (G.ca C) dx []) (c := .ins C []) ⟨dx, [], upd_same, rfl, hcls, by simp⟩
  have hat : (ρ ++ [a])[s.st.length]? = some a := by
    rw [← hr.len, List.getElem?_append_right (Nat.le_refl _), Nat.sub_self]
    rfl
  have r3 := r2.baseAt (n := s.st.length) (by simp) (fun i q e hi => by
    have e : (s.st ++ [Cell.ins C []])[i]? = some q := e
    rw [List.getElem?_append_left hi] at e
    exact hr.closed e)
  have l0 := Le.app ρ F a
  have hsl : RepL G.ca G.K (ρ ++ [a]) F (.ref s.st.length :: ds) (.ref a :: rest) := ⟨_, _, rfl, ⟨a, hat, rfl⟩, RepL.mono l0 _ _ hv⟩
  refine ⟨startS f.N (.ref s.st.length :: ds), { s with st := s.st ++ [.ins C []], bases := s.st.length :: s.bases }, ρ ++ [a], F, L, slR_start hsl, r3, ?_⟩
  unfold runInit at hp
  have hlen : ds.length + 1 = f.ps.length := by
    have := RepL.length (G := G) hv
    rw [List.length_cons, ← this] at hn
    exact hn
  rw [if_pos hlen] at hp
  split at hp
  · rename_i sl s1 e
    rw [e]
    refine fun σ' H' ρ' F' l hs r => hQ H' ?_
    unfold exitI at hp
    have hat' : ρ'[s.st.length]? = some a := l.pre _ _ hat
    split at hp
    · rename_i hc
      have hn : s.st.length ∈ s1.bases := by rw [hc.2]; exact List.mem_cons_self
      have sub : ∀ b ∈ s.bases, b ∈ s1.bases := fun b hb => by rw [hc.2]; exact List.mem_cons_of_mem _ hb
      split at hp
      · split at hp
        · rename_i C' l' hcell
          split at hp
          · rename_i hcc
            obtain ⟨hCC, hbl⟩ := hcc
            subst hCC
            obtain ⟨dx', vs, q1, q2, q3⟩ := r.cell _ _ a hcell hat'
            have hk : ∀ i, s1.lk.contains i = true → i < s.st.length := fun i hi => hr.lkb i (by rw [← hc.1]; exact hi)
            have cut := r.trunc hn (fun b hb => ⟨sub b hb, hr.bsl b hb⟩) hk
            have hL : L a = none := by
              cases hLa : L a with
              | none => rfl
              | some u => exact absurd (hk _ ((r.lkd a u hLa).2 _ hat').1) (Nat.lt_irrefl _)
            have hF : F' a = none := by
              cases hFa : F' a with
              | none => rfl
              | some u => exact absurd (List.mem_of_getElem? hat') (r.frz a u hFa).2.1
            have hρ : a ∉ ρ'.take s.st.length := fun hm => by
              obtain ⟨j, hj⟩ := List.mem_iff_getElem?.mp hm
              obtain ⟨j1, j2⟩ := take_at hj
              have := rho_inj r.nd j2 hat'
              omega
            obtain ⟨r5, l5⟩ := cut.addF q1 hρ hL hF
            exact hp (.ref a) H' (ρ'.take s.st.length) (upd F' a (.ins (G.ca C') dx' vs)) (((l0.trans l).take hr.len).trans l5) r5 ⟨a, dx', vs, rfl, upd_same, RepO.mono l5 _ _ (RepO.cutN _ _ q2 hbl), q3⟩
          · exact hp.elim
        · exact hp.elim
      · exact hp (.ref a) H' ρ' F' (l0.trans l) (r.unbase sub) ⟨a, hat', rfl⟩
    · exact hp.elim
  · rename_i x sl s1 e
    rw [e]
    exact fun cc d σ' H' ρ' F' l hs r h => exitX_ok (σ := []) (W := fun c d _ H' => E c d H') hr hp (l0.trans l) r h
  · exact hp.elim
end
/-! ### built-in methods -/
section
variable {X : Cx} {ca : Str → Addr} {T : List (Addr × Str)}
theorem below_append {n : Nat} : ∀ {l r : List D}, belowL n (l ++ r) = (belowL n l && belowL n r)
  | [], _ => by simp [belowL]
  | d :: l, r => by
    show (D.under n d && belowL n (l ++ r)) = ((D.under n d && belowL n l) && belowL n r)
    rw [below_append, Bool.and_assoc]
theorem fits_ok {s : S} {i : Nat} {v : D} (h : fits s i v = true) : ∀ b ∈ s.bases, i < b → v.under b = true := fun b hb hi => by
  unfold fits at h
  rw [List.all_eq_true] at h
  have := h b hb
  rw [Bool.or_eq_true] at this
  rcases this with h | h
  · have := of_decide_eq_true h
    omega
  · exact h
theorem free_ok {s : S} {i : Nat} (h : free s i = true) : s.lk.contains i = false := by
  unfold free at h
  simpa using h
theorem Rel.free_lst {G : Env1} {L H : Hp} {s : S} {ρ : List Addr} {F : Hp} (r : Rel G L H s ρ F) {i : Nat} {a : Addr} {l : List D} (ha : ρ[i]? = some a) (e : s.st[i]? = some (.lst l)) (hf : free s i = true) : ∃ vs, H a = some (.lst vs) ∧ RepL G.ca G.K ρ F l vs := by
  obtain ⟨vs, h1, h2⟩ := r.cell i _ a e ha
  rw [free_ok hf] at h1
  exact ⟨vs, h1, h2⟩
theorem mt_app : MtA X ca T "list.append" appendM := by
  intro pins s σ H x xs v us Q I rx rv ⟨d, ds, st, ρ, F, L, hx, hv, hr, q⟩
  unfold appendM at q
  split at q
  · rename_i i v'
    split at q
    · rename_i hc
      rw [Bool.and_eq_true] at hc
      split at q
      · rename_i l e
        split at q
        · rename_i hl
          obtain ⟨a, ha, ev⟩ := hx
          obtain ⟨y, r, e1, hy, e2⟩ := hv
          obtain rfl : r = [] := e2
          subst e1 ev
          obtain ⟨vs, h1, h2⟩ := hr.free_lst ha e hc.1
          have hw := hr.write (i := i) (o := .lst (vs ++ [y])) (c := .lst (l ++ [v'])) ha (free_ok hc.1) ⟨vs ++ [y], upd_same, RepL.append h2 ⟨y, [], rfl, hy, rfl⟩⟩ (fun b hb hi => by
            show belowL b (l ++ [v']) = true
            rw [below_append]
            have e1 : belowL b l = true := hr.disc i _ e b hb hi
            have e2 := fits_ok hc.2 b hb hi
            rw [e1]
            simp [belowL, e2])
          exact mt_append pins s σ H _ _ v us Q I rx rv ⟨a, vs, y, rfl, rfl, h1, by rw [← h2.length]; exact hl, q .non _ ρ F (.refl ρ F) hw rfl⟩
        · exact q.elim
      · exact q.elim
    · exact q.elim
  · exact q.elim
theorem RepL.dropLast {G : Env1} {ρ : List Addr} {F : Hp} {l : List D} {vs : List V} (h : RepL G.ca G.K ρ F l vs) : RepL G.ca G.K ρ F l.dropLast vs.dropLast := by
  rw [List.dropLast_eq_take, List.dropLast_eq_take, h.length]
  exact RepL.take _ h
theorem RepL.erase {G : Env1} {ρ : List Addr} {F : Hp} : ∀ {l : List D} {vs : List V} (i : Nat), RepL G.ca G.K ρ F l vs → RepL G.ca G.K ρ F (l.eraseIdx i) (vs.eraseIdx i)
  | [], _, i, h => by
    have h : _ = [] := h
    rw [h]
    rfl
  | d :: l, _, 0, ⟨v, r, e, q, t⟩ => by
    rw [e]
    exact t
  | d :: l, _, i + 1, ⟨v, r, e, q, t⟩ => by
    rw [e]
    exact ⟨v, _, rfl, q, RepL.erase i t⟩
theorem below_all {n : Nat} : ∀ {l : List D}, belowL n l = true ↔ ∀ d ∈ l, d.under n = true
  | [] => by simp [belowL]
  | d :: l => by
    show (D.under n d && belowL n l) = true ↔ _
    rw [Bool.and_eq_true, below_all]
    simp
theorem below_sub {n : Nat} {l r : List D} (h : belowL n l = true) (s : ∀ d ∈ r, d ∈ l) : belowL n r = true := below_all.mpr fun d hd => below_all.mp h d (s d hd)
theorem mt_lpop : MtA X ca T "list.pop" popL := by
  intro pins s σ H x xs v us Q I rx rv ⟨d, ds, st, ρ, F, L, hx, hv, hr, q⟩
  unfold popL at q
  split at q
  · rename_i i
    split at q
    · rename_i hc
      split at q
      · rename_i l e
        split at q
        · rename_i w hw
          obtain ⟨a, ha, ev⟩ := hx
          obtain rfl : xs = [] := hv
          subst ev
          obtain ⟨vs, h1, h2⟩ := hr.free_lst ha e hc
          obtain ⟨y, hy, ry⟩ := h2.get hw
          have hwr := hr.write (i := i) (o := .lst vs.dropLast) (c := .lst l.dropLast) ha (free_ok hc) ⟨vs.dropLast, upd_same, h2.dropLast⟩ (fun b hb hi =>
            below_sub (show belowL b l = true from hr.disc i _ e b hb hi) fun d hd => List.mem_of_mem_take (by rw [List.dropLast_eq_take] at hd; exact hd))
          exact mt_pop pins s σ H _ _ v us Q I rx rv ⟨a, vs, y, rfl, rfl, h1, by rw [← h2.length]; exact hy, q y _ ρ F (.refl ρ F) hwr ry⟩
        · exact q.elim
      · exact q.elim
    · exact q.elim
  · rename_i i j
    split at q
    · rename_i hc
      split at q
      · rename_i l e
        split at q
        · rename_i k hk
          split at q
          · rename_i w hw
            obtain ⟨a, ha, ev⟩ := hx
            obtain ⟨y', r, e1, hy', e2⟩ := hv
            obtain rfl : r = [] := e2
            obtain rfl : y' = .int j := hy'
            subst e1 ev
            obtain ⟨vs, h1, h2⟩ := hr.free_lst ha e hc.1
            obtain ⟨y, hy, ry⟩ := h2.get hw
            have hwr := hr.write (i := i) (o := .lst (vs.eraseIdx k)) (c := .lst (l.eraseIdx k)) ha (free_ok hc.1) ⟨vs.eraseIdx k, upd_same, h2.erase k⟩ (fun b hb hi =>
              below_sub (show belowL b l = true from hr.disc i _ e b hb hi) fun d hd => List.mem_of_mem_eraseIdx hd)
            exact mt_popAt pins s σ H _ _ v us Q I rx rv ⟨a, vs, j, k, y, rfl, rfl, h1, hc.2.1, hc.2.2, by rw [← h2.length]; exact hk, hy, q y _ ρ F (.refl ρ F) hwr ry⟩
          · exact q.elim
        · exact q.elim
      · exact q.elim
    · exact q.elim
  · exact q.elim
theorem idxL_ok {G : Env1} {ρ : List Addr} {F : Hp} {s : S} {x : D} {v : V} (hx : RepD G.ca G.K ρ F x v) : ∀ {l : List D} {vs : List V} {o : Option Nat}, idxL s x l = some o → RepL G.ca G.K ρ F l vs → (l ≠ [] → flatV v = true) ∧ vs.all flatV = true ∧
    ∀ j, o = some j → ∃ z, vs[j]? = some z ∧ eqV z v = true ∧ ∀ (m : Nat) (z' : V), m < j → vs[m]? = some z' → eqV z' v = false
  | [], vs, o, h, hr => by
    obtain rfl : vs = [] := hr
    cases h
    exact ⟨fun z => absurd rfl z, rfl, fun j e => by cases e⟩
  | y :: l, vs, o, h, ⟨w, r, e, h1, h2⟩ => by
    unfold idxL at h
    split at h
    rotate_left
    · cases h
    rename_i hk
    subst e
    have fin : ∀ o', idxL s x l = some o' → (l ≠ [] → flatV v = true) ∧ r.all flatV = true ∧ ∀ j, o' = some j → ∃ z, r[j]? = some z ∧ eqV z v = true ∧ ∀ (m : Nat) (z' : V), m < j → r[m]? = some z' → eqV z' v = false := fun o' e' => idxL_ok hx e' h2
    have fl : (w :: r).all flatV = true ↔ r.all flatV = true := by
      rw [List.all_cons, flat_of h1 hk.1]
      simp
    split at h
    · rename_i e1 e2
      cases h
      obtain ⟨_, g2, _⟩ := fin _ e2
      refine ⟨fun _ => flat_of hx hk.2, fl.mpr g2, fun j e => ?_⟩
      cases e
      exact ⟨w, rfl, eq_flat h1 hx hk.1 hk.2 e1, fun m z' hm => absurd hm (Nat.not_lt_zero m)⟩
    · rename_i q e1 e2
      cases h
      obtain ⟨_, g2, g3⟩ := fin _ e2
      refine ⟨fun _ => flat_of hx hk.2, fl.mpr g2, fun j e => ?_⟩
      cases q with
      | none => cases e
      | some j' =>
        cases e
        obtain ⟨z, z1, z2, z3⟩ := g3 j' rfl
        refine ⟨z, z1, z2, fun m z' hm hz => ?_⟩
        cases m with
        | zero =>
          cases hz
          exact eq_flat h1 hx hk.1 hk.2 e1
        | succ m => exact z3 m z' (by have hm : m + 1 < j' + 1 := hm; omega) hz
    · cases h
theorem mt_lindex : MtA X ca T "list.index" indexM := by
  intro pins s σ H x xs v us Q I rx rv ⟨d, ds, st, ρ, F, L, hx, hv, hr, q⟩
  unfold indexM at q
  split at q
  · rename_i v'
    split at q
    · rename_i l ev
      split at q
      · rename_i j hj
        obtain ⟨a, vs, e1, h1, h2⟩ := hr.viewL hx ev
        obtain ⟨y, r, e2, hy, e3⟩ := hv
        obtain rfl : r = [] := e3
        subst e1 e2
        obtain ⟨g1, g2, g3⟩ := idxL_ok (G := gx X ca T) hy hj h2
        obtain ⟨z, z1, z2, z3⟩ := g3 j rfl
        have hne : l ≠ [] := fun e => by
          subst e
          obtain rfl : vs = [] := h2
          simp at z1
        exact mt_index pins s σ H _ _ v us Q I rx rv ⟨a, vs, y, j, z, rfl, rfl, .inl h1, g1 hne, g2, z1, z2, z3, q _ H ρ F (.refl ρ F) hr rfl⟩
      · exact q.elim
    · exact q.elim
  · exact q.elim
theorem mt_dget (hu : X.A.units + 1 < cLine) : MtA X ca T "dict.get" getM := by
  intro pins s σ H x xs v us Q I rx rv ⟨d, ds, st, ρ, F, L, hx, hv, hr, q⟩
  unfold getM at q
  split at q
  · rename_i k
    split at q
    · rename_i o ho
      obtain ⟨y, r, e2, hy, e3⟩ := hv
      obtain rfl : r = [] := e3
      subst e2
      obtain ⟨a, w, e1, g, hw⟩ := getD_rep (G := gx X ca T) hr hx hy ho
      subst e1
      obtain ⟨u, rfl, ru⟩ := rv.one
      obtain rfl : v = Value.ref a := rx
      refine d_get1 hu I g ru fun w' s' I' rw' => ⟨w.getD .non, H, I', rw', q _ H ρ F (.refl ρ F) hr ?_⟩
      cases o with
      | none =>
        obtain rfl : w = none := hw
        rfl
      | some d' =>
        obtain ⟨v', rfl, h⟩ := hw
        exact h
    · exact q.elim
  · rename_i k v'
    split at q
    · rename_i o ho
      obtain ⟨y, r, e2, hy, y2, r2, e3, hy2, e4⟩ := hv
      obtain rfl : r2 = [] := e4
      subst e2 e3
      obtain ⟨a, w, e1, g, hw⟩ := getD_rep (G := gx X ca T) hr hx hy ho
      subst e1
      obtain ⟨u, u2, rfl, ru, ru2⟩ := rv.two
      obtain rfl : v = Value.ref a := rx
      refine d_get2 hu I g ru ru2 fun w' s' I' rw' => ⟨w.getD y2, H, I', rw', q _ H ρ F (.refl ρ F) hr ?_⟩
      cases o with
      | none =>
        obtain rfl : w = none := hw
        exact hy2
      | some d' =>
        obtain ⟨v', rfl, h⟩ := hw
        exact h
    · exact q.elim
  · exact q.elim
theorem delK_ok {G : Env1} {ρ : List Addr} {F : Hp} (k : Key) : ∀ {l : List (Key × D)} {vs : List (Key × V)}, RepK G.ca G.K ρ F l vs → RepK G.ca G.K ρ F (delK k l) (dropK vs k)
  | [], vs, h => by
    obtain rfl : vs = [] := h
    rfl
  | (k', d) :: l, _, ⟨v, r, e, q, t, ko⟩ => by
    rw [e]
    unfold delK dropK
    rw [List.filter_cons, List.filter_cons]
    by_cases hk : k' = k
    · rw [if_neg (by simp [hk]), if_neg (by simp [hk])]
      exact delK_ok k t
    · rw [if_pos (by simp [hk]), if_pos (by simp [hk])]
      exact ⟨v, _, rfl, q, delK_ok k t, ko⟩
theorem RepK.hasK {G : Env1} {ρ : List Addr} {F : Hp} (k : Key) : ∀ {l : List (Key × D)} {vs : List (Key × V)}, RepK G.ca G.K ρ F l vs → (l.any fun p => decide (p.1 = k)) = (vs.any fun p => decide (p.1 = k))
  | [], vs, h => by
    obtain rfl : vs = [] := h
    rfl
  | (k', d) :: l, _, ⟨v, r, e, q, t, ko⟩ => by
    rw [e, List.any_cons, List.any_cons, RepK.hasK k t]
theorem RepK.map_ {G : Env1} {ρ : List Addr} {F : Hp} {k : Key} {d' : D} {v' : V} (hd : RepD G.ca G.K ρ F d' v') : ∀ {l : List (Key × D)} {vs : List (Key × V)}, RepK G.ca G.K ρ F l vs → RepK G.ca G.K ρ F (l.map (fun p => if p.1 = k then (p.1, d') else p)) (vs.map (fun p => if p.1 = k then (p.1, v') else p))
  | [], vs, h => by
    obtain rfl : vs = [] := h
    rfl
  | (k', d) :: l, _, ⟨v, r, e, q, t, ko⟩ => by
    rw [e, List.map_cons, List.map_cons]
    by_cases hk : k' = k
    · rw [if_pos hk, if_pos hk]
      exact ⟨v', _, rfl, hd, RepK.map_ hd t, ko⟩
    · rw [if_neg hk, if_neg hk]
      exact ⟨v, _, rfl, q, RepK.map_ hd t, ko⟩
theorem RepK.snoc {G : Env1} {ρ : List Addr} {F : Hp} {k : Key} {d' : D} {v' : V} (hd : RepD G.ca G.K ρ F d' v') (hk : keyOk k) : ∀ {l : List (Key × D)} {vs : List (Key × V)}, RepK G.ca G.K ρ F l vs → RepK G.ca G.K ρ F (l ++ [(k, d')]) (vs ++ [(k, v')])
  | [], vs, h => by
    obtain rfl : vs = [] := h
    exact ⟨v', [], rfl, hd, rfl, hk⟩
  | (k', d) :: l, _, ⟨v, r, e, q, t, ko⟩ => by
    rw [e]
    exact ⟨v, _, rfl, q, RepK.snoc hd hk t, ko⟩
theorem setK_ok {G : Env1} {ρ : List Addr} {F : Hp} {k : Key} {d' : D} {v' : V} (hd : RepD G.ca G.K ρ F d' v') (hk : keyOk k) {l : List (Key × D)} {vs : List (Key × V)} (h : RepK G.ca G.K ρ F l vs) : RepK G.ca G.K ρ F (setK k d' l) (putK vs k v') := by
  unfold setK putK
  rw [h.hasK k]
  split
  · exact h.map_ hd
  · exact h.snoc hd hk
theorem belowK_all {n : Nat} : ∀ {l : List (Key × D)}, belowK n l = true ↔ ∀ d ∈ l, d.2.under n = true
  | [] => by simp [belowK]
  | (k, d) :: l => by
    show (D.under n d && belowK n l) = true ↔ _
    rw [Bool.and_eq_true, belowK_all]
    simp
theorem belowK_set {n : Nat} {k : Key} {d : D} {l : List (Key × D)} (h : belowK n l = true) (hd : d.under n = true) : belowK n (setK k d l) = true := by
  rw [belowK_all] at h ⊢
  intro p hp
  unfold setK at hp
  split at hp
  · obtain ⟨q, hq, e⟩ := List.mem_map.mp hp
    split at e
    · rw [← e]
      exact hd
    · rw [← e]
      exact h q hq
  · rcases List.mem_append.mp hp with hp | hp
    · exact h p hp
    · rw [List.mem_singleton] at hp
      rw [hp]
      exact hd
theorem belowK_del {n : Nat} {k : Key} {l : List (Key × D)} (h : belowK n l = true) : belowK n (delK k l) = true := by
  rw [belowK_all] at h ⊢
  exact fun p hp => h p ((List.mem_filter.mp hp).1)
/-- a key by value -/
theorem key_rep {G : Env1} {ρ : List Addr} {F : Hp} {d : D} {k : Key} {v : V} (e : d.key = some k) (h : RepD G.ca G.K ρ F d v) : v = kV k ∧ keyOk k := by
  cases d with
  | int i => cases e; exact ⟨h, trivial⟩
  | str x => cases e; exact h
  | _ => cases e
theorem Rel.free_dk {G : Env1} {L H : Hp} {s : S} {ρ : List Addr} {F : Hp} (r : Rel G L H s ρ F) {i : Nat} {a : Addr} {l : List (Key × D)} (ha : ρ[i]? = some a) (e : s.st[i]? = some (.dk l)) (hf : free s i = true) : ∃ vs, H a = some (.dK vs) ∧ RepK G.ca G.K ρ F l vs := by
  obtain ⟨vs, h1, h2⟩ := r.cell i _ a e ha
  rw [free_ok hf] at h1
  exact ⟨vs, h1, h2⟩
theorem mt_dpop : MtA X ca T "dict.pop" popK := by
  intro pins s σ H x xs v us Q I rx rv ⟨d, ds, st, ρ, F, L, hx, hv, hr, q⟩
  unfold popK at q
  split at q
  rotate_left
  · exact q.elim
  rename_i i k
  split at q
  rotate_left
  · exact q.elim
  rename_i hc
  split at q
  rotate_left
  · exact q.elim
  rename_i l e
  cases hkk : k.key with
  | none =>
    exfalso
    have : (getD? (.dk l) k).bind id = none := by cases k <;> first | rfl | cases hkk
    rw [this] at q
    exact q.elim
  | some kk =>
    have e1 : (getD? (.dk l) k) = some (lookK kk l) := by cases k <;> first | (cases hkk; rfl) | cases hkk
    have e2 : (dropD (.dk l) k) = some (.dk (delK kk l)) := by cases k <;> first | (cases hkk; rfl) | cases hkk
    rw [e1, e2] at q
    cases hl : lookK kk l with
    | none => rw [hl] at q; exact q.elim
    | some w =>
      rw [hl] at q
      have q : PV (gx X ca T) L ρ F (rpD (gx X ca T)) Q (.ok w (putC i (.dk (delK kk l)) st)) := q
      obtain ⟨a, ha, ev⟩ := hx
      obtain ⟨y, r, e3, hy, e4⟩ := hv
      obtain rfl : r = [] := e4
      subst e3 ev
      obtain ⟨vs, h1, h2⟩ := hr.free_dk ha e hc
      have hval := RepK.val (G := gx X ca T) kk h2
      rw [hl] at hval
      obtain ⟨z, hz, rz⟩ := hval
      obtain ⟨ey, ek⟩ := key_rep (G := gx X ca T) hkk hy
      subst ey
      obtain ⟨u, rfl, ru⟩ := rv.one
      obtain rfl : v = Value.ref a := rx
      refine d_pop I h1 ru hz (.inl rfl) fun w' s' I' rw' => ⟨z, _, I', rw', ?_⟩
      have hwr := hr.write (i := i) (o := .dK (dropK vs kk)) (c := .dk (delK kk l)) ha (free_ok hc) ⟨_, upd_same, delK_ok kk h2⟩ (fun b hb hi => belowK_del (show belowK b l = true from hr.disc i _ e b hb hi))
      exact q z _ ρ F (.refl ρ F) hwr rz
theorem appendM_ne (d : D) (ds : List D) (s : S) : (appendM d ds s).isErr = false := by
  unfold appendM
  repeat' (first | rfl | split)
theorem popL_ne (d : D) (ds : List D) (s : S) : (popL d ds s).isErr = false := by
  unfold popL
  repeat' (first | rfl | split)
theorem indexM_ne (d : D) (ds : List D) (s : S) : (indexM d ds s).isErr = false := by
  unfold indexM
  repeat' (first | rfl | split)
theorem getM_ne (d : D) (ds : List D) (s : S) : (getM d ds s).isErr = false := by
  unfold getM
  repeat' (first | rfl | split)
theorem popK_ne (d : D) (ds : List D) (s : S) : (popK d ds s).isErr = false := by
  unfold popK
  repeat' (first | rfl | split)
theorem countM_ne (o : D) (ds : List D) (s : S) : (countM o ds s).isErr = false := by
  unfold countM
  repeat' (first | rfl | split)
theorem cnt_rep {G : Env1} {ρ : List Addr} {F : Hp} : ∀ {l : List D} {ns : List Int} {vs : List V}, countM.intsL l = some ns → RepL G.ca G.K ρ F l vs → vs = ns.map V.int
  | [], ns, vs, h, q => by
    cases h
    exact q
  | d :: l, ns, _, h, ⟨v, r, e, q, t⟩ => by
    subst e
    cases d with
    | int i =>
      have h : (countM.intsL l).map (i :: ·) = some ns := h
      cases hl : countM.intsL l with
      | none => rw [hl] at h; cases h
      | some ms =>
        rw [hl] at h
        cases h
        obtain rfl : v = .int i := q
        rw [cnt_rep hl t]
        rfl
    | _ => cases h
theorem mt_count : MtA X ca T "list.count" countM := by
  intro pins s σ H x xs v us Q I rx rv ⟨d, ds, st, ρ, F, L, hx, hv, hr, q⟩
  unfold countM at q
  split at q
  · rename_i k
    split at q
    · rename_i l ev
      split at q
      · rename_i ns hns
        obtain ⟨a, vs, e1, h1, h2⟩ := hr.viewL hx ev
        obtain ⟨y, r, e2, hy, e3⟩ := hv
        obtain rfl : r = [] := e3
        obtain rfl : y = .int k := hy
        subst e1 e2
        have := cnt_rep (G := gx X ca T) hns h2
        subst this
        exact mt_lcount pins s σ H _ _ v us Q I rx rv ⟨a, ns, k, rfl, rfl, .inl h1, q _ H ρ F (.refl ρ F) hr rfl⟩
      · exact q.elim
    · exact q.elim
  · exact q.elim
theorem methL_ok (m : Str) (g : D → List D → S → R D) (h : methL m = some g) : MtOk X ca T "list" m g := by
  unfold methL at h
  split at h
  · rename_i e
    cases h
    subst e
    exact ⟨countM_ne, _, PySem.F.slot_list_count, PySem.F.type_list_count, mt_count⟩
  split at h
  · rename_i e
    cases h
    subst e
    exact ⟨appendM_ne, _, PySem.F.slot_list_append, PySem.F.type_list_append, mt_app⟩
  split at h
  · rename_i e
    cases h
    subst e
    exact ⟨popL_ne, _, PySem.F.slot_list_pop, PySem.F.type_list_pop, mt_lpop⟩
  split at h
  · rename_i e
    cases h
    subst e
    exact ⟨indexM_ne, _, PySem.F.slot_list_index, PySem.F.type_list_index, mt_lindex⟩
  · cases h
theorem methK_ok (hu : X.A.units + 1 < cLine) (m : Str) (g : D → List D → S → R D) (h : methK m = some g) : MtOk X ca T "dict" m g := by
  unfold methK at h
  split at h
  · rename_i e
    cases h
    subst e
    exact ⟨getM_ne, _, PySem.F.slot_dict_get, PySem.F.type_dict_get, mt_dget hu⟩
  split at h
  · rename_i e
    cases h
    subst e
    exact ⟨popK_ne, _, PySem.F.slot_dict_pop, PySem.F.type_dict_pop, mt_dpop⟩
  · cases h
theorem methS_ok (m : Str) (g : D → List D → S → R D) (h : methS m = some g) : MtOk X ca T "str" m g := by
  cases h
end
end AL
set_option Elab.async false
set_option linter.all false
set_option maxRecDepth 100000
set_option maxHeartbeats 4000000
/-! AL17: calls of built-ins. -/
namespace AL
open PySem PySem.Spec PyProof.Rows L2
section
variable {X : Cx} {ca : Str → Addr} {T : List (Addr × Str)} {W : WX} {c : Cfg} {p : Pos}
/-- a built-in by values; the new object as a tree or a cell -/
def CbA (X : Cx) (ca : Str → Addr) (T : List (Addr × Str)) (fv : Value) (g : List D → S → R D) : Prop :=
  ∀ (pins : List (Addr × Obj)) (s : Shared) (σ : L2.St) (H : Hp) (vs : List V) (us : List Value) (Q : VK), Inv X pins σ H s → Vals vs us →
    (∃ ds st ρ F L, RepL ca X.K ρ F ds vs ∧ Rel (gx X ca T) L H st ρ F ∧ PV (gx X ca T) L ρ F (rpD (gx X ca T)) Q (g ds st)) → wpAny (model X.prog X.w) X.A (call fv us) (EP X pins σ Q) X.xe s
abbrev mk (c : Cfg) (p : Pos) (g : List D → S → R D) : List D → S → R D := fun ds s => (g ds s).bind fun d s1 => made c p d s1
theorem RepL.one {G : Env1} {ρ : List Addr} {F : Hp} {d : D} {vs : List V} (h : RepL G.ca G.K ρ F [d] vs) : ∃ v, vs = [v] ∧ RepD G.ca G.K ρ F d v := by
  obtain ⟨v, r, e, q, t⟩ := h
  obtain rfl : r = [] := t
  exact ⟨v, e, q⟩
theorem RepL.two {G : Env1} {ρ : List Addr} {F : Hp} {d e : D} {vs : List V} (h : RepL G.ca G.K ρ F [d, e] vs) : ∃ v w, vs = [v, w] ∧ RepD G.ca G.K ρ F d v ∧ RepD G.ca G.K ρ F e w := by
  obtain ⟨v, r, e1, q, t⟩ := h
  obtain ⟨w, e2, q2⟩ := RepL.one t
  exact ⟨v, w, by rw [e1, e2], q, q2⟩
theorem cb_len : CbA X ca T (.builtin "len") (mk c p lenM) := by
  intro pins s σ H vs us Q I r ⟨ds, st, ρ, F, L, hv, hr, q⟩
  unfold mk lenM at q
  split at q
  rotate_left
  · exact q.elim
  rename_i x
  obtain ⟨v, e, hx⟩ := RepL.one (G := gx X ca T) hv
  subst e
  split at q
  · rename_i z ev
    obtain ⟨e1, h1⟩ := rep_str hx ev
    subst e1
    exact call_len_str pins s σ H _ us Q I r ⟨z, rfl, h1, (made_flat rfl q).here hr rfl⟩
  · rename_i l ev
    obtain ⟨a, ys, e1, h1, h2⟩ := hr.viewL hx ev
    subst e1
    exact call_len_seq pins s σ H _ us Q I r ⟨a, ys, rfl, .inl (.inl h1), (made_flat rfl q).here hr (by show V.int _ = V.int _; rw [h2.length])⟩
  · rename_i l ev
    obtain ⟨a, ys, e1, h1, h2⟩ := hr.viewT hx ev
    subst e1
    exact call_len_seq pins s σ H _ us Q I r ⟨a, ys, rfl, .inr h1, (made_flat rfl q).here hr (by show V.int _ = V.int _; rw [h2.length])⟩
  · rename_i l ev
    obtain ⟨a, ys, e1, h1, h2⟩ := hr.viewK hx ev
    subst e1
    obtain ⟨u, rfl, ru⟩ := vals1 r
    cases ru
    have hl : l.length = ys.length := by
      have := congrArg List.length (RepK.keys (G := gx X ca T) h2)
      simpa using this
    exact d_len I h1 fun t s' I' => ⟨.int ys.length, H, I', ⟨t, rfl⟩, (made_flat rfl q).here hr (by show V.int _ = V.int _; rw [hl])⟩
  · exact q.elim
theorem cb_abs : CbA X ca T (.builtin "abs") (mk c p absM) := by
  intro pins s σ H vs us Q I r ⟨ds, st, ρ, F, L, hv, hr, q⟩
  unfold mk absM at q
  split at q
  · rename_i i
    obtain ⟨v, e, hx⟩ := RepL.one (G := gx X ca T) hv
    obtain rfl : v = .int i := hx
    subst e
    exact call_abs pins s σ H _ us Q I r ⟨i, rfl, (made_flat rfl q).here hr rfl⟩
  · exact q.elim
theorem cb_int : CbA X ca T (.type "int") (mk c p intM) := by
  intro pins s σ H vs us Q I r ⟨ds, st, ρ, F, L, hv, hr, q⟩
  unfold mk intM at q
  split at q
  · rename_i i
    obtain ⟨v, e, hx⟩ := RepL.one (G := gx X ca T) hv
    obtain rfl : v = .int i := hx
    subst e
    exact call_int1 pins s σ H _ us Q I r (.inl ⟨i, rfl, (made_flat rfl q).here hr rfl⟩)
  · rename_i b
    obtain ⟨v, e, hx⟩ := RepL.one (G := gx X ca T) hv
    obtain rfl : v = .bl b := hx
    subst e
    exact call_int1 pins s σ H _ us Q I r (.inr ⟨b, rfl, (made_flat rfl q).here hr (by cases b <;> rfl)⟩)
  · rename_i x
    split at q
    · rename_i hl
      split at q
      · rename_i i hi
        obtain ⟨v, e, hx⟩ := RepL.one (G := gx X ca T) hv
        obtain ⟨rfl, _⟩ : v = .str x ∧ _ := hx
        subst e
        exact call_int_str pins s σ H _ us Q I r ⟨x, i, rfl, hi, hl, (made_flat rfl q).here hr rfl⟩
      · exact q.elim
    · exact q.elim
  · exact q.elim
theorem intsOf_rep {G : Env1} {ρ : List Addr} {F : Hp} : ∀ {l : List D} {ns : List Int} {vs : List V}, intsOf l = some ns → RepL G.ca G.K ρ F l vs → vs = ns.map V.int
  | [], ns, vs, e, h => by
    cases e
    exact h
  | d :: l, ns, vs, e, ⟨v, r, e1, q, t⟩ => by
    cases d with
    | int i =>
      have e : (intsOf l).map (i :: ·) = some ns := e
      cases hl : intsOf l with
      | none => rw [hl] at e; cases e
      | some ms =>
        rw [hl] at e
        cases e
        obtain rfl : v = .int i := q
        rw [e1, intsOf_rep hl t]
        rfl
    | _ => cases e
theorem maxI_ok : ∀ (l : List Int) (x : Int), maxI x l ∈ x :: l ∧ ∀ y ∈ x :: l, y ≤ maxI x l
  | [], x => ⟨by simp [maxI], by simp [maxI]⟩
  | y :: l, x => by
    obtain ⟨h1, h2⟩ := maxI_ok l (if x < y then y else x)
    have hx := h2 _ (List.mem_cons_self ..)
    refine ⟨?_, fun z hz => ?_⟩
    · show maxI (if x < y then y else x) l ∈ _
      rcases List.mem_cons.mp h1 with h | h
      · rw [h]
        split <;> simp
      · exact List.mem_cons_of_mem _ (List.mem_cons_of_mem _ h)
    · show z ≤ maxI (if x < y then y else x) l
      rcases List.mem_cons.mp hz with h | h
      · subst h
        revert hx
        generalize maxI (if z < y then y else z) l = M
        intro hx
        split at hx <;> omega
      · rcases List.mem_cons.mp h with h | h
        · subst h
          revert hx
          generalize maxI (if x < z then z else x) l = M
          intro hx
          split at hx <;> omega
        · exact h2 z (List.mem_cons_of_mem _ h)
theorem minI_ok : ∀ (l : List Int) (x : Int), minI x l ∈ x :: l ∧ ∀ y ∈ x :: l, minI x l ≤ y
  | [], x => ⟨by simp [minI], by simp [minI]⟩
  | y :: l, x => by
    obtain ⟨h1, h2⟩ := minI_ok l (if y < x then y else x)
    have hx := h2 _ (List.mem_cons_self ..)
    refine ⟨?_, fun z hz => ?_⟩
    · show minI (if y < x then y else x) l ∈ _
      rcases List.mem_cons.mp h1 with h | h
      · rw [h]
        split <;> simp
      · exact List.mem_cons_of_mem _ (List.mem_cons_of_mem _ h)
    · show minI (if y < x then y else x) l ≤ z
      rcases List.mem_cons.mp hz with h | h
      · subst h
        revert hx
        generalize minI (if y < z then y else z) l = M
        intro hx
        split at hx <;> omega
      · rcases List.mem_cons.mp h with h | h
        · subst h
          revert hx
          generalize minI (if z < x then z else x) l = M
          intro hx
          split at hx <;> omega
        · exact h2 z (List.mem_cons_of_mem _ h)
/-- a list of ints, by values -/
theorem ints_at {L H : Hp} {st : S} {ρ : List Addr} {F : Hp} (hr : Rel (gx X ca T) L H st ρ F) {x : D} {v : V} (hx : RepD ca X.K ρ F x v) {ns : List Int} (e : (lstOf x st).bind intsOf = some ns) : ∃ a, v = .ref a ∧ Rd H a (.lst (ns.map V.int)) := by
  unfold lstOf at e
  split at e
  · rename_i l ev
    obtain ⟨a, ys, e1, h1, h2⟩ := hr.viewL hx ev
    have e : intsOf l = some ns := e
    rw [intsOf_rep (G := gx X ca T) e h2] at h1
    exact ⟨a, e1, h1⟩
  · cases e
theorem cb_max (hc : X.calm = true) : CbA X ca T (.builtin "max") (mk c p maxM) := by
  intro pins s σ H vs us Q I r ⟨ds, st, ρ, F, L, hv, hr, q⟩
  unfold mk maxM at q
  split at q
  · rename_i a b
    obtain ⟨v, w, e, hx, hy⟩ := RepL.two (G := gx X ca T) hv
    obtain rfl : v = .int a := hx
    obtain rfl : w = .int b := hy
    subst e
    exact call_max2 hc pins s σ H _ us Q I r ⟨a, b, rfl, (made_flat rfl q).here hr rfl⟩
  · rename_i x
    split at q
    · rename_i y l hl
      obtain ⟨v, e, hx⟩ := RepL.one (G := gx X ca T) hv
      obtain ⟨a, ea, h1⟩ := ints_at hr hx hl
      subst ea e
      refine cr_max hc pins s σ H _ us Q I r ⟨a, y :: l, rfl, .inl h1, by simp, fun m hm hb => ?_⟩
      obtain ⟨g1, g2⟩ := maxI_ok l y
      have e : m = maxI y l := Int.le_antisymm (g2 m hm) (hb _ g1)
      rw [e]
      exact (made_flat rfl q).here hr rfl
    · exact q.elim
  · exact q.elim
theorem cb_min (hc : X.calm = true) : CbA X ca T (.builtin "min") (mk c p minM) := by
  intro pins s σ H vs us Q I r ⟨ds, st, ρ, F, L, hv, hr, q⟩
  unfold mk minM at q
  split at q
  · rename_i a b
    obtain ⟨v, w, e, hx, hy⟩ := RepL.two (G := gx X ca T) hv
    obtain rfl : v = .int a := hx
    obtain rfl : w = .int b := hy
    subst e
    exact call_min2 hc pins s σ H _ us Q I r ⟨a, b, rfl, (made_flat rfl q).here hr rfl⟩
  · rename_i x
    split at q
    · rename_i y l hl
      obtain ⟨v, e, hx⟩ := RepL.one (G := gx X ca T) hv
      obtain ⟨a, ea, h1⟩ := ints_at hr hx hl
      subst ea e
      refine cr_min hc pins s σ H _ us Q I r ⟨a, y :: l, rfl, .inl h1, by simp, fun m hm hb => ?_⟩
      obtain ⟨g1, g2⟩ := minI_ok l y
      have e : m = minI y l := Int.le_antisymm (hb _ g1) (g2 m hm)
      rw [e]
      exact (made_flat rfl q).here hr rfl
    · exact q.elim
  · exact q.elim
theorem cb_sum (hc : X.calm = true) : CbA X ca T (.builtin "sum") (mk c p sumM) := by
  intro pins s σ H vs us Q I r ⟨ds, st, ρ, F, L, hv, hr, q⟩
  unfold mk sumM at q
  split at q
  · rename_i x
    split at q
    · rename_i l hl
      obtain ⟨v, e, hx⟩ := RepL.one (G := gx X ca T) hv
      obtain ⟨a, ea, h1⟩ := ints_at hr hx hl
      subst ea e
      exact cr_sum hc pins s σ H _ us Q I r ⟨a, l, rfl, .inl h1, (made_flat rfl q).here hr rfl⟩
    · exact q.elim
  · exact q.elim
theorem cb_tuple : CbA X ca T (.type "tuple") (mk c p tupleM) := by
  intro pins s σ H vs us Q I r ⟨ds, st, ρ, F, L, hv, hr, q⟩
  unfold mk tupleM at q
  split at q
  · rename_i x
    obtain ⟨v, e, hx⟩ := RepL.one (G := gx X ca T) hv
    subst e
    split at q
    · rename_i l ev
      obtain ⟨a, ys, e1, h1, h2⟩ := hr.viewL hx ev
      subst e1
      exact call_tuple_of pins s σ H _ us Q I r ⟨a, ys, rfl, .inl ⟨.inl h1, fun b hb => new_tup (made_flat rfl q) hr h2 hb⟩⟩
    · rename_i l ev
      obtain ⟨a, ys, e1, h1, h2⟩ := hr.viewT hx ev
      subst e1
      refine call_tuple_of pins s σ H _ us Q I r ⟨a, ys, rfl, .inr ⟨h1, ?_⟩⟩
      split at q
      · rename_i hcon
        refine (made_flat rfl q).here hr ?_
        cases x with
        | con l' =>
          have ev : D.tup l' = .tup l := ev
          cases ev
          exact hx
        | _ => cases hcon
      · rename_i hcon
        rw [view_tup ev (by simpa using hcon)] at hx
        exact (made_flat rfl q).here hr hx
    · exact q.elim
  · exact q.elim
theorem keys_rep9 {G : Env1} {ρ : List Addr} {F : Hp} : ∀ {l : List (Key × D)} {vs : List (Key × V)}, RepK G.ca G.K ρ F l vs → RepL G.ca G.K ρ F (l.map fun p => kD p.1) (vs.map fun p => kV p.1)
  | [], vs, h => by
    have h : vs = [] := h
    subst h
    rfl
  | (k, d) :: l, vs, h => by
    obtain ⟨v, r, e, h1, h2, h3⟩ := h
    subst e
    exact ⟨_, _, rfl, (show RepD G.ca G.K ρ F (kD k) (kV k) by cases k with
      | inl i => rfl
      | inr x => exact ⟨rfl, h3⟩), keys_rep9 h2⟩
theorem vals_ix9 : ∀ {xs : List V} {us : List Value}, xs.length = us.length → (∀ (j : Nat) (v : Value), us[j]? = some v → ∃ x, xs[j]? = some x ∧ L2.RelV x v) → Vals xs us
  | [], [], _, _ => .nil
  | [], _ :: _, h, _ => by cases h
  | _ :: _, [], h, _ => by cases h
  | x :: xs, u :: us, h, k => by
    obtain ⟨y, e, r⟩ := k 0 u rfl
    have e : some x = some y := e
    cases e
    exact .cons r (vals_ix9 (by simpa using h) fun j v hj => k (j + 1) v hj)
/-- list(d) -/
theorem list_keys (hcalm : X.calm = true) {pins : List (Addr × Obj)} {s : Shared} {σ : L2.St} {H : Hp} {Q : VK} (I : Inv X pins σ H s) {a : Addr} {vs : List (Key × V)} (h1 : Rd H a (.dK vs)) (q : ∀ l, H l = none → Q (.ref l) (upd H l (.lst (vs.map fun p => kV p.1)))) :
    wpAny (model X.prog X.w) X.A (call (.type "list") [.ref a]) (EP X pins σ Q) X.xe s := by
  obtain ⟨z, lo, kvs, rel, dd⟩ := dk_rd I.hok h1
  obtain ⟨ep, hat⟩ := dd.dictAt
  have hl : vs.length = kvs.length := Paired.length rel
  refine PySem.W.kdl_call (A := X.A) (PySem.W.kdl_dict (knd := mixKind X.prog X.w) (kvs := kvs) (ep := ep) lo) (I.ok.hd hcalm) hat (by omega) fun h' tk acc c' hk hn hacc => ?_
  have hz : (vs.map fun p => kV p.1).length ≤ sizeLine := by rw [List.length_map]; omega
  have r' : Vals (vs.map fun p => kV p.1) acc.toList := vals_ix9 (by rw [List.length_map, hl]; exact (show acc.toList.length = kvs.length from hacc.1).symm) fun j v e => by
    obtain ⟨k1, x, e1, e2⟩ := hacc.2 j v (by rw [← Array.getElem?_toList]; exact e)
    have hj : j < vs.length := by rw [hl]; exact (List.getElem?_eq_some_iff.mp e1).1
    obtain ⟨p, hp⟩ : ∃ p, vs[j]? = some p := ⟨_, List.getElem?_eq_getElem hj⟩
    obtain ⟨u', g1, g2⟩ := kv_get rel (show vs[j]? = some (p.1, p.2) from hp)
    rw [e1] at g1
    cases g1
    exact ⟨kV p.1, by rw [List.getElem?_map, hp]; rfl, relV_key (show keyIs p.1 v = true from e2)⟩
  exact ⟨.ref s.heap.objs.size, _, I.laid (t' := tk) hk (Nat.le_refl _) (show ObjOk X.prog X.w _ h' _ (.lst (vs.map fun p => kV p.1)) from ⟨hz, acc.toList, c', r', hn⟩), rfl, q _ (I.hok.fresh (Nat.le_refl _))⟩
theorem cb_list (hc : X.calm = true) : CbA X ca T (.type "list") (mk c p listM1) := by
  intro pins s σ H vs us Q I r ⟨ds, st, ρ, F, L, hv, hr, q⟩
  unfold mk listM1 at q
  split at q
  · rename_i x
    obtain ⟨v, e, hx⟩ := RepL.one (G := gx X ca T) hv
    subst e
    split at q
    · rename_i l ev
      obtain ⟨a, ys, e1, h1, h2⟩ := hr.viewL hx ev
      subst e1
      exact call_list_of pins s σ H _ us Q I r ⟨a, ys, rfl, .inl (.inl h1), fun b hb => made_lst q hr h2 hb⟩
    · rename_i l ev
      obtain ⟨a, ys, e1, h1, h2⟩ := hr.viewT hx ev
      subst e1
      exact call_list_of pins s σ H _ us Q I r ⟨a, ys, rfl, .inr h1, fun b hb => made_lst q hr h2 hb⟩
    · rename_i l ev
      obtain ⟨a, ys, e1, h1, h2⟩ := hr.viewK hx ev
      subst e1
      obtain ⟨u, eu, rx⟩ := vals1 r
      subst eu
      obtain rfl : u = Value.ref a := rx
      exact list_keys hc I h1 fun b hb => made_lst q hr (keys_rep9 h2) hb
    · exact q.elim
  · exact q.elim
theorem made_dk {G : Env1} {L H : Hp} {s : S} {ρ : List Addr} {F : Hp} {l : List (Key × D)} {vs : List (Key × V)} {Q : VK} (q : PV G L ρ F (rpD G) Q (made c p (.dk l) s)) (r : Rel G L H s ρ F) (h : RepK G.ca G.K ρ F l vs) {a : Addr} (ha : H a = none) : Q (.ref a) (upd H a (.dK vs)) := by
  unfold made at q
  split at q
  · have r' := r.cellNew ha (o := .dK vs) (c := .dk l) ⟨vs, upd_same, h⟩
    refine q (.ref a) _ (ρ ++ [a]) F (Le.app ρ F a) r' ⟨a, ?_, rfl⟩
    rw [← r.len, List.getElem?_append_right (Nat.le_refl _), Nat.sub_self]
    rfl
  · exact q (.ref a) _ ρ (upd F a (.dK vs)) (r.frzLe ha _) (r.frzNew ha _) ⟨a, vs, rfl, .inl upd_same, RepK.mono (r.frzLe ha _) _ _ h⟩
theorem pairsK_rep {L H : Hp} {st : S} {ρ : List Addr} {F : Hp} (hr : Rel (gx X ca T) L H st ρ F) : ∀ {l : List D} {qs : List (Key × D)} {vs : List V}, pairsK st l = some qs → RepL ca X.K ρ F l vs →
    ∃ (ps : List Addr) (kvs : List (Key × V)), vs = ps.map V.ref ∧ Paired (fun p kv => SqT X.K H p [kV kv.1, kv.2]) ps kvs ∧ RepK ca X.K ρ F qs kvs
  | [], qs, vs, e, h => by
    cases e
    exact ⟨[], [], h, .nil, rfl⟩
  | d :: l, qs, vs, e, ⟨v, r, e1, q, t⟩ => by
    unfold pairsK at e
    split at e
    rotate_left
    · cases e
    rename_i k w ev
    split at e
    rotate_left
    · cases e
    rename_i q' r' hk hl
    cases e
    obtain ⟨ps, kvs, g1, g2, g3⟩ := pairsK_rep hr hl t
    obtain ⟨a, ys, f1, f2, f3⟩ := hr.viewT q ev
    obtain ⟨x, y, f4, f5, f6⟩ := RepL.two f3
    obtain ⟨f7, f8⟩ := key_rep (G := gx X ca T) hk f5
    subst f1 f4 f7 g1 e1
    exact ⟨a :: ps, (q', y) :: kvs, rfl, .cons f2 g2, y, kvs, rfl, f6, g3, f8⟩
theorem merge_rep {G : Env1} {ρ : List Addr} {F : Hp} : ∀ {qs : List (Key × D)} {kvs : List (Key × V)} {l : List (Key × D)} {vs : List (Key × V)}, RepK G.ca G.K ρ F qs kvs → RepK G.ca G.K ρ F l vs → RepK G.ca G.K ρ F (qs.foldl (fun a q => setK q.1 q.2 a) l) (mergeK vs kvs)
  | [], kvs, l, vs, h, h' => by
    obtain rfl : kvs = [] := h
    exact h'
  | (k, d) :: qs, _, l, vs, ⟨v, r, e, q, t, ko⟩, h' => by
    rw [e]
    show RepK G.ca G.K ρ F (qs.foldl (fun a q => setK q.1 q.2 a) (setK k d l)) (mergeK (putK vs k v) r)
    exact merge_rep t (setK_ok q ko h')
theorem cb_dict (hc : X.calm = true) : CbA X ca T (.type "dict") (mk c p dictM) := by
  intro pins s σ H vs us Q I r ⟨ds, st, ρ, F, L, hv, hr, q⟩
  unfold mk dictM at q
  split at q
  · rename_i x
    obtain ⟨v, e, hx⟩ := RepL.one (G := gx X ca T) hv
    subst e
    split at q
    · rename_i qs hq
      unfold lstOf at hq
      split at hq
      · rename_i l ev
        obtain ⟨a, ys, e1, h1, h2⟩ := hr.viewL hx ev
        subst e1
        obtain ⟨ps, kvs, g1, g2, g3⟩ := pairsK_rep hr hq h2
        subst g1
        exact call_dictP hc pins s σ H _ us Q I r ⟨a, ps, kvs, rfl, .inl h1, g2, fun b hb => made_dk q hr (merge_rep g3 rfl) hb⟩
      · cases hq
    · exact q.elim
  · exact q.elim
theorem insI_perm (x : Int) : ∀ l : List Int, (insI x l).Perm (x :: l)
  | [] => .refl _
  | y :: l => by
    unfold insI
    split
    · exact .refl _
    · exact ((insI_perm x l).cons y).trans (.swap x y l)
theorem sortI_perm : ∀ l : List Int, (sortI l).Perm l
  | [] => .refl _
  | x :: l => (insI_perm x (sortI l)).trans ((sortI_perm l).cons x)
theorem insI_le (x : Int) : ∀ {l : List Int}, l.Pairwise (· ≤ ·) → (insI x l).Pairwise (· ≤ ·)
  | [], _ => by simp [insI]
  | y :: l, h => by
    obtain ⟨h1, h2⟩ := List.pairwise_cons.mp h
    unfold insI
    split
    · rename_i hxy
      refine List.pairwise_cons.mpr ⟨fun z hz => ?_, h⟩
      rcases List.mem_cons.mp hz with e | hz
      · rw [e]
        exact hxy
      · exact Int.le_trans hxy (h1 z hz)
    · rename_i hxy
      refine List.pairwise_cons.mpr ⟨fun z hz => ?_, insI_le x h2⟩
      rcases List.mem_cons.mp ((insI_perm x l).mem_iff.mp hz) with e | hz
      · rw [e]
        omega
      · exact h1 z hz
theorem sortI_le : ∀ l : List Int, (sortI l).Pairwise (· ≤ ·)
  | [] => .nil
  | x :: l => insI_le x (sortI_le l)
theorem sorted_one : ∀ {l m : List Int}, l.Perm m → l.Pairwise (· ≤ ·) → m.Pairwise (· ≤ ·) → l = m
  | [], m, h, _, _ => (List.Perm.eq_nil h.symm).symm
  | x :: l, [], h, _, _ => absurd h.length_eq (by simp)
  | x :: l, y :: m, h, hl, hm => by
    obtain ⟨l1, l2⟩ := List.pairwise_cons.mp hl
    obtain ⟨m1, m2⟩ := List.pairwise_cons.mp hm
    have h1 : y ≤ x := by
      rcases List.mem_cons.mp (h.mem_iff.mp (List.mem_cons_self (a := x) (l := l))) with e | hx
      · omega
      · exact m1 x hx
    have h2 : x ≤ y := by
      rcases List.mem_cons.mp (h.mem_iff.mpr (List.mem_cons_self (a := y) (l := m))) with e | hx
      · omega
      · exact l1 y hx
    have e : x = y := by omega
    subst e
    rw [sorted_one h.cons_inv l2 m2]
theorem ints_rep {G : Env1} {ρ : List Addr} {F : Hp} : ∀ ns : List Int, RepL G.ca G.K ρ F (ns.map .int) (ns.map V.int)
  | [] => rfl
  | n :: ns => ⟨.int n, _, rfl, rfl, ints_rep ns⟩
/-! ### the call -/
theorem lenM_ne (ds : List D) (s : S) : (lenM ds s).isErr = false := by
  unfold lenM
  repeat' (first | rfl | split)
theorem absM_ne (ds : List D) (s : S) : (absM ds s).isErr = false := by
  unfold absM
  repeat' (first | rfl | split)
theorem intM_ne (ds : List D) (s : S) : (intM ds s).isErr = false := by
  unfold intM
  repeat' (first | rfl | split)
theorem maxM_ne (ds : List D) (s : S) : (maxM ds s).isErr = false := by
  unfold maxM
  repeat' (first | rfl | split)
theorem minM_ne (ds : List D) (s : S) : (minM ds s).isErr = false := by
  unfold minM
  repeat' (first | rfl | split)
theorem sumM_ne (ds : List D) (s : S) : (sumM ds s).isErr = false := by
  unfold sumM
  repeat' (first | rfl | split)
theorem tupleM_ne (ds : List D) (s : S) : (tupleM ds s).isErr = false := by
  unfold tupleM
  repeat' (first | rfl | split)
theorem listM1_ne (ds : List D) (s : S) : (listM1 ds s).isErr = false := by
  unfold listM1
  repeat' (first | rfl | split)
theorem dictM_ne (ds : List D) (s : S) : (dictM ds s).isErr = false := by
  unfold dictM
  repeat' (first | rfl | split)
theorem sortedM_ne (ds : List D) (s : S) : (sortedM ds s).isErr = false := by
  unfold sortedM
  repeat' (first | rfl | split)
theorem mk_ne {g : List D → S → R D} (h : ∀ ds s, (g ds s).isErr = false) (ds : List D) (s : S) : (mk c p g ds s).isErr = false := by
  unfold mk
  have := h ds s
  cases e : g ds s with
  | ok d s1 => exact made_ne
  | err x s1 => rw [e] at this; cases this
  | bad => rfl
/-- what a name of the built-ins is -/
structure BltOk (X : Cx) (ca : Str → Addr) (T : List (Addr × Str)) (c : Cfg) (p : Pos) (f : Str) (g : List D → S → R D) : Prop where
  ne : ∀ ds s, (g ds s).isErr = false
  mem : f ∈ bltN
  nn : f ≠ "__name__"
  ok : (∃ id, bootBuiltins f = some (.builtin id) ∧ CbA X ca T (.builtin id) (mk c p g)) ∨ ∃ ty, bootBuiltins f = some (.type ty) ∧ CbA X ca T (.type ty) (mk c p g)
theorem bltF_ok (hc : X.calm = true) {f : Str} {g : List D → S → R D} (h : bltF f = some g) : BltOk X ca T c p f g := by
  unfold bltF at h
  split at h
  · rename_i e
    cases h
    subst e
    exact ⟨lenM_ne, by simp [bltN], by decide, .inl ⟨_, boot_len, cb_len⟩⟩
  split at h
  · rename_i e
    cases h
    subst e
    exact ⟨absM_ne, by simp [bltN], by decide, .inl ⟨"abs", by decide +kernel, cb_abs⟩⟩
  split at h
  · rename_i e
    cases h
    subst e
    exact ⟨intM_ne, by simp [bltN], by decide, .inr ⟨"int", by decide +kernel, cb_int⟩⟩
  split at h
  · rename_i e
    cases h
    subst e
    exact ⟨maxM_ne, by simp [bltN], by decide, .inl ⟨"max", by decide +kernel, cb_max hc⟩⟩
  split at h
  · rename_i e
    cases h
    subst e
    exact ⟨minM_ne, by simp [bltN], by decide, .inl ⟨"min", by decide +kernel, cb_min hc⟩⟩
  split at h
  · rename_i e
    cases h
    subst e
    exact ⟨sumM_ne, by simp [bltN], by decide, .inl ⟨"sum", by decide +kernel, cb_sum hc⟩⟩
  split at h
  · rename_i e
    cases h
    subst e
    exact ⟨tupleM_ne, by simp [bltN], by decide, .inr ⟨"tuple", by decide +kernel, cb_tuple⟩⟩
  split at h
  · rename_i e
    cases h
    subst e
    exact ⟨listM1_ne, by simp [bltN], by decide, .inr ⟨"list", by decide +kernel, cb_list hc⟩⟩
  split at h
  · rename_i e
    cases h
    subst e
    exact ⟨dictM_ne, by simp [bltN], by decide, .inr ⟨"dict", by decide +kernel, cb_dict hc⟩⟩
  · cases h
theorem ae_blt {sc : Scope} {x : Str} {pos pp : Pos} {g : List D → S → R D} (h : Sd c ca T X W sc) (gl : glN sc x = true) (ho : c.own x = false) (hi : c.isC x = false) (hg : bltF x = some g) {f : Expr → ME} (hf : ∀ e, PE X e (tE (gx X ca T) W (f e))) {e : Expr} {es : List Expr} (hn : (e :: es).any starB = false) :
    PE X (.Call (.Name x pp) (e :: es) [] pos) (tE (gx X ca T) W fun sl s => (many f (e :: es) sl s).bind fun ds s1 => (g ds s1).bind fun d s2 => made c p d s2) := by
  obtain ⟨ne, mem, nn, ok⟩ := bltF_ok (ca := ca) (T := T) (c := c) (p := p) h.calm hg
  obtain ⟨hgl, hdb⟩ := glN_ok h gl
  have hm := h.blt x mem ho hi
  refine ⟨fun pins s σ H Q I q => ?_⟩
  have q := tA_then (g := mk c p g) (mk_ne ne) q
  have hn' := hn
  rw [List.any_cons, Bool.or_eq_false_iff] at hn'
  rcases ok with ⟨id, hb, cb⟩ | ⟨ty, hb, cb⟩
  · refine wpAny_Call_Name_kw (ld_blt I hgl hm hb ?_ nn hdb)
    exact PyProof.Rows.callWith_builtin1 (thn ((aa_many (ca := ca) (T := T) hf hn).run pos pins s σ H _ I q) fun us s1 ⟨vs, H1, I1, r1, q1⟩ => by
      obtain ⟨_, _, ds, st, ρ, F, L, _, h1, h2, q⟩ := q1
      exact cb pins s1 σ H1 vs us Q I1 r1 ⟨ds, st, ρ, F, L, h2, h1, q⟩) (star_ok hn'.1) (noStar_each hn'.2).1
  · refine wpAny_Call_Name_kw (ld_blt I hgl hm hb ?_ nn hdb)
    exact PyProof.Rows.callWith_type1 (thn ((aa_many (ca := ca) (T := T) hf hn).run pos pins s σ H _ I q) fun us s1 ⟨vs, H1, I1, r1, q1⟩ => by
      obtain ⟨_, _, ds, st, ρ, F, L, _, h1, h2, q⟩ := q1
      exact cb pins s1 σ H1 vs us Q I1 r1 ⟨ds, st, ρ, F, L, h2, h1, q⟩) (star_ok hn'.1) (noStar_each hn'.2).1
end
end AL
set_option Elab.async false
set_option linter.all false
set_option maxRecDepth 100000
set_option maxHeartbeats 4000000
/-! AL18: targets; simple statements. -/
namespace AL
open PySem PySem.Spec PyProof.Rows L2
abbrev rpS (G : Env1) (ρ : List Addr) (F : Hp) : Sl → L2.St → Prop := fun sl σ => SlR G ρ F sl σ
/-- a target's reading -/
def tG (G : Env1) (g : MG) : TG := fun v σ H Q => ∃ d sl s ρ F L, RepD G.ca G.K ρ F d v ∧ SlR G ρ F sl σ ∧ Rel G L H s ρ F ∧ PV G L ρ F (rpS G) Q (g d sl s)
def tGs (G : Env1) (g : List D → Sl → S → R Sl) : TGs := fun vs σ H Q => ∃ ds sl s ρ F L, RepL G.ca G.K ρ F ds vs ∧ SlR G ρ F sl σ ∧ Rel G L H s ρ F ∧ PV G L ρ F (rpS G) Q (g ds sl s)
/-- a body's surroundings -/
structure Ss (c : Cfg) (ca : Str → Addr) (T : List (Addr × Str)) (X : Cx) (W : WX) (sc : Scope) : Prop extends Sd c ca T X W sc where
  po : PassesOwn (model X.prog X.w) X.A X.env X.xe
  fn : ∀ x, sc.names.lookup x = some .cell → X.fn x = true
  kind : X.env.scope.kind = .function
section
variable {c : Cfg} {ca : Str → Addr} {T : List (Addr × Str)} {X : Cx} {W : WX} {sc : Scope} {pos p : Pos} {x : Str} {G : Env1} {L : Hp} {ρ : List Addr} {F : Hp} {σ : L2.St}
theorem PV.imp {α β : Type} {rp : List Addr → Hp → α → β → Prop} {Q Q' : β → Hp → Prop} {r : R α} {ρ1 : List Addr} {F1 : Hp} (h : PV G L ρ F rp Q r) (l : Le ρ F ρ1 F1) (k : ∀ a s', r = .ok a s' → ∀ v H' ρ' F', Le ρ1 F1 ρ' F' → Rel G L H' s' ρ' F' → rp ρ' F' a v → Q v H' → Q' v H') : PV G L ρ1 F1 rp Q' r := by
  cases r with
  | ok a s' => exact fun v H' ρ' F' l' r' p => k a s' rfl v H' ρ' F' l' r' p (h v H' ρ' F' (l.trans l') r' p)
  | err x s' => exact h
  | bad => exact h
theorem PV.bind {α β γ δ : Type} {rp : List Addr → Hp → α → β → Prop} {rq : List Addr → Hp → γ → δ → Prop} {Q : δ → Hp → Prop} {r : R α} {f : α → S → R γ} (h : PV G L ρ F rq Q (r.bind f)) :
    PV G L ρ F rp (fun v H' => ∃ a s' ρ' F', r = .ok a s' ∧ Le ρ F ρ' F' ∧ Rel G L H' s' ρ' F' ∧ rp ρ' F' a v ∧ PV G L ρ' F' rq Q (f a s')) r := by
  cases r with
  | ok a s' => exact fun v H' ρ' F' l' r' p => ⟨a, s', ρ', F', rfl, l', r', p, PV.imp h l' fun _ _ _ _ _ _ _ _ _ _ q => q⟩
  | err x s' => exact h
  | bad => exact h
theorem PV.pb {α β : Type} {rp : List Addr → Hp → α → β → Prop} {Q : β → Hp → Prop} {r : R α} (h : PV G L ρ F rp Q r) : PB G L ρ F W σ rp Q r := by
  cases r with
  | ok a s' => exact h
  | err x s' => exact False.elim h
  | bad => exact h
theorem PB.noErr {α β : Type} {rp : List Addr → Hp → α → β → Prop} {Q : β → Hp → Prop} {r : R α} (h : PB G L ρ F W σ rp Q r.noErr) : PV G L ρ F rp Q r := by
  cases r with
  | ok a s' => exact h
  | err x s' => exact False.elim h
  | bad => exact h
theorem fn_ok (h : Ss c ca T X W sc) (hl : Loc sc x) : X.fn x = true ∨ X.env.scope.names.lookup x = some .local := by
  rw [h.scp]
  rcases hl with hl | hl
  · exact .inr hl
  · exact .inl (h.fn x hl)
theorem ag_name (h : Ss c ca T X W sc) {i : Nat} (hi : ixN c.N x = some i) (hl : Loc sc x) : PG X (.Name x pos) (tG (gx X ca T) (gName i)) := by
  refine ⟨fun pins s σ H v u Q I r ⟨d, sl, st, ρ, F, L, hd, hs, hr, q⟩ => ?_⟩
  refine (pg_name h.nd (by rw [h.N]; exact ixN_at hi) (by rw [h.scp]; exact hl) (fn_ok h hl)).run pins s σ H v u Q I r ?_
  exact q _ H ρ F (.refl ρ F) hr (hs.set i hd)
theorem ag_bad {tg : Expr} : PG X tg (tG (gx X ca T) fun _ _ _ => .bad) := ⟨fun pins s σ H v u Q I r ⟨d, sl, st, ρ, F, L, hd, hs, hr, q⟩ => q.elim⟩
theorem gEv_name {G : Scope → Str → MG} (h : Ss c ca T X W sc) : PG X (.Name x pos) (tG (gx X ca T) (match sc.names.lookup x with
    | some .local => (match ixN c.N x with
      | some i => gName i
      | none => fun _ _ _ => .bad)
    | some .cell => (match ixN c.N x with
      | some i => gName i
      | none => fun _ _ _ => .bad)
    | _ => fun _ _ _ => .bad)) := by
  have go : Loc sc x → PG X (.Name x pos) (tG (gx X ca T) (match ixN c.N x with
      | some i => gName i
      | none => fun _ _ _ => .bad)) := fun hl => by
    cases hi : ixN c.N x with
    | none => exact ag_bad
    | some i => exact ag_name h hi hl
  cases e : sc.names.lookup x with
  | none => exact ag_bad
  | some k =>
    cases k with
    | «local» => exact go (.inl e)
    | cell => exact go (.inr e)
    | free => exact ag_bad
    | globalExplicit => exact ag_bad
    | globalImplicit => exact ag_bad
theorem noStar_asg {env : Env} : ∀ {ts : List Expr}, ts.any starB = false → (assignEach ts env).map (·.2) = ts.map (fun t => assign t env) ∧ (assignEach ts env).length = ts.length ∧ (assignEach ts env).findIdx? (·.1) = none
  | [], _ => ⟨rfl, rfl, rfl⟩
  | t :: ts, h => by
    rw [List.any_cons, Bool.or_eq_false_iff] at h
    obtain ⟨h1, h2, h3⟩ := noStar_asg (env := env) h.2
    have e : assignEach (t :: ts) env = (false, assign t env) :: assignEach ts env := by
      cases t <;> first | rfl | cases h.1
    rw [e]
    refine ⟨by rw [List.map_cons, List.map_cons, h1], by rw [List.length_cons, List.length_cons, h2], ?_⟩
    rw [List.findIdx?_cons]
    simp [h3]
theorem ag_many {f : Expr → MG} (hf : ∀ t, PG X t (tG (gx X ca T) (f t))) : ∀ {ts : List Expr}, ts.any starB = false → PGs X ts (tGs (gx X ca T) (gMany f ts))
  | [], _ => ⟨fun pins s σ H vs us Q I r ⟨ds, sl, st, ρ, F, L, hd, hs, hr, q⟩ => pgs_nil.run pins s σ H vs us Q I r (by
    cases ds with
    | nil => exact ⟨hd, q σ H ρ F (.refl ρ F) hr hs⟩
    | cons d ds => exact q.elim)⟩
  | t :: ts, hn => by
    have hn' := hn
    rw [List.any_cons, Bool.or_eq_false_iff] at hn'
    refine ⟨fun pins s σ H vs us Q I r ⟨ds, sl, st, ρ, F, L, hd, hs, hr, q⟩ => ?_⟩
    refine (pgs_cons (hf t) (ag_many hf hn'.2) (by rw [(noStar_asg hn).1, (noStar_asg hn'.2).1, List.map_cons])).run pins s σ H vs us Q I r ?_
    cases ds with
    | nil => exact q.elim
    | cons d ds =>
      obtain ⟨v, vr, e, h1, h2⟩ := hd
      refine ⟨v, vr, e, d, sl, st, ρ, F, L, h1, hs, hr, ?_⟩
      refine (PV.bind (rp := rpS (gx X ca T)) (f := fun sl1 s1 => gMany f ts ds sl1 s1) q).imp (.refl ρ F) fun _ _ _ σ' H' _ _ _ _ _ q => ?_
      obtain ⟨sl1, s1, ρ1, F1, _, l1, r1, hs1, q⟩ := q
      exact ⟨ds, sl1, s1, ρ1, F1, L, RepL.mono l1 _ _ h2, hs1, r1, q⟩
theorem gMany_len {f : Expr → MG} : ∀ {ts : List Expr} {ds : List D} {sl : Sl} {s : S} {Q : L2.St → Hp → Prop}, PV G L ρ F (rpS G) Q (gMany f ts ds sl s) → ds.length = ts.length
  | [], [], _, _, _, _ => rfl
  | [], _ :: _, _, _, _, h => h.elim
  | _ :: _, [], _, _, _, h => h.elim
  | t :: ts, d :: ds, sl, s, Q, h => by
    have h : PV G L ρ F (rpS G) Q ((f t d sl s).bind fun sl1 s1 => gMany f ts ds sl1 s1) := h
    cases e : f t d sl s with
    | ok sl1 s1 =>
      rw [e] at h
      have h : PV G L ρ F (rpS G) Q (gMany f ts ds sl1 s1) := h
      rw [List.length_cons, List.length_cons, gMany_len h]
    | err x s1 => rw [e] at h; exact h.elim
    | bad => rw [e] at h; exact h.elim
theorem ag_tup (hc : X.calm = true) {f : Expr → MG} (hf : ∀ t, PG X t (tG (gx X ca T) (f t))) {ts : List Expr} {k : Nat} (hn : ts.any starB = false) : PG X (.Tuple ts k pos) (tG (gx X ca T) (gTup f ts)) := by
  refine ⟨fun pins s σ H v u Q I r ⟨d, sl, st, ρ, F, L, hd, hs, hr, q⟩ => ?_⟩
  unfold gTup at q
  split at q
  · rename_i l hl
    unfold unpackD at hl
    split at hl
    · rename_i l' ev
      cases hl
      obtain ⟨a, vs, e1, h1, h2⟩ := hr.viewT hd ev
      refine (pg_tup hc (ag_many hf hn) (noStar_asg hn).2.1 (noStar_asg hn).2.2).run pins s σ H v u Q I r ⟨a, vs, e1, h1, ?_, l, sl, st, ρ, F, L, h2, hs, hr, q⟩
      rw [← RepL.length (G := gx X ca T) h2]
      exact gMany_len q
    · cases hl
  · exact q.elim
/-! ### attributes, items -/
theorem setO_ok {G : Env1} {ρ : List Addr} {F : Hp} {f : Str} {d : D} {v : V} (h : RepD G.ca G.K ρ F d v) : ∀ {l : List (Str × D)} {vs : List (Str × V)}, RepO G.ca G.K ρ F l vs → RepO G.ca G.K ρ F (setO f d l) (putF f v vs)
  | [], vs, e => by
    obtain rfl : vs = [] := e
    exact ⟨v, [], rfl, h, rfl⟩
  | (g, x) :: l, _, ⟨w, r, e, q, t⟩ => by
    rw [e]
    unfold setO putF
    split
    · exact ⟨v, r, rfl, h, t⟩
    · exact ⟨w, _, rfl, q, setO_ok h t⟩
theorem RepO.length {G : Env1} {ρ : List Addr} {F : Hp} : ∀ {l : List (Str × D)} {vs : List (Str × V)}, RepO G.ca G.K ρ F l vs → l.length = vs.length
  | [], vs, e => by
    obtain rfl : vs = [] := e
    rfl
  | (g, x) :: l, _, ⟨w, r, e, q, t⟩ => by rw [e, List.length_cons, List.length_cons, RepO.length t]
theorem below_setO {n : Nat} {f : Str} {d : D} (hd : d.under n = true) : ∀ {l : List (Str × D)}, belowO n l = true → belowO n (setO f d l) = true
  | [], _ => by simp [setO, belowO, hd]
  | (g, x) :: l, h => by
    have h : (x.under n && belowO n l) = true := h
    rw [Bool.and_eq_true] at h
    unfold setO
    split
    · show (d.under n && belowO n l) = true
      rw [hd, h.2]
      rfl
    · show (x.under n && belowO n (setO f d l)) = true
      rw [h.1, below_setO hd h.2]
      rfl
theorem keys_putF2 (f : Str) (v : V) : ∀ (fs : List (Str × V)) (g : Str), g ∈ (putF f v fs).map (·.1) → g = f ∨ g ∈ fs.map (·.1)
  | [], g, h => by simpa [putF] using h
  | (k, x) :: r, g, h => by
    unfold putF at h
    split at h
    · exact .inr (by simpa using h)
    · rcases List.mem_cons.mp h with h | h
      · exact .inr (by rw [h]; simp)
      · rcases keys_putF2 f v r g h with h | h
        · exact .inl h
        · exact .inr (List.mem_cons_of_mem _ h)
theorem attr_set (h : Sd c ca T X W sc) {o v : V} {ov u : Value} {do_ d : D} {f : Str} {pins : List (Addr × Obj)} {s : Shared} {H : Hp} {st : S} {Q : Unit → Hp → Prop} (I : Inv X pins σ H s) (ro : L2.RelV o ov) (rv : L2.RelV v u) (hr : Rel (gx X ca T) L H st ρ F)
    (ho : RepD ca X.K ρ F do_ o) (hd : RepD ca X.K ρ F d v) (q : PV (gx X ca T) L ρ F (fun _ _ (_ : Unit) (_ : Unit) => True) Q (setAt c.attr do_ f d st)) :
    wpAny (model X.prog X.w) X.A (setAttr ov f u) (fun _ s' => ∃ H', Inv X pins σ H' s' ∧ Q () H') X.xe s := by
  unfold setAt at q
  split at q
  rotate_left
  · exact q.elim
  rename_i i
  split at q
  rotate_left
  · exact q.elim
  rename_i hf
  split at q
  rotate_left
  · exact q.elim
  rename_i C l e
  split at q
  rotate_left
  · exact q.elim
  rename_i hc
  obtain ⟨a, ha, ev⟩ := ho
  subst ev
  obtain ⟨hcls, hno⟩ := h.attr C f hc.1
  obtain ⟨dx, vs, h1, h2, h3⟩ := hr.cell i _ a e ha
  obtain rfl : ov = Value.ref a := ro
  have hlen := RepO.length (G := gx X ca T) h2
  refine setattr_ok I h1 hcls hno (by omega) rv fun s' I' => ⟨_, I', ?_⟩
  rw [Bool.and_eq_true] at hf
  have hw : Rel (gx X ca T) L (upd H a (.ins (ca C) dx (putF f v vs))) (putC i (.ins C (setO f d l)) st) ρ F := by
    refine hr.write ha (free_ok hf.1) ⟨dx, putF f v vs, upd_same, setO_ok hd h2, h3.cls, fun g hg => ?_⟩ fun b hb hi => ?_
    · rcases keys_putF2 f v vs g hg with e | e
      · rw [e]
        exact hno
      · exact h3.no g e
    · exact below_setO (fits_ok hf.2 b hb hi) (show belowO b l = true from hr.disc i _ e b hb hi)
  exact q () _ ρ F (.refl ρ F) hw trivial
theorem ag_attr (h : Sd c ca T X W sc) {o : Expr} {f : Str} {m : ME} (ho : PE X o (tE (gx X ca T) W m)) : PG X (.Attribute o f pos) (tG (gx X ca T) fun d sl s => (m sl s).noErr.bind fun x s1 => unitR sl (setAt c.attr x f d s1)) := by
  refine ⟨fun pins s σ H v u Q I r ⟨d, sl, st, ρ, F, L, hd, hs, hr, q⟩ => ?_⟩
  rw [assign_Attribute]
  have q1 := PV.bind (rp := rpD (gx X ca T)) (f := fun x s1 => unitR sl (setAt c.attr x f d s1)) q
  have q2 : PV (gx X ca T) L ρ F (rpD (gx X ca T)) (fun v H' => ∃ a s' ρ' F', Le ρ F ρ' F' ∧ Rel (gx X ca T) L H' s' ρ' F' ∧ RepD ca X.K ρ' F' a v ∧ PV (gx X ca T) L ρ' F' (rpS (gx X ca T)) Q (unitR sl (setAt c.attr a f d s'))) (m sl st) := by
    cases e : m sl st with
    | ok a s' =>
      rw [e] at q1
      exact fun v H' ρ' F' l' r' p => let ⟨a1, s1, ρ1, F1, _, h2, h3, h4, h5⟩ := q1 v H' ρ' F' l' r' p; ⟨a1, s1, ρ1, F1, h2, h3, h4, h5⟩
    | err x s' => rw [e] at q1; exact q1.elim
    | bad => rw [e] at q1; exact q1.elim
  refine wpAny_bind (wpAny_holding (thn (ho.run pins s σ H _ I ⟨sl, st, ρ, F, L, hs, hr, q2.pb⟩) fun ov s1 ⟨x, H1, I1, rx, a, s', ρ1, F1, l1, r1, hx, q⟩ => ?_))
  refine wpAny_bind (wpAny_standAt (wpAny_bind (wpAny_holding (thn (attr_set (Q := fun _ H' => Q σ H') h I1 rx r r1 hx (RepD.mono l1 _ _ hd) ?_) fun _ s2 ⟨H2, I2, q2⟩ => ?_))))
  · cases e : setAt c.attr a f d s' with
    | ok _ s2 =>
      rw [e] at q
      exact fun _ H' ρ' F' l' r' _ => q σ H' ρ' F' l' r' ((hs.mono l1).mono l')
    | err x s2 => rw [e] at q; exact q.elim
    | bad => rw [e] at q; exact q.elim
  · exact wpAny_release ⟨σ, H2, I2, q2⟩
theorem noErr_step {α β : Type} {rp : List Addr → Hp → α → β → Prop} {r : R α} {P : β → Hp → α → S → List Addr → Hp → Prop}
    (q : PV G L ρ F rp (fun v H' => ∃ a s' ρ' F', r.noErr = .ok a s' ∧ Le ρ F ρ' F' ∧ Rel G L H' s' ρ' F' ∧ rp ρ' F' a v ∧ P v H' a s' ρ' F') r.noErr) : PV G L ρ F rp (fun v H' => ∃ a s' ρ' F', Le ρ F ρ' F' ∧ Rel G L H' s' ρ' F' ∧ rp ρ' F' a v ∧ P v H' a s' ρ' F') r := by
  cases r with
  | ok a s' => exact fun v H' ρ' F' l' r' p => let ⟨a1, s1, ρ1, F1, _, h2, h3, h4, h5⟩ := q v H' ρ' F' l' r' p; ⟨a1, s1, ρ1, F1, h2, h3, h4, h5⟩
  | err x s' => exact q.elim
  | bad => exact q.elim
/-- o[k] = v, by values -/
theorem item_set (hu : X.A.units + 1 < cLine) {o k v : V} {ov kv u : Value} {do_ dk d : D} {pins : List (Addr × Obj)} {s : Shared} {H : Hp} {st : S} {Q : Unit → Hp → Prop} (I : Inv X pins σ H s) (ro : L2.RelV o ov) (rk : L2.RelV k kv) (rv : L2.RelV v u) (hr : Rel (gx X ca T) L H st ρ F)
    (ho : RepD ca X.K ρ F do_ o) (hk : RepD ca X.K ρ F dk k) (hd : RepD ca X.K ρ F d v) (q : PV (gx X ca T) L ρ F (fun _ _ (_ : Unit) (_ : Unit) => True) Q (setIx do_ dk d st)) :
    wpAny (model X.prog X.w) X.A (setItem ov kv u) (fun _ s' => ∃ H', Inv X pins σ H' s' ∧ Q () H') X.xe s := by
  unfold setIx at q
  split at q
  rotate_left
  · exact q.elim
  rename_i i
  split at q
  rotate_left
  · exact q.elim
  rename_i hf
  rw [Bool.and_eq_true] at hf
  obtain ⟨a, ha, ev⟩ := ho
  subst ev
  split at q
  · rename_i l e
    split at q
    rotate_left
    · exact q.elim
    rename_i j
    split at q
    rotate_left
    · exact q.elim
    rename_i m hm
    obtain ⟨vs, h1, h2⟩ := hr.free_lst ha e hf.1
    obtain rfl : k = .int j := hk
    refine set_list pins s σ H _ _ v ov kv u (fun H' => Q () H') I ro rk rv ⟨a, vs, j, m, rfl, rfl, h1, by rw [← RepL.length (G := gx X ca T) h2]; exact hm, ?_⟩
    have hw := hr.write (i := i) (o := .lst (vs.set m v)) (c := .lst (l.set m d)) ha (free_ok hf.1) ⟨_, upd_same, RepL.set m h2 hd⟩ (fun b hb hi => below_all.mpr fun x hx => by
      rcases List.mem_or_eq_of_mem_set hx with h | h
      · exact below_all.mp (show belowL b l = true from hr.disc i _ e b hb hi) x h
      · rw [h]
        exact fits_ok hf.2 b hb hi)
    exact q () _ ρ F (.refl ρ F) hw trivial
  · rename_i l e
    split at q
    rotate_left
    · exact q.elim
    rename_i kk hkk
    split at q
    rotate_left
    · exact q.elim
    rename_i hlen
    obtain ⟨vs, h1, h2⟩ := hr.free_dk ha e hf.1
    obtain ⟨ek, eo⟩ := key_rep (G := gx X ca T) hkk hk
    subst ek
    have hl : vs.length < sizeLine := by
      have := congrArg List.length (RepK.keys (G := gx X ca T) h2)
      rw [List.length_map, List.length_map] at this
      omega
    have hw := hr.write (i := i) (o := .dK (putK vs kk v)) (c := .dk (setK kk d l)) ha (free_ok hf.1) ⟨_, upd_same, setK_ok hd eo h2⟩ (fun b hb hi => belowK_set (show belowK b l = true from hr.disc i _ e b hb hi) (fits_ok hf.2 b hb hi))
    exact set_dict hu pins s σ H _ _ v ov kv u (fun H' => Q () H') I ro rk rv ⟨a, _, rfl, DPut.k h1 hl, q () _ ρ F (.refl ρ F) hw trivial⟩
  · exact q.elim
theorem ag_sub (h : Sd c ca T X W sc) {o k : Expr} {mo mk : ME} (ho : PE X o (tE (gx X ca T) W mo)) (hk : PE X k (tE (gx X ca T) W mk)) (hs : sliceB k = false) :
    PG X (.Subscript o k pos) (tG (gx X ca T) fun d sl s => (mo sl s).noErr.bind fun x s1 => (mk sl s1).noErr.bind fun y s2 => unitR sl (setIx x y d s2)) := by
  refine ⟨fun pins s σ H v u Q I r ⟨d, sl, st, ρ, F, L, hd, hsl, hr, q⟩ => ?_⟩
  have eqn : assign (.Subscript o k pos) X.env u = (do
      let ov ← holding [u] (eval o X.env)
      let iv ← holding [u, ov] (eval k X.env)
      standAt pos
      holding [u, ov, iv] (setItem ov iv u)
      release [u, ov, iv] []) := by
    cases k with
    | Slice l m st p2 => cases st with
      | none => cases hs
      | some z => rfl
    | _ => rfl
  rw [eqn]
  have q1 := PV.bind (rp := rpD (gx X ca T)) (f := fun x s1 => (mk sl s1).noErr.bind fun y s2 => unitR sl (setIx x y d s2)) q
  refine wpAny_bind (wpAny_holding (thn (ho.run pins s σ H _ I ⟨sl, st, ρ, F, L, hsl, hr, (noErr_step q1).pb⟩) fun ov s1 ⟨x, H1, I1, rx, a, s', ρ1, F1, l1, r1, hx, q⟩ => ?_))
  have q2 := PV.bind (rp := rpD (gx X ca T)) (f := fun y s2 => unitR sl (setIx a y d s2)) q
  refine wpAny_bind (wpAny_holding (thn (hk.run pins s1 σ H1 _ I1 ⟨sl, s', ρ1, F1, L, hsl.mono l1, r1, (noErr_step q2).pb⟩) fun kv s2 ⟨y, H2, I2, ry, b, s'', ρ2, F2, l2, r2, hy, q⟩ => ?_))
  refine wpAny_bind (wpAny_standAt (wpAny_bind (wpAny_holding (thn (item_set (Q := fun _ H' => Q σ H') (by have := h.units; omega) I2 rx ry r r2 (RepD.mono l2 _ _ hx) hy (RepD.mono l2 _ _ (RepD.mono l1 _ _ hd)) ?_) fun _ s3 ⟨H3, I3, q3⟩ => ?_))))
  · cases e : setIx a b d s'' with
    | ok _ s2 =>
      rw [e] at q
      exact fun _ H' ρ' F' l' r' _ => q σ H' ρ' F' l' r' (((hsl.mono l1).mono l2).mono l')
    | err x s2 => rw [e] at q; exact q.elim
    | bad => rw [e] at q; exact q.elim
  · exact wpAny_release ⟨σ, H3, I3, q3⟩
theorem ag_ev (h : Ss c ca T X W sc) {p : Ev} (he : ∀ e, PE X e (tE (gx X ca T) W (p.e sc e))) : ∀ (n : Nat) (tg : Expr), PG X tg (tG (gx X ca T) (gEv c p sc n tg))
  | 0, tg => ag_bad
  | n + 1, tg => by
    cases tg with
    | Name x pos => exact gEv_name (G := fun _ _ => fun _ _ _ => .bad) h
    | Tuple es k pos =>
      show PG X _ (tG (gx X ca T) (if es.any starB = true then fun _ _ _ => .bad else gTup (gEv c p sc n) es))
      by_cases hs : es.any starB = true
      · rw [if_pos hs]
        exact ag_bad
      · rw [if_neg hs]
        exact ag_tup h.calm (ag_ev h he n) (by simpa using hs)
    | Attribute o f pos => exact ag_attr h.toSd (he o)
    | Subscript o k pos =>
      show PG X _ (tG (gx X ca T) (if sliceB k = true then fun _ _ _ => .bad else fun d sl s => (p.e sc o sl s).noErr.bind fun x s1 => (p.e sc k sl s1).noErr.bind fun y s2 => unitR sl (setIx x y d s2)))
      by_cases hs : sliceB k = true
      · rw [if_pos hs]
        exact ag_bad
      · rw [if_neg hs]
        exact ag_sub h.toSd (he o) (he k) (by simpa using hs)
    | _ => exact ag_bad
end
end AL
set_option Elab.async false
set_option linter.all false
set_option maxRecDepth 100000
set_option maxHeartbeats 4000000
/-! AL19: statements. -/
namespace AL
open PySem PySem.Spec PyProof.Rows L2
section
variable {c : Cfg} {ca : Str → Addr} {T : List (Addr × Str)} {X : Cx} {W : WX} {sc : Scope} {pos : Pos} {x : Str} {e : Expr} {me : ME}
theorem as_bad {st : Stmt} : PS X st (tS (gx X ca T) W badS) := PS.never fun D σ H ⟨sl, s, ρ, F, L, hs, hr, hp⟩ => hp
theorem as_runs {f : Stmt → MS} (hf : ∀ st, PS X st (tS (gx X ca T) W (f st))) : ∀ l : List Stmt, PSs X l (tS (gx X ca T) W (runs f l))
  | [] => pss_nil.weak fun D σ H ⟨sl, s, ρ, F, L, hs, hr, hp⟩ => hp σ H ρ F (.refl ρ F) hs hr
  | a :: l => (pss_cons (hf a) (as_runs hf l)).weak fun D σ H ⟨sl, s, ρ, F, L, hs, hr, hp⟩ => by
    refine ⟨sl, s, ρ, F, L, hs, hr, ?_⟩
    have hp : PQ (gx X ca T) L ρ F W D (match f a sl s with
      | .nx sl1 s1 => runs f l sl1 s1
      | r => r) := hp
    cases e : f a sl s with
    | nx sl1 s1 =>
      rw [e] at hp
      exact fun σ' H' ρ' F' l' hs' hr' => ⟨sl1, s1, ρ', F', L, hs', hr', hp.le l'⟩
    | rt d s1 => rw [e] at hp; exact hp
    | bk sl1 s1 => rw [e] at hp; exact hp
    | ct sl1 s1 => rw [e] at hp; exact hp
    | er x sl1 s1 => rw [e] at hp; exact hp
    | bad => rw [e] at hp; exact hp
theorem as_pass : PS X (.Pass pos) (tS (gx X ca T) W fun sl s => .nx sl s) := ps_pass.weak fun D σ H ⟨sl, s, ρ, F, L, hs, hr, hp⟩ => hp σ H ρ F (.refl ρ F) hs hr
theorem as_break : PS X (.Break pos) (tS (gx X ca T) W fun sl s => .bk sl s) := ps_break.weak fun D σ H ⟨sl, s, ρ, F, L, hs, hr, hp⟩ => hp σ H ρ F (.refl ρ F) hs hr
theorem as_cont : PS X (.Continue pos) (tS (gx X ca T) W fun sl s => .ct sl s) := ps_continue.weak fun D σ H ⟨sl, s, ρ, F, L, hs, hr, hp⟩ => hp σ H ρ F (.refl ρ F) hs hr
theorem as_retN : PS X (.Return none pos) (tS (gx X ca T) W fun _ s => .rt .non s) := ps_retN.weak fun D σ H ⟨sl, s, ρ, F, L, hs, hr, hp⟩ => hp .non H ρ F (.refl ρ F) hr rfl
/-- an expression, then the rest -/
theorem tS_bind {α β : Type} {G : Env1} {rp : List Addr → Hp → α → β → Prop} {m : Sl → S → R α} {f : Sl → α → S → RS} {D : Ends} {σ : L2.St} {H : Hp} (h : tS G W (fun sl s => (m sl s).sbind sl (f sl)) D σ H) :
    tX G W rp m σ H fun v H' => ∃ sl a s' ρ F L, SlR G ρ F sl σ ∧ Rel G L H' s' ρ F ∧ rp ρ F a v ∧ PQ G L ρ F W D (f sl a s') := by
  obtain ⟨sl, s, ρ, F, L, hs, hr, hp⟩ := h
  refine ⟨sl, s, ρ, F, L, hs, hr, (PQ.bind (rp := rp) hs hp).imp (.refl ρ F) fun _ _ _ v H' _ _ _ _ _ q => ?_⟩
  obtain ⟨a, s', ρ1, F1, _, l1, h1, h2, h3, h4⟩ := q
  exact ⟨sl, a, s', ρ1, F1, L, h1, h2, h3, h4⟩
theorem as_ret (he : PE X e (tE (gx X ca T) W me)) : PS X (.Return (some e) pos) (tS (gx X ca T) W fun sl s => (me sl s).sbind sl fun d s1 => .rt d s1) :=
  (ps_ret he).weak fun D σ H q => tE.imp (tS_bind (rp := rpD (gx X ca T)) (f := fun _ d s1 => .rt d s1) q) fun v H' ⟨sl, d, s', ρ, F, L, h1, h2, h3, h4⟩ => h4 v H' ρ F (.refl ρ F) h2 h3
theorem noSwap {tg : Option Expr} {ln : Nat} {env : Env} (h : isComp e = false) : swapsWith e tg ln env = pure false := by
  cases e <;> first | rfl | cases h
theorem as_expr (he : PE X e (tE (gx X ca T) W me)) (hc : isComp e = false) : PS X (.Expr e pos) (tS (gx X ca T) W fun sl s => (me sl s).sbind sl fun _ s1 => .nx sl s1) :=
  (ps_expr he (noSwap hc)).weak fun D σ H q => tE.imp (tS_bind (rp := rpD (gx X ca T)) (f := fun sl _ s1 => .nx sl s1) q) fun v H' ⟨sl, d, s', ρ, F, L, h1, h2, h3, h4⟩ => h4 σ H' ρ F (.refl ρ F) h1 h2
theorem as_if {t : Expr} {a b : List Stmt} {mt : MT} {ma mb : MS} (ht : PT X t (tT (gx X ca T) W mt)) (ha : PSs X a (tS (gx X ca T) W ma)) (hb : PSs X b (tS (gx X ca T) W mb)) :
    PS X (.If t a b pos) (tS (gx X ca T) W fun sl s => (mt sl s).sbind sl fun b' s1 => if b' = true then ma sl s1 else mb sl s1) :=
  (ps_if ht ha hb).weak fun D σ H q => by
    obtain ⟨sl, s, ρ, F, L, hs, hr, hp⟩ := tS_bind (rp := rpB) (f := fun sl b' s1 => if b' = true then ma sl s1 else mb sl s1) q
    refine ⟨sl, s, ρ, F, L, hs, hr, hp.imp (.refl ρ F) fun _ _ _ v H' _ _ _ _ _ q => ?_⟩
    obtain ⟨sl, b', s', ρ, F, L, h1, h2, h3, h4⟩ := q
    have h3 : b' = v := h3
    subst h3
    cases b' with
    | true => exact ⟨sl, s', ρ, F, L, h1, h2, h4⟩
    | false => exact ⟨sl, s', ρ, F, L, h1, h2, h4⟩
/-! ### assignments -/
theorem PQ.target {G : Env1} {L : Hp} {ρ : List Addr} {F : Hp} {D : Ends} {sl : Sl} {r : R Sl} (h : PQ G L ρ F W D (r.noErr.sbind sl fun sl1 s2 => .nx sl1 s2)) : PV G L ρ F (rpS G) D.nx r := by
  cases r with
  | ok a s' => exact fun v H' ρ' F' l' r' p => h v H' ρ' F' l' p r'
  | err x s' => exact h.elim
  | bad => exact h.elim
theorem one_asg {env : Env} {tg : Expr} (h : starB tg = false) : (assignEach [tg] env).map (·.2) = [assign tg env] := by
  cases tg <;> first | rfl | cases h
theorem as_asg {tg : Expr} {g : MG} (he : PE X e (tE (gx X ca T) W me)) (hg : PG X tg (tG (gx X ca T) g)) (hc : isComp e = false) (hw : swappedStores [tg] e X.env = pure none) (hst : starB tg = false) :
    PS X (.Assign [tg] e pos) (tS (gx X ca T) W fun sl s => (me sl s).sbind sl fun d s1 => ((g d sl s1).noErr).sbind sl fun sl1 s2 => .nx sl1 s2) :=
  (ps_asg he hg (noSwap hc) hw (one_asg hst)).weak fun D σ H q => by
    exact tE.imp (tS_bind (rp := rpD (gx X ca T)) (f := fun sl d s1 => ((g d sl s1).noErr).sbind sl fun sl1 s2 => .nx sl1 s2) q) fun v H' ⟨sl, d, s', ρ, F, L, h1, h2, h3, h4⟩ => ⟨d, sl, s', ρ, F, L, h3, h1, h2, h4.target⟩
/-! ### augmented assignments -/
theorem aug_ip (op : Operator) : PIp X op (r2 (gx X ca T) (augD op)) := by
  intro pins s σ H x y v u Q I rx ry ⟨dx, dy, st, ρ, F, L, hx, hy, hr, q⟩
  unfold augD at q
  split at q
  · rename_i a b
    exact augR (op := .Add) (r := rI0 fun i j => .int (i + j)) iop_add I rx ry ⟨a, b, hx, hy, q.here hr rfl⟩
  · rename_i a b
    exact augR (op := .Sub) (r := rI0 fun i j => .int (i - j)) iop_sub I rx ry ⟨a, b, hx, hy, q.here hr rfl⟩
  · rename_i a b
    split at q
    · rename_i hz
      exact augR (op := .Mult) (r := rI CMul fun i j => .int (i * j)) iop_mul I rx ry ⟨a, b, hx, hy, hz.elim (fun h => .inl (by omega)) fun h => .inr (by omega), q.here hr rfl⟩
    · exact q.elim
  · rename_i a b
    split at q
    · rename_i hz
      exact augR (op := .FloorDiv) (r := rI CDiv fun i j => .int (i / j)) iop_fdiv I rx ry ⟨a, b, hx, hy, hz, q.here hr rfl⟩
    · exact q.elim
  · rename_i a b
    split at q
    · rename_i hz
      exact augR (op := .Add) iop_add_str I rx ry ⟨a, b, hx.1, hy.1, hz, q.here hr ⟨rfl, by show (a.cps ++ b.cps).size ≤ sizeLine; rw [Array.size_append]; exact hz⟩⟩
    · exact q.elim
  · exact q.elim
theorem augD_ne {op : Operator} {x y : D} {s : S} : (augD op x y s).isErr = false := by
  unfold augD
  repeat' (first | rfl | split)
theorem slotI_ok {i : Nat} (h : slotI c sc x = some i) : ixN c.N x = some i ∧ Loc sc x := by
  unfold slotI at h
  split at h
  · rename_i e
    exact ⟨h, .inl e⟩
  · rename_i e
    exact ⟨h, .inr e⟩
  · cases h
theorem as_augN (h : Ss c ca T X W sc) {op : Operator} {i : Nat} {p1 : Pos} (hi : slotI c sc x = some i) (he : PE X e (tE (gx X ca T) W me)) :
    PS X (.AugAssign (.Name x p1) op e pos) (tS (gx X ca T) W fun sl s => (slot i sl s).sbind sl fun x s1 => (me sl s1).sbind sl fun y s2 => (augD op x y s2).sbind sl fun d s3 => .nx (sl.set i (some d)) s3) := by
  obtain ⟨h1, h2⟩ := slotI_ok hi
  refine (ps_aug h.nd (by rw [h.N]; exact ixN_at h1) (by rw [h.scp]; exact h2) he (aug_ip (ca := ca) (T := T) op) (fn_ok h h2)).weak fun D σ H ⟨sl, s, ρ, F, L, hs, hr, hp⟩ => ?_
  cases e1 : sl[i]? with
  | none => simp only [slot, e1] at hp; exact hp.elim
  | some o =>
    cases o with
    | none => simp only [slot, e1] at hp; exact hp.elim
    | some d =>
      simp only [slot, e1] at hp
      obtain ⟨v, hv, rv⟩ := hs.at_ i d e1
      refine ⟨v, hv, sl, s, ρ, F, L, hs, hr, ?_⟩
      have hp : PQ (gx X ca T) L ρ F W D ((me sl s).sbind sl fun y s2 => (augD op d y s2).sbind sl fun d s3 => .nx (sl.set i (some d)) s3) := hp
      refine (PQ.bind (rp := rpD (gx X ca T)) hs hp).imp (.refl ρ F) fun _ _ _ y H1 _ _ _ _ _ q => ?_
      obtain ⟨dy, s2, ρ1, F1, _, l1, hs1, hr1, hy, q⟩ := q
      refine ⟨d, dy, s2, ρ1, F1, L, RepD.mono l1 _ _ rv, hy, hr1, ?_⟩
      have ne := augD_ne (op := op) (x := d) (y := dy) (s := s2)
      cases e2 : augD op d dy s2 with
      | ok z s3 =>
        rw [e2] at q
        exact fun v' H' ρ' F' l' r' p => q _ H' ρ' F' l' ((hs1.mono l').set i p) r'
      | err x s3 => rw [e2] at ne; cases ne
      | bad => rw [e2] at q; exact q.elim
/-- two values, then an operator -/
theorem as_augA (h : Sd c ca T X W sc) {o : Expr} {mo : ME} {f : Str} {op : Operator} {p1 : Pos} (ho : PE X o (tE (gx X ca T) W mo)) (he : PE X e (tE (gx X ca T) W me)) :
    PS X (.AugAssign (.Attribute o f p1) op e pos) (tS (gx X ca T) W fun sl s => (mo sl s).sbind sl fun ov s1 => (match getAt ov f s1 with
      | some x => (me sl s1).sbind sl fun y s2 => (augD op x y s2).sbind sl fun d s3 => (setAt c.attr ov f d s3).sbind sl fun _ s4 => .nx sl s4
      | none => .bad)) := by
  refine ⟨fun pins s σ H D I q => ?_⟩
  refine wpAny_AugAssign_AttributeAny (thn (ho.run pins s σ H _ I (tS_bind (rp := rpD (gx X ca T)) (f := fun sl ov s1 => (match getAt ov f s1 with
      | some x => (me sl s1).sbind sl fun y s2 => (augD op x y s2).sbind sl fun d s3 => (setAt c.attr ov f d s3).sbind sl fun _ s4 => .nx sl s4
      | none => .bad)) q)) fun ov s1 ⟨v, H1, I1, rv, sl, d, st, ρ, F, L, hs, hr, hd, q⟩ => ?_)
  unfold getAt at q
  split at q
  rotate_left
  · exact q.elim
  rename_i dx hx
  split at hx
  rotate_left
  · cases hx
  rename_i C l ev
  obtain ⟨a, dy, vs, e1, h1, h2, h3⟩ := hr.viewO hd ev
  obtain ⟨w, g1, g2, g3⟩ := h2.look hx
  subst e1
  obtain rfl : ov = Value.ref a := rv
  refine getattr_ok I1 h1 h3.cls (h3.no _ g3) g1 fun u s2 I2 ru => ?_
  refine thn (he.run pins s2 σ H1 _ I2 ⟨sl, st, ρ, F, L, hs, hr, PQ.bind (rp := rpD (gx X ca T)) hs q⟩) fun w3 s3 ⟨y, H2, I3, ry, q3⟩ => ?_
  obtain ⟨dy', st2, ρ2, F2, _, l2, hs2, hr2, hy, q⟩ := q3
  have ne := augD_ne (op := op) (x := dx) (y := dy') (s := st2)
  cases e2 : augD op dx dy' st2 with
  | err x s3 => rw [e2] at ne; cases ne
  | bad => rw [e2] at q; exact q.elim
  | ok z st3 =>
    rw [e2] at q
    have q : PQ (gx X ca T) L ρ2 F2 W D ((setAt c.attr d f z st3).sbind sl fun _ s4 => .nx sl s4) := q
    refine thn (aug_ip (ca := ca) (T := T) op pins s3 σ H2 w y u w3 (fun zv H3 => ∃ ρ3 F3, Le ρ2 F2 ρ3 F3 ∧ Rel (gx X ca T) L H3 st3 ρ3 F3 ∧ RepD ca X.K ρ3 F3 z zv) I3 ru ry ⟨dx, dy', st2, ρ2, F2, L, RepD.mono l2 _ _ g2, hy, hr2, by rw [e2]; exact fun zv H3 ρ3 F3 l3 r3 p3 => ⟨ρ3, F3, l3, r3, p3⟩⟩) fun w4 s4 ⟨zv, H3, I4, rz, ρ3, F3, l3, r3, p3⟩ => ?_
    refine thn (attr_set (Q := fun _ H' => D.nx σ H') h I4 (show L2.RelV (.ref a) (.ref a) from rfl) rz r3 (RepD.mono l3 _ _ (RepD.mono l2 _ _ hd)) p3 ?_) fun _ s5 ⟨H5, I5, q5⟩ => ⟨σ, H5, I5, q5⟩
    cases e3 : setAt c.attr d f z st3 with
    | ok _ s5 =>
      rw [e3] at q
      exact fun _ H' ρ' F' l' r' _ => q σ H' ρ' F' (l3.trans l') ((hs2.mono l3).mono l') r'
    | err x s5 =>
      exfalso
      unfold setAt at e3
      repeat' (first | (cases e3; done) | split at e3)
    | bad => rw [e3] at q; exact q.elim
/-! ### tuples of targets -/
theorem swapped_eq {env : Env} {sc : Scope} {ts es : List Expr} {k1 k2 : Nat} {p1 p2 : Pos} {o : Option (List Str)} (hs : env.scope = sc) (hk : env.scope.kind = .function) (h : swOf sc ts es = some o) : swappedStores [.Tuple ts k1 p1] (.Tuple es k2 p2) env = pure o := by
  have hb : env.blockKind = .function := by
    unfold Env.blockKind
    rw [hk]
    rfl
  subst hs
  unfold swOf at h
  unfold swappedStores
  simp only [hb]
  split at h
  · rename_i h1
    cases h
    rw [if_pos (by simpa using h1)]
  rename_i h1
  rw [if_neg (by simpa using h1)]
  split at h
  · rename_i h2
    cases h
    exact if_pos h2
  rename_i h2
  refine (if_neg h2).trans ?_
  split at h
  · rename_i h3
    cases h
    exact if_pos h3
  rename_i h3
  refine (if_neg h3).trans ?_
  split at h
  · rename_i h4
    cases h
    exact if_pos h4
  rename_i h4
  refine (if_neg h4).trans ?_
  split at h
  · cases h
  rename_i h5
  refine (if_neg h5).trans ?_
  cases h
  rfl
theorem sbind_bind {α β : Type} {r : R α} {f : α → S → R β} {sl : Sl} {g : β → S → RS} : (r.bind f).sbind sl g = r.sbind sl fun a s => (f a s).sbind sl g := by cases r <;> rfl
theorem setR_len {N : List Str} : ∀ {xs : List Str} {ds : List D} {sl sl' : Sl}, setR N xs ds sl = some sl' → xs.length = ds.length
  | [], [], _, _, _ => rfl
  | [], _ :: _, _, _, h => by cases h
  | _ :: _, [], _, _, h => by cases h
  | x :: xs, d :: ds, sl, sl', h => by
    unfold setR at h
    split at h
    · rename_i sl1 i h1 h2
      rw [List.length_cons, List.length_cons, setR_len h1]
    · cases h
theorem swap_stores (h : Ss c ca T X W sc) {pins : List (Addr × Obj)} {H : Hp} {ρ : List Addr} {F : Hp} {Q : Unit → Shared → Prop} : ∀ (xs : List Str) (ds : List D) (vs : List V) (us : List Value) (sl sl' : Sl) (σ : L2.St) (s : Shared) (rest : List (Value → Sem Unit)) (usr : List Value),
    setR c.N xs ds sl = some sl' → (∀ x ∈ xs, sc.names.lookup x = some .local) → RepL ca X.K ρ F ds vs → Vals vs us → Inv X pins σ H s → SlR (gx X ca T) ρ F sl σ →
    (∀ s' σ', Inv X pins σ' H s' → SlR (gx X ca T) ρ F sl' σ' → wpAny (model X.prog X.w) X.A (assignInOrder rest usr) Q X.xe s') →
    wpAny (model X.prog X.w) X.A (assignInOrder ((xs.reverse.map fun n => bindName X.env n) ++ rest) (us.reverse ++ usr)) Q X.xe s
  | [], [], vs, us, sl, sl', σ, s, rest, usr, e, hl, hv, rv, I, hs, k => by
    cases e
    obtain rfl : vs = [] := hv
    cases rv
    exact k s σ I hs
  | [], _ :: _, vs, us, sl, sl', σ, s, rest, usr, e, hl, hv, rv, I, hs, k => by cases e
  | _ :: _, [], vs, us, sl, sl', σ, s, rest, usr, e, hl, hv, rv, I, hs, k => by cases e
  | x :: xs, d :: ds, _, us, sl, sl', σ, s, rest, usr, e, hl, ⟨v, vs, ev, hd, hv⟩, rv, I, hs, k => by
    subst ev
    cases rv with
    | @cons _ u _ us' ru rv =>
      unfold setR at e
      split at e
      · rename_i sl1 i h1 h2
        cases e
        have hx := hl x (List.mem_cons_self ..)
        rw [List.reverse_cons, List.map_append, List.append_assoc, List.reverse_cons, List.append_assoc]
        refine swap_stores h xs ds vs us' sl sl1 σ s _ _ h1 (fun y hy => hl y (List.mem_cons_of_mem _ hy)) hv rv I hs fun s' σ' I' hs' => ?_
        refine assignInOrder_cons (wpAny_bindName (store_ok I' h.nd (by rw [h.N]; exact ixN_at h2) (.inl (by rw [h.scp]; exact hx)) ru (fun s2 I2 => ?_) (.inr (by rw [h.scp]; exact hx))))
        exact k s2 _ I2 (hs'.set i hd)
      · cases e
theorem swNames_local {sc : Scope} {ts : List Expr} : ∀ x ∈ swNames sc ts, sc.names.lookup x = some .local := fun x hx => by
  unfold swNames at hx
  obtain ⟨t, _, e⟩ := List.mem_filterMap.mp hx
  split at e
  · split at e
    · rename_i hc
      cases e
      rw [Bool.and_eq_true] at hc
      exact beq_iff_eq.mp hc.1
    · cases e
  · cases e
theorem swOf_some {sc : Scope} {ts es : List Expr} {xs : List Str} (ho : swOf sc ts es = some (some xs)) : xs = swNames sc ts ∧ xs.length ≤ 3 := by
  unfold swOf at ho
  split at ho
  · cases ho
  rename_i h1
  split at ho
  · cases ho
  split at ho
  · cases ho
  rename_i h3
  split at ho
  · cases ho
  split at ho
  · cases ho
  cases ho
  refine ⟨rfl, ?_⟩
  simp at h1 h3
  omega
theorem as_tup (h : Ss c ca T X W sc) {p : Ev} (he : ∀ e, PE X e (tE (gx X ca T) W (p.e sc e))) {ts es : List Expr} {k1 k2 : Nat} {p1 p2 : Pos} : PS X (.Assign [.Tuple ts k1 p1] (.Tuple es k2 p2) pos) (tS (gx X ca T) W (tupS c p sc ts es)) := by
  unfold tupS
  by_cases hc : es.any starB = true ∨ ts.any starB = true ∨ 1000 < es.length
  · rw [if_pos hc]
    exact as_bad
  rw [if_neg hc]
  rw [not_or, not_or] at hc
  have hn : es.any starB = false := by simpa using hc.1
  have hnt : ts.any starB = false := by simpa using hc.2.1
  cases ho : swOf sc ts es with
  | none => exact as_bad
  | some o =>
    have hw := swapped_eq (k1 := k1) (k2 := k2) (p1 := p1) (p2 := p2) h.scp h.kind ho
    cases o with
    | none =>
      refine (as_asg (pos := pos) (ae_tuple (f := p.e sc) (k := k2) (pos := p2) he hn (Nat.le_of_not_lt hc.2.2)) (ag_tup (k := k1) (pos := p1) h.calm (ag_ev h he 4) hnt) rfl hw rfl).weak fun D σ H ⟨sl, s, ρ, F, L, hs, hr, hp⟩ => ⟨sl, s, ρ, F, L, hs, hr, ?_⟩
      dsimp only
      rw [sbind_bind]
      exact hp
    | some xs =>
      refine ⟨fun pins s σ H D I q => ?_⟩
      rw [exec_Assign_arm]
      refine wpAny_bind (wpAny_standAt ?_)
      rw [show swapsWithSole [.Tuple ts k1 p1] (.Tuple es k2 p2) pos.line X.env = pure false from rfl]
      refine wpAny_bind (wpAny_pure ?_)
      rw [if_neg (by decide)]
      refine wpAny_bind (Tuple_ (thn ((aa_many (ca := ca) (T := T) he hn).run _ pins s σ H _ I (tS_bind (rp := rpL (gx X ca T)) (f := fun sl ds s1 => (match setR c.N xs ds sl with
        | some sl1 => .nx sl1 s1
        | none => .bad)) q)) fun us s1 ⟨vs, H1, I1, r1, sl, ds, st, ρ, F, L, hs, hr, hd, q1⟩ => ?_))
      have e1 := RepL.length (G := gx X ca T) hd
      have e2 := Vals.length r1
      cases hset : setR c.N xs ds sl with
      | none => rw [hset] at q1; exact q1.elim
      | some sl1 =>
        rw [hset] at q1
        have hlx := setR_len hset
        have hlen : us.length ≤ sizeLine := by
          have := (swOf_some ho).2
          have : us.length ≤ 3 := by omega
          exact Nat.le_trans this (by decide)
        refine wpAny_newObj_type ?_ (by show us.toArray.size ≤ sizeLine; rw [List.size_toArray]; exact hlen)
        have I2 : Inv X pins σ H1 { s1 with heap := s1.heap.push { cls := .type "tuple", data := .seq us.toArray } } := I1.kept (t' := s1.toks) fun b o e => Heap.get?_push_of_some _ e
        rw [hw]
        refine wpAny_bind (wpAny_pure ?_)
        show wpAny (model X.prog X.w) X.A (do rule "assign.swapped-stores"; let items ← unpackItems (.ref s1.heap.objs.size) xs.length none; assignInOrder (xs.reverse.map fun n => bindName X.env n) items.reverse; pure Flow.next) _ _ _
        have el : xs.length = us.toArray.size := by rw [List.size_toArray, hlx, e1, e2]
        rw [el]
        refine wpAny_bind (wpAny_rule (wpAny_bind (unpackItems_tuple (items := us.toArray) (I.ok.hd h.calm) (IsTup.new s1.heap _) fun h' hx' => ?_)))
        have I3 := I2.kept (h' := h') (t' := s1.toks) fun b o e => hx' b o (Nat.ne_of_lt (Heap.lt_size e)) e
        refine wpAny_bind ?_
        have hloc : ∀ x ∈ xs, sc.names.lookup x = some .local := by
          rw [(swOf_some ho).1]
          exact swNames_local
        have := swap_stores (Q := fun _ s' => wpAny (model X.prog X.w) X.A (pure Flow.next) (SP X pins D) X.xe s') h xs ds vs us sl sl1 σ _ [] [] hset hloc hd r1 I3 hs fun s' σ' I' hs' => assignInOrder_nil (wpAny_pure ⟨σ', H1, I', q1 σ' H1 ρ F (.refl ρ F) hs' hr⟩)
        rw [List.append_nil, List.append_nil] at this
        exact this
end
end AL
set_option Elab.async false
set_option linter.all false
set_option maxRecDepth 100000
set_option maxHeartbeats 4000000
/-! AL20: while; walks; for. -/
namespace AL
open PySem PySem.Spec PyProof.Rows L2
section
variable {c : Cfg} {ca : Str → Addr} {T : List (Addr × Str)} {X : Cx} {W : WX} {sc : Scope} {pos : Pos}
theorem PQ.loop {G : Env1} {L : Hp} {ρ : List Addr} {F : Hp} {D : Ends} {N : L2.St → Hp → Prop} {r : RS} {k : Sl → S → RS} (h : PQ G L ρ F W D (match r with
      | .nx sl2 s2 => k sl2 s2
      | .ct sl2 s2 => k sl2 s2
      | .bk sl2 s2 => .nx sl2 s2
      | r => r)) (hk : ∀ sl2 s2 σ' H' ρ' F', Le ρ F ρ' F' → SlR G ρ' F' sl2 σ' → Rel G L H' s2 ρ' F' → PQ G L ρ' F' W D (k sl2 s2) → N σ' H') : PQ G L ρ F W { D with nx := N, ct := N, bk := D.nx } r := by
  cases r with
  | nx sl2 s2 => exact fun σ' H' ρ' F' l' hs hr => hk sl2 s2 σ' H' ρ' F' l' hs hr (h.le l')
  | ct sl2 s2 => exact fun σ' H' ρ' F' l' hs hr => hk sl2 s2 σ' H' ρ' F' l' hs hr (h.le l')
  | bk sl2 s2 => exact h
  | rt d s2 => exact h
  | er x sl2 s2 => exact h
  | bad => exact h
theorem as_while (h : Ss c ca T X W sc) {t : Expr} {body : List Stmt} {mt : MT} {mb : MS} (ht : PT X t (tT (gx X ca T) W mt)) (hb : PSs X body (tS (gx X ca T) W mb)) (n : Nat) : PS X (.While t body [] pos) (tS (gx X ca T) W (whileL mt mb n)) :=
  (ps_while h.po ht hb).weak fun D σ H q => by
    refine ⟨fun m σ H => tS (gx X ca T) W (whileL mt mb m) D σ H, ⟨n, q⟩, fun m σ H q => ?_⟩
    cases m with
    | zero =>
      obtain ⟨sl, s, ρ, F, L, hs, hr, hp⟩ := q
      exact hp.elim
    | succ m =>
      obtain ⟨sl, s, ρ, F, L, hs, hr, hp⟩ := tS_bind (rp := rpB) (m := mt) (f := fun sl b s1 => if b = true then (match mb sl s1 with
        | .nx sl2 s2 => whileL mt mb m sl2 s2
        | .ct sl2 s2 => whileL mt mb m sl2 s2
        | .bk sl2 s2 => .nx sl2 s2
        | r => r) else .nx sl s1) q
      refine ⟨sl, s, ρ, F, L, hs, hr, hp.imp (.refl ρ F) fun _ _ _ b H1 _ _ _ _ _ q => ?_⟩
      obtain ⟨sl, b', s', ρ, F, L, h1, h2, h3, h4⟩ := q
      have h3 : b' = b := h3
      subst h3
      cases b' with
      | true =>
        rw [if_pos rfl] at h4 ⊢
        exact ⟨fun σ H => tS (gx X ca T) W (whileL mt mb m) D σ H, fun σ' H' q => ⟨m, Nat.lt_succ_self m, q⟩, sl, s', ρ, F, L, h1, h2, PQ.loop (k := fun sl2 s2 => whileL mt mb m sl2 s2) h4 fun sl2 s2 σ' H' ρ' F' l' hs' hr' q => ⟨sl2, s2, ρ', F', L, hs', hr', q⟩⟩
      | false =>
        rw [if_neg (by simp)] at h4 ⊢
        exact h4 σ H1 ρ F (.refl ρ F) h1 h2
/-! ### walks -/
/-- more is kept -/
abbrev ExL (L L2 : Hp) : Prop := ∀ a u, L a = some u → L2 a = some u
/-- J gives the items -/
structure Wk (G : Env1) (L : Hp) (ρ0 : List Addr) (F0 : Hp) (items : List D) (J : It) : Prop where
  go : ∀ (i : Nat) (H : Hp) (s : S) (ρ : List Addr) (F L2 : Hp), ExL L L2 → i < items.length → Le ρ0 F0 ρ F → Rel G L2 H s ρ F → J.go i H
  yld : ∀ (i : Nat) (H : Hp) (s : S) (ρ : List Addr) (F L2 : Hp) (x : V) (H' : Hp), ExL L L2 → i < items.length → Le ρ0 F0 ρ F → Rel G L2 H s ρ F → J.yld i H x H' → ∃ d F', items[i]? = some d ∧ Le ρ F ρ F' ∧ Rel G L2 H' s ρ F' ∧ RepD G.ca G.K ρ F' d x
  stop : ∀ (H : Hp) (s : S) (ρ : List Addr) (F L2 : Hp), ExL L L2 → Le ρ0 F0 ρ F → Rel G L2 H s ρ F → J.stop items.length H
/-- what was locked goes free -/
def UnO (X : Cx) (P : Hp → Prop) (H : Hp) : Prop := P H ∨ ∃ d od u, H d = some (.frz od u) ∧ (∀ o' u', X.H_0 d ≠ some (.frz o' u')) ∧ P (upd H d u)
def _root_.L2.Ends.un (X : Cx) (D : Ends) : Ends where
  nx := fun σ => UnO X (D.nx σ)
  rt := fun v => UnO X (D.rt v)
  bk := fun σ => UnO X (D.bk σ)
  ct := fun σ => UnO X (D.ct σ)
theorem UnO.inv {X : Cx} {pins : List (Addr × Obj)} {σ : L2.St} {H : Hp} {s : Shared} {P : Hp → Prop} (I : Inv X pins σ H s) (q : UnO X P H) : ∃ H', Inv X pins σ H' s ∧ P H' := by
  rcases q with q | ⟨d, od, u, e, hn, q⟩
  · exact ⟨H, I, q⟩
  · exact ⟨_, I.unlock e hn, q⟩
theorem _root_.L2.PS.unO {X : Cx} {st : Stmt} {t : TS} (h : PS X st t) : PS X st (fun D σ H => t (D.un X) σ H) := ⟨fun pins s σ H D I q => thn (h.run pins s σ H (D.un X) I q) fun f s1 q => by
  cases f with
  | next => obtain ⟨σ', H', I2, q⟩ := q; obtain ⟨H2, I3, q⟩ := q.inv I2; exact ⟨σ', H2, I3, q⟩
  | brk => obtain ⟨σ', H', I2, q⟩ := q; obtain ⟨H2, I3, q⟩ := q.inv I2; exact ⟨σ', H2, I3, q⟩
  | cont => obtain ⟨σ', H', I2, q⟩ := q; obtain ⟨H2, I3, q⟩ := q.inv I2; exact ⟨σ', H2, I3, q⟩
  | ret v => obtain ⟨x, σ', H', I2, r, q⟩ := q; obtain ⟨H2, I3, q⟩ := q.inv I2; exact ⟨x, σ', H2, I3, r, q⟩⟩
theorem _root_.L2.PE.unO {X : Cx} {e : Expr} {t : TE} (h : PE X e t) : PE X e (fun σ H Q => t σ H fun v => UnO X (Q v)) := ⟨fun pins s σ H Q I q => thn (h.run pins s σ H _ I q) fun u s1 ⟨v, H', I2, r, q⟩ => by
  obtain ⟨H2, I3, q⟩ := q.inv I2
  exact ⟨v, H2, I3, r, q⟩⟩
/-- from the walked state back -/
structure Unl (X : Cx) (G : Env1) (L L' : Hp) (ρ0 : List Addr) (F0 : Hp) (s1 s2 : S) (U : Hp → Hp) : Prop where
  back : ∀ (H : Hp) (s : S) (ρ : List Addr) (F : Hp), Le ρ0 F0 ρ F → Rel G L' H s ρ F → s.lk = s2.lk → Rel G L (U H) { s with lk := s1.lk } ρ F
  can : (∀ H, U H = H) ∨ dkL s1 s2 = true ∧ ∃ d od u, (∀ H, U H = upd H d u) ∧ L' d = some (.frz od u) ∧ ∀ o' u', X.H_0 d ≠ some (.frz o' u')
  ex : ExL L L'
theorem Unl.un {X : Cx} {G : Env1} {L L' : Hp} {ρ0 ρ : List Addr} {F0 F H : Hp} {s1 s2 s : S} {U : Hp → Hp} (u : Unl X G L L' ρ0 F0 s1 s2 U) (r : Rel G L' H s ρ F) {P : Hp → Prop} (q : P (U H)) : UnO X P H := by
  rcases u.can with e | ⟨_, d, od, v, e1, e2, e3⟩
  · rw [e] at q
    exact .inl q
  · rw [e1] at q
    exact .inr ⟨d, od, v, (r.lkd d _ e2).1, e3, q⟩
theorem Unl.at_ {X : Cx} {G : Env1} {L L' : Hp} {ρ0 : List Addr} {F0 : Hp} {s1 s2 : S} {U : Hp → Hp} (u : Unl X G L L' ρ0 F0 s1 s2 U) {p : Addr} (h : L' p = none) (H : Hp) : U H p = H p := by
  rcases u.can with e | ⟨_, d, od, v, e1, e2, e3⟩
  · rw [e]
  · rw [e1, upd_ne]
    intro z
    rw [z, e2] at h
    cases h
/-- a walk's reading -/
def PI_ (X : Cx) (G : Env1) (L : Hp) (ρ : List Addr) (F : Hp) (W : WX) (σ : L2.St) (R' : It → Hp → Prop) : R (List D × S) → Prop
  | .ok ls s1 => ∀ (J : It) (H' : Hp) (ρ' : List Addr) (F' L' : Hp) (U : Hp → Hp), Le ρ F ρ' F' → Rel G L' H' ls.2 ρ' F' → Wk G L' ρ' F' ls.1 J → Unl X G L L' ρ' F' s1 ls.2 U → ls.1.length ≤ sizeLine → R' J H'
  | .err x s' => ∀ c d H' ρ' F', Le ρ F ρ' F' → Rel G L H' s' ρ' F' → ErrR G ρ' F' x c d H' → W c d σ H'
  | .bad => False
def tI (X : Cx) (G : Env1) (W : WX) (m : Sl → S → R (List D × S)) : TI := fun σ H R' => ∃ sl s ρ F L, SlR G ρ F sl σ ∧ Rel G L H s ρ F ∧ PI_ X G L ρ F W σ R' (m sl s)
/-- behind the walk -/
theorem PQ.unl {X : Cx} {G : Env1} {L L' : Hp} {ρ : List Addr} {F : Hp} {D : Ends} {s1 s2 : S} {r : RS} {U : Hp → Hp} (h : PQ G L ρ F W D (unlkS s1 s2 r)) (u : Unl X G L L' ρ F s1 s2 U) : PQ G L' ρ F W (D.un X) r := by
  cases r with
  | nx sl s =>
    have h : PQ G L ρ F W D (if s.lk = s2.lk then .nx sl { s with lk := s1.lk } else .bad) := h
    by_cases e : s.lk = s2.lk
    · rw [if_pos e] at h
      exact fun σ' H' ρ' F' l' hs hr => u.un hr (h σ' (U H') ρ' F' l' hs (u.back _ _ _ _ l' hr e))
    · rw [if_neg e] at h
      exact h.elim
  | bk sl s =>
    have h : PQ G L ρ F W D (if s.lk = s2.lk then .bk sl { s with lk := s1.lk } else .bad) := h
    by_cases e : s.lk = s2.lk
    · rw [if_pos e] at h
      exact fun σ' H' ρ' F' l' hs hr => u.un hr (h σ' (U H') ρ' F' l' hs (u.back _ _ _ _ l' hr e))
    · rw [if_neg e] at h
      exact h.elim
  | ct sl s =>
    have h : PQ G L ρ F W D (if s.lk = s2.lk then .ct sl { s with lk := s1.lk } else .bad) := h
    by_cases e : s.lk = s2.lk
    · rw [if_pos e] at h
      exact fun σ' H' ρ' F' l' hs hr => u.un hr (h σ' (U H') ρ' F' l' hs (u.back _ _ _ _ l' hr e))
    · rw [if_neg e] at h
      exact h.elim
  | rt d s =>
    have h : PQ G L ρ F W D (if s.lk = s2.lk then .rt d { s with lk := s1.lk } else .bad) := h
    by_cases e : s.lk = s2.lk
    · rw [if_pos e] at h
      exact fun v H' ρ' F' l' hr hd => u.un hr (h v (U H') ρ' F' l' (u.back _ _ _ _ l' hr e) hd)
    · rw [if_neg e] at h
      exact h.elim
  | er x sl s =>
    have h : PQ G L ρ F W D (if s.lk = s2.lk ∧ dkL s1 s2 = false then .er x sl { s with lk := s1.lk } else .bad) := h
    by_cases e : s.lk = s2.lk ∧ dkL s1 s2 = false
    · rw [if_pos e] at h
      rcases u.can with z | ⟨z, _⟩
      · exact fun cc d σ' H' ρ' F' l' hs hr hx => h cc d σ' H' ρ' F' l' hs (by have := u.back _ _ _ _ l' hr e.1; rw [z] at this; exact this) hx
      · rw [z] at e
        cases e.2
    · rw [if_neg e] at h
      exact h.elim
  | bad => exact h.elim
theorem as_for (h : Ss c ca T X W sc) {tg iter : Expr} {body : List Stmt} {mi : Sl → S → R (List D × S)} {g : MG} {mb : MS} (hi : PI X tg iter (tI X (gx X ca T) W mi)) (hg : PG X tg (tG (gx X ca T) g)) (hb : PSs X body (tS (gx X ca T) W mb)) (hset : setB iter = false) :
    PS X (.For tg iter body [] pos) (tS (gx X ca T) W fun sl s => (mi sl s).sbind sl fun ls s1 => unlkS s1 ls.2 (forL (fun d sl s => (g d sl s).noErr) mb ls.1 sl ls.2)) :=
  (ps_for h.po h.calm hi hg hb (by intro x; cases iter <;> first | rfl | cases hset)).unO.weak fun D σ H ⟨sl, s, ρ, F, L, hs, hr, hp⟩ => by
    refine ⟨sl, s, ρ, F, L, hs, hr, ?_⟩
    dsimp only at hp
    cases e : mi sl s with
    | err x s' =>
      rw [e] at hp
      exact fun cc d H' ρ' F' l' hr' hx => hp cc d σ H' ρ' F' l' (hs.mono l') hr' hx
    | bad => rw [e] at hp; exact hp.elim
    | ok ls s1 =>
      rw [e] at hp
      intro J H1 ρ1 F1 L1 U l1 r1 wk un _
      have hp : PQ (gx X ca T) L ρ F W D (unlkS s1 ls.2 (forL (fun d sl s => (g d sl s).noErr) mb ls.1 sl ls.2)) := hp
      have hq := (hp.le l1).unl un
      refine ⟨fun i m σ H => ∃ sl s ρ F, i ≤ ls.1.length ∧ m = ls.1.length - i ∧ SlR (gx X ca T) ρ F sl σ ∧ Rel (gx X ca T) L1 H s ρ F ∧ Le ρ1 F1 ρ F ∧ PQ (gx X ca T) L1 ρ F W (D.un X) (forL (fun d sl s => (g d sl s).noErr) mb (ls.1.drop i) sl s),
        ⟨ls.1.length, sl, ls.2, ρ1, F1, Nat.zero_le _, rfl, hs.mono l1, r1, .refl _ _, hq⟩, ?_⟩
      rintro i m σ H ⟨sl, s, ρ, F, hle, rfl, hs, hr, l, q⟩
      by_cases hlt : i < ls.1.length
      · refine .inr ⟨wk.go i H s ρ F L1 (fun _ _ z => z) hlt l hr, fun σ' H' => ∃ sl s ρ F, i + 1 ≤ ls.1.length ∧ SlR (gx X ca T) ρ F sl σ' ∧ Rel (gx X ca T) L1 H' s ρ F ∧ Le ρ1 F1 ρ F ∧ PQ (gx X ca T) L1 ρ F W (D.un X) (forL (fun d sl s => (g d sl s).noErr) mb (ls.1.drop (i + 1)) sl s),
          fun σ' H' ⟨sl, s, ρ, F, h1, h2, h3, h4, h5⟩ => ⟨ls.1.length - (i + 1), by omega, sl, s, ρ, F, h1, rfl, h2, h3, h4, h5⟩, fun x H' hy => ?_⟩
        obtain ⟨d, F2, hd, l2, r2, rd⟩ := wk.yld i H s ρ F L1 x H' (fun _ _ z => z) hlt l hr hy
        have ed : ls.1.drop i = d :: ls.1.drop (i + 1) := by
          rw [List.drop_eq_getElem_cons hlt]
          rw [List.getElem?_eq_getElem hlt] at hd
          cases hd
          rfl
        rw [ed] at q
        have q := q.le l2
        have q : PQ (gx X ca T) L1 ρ F2 W (D.un X) ((g d sl s).noErr.sbind sl fun sl1 s1 => match mb sl1 s1 with
          | .nx sl2 s2 => forL (fun d sl s => (g d sl s).noErr) mb (ls.1.drop (i + 1)) sl2 s2
          | .ct sl2 s2 => forL (fun d sl s => (g d sl s).noErr) mb (ls.1.drop (i + 1)) sl2 s2
          | .bk sl2 s2 => .nx sl2 s2
          | r => r) := q
        refine ⟨d, sl, s, ρ, F2, L1, rd, hs.mono l2, r2, ?_⟩
        cases eg : g d sl s with
        | err x s' => rw [eg] at q; exact q.elim
        | bad => rw [eg] at q; exact q.elim
        | ok sl1 s1' =>
          rw [eg] at q
          intro σ2 H2 ρ3 F3 l3 r3 hs3
          have q := PQ.le (W := W) q l3
          exact ⟨sl1, s1', ρ3, F3, L1, hs3, r3, PQ.loop (k := fun sl2 s2 => forL (fun d sl s => (g d sl s).noErr) mb (ls.1.drop (i + 1)) sl2 s2) q fun sl2 s2 σ' H' ρ' F' l' hs' hr' q => ⟨sl2, s2, ρ', F', hlt, hs', hr', ((l.trans l2).trans l3).trans l', q⟩⟩
      · have e : i = ls.1.length := by omega
        subst e
        refine .inl ⟨wk.stop H s ρ F L1 (fun _ _ z => z) l hr, ?_⟩
        rw [List.drop_length] at q
        exact q σ H ρ F (.refl ρ F) hs hr
end
end AL
set_option Elab.async false
set_option linter.all false
set_option maxRecDepth 100000
set_option maxHeartbeats 4000000
/-! AL21: what may be walked. -/
namespace AL
open PySem PySem.Spec PyProof.Rows L2
section
variable {c : Cfg} {ca : Str → Addr} {T : List (Addr × Str)} {X : Cx} {W : WX} {sc : Scope} {pos : Pos} {G : Env1} {L H : Hp} {s : S} {ρ : List Addr} {F : Hp}
/-- a list that stays as it is -/
theorem wk_list {L' : Hp} {a : Addr} {l : List D} {vs : List V} (hl : RepL G.ca G.K ρ F l vs) (hrd : ∀ H s ρ1 F1 L2, ExL L' L2 → Le ρ F ρ1 F1 → Rel G L2 H s ρ1 F1 → SqL G.K H a vs) : Wk G L' ρ F l (Itl G.K a) where
  go := fun i H s ρ1 F1 L2 ex hi l1 r => by
    obtain ⟨v, hv, _⟩ := hl.get (List.getElem?_eq_getElem hi)
    exact ⟨vs, v, hrd H s ρ1 F1 L2 ex l1 r, hv⟩
  yld := fun i H s ρ1 F1 L2 x H' ex hi l1 r ⟨e, h⟩ => by
    subst e
    obtain ⟨v, hv, rv⟩ := hl.get (List.getElem?_eq_getElem hi)
    have := h vs (hrd _ s ρ1 F1 L2 ex l1 r)
    rw [hv] at this
    cases this
    exact ⟨_, F1, List.getElem?_eq_getElem hi, .refl _ _, r, RepD.mono l1 _ _ rv⟩
  stop := fun H s ρ1 F1 L2 ex l1 r => ⟨vs, hrd H s ρ1 F1 L2 ex l1 r, by rw [hl.length]; exact Nat.le_refl _⟩
theorem wk_tup {L' : Hp} {a : Addr} {l : List D} {vs : List V} (hl : RepL G.ca G.K ρ F l vs) (hrd : ∀ H s ρ1 F1 L2, ExL L' L2 → Le ρ F ρ1 F1 → Rel G L2 H s ρ1 F1 → SqT G.K H a vs) : Wk G L' ρ F l (Itt G.K a) where
  go := fun i H s ρ1 F1 L2 ex hi l1 r => by
    obtain ⟨v, hv, _⟩ := hl.get (List.getElem?_eq_getElem hi)
    exact ⟨vs, v, hrd H s ρ1 F1 L2 ex l1 r, hv⟩
  yld := fun i H s ρ1 F1 L2 x H' ex hi l1 r ⟨e, h⟩ => by
    subst e
    obtain ⟨v, hv, rv⟩ := hl.get (List.getElem?_eq_getElem hi)
    have := h vs (hrd _ s ρ1 F1 L2 ex l1 r)
    rw [hv] at this
    cases this
    exact ⟨_, F1, List.getElem?_eq_getElem hi, .refl _ _, r, RepD.mono l1 _ _ rv⟩
  stop := fun H s ρ1 F1 L2 ex l1 r => ⟨vs, hrd H s ρ1 F1 L2 ex l1 r, by rw [hl.length]; exact Nat.le_refl _⟩
theorem chars_at {x : Str} {i : Nat} {ch : Nat} (h : x.cps[i]? = some ch) : (chars x)[i]? = some (.str ⟨#[ch]⟩) := by
  unfold chars
  rw [List.getElem?_map, Array.getElem?_toList, h]
  rfl
theorem chars_len {x : Str} : (chars x).length = x.cps.size := by
  unfold chars
  rw [List.length_map, Array.length_toList]
theorem wk_str {L' : Hp} {x : Str} : Wk G L' ρ F (chars x) (Its x) where
  go := fun i H s ρ1 F1 L2 ex hi l1 r => by
    rw [chars_len] at hi
    exact hi
  yld := fun i H s ρ1 F1 L2 v H' ex hi l1 r ⟨e, ch, hc, ev⟩ => by
    subst e ev
    exact ⟨_, F1, chars_at hc, .refl _ _, r, rfl, by show 1 ≤ sizeLine; decide⟩
  stop := fun H s ρ1 F1 L2 ex l1 r => by
    rw [chars_len]
    exact Nat.le_refl _
theorem upL_at : ∀ (n : Nat) (lo : Int) (i : Nat), i < n → (upL lo n)[i]? = some (.int (lo + i))
  | n + 1, lo, 0, _ => by
    show some (D.int lo) = _
    simp
  | n + 1, lo, i + 1, h => by
    show (upL (lo + 1) n)[i]? = _
    rw [upL_at n (lo + 1) i (by omega)]
    congr 2
    omega
theorem upL_len : ∀ (n : Nat) (lo : Int), (upL lo n).length = n
  | 0, _ => rfl
  | n + 1, lo => by
    show (upL (lo + 1) n).length + 1 = n + 1
    rw [upL_len n]
theorem wk_rng {L' : Hp} {lo : Int} {n : Nat} : Wk G L' ρ F (upL lo n) (Itr lo n) where
  go := fun i H s ρ1 F1 L2 ex hi l1 r => by
    rw [upL_len] at hi
    exact hi
  yld := fun i H s ρ1 F1 L2 v H' ex hi l1 r ⟨e, ev⟩ => by
    rw [upL_len] at hi
    subst e ev
    exact ⟨_, F1, upL_at n lo i hi, .refl _ _, r, rfl⟩
  stop := fun H s ρ1 F1 L2 ex l1 r => by
    rw [upL_len]
    exact Nat.le_refl _
theorem Unl.refl {s1 : S} : Unl X G L L ρ F s1 s1 _root_.id := ⟨fun H s ρ1 F1 l r e => by
  have : ({ s with lk := s1.lk } : S) = s := by rw [← e]
  rw [this]
  exact r, .inl fun _ => rfl, fun _ _ z => z⟩
theorem ExL.new {L : Hp} {a : Addr} {o : HO} (h : L a = none) : ExL L (upd L a o) := fun b u z => by
  rw [upd_ne (fun y => by rw [y, h] at z; cases z)]
  exact z
theorem _root_.AL.CellR.lockTo {ca : Str → Addr} {K : PySem.W.Frag} {L L' : Hp} {lk : Bool} {a : Addr} {q : Cell} (g : CellR ca K ρ F L H lk a q) (e : L' a = L a) : CellR ca K ρ F L' H lk a q := by
  have rd : ∀ u, Rd L a u → Rd L' a u := fun u h => h.imp (fun h => e.trans h) fun ⟨o, h⟩ => ⟨o, e.trans h⟩
  cases q with
  | lst x =>
    obtain ⟨vs, h1, h2⟩ := g
    refine ⟨vs, ?_, h2⟩
    cases lk with
    | true => exact rd _ h1
    | false => exact h1
  | dk x =>
    obtain ⟨vs, h1, h2⟩ := g
    refine ⟨vs, ?_, h2⟩
    cases lk with
    | true => exact rd _ h1
    | false => exact h1
  | dt x =>
    obtain ⟨vs, h1, h2⟩ := g
    refine ⟨vs, ?_, h2⟩
    cases lk with
    | true => exact rd _ h1
    | false => exact h1
  | ins C x => exact g
theorem _root_.AL.CellR.unlockTo {ca : Str → Addr} {K : PySem.W.Frag} {L L' : Hp} {a : Addr} {q : Cell} {vs : List V} (g : CellR ca K ρ F L' H true a q) (hH : H a = some (.lst vs)) (e : L' a = some (.lst vs)) : CellR ca K ρ F L H false a q := by
  have rd : ∀ u, Rd L' a u → H a = some u := fun u h => by
    rcases h with h | ⟨o, h⟩
    · rw [e] at h
      cases h
      exact hH
    · rw [e] at h
      cases h
  cases q with
  | lst x =>
    obtain ⟨ws, h1, h2⟩ := g
    exact ⟨ws, rd _ h1, h2⟩
  | dk x =>
    obtain ⟨ws, h1, h2⟩ := g
    exact ⟨ws, rd _ h1, h2⟩
  | dt x =>
    obtain ⟨ws, h1, h2⟩ := g
    exact ⟨ws, rd _ h1, h2⟩
  | ins C x => exact g
/-- a list's cell under a lock -/
theorem Rel.lock (r : Rel G L H s ρ F) {i : Nat} {a : Addr} {l : List D} (ha : ρ[i]? = some a) (e : s.st[i]? = some (.lst l)) : ∃ L' vs, Rel G L' H (lockS i s) ρ F ∧ Unl X G L L' ρ F s (lockS i s) _root_.id ∧ RepL G.ca G.K ρ F l vs ∧ Rd L' a (.lst vs) := by
  obtain ⟨vs, h1, h2⟩ := r.cell i _ a e ha
  unfold lockS
  cases hk : s.lk.contains i with
  | true =>
    rw [hk] at h1
    exact ⟨L, vs, r, .refl, h2, h1⟩
  | false =>
    rw [hk] at h1
    have h1 : H a = some (.lst vs) := h1
    have hm : a ∈ ρ := List.mem_of_getElem? ha
    have hLa : L a = none := by
      cases q : L a with
      | none => rfl
      | some u =>
        have := ((r.lkd a u q).2 i ha).1
        rw [hk] at this
        cases this
    have hlt : i < s.st.length := (List.getElem?_eq_some_iff.mp e).1
    have con : ∀ j, (i :: s.lk).contains j = (decide (j = i) || s.lk.contains j) := fun j => by
      rw [List.contains_cons]
      congr 1
    refine ⟨upd L a (.lst vs), vs, ?_, ⟨?_, .inl fun _ => rfl, ExL.new hLa⟩, h2, .inl upd_same⟩
    · refine ⟨r.len, r.nd, fun b u q => ?_, fun b u q => ?_, fun j q b e1 e2 => ?_, r.there, r.tabs, fun j hj => ?_, r.bsl, r.disc, r.ntF, nt_upd r.ntL (fun ps z => by cases z)⟩
      · obtain ⟨g1, g2, g3⟩ := r.frz b u q
        have hne : b ≠ a := fun z => g2 (z ▸ hm)
        exact ⟨g1, g2, by rw [upd_ne hne]; exact g3⟩
      · by_cases hb : b = a
        · subst hb
          rw [upd_same] at q
          cases q
          refine ⟨h1, fun j hj => ?_⟩
          rw [rho_inj r.nd hj ha]
          refine ⟨?_, rfl⟩
          show (i :: s.lk).contains i = true
          rw [con]
          simp
        · rw [upd_ne hb] at q
          obtain ⟨g1, g2⟩ := r.lkd b u q
          refine ⟨g1, fun j hj => ?_⟩
          refine ⟨?_, (g2 j hj).2⟩
          show (i :: s.lk).contains j = true
          rw [con, (g2 j hj).1]
          simp
      · have g := r.cell j q b e1 e2
        show CellR _ _ _ _ _ _ ((i :: s.lk).contains j) _ _
        by_cases hj : j = i
        · subst hj
          rw [ha] at e2
          cases e2
          have e1 : s.st[j]? = some q := e1
          rw [e] at e1
          cases e1
          rw [con]
          simp only [decide_true, Bool.true_or]
          exact ⟨vs, .inl upd_same, h2⟩
        · have hne : b ≠ a := fun z => hj (rho_inj r.nd (z ▸ e2) ha)
          have : (i :: s.lk).contains j = s.lk.contains j := by
            rw [con]
            simp [hj]
          rw [this]
          exact g.lockTo (by rw [upd_ne hne])
      · have hj : (i :: s.lk).contains j = true := hj
        rw [con, Bool.or_eq_true] at hj
        rcases hj with hj | hj
        · have := of_decide_eq_true hj
          subst this
          exact hlt
        · exact r.lkb j hj
    · intro H1 s1 ρ1 F1 l1 r1 elk
      have elk : s1.lk = i :: s.lk := elk
      have ha1 : ρ1[i]? = some a := l1.pre i a ha
      have hm1 : a ∈ ρ1 := List.mem_of_getElem? ha1
      refine ⟨r1.len, r1.nd, fun b u q => ?_, fun b u q => ?_, fun j q b e1 e2 => ?_, r1.there, r1.tabs, fun j hj => ?_, r1.bsl, r1.disc, r1.ntF, fun b ps e => by
        by_cases hb : b = a
        · rw [hb, hLa] at e
          cases e
        · exact r1.ntL b ps (by rw [upd_ne hb]; exact e)⟩
      · obtain ⟨g1, g2, g3⟩ := r1.frz b u q
        have hne : b ≠ a := fun z => g2 (z ▸ hm1)
        exact ⟨g1, g2, by rw [upd_ne hne] at g3; exact g3⟩
      · have hne : b ≠ a := fun z => by
          rw [z, hLa] at q
          cases q
        obtain ⟨g1, g2⟩ := r1.lkd b u (by rw [upd_ne hne]; exact q)
        refine ⟨g1, fun j hj => ?_⟩
        have hji : j ≠ i := fun z => by
          subst z
          rw [ha1] at hj
          cases hj
          exact hne rfl
        have := (g2 j hj).1
        rw [elk, con] at this
        exact ⟨by simpa [hji] using this, (g2 j hj).2⟩
      · have g := r1.cell j q b e1 e2
        rw [elk] at g
        show CellR _ _ _ _ _ _ (s.lk.contains j) _ _
        by_cases hj : j = i
        · subst hj
          rw [ha1] at e2
          cases e2
          rw [con] at g
          simp only [decide_true, Bool.true_or] at g
          rw [hk]
          have hH : H1 a = some (.lst vs) := (r1.lkd a _ upd_same).1
          exact g.unlockTo hH upd_same
        · have hne : b ≠ a := fun z => hj (rho_inj r1.nd (z ▸ e2) ha1)
          have : (i :: s.lk).contains j = s.lk.contains j := by
            rw [con]
            simp [hj]
          rw [this] at g
          exact g.lockTo (by rw [upd_ne hne])
      · have hj : s.lk.contains j = true := hj
        exact r1.lkb j (by rw [elk, con, hj]; simp)
/-! ### dicts under a lock -/
theorem _root_.AL.CellR.unlockD {ca : Str → Addr} {K : PySem.W.Frag} {L L' : Hp} {a : Addr} {q : Cell} {od : Obj} {u : HO} (g : CellR ca K ρ F L' H true a q) (hL : L' a = some (.frz od u)) (hH : H a = some (.frz od u)) : CellR ca K ρ F L (upd H a u) false a q := by
  have rd : ∀ v, Rd L' a v → (∀ o w, v ≠ .frz o w) → upd H a u a = some v := fun v h n => by
    rcases h with h | ⟨o, h⟩
    · rw [hL] at h
      cases h
      exact absurd rfl (n _ _)
    · rw [hL] at h
      cases h
      exact upd_same
  cases q with
  | lst x =>
    obtain ⟨ws, h1, h2⟩ := g
    exact ⟨ws, rd _ h1 (fun o w z => by cases z), h2⟩
  | dk x =>
    obtain ⟨ws, h1, h2⟩ := g
    exact ⟨ws, rd _ h1 (fun o w z => by cases z), h2⟩
  | dt x =>
    obtain ⟨ws, h1, h2⟩ := g
    exact ⟨ws, rd _ h1 (fun o w z => by cases z), h2⟩
  | ins C x =>
    obtain ⟨dx, ws, h1, _⟩ := g
    rw [hH] at h1
    cases h1
theorem contains_cons (i j : Nat) (l : List Nat) : (i :: l).contains j = (decide (j = i) || l.contains j) := by
  rw [List.contains_cons]
  congr 1
theorem tabs_off {T : List (Addr × Str)} {H H' : Hp} {a : Addr} {u : HO} (t : LamX.Tabs T H) (hu : H a = some u) (hd : dictO u = true) (e : ∀ b, b ≠ a → H' b = H b) : LamX.Tabs T H' := fun p hp => by
  obtain ⟨ps, h1, h2, h3⟩ := t p hp
  have ne : ∀ b o, H b = some o → dictO o = false → b ≠ a := fun b o h1 h2 z => by
    rw [z, hu] at h1
    cases h1
    rw [hd] at h2
    cases h2
  refine ⟨ps, by rw [e _ (ne _ _ h1 rfl)]; exact h1, h2, fun pos cv hc => ?_⟩
  obtain ⟨q, e1, e2⟩ := h3 pos cv hc
  exact ⟨q, e1, by rw [e _ (ne _ _ e2 rfl)]; exact e2⟩
/-- a dict's cell under a lock -/
theorem Rel.lockD (r : Rel G L H s ρ F) {i : Nat} {a : Addr} {q : Cell} {u : HO} {od : Obj} (ha : ρ[i]? = some a) (e : s.st[i]? = some q) (hk : s.lk.contains i = false) (hH : H a = some u) (hd : dictO u = true) (hLa : L a = none) (hc : CellR G.ca G.K ρ F (upd L a (.frz od u)) (upd H a (.frz od u)) true a q) :
    Rel G (upd L a (.frz od u)) (upd H a (.frz od u)) (lockS i s) ρ F := by
  have hm : a ∈ ρ := List.mem_of_getElem? ha
  have hlt : i < s.st.length := (List.getElem?_eq_some_iff.mp e).1
  unfold lockS
  rw [if_neg (by rw [hk]; decide)]
  refine ⟨r.len, r.nd, fun b v q => ?_, fun b v q => ?_, fun j q' b e1 e2 => ?_, fun b hb => ?_, ?_, fun j hj => ?_, r.bsl, r.disc, r.ntF, nt_upd r.ntL (fun ps z => by cases z)⟩
  · obtain ⟨g1, g2, g3⟩ := r.frz b v q
    have hne : b ≠ a := fun z => g2 (z ▸ hm)
    exact ⟨by rw [upd_ne hne]; exact g1, g2, by rw [upd_ne hne]; exact g3⟩
  · by_cases hb : b = a
    · subst hb
      rw [upd_same] at q ⊢
      cases q
      refine ⟨rfl, fun j hj => ?_⟩
      rw [rho_inj r.nd hj ha]
      refine ⟨?_, rfl⟩
      show (i :: s.lk).contains i = true
      rw [contains_cons]
      simp
    · rw [upd_ne hb] at q ⊢
      obtain ⟨g1, g2⟩ := r.lkd b v q
      refine ⟨g1, fun j hj => ⟨?_, (g2 j hj).2⟩⟩
      show (i :: s.lk).contains j = true
      rw [contains_cons, (g2 j hj).1]
      simp
  · show CellR _ _ _ _ _ _ ((i :: s.lk).contains j) _ _
    by_cases hj : j = i
    · subst hj
      rw [ha] at e2
      cases e2
      have e1 : s.st[j]? = some q' := e1
      rw [e] at e1
      cases e1
      rw [contains_cons]
      simp only [decide_true, Bool.true_or]
      exact hc
    · have hne : b ≠ a := fun z => hj (rho_inj r.nd (z ▸ e2) ha)
      have : (i :: s.lk).contains j = s.lk.contains j := by
        rw [contains_cons]
        simp [hj]
      rw [this]
      exact ((r.cell j q' b e1 e2).mono (.refl ρ F) (upd_ne hne)).lockTo (by rw [upd_ne hne])
  · by_cases hb2 : b = a
    · subst hb2
      rw [upd_same]
      simp
    · rw [upd_ne hb2]
      exact r.there b hb
  · refine r.tabs.ext fun b v e => ?_
    by_cases hb : b ∈ ρ
    · rw [off_in hb] at e
      cases e
    · rw [off_out hb] at e ⊢
      have hne : b ≠ a := fun z => hb (z ▸ hm)
      rw [upd_ne hne]
      exact e
  · have hj : (i :: s.lk).contains j = true := hj
    rw [contains_cons, Bool.or_eq_true] at hj
    rcases hj with hj | hj
    · have := of_decide_eq_true hj
      subst this
      exact hlt
    · exact r.lkb j hj
theorem Rel.unlockD {i : Nat} {a : Addr} {u : HO} {od : Obj} {lk0 : List Nat} (r1 : Rel G (upd L a (.frz od u)) H s ρ F) (ha : ρ[i]? = some a) (elk : s.lk = i :: lk0) (hk : lk0.contains i = false) (hLa : L a = none) : Rel G L (upd H a u) { s with lk := lk0 } ρ F := by
  have hm : a ∈ ρ := List.mem_of_getElem? ha
  have hHa : H a = some (.frz od u) := (r1.lkd a _ upd_same).1
  refine ⟨r1.len, r1.nd, fun b v q => ?_, fun b v q => ?_, fun j q b e1 e2 => ?_, fun b hb => ?_, ?_, fun j hj => ?_, r1.bsl, r1.disc, r1.ntF, fun b ps e => by
    by_cases hb : b = a
    · rw [hb, hLa] at e
      cases e
    · exact r1.ntL b ps (by rw [upd_ne hb]; exact e)⟩
  · obtain ⟨g1, g2, g3⟩ := r1.frz b v q
    have hne : b ≠ a := fun z => g2 (z ▸ hm)
    rw [upd_ne hne] at g3
    exact ⟨by rw [upd_ne hne]; exact g1, g2, g3⟩
  · have hne : b ≠ a := fun z => by
      rw [z, hLa] at q
      cases q
    obtain ⟨g1, g2⟩ := r1.lkd b v (by rw [upd_ne hne]; exact q)
    refine ⟨by rw [upd_ne hne]; exact g1, fun j hj => ?_⟩
    have hji : j ≠ i := fun z => by
      subst z
      rw [ha] at hj
      cases hj
      exact hne rfl
    have := (g2 j hj).1
    rw [elk, contains_cons] at this
    exact ⟨by simpa [hji] using this, (g2 j hj).2⟩
  · have g := r1.cell j q b e1 e2
    rw [elk] at g
    show CellR _ _ _ _ _ _ (lk0.contains j) _ _
    by_cases hj : j = i
    · subst hj
      rw [ha] at e2
      cases e2
      rw [contains_cons] at g
      simp only [decide_true, Bool.true_or] at g
      rw [hk]
      exact g.unlockD upd_same hHa
    · have hne : b ≠ a := fun z => hj (rho_inj r1.nd (z ▸ e2) ha)
      have : (i :: lk0).contains j = lk0.contains j := by
        rw [contains_cons]
        simp [hj]
      rw [this] at g
      exact (g.lockTo (L' := L) (by rw [upd_ne hne])).mono (.refl ρ F) (upd_ne hne)
  · by_cases hb2 : b = a
    · subst hb2
      rw [upd_same]
      simp
    · rw [upd_ne hb2]
      exact r1.there b hb
  · refine r1.tabs.ext fun b v e => ?_
    by_cases hb : b ∈ ρ
    · rw [off_in hb] at e
      cases e
    · rw [off_out hb] at e ⊢
      have hne : b ≠ a := fun z => hb (z ▸ hm)
      rw [upd_ne hne]
      exact e
  · have hj : lk0.contains j = true := hj
    exact r1.lkb j (by rw [elk, contains_cons, hj]; simp)
/-- a tree's dict comes under a lock, for ever -/
theorem Rel.lockF (r : Rel G L H s ρ F) {a : Addr} {u : HO} (od : Obj) (hF : F a = some u) (hd : dictO u = true) : Rel G L (upd H a (.frz od u)) s ρ (upd F a (.frz od u)) ∧ Le ρ F ρ (upd F a (.frz od u)) := by
  obtain ⟨hH, hρ, hL⟩ := r.frz a u hF
  have le : Le ρ F ρ (upd F a (.frz od u)) := ⟨fun _ _ h => h, fun b v e => by
    by_cases hb : b = a
    · subst hb
      rw [hF] at e
      cases e
      exact .inr ⟨hd, od, upd_same⟩
    · exact .inl (by rw [upd_ne hb]; exact e)⟩
  refine ⟨⟨r.len, r.nd, fun b v q => ?_, fun b v q => ?_, fun j q b e1 e2 => ?_, fun b hb => ?_, ?_, r.lkb, r.bsl, r.disc, nt_upd r.ntF (fun ps z => by cases z), r.ntL⟩, le⟩
  · by_cases hb : b = a
    · subst hb
      rw [upd_same] at q ⊢
      cases q
      exact ⟨rfl, hρ, hL⟩
    · rw [upd_ne hb] at q ⊢
      exact r.frz b v q
  · have hne : b ≠ a := fun z => by
      rw [z, hL] at q
      cases q
    rw [upd_ne hne]
    exact r.lkd b v q
  · have hne : b ≠ a := fun z => hρ (z ▸ List.mem_of_getElem? e2)
    exact (r.cell j q b e1 e2).mono le (upd_ne hne)
  · have hne : b ≠ a := fun z => hρ (z ▸ hb)
    rw [upd_ne hne]
    exact r.there b hb
  · refine tabs_off r.tabs (a := a) (u := u) (by rw [off_out hρ]; exact hH) hd fun b hb => ?_
    by_cases hb2 : b ∈ ρ
    · rw [off_in hb2, off_in hb2]
    · rw [off_out hb2, off_out hb2, upd_ne hb]
/-- the dict d, under a lock -/
theorem dict_lock {pins : List (Addr × Obj)} {σ : L2.St} {st : Shared} {d : D} {v : V} {l : List (Key × D)} (I : Inv X pins σ H st) (r : Rel (gx X ca T) L H s ρ F) (hd : RepD ca X.K ρ F d v) (ev : d.view s = .dk l) :
    ∃ (a : Addr) (od : Obj) (vs : List (Key × V)) (H2 F2 L' : Hp) (U : Hp → Hp), v = .ref a ∧ Inv X pins σ H2 st ∧ Le ρ F ρ F2 ∧ Rel (gx X ca T) L' H2 (lkOf d s) ρ F2 ∧ Unl X (gx X ca T) L L' ρ F2 s (lkOf d s) U ∧ RepK ca X.K ρ F2 l vs ∧
      ∀ H s ρ3 F3 L2, ExL L' L2 → Le ρ F2 ρ3 F3 → Rel (gx X ca T) L2 H s ρ3 F3 → H a = some (.frz od (.dK vs)) := by
  cases d with
  | ref i =>
    obtain ⟨a, ha, e'⟩ := hd
    rcases view_cases i s with ⟨cc, ec, qv⟩ | qv
    · rw [qv] at ev
      cases cc with
      | dk x =>
        cases ev
        obtain ⟨vs, h1, h2⟩ := r.cell i _ a ec ha
        cases hk : s.lk.contains i with
        | true =>
          rw [hk] at h1
          have h1 : Rd L a (.dK vs) := h1
          have es : lkOf (.ref i) s = s := by
            show lockS i s = s
            unfold lockS
            rw [if_pos hk]
          rcases h1 with h1 | ⟨od, h1⟩
          · have := ((r.lkd a _ h1).2 i ha).2
            cases this
          · refine ⟨a, od, vs, H, F, L, _root_.id, e', I, .refl _ _, by rw [es]; exact r, by rw [es]; exact .refl, h2, fun H s ρ3 F3 L2 ex _ r3 => (r3.lkd a _ (ex _ _ h1)).1⟩
        | false =>
          rw [hk] at h1
          have h1 : H a = some (.dK vs) := h1
          have hLa : L a = none := by
            cases q : L a with
            | none => rfl
            | some u =>
              have := ((r.lkd a u q).2 i ha).1
              rw [hk] at this
              cases this
          obtain ⟨od, I2⟩ := I.lock h1 (show Mut (some (HO.dK vs)) from trivial)
          have es : (lkOf (.ref i) s).lk = i :: s.lk := by
            show (lockS i s).lk = _
            unfold lockS
            rw [if_neg (by rw [hk]; decide)]
          have est : (lkOf (.ref i) s).st = s.st := by
            show (lockS i s).st = _
            unfold lockS
            rw [if_neg (by rw [hk]; decide)]
          refine ⟨a, od, vs, _, F, upd L a (.frz od (.dK vs)), fun H => upd H a (.dK vs), e', I2, .refl _ _, r.lockD ha ec hk h1 rfl hLa ⟨vs, .inr ⟨od, upd_same⟩, h2⟩, ⟨fun H1 s1 ρ1 F1 l1 r1 elk => r1.unlockD (l1.pre i a ha) (elk.trans es) hk hLa, .inr ⟨?_, a, od, .dK vs, fun _ => rfl, upd_same, I.nofrz h1 trivial⟩, ExL.new hLa⟩, h2, fun H s ρ3 F3 L2 ex _ r3 => (r3.lkd a _ (ex _ _ upd_same)).1⟩
          unfold dkL
          rw [es, est]
          have : (s.lk == i :: s.lk) = false := beq_eq_false_iff_ne.mpr fun z => by
            have := congrArg List.length z
            rw [List.length_cons] at this
            omega
          rw [this]
          simp only [ec, Bool.not_false, Bool.and_true]
      | _ => cases ev
    · rw [qv] at ev
      cases ev
  | dk x =>
    have ev : D.dk x = .dk l := ev
    cases ev
    obtain ⟨a, vs, e', k1, k2⟩ := hd
    rcases k1 with k1 | ⟨od, k1⟩
    · have hH := (r.frz a _ k1).1
      obtain ⟨od, I2⟩ := I.lock hH (show Mut (some (HO.dK vs)) from trivial)
      obtain ⟨r2, le⟩ := r.lockF od k1 rfl
      refine ⟨a, od, vs, _, _, L, _root_.id, e', I2, le, r2, .refl, RepK.mono le _ _ k2, fun H s ρ3 F3 L2 ex l3 r3 => ?_⟩
      rcases l3.sub a _ upd_same with z | ⟨z, _⟩
      · exact (r3.frz a _ z).1
      · cases z
    · refine ⟨a, od, vs, H, F, L, _root_.id, e', I, .refl _ _, r, .refl, k2, fun H s ρ3 F3 L2 ex l3 r3 => ?_⟩
      rcases l3.sub a _ k1 with z | ⟨z, _⟩
      · exact (r3.frz a _ z).1
      · cases z
  | con x => cases ev
  | _ => cases ev
theorem RepK.at_ {ca : Str → Addr} {K : PySem.W.Frag} : ∀ {l : List (Key × D)} {vs : List (Key × V)}, RepK ca K ρ F l vs → ∀ {i : Nat} {k : Key} {v : V}, vs[i]? = some (k, v) → ∃ d, l[i]? = some (k, d) ∧ RepD ca K ρ F d v ∧ keyOk k
  | [], vs, h, i, k, v, e => by
    obtain rfl : vs = [] := h
    simp at e
  | (k0, d0) :: l, _, ⟨v0, r, e0, h1, h2, h3⟩, 0, k, v, e => by
    subst e0
    simp at e
    obtain ⟨rfl, rfl⟩ := e
    exact ⟨d0, rfl, h1, h3⟩
  | (k0, d0) :: l, _, ⟨v0, r, e0, h1, h2, h3⟩, i + 1, k, v, e => by
    subst e0
    simp at e
    obtain ⟨d, g1, g2, g3⟩ := RepK.at_ h2 e
    exact ⟨d, by simpa using g1, g2, g3⟩
theorem RepK.len {ca : Str → Addr} {K : PySem.W.Frag} : ∀ {l : List (Key × D)} {vs : List (Key × V)}, RepK ca K ρ F l vs → l.length = vs.length
  | [], vs, h => by
    obtain rfl : vs = [] := h
    rfl
  | (k0, d0) :: l, _, ⟨v0, r, e0, h1, h2, h3⟩ => by
    subst e0
    rw [List.length_cons, List.length_cons, RepK.len h2]
theorem key_rep2 {ca : Str → Addr} {K : PySem.W.Frag} {k : Key} (h : keyOk k) : RepD ca K ρ F (kD k) (kV k) := by
  cases k with
  | inl i => rfl
  | inr x => exact ⟨rfl, h⟩
theorem wk_keys {L' : Hp} {a : Addr} {od : Obj} {l : List (Key × D)} {vs : List (Key × V)} (hl : RepK G.ca G.K ρ F l vs) (hrd : ∀ H s ρ1 F1 L2, ExL L' L2 → Le ρ F ρ1 F1 → Rel G L2 H s ρ1 F1 → H a = some (.frz od (.dK vs))) : Wk G L' ρ F (l.map fun p => kD p.1) (Itk a od vs) where
  go := fun i H s ρ1 F1 L2 ex hi l1 r => ⟨hrd H s ρ1 F1 L2 ex l1 r, by rw [List.length_map, RepK.len hl] at hi; exact hi⟩
  yld := fun i H s ρ1 F1 L2 x H' ex hi l1 r ⟨e, k, v, hk, ex'⟩ => by
    subst e ex'
    obtain ⟨d, g1, g2, g3⟩ := RepK.at_ hl hk
    exact ⟨kD k, F1, by rw [List.getElem?_map, g1]; rfl, .refl _ _, r, key_rep2 g3⟩
  stop := fun H s ρ1 F1 L2 ex l1 r => ⟨hrd H s ρ1 F1 L2 ex l1 r, by rw [List.length_map, RepK.len hl]; exact Nat.le_refl _⟩
theorem SqL.of_rd {K : PySem.W.Frag} {a : Addr} {vs : List V} (h : Rd H a (.lst vs)) : SqL K H a vs := .inl h
theorem iter_val {tg : Expr} {pins : List (Addr × Obj)} {s1 : Shared} {σ : L2.St} {H1 : Hp} {R' : It → Hp → Prop} {d : D} {v : V} {u : Value} {st1 : S} {ρ ρ1 : List Addr} {F F1 L : Hp} {E : Value → Shared → Prop} (I1 : Inv X pins σ H1 s1) (l1 : Le ρ F ρ1 F1) (r1 : Rel (gx X ca T) L H1 st1 ρ1 F1) (hd : RepD ca X.K ρ1 F1 d v) (rv : L2.RelV v u)
    (q : PI_ X (gx X ca T) L ρ F W σ R' (R.of st1 (walk d st1))) : wpAny (model X.prog X.w) X.A (pyIter u) (PIE X pins σ tg R') E s1 := by
  unfold walk at q
  split at q
  · rename_i l ev
    obtain ⟨a, vs, e1, h1, h2⟩ := r1.viewL hd ev
    subst e1
    obtain rfl : u = Value.ref a := rv
    -- the list stays
    have key : ∃ (L' : Hp) (s2 : S) (vs' : List V), lkOf d st1 = s2 ∧ Rel (gx X ca T) L' H1 s2 ρ1 F1 ∧ Unl X (gx X ca T) L L' ρ1 F1 st1 s2 _root_.id ∧ RepL ca X.K ρ1 F1 l vs' ∧ ∀ H s ρ2 F2 L2, ExL L' L2 → Le ρ1 F1 ρ2 F2 → Rel (gx X ca T) L2 H s ρ2 F2 → Rd H a (.lst vs') := by
      cases d with
      | ref i =>
        obtain ⟨a', ha, e'⟩ := hd
        cases e'
        rcases view_cases i st1 with ⟨cc, ec, qv⟩ | qv
        · rw [qv] at ev
          cases cc with
          | lst x =>
            cases ev
            obtain ⟨L', vs', k1, k2, k3, k4⟩ := r1.lock ha ec
            exact ⟨L', _, vs', rfl, k1, k2, k3, fun H s ρ2 F2 L2 ex _ r => r.rdL (k4.imp (ex _ _) fun ⟨o, z⟩ => ⟨o, ex _ _ z⟩)⟩
          | _ => cases ev
        · rw [qv] at ev
          cases ev
      | lst x =>
        have ev : D.lst x = .lst l := ev
        cases ev
        obtain ⟨a', vs', e', k1, k2⟩ := hd
        cases e'
        exact ⟨L, st1, vs', rfl, r1, .refl, k2, fun H s ρ2 F2 L2 ex l r => r.rdF (l.sub.rd k1)⟩
      | con x => cases ev
      | _ => cases ev
    obtain ⟨L', s2, vs', k0, k1, k2, k3, k4⟩ := key
    rw [k0] at q
    have hrd := fun H s ρ2 F2 L2 ex lx rx => SqL.of_rd (K := X.K) (k4 H s ρ2 F2 L2 ex lx rx)
    obtain ⟨its, _, p, hz⟩ := I1.list (hrd H1 s2 ρ1 F1 L' (fun _ _ z => z) (.refl _ _) k1)
    refine wpAny_pyIter_list p.isList ?_
    refine pi_one (tk := s1.toks) I1 _ (turn_list a _) ⟨_, Heap.get?_push_size _ rfl, rfl, rfl⟩ ?_
    exact q (Itl X.K a) H1 ρ1 F1 L' _ l1 k1 (wk_list k3 hrd) k2 (by rw [RepL.length (G := gx X ca T) k3]; exact hz)
  · rename_i l ev
    obtain ⟨a, vs, e1, h1, h2⟩ := r1.viewT hd ev
    subst e1
    obtain rfl : u = Value.ref a := rv
    have key : SqT X.K F1 a vs := by
      cases d with
      | tup x =>
        obtain ⟨a', vs', e', k1, k2⟩ := hd
        cases e'
        have hH := (r1.frz _ _ k1).1
        have : SqT X.K H1 a vs' := .of hH
        rw [I1.tuple_inj h1 this]
        exact .of k1
      | con x =>
        obtain ⟨a', vs', e', k1, k2⟩ := hd
        cases e'
        rw [I1.tuple_inj h1 (r1.sqT k1)]
        exact k1
      | ref i =>
        rcases view_cases i st1 with ⟨cc, ec, qv⟩ | qv
        · rw [qv] at ev
          cases cc <;> cases ev
        · rw [qv] at ev
          cases ev
      | _ => cases ev
    have hrd : ∀ H s ρ2 F2 L2, ExL L L2 → Le ρ1 F1 ρ2 F2 → Rel (gx X ca T) L2 H s ρ2 F2 → SqT X.K H a vs := fun H s ρ2 F2 L2 ex l r => r.sqT (l.sub.sqT key)
    obtain ⟨its, _, p, hz⟩ := I1.tuple h1
    refine wpAny_pyIter_tuple (show s1.heap.IsTuple a its.toArray from p) ?_
    refine pi_one (tk := s1.toks) I1 _ (turn_tuple a _) ⟨_, Heap.get?_push_size _ rfl, rfl, rfl⟩ ?_
    exact q (Itt X.K a) H1 ρ1 F1 L _ l1 r1 (wk_tup h2 hrd) .refl (by rw [RepL.length (G := gx X ca T) h2]; exact hz)
  · rename_i z ev
    obtain ⟨e1, hz⟩ := rep_str hd ev
    subst e1
    obtain ⟨t, rfl⟩ := rv
    have q := q (Its z) H1 ρ1 F1 L _ l1 r1 wk_str .refl (by show (chars z).length ≤ sizeLine; rw [chars_len]; exact hz)
    cases ha : z.cps.all (· < 128)
    · exact wpAny_pyIter_wide ha (pi_one (tk := s1.toks) I1 _ (turn_str _ z t "str_iterator" (.inr rfl)) ⟨_, Heap.get?_push_size _ rfl, rfl, rfl⟩ q)
    · exact wpAny_pyIter_ascii ha (pi_one (tk := s1.toks) I1 _ (turn_str _ z t "str_ascii_iterator" (.inl rfl)) ⟨_, Heap.get?_push_size _ rfl, rfl, rfl⟩ q)
  · rename_i l ev
    obtain ⟨a, od, vs, H2, F2, L', U, e1, I2, l2, r2, un, rk, hf⟩ := dict_lock I1 r1 hd ev
    subst e1
    obtain rfl : u = Value.ref a := rv
    have hfz := hf H2 _ ρ1 F2 L' (fun _ _ z => z) (.refl _ _) r2
    obtain ⟨hs', hgd, hx, es, ep, vs', hdt, hsz, kv, hm⟩ := I2.frzK hfz
    have hz : vs.length ≤ sizeLine := (I2.hok a _ hfz).2.1
    refine iter_keys hs' hgd hx hdt (pi_one (tk := s1.toks) I2 _ (turn_keys _ hdt) ⟨_, Heap.get?_push_size _ rfl, rfl, ?_⟩ (q (Itk a od vs) H2 ρ1 F2 L' U (l1.trans l2) r2 (wk_keys rk hf) un (by rw [List.length_map, RepK.len rk]; exact hz)))
    rw [hsz] <;> rfl
  · exact q.elim
  · exact q.elim
theorem ai_val {tg e : Expr} {m : ME} (he : PE X e (tE (gx X ca T) W m)) : PI X tg e (tI X (gx X ca T) W fun sl s => (m sl s).bind fun d s1 => R.of s1 (walk d s1)) := by
  refine ⟨fun pins s σ H R' I ⟨sl, st, ρ, F, L, hs, hr, hp⟩ => ?_⟩
  have q : PB (gx X ca T) L ρ F W σ (rpD (gx X ca T)) (fun v H' => ∃ d s1 ρ1 F1, Le ρ F ρ1 F1 ∧ Rel (gx X ca T) L H' s1 ρ1 F1 ∧ RepD ca X.K ρ1 F1 d v ∧ PI_ X (gx X ca T) L ρ F W σ R' (R.of s1 (walk d s1))) (m sl st) := by
    dsimp only at hp
    cases e : m sl st with
    | ok d s1 =>
      rw [e] at hp
      exact fun v H' ρ' F' l' r' p => ⟨d, s1, ρ', F', l', r', p, hp⟩
    | err x s1 =>
      rw [e] at hp
      exact hp
    | bad =>
      rw [e] at hp
      exact hp
  refine thn (he.run pins s σ H _ I ⟨sl, st, ρ, F, L, hs, hr, q⟩) fun u s1 ⟨v, H1, I1, rv, d, st1, ρ1, F1, l1, r1, hd, q⟩ => ?_
  exact iter_val I1 l1 r1 hd rv q
/-- a range -/
theorem ai_rng (h : Sd c ca T X W sc) (ho : c.own ("range" : Str) = false) (hic : c.isC ("range" : Str) = false) {tg : Expr} {pp : Pos} {args : List Expr} {f : Expr → ME} (hf : ∀ e, PE X e (tE (gx X ca T) W (f e))) (hg : glN0 sc ("range" : Str) = true) (hn : args.any starB = false) :
    PI X tg (.Call (.Name "range" pp) args [] pos) (tI X (gx X ca T) W fun sl s => (many f args sl s).bind fun ds s1 => R.of s1 ((rangeD ds).map fun l => (l, s1))) := by
  have hgl : Gl X "range" := (glN_ok h (x := "range") hg).1
  have hm : X.mg "range" = none := h.blt _ (by simp [bltN]) ho hic
  have step : ∀ {σ : L2.St} {H : Hp} {R' : It → Hp → Prop}, tI X (gx X ca T) W (fun sl s => (many f args sl s).bind fun ds s1 => R.of s1 ((rangeD ds).map fun l => (l, s1))) σ H R' → tA (gx X ca T) W (many f args) σ H fun vs H1 => ∃ ds ρ F L, RepL ca X.K ρ F ds vs ∧ ds.length = args.length ∧
      ∃ l, rangeD ds = some l ∧ ∀ J, Wk (gx X ca T) L ρ F l J → l.length ≤ sizeLine → R' J H1 := fun {σ H R'} ⟨sl, s, ρ, F, L, hs, hr, hp⟩ => by
    refine ⟨sl, s, ρ, F, L, hs, hr, ?_⟩
    dsimp only at hp
    cases e : many f args sl s with
    | err x s1 => rw [e] at hp; exact hp
    | bad => rw [e] at hp; exact hp
    | ok ds s1 =>
      rw [e] at hp
      have hp : PI_ X (gx X ca T) L ρ F W σ R' (R.of s1 ((rangeD ds).map fun l => (l, s1))) := hp
      intro vs H1 ρ1 F1 l1 r1 hv
      cases hd : rangeD ds with
      | none => rw [hd] at hp; exact hp.elim
      | some l =>
        rw [hd] at hp
        exact ⟨ds, ρ1, F1, L, hv, many_len e, l, hd, fun J wk hz => hp J H1 ρ1 F1 L _ l1 r1 wk .refl hz⟩
  have none3 : ∀ (ds : List D), ds.length ≠ 1 → ds.length ≠ 2 → rangeD ds = none := fun ds h1 h2 => by
    unfold rangeD
    split
    · exact absurd rfl h1
    · exact absurd rfl h2
    · rfl
  have never : args.length ≠ 1 → args.length ≠ 2 → ∀ {σ : L2.St} {H : Hp} {R' : It → Hp → Prop}, ¬ ∃ (vs : List V) (H1 : Hp), ∃ ds ρ F L, RepL ca X.K ρ F ds vs ∧ ds.length = args.length ∧ ∃ l, rangeD ds = some l ∧ ∀ J, Wk (gx X ca T) L ρ F l J → l.length ≤ sizeLine → R' J H1 := fun a1 a2 {σ H R'} ⟨vs, H1, ds, ρ, F, L, h1, h2, l, h3, _⟩ => by
    rw [none3 ds (by rw [h2]; exact a1) (by rw [h2]; exact a2)] at h3
    cases h3
  match args, hn with
  | [], _ => exact ⟨fun pins s σ H R' I q => by
      obtain ⟨sl, s, ρ, F, L, hs, hr, hp⟩ := step q
      exact absurd ⟨_, _, hp [] H ρ F (.refl ρ F) hr rfl⟩ (never (by simp) (by simp) (σ := σ) (H := H))⟩
  | [a], hn =>
    have hn' : starB a = false := by simpa using hn
    exact ⟨fun pins s σ H R' I q => (pi_range1 hgl hm (aa_many (ca := ca) (T := T) (W := W) hf hn) (by rw [star_ok hn']; rfl)).run pins s σ H R' I (by
      obtain ⟨sl, s, ρ, F, L, hs, hr, hp⟩ := step q
      refine ⟨sl, s, ρ, F, L, hs, hr, hp.imp (.refl ρ F) fun _ _ _ vs H1 _ _ _ _ _ ⟨ds, ρ1, F1, L1, h1, h2, l, h3, h4⟩ => ?_⟩
      unfold rangeD at h3
      split at h3
      · rename_i n
        split at h3
        · rename_i hc
          cases h3
          obtain ⟨v, e, hx⟩ := RepL.one (G := gx X ca T) h1
          obtain rfl : v = .int n := hx
          subst e
          have hc : -(2 ^ 62) ≤ n ∧ n < 16777216 := hc
          exact ⟨n, rfl, hc.1, by omega, h4 _ wk_rng (by rw [upL_len, sizeLine_eq]; omega)⟩
        · cases h3
      · cases h2
      · cases h3)⟩
  | [a, b], hn =>
    have hn' := hn
    rw [List.any_cons, Bool.or_eq_false_iff] at hn'
    have hb : starB b = false := by simpa using hn'.2
    have eb : starEach [b] X.env = [(false, eval b X.env)] := by rw [star_ok hb]; rfl
    exact ⟨fun pins s σ H R' I q => (pi_range2 hgl hm (aa_many (ca := ca) (T := T) (W := W) hf hn) (by rw [star_ok hn'.1, eb]) eb).run pins s σ H R' I (by
      obtain ⟨sl, s, ρ, F, L, hs, hr, hp⟩ := step q
      refine ⟨sl, s, ρ, F, L, hs, hr, hp.imp (.refl ρ F) fun _ _ _ vs H1 _ _ _ _ _ ⟨ds, ρ1, F1, L1, h1, h2, l, h3, h4⟩ => ?_⟩
      unfold rangeD at h3
      split at h3
      · cases h2
      · rename_i m n
        split at h3
        · rename_i hc
          cases h3
          obtain ⟨v, w, e, hx, hy⟩ := RepL.two (G := gx X ca T) h1
          obtain rfl : v = .int m := hx
          obtain rfl : w = .int n := hy
          subst e
          have hc : -(2 ^ 62) ≤ m ∧ m < 2 ^ 62 ∧ -(2 ^ 62) ≤ n ∧ n < 2 ^ 62 ∧ n - m < 16777216 := hc
          exact ⟨m, n, rfl, ⟨hc.1, hc.2.1, hc.2.2.1, hc.2.2.2.1⟩, h4 _ wk_rng (by rw [upL_len, sizeLine_eq]; omega)⟩
        · cases h3
      · cases h3)⟩
  | a :: b :: d :: r, hn =>
    have hn' := hn
    rw [List.any_cons, Bool.or_eq_false_iff] at hn'
    exact ⟨fun pins s σ H R' I q => by
      refine Call_ (ld_blt I hgl hm boot_range (PyProof.Rows.callWith_type1 (thn ((aa_many (ca := ca) (T := T) (W := W) hf hn).run pos pins s σ H _ I (step q)) fun us s1 ⟨vs, H1, I1, r1, q1⟩ => ?_) (star_ok hn'.1) (noStar_each hn'.2).1))
      exact absurd ⟨vs, H1, q1⟩ (never (by simp) (by simp) (σ := σ) (H := H))⟩
end
end AL
set_option Elab.async false
set_option linter.all false
set_option maxRecDepth 100000
set_option maxHeartbeats 4000000
/-! AL21b: walks of values and items. -/
namespace AL
open PySem PySem.Spec PyProof.Rows L2
section
variable {c : Cfg} {ca : Str → Addr} {T : List (Addr × Str)} {X : Cx} {W : WX} {sc : Scope} {pos : Pos} {G : Env1} {L H : Hp} {s : S} {ρ : List Addr} {F : Hp}
theorem wk_vals {L' : Hp} {a : Addr} {od : Obj} {l : List (Key × D)} {vs : List (Key × V)} (hl : RepK G.ca G.K ρ F l vs) (hrd : ∀ H s ρ1 F1 L2, ExL L' L2 → Le ρ F ρ1 F1 → Rel G L2 H s ρ1 F1 → H a = some (.frz od (.dK vs))) : Wk G L' ρ F (l.map fun p => p.2) (Itd a od vs) where
  go := fun i H s ρ1 F1 L2 ex hi l1 r => ⟨hrd H s ρ1 F1 L2 ex l1 r, by rw [List.length_map, RepK.len hl] at hi; exact hi⟩
  yld := fun i H s ρ1 F1 L2 x H' ex hi l1 r ⟨e, k, hk⟩ => by
    subst e
    obtain ⟨d, g1, g2, g3⟩ := RepK.at_ hl hk
    exact ⟨d, F1, by rw [List.getElem?_map, g1]; rfl, .refl _ _, r, RepD.mono l1 _ _ g2⟩
  stop := fun H s ρ1 F1 L2 ex l1 r => ⟨hrd H s ρ1 F1 L2 ex l1 r, by rw [List.length_map, RepK.len hl]; exact Nat.le_refl _⟩
theorem wk_items {L' : Hp} {a : Addr} {od : Obj} {l : List (Key × D)} {vs : List (Key × V)} (hl : RepK G.ca G.K ρ F l vs) (hrd : ∀ H s ρ1 F1 L2, ExL L' L2 → Le ρ F ρ1 F1 → Rel G L2 H s ρ1 F1 → H a = some (.frz od (.dK vs))) : Wk G L' ρ F (l.map fun p => .tup [kD p.1, p.2]) (Iti a od vs) where
  go := fun i H s ρ1 F1 L2 ex hi l1 r => ⟨hrd H s ρ1 F1 L2 ex l1 r, by rw [List.length_map, RepK.len hl] at hi; exact hi⟩
  yld := fun i H s ρ1 F1 L2 x H' ex hi l1 r ⟨T, k, v, hk, ev, hT, e⟩ => by
    subst e ev
    obtain ⟨d, g1, g2, g3⟩ := RepK.at_ hl hk
    have le := r.frzLe hT (.tup [kV k, v])
    exact ⟨.tup [kD k, d], _, by rw [List.getElem?_map, g1]; rfl, le, r.frzNew hT _, ⟨T, _, rfl, upd_same, _, _, rfl, key_rep2 g3, _, _, rfl, RepD.mono le _ _ (RepD.mono l1 _ _ g2), rfl⟩⟩
  stop := fun H s ρ1 F1 L2 ex l1 r => ⟨hrd H s ρ1 F1 L2 ex l1 r, by rw [List.length_map, RepK.len hl]; exact Nat.le_refl _⟩
/-- an expression ahead of a walk -/
theorem ai_step {m : ME} {g : D → S → Option (List D × S)} {σ : L2.St} {H : Hp} {R' : It → Hp → Prop} (q : tI X (gx X ca T) W (fun sl s => (m sl s).bind fun d s1 => R.of s1 (g d s1)) σ H R') :
    tE (gx X ca T) W m σ H fun v H' => ∃ d s1 ρ ρ1 F F1 L, Le ρ F ρ1 F1 ∧ Rel (gx X ca T) L H' s1 ρ1 F1 ∧ RepD ca X.K ρ1 F1 d v ∧ PI_ X (gx X ca T) L ρ F W σ R' (R.of s1 (g d s1)) := by
  obtain ⟨sl, st, ρ, F, L, hs, hr, hp⟩ := q
  refine ⟨sl, st, ρ, F, L, hs, hr, ?_⟩
  dsimp only at hp
  cases e : m sl st with
  | ok d s1 =>
    rw [e] at hp
    exact fun v H' ρ' F' l' r' p => ⟨d, s1, ρ, ρ', F, F', L, l', r', p, hp⟩
  | err x s1 =>
    rw [e] at hp
    exact hp
  | bad =>
    rw [e] at hp
    exact hp
theorem ai_vals {tg o : Expr} {apos cpos : Pos} {m : ME} (ho : PE X o (tE (gx X ca T) W m)) (hb : superB o = false) (hline : (apos.endLine == cpos.line) = true) : PI X tg (.Call (.Attribute o "values" apos) [] [] cpos) (tI X (gx X ca T) W fun sl s => (m sl s).bind fun d s1 => R.of s1 (walkV d s1)) := by
  refine ⟨fun pins s σ H R' I q => ?_⟩
  refine wpAny_Call_method (T := "dict") (id := "dict.values") (noSuper hb) rfl hline PySem.F.plainAttrs_dict PySem.F.slot_dict_values PySem.F.type_dict_values (thn (ho.run pins s σ H _ I (ai_step q)) fun u s1 ⟨v, H1, I1, rv, d, st1, ρ, ρ1, F, F1, L, l1, r1, hd, q⟩ => ?_)
  unfold walkV at q
  split at q
  rotate_left
  · exact q.elim
  rename_i l ev
  obtain ⟨a, od, vs, H2, F2, L', U, e1, I2, l2, r2, un, rk, hf⟩ := dict_lock I1 r1 hd ev
  subst e1
  obtain rfl : u = Value.ref a := rv
  have hfz := hf H2 _ ρ1 F2 L' (fun _ _ z => z) (.refl _ _) r2
  obtain ⟨hs', hgd, hx, ens, ep, vs', hdt, hsz, kv, hm⟩ := I2.frzK hfz
  have hz : vs.length ≤ sizeLine := (I2.hok a _ hfz).2.1
  have hl : vs.length = vs'.length := Paired.length kv
  refine ⟨hm.dictOf.typeIs, hm.dictOf.mapOf.noDict, ?_⟩
  have I3 : Inv X pins σ H2 { s1 with heap := s1.heap.push { cls := .type "dict_values", data := .fields #[.ref a] } } := I2.kept (t' := s1.toks) fun b ob q => Heap.get?_push_of_some _ q
  have fin : wpAny (model X.prog X.w) X.A (pyIter (.ref s1.heap.objs.size)) (PIE X pins σ tg R') X.xe { s1 with heap := s1.heap.push { cls := .type "dict_values", data := .fields #[.ref a] } } := by
    refine wpAny_pyIter_values (d := a) (knd := mixKind X.prog X.w) ⟨_, Heap.get?_push_size _ rfl, rfl, rfl⟩ (hm.push _) (pi_one (tk := s1.toks) I3 _ (turn_vals _ hdt) ⟨_, Heap.get?_push_size _ rfl, rfl, ?_⟩ (q (Itd a od vs) H2 ρ1 F2 L' U (l1.trans l2) r2 (wk_vals rk hf) un (by rw [List.length_map, RepK.len rk]; exact hz)))
    rw [hl] <;> rfl
  show wpAny _ _ (callWith cpos (.builtin "dict.values") [.ref a] [] []) _ X.xe s1
  exact method_meetsIn PySem.F.slot_dict_values PySem.F.entry_dict_values rfl (PySem.evalArgs_none ⟨rfl, hm.dictOf.typeIs, PySem.F.args_dict_values_1 _, _, meets_dict_values (mixKind X.prog X.w) a hs', ⟨vs', hm.dictOf⟩, fin⟩)
theorem ai_items {o : Expr} {es : List Expr} {kk : Nat} {tpos apos cpos : Pos} {m : ME} (ho : PE X o (tE (gx X ca T) W m)) (hb : superB o = false) (hline : (apos.endLine == cpos.line) = true) :
    PI X (.Tuple es kk tpos) (.Call (.Attribute o "items" apos) [] [] cpos) (tI X (gx X ca T) W fun sl s => (m sl s).bind fun d s1 => R.of s1 (walkI d s1)) := by
  refine ⟨fun pins s σ H R' I q => ?_⟩
  refine wpAny_Call_method (T := "dict") (id := "dict.items") (noSuper hb) rfl hline PySem.F.plainAttrs_dict PySem.F.slot_dict_items PySem.F.type_dict_items (thn (ho.run pins s σ H _ I (ai_step q)) fun u s1 ⟨v, H1, I1, rv, d, st1, ρ, ρ1, F, F1, L, l1, r1, hd, q⟩ => ?_)
  unfold walkI at q
  split at q
  rotate_left
  · exact q.elim
  rename_i l ev
  obtain ⟨a, od, vs, H2, F2, L', U, e1, I2, l2, r2, un, rk, hf⟩ := dict_lock I1 r1 hd ev
  subst e1
  obtain rfl : u = Value.ref a := rv
  have hfz := hf H2 _ ρ1 F2 L' (fun _ _ z => z) (.refl _ _) r2
  obtain ⟨hs', hgd, hx, ens, ep, vs', hdt, hsz, kv, hm⟩ := I2.frzK hfz
  have hz : vs.length ≤ sizeLine := (I2.hok a _ hfz).2.1
  have hl : vs.length = vs'.length := Paired.length kv
  refine ⟨hm.dictOf.typeIs, hm.dictOf.mapOf.noDict, ?_⟩
  have I3 : Inv X pins σ H2 { s1 with heap := s1.heap.push { cls := .type "dict_items", data := .fields #[.ref a] } } := I2.kept (t' := s1.toks) fun b ob q => Heap.get?_push_of_some _ q
  have fin : wpAny (model X.prog X.w) X.A (pyIter (.ref s1.heap.objs.size)) (PIE X pins σ (.Tuple es kk tpos) R') X.xe { s1 with heap := s1.heap.push { cls := .type "dict_items", data := .fields #[.ref a] } } := by
    refine wpAny_pyIter_items (d := a) (knd := mixKind X.prog X.w) ⟨_, Heap.get?_push_size _ rfl, rfl, rfl⟩ (hm.push _) (pi_one (tk := s1.toks) I3 _ (turn_items _ hdt) ⟨.none, .none, ?_⟩ (q (Iti a od vs) H2 ρ1 F2 L' U (l1.trans l2) r2 (wk_items rk hf) un (by rw [List.length_map, RepK.len rk]; exact hz)))
    rw [hl]
    exact Heap.get?_push_size _ rfl
  show wpAny _ _ (callWith cpos (.builtin "dict.items") [.ref a] [] []) _ X.xe s1
  exact method_meetsIn PySem.F.slot_dict_items PySem.F.entry_dict_items rfl (PySem.evalArgs_none ⟨rfl, hm.dictOf.typeIs, PySem.F.args_dict_items_1 _, _, meets_dict_items (mixKind X.prog X.w) a hs', ⟨vs', hm.dictOf⟩, fin⟩)
/-- what a for loop or a comprehension walks -/
theorem ai_it (h : Sd c ca T X W sc) (ho : c.isC ("range" : Str) = false) {tg : Expr} {f : Expr → ME} (hf : ∀ e, PE X e (tE (gx X ca T) W (f e))) (e : Expr) : PI X tg e (tI X (gx X ca T) W (itM c.own sc f (tupB tg) e)) := by
  have bad : ∀ {m : Sl → S → R (List D × S)}, (∀ sl s, m sl s = .bad) → PI X tg e (tI X (gx X ca T) W m) := fun {m} hm => ⟨fun pins s σ H R' I ⟨sl, st, ρ, F, L, hs, hr, hp⟩ => by
    rw [hm] at hp
    exact hp.elim⟩
  cases hk : itK c.own sc (tupB tg) e with
  | val =>
    have : itM c.own sc f (tupB tg) e = fun sl s => (f e sl s).bind fun d s1 => R.of s1 (walk d s1) := by
      funext sl s
      unfold itM
      rw [hk]
    rw [this]
    exact ai_val (hf e)
  | rng args =>
    have : itM c.own sc f (tupB tg) e = fun sl s => (many f args sl s).bind fun ds s1 => R.of s1 ((rangeD ds).map fun l => (l, s1)) := by
      funext sl s
      unfold itM
      rw [hk]
    rw [this]
    unfold itK at hk
    split at hk
    · rename_i g pg as pos'
      split at hk
      · cases hk
      rename_i hown
      split at hk
      · rename_i hg
        split at hk
        · rename_i hgs
          cases hk
          subst hg
          exact ai_rng h (by simpa using hown) ho hf hgs.1 hgs.2
        · cases hk
      · split at hk <;> cases hk
    · repeat' (first | (cases hk; done) | split at hk)
    · cases hk
    · cases hk
  | vals o =>
    have : itM c.own sc f (tupB tg) e = fun sl s => (f o sl s).bind fun d s1 => R.of s1 (walkV d s1) := by
      funext sl s
      unfold itM
      rw [hk]
    rw [this]
    unfold itK at hk
    split at hk
    · repeat' (first | (cases hk; done) | split at hk)
    · rename_i o' m apos cpos
      split at hk
      · rename_i hm
        split at hk
        · rename_i hc
          cases hk
          subst hm
          exact ai_vals (hf o) hc.2 hc.1
        · cases hk
      · repeat' (first | (cases hk; done) | split at hk)
    · cases hk
    · cases hk
  | itms o =>
    have : itM c.own sc f (tupB tg) e = fun sl s => (f o sl s).bind fun d s1 => R.of s1 (walkI d s1) := by
      funext sl s
      unfold itM
      rw [hk]
    rw [this]
    unfold itK at hk
    split at hk
    · repeat' (first | (cases hk; done) | split at hk)
    · rename_i o' m apos cpos
      split at hk
      · repeat' (first | (cases hk; done) | split at hk)
      · split at hk
        · rename_i hm
          split at hk
          · rename_i hc
            cases hk
            subst hm
            cases tg with
            | Tuple es kk tpos => exact ai_items (hf o) hc.2.1 hc.1
            | _ => cases hc.2.2
          · cases hk
        · cases hk
    · cases hk
    · cases hk
  | _ =>
    refine bad fun sl s => ?_
    unfold itM
    rw [hk]
theorem setB_of {own : Str → Bool} {tgT : Bool} {e : Expr} (h : setB e = true) : itK own sc tgT e = .no := by
  cases e <;> first | rfl | cases h
end
end AL
set_option Elab.async false
set_option linter.all false
set_option maxRecDepth 100000
set_option maxHeartbeats 4000000
/-! AL22: list comprehensions. -/
namespace AL
open PySem PySem.Spec PyProof.Rows L2
abbrev noW : WX := fun _ _ _ _ => False
section
variable {c : Cfg} {ca : Str → Addr} {T : List (Addr × Str)} {X : Cx} {W : WX} {sc : Scope} {pos : Pos} {G : Env1} {L H : Hp} {s : S} {ρ : List Addr} {F : Hp}
/-- inside a comprehension -/
theorem Sd.blk (h : Sd c ca T X W sc) (s : Shared) (H : Hp) (csc : Scope) (C : Addr) (cl : List (Str × Addr)) (fp : List Addr) : Sd c ca T (X.blk s H csc (compEnvC csc cl C X.env) fp) noW (relS csc sc) where
  N := h.N
  nd := h.nd
  scp := by
    show relabel csc X.env = relS csc sc
    rw [← h.scp]
    rfl
  calm := h.calm
  tk := fun u s' ⟨_, _, _, _, _, _, _, _, _, _, _, _, _, _, _, _, w⟩ => w.elim
  room := h.room
  gl := h.gl
  fns := h.fns
  meth := h.meth
  new := h.new
  blt := h.blt
  attr := h.attr
  exc := h.exc
  exm := h.exm
  excG := h.excG
  tab1 := h.tab1
  tab2 := h.tab2
  told := h.told
/-- a target of a comprehension: it leaves the other slots -/
def tGw (G : Env1) (vs : List Nat) (g : MG) : TG := fun v σ H Q => ∃ d sl s ρ F L, RepD G.ca G.K ρ F d v ∧ SlR G ρ F sl σ ∧ Rel G L H s ρ F ∧ PV G L ρ F (rpS G) (fun σ2 H2 => wipe σ2 vs = wipe σ vs → Q σ2 H2) (g d sl s)
theorem wipe_set {σ : L2.St} {i : Nat} {v : V} : ∀ {vs : List Nat}, i ∈ vs → wipe (σ.set i (some v)) vs = wipe σ vs
  | [], h => by cases h
  | j :: vs, h => by
    unfold wipe
    by_cases hj : i ∈ vs
    · rw [wipe_set hj]
    · rcases List.mem_cons.mp h with e | e
      · subst e
        have : ∀ (ws : List Nat), i ∉ ws → wipe (σ.set i (some v)) ws = (wipe σ ws).set i (some v) := fun ws => by
          induction ws with
          | nil => intro _; rfl
          | cons k ws ih =>
            intro hk
            unfold wipe
            rw [ih (fun z => hk (List.mem_cons_of_mem _ z)), List.set_comm _ _ (fun z => hk (by rw [z]; exact List.mem_cons_self ..))]
        rw [this vs hj, List.set_set]
      · exact absurd e hj
theorem look_map {f : Str × NameKind → Str × NameKind} (hf : ∀ p, (f p).1 = p.1) : ∀ {l : List (Str × NameKind)} {x : Str}, (l.map f).lookup x = ((l.lookup x).map fun k => (f (x, k)).2)
  | [], _ => rfl
  | (n, k) :: l, x => by
    rw [List.map_cons, List.lookup_cons, List.lookup_cons, hf]
    by_cases h : x = n
    · subst h
      simp
    · have : (x == n) = false := beq_eq_false_iff_ne.mpr h
      simp only [this]
      exact look_map hf
theorem relS_look {csc sc : Scope} {x : Str} {k : NameKind} (h : csc.names.lookup x = some k) (hk : k ≠ .free) : (relS csc sc).names.lookup x = some k := by
  unfold relS
  show (csc.names.map fun (n, k) => if (k == .free && sc.kind == .function && sc.names.lookup n == some .cell) then (n, NameKind.cell) else (n, k)).lookup x = _
  rw [look_map (f := fun (p : Str × NameKind) => if (p.2 == .free && sc.kind == .function && sc.names.lookup p.1 == some .cell) then (p.1, NameKind.cell) else (p.1, p.2)) (fun p => by split <;> rfl), h]
  simp [hk]
theorem ixN_own {N : List Str} {csc : Scope} {x : Str} {k : NameKind} {i : Nat} (h : csc.names.lookup x = some k) (hk : k = .local ∨ k = .cell) (hi : ixN N x = some i) : i ∈ ownN N csc := by
  unfold ownN
  refine List.mem_map.mpr ⟨(x, i), ?_, rfl⟩
  unfold ownP
  refine List.mem_filterMap.mpr ⟨(x, k), PySem.mem_of_lookup h, ?_⟩
  rcases hk with rfl | rfl <;> simp [hi]
theorem gw_bad {vs : List Nat} {tg : Expr} : PG X tg (tGw (gx X ca T) vs fun _ _ _ => .bad) := ⟨fun pins s σ H v u Q I r ⟨d, sl, st, ρ, F, L, hd, hs, hr, q⟩ => q.elim⟩
/-- names and tuples of names, inside a comprehension -/
theorem gw_many {vs : List Nat} {f : Expr → MG} (hf : ∀ t, PG X t (tGw (gx X ca T) vs (f t))) : ∀ {ts : List Expr}, ts.any starB = false → PGs X ts (fun ws σ H Q => ∃ ds sl s ρ F L, RepL ca X.K ρ F ds ws ∧ SlR (gx X ca T) ρ F sl σ ∧ Rel (gx X ca T) L H s ρ F ∧ PV (gx X ca T) L ρ F (rpS (gx X ca T)) (fun σ2 H2 => wipe σ2 vs = wipe σ vs → Q σ2 H2) (gMany f ts ds sl s))
  | [], _ => ⟨fun pins s σ H vs us Q I r ⟨ds, sl, st, ρ, F, L, hd, hs, hr, q⟩ => pgs_nil.run pins s σ H vs us Q I r (by
    cases ds with
    | nil => exact ⟨hd, q σ H ρ F (.refl ρ F) hr hs rfl⟩
    | cons d ds => exact q.elim)⟩
  | t :: ts, hn => by
    have hn' := hn
    rw [List.any_cons, Bool.or_eq_false_iff] at hn'
    refine ⟨fun pins s σ H ws us Q I r ⟨ds, sl, st, ρ, F, L, hd, hs, hr, q⟩ => ?_⟩
    refine (pgs_cons (hf t) (gw_many hf hn'.2) (by rw [(noStar_asg hn).1, (noStar_asg hn'.2).1, List.map_cons])).run pins s σ H ws us Q I r ?_
    cases ds with
    | nil => exact q.elim
    | cons d ds =>
      obtain ⟨v, vr, e, h1, h2⟩ := hd
      refine ⟨v, vr, e, d, sl, st, ρ, F, L, h1, hs, hr, ?_⟩
      refine (PV.bind (rp := rpS (gx X ca T)) (f := fun sl1 s1 => gMany f ts ds sl1 s1) q).imp (.refl ρ F) fun _ _ _ σ' H' _ _ _ _ _ q hw => ?_
      obtain ⟨sl1, s1, ρ1, F1, _, l1, r1, hs1, q⟩ := q
      exact ⟨ds, sl1, s1, ρ1, F1, L, RepL.mono l1 _ _ h2, hs1, r1, q.imp (.refl _ _) fun _ _ _ _ _ _ _ _ _ _ q hw2 => q (hw2.trans hw)⟩
theorem gw_gC (h : Sd c ca T X W sc) (s0 : Shared) (H0 : Hp) (csc : Scope) (C : Addr) (cl : List (Str × Addr)) (fp : List Addr) : ∀ (n : Nat) (tg : Expr), PG (X.blk s0 H0 csc (compEnvC csc cl C X.env) fp) tg (tGw (gx X ca T) (ownN c.N csc) (gC c.N csc n tg))
  | 0, tg => gw_bad (X := X.blk s0 H0 csc (compEnvC csc cl C X.env) fp)
  | n + 1, tg => by
    have hb := h.blk s0 H0 csc C cl fp
    have one : ∀ {x : Str} {pos : Pos} {k : NameKind}, csc.names.lookup x = some k → k = .local ∨ k = .cell → PG (X.blk s0 H0 csc (compEnvC csc cl C X.env) fp) (.Name x pos) (tGw (gx X ca T) (ownN c.N csc) (match ixN c.N x with
        | some i => gName i
        | none => fun _ _ _ => .bad)) := fun {x pos k} hk1 hk2 => by
      cases hi : ixN c.N x with
      | none => exact gw_bad (X := X.blk s0 H0 csc (compEnvC csc cl C X.env) fp)
      | some i =>
        have hl := relS_look (csc := csc) (sc := sc) hk1 (by rcases hk2 with rfl | rfl <;> decide)
        refine ⟨fun pins s σ H v u Q I r ⟨d, sl, st, ρ, F, L, hd, hs, hr, q⟩ => ?_⟩
        refine (pg_name (i := i) hb.nd (by rw [hb.N]; exact ixN_at hi) (by
          rw [hb.scp]
          rcases hk2 with rfl | rfl
          · exact .inl hl
          · exact .inr hl) (by
          rcases hk2 with rfl | rfl
          · exact .inr (by rw [hb.scp]; exact hl)
          · exact .inl (by show (csc.names.lookup x == some .cell) = true; rw [hk1]; rfl))).run pins s σ H v u Q I r ?_
        exact q _ H ρ F (.refl ρ F) hr (hs.set i hd) (wipe_set (ixN_own hk1 hk2 hi))
    cases tg with
    | Name x pos =>
      show PG _ _ (tGw (gx X ca T) (ownN c.N csc) (match csc.names.lookup x with
        | some .local => (match ixN c.N x with
          | some i => gName i
          | none => fun _ _ _ => .bad)
        | some .cell => (match ixN c.N x with
          | some i => gName i
          | none => fun _ _ _ => .bad)
        | _ => fun _ _ _ => .bad))
      cases e : csc.names.lookup x with
      | none => exact gw_bad (X := X.blk s0 H0 csc (compEnvC csc cl C X.env) fp)
      | some k =>
        cases k with
        | «local» => exact one e (.inl rfl)
        | cell => exact one e (.inr rfl)
        | _ => exact gw_bad (X := X.blk s0 H0 csc (compEnvC csc cl C X.env) fp)
    | Tuple es k pos =>
      show PG _ _ (tGw (gx X ca T) (ownN c.N csc) (if es.any starB = true then fun _ _ _ => .bad else gTup (gC c.N csc n) es))
      by_cases hs : es.any starB = true
      · rw [if_pos hs]
        exact gw_bad (X := X.blk s0 H0 csc (compEnvC csc cl C X.env) fp)
      · rw [if_neg hs]
        have hn : es.any starB = false := by simpa using hs
        refine ⟨fun pins s σ H v u Q I r ⟨d, sl, st, ρ, F, L, hd, hsl, hr, q⟩ => ?_⟩
        unfold gTup at q
        split at q
        · rename_i l hl
          unfold unpackD at hl
          split at hl
          · rename_i l' ev
            cases hl
            obtain ⟨a, vs, e1, h1, h2⟩ := hr.viewT hd ev
            refine (pg_tup hb.calm (gw_many (X := X.blk s0 H0 csc (compEnvC csc cl C X.env) fp) (gw_gC h s0 H0 csc C cl fp n) hn) (noStar_asg hn).2.1 (noStar_asg hn).2.2).run pins s σ H v u Q I r ⟨a, vs, e1, h1, ?_, l, sl, st, ρ, F, L, h2, hsl, hr, q⟩
            rw [← RepL.length (G := gx X ca T) h2]
            exact gMany_len q
          · cases hl
        · exact q.elim
    | _ => exact gw_bad (X := X.blk s0 H0 csc (compEnvC csc cl C X.env) fp)
/-! ### the new list, kept while it grows -/
theorem Rel.keepNew (r : Rel G L H s ρ F) {a : Addr} (ha : H a = none) (o : HO) (ho : ∀ ps, o ≠ .tbl ps := by intro ps z; cases z) : Rel G (upd L a o) (upd H a o) s ρ F := by
  have r1 := r.other ha o
  have hρ := r.noRho ha
  have hF := r.noF ha
  refine ⟨r1.len, r1.nd, fun b u e => ?_, fun b u e => ?_, fun i q b e1 e2 => ?_, r1.there, r1.tabs, r1.lkb, r1.bsl, r1.disc, r1.ntF, nt_upd r1.ntL ho⟩
  · obtain ⟨g1, g2, g3⟩ := r1.frz b u e
    have hne : b ≠ a := fun z => by
      rw [z, hF] at e
      cases e
    exact ⟨g1, g2, by rw [upd_ne hne]; exact g3⟩
  · by_cases hb : b = a
    · subst hb
      rw [upd_same] at e ⊢
      exact ⟨e, fun j hj => absurd (List.mem_of_getElem? hj) hρ⟩
    · rw [upd_ne hb] at e
      exact r1.lkd b u e
  · have hne : b ≠ a := fun z => hρ (z ▸ List.mem_of_getElem? e2)
    exact (r1.cell i q b e1 e2).lockTo (by rw [upd_ne hne])
theorem tabs_but {T : List (Addr × Str)} {H H' : Hp} (t : LamX.Tabs T H) (e : ∀ b o, H b = some o → (∀ l, o ≠ .lst l) → H' b = some o) : LamX.Tabs T H' := fun p hp => by
  obtain ⟨ps, h1, h2, h3⟩ := t p hp
  refine ⟨ps, e _ _ h1 (fun l z => by cases z), h2, fun pos cv hc => ?_⟩
  obtain ⟨q, e1, e2⟩ := h3 pos cv hc
  exact ⟨q, e1, e _ _ e2 (fun l z => by unfold LamX.CodeO at z; cases z)⟩
theorem Rel.keepSet {a : Addr} {xs ys : List V} (r : Rel G (upd L a (.lst xs)) H s ρ F) (hρ : a ∉ ρ) : Rel G (upd L a (.lst ys)) (upd H a (.lst ys)) s ρ F := by
  refine ⟨r.len, r.nd, fun b u e => ?_, fun b u e => ?_, fun i q b e1 e2 => ?_, fun b hb => ?_, tabs_but r.tabs fun b o e n => ?_, r.lkb, r.bsl, r.disc, r.ntF, fun b ps e => by
    by_cases hb : b = a
    · rw [hb, upd_same] at e
      cases e
    · rw [upd_ne hb] at e
      exact r.ntL b ps (by rw [upd_ne hb]; exact e)⟩
  · obtain ⟨g1, g2, g3⟩ := r.frz b u e
    have hne : b ≠ a := fun z => by
      rw [z, upd_same] at g3
      cases g3
    rw [upd_ne hne] at g3
    exact ⟨by rw [upd_ne hne]; exact g1, g2, by rw [upd_ne hne]; exact g3⟩
  · by_cases hb : b = a
    · subst hb
      rw [upd_same] at e ⊢
      exact ⟨e, fun j hj => absurd (List.mem_of_getElem? hj) hρ⟩
    · rw [upd_ne hb] at e ⊢
      exact r.lkd b u (by rw [upd_ne hb]; exact e)
  · have hne : b ≠ a := fun z => hρ (z ▸ List.mem_of_getElem? e2)
    exact ((r.cell i q b e1 e2).mono (.refl ρ F) (upd_ne hne)).lockTo (by rw [upd_ne hne, upd_ne hne])
  · have hne : b ≠ a := fun z => hρ (z ▸ hb)
    rw [upd_ne hne]
    exact r.there b hb
  · by_cases hb : b ∈ ρ
    · rw [off_in hb] at e
      cases e
    · rw [off_out hb] at e ⊢
      have hne : b ≠ a := fun z => by
        have hH := (r.lkd a _ upd_same).1
        rw [z, hH] at e
        cases e
        exact n _ rfl
      rw [upd_ne hne]
      exact e
/-- no more kept -/
theorem Rel.keepOut {a : Addr} {o : HO} (r : Rel G (upd L a o) H s ρ F) (hρ : a ∉ ρ) (hL : L a = none) : Rel G L H s ρ F := by
  refine ⟨r.len, r.nd, fun b u e => ?_, fun b u e => ?_, fun i q b e1 e2 => ?_, r.there, r.tabs, r.lkb, r.bsl, r.disc, r.ntF, fun b ps e => by
    by_cases hb : b = a
    · rw [hb, hL] at e
      cases e
    · exact r.ntL b ps (by rw [upd_ne hb]; exact e)⟩
  · obtain ⟨g1, g2, g3⟩ := r.frz b u e
    have hne : b ≠ a := fun z => by
      rw [z, upd_same] at g3
      cases g3
    rw [upd_ne hne] at g3
    exact ⟨g1, g2, g3⟩
  · have hne : b ≠ a := fun z => by
      rw [z, hL] at e
      cases e
    exact r.lkd b u (by rw [upd_ne hne]; exact e)
  · have hne : b ≠ a := fun z => hρ (z ▸ List.mem_of_getElem? e2)
    exact (r.cell i q b e1 e2).lockTo (by rw [upd_ne hne])
theorem keep_noρ {L' : Hp} {a : Addr} {o : HO} {s' : S} {ρ' : List Addr} {F' H' : Hp} (r : Rel G L H s ρ F) (hρ : a ∉ ρ) (l : Le ρ F ρ' F') (r' : Rel G L' H' s' ρ' F') (e : s'.lk = s.lk) (hL : L' a = some o) : a ∉ ρ' := fun hm => by
  obtain ⟨j, hj⟩ := List.mem_iff_getElem?.mp hm
  have h1 := ((r'.lkd a o hL).2 j hj).1
  rw [e] at h1
  have h2 := r.lkb j h1
  rw [← r.len] at h2
  have h3 := l.pre j _ (List.getElem?_eq_getElem h2)
  rw [hj] at h3
  cases h3
  exact hρ (List.getElem_mem h2)
theorem wipe_at {σ : L2.St} {j : Nat} : ∀ vs : List Nat, (wipe σ vs)[j]? = if j ∈ vs then (σ[j]?).map (fun _ => none) else σ[j]?
  | [] => by simp [wipe]
  | v :: vs => by
    unfold wipe
    rw [List.getElem?_set]
    by_cases hj : v = j
    · subst hj
      rw [if_pos rfl, if_pos (List.mem_cons_self ..), wipe_length]
      by_cases hl : v < σ.length
      · rw [if_pos hl, List.getElem?_eq_getElem hl]
        rfl
      · rw [if_neg hl, List.getElem?_eq_none (by omega)]
        rfl
    · rw [if_neg hj, wipe_at vs]
      have : (j ∈ v :: vs) ↔ j ∈ vs := by
        rw [List.mem_cons]
        constructor
        · intro h
          rcases h with h | h
          · exact absurd h.symm hj
          · exact h
        · exact .inr
      simp only [this]
theorem wipe_wipe {σ : L2.St} {vs : List Nat} : wipe (wipe σ vs) vs = wipe σ vs := List.ext_getElem? fun j => by
  rw [wipe_at, wipe_at]
  split
  · rw [Option.map_map]
    rfl
  · rfl
/-- a told list, from now on a cell -/
theorem Rel.addCell (r : Rel G L H s ρ F) {p : Addr} {vs : List V} {q : Cell} (hp : H p = some (.lst vs)) (hpr : p ∉ ρ) (hL : L p = none) (hF : F p = none) (hc : CellR G.ca G.K ρ F L H false p q) : Rel G L H { s with st := s.st ++ [q] } (ρ ++ [p]) F := by
  have hlk : s.lk.contains s.st.length = false := by
    cases z : s.lk.contains s.st.length with
    | false => rfl
    | true => exact absurd (r.lkb _ z) (Nat.lt_irrefl _)
  have app : ∀ {i : Nat} {q' : Cell}, (s.st ++ [q])[i]? = some q' → i < s.st.length → s.st[i]? = some q' := fun {i q'} e hl => by
    rw [List.getElem?_append_left hl] at e
    exact e
  refine ⟨by simp [r.len], ?_, fun a u e => ?_, fun a u e => ?_, fun i q' a e1 e2 => ?_, fun a ha => ?_, tabs_but r.tabs fun b o e n => ?_, fun i hi => ?_, fun b hb => Nat.le_trans (r.bsl b hb) (by simp), fun i q' e b hb hi => r.disc i q' (app e (Nat.lt_of_lt_of_le hi (r.bsl b hb))) b hb hi, r.ntF, r.ntL⟩
  · rw [List.nodup_append]
    refine ⟨r.nd, by simp, fun a ha b hb => ?_⟩
    rw [List.mem_singleton] at hb
    rw [hb]
    exact fun e => hpr (e ▸ ha)
  · obtain ⟨h1, h2, h3⟩ := r.frz a u e
    refine ⟨h1, fun hm => ?_, h3⟩
    rcases List.mem_append.mp hm with h | h
    · exact h2 h
    · rw [List.mem_singleton] at h
      rw [h, hF] at e
      cases e
  · obtain ⟨h1, h3⟩ := r.lkd a u e
    refine ⟨h1, fun i hi => ?_⟩
    by_cases hl : i < ρ.length
    · rw [List.getElem?_append_left hl] at hi
      exact h3 i hi
    · rw [List.getElem?_append_right (by omega)] at hi
      have := List.mem_of_getElem? hi
      rw [List.mem_singleton] at this
      rw [this, hL] at e
      cases e
  · by_cases hl : i < s.st.length
    · have hl' : i < ρ.length := by rw [r.len]; exact hl
      rw [List.getElem?_append_left hl'] at e2
      exact (r.cell i q' a (app e1 hl) e2).mono (Le.app ρ F p) rfl
    · have e1' : (s.st ++ [q])[i]? = some q' := e1
      rw [List.getElem?_append_right (by omega)] at e1'
      have hl' : ¬ i < ρ.length := by rw [r.len]; exact hl
      rw [List.getElem?_append_right (by omega)] at e2
      have hi : i = s.st.length := by
        have := (List.getElem?_eq_some_iff.mp e1').1
        simp at this
        omega
      subst hi
      have ea := List.mem_of_getElem? e2
      rw [List.mem_singleton] at ea
      have eq := List.mem_of_getElem? e1'
      rw [List.mem_singleton] at eq
      subst ea eq
      show CellR _ _ _ _ _ _ (s.lk.contains s.st.length) _ _
      rw [hlk]
      exact hc.mono (Le.app ρ F a) rfl
  · rcases List.mem_append.mp ha with h | h
    · exact r.there a h
    · rw [List.mem_singleton] at h
      rw [h, hp]
      simp
  · by_cases hb : b ∈ ρ
    · rw [off_in hb] at e
      cases e
    · rw [off_out hb] at e
      have hne : b ≠ p := fun z => by
        rw [z, hp] at e
        cases e
        exact n _ rfl
      rw [off_out (by simp [hb, hne])]
      exact e
  · have := r.lkb i hi
    show i < (s.st ++ [q]).length
    rw [List.length_append]
    omega
/-- the list that was kept, as a tree or a cell -/
theorem made_at {p : Pos} {l : List D} {vs : List V} {Q : VK} {a : Addr} (q : PV G L ρ F (rpD G) Q (made c p (.lst l) s)) (r : Rel G L H s ρ F) (h : RepL G.ca G.K ρ F l vs) (ha : H a = some (.lst vs)) (hρ : a ∉ ρ) (hL : L a = none) (hF : F a = none) : Q (.ref a) H := by
  unfold made at q
  split at q
  · have r' := r.addCell (q := .lst l) ha hρ hL hF ⟨vs, ha, h⟩
    refine q (.ref a) H (ρ ++ [a]) F (Le.app ρ F a) r' ⟨a, ?_, rfl⟩
    rw [← r.len, List.getElem?_append_right (Nat.le_refl _), Nat.sub_self]
    rfl
  · obtain ⟨r', l'⟩ := r.addF ha hρ hL hF
    exact q (.ref a) H ρ _ l' r' ⟨a, vs, rfl, .inl upd_same, RepL.mono l' _ _ h⟩
end
end AL
set_option Elab.async false
set_option linter.all false
set_option maxRecDepth 100000
set_option maxHeartbeats 4000000
/-! AL23: list comprehensions, the rule. -/
namespace AL
open PySem PySem.Spec PyProof.Rows L2
def Post {α : Type} (P : α → S → Prop) : R α → Prop
  | .ok a s => P a s
  | _ => False
theorem Post.bind {α β : Type} {P : β → S → Prop} {r : R α} {f : α → S → R β} (h : Post P (r.noErr.bind f)) : ∃ a s, r = .ok a s ∧ Post P (f a s) := by
  cases r with
  | ok a s => exact ⟨a, s, rfl, h⟩
  | err x s => exact h.elim
  | bad => exact h.elim
theorem Post.bind2 {α β : Type} {P : β → S → Prop} {r : R α} {f : α → S → R β} (h : Post P (r.bind f)) : Post (fun a s => Post P (f a s)) r := by
  cases r with
  | ok a s => exact h
  | err x s => exact h
  | bad => exact h
theorem Post.imp {α : Type} {P P' : α → S → Prop} {r : R α} (h : Post P r) (k : ∀ a s, P a s → P' a s) : Post P' r := by
  cases r with
  | ok a s => exact k a s h
  | err x s => exact h
  | bad => exact h
section
variable {c : Cfg} {ca : Str → Addr} {T : List (Addr × Str)} {X : Cx} {W : WX} {sc : Scope} {pos : Pos}
theorem compL_ne {g : MG} {t : MT} {e : ME} {sl : Sl} : ∀ (l : List D) (s : S), (compL g t e sl l s).isErr = false
  | [], s => rfl
  | x :: xs, s => by
    unfold compL
    cases g x sl s with
    | err _ _ => rfl
    | bad => rfl
    | ok sl1 s1 =>
      show (((t sl1 s1).noErr).bind _).isErr = false
      cases t sl1 s1 with
      | err _ _ => rfl
      | bad => rfl
      | ok b s2 =>
        show (if b = true then _ else _ : R (List D)).isErr = false
        split
        · cases e sl1 s2 with
          | err _ _ => rfl
          | bad => rfl
          | ok d s3 =>
            show (if s3.lk = s.lk then _ else _ : R (List D)).isErr = false
            split
            · have := compL_ne (g := g) (t := t) (e := e) (sl := sl) xs s3
              cases hh : compL g t e sl xs s3 with
              | err _ _ => rw [hh] at this; cases this
              | bad => rfl
              | ok _ _ => rfl
            · rfl
        · split
          · exact compL_ne xs s2
          · rfl
theorem wipe_rel {G : Env1} {ρ : List Addr} {F : Hp} {sl : Sl} {σ : L2.St} (h : SlR G ρ F sl σ) : ∀ vs : List Nat, SlR G ρ F (wipeS sl vs) (wipe σ vs)
  | [] => h
  | v :: vs => by
    have ih := wipe_rel h vs
    unfold wipeS wipe
    refine ⟨by rw [List.length_set, List.length_set, ih.len], fun j d e => ?_⟩
    by_cases hj : v = j
    · subst hj
      rw [List.getElem?_set] at e
      simp only [if_true] at e
      split at e <;> cases e
    · rw [List.getElem?_set_ne hj] at e
      obtain ⟨w, e1, r⟩ := ih.at_ j d e
      exact ⟨w, by rw [List.getElem?_set_ne hj]; exact e1, r⟩
theorem lc_weak {mi : Sl → S → R (List D × S)} {g : MG} {t : MT} {me : ME} {vs : List Nat} {σ : L2.St} {H : Hp} {Q : VK}
    (q : tE (gx X ca T) W (fun sl s => ((mi sl s).bind fun ls s1 => unlk s1 ls.2 (compL g t me (wipeS sl vs) ls.1 ls.2)).bind fun l s1 => made c pos (.lst l) s1) σ H Q) :
    tLc (tI X (gx X ca T) W mi) (tGw (gx X ca T) vs g) (tT (gx X ca T) noW t) (tE (gx X ca T) noW me) vs σ H (fun v => UnO X (Q v)) := by
  obtain ⟨sl, s, ρ, F, L, hs, hr, hp⟩ := q
  refine ⟨sl, s, ρ, F, L, hs, hr, ?_⟩
  dsimp only at hp
  cases e : mi sl s with
  | err x s' => rw [e] at hp; exact hp
  | bad => rw [e] at hp; exact hp
  | ok ls s1 =>
    rw [e] at hp
    have hp : PB (gx X ca T) L ρ F W σ (rpD (gx X ca T)) Q ((unlk s1 ls.2 (compL g t me (wipeS sl vs) ls.1 ls.2)).bind fun l s1 => made c pos (.lst l) s1) := hp
    intro J H1 ρ1 F1 L1 U l1 r1 wk un hz Da hD
    -- what the turns give
    have post : Post (fun l s4 => s4.lk = ls.2.lk ∧ PV (gx X ca T) L ρ F (rpD (gx X ca T)) Q (made c pos (.lst l) { s4 with lk := s1.lk })) (compL g t me (wipeS sl vs) ls.1 ls.2) := by
      have ne := compL_ne (g := g) (t := t) (e := me) (sl := wipeS sl vs) ls.1 ls.2
      cases hc : compL g t me (wipeS sl vs) ls.1 ls.2 with
      | err _ _ => rw [hc] at ne; cases ne
      | bad => rw [hc] at hp; exact hp.elim
      | ok l s4 =>
        rw [hc] at hp
        have hp : PB (gx X ca T) L ρ F W σ (rpD (gx X ca T)) Q ((if s4.lk = ls.2.lk then R.ok l { s4 with lk := s1.lk } else R.bad).bind fun l s1 => made c pos (.lst l) s1) := hp
        by_cases hk : s4.lk = ls.2.lk
        · rw [if_pos hk] at hp
          exact ⟨hk, hp.pv made_ne⟩
        · rw [if_neg hk] at hp
          exact hp.elim
    have hL1 : L1 Da = none := r1.noL hD
    have r10 := r1.keepNew hD (.lst [])
    have exl : ∀ o, ExL L1 (upd L1 Da o) := fun o a u z => by
      have hne : a ≠ Da := fun y => by
        rw [y, hL1] at z
        cases z
      rw [upd_ne hne]
      exact z
    have hsw : ∀ {ρ' F'}, Le ρ1 F1 ρ' F' → SlR (gx X ca T) ρ' F' (wipeS sl vs) (wipe σ vs) := fun l' => wipe_rel ((hs.mono l1).mono l') vs
    -- the invariant
    let Iv : Nat → Hp → Prop := fun i H => ∃ acc vacc s ρ' F', i ≤ ls.1.length ∧ acc.length ≤ i ∧ s.lk = ls.2.lk ∧ Le ρ1 F1 ρ' F' ∧ Da ∉ ρ' ∧ Rel (gx X ca T) (upd L1 Da (.lst vacc)) H s ρ' F' ∧ RepL ca X.K ρ' F' acc vacc ∧
      Post (fun r s4 => s4.lk = ls.2.lk ∧ PV (gx X ca T) L ρ F (rpD (gx X ca T)) Q (made c pos (.lst (acc ++ r)) { s4 with lk := s1.lk })) (compL g t me (wipeS sl vs) (ls.1.drop i) s)
    refine ⟨fun i m H => m = ls.1.length - i ∧ Iv i H, ⟨ls.1.length, rfl, [], [], ls.2, ρ1, F1, Nat.zero_le _, Nat.le_refl _, rfl, .refl _ _, r1.noRho hD, r10, rfl, post⟩, ?_⟩
    rintro i m H ⟨rfl, acc, vacc, s, ρ', F', hle, hacc, hlk, l', hDρ, r, ra, po⟩
    by_cases hlt : i < ls.1.length
    · refine .inr ⟨wk.go i H s ρ' F' _ (exl _) hlt l' r, Iv (i + 1), fun H' iv => ⟨ls.1.length - (i + 1), by omega, rfl, iv⟩, fun x H' hy => ?_⟩
      obtain ⟨d, F2, hd, l2, r2, rd⟩ := wk.yld i H s ρ' F' _ x H' (exl _) hlt l' r hy
      have ed : ls.1.drop i = d :: ls.1.drop (i + 1) := by
        rw [List.drop_eq_getElem_cons hlt]
        rw [List.getElem?_eq_getElem hlt] at hd
        cases hd
        rfl
      rw [ed] at po
      unfold compL at po
      obtain ⟨sl1, st1, eg, po⟩ := po.bind
      obtain ⟨b, st2, et, po⟩ := po.bind
      refine ⟨d, wipeS sl vs, s, ρ', F2, _, rd, hsw (l'.trans l2), r2, ?_⟩
      rw [eg]
      intro σ2 H2 ρ3 F3 l3 r3 hs3 hw
      refine ⟨hw.trans wipe_wipe, sl1, st1, ρ3, F3, _, hs3, r3, ?_⟩
      rw [et]
      intro b' H3 ρ4 F4 l4 r4 hb
      have hb : b = b' := hb
      subst hb
      have lall := (l2.trans l3).trans l4
      cases b with
      | false =>
        rw [if_neg (by simp)] at po ⊢
        by_cases hk : st2.lk = s.lk
        · rw [if_pos hk] at po
          exact ⟨acc, vacc, st2, ρ4, F4, hlt, Nat.le_succ_of_le hacc, hk.trans hlk, l'.trans lall, keep_noρ r hDρ lall r4 hk upd_same, r4, RepL.mono lall _ _ ra, po⟩
        · rw [if_neg hk] at po
          exact po.elim
      | true =>
        rw [if_pos rfl] at po ⊢
        obtain ⟨d', st3, ee, po⟩ := po.bind
        refine ⟨sl1, st2, ρ4, F4, _, hs3.mono l4, r4, ?_⟩
        rw [ee]
        intro y H4 ρ5 F5 l5 r5 hy'
        have hy' : RepD ca X.K ρ5 F5 d' y := hy'
        by_cases hk : st3.lk = s.lk
        · rw [if_pos hk] at po
          have hn5 := keep_noρ r hDρ (lall.trans l5) r5 hk upd_same
          have ra5 := RepL.mono (lall.trans l5) _ _ ra
          have e1 := RepL.length (G := gx X ca T) ra
          refine ⟨vacc, (r5.lkd Da _ upd_same).1, by omega, acc ++ [d'], vacc ++ [y], st3, ρ5, F5, hlt, by rw [List.length_append, List.length_singleton]; omega, hk.trans hlk, l'.trans (lall.trans l5), hn5, r5.keepSet hn5, RepL.append (G := gx X ca T) (l' := [d']) (vs' := [y]) ra5 ⟨y, [], rfl, hy', rfl⟩, ?_⟩
          refine po.bind2.imp fun r s4 hh => ?_
          rw [List.append_assoc]
          exact hh
        · rw [if_neg hk] at po
          exact po.elim
    · have e : i = ls.1.length := by omega
      subst e
      refine .inl ⟨wk.stop H s ρ' F' _ (exl _) l' r, ?_⟩
      rw [List.drop_length] at po
      have po : s.lk = ls.2.lk ∧ PV (gx X ca T) L ρ F (rpD (gx X ca T)) Q (made c pos (.lst (acc ++ [])) { s with lk := s1.lk }) := po
      rw [List.append_nil] at po
      have hH := (r.lkd Da _ upd_same).1
      have rk := r.keepOut hDρ hL1
      have ru := un.back H s ρ' F' l' rk po.1
      have hF : F' Da = none := by
        cases z : F' Da with
        | none => rfl
        | some u =>
          have := (r.frz Da u z).2.2
          rw [upd_same] at this
          cases this
      refine un.un rk (P := Q (.ref Da)) (made_at (PV.imp po.2 (l1.trans l') fun _ _ _ _ _ _ _ _ _ _ q => q) ru ra ?_ hDρ ((un.back H1 ls.2 ρ1 F1 (.refl _ _) r1 rfl).noL ?_) hF)
      · rw [un.at_ hL1]
        exact hH
      · rw [un.at_ hL1]
        exact hD
end
end AL
set_option Elab.async false
set_option linter.all false
set_option maxRecDepth 100000
set_option maxHeartbeats 4000000
/-! AL24: list comprehensions in an expression, stored into a name. -/
namespace AL
open PySem PySem.Spec PyProof.Rows L2
/-- the parts of the evaluator are sound -/
structure EvOk (c : Cfg) (ca : Str → Addr) (T : List (Addr × Str)) (p : Ev) (P : Program) (w : World) (K : PySem.W.Frag) : Prop where
  ok : ∀ (X : Cx) (W : WX) (sc : Scope), X.prog = P → X.w = w → X.K = K → Sd c ca T X W sc → (∀ e, PE X e (tE (gx X ca T) W (p.e sc e))) ∧ ∀ e, PT X e (tT (gx X ca T) W (p.t sc e))
  lam : ∀ (X : Cx) (W : WX) (sc : Scope), 0 < c.lam → X.prog = P → X.w = w → X.K = K → Sd c.less ca T X W sc → (∀ e, PE X e (tE (gx X ca T) W (p.l sc e))) ∧ ∀ e, PT X e (tT (gx X ca T) W (p.lt sc e))
section
variable {c : Cfg} {ca : Str → Addr} {T : List (Addr × Str)} {X : Cx} {W : WX} {sc : Scope} {pos : Pos}
theorem as_tests {X : Cx} {p : Ev} (ht : ∀ e, PT X e (tT (gx X ca T) W (p.t sc e))) : ∀ ifs : List Expr, PTs X ifs (tT (gx X ca T) W (tests p sc ifs))
  | [] => ⟨fun pins s σ H Q I ⟨sl, st, ρ, F, L, hs, hr, hp⟩ => pts_nil.run pins s σ H Q I (hp true H ρ F (.refl ρ F) hr rfl)⟩
  | [a] => pts_one (ht a)
  | _ :: _ :: _ => ⟨fun pins s σ H Q I ⟨sl, st, ρ, F, L, hs, hr, hp⟩ => hp.elim⟩
theorem ownP_snd {N : List Str} {csc : Scope} : (ownP N csc).map (·.2) = ownN N csc := rfl
section
variable {p : Ev} {elt tg iter : Expr} {ifs : List Expr} {csc : Scope} {p' : Pos}
theorem ae_lc (h : Sd c ca T X W sc) (hic : c.isC ("range" : Str) = false) (hE : EvOk c ca T p X.prog X.w X.K) : PE X (.ListComp elt [⟨tg, iter, ifs, 0⟩] csc pos) (tE (gx X ca T) W fun sl s => (listM c p sc elt tg iter ifs csc sl s).bind fun l s1 => made c p' (.lst l) s1) := by
  by_cases hb : blkC c.N sc csc (ownP c.N csc) = true
  · by_cases hset : setB iter = true
    · exact PE.never fun σ H Q ⟨sl, s, ρ, F, L, hs, hr, hp⟩ => by
        dsimp only at hp
        unfold listM at hp
        rw [if_pos hb] at hp
        have : itM c.own sc (p.e sc) (tupB tg) iter sl s = .bad := by
          unfold itM
          rw [setB_of hset]
        rw [this] at hp
        exact hp
    · have hset : setB iter = false := by simpa using hset
      have ok : BlkOk X.N X.env.scope csc (ownP c.N csc) := by
        rw [h.N, h.scp]
        exact blkOk_by hb
      refine (pe_lc (own := ownP c.N csc) (te := tE (gx X ca T) noW (p.e (relS csc sc) elt)) (tt := tT (gx X ca T) noW (tests p (relS csc sc) ifs)) h.calm h.nd (ai_it h hic (hE.ok X W sc rfl rfl rfl h).1 iter) ok (fun s H C cl fp => gw_gC h s H csc C cl fp 4 tg) (fun s H C cl fp => as_tests (hE.ok (X.blk s H csc (compEnvC csc cl C X.env) fp) noW _ rfl rfl rfl (h.blk s H csc C cl fp)).2 ifs)
        (fun s H C cl fp => (hE.ok (X.blk s H csc (compEnvC csc cl C X.env) fp) noW _ rfl rfl rfl (h.blk s H csc C cl fp)).1 elt) (by intro x; cases iter <;> first | rfl | cases hset)).unO.weak fun σ H Q q => ?_
      refine lc_weak (X := X) (c := c) (pos := p') (vs := ownN c.N csc) (mi := itM c.own sc (p.e sc) (tupB tg) iter) (g := gC c.N csc 4 tg) (t := tests p (relS csc sc) ifs) (me := p.e (relS csc sc) elt) ?_
      obtain ⟨sl, s, ρ, F, L, hs, hr, hp⟩ := q
      refine ⟨sl, s, ρ, F, L, hs, hr, ?_⟩
      dsimp only at hp
      unfold listM at hp
      rw [if_pos hb] at hp
      exact hp
  · exact PE.never fun σ H Q ⟨sl, s, ρ, F, L, hs, hr, hp⟩ => by
      dsimp only at hp
      unfold listM at hp
      rw [if_neg hb] at hp
      exact hp
/-- name = [..] on one line -/
theorem as_lc (h : Ss c ca T X W sc) (hic : c.isC ("range" : Str) = false) (hE : EvOk c ca T p X.prog X.w X.K) {x : Str} {px spos : Pos} {i : Nat} (hi : ixN c.N x = some i) (hl : sc.names.lookup x = some .local) (hline : (px.line == pos.line) = true) (hown : (csc.names.any fun (n, k) => n == x && (k == .local || k == .cell)) = false) :
    PS X (.Assign [.Name x px] (.ListComp elt [⟨tg, iter, ifs, 0⟩] csc pos) spos) (tS (gx X ca T) W fun sl s => ((listM c p sc elt tg iter ifs csc sl s).bind fun l s1 => made c p' (.lst l) s1).sbind sl fun d s1 => ((gName i d sl s1).noErr).sbind sl fun sl1 s2 => .nx sl1 s2) := by
  have never : ∀ {st : Stmt}, (∀ sl s, listM c p sc elt tg iter ifs csc sl s = .bad) → PS X st (tS (gx X ca T) W fun sl s => ((listM c p sc elt tg iter ifs csc sl s).bind fun l s1 => made c p' (.lst l) s1).sbind sl fun d s1 => ((gName i d sl s1).noErr).sbind sl fun sl1 s2 => .nx sl1 s2) := fun {st} hb => PS.never fun D σ H ⟨sl, s, ρ, F, L, hs, hr, hp⟩ => by
    dsimp only at hp
    rw [hb] at hp
    exact hp
  by_cases hb : blkC c.N sc csc (ownP c.N csc) = true
  rotate_left
  · exact never fun sl s => by
      unfold listM
      rw [if_neg hb]
  by_cases hset : setB iter = true
  · exact never fun sl s => by
      unfold listM
      rw [if_pos hb]
      have : itM c.own sc (p.e sc) (tupB tg) iter sl s = .bad := by
        unfold itM
        rw [setB_of hset]
      rw [this]
      rfl
  have hset : setB iter = false := by simpa using hset
  have ok : BlkOk X.N X.env.scope csc (ownP c.N csc) := by
    rw [h.N, h.scp]
    exact blkOk_by hb
  refine (ps_setLc (i := i) (own := ownP c.N csc) (te := tE (gx X ca T) noW (p.e (relS csc sc) elt)) (tt := tT (gx X ca T) noW (tests p (relS csc sc) ifs)) h.calm h.nd (by rw [h.N]; exact ixN_at hi) (by rw [h.scp]; exact hl) (sw_true h.kind (by rw [h.scp]; exact hl) hline hown) (ai_it h.toSd hic (hE.ok X W sc rfl rfl rfl h.toSd).1 iter) ok (fun s H C cl fp => gw_gC h.toSd s H csc C cl fp 4 tg) (fun s H C cl fp => as_tests (hE.ok (X.blk s H csc (compEnvC csc cl C X.env) fp) noW _ rfl rfl rfl (h.toSd.blk s H csc C cl fp)).2 ifs)
    (fun s H C cl fp => (hE.ok (X.blk s H csc (compEnvC csc cl C X.env) fp) noW _ rfl rfl rfl (h.toSd.blk s H csc C cl fp)).1 elt) (by intro x; cases iter <;> first | rfl | cases hset)).unO.weak fun D σ H q => ?_
  have q := tS_bind (rp := rpD (gx X ca T)) (m := fun sl s => (listM c p sc elt tg iter ifs csc sl s).bind fun l s1 => made c p' (.lst l) s1) (f := fun sl d s1 => ((gName i d sl s1).noErr).sbind sl fun sl1 s2 => .nx sl1 s2) q
  have q2 : tE (gx X ca T) W (fun sl s => ((itM c.own sc (p.e sc) (tupB tg) iter sl s).bind fun ls s1 => unlk s1 ls.2 (compL (gC c.N csc 4 tg) (tests p (relS csc sc) ifs) (p.e (relS csc sc) elt) (wipeS sl (ownN c.N csc)) ls.1 ls.2)).bind fun l s1 => made c p' (.lst l) s1) σ H fun v H' => D.nx (σ.set i (some v)) H' := by
    obtain ⟨sl, s, ρ, F, L, hs, hr, hp⟩ := q
    refine ⟨sl, s, ρ, F, L, hs, hr, ?_⟩
    dsimp only at hp
    unfold listM at hp
    rw [if_pos hb] at hp
    refine hp.imp (.refl ρ F) fun _ _ _ v H' _ _ _ _ _ q => ?_
    obtain ⟨sl, d, s', ρ, F, L, h1, h2, h3, h4⟩ := q
    exact h4 _ H' ρ F (.refl ρ F) (h1.set i h3) h2
  exact lc_weak (X := X) (c := c) (pos := p') (vs := ownN c.N csc) q2
end
/-- raise C(e) -/
theorem as_raise (h : Ss c ca T X W sc) {C : Str} {e : Expr} {me : ME} {p1 p3 pos : Pos} (hc : c.exc C = true) (hg : glN sc C = true) (hs : starB e = false) (he : PE X e (tE (gx X ca T) W me)) : PS X (.Raise (some (.Call (.Name C p1) [e] [] p3)) none pos) (tS (gx X ca T) W fun sl s => (me sl s).sbind sl fun _ s1 => .er ⟨C, none⟩ sl s1) := by
  obtain ⟨⟨bmB, B, newId, initId, F, q⟩, gC, kC, r1, r2⟩ := h.exc C hc
  obtain ⟨gl, hdb⟩ := glN_ok h.toSd hg
  exact (ps_raise h.calm h.tk (SkE.pmk_own1 F q gC kC (raises_own r1 r2) gl he (star_ok hs) hdb)).weak fun D σ H q => tE.imp (tS_bind (rp := rpD (gx X ca T)) (f := fun sl _ s1 => .er ⟨C, none⟩ sl s1) q) fun v H1 ⟨sl, d, s1, ρ, F, L, h1, h2, h3, h4⟩ => h4 _ _ σ H1 ρ F (.refl ρ F) h1 h2 ⟨rfl, rfl⟩
end
end AL
set_option Elab.async false
set_option linter.all false
set_option maxRecDepth 100000
set_option maxHeartbeats 4000000
/-! AL25: tables of code objects grow. -/
namespace AL
open PySem PySem.Spec PyProof.Rows L2
section
variable {G : Env1} {L H H1 : Hp} {s : S} {ρ : List Addr} {F : Hp}
/-- what stands at a cell is no table, no code object -/
theorem Rel.cellO (r : Rel G L H s ρ F) {a : Addr} (ha : a ∈ ρ) : ∃ u, H a = some u ∧ (∀ ps, u ≠ .tbl ps) ∧ ∀ φ, u ≠ .ext φ := by
  obtain ⟨i, hi⟩ := List.mem_iff_getElem?.mp ha
  have hl : i < s.st.length := by
    rw [← r.len]
    exact (List.getElem?_eq_some_iff.mp hi).1
  have hc := r.cell i _ a (List.getElem?_eq_getElem hl) hi
  have rd : ∀ u, (∀ ps, u ≠ HO.tbl ps) → (∀ φ, u ≠ HO.ext φ) → (if s.lk.contains i = true then Rd L a u else H a = some u) → ∃ u, H a = some u ∧ (∀ ps, u ≠ .tbl ps) ∧ ∀ φ, u ≠ .ext φ := fun u h1 h2 h3 => by
    rcases ct_rd r h3 with h | ⟨o, h⟩
    · exact ⟨u, h, h1, h2⟩
    · exact ⟨_, h, fun ps z => (by cases z), fun φ z => (by cases z)⟩
  cases hq : s.st[i] with
  | lst l =>
    rw [hq] at hc
    obtain ⟨vs, h1, _⟩ := hc
    exact rd _ (fun ps z => by cases z) (fun φ z => by cases z) h1
  | dk l =>
    rw [hq] at hc
    obtain ⟨vs, h1, _⟩ := hc
    exact rd _ (fun ps z => by cases z) (fun φ z => by cases z) h1
  | dt l =>
    rw [hq] at hc
    obtain ⟨vs, h1, _⟩ := hc
    exact rd _ (fun ps z => by cases z) (fun φ z => by cases z) h1
  | ins C l =>
    rw [hq] at hc
    obtain ⟨dx, vs, h1, _⟩ := hc
    exact ⟨_, h1, fun ps z => (by cases z), fun φ z => (by cases z)⟩
theorem Rel.extN (r : Rel G L H s ρ F) (e : LamX.ExtN H H1) (t : LamX.Tabs G.T H1) : Rel G L H1 s ρ F := by
  refine ⟨r.len, r.nd, fun a u h => ?_, fun a u h => ?_, fun i c a e1 e2 => ?_, fun a ha => ?_, fun p hp => ?_, r.lkb, r.bsl, r.disc, r.ntF, r.ntL⟩
  · obtain ⟨h1, h2⟩ := r.frz a u h
    exact ⟨e a u h1 fun ps z => r.ntF a ps (by rw [h, z]), h2⟩
  · obtain ⟨h1, h2⟩ := r.lkd a u h
    exact ⟨e a u h1 fun ps z => r.ntL a ps (by rw [h, z]), h2⟩
  · obtain ⟨u, h1, h2, _⟩ := r.cellO (List.mem_of_getElem? e2)
    exact (r.cell i c a e1 e2).mono (.refl ρ F) (by rw [e a u h1 h2, h1])
  · obtain ⟨u, h1, h2, _⟩ := r.cellO ha
    rw [e a u h1 h2]
    simp
  · obtain ⟨ps, h1, h2, h3⟩ := t p hp
    have out : ∀ b u, H1 b = some u → ((∃ ps, u = .tbl ps) ∨ ∃ φ, u = .ext φ) → off ρ H1 b = some u := fun b u hb hu => by
      have : b ∉ ρ := fun hm => by
        obtain ⟨w, g1, g2, g3⟩ := r.cellO hm
        rw [e b w g1 g2] at hb
        cases hb
        rcases hu with ⟨ps, z⟩ | ⟨φ, z⟩
        · exact g2 ps z
        · exact g3 φ z
      rw [off_out this]
      exact hb
    refine ⟨ps, out _ _ h1 (.inl ⟨ps, rfl⟩), h2, fun pos cv hc => ?_⟩
    obtain ⟨q, e1, e2⟩ := h3 pos cv hc
    exact ⟨q, e1, out _ _ e2 (.inr ⟨_, rfl⟩)⟩
theorem Rel.tabsH (r : Rel G L H s ρ F) : LamX.Tabs G.T H := r.tabs.ext fun b u e => by
  by_cases hb : b ∈ ρ
  · rw [off_in hb] at e
    cases e
  · rw [off_out hb] at e
    exact e
end
end AL
set_option Elab.async false
set_option linter.all false
set_option maxRecDepth 100000
set_option maxHeartbeats 4000000
/-! AL26: one step of the evaluator. -/
namespace AL
open PySem PySem.Spec PyProof.Rows L2
section
variable {c : Cfg} {ca : Str → Addr} {T : List (Addr × Str)} {X : Cx} {W : WX} {sc : Scope} {p : Ev}
/-- expressions; what is told apart elsewhere: dict displays, calls of names -/
theorem stepE_ok (h : Sd c ca T X W sc) (hic : c.isC ("range" : Str) = false) (hE : EvOk c ca T p X.prog X.w X.K)
    (hD : ∀ ks vs pos, PE X (.Dict ks vs pos) (tE (gx X ca T) W (stepE c p sc (.Dict ks vs pos)))) (hC : ∀ f pf args kws pos, PE X (.Call (.Name f pf) args kws pos) (tE (gx X ca T) W (stepE c p sc (.Call (.Name f pf) args kws pos)))) :
    ∀ e, PE X e (tE (gx X ca T) W (stepE c p sc e)) := by
  obtain ⟨he, ht⟩ := hE.ok X W sc rfl rfl rfl h
  intro e
  cases e with
  | Constant v j pos => exact ae_const
  | Name x pos => exact ae_name h
  | BinOp a op b pos => exact ae_bin (fun _ _ _ => binD_ne) (op_all op) (he a) (he b)
  | UnaryOp op a pos =>
    cases op with
    | Not => exact ae_not (he a)
    | USub => exact ae_neg (he a)
    | _ => exact ae_bad
  | BoolOp op vs pos =>
    cases op with
    | And => exact ae_andV he vs
    | Or => exact ae_orV he vs
  | Compare a ops bs pos => exact ae_compare h.units he ops a bs
  | IfExp t a b pos => exact ae_ife (ht t) (he a) (he b)
  | Tuple es k pos =>
    show PE X _ (tE (gx X ca T) W (if es.any starB = false ∧ es.length ≤ 1000 then _ else badE))
    by_cases hc : es.any starB = false ∧ es.length ≤ 1000
    · rw [if_pos hc]
      exact ae_tuple he hc.1 hc.2
    · rw [if_neg hc]
      exact ae_bad
  | List es pos =>
    show PE X _ (tE (gx X ca T) W (if es.any starB = false ∧ es.length ≤ 1000 then _ else badE))
    by_cases hc : es.any starB = false ∧ es.length ≤ 1000
    · rw [if_pos hc]
      exact ae_list he hc.1 hc.2
    · rw [if_neg hc]
      exact ae_bad
  | Dict ks vs pos => exact hD ks vs pos
  | Attribute o f pos =>
    show PE X _ (tE (gx X ca T) W (if superB o = true then badE else una (atM f) (p.e sc o)))
    by_cases hs : superB o = true
    · rw [if_pos hs]
      exact ae_bad
    · rw [if_neg hs]
      exact ae_attr (he o) (by simpa using hs)
  | Subscript o k pos =>
    cases k with
    | Slice lo hi st p2 =>
      cases st with
      | none => exact ae_slice he o lo hi p2
      | some z => exact ae_bad
    | _ => exact ae_ix ixM_ne (IxR_all (by have := h.units; omega)) (he o) (he _) (plainIx rfl)
  | ListComp elt gs csc pos =>
    rcases gs with _ | ⟨⟨tg, iter, ifs, n⟩, _ | ⟨g2, r⟩⟩
    · exact ae_bad
    · by_cases hn : n = 0
      · subst hn
        exact ae_lc h hic hE
      · have : stepE c p sc (.ListComp elt [⟨tg, iter, ifs, n⟩] csc pos) = badE := by
          unfold stepE
          split <;> first | rfl | simp_all
        rw [this]
        exact ae_bad
    · have : stepE c p sc (.ListComp elt (⟨tg, iter, ifs, n⟩ :: g2 :: r) csc pos) = badE := by
        unfold stepE
        split <;> first | rfl | simp_all
      rw [this]
      exact ae_bad
  | Call fn args kws pos =>
    cases fn with
    | Name f pf => exact hC f pf args kws pos
    | Attribute o m apos =>
      cases kws with
      | cons _ _ => exact ae_bad
      | nil =>
        show PE X _ (tE (gx X ca T) W (if callOk o apos pos args = false then badE else _))
        by_cases hc : callOk o apos pos args = false
        · rw [if_pos hc]
          exact ae_bad
        · rw [if_neg hc]
          exact ae_meth h methL_ok (methK_ok (by have := h.units; omega)) methS_ok he (by simpa using hc)
    | _ => exact ae_bad
  | _ => exact ae_bad
theorem stepT_ok (h : Sd c ca T X W sc) (hE : EvOk c ca T p X.prog X.w X.K) (hS : ∀ e, PE X e (tE (gx X ca T) W (stepE c p sc e))) : ∀ e, PT X e (tT (gx X ca T) W (stepT c p sc e)) := by
  obtain ⟨he, ht⟩ := hE.ok X W sc rfl rfl rfl h
  intro e
  cases e with
  | UnaryOp op a pos =>
    cases op with
    | Not => exact at_not (ht a)
    | _ => exact at_tru (hS _) fun _ => rfl
  | BoolOp op vs pos =>
    cases op with
    | And => exact at_and ht vs
    | Or => exact at_or ht vs
  | IfExp a b d pos => exact at_bad
  | Compare a ops bs pos => exact at_compare h.units he ops a bs
  | _ => exact at_tru (hS _) fun _ => rfl
end
end AL
set_option Elab.async false
set_option linter.all false
set_option maxRecDepth 100000
set_option maxHeartbeats 4000000
/-! AL27: calls of names. -/
namespace AL
open PySem PySem.Spec PyProof.Rows L2
section
variable {c : Cfg} {ca : Str → Addr} {T : List (Addr × Str)} {X : Cx} {W : WX} {sc : Scope} {p : Ev}
theorem callP_ok (h : Sd c ca T X W sc) (he : ∀ e, PE X e (tE (gx X ca T) W (p.e sc e))) (f : Str) (pf : Pos) (args : List Expr) (pos : Pos) : PE X (.Call (.Name f pf) args [] pos) (tE (gx X ca T) W (callP c p sc f args pos)) := by
  unfold callP
  by_cases h1 : glN sc f = false
  · rw [if_pos h1]
    exact ae_bad
  rw [if_neg h1]
  have hg : glN sc f = true := by simpa using h1
  by_cases h2 : args.any starB = true
  · rw [if_pos h2]
    exact ae_bad
  rw [if_neg h2]
  have hn : args.any starB = false := by simpa using h2
  by_cases h3 : c.own f = true
  · rw [if_pos h3]
    exact ae_call h hg h3 he hn
  rw [if_neg h3]
  have ho : c.own f = false := by simpa using h3
  by_cases h4 : c.isC f = true
  · rw [if_pos h4]
    exact ae_new h hg ho h4 he hn
  rw [if_neg h4]
  by_cases h5 : args.any (isIt c.own) = true
  · rw [if_pos h5]
    exact ae_bad
  rw [if_neg h5]
  cases args with
  | nil => exact ae_bad
  | cons e es =>
    rw [if_neg (by simp)]
    cases hb : bltF f with
    | none => exact ae_bad
    | some g => exact ae_blt h hg ho (by simpa using h4) hb he hn
theorem callN_ok (h : Sd c ca T X W sc) (he : ∀ e, PE X e (tE (gx X ca T) W (p.e sc e)))
    (hL : ∀ f pf ps b lsc lp pos, PE X (.Call (.Name f pf) [.Lambda ps b lsc lp] [] pos) (tE (gx X ca T) W (stepE c p sc (.Call (.Name f pf) [.Lambda ps b lsc lp] [] pos))))
    (hG : ∀ f pf elt gs gsc gp pos, PE X (.Call (.Name f pf) [.GeneratorExp elt gs gsc gp] [] pos) (tE (gx X ca T) W (stepE c p sc (.Call (.Name f pf) [.GeneratorExp elt gs gsc gp] [] pos))))
    (hO : ∀ pf a pos, glN sc "sorted" = true → c.own "sorted" = false → c.isC "sorted" = false → starB a = false → PE X (.Call (.Name "sorted" pf) [a] [] pos) (tE (gx X ca T) W (sortM c p sc false a pos)))
    (hR : ∀ pf a pos, glN sc "list" = true → c.own "list" = false → c.isC "list" = false → rngB c sc a = true → PE X (.Call (.Name "list" pf) [a] [] pos) (tE (gx X ca T) W (lrgM c p sc a pos)))
    (hK : ∀ f pf args k ks pos, PE X (.Call (.Name f pf) args (k :: ks) pos) (tE (gx X ca T) W (stepE c p sc (.Call (.Name f pf) args (k :: ks) pos)))) :
    ∀ f pf args kws pos, PE X (.Call (.Name f pf) args kws pos) (tE (gx X ca T) W (stepE c p sc (.Call (.Name f pf) args kws pos))) := by
  intro f pf args kws pos
  cases kws with
  | cons k ks => exact hK f pf args k ks pos
  | nil =>
    have plain : stepE c p sc (.Call (.Name f pf) args [] pos) = callP c p sc f args pos → PE X (.Call (.Name f pf) args [] pos) (tE (gx X ca T) W (stepE c p sc (.Call (.Name f pf) args [] pos))) := fun e => by
      rw [e]
      exact callP_ok h he f pf args pos
    have gen : ∀ a, stepE c p sc (.Call (.Name f pf) [a] [] pos) = (if f = ("sorted" : Str) ∧ (glN sc f && !c.own f && !c.isC f && !starB a) = true then sortM c p sc false a pos else if f = ("list" : Str) ∧ (glN sc f && !c.own f && !c.isC f && rngB c sc a) = true then lrgM c p sc a pos else callP c p sc f [a] pos) → PE X (.Call (.Name f pf) [a] [] pos) (tE (gx X ca T) W (stepE c p sc (.Call (.Name f pf) [a] [] pos))) := fun a e => by
      rw [e]
      by_cases hs : f = ("sorted" : Str) ∧ (glN sc f && !c.own f && !c.isC f && !starB a) = true
      · rw [if_pos hs]
        obtain ⟨e1, hs⟩ := hs
        subst e1
        simp only [Bool.and_eq_true, Bool.not_eq_true'] at hs
        exact hO pf a pos hs.1.1.1 hs.1.1.2 hs.1.2 hs.2
      · rw [if_neg hs]
        by_cases hr : f = ("list" : Str) ∧ (glN sc f && !c.own f && !c.isC f && rngB c sc a) = true
        · rw [if_pos hr]
          obtain ⟨e1, hr⟩ := hr
          subst e1
          simp only [Bool.and_eq_true, Bool.not_eq_true'] at hr
          exact hR pf a pos hr.1.1.1 hr.1.1.2 hr.1.2 hr.2
        · rw [if_neg hr]
          exact callP_ok h he f pf [a] pos
    rcases args with _ | ⟨a, _ | ⟨b, r⟩⟩
    · exact plain rfl
    · cases a with
      | Lambda ps b lsc lp => exact hL f pf ps b lsc lp pos
      | GeneratorExp elt gs gsc gp => exact hG f pf elt gs gsc gp pos
      | _ => exact gen _ rfl
    · exact plain rfl
end
end AL
set_option Elab.async false
set_option linter.all false
set_option maxRecDepth 100000
set_option maxHeartbeats 4000000
/-! AL28: _law_told(lambda: e). -/
namespace AL
open PySem PySem.Spec PyProof.Rows L2
/-- what the handlers make of an exception of the class cls -/
def toldW (K : PySem.W.Frag) (ca : Str → Addr) (cls : Value) (H : Hp) (Q : VK) : List (Str × Str) → Prop
  | [] => False
  | p :: l => ∃ b, PySem.W.exmOne K cls (.ref (ca p.1)) = some b ∧ (b = true → Q (.str p.2) H) ∧ (b = false → toldW K ca cls H Q l)
def TTm (K : PySem.W.Frag) (ca : Str → Addr) (l : List (Str × Str)) : (XK → Hp → VK → Prop) → Hp → VK → Prop := fun tl H Q => tl (fun cls _ H' => toldW K ca cls H' Q l) H Q
theorem hds_told {X : Cx} {ca : Str → Addr} : ∀ {hs : List ExceptHandler} {l : List (Str × Str)}, toldHs hs = some l → (∀ p ∈ l, Names X p.1 (.ref (ca p.1))) → HdsOk X hs (l.map fun p => (Value.ref (ca p.1), fun _ _ _ D σ H => D.rt (.str p.2) H))
  | [], l, h, _ => by
    cases h
    exact .nil
  | x :: hs, l, h, hn => by
    unfold toldHs at h
    split at h
    · rename_i h1
      cases h1
    · rename_i e p1 r j p2 p3 p4 l' heq
      injection heq with h1 h2
      subst h1 h2
      cases hq : toldHs hs with
      | none =>
        rw [hq] at h
        cases h
      | some l2 =>
        rw [hq] at h
        cases h
        exact .cons (hn _ (List.mem_cons_self ..)) (fun a oe cls d pn _ _ => (pss_one (ps_ret pe_str)).weak fun _ _ _ q => q) (hds_told hq fun p hp => hn p (List.mem_cons_of_mem _ hp))
    · cases h
theorem many_told {K : PySem.W.Frag} {ca : Str → Addr} {cls : Value} {d : Option Addr} {D : Ends} {σ : L2.St} {H : Hp} {Wout : WX} : ∀ {l : List (Str × Str)}, toldW K ca cls H D.rt l → wMany K Wout D (l.map fun p => (Value.ref (ca p.1), fun _ _ _ D σ H => D.rt (.str p.2) H)) cls d σ H
  | [], h => h.elim
  | p :: l, ⟨b, h1, h2, h3⟩ => ⟨b, h1, fun hb a _ => h2 hb, fun hb => many_told (h3 hb)⟩
theorem told_gives2 {X : Cx} {ca : Str → Addr} {Ng : List Str} {x a q : Str} {sg : Scope} {g : Addr} {cdg : Value} {bg : List Stmt} {l : List (Str × Str)} (hb : toldBody a bg = some l) (hne : l ≠ []) (hg : ∀ p ∈ l, sg.names.lookup p.1 = some .globalImplicit) (hm : ∀ p ∈ l, X.mg p.1 = some (.ref (ca p.1)))
    (hd : ∀ p ∈ l, (p.1 == ("__debug__" : Str)) = false) (h0 : ∀ f : Addr, (L2.start Ng [V.ref f])[0]? = some (some (V.ref f))) : LamX.GivesTo X Ng x sg g cdg bg a q (TTm X.K ca l) := by
  intro f c' s H Q tl act hc h
  unfold toldBody at hb
  split at hb
  rotate_left
  · cases hb
  rename_i b p1 p2 p3 hs p8
  split at hb
  rotate_left
  · cases hb
  rename_i hba
  subst hba
  cases hs with
  | nil =>
    cases hb
    exact absurd rfl hne
  | cons h₀ hds =>
    have hk : HdsOk (cxOf C8.CX0 X.prog X.w X.K X.mg X.base Ng x sg g cdg X.A X.stack s H C8.E0).nox (h₀ :: hds) (l.map fun p => (Value.ref (ca p.1), fun _ _ _ D σ H => D.rt (.str p.2) H)) :=
      hds_told hb fun p hp => ⟨hg p hp, hd p hp, .inl (hm p hp)⟩
    refine ⟨_, pss_one (ps_try_many (X := (cxOf C8.CX0 X.prog X.w X.K X.mg X.base Ng x sg g cdg X.A X.stack s H C8.E0).nox)
        (tb := fun W D σ H => ∃ Ech : XK, (∀ cls d σ' H', Ech cls d H' → W cls d σ' H') ∧ σ[0]? = some (some (.ref f)) ∧ H c' = some (LamX.CodeO c' q) ∧ tl Ech H D.rt)
        rfl rfl LamX.takes0 (fun W pn xe tk _ => ?_) hk), ?_⟩
    · refine ⟨fun pins s' σ H' D I h' => ?_⟩
      obtain ⟨Ech, hW, h1, h2, h3⟩ := h'
      have hp := act W pn xe Ech p1 p2 tk hW
      exact (pss_one (ps_ret (pos := p3) hp)).run pins s' σ H' D I ⟨h1, h2, h3⟩
    · exact ⟨fun cls _ H' => toldW X.K ca cls H' Q l, fun cls d σ' H' w => many_told w, h0 f, hc, h⟩
section
variable {c : Cfg} {ca : Str → Addr} {T : List (Addr × Str)} {X : Cx} {W : WX} {sc : Scope} {p : Ev} {pos pf lp : Pos}
/-- inside a lambda -/
theorem Sd.inLam (h : Sd c ca T X W sc) (hl : c.lam = 1) (lsc : Scope) (A : Around) (outer : List Env) (s : Shared) (H : Hp) (E : XK) (f c' : Addr) (hr : Room (c.lvl + 3) (A.deeper (LamX.lamEnv X lsc s.heap.objs.size f c'))) :
    Sd c.less ca T (LamX.lamCx X A outer s H E lsc f c') (fun c d _ H => E c d H) lsc where
  N := h.N
  nd := h.nd
  scp := rfl
  calm := rfl
  tk := takes_of rfl rfl rfl rfl
  room := by
    show Room (c.lvl + 3 + 3 * (c.lam - 1)) _
    rw [hl]
    exact hr
  gl := h.gl
  fns := h.fns
  meth := h.meth
  new := h.new
  blt := h.blt
  attr := h.attr
  exc := h.exc
  exm := h.exm
  excG := h.excG
  tab1 := fun z => by
    have z : 0 < c.lam - 1 := z
    omega
  tab2 := fun z => by
    have z : 0 < c.lam - 1 := z
    omega
  told := fun z => by
    have z : 0 < c.lam - 1 := z
    omega
theorem toldL_sub : ∀ p ∈ toldL, p.1 ∈ excN ∧ (p.1 == ("__debug__" : Str)) = false := by decide +kernel
theorem told_in {K : PySem.W.Frag} {sub : Str → Str → Bool} {x : Str} {t : Str} {H : Hp} {Q : VK} (hx : ∀ y ∈ excN, PySem.W.exmOne K (.ref (ca x)) (.ref (ca y)) = some (sub x y)) (q : Q (.str t) H) : ∀ {l : List (Str × Str)}, (∀ p ∈ l, p.1 ∈ excN) → toldIn sub x l = some t → toldW K ca (.ref (ca x)) H Q l
  | [], _, h => by cases h
  | p :: l, hl, h => by
    unfold toldIn at h
    refine ⟨sub x p.1, hx _ (hl p (List.mem_cons_self ..)), fun hb => ?_, fun hb => ?_⟩
    · rw [if_pos hb] at h
      cases h
      exact q
    · rw [if_neg (by rw [hb]; decide)] at h
      exact told_in hx q (fun p hp => hl p (List.mem_cons_of_mem _ hp)) h
theorem ae_told (h : Sd c ca T X W sc) (hE : EvOk c ca T p X.prog X.w X.K) {body : Expr} {lsc : Scope} (hg : glN sc ("_law_told" : Str) = true) (hl : c.lam = 1) (ht : c.tb = 1) (hs : LamX.lamSB sc lsc = true) :
    PE X (.Call (.Name "_law_told" pf) [.Lambda ⟨[], [], none, [], [], none, []⟩ body lsc lp] [] pos) (tE (gx X ca T) W (toldM c (p.l lsc body))) := by
  obtain ⟨g, pg, bg, sg, dV, kV, doc, pm, cdv, ct, oc, an, od, osl, Ng, a, hm, hk, lk, hcg, hb, Sg, hNg, ha, hbg, hgl⟩ := h.told (by omega) ht
  obtain ⟨cA, P, TB, hcode, hmT, hu⟩ := h.tab1 (by omega) ht
  have hva : Vis sg a := by
    rcases Sg.par a (List.mem_singleton.mpr rfl) with z | z
    · exact .inl z
    · exact .inr (.inl z)
  have h0 : ∀ f : Addr, (L2.start Ng [V.ref f])[0]? = some (some (V.ref f)) := fun f => rfl
  have hG := told_gives2 (X := X) (ca := ca) (x := "_law_told") (q := X.env.qual ++ "<lambda>") (sg := sg) (g := g) (cdg := cdv) (Ng := Ng) hbg (by decide) hgl (fun p hp => h.excG _ (toldL_sub p hp).1) (fun p hp => (toldL_sub p hp).2) h0
  have L : LamX.LamS X.env.scope lsc := by
    rw [h.scp]
    exact LamX.lamS_by hs
  refine (LamX.pe_lamcall (T := T) (k := c.lvl + 3) (t := fun E => tE (gx X ca T) (fun c d _ H => E c d H) (p.l lsc body)) (glN_ok h hg).1 hm hk lk hcg hb Sg hNg hva hG TB hcode hmT hu (h.room.mono (by omega)) L rfl (fun _ _ _ _ _ => rfl)
    (fun A outer s H E f c' hr => (hE.lam (LamX.lamCx X A outer s H E lsc f c') (fun c d _ H => E c d H) lsc (by omega) rfl rfl rfl (h.inLam hl lsc A outer s H E f c' hr)).1 body) (by decide) (okN_dbg ha).1 (okN_dbg ha).2).weak fun σ H Q q => ?_
  obtain ⟨sl, s, ρ, F, L, hs, hr, hp⟩ := q
  refine ⟨hr.tabsH, fun H1 e t1 => ⟨sl, s, ρ, F, L, hs, hr.extN e t1, ?_⟩⟩
  unfold toldM at hp
  cases he : p.l lsc body sl s with
  | ok d s1 =>
    rw [he] at hp
    exact hp
  | bad =>
    rw [he] at hp
    exact hp
  | err x s1 =>
    rw [he] at hp
    dsimp only at hp
    split at hp
    rotate_left
    · exact hp.elim
    rename_i hx
    split at hp
    rotate_left
    · exact hp.elim
    rename_i t htd
    intro cc d H' ρ' F' l' r' er
    obtain ⟨e1, _⟩ := er
    subst e1
    refine told_in (fun y hy => h.exm _ y hx hy) (hp (.str t) H' ρ' F' l' r' ⟨rfl, ?_⟩) (fun p hp => (toldL_sub p hp).1) htd
    have : ∀ q ∈ toldL, q.2.length ≤ 1000 := by decide +kernel
    have mem : ∀ {l : List (Str × Str)}, toldIn c.sub x.cls l = some t → ∃ q ∈ l, q.2 = t := fun {l} => by
      induction l with
      | nil => intro z; cases z
      | cons q l ih =>
        intro z
        unfold toldIn at z
        split at z
        · cases z
          exact ⟨q, List.mem_cons_self .., rfl⟩
        · obtain ⟨q', h1, h2⟩ := ih z
          exact ⟨q', List.mem_cons_of_mem _ h1, h2⟩
    obtain ⟨q, hq, rfl⟩ := mem htd
    exact len1000 (this q hq)
end
end AL
set_option Elab.async false
set_option linter.all false
set_option maxRecDepth 100000
set_option maxHeartbeats 4000000
/-! AL29: sorted. -/
namespace AL
open PySem PySem.Spec PyProof.Rows L2
section
variable {prog : Program} {w : World} {A : Around} {E : Value → Shared → Prop} {s : Shared}
/-- sorted over what is taken in -/
theorem sorted_from {r : Addr} {b : Bool} {kw : List (Str × Value)} {Q : Value → Shared → Prop} (hk : ∀ a, Builtin.«list.sort» ⟨[.ref a], kw⟩ = Builtin.«list.sort» ⟨[.ref a], [(Str.ofString "reverse", .bool b)]⟩) (ha1 : argsOk "sorted" ⟨[.ref r], kw⟩) (ha2 : ∀ a, argsOk "list.sort" ⟨[a], kw⟩)
    (hc : wpAny (model prog w) A.in1 (collect (.ref r)) (fun vs s1 => vs.length ≤ sizeLine ∧ ∃ ltv, SrtO.Swo ltv ∧ (2 ≤ vs.length → ∀ (h₁ : Heap) (a : Addr), h₁.get? a = some (seqObj "list" vs.toArray 0) → (∀ b o, s1.heap.get? b = some o → b ≠ a ∧ h₁.get? b = some o) → SrtO.SortableO prog w A.in1.in1 { s1 with heap := h₁ } a vs ltv) ∧
      ∀ out : List Value, SrtO.Srtd ltv out → SrtO.Stb ltv out (if b = true then vs.reverse else vs) → ∀ (h' : Heap) (d : Addr), (∀ b o, s1.heap.get? b = some o → h'.get? b = some o) → s1.heap.objs.size ≤ d → (∃ n, h'.get? d = some (seqObj "list" (if b = true then out.toArray.reverse else out.toArray) n)) → Q (.ref d) { s1 with heap := h' }) E s) :
    wpAny (model prog w) A (call (.builtin "sorted") [.ref r] kw) Q E s := by
  refine call_function_entry_kw kind_sorted plain_sorted entry_sorted ha1 ?_
  unfold Builtin.«sorted»
  refine wpAny_bind (m := checkCount "sorted" 1 1 _) (wpAny_pure ?_)
  refine wpAny_bind (wpAny_mono hc (fun vs s1 ⟨hz, ltv, O, hS, hf⟩ => ?_) fun _ _ e => e)
  refine wpAny_bind (wpAny_newList ?_ hz)
  have hoL : (s1.heap.push (seqObj "list" vs.toArray 0)).get? s1.heap.objs.size = some (seqObj "list" vs.toArray 0) := Heap.get?_push_size _ rfl
  have keep : ∀ b o, s1.heap.get? b = some o → b ≠ s1.heap.objs.size ∧ (s1.heap.push (seqObj "list" vs.toArray 0)).get? b = some o := fun b o q => ⟨Nat.ne_of_lt (Heap.lt_size q), Heap.get?_push_of_some _ q⟩
  show wpAny _ _ _ _ _ { s1 with heap := s1.heap.push (seqObj "list" vs.toArray 0) }
  refine wpAny_bind (wpAny_holding (wpAny_call_entry_kw slot_list_sort ⟨_, hoL, rfl⟩ entry_list_sort ?_ (ha2 _)))
  rw [hk]
  refine SrtR.list_sort_ordR O hoL hz (fun h2 => hS h2 _ _ hoL keep) fun out hs hb => ⟨_, rfl, ?_⟩
  refine wpAny_pure ⟨_, rfl, hf out hs hb _ _ (fun c o q => ?_) (Nat.le_refl _) (sortedHeap_at hoL)⟩
  have hlt := Heap.lt_size q
  show (sortedHeap _ _ _ _).get? c = some o
  rw [sortedHeap_old (Nat.ne_of_lt hlt) (by rw [Heap.size_push]; exact Nat.lt_succ_of_lt hlt)]
  exact Heap.get?_push_of_some _ q
/-- a tuple is taken in -/
theorem collect_tup {l : Addr} {vs : List Value} {Q : List Value → Shared → Prop} (hl : s.heap.IsTuple l vs.toArray)
    (h : ∀ h' : Heap, (∀ b o, s.heap.get? b = some o → h'.get? b = some o) → Q vs { s with heap := h' }) (hsz : vs.length ≤ sizeLine) :
    wpAny (model prog w) A (collect (.ref l)) Q E s := by
  obtain ⟨o, ho, hc, n, hd⟩ := id hl
  unfold collect
  refine wpAny_bind (wpAny_runValue (codeAny_builtin entry_proto_collect' ?_))
  show wpAny _ _ (do again (.builtin "list.__iadd__" ⟨[← newList [], .ref l], []⟩)) _ _ s
  refine wpAny_bind (wpAny_newList (wpAny_pure ⟨Code.quiet_builtin _ (by decide +kernel), codeAny_builtin entry_list_iadd' ?_⟩))
  show wpAny _ _ (Builtin.List.listExtendWith (.ref s.heap.objs.size) (.ref l) (.ref s.heap.objs.size)) _ _ { s with heap := s.heap.push (seqObj "list" #[] 0) }
  unfold Builtin.List.listExtendWith
  have ho' : (s.heap.push (seqObj "list" #[] 0)).get? l = some o := Heap.get?_push_of_some _ ho
  refine wpAny_bind (wpAny_typeOf (T := "tuple") ⟨o, ho', hc⟩ ?_)
  have ht : (Value.type "tuple" == Value.type "tuple") = true := by rfl
  rw [if_pos (by rw [ht]; simp)]
  refine wpAny_bind (listItems_at ho' hd ?_)
  refine wpAny_bind (listItems_at (xs := #[]) (n := 0) (Heap.get?_push_size _ rfl) rfl ?_)
  rw [if_neg (by simp)]
  refine wpAny_bind (listUpdate_at (xs := #[]) (n := 0) (Heap.get?_push_size _ rfl) rfl ?_ (Nat.zero_le _) (by show (#[] ++ vs.toArray).size ≤ sizeLine + 1; simp only [Array.size_append, List.size_toArray, List.length_nil]; omega))
  refine wpAny_pure ?_
  show wpAny (model prog w) A (do
      let got ← load s.heap.objs.size
      match got.data with
      | .seq xs _ => pure xs.toList
      | _ => unsupported "internal:collect") Q E { s with heap := (s.heap.push (seqObj "list" #[] 0)).update s.heap.objs.size (Obj.mapSeq (· ++ vs.toArray)) }
  refine wpAny_bind (wpAny_load (get?_update_seq (Heap.get?_push_size _ rfl) _) ?_)
  show wpAny _ _ (pure ((#[] : Array Value) ++ vs.toArray).toList) Q E _
  rw [show ((#[] : Array Value) ++ vs.toArray).toList = vs by simp]
  refine wpAny_pure (h _ fun b o q => ?_)
  rw [Heap.get?_update_ne _ _ _ _ (Nat.ne_of_lt (Heap.lt_size q))]
  exact Heap.get?_push_of_some _ q
end
end AL
set_option Elab.async false
set_option linter.all false
set_option maxRecDepth 100000
set_option maxHeartbeats 4000000
/-! AL30: sorted, by data. -/
namespace AL
open PySem PySem.Spec PyProof.Rows L2
section
variable {c : Cfg} {ca : Str → Addr} {T : List (Addr × Str)} {X : Cx} {W : WX} {sc : Scope} {p : Ev} {L H : Hp} {st : S} {s : Shared} {ρ : List Addr} {F : Hp} {pins : List (Addr × Obj)} {σ : L2.St}
theorem flat_rep {d : D} {v : V} {u : Value} (h : RepD ca X.K ρ F d v) (r : L2.RelV v u) : flatU u = flatK d := by
  cases d with
  | non =>
    obtain rfl : v = .non := h
    obtain rfl : u = .none := r
    rfl
  | bl b =>
    obtain rfl : v = .bl b := h
    obtain rfl : u = .bool b := r
    rfl
  | int i =>
    obtain rfl : v = .int i := h
    obtain ⟨t, rfl⟩ := r
    rfl
  | str x =>
    obtain ⟨rfl, _⟩ := h
    obtain ⟨t, rfl⟩ := r
    rfl
  | ref i =>
    obtain ⟨a, _, rfl⟩ := h
    obtain rfl : u = .ref a := r
    rfl
  | tup l =>
    obtain ⟨a, vs, rfl, _⟩ := h
    obtain rfl : u = .ref a := r
    rfl
  | con l =>
    obtain ⟨a, vs, rfl, _⟩ := h
    obtain rfl : u = .ref a := r
    rfl
  | lst l =>
    obtain ⟨a, vs, rfl, _⟩ := h
    obtain rfl : u = .ref a := r
    rfl
  | dk l =>
    obtain ⟨a, vs, rfl, _⟩ := h
    obtain rfl : u = .ref a := r
    rfl
  | dt l =>
    obtain ⟨a, vs, rfl, _⟩ := h
    obtain rfl : u = .ref a := r
    rfl
  | obj C l =>
    obtain ⟨a, dx, vs, rfl, _⟩ := h
    obtain rfl : u = .ref a := r
    rfl
theorem pre_rep : ∀ {l : List D} {vs : List V} {us : List Value}, RepL ca X.K ρ F l vs → Vals vs us → preU us = preK l
  | [], vs, us, h, r => by
    obtain rfl : vs = [] := h
    cases r
    rfl
  | d :: l, _, us, ⟨v, vs, e, h1, h2⟩, r => by
    subst e
    cases r with
    | cons r1 r2 =>
      unfold preU preK
      rw [flat_rep h1 r1, pre_rep h2 r2]
/-- what stands is sorted by what the data are -/
theorem key_rep3 (I : Inv X pins σ H s) (r : Rel (gx X ca T) L H st ρ F) {d : D} {v : V} {u : Value} (h : RepD ca X.K ρ F d v) (rv : L2.RelV v u) (k : kindK d < 3) :
    keyU s.heap u = keyD d ∧ ((∃ i t, u = .int i t ∧ kindK d = 0) ∨ (∃ x t, u = .str x t ∧ kindK d = 1) ∨ ∃ a its, u = .ref a ∧ kindK d = 2 ∧ s.heap.IsTuple a its.toArray ∧ keyD d = preU its ∧ fullD d = ((preU its).length == its.length)) := by
  have tup : ∀ {a : Addr} {l : List D} {vs : List V}, SqT X.K H a vs → RepL ca X.K ρ F l vs → ∃ its : List Value, keyU s.heap (.ref a) = preK l ∧ s.heap.IsTuple a its.toArray ∧ preK l = preU its ∧ ((preK l).length == l.length) = ((preU its).length == its.length) := fun {a l vs} hq hl => by
    obtain ⟨its, r1, pt, _⟩ := I.tuple hq
    have e := pre_rep hl r1
    have pt : s.heap.IsTuple a its.toArray := pt
    obtain ⟨o, ho, hc, n, hd⟩ := id pt
    have el : l.length = its.length := by rw [RepL.length (G := gx X ca T) hl, Vals.length r1]
    refine ⟨its, ?_, pt, e.symm, by rw [e, el]⟩
    simp only [keyU, ho, hd]
    exact e
  cases d with
  | int i =>
    obtain rfl : v = .int i := h
    obtain ⟨t, rfl⟩ := rv
    exact ⟨rfl, .inl ⟨i, t, rfl, rfl⟩⟩
  | str x =>
    obtain ⟨rfl, _⟩ := h
    obtain ⟨t, rfl⟩ := rv
    exact ⟨rfl, .inr (.inl ⟨x, t, rfl, rfl⟩)⟩
  | tup l =>
    obtain ⟨a, vs, rfl, h1, h2⟩ := h
    obtain rfl : u = .ref a := rv
    obtain ⟨its, k1, k2, k3, k4⟩ := tup (.of (r.frz a _ h1).1) h2
    exact ⟨k1, .inr (.inr ⟨a, its, rfl, rfl, k2, k3, k4⟩)⟩
  | con l =>
    obtain ⟨a, vs, rfl, h1, h2⟩ := h
    obtain rfl : u = .ref a := rv
    obtain ⟨its, k1, k2, k3, k4⟩ := tup (r.sqT h1) h2
    exact ⟨k1, .inr (.inr ⟨a, its, rfl, rfl, k2, k3, k4⟩)⟩
  | _ => exact absurd (show (3 : Nat) < 3 from k) (by decide)
/-- the triples: data, what they stand for, values -/
inductive Zip3 (ca : Str → Addr) (K : PySem.W.Frag) (ρ : List Addr) (F : Hp) : List D → List V → List Value → List (D × V × Value) → Prop
  | nil : Zip3 ca K ρ F [] [] [] []
  | cons {d : D} {v : V} {u : Value} {l : List D} {vs : List V} {us : List Value} {t : List (D × V × Value)} (h : RepD ca K ρ F d v) (r : L2.RelV v u) (z : Zip3 ca K ρ F l vs us t) : Zip3 ca K ρ F (d :: l) (v :: vs) (u :: us) ((d, v, u) :: t)
theorem zip3_of : ∀ {l : List D} {vs : List V} {us : List Value}, RepL ca X.K ρ F l vs → Vals vs us → ∃ t : List (D × V × Value), l = t.map (·.1) ∧ vs = t.map (·.2.1) ∧ us = t.map (·.2.2) ∧ ∀ e ∈ t, RepD ca X.K ρ F e.1 e.2.1 ∧ L2.RelV e.2.1 e.2.2
  | [], vs, us, h, r => by
    obtain rfl : vs = [] := h
    cases r
    exact ⟨[], rfl, rfl, rfl, fun e he => by cases he⟩
  | d :: l, _, us, ⟨v, vs, e, h1, h2⟩, r => by
    subst e
    cases r with
    | @cons _ u _ us r1 r2 =>
      obtain ⟨t, e1, e2, e3, e4⟩ := zip3_of h2 r2
      refine ⟨(d, v, u) :: t, by rw [e1]; rfl, by rw [e2]; rfl, by rw [e3]; rfl, fun e he => ?_⟩
      rcases List.mem_cons.mp he with z | z
      · rw [z]
        exact ⟨h1, r1⟩
      · exact e4 e z
theorem zip3_to : ∀ {t : List (D × V × Value)}, (∀ e ∈ t, RepD ca X.K ρ F e.1 e.2.1 ∧ L2.RelV e.2.1 e.2.2) → RepL ca X.K ρ F (t.map (·.1)) (t.map (·.2.1)) ∧ Vals (t.map (·.2.1)) (t.map (·.2.2))
  | [], _ => ⟨rfl, .nil⟩
  | e :: t, h => by
    obtain ⟨h1, h2⟩ := zip3_to fun e he => h e (List.mem_cons_of_mem _ he)
    obtain ⟨k1, k2⟩ := h e (List.mem_cons_self ..)
    exact ⟨⟨_, _, rfl, k1, h1⟩, .cons k2 h2⟩
theorem okSort_all {l : List D} {d : D} (h : okSort l = true) (hd : d ∈ l) : kindK d < 3 := by
  cases l with
  | nil => cases hd
  | cons a l =>
    unfold okSort at h
    simp only [Bool.and_eq_true, decide_eq_true_eq] at h
    have := List.all_eq_true.mp h.1.2 d hd
    simp only [Bool.and_eq_true, beq_iff_eq] at this
    rw [this.1]
    exact h.1.1.1
theorem nodupB_ok : ∀ {l : List (List KA)}, nodupB l = true → l.Nodup
  | [], _ => List.Pairwise.nil
  | k :: l, h => by
    unfold nodupB at h
    rw [Bool.and_eq_true] at h
    exact List.nodup_cons.mpr ⟨fun hm => by
      have := List.all_eq_true.mp h.1 k hm
      simp at this, nodupB_ok h.2⟩
theorem nodup_inj {α β : Type} {f : α → β} : ∀ {l : List α}, (l.map f).Nodup → ∀ {a b : α}, a ∈ l → b ∈ l → f a = f b → a = b
  | [], _, _, _, h, _, _ => by cases h
  | x :: l, nd, a, b, ha, hb, e => by
    rw [List.map_cons, List.nodup_cons] at nd
    rcases List.mem_cons.mp ha with e1 | ha
    · rcases List.mem_cons.mp hb with e2 | hb
      · rw [e1, e2]
      · exact absurd (List.mem_map.mpr ⟨b, hb, by rw [← e, e1]⟩) nd.1
    · rcases List.mem_cons.mp hb with e2 | hb
      · exact absurd (List.mem_map.mpr ⟨a, ha, by rw [e, e2]⟩) nd.1
      · exact nodup_inj nd.2 ha hb e
theorem kat_of {h : Heap} {P : Value → Prop} : ∀ t : List (D × V × Value), (∀ e ∈ t, ∃ a its f rest, e.2.2 = .ref a ∧ h.IsTuple a (List.toArray its) ∧ its = f :: rest ∧ P f) → ∃ fs, PySem.W.KatTups h (t.map (·.2.2)) fs ∧ fs.length = t.length ∧ ∀ f ∈ fs, P f
  | [], _ => ⟨[], PySem.W.KatTups.nil, rfl, fun f hf => by cases hf⟩
  | e :: t, hh => by
    obtain ⟨a, its, f, rest, e1, e2, e3, e4⟩ := hh e (List.mem_cons_self ..)
    obtain ⟨fs, k1, k2, k3⟩ := kat_of t fun e he => hh e (List.mem_cons_of_mem _ he)
    obtain ⟨o, ho, hc, n, hd⟩ := e2
    refine ⟨f :: fs, ?_, by rw [List.length_cons, List.length_cons, k2], fun g hg => ?_⟩
    · rw [List.map_cons, e1]
      exact PySem.W.KatTups.cons ho hc hd (by rw [e3]; rfl) k1
    · rcases List.mem_cons.mp hg with z | z
      · rw [z]
        exact e4
      · exact k3 g z
/-- two of them, compared by the sort's own -/
theorem cmp_data {A : Around} {s' : Shared} {t : List (D × V × Value)} (I : Inv X pins σ H s) (r : Rel (gx X ca T) L H st ρ F) (ht : ∀ e ∈ t, RepD ca X.K ρ F e.1 e.2.1 ∧ L2.RelV e.2.1 e.2.2) (ok : okSort (t.map (·.1)) = true)
    (hk : ∀ a its, s.heap.IsTuple a its → s'.heap.IsTuple a its) : ∃ κ, (2 ≤ t.length → ∀ (Q : SortKind → Shared → Prop) (E : Value → Shared → Prop), Q κ s' → wpAny (model X.prog X.w) A (keyKind' (t.map (·.2.2)).toArray) Q E s') ∧
      SrtO.Cmp X.prog X.w A s' κ (fun p => p.1 ∈ t.map (·.2.2)) (SrtO.lt2 (ltBy (keyU s.heap))) := by
  cases t with
  | nil => exact ⟨oneType', fun h => absurd h (by decide), fun p q hp => by cases hp⟩
  | cons e0 t0 =>
    generalize hte : e0 :: t0 = t at ht ok ⊢
    have ok' := ok
    rw [← hte, List.map_cons] at ok'
    unfold okSort at ok'
    simp only [Bool.and_eq_true, decide_eq_true_eq, Bool.or_eq_true] at ok'
    obtain ⟨⟨⟨hk3, hne⟩, hall⟩, hor⟩ := ok'
    have kk : ∀ e ∈ t, kindK e.1 = kindK e0.1 ∧ shK (keyD e.1) = shK (keyD e0.1) := fun e he => by
      have := List.all_eq_true.mp hall e.1 (by rw [← List.map_cons (f := fun e : D × V × Value => e.1), hte]; exact List.mem_map.mpr ⟨e, he, rfl⟩)
      simpa using this
    have k3 : ∀ e ∈ t, kindK e.1 < 3 := fun e he => by rw [(kk e he).1]; exact hk3
    have kr := fun e (he : e ∈ t) => key_rep3 I r (ht e he).1 (ht e he).2 (k3 e he)
    have mem : ∀ {u : Value}, u ∈ t.map (·.2.2) → ∃ e ∈ t, u = e.2.2 := fun {u} hu => by
      obtain ⟨e, he, eu⟩ := List.mem_map.mp hu
      exact ⟨e, he, eu.symm⟩
    have h0 : e0 ∈ t := by rw [← hte]; exact List.mem_cons_self ..
    rcases (kr e0 h0).2 with ⟨i, tk, _, hk0⟩ | ⟨x, tk, _, hk0⟩ | ⟨a, its, _, hk0, _⟩
    · -- ints
      have one : ∀ e ∈ t, ∃ i tk, e.2.2 = .int i tk := fun e he => by
        rcases (kr e he).2 with ⟨i, tk, eu, _⟩ | ⟨x, tk, _, z⟩ | ⟨a, its, _, z, _⟩
        · exact ⟨i, tk, eu⟩
        · rw [(kk e he).1, hk0] at z
          cases z
        · rw [(kk e he).1, hk0] at z
          cases z
      refine ⟨oneType', fun h2 Q E hq => PySem.W.kas_kind (T := .type "int") (by rw [List.length_map]; exact h2) (fun v hv => ?_) (by rfl) (by rfl) hq, fun p q hp hq => ?_⟩
      · obtain ⟨e, he, rfl⟩ := mem hv
        obtain ⟨i, tk, eu⟩ := one e he
        rw [eu]
        exact PySem.W.Looks.now
      · obtain ⟨e, he, e1⟩ := mem hp
        obtain ⟨e', he', e1'⟩ := mem hq
        obtain ⟨i, tk, eu⟩ := one e he
        obtain ⟨i', tk', eu'⟩ := one e' he'
        show wpAny (model X.prog X.w) A (keyLt' oneType' p.1 q.1) (fun r s2 => s2 = s' ∧ r = ltBy (keyU s.heap) p.1 q.1) (fun _ _ => False) s'
        rw [e1, e1', eu, eu', keyLt'_oneType]
        refine oneLt_int ⟨rfl, ?_⟩
        show decide (i < i') = PyProof.Rows.lexLt itemOrd [.inl i] [.inl i']
        rw [lex_cons]
        by_cases hlt : i < i'
        · have : itemOrd.blt (Sum.inl i) (Sum.inl i') = true := decide_eq_true hlt
          rw [this]
          simp [hlt]
        · have : itemOrd.blt (Sum.inl i) (Sum.inl i') = false := decide_eq_false hlt
          rw [this]
          simp [hlt, PyProof.Rows.lexLt]
    · -- texts
      have one : ∀ e ∈ t, ∃ i tk, e.2.2 = .str i tk := fun e he => by
        rcases (kr e he).2 with ⟨i, tk, _, z⟩ | ⟨x, tk, eu, _⟩ | ⟨a, its, _, z, _⟩
        · rw [(kk e he).1, hk0] at z
          cases z
        · exact ⟨x, tk, eu⟩
        · rw [(kk e he).1, hk0] at z
          cases z
      refine ⟨oneType', fun h2 Q E hq => PySem.W.kas_kind (T := .type "str") (by rw [List.length_map]; exact h2) (fun v hv => ?_) (by rfl) (by rfl) hq, fun p q hp hq => ?_⟩
      · obtain ⟨e, he, rfl⟩ := mem hv
        obtain ⟨i, tk, eu⟩ := one e he
        rw [eu]
        exact PySem.W.Looks.now
      · obtain ⟨e, he, e1⟩ := mem hp
        obtain ⟨e', he', e1'⟩ := mem hq
        obtain ⟨i, tk, eu⟩ := one e he
        obtain ⟨i', tk', eu'⟩ := one e' he'
        show wpAny (model X.prog X.w) A (keyLt' oneType' p.1 q.1) (fun r s2 => s2 = s' ∧ r = ltBy (keyU s.heap) p.1 q.1) (fun _ _ => False) s'
        rw [e1, e1', eu, eu']
        refine PySem.W.kas_lt_str ⟨rfl, ?_⟩
        show decide (i.cps.toList < i'.cps.toList) = PyProof.Rows.lexLt itemOrd [.inr i.cps.toList] [.inr i'.cps.toList]
        rw [lex_cons]
        have : itemOrd.blt (Sum.inr i.cps.toList) (Sum.inr i'.cps.toList) = decide (i.cps.toList < i'.cps.toList) := rfl
        rw [this]
        cases decide (i.cps.toList < i'.cps.toList) <;> simp [PyProof.Rows.lexLt]
    · -- tuples
      have one : ∀ e ∈ t, ∃ a its, e.2.2 = .ref a ∧ s.heap.IsTuple a its.toArray ∧ keyD e.1 = preU its ∧ fullD e.1 = ((preU its).length == its.length) := fun e he => by
        rcases (kr e he).2 with ⟨i, tk, _, z⟩ | ⟨x, tk, _, z⟩ | ⟨a, its, eu, _, h1, h2, h3⟩
        · rw [(kk e he).1, hk0] at z
          cases z
        · rw [(kk e he).1, hk0] at z
          cases z
        · exact ⟨a, its, eu, h1, h2, h3⟩
      have kd0 : keyD e0.1 ≠ [] := by
        intro z
        rw [z] at hne
        cases hne
      -- the first items
      have hd : ∀ e ∈ t, ∃ k ks, keyD e.1 = k :: ks := fun e he => by
        cases hq : keyD e.1 with
        | nil =>
          have := (kk e he).2
          rw [hq] at this
          cases hq0 : keyD e0.1 with
          | nil => exact absurd hq0 kd0
          | cons k ks =>
            rw [hq0] at this
            cases this
        | cons k ks => exact ⟨k, ks, rfl⟩
      obtain ⟨k0, ks0, hk00⟩ := hd e0 h0
      have first : ∀ e ∈ t, ∃ a its f rest, e.2.2 = .ref a ∧ s'.heap.IsTuple a (List.toArray its) ∧ its = f :: rest ∧ ∃ k, flatU f = some k ∧ isR k = isR k0 := fun e he => by
        obtain ⟨a, its, eu, h1, h2, _⟩ := one e he
        obtain ⟨k, ks, hk1⟩ := hd e he
        rw [hk1] at h2
        cases its with
        | nil => cases h2
        | cons f rest =>
          unfold preU at h2
          cases hf : flatU f with
          | none =>
            rw [hf] at h2
            cases h2
          | some k' =>
            rw [hf] at h2
            obtain ⟨z, _⟩ := List.cons.inj h2
            subst z
            have hs := (kk e he).2
            rw [hk1, hk00] at hs
            exact ⟨a, f :: rest, f, rest, eu, hk _ _ h1, rfl, k, hf, (List.cons.inj hs).1⟩
      obtain ⟨fs, f1, f2, f3⟩ := kat_of t first
      have cmp : ∀ b, SrtO.Cmp X.prog X.w A s' (tuples' b) (fun p => p.1 ∈ t.map (·.2.2)) (SrtO.lt2 (ltBy (keyU s.heap))) := fun b p q hp hq => by
        obtain ⟨e, he, e1⟩ := mem hp
        obtain ⟨e', he', e1'⟩ := mem hq
        obtain ⟨a, its, eu, h1, h2, h3⟩ := one e he
        obtain ⟨a', its', eu', h1', h2', h3'⟩ := one e' he'
        show wpAny (model X.prog X.w) A (keyLt' (tuples' b) p.1 q.1) (fun r s2 => s2 = s' ∧ r = ltBy (keyU s.heap) p.1 q.1) (fun _ _ => False) s'
        have er : ltBy (keyU s.heap) p.1 q.1 = ltKA (preU its) (preU its') := by
          show ltKA (keyU s.heap p.1) (keyU s.heap q.1) = _
          rw [e1, e1', (kr e he).1, (kr e' he').1, h2, h2']
        rw [er, e1, e1', eu, eu']
        obtain ⟨o, ho, hc, n, hdt⟩ := hk _ _ h1
        obtain ⟨o', ho', hc', n', hdt'⟩ := hk _ _ h1'
        refine PySem.W.kat_lt ho hdt ho' hdt' ?_
        by_cases hee : a = a'
        · subst hee
          rw [ho] at ho'
          cases ho'
          rw [hdt] at hdt'
          have : its = its' := by
            have := (Data.seq.inj hdt').1
            simpa using this
          subst this
          refine kat_eqv _ _ ⟨rfl, ?_⟩
          rw [show ltKA (preU its) (preU its) = false from lex_irrefl (O := itemOrd) _]
          exact decide_eq_false (Nat.lt_irrefl _)
        · refine kat_pre its its' 0 (by rw [← h2, ← h2', (kk e he).2, (kk e' he').2]) ?_ (by simp) ⟨rfl, rfl⟩
          rcases hor with z | z
          · refine .inl ⟨?_, ?_⟩
            · have := List.all_eq_true.mp z e.1 (by rw [← List.map_cons (f := fun e : D × V × Value => e.1), hte]; exact List.mem_map.mpr ⟨e, he, rfl⟩)
              rw [h3] at this
              exact beq_iff_eq.mp this
            · have := List.all_eq_true.mp z e'.1 (by rw [← List.map_cons (f := fun e : D × V × Value => e.1), hte]; exact List.mem_map.mpr ⟨e', he', rfl⟩)
              rw [h3'] at this
              exact beq_iff_eq.mp this
          · refine .inr fun hpp => hee ?_
            have nd := nodupB_ok z
            rw [← List.map_cons (f := fun e : D × V × Value => e.1), hte, List.map_map] at nd
            have := nodup_inj (f := keyD ∘ fun e : D × V × Value => e.1) nd he he' (by show keyD e.1 = keyD e'.1; rw [h2, h2', hpp])
            rw [this, eu'] at eu
            cases eu
            rfl
      cases k0 with
      | inl i0 =>
        refine ⟨tuples' (Value.type "int" != Value.type "tuple"), fun h2 Q E hq => PySem.W.kat_kind (T := .type "int") f1 (by omega) (fun f hf => ?_) (by rfl) hq, cmp _⟩
        obtain ⟨k, hk1, hk2⟩ := f3 f hf
        cases f <;> simp only [flatU] at hk1 <;> first | (cases hk1; done) | skip
        · exact PySem.W.Looks.now
        · cases hk1
          cases hk2
      | inr x0 =>
        refine ⟨tuples' (Value.type "str" != Value.type "tuple"), fun h2 Q E hq => PySem.W.kat_kind (T := .type "str") f1 (by omega) (fun f hf => ?_) (by rfl) hq, cmp _⟩
        obtain ⟨k, hk1, hk2⟩ := f3 f hf
        cases f <;> simp only [flatU] at hk1 <;> first | (cases hk1; done) | skip
        · cases hk1
          cases hk2
        · exact PySem.W.Looks.now
end
end AL
set_option Elab.async false
set_option linter.all false
set_option maxRecDepth 100000
set_option maxHeartbeats 4000000
/-! AL31: sorted, the rule. -/
namespace AL
open PySem PySem.Spec PyProof.Rows L2
section
variable {c : Cfg} {ca : Str → Addr} {T : List (Addr × Str)} {X : Cx} {W : WX} {sc : Scope} {pos : Pos} {L H : Hp} {st : S} {s : Shared} {ρ : List Addr} {F : Hp} {pins : List (Addr × Obj)} {σ : L2.St} {l : List D}
/-- u, taken in, gives l -/
def Coll (X : Cx) (ca : Str → Addr) (T : List (Addr × Str)) (pins : List (Addr × Obj)) (σ : L2.St) (L : Hp) (ρ : List Addr) (F : Hp) (st : S) (l : List D) (u : Value) (s : Shared) : Prop :=
  ∀ (E : Value → Shared → Prop) (R : List Value → Shared → Prop), (∀ (h' : Heap) (tk : Nat) (us : List Value) (vs : List V) (H' F' : Hp), (∀ b o, s.heap.get? b = some o → h'.get? b = some o) → Inv X pins σ H' { s with heap := h', toks := tk } → Le ρ F ρ F' → Rel (gx X ca T) L H' st ρ F' → RepL ca X.K ρ F' l vs → Vals vs us → us.length ≤ sizeLine →
    R us { s with heap := h', toks := tk }) → wpAny (model X.prog X.w) X.A.in1 (collect u) R E s
theorem sort_ite {α β : Type} {b : Bool} {f : α → β} {t : List α} : (if b = true then (t.map f).reverse else t.map f) = (if b = true then t.reverse else t).map f := by
  split
  · rw [List.map_reverse]
  · rfl
theorem ite_mem {α : Type} {b : Bool} {t : List α} {e : α} : e ∈ (if b = true then t.reverse else t) ↔ e ∈ t := by
  split
  · exact List.mem_reverse
  · rfl
theorem ite_len {α : Type} {b : Bool} {t : List α} : (if b = true then t.reverse else t).length = t.length := by
  split
  · exact List.length_reverse
  · rfl
theorem keys_rep {G : Env1} {ρ : List Addr} {F : Hp} : ∀ {l : List (Key × D)} {vs : List (Key × V)}, RepK G.ca G.K ρ F l vs → RepL G.ca G.K ρ F (l.map fun p => kD p.1) (vs.map fun p => kV p.1)
  | [], vs, h => by
    obtain rfl : vs = [] := h
    rfl
  | (k0, d0) :: l, _, ⟨v, r', e, g1, g2, g3⟩ => by
    subst e
    exact ⟨_, _, rfl, key_rep2 g3, keys_rep g2⟩
theorem vals_rep {G : Env1} {ρ : List Addr} {F : Hp} : ∀ {l : List (Key × D)} {vs : List (Key × V)}, RepK G.ca G.K ρ F l vs → RepL G.ca G.K ρ F (l.map fun p => p.2) (vs.map fun p => p.2)
  | [], vs, h => by
    obtain rfl : vs = [] := h
    rfl
  | (k0, d0) :: l, _, ⟨v, r', e, g1, g2, g3⟩ => by
    subst e
    exact ⟨_, _, rfl, g1, vals_rep g2⟩
theorem sorted_coll {a : Addr} {b : Bool} {kw : List (Str × Value)} {Q : VK} (hc : Coll X ca T pins σ L ρ F st l (.ref a) s) (hk : ∀ a, Builtin.«list.sort» ⟨[.ref a], kw⟩ = Builtin.«list.sort» ⟨[.ref a], [(Str.ofString "reverse", .bool b)]⟩) (ha1 : argsOk "sorted" ⟨[.ref a], kw⟩) (ha2 : ∀ a, argsOk "list.sort" ⟨[a], kw⟩)
    (q : PV (gx X ca T) L ρ F (rpD (gx X ca T)) Q (match sortR b l with
      | some q => made c pos (.lst q) st
      | none => .bad)) : wpAny (model X.prog X.w) X.A (call (.builtin "sorted") [.ref a] kw) (EP X pins σ Q) X.xe s := by
  unfold sortR at q
  by_cases ok : okSort l = true
  rotate_left
  · rw [if_neg ok] at q
    exact q.elim
  rw [if_pos ok] at q
  refine sorted_from hk ha1 ha2 (hc _ _ fun h' tk us vs H' F' kp I' le r' hl rv hz => ⟨hz, ltBy (keyU h'), swo_by _, fun h2 h₁ a₁ hla keep h2' keep2 => ?_, fun out hs hb h'' d kept hd hob => ?_⟩)
  · obtain ⟨t, e1, e2, e3, e4⟩ := zip3_of hl rv
    subst e1 e3
    obtain ⟨κ, k1, k2⟩ := cmp_data (A := X.A.in1.in1) (s' := { s with heap := h2', toks := tk }) I' r' e4 ok fun ad its ⟨o, ho, hcl, n, hdt⟩ => ⟨o, keep2 _ _ (keep _ _ ho).1 (keep _ _ ho).2, hcl, n, hdt⟩
    exact ⟨κ, k1 (by rw [List.length_map] at h2; exact h2), k2⟩
  · obtain ⟨t, e1, e2, e3, e4⟩ := zip3_of hl rv
    subst e1 e2 e3
    have eo := sortBy_one hs hb
    rw [sort_ite, sortBy_map] at eo
    have e4' : ∀ e ∈ (if b = true then t.reverse else t), RepD ca X.K ρ F' e.1 e.2.1 ∧ L2.RelV e.2.1 e.2.2 := fun e he => e4 e (ite_mem.mp he)
    have key : ∀ e ∈ (if b = true then t.reverse else t), keyU h' e.2.2 = keyD e.1 := fun e he => (key_rep3 I' r' (e4' e he).1 (e4' e he).2 (okSort_all ok (List.mem_map.mpr ⟨e, ite_mem.mp he, rfl⟩))).1
    rw [sortBy_congr (k' := fun e => keyD e.1) key] at eo
    have mz : ∀ e ∈ sortBy (fun e : D × V × Value => keyD e.1) (if b = true then t.reverse else t), RepD ca X.K ρ F' e.1 e.2.1 ∧ L2.RelV e.2.1 e.2.2 := fun e he => e4' e ((sortBy_perm _).mem_iff.mp he)
    have el : (if b = true then (sortBy keyD (t.map (·.1)).reverse).reverse else sortBy keyD (t.map (·.1))) = (if b = true then (sortBy (fun e : D × V × Value => keyD e.1) (if b = true then t.reverse else t)).reverse else sortBy (fun e : D × V × Value => keyD e.1) (if b = true then t.reverse else t)).map (·.1) := by
      cases b with
      | true =>
        simp only [if_true]
        rw [← List.map_reverse, sortBy_map, List.map_reverse]
      | false =>
        simp only [Bool.false_eq_true, if_false]
        rw [sortBy_map]
    have eu : (if b = true then out.toArray.reverse else out.toArray) = ((if b = true then (sortBy (fun e : D × V × Value => keyD e.1) (if b = true then t.reverse else t)).reverse else sortBy (fun e : D × V × Value => keyD e.1) (if b = true then t.reverse else t)).map (·.2.2)).toArray := by
      rw [eo]
      cases b with
      | true =>
        simp only [if_true]
        rw [List.map_reverse]
        apply Array.ext'
        rw [Array.toList_reverse]
      | false =>
        simp only [Bool.false_eq_true, if_false]
    generalize hz3 : (if b = true then (sortBy (fun e : D × V × Value => keyD e.1) (if b = true then t.reverse else t)).reverse else sortBy (fun e : D × V × Value => keyD e.1) (if b = true then t.reverse else t)) = z at el eu
    have mz' : ∀ e ∈ z, RepD ca X.K ρ F' e.1 e.2.1 ∧ L2.RelV e.2.1 e.2.2 := fun e he => mz e (by
      rw [← hz3] at he
      exact ite_mem.mp he)
    obtain ⟨hl', rv'⟩ := zip3_to mz'
    rw [el] at q
    have q := q.imp (Q' := Q) le fun _ _ _ _ _ _ _ _ _ _ q => q
    obtain ⟨n, hn⟩ := hob
    rw [eu] at hn
    have hlen : z.length = t.length := by
      rw [← hz3, ite_len, (sortBy_perm _).length_eq, ite_len]
    refine ⟨.ref d, upd H' d (.lst (z.map (·.2.1))), I'.laid (t' := tk) kept hd ⟨?_, z.map (·.2.2), n, rv', hn⟩, rfl, made_lst q r' hl' (I'.hok.fresh hd)⟩
    rw [List.length_map, hlen]
    rw [List.length_map] at hz
    exact hz
/-! ### what is taken in -/
theorem vals_ix : ∀ {xs : List V} {us : List Value}, xs.length = us.length → (∀ (j : Nat) (v : Value), us[j]? = some v → ∃ x, xs[j]? = some x ∧ L2.RelV x v) → Vals xs us
  | [], [], _, _ => .nil
  | [], _ :: _, h, _ => by cases h
  | _ :: _, [], h, _ => by cases h
  | x :: xs, u :: us, h, k => by
    obtain ⟨y, e, r⟩ := k 0 u rfl
    have e : some x = some y := e
    cases e
    exact .cons r (vals_ix (by simpa using h) fun j v hj => k (j + 1) v hj)
theorem coll_val (hcalm : X.calm = true) (I : Inv X pins σ H s) (r : Rel (gx X ca T) L H st ρ F) {d : D} {v : V} {u : Value} (hd : RepD ca X.K ρ F d v) (rv : L2.RelV v u) (e : takeD d st = some l) : ∃ a, u = .ref a ∧ Coll X ca T pins σ L ρ F st l u s := by
  unfold takeD at e
  split at e
  · rename_i l' ev
    cases e
    obtain ⟨a, vs, e1, h1, h2⟩ := r.viewL hd ev
    subst e1
    obtain rfl : u = Value.ref a := rv
    obtain ⟨its, r1, pl, hz⟩ := I.list (show SqL X.K H a vs from .inl h1)
    have hlen : its.length ≤ sizeLine := by rw [← Vals.length r1]; exact hz
    refine ⟨a, rfl, fun E R k => collect_list pl.isList (k _ s.toks its vs H F (fun b o q => ?_) (I.kept fun b o q => ?_) (.refl _ _) r h2 r1 hlen) hlen⟩
    · rw [Heap.get?_update_ne _ _ _ _ (Nat.ne_of_lt (Heap.lt_size q))]
      exact Heap.get?_push_of_some _ q
    · rw [Heap.get?_update_ne _ _ _ _ (Nat.ne_of_lt (Heap.lt_size q))]
      exact Heap.get?_push_of_some _ q
  · rename_i l' ev
    cases e
    obtain ⟨a, vs, e1, h1, h2⟩ := r.viewT hd ev
    subst e1
    obtain rfl : u = Value.ref a := rv
    obtain ⟨its, r1, pt, hz⟩ := I.tuple h1
    have hlen : its.length ≤ sizeLine := by rw [← Vals.length r1]; exact hz
    exact ⟨a, rfl, fun E R k => collect_tup (show s.heap.IsTuple a its.toArray from pt) (fun h' kp => k h' s.toks its vs H F kp (I.kept kp) (.refl _ _) r h2 r1 hlen) hlen⟩
  · rename_i l' ev
    cases e
    obtain ⟨a, vs, e1, h1, h2⟩ := r.viewK hd ev
    subst e1
    obtain rfl : u = Value.ref a := rv
    obtain ⟨z, lo, kvs, rel, dd⟩ := dk_rd I.hok h1
    obtain ⟨ep, hat⟩ := dd.dictAt
    have hl : vs.length = kvs.length := Paired.length rel
    refine ⟨a, rfl, fun E R k => PySem.W.kdu_collect (A := X.A.in1) (PySem.W.kdl_dict (knd := mixKind X.prog X.w) (kvs := kvs) (ep := ep) lo) (I.ok.hd hcalm) hat (by omega) fun h' tk acc hk hacc => ?_⟩
    have hrep := keys_rep (G := gx X ca T) h2
    refine k h' tk acc.toList (vs.map fun p => kV p.1) H F hk (I.kept hk) (.refl _ _) r hrep (vals_ix (by rw [List.length_map, hl]; exact (show acc.toList.length = kvs.length from hacc.1).symm) fun j v e => ?_) (by have e2 : acc.toList.length = kvs.length := hacc.1; omega)
    obtain ⟨k1, x, e1, e2⟩ := hacc.2 j v (by rw [← Array.getElem?_toList]; exact e)
    have hj : j < vs.length := by rw [hl]; exact (List.getElem?_eq_some_iff.mp e1).1
    obtain ⟨p, hp⟩ : ∃ p, vs[j]? = some p := ⟨_, List.getElem?_eq_getElem hj⟩
    obtain ⟨u', g1, g2⟩ := kv_get rel (show vs[j]? = some (p.1, p.2) from hp)
    rw [e1] at g1
    cases g1
    refine ⟨kV p.1, by rw [List.getElem?_map, hp]; rfl, relV_key (show keyIs p.1 v = true from e2)⟩
  · cases e
/-- new objects are known -/
theorem inv_more {H' : Hp} {h' : Heap} {tk : Nat} (I : Inv X pins σ H s) (kp : ∀ b o, s.heap.get? b = some o → h'.get? b = some o) (k1 : ∀ b o, H b = some o → H' b = some o) (k2 : ∀ b, H b = none → H' b ≠ none → s.heap.objs.size ≤ b)
    (k3 : ∀ b o, H b = none → H' b = some o → ObjOk X.prog X.w H' h' b o) : Inv X pins σ H' { s with heap := h', toks := tk } := by
  refine I.call' (ch := []) rfl ⟨fun b o q _ _ _ => kp b o q, fun b o q _ _ _ => ⟨_, kp b o q⟩, fun b o q n _ => ?_, fun b o q _ => ⟨_, kp b o q⟩, fun b xs q => k1 b _ q, fun b o u q => k1 b _ q, fun b ps q => ⟨#[], by rw [k1 b _ q]; simp⟩⟩ (fun b o q => ?_) I.bare (fun b z => by cases z)
  · cases z : H' b with
    | none => rfl
    | some u =>
      have h1 := k2 b n (by rw [z]; simp)
      have h2 := Heap.lt_size q
      exact absurd h1 (Nat.not_le.mpr h2)
  · cases z : H b with
    | none => exact k3 b o z q
    | some u =>
      have e := k1 b u z
      rw [q] at e
      cases e
      exact (I.hok b o z).stay (fun d v _ y => kp d v y) (fun d y => k1 d _ y) fun d xs y => k1 d _ y
theorem put_rel {G : Env1} : ∀ {as : List Addr} {kvs : List (Key × V)} {H F : Hp}, Rel G L H st ρ F → (∀ a ∈ as, H a = none) → as.Nodup → Rel G L (LiI.putT H as kvs) st ρ (LiI.putT F as kvs) ∧ Le ρ F ρ (LiI.putT F as kvs)
  | [], kvs, H, F, r, _, _ => by
    cases kvs <;> exact ⟨r, .refl _ _⟩
  | a :: as, [], H, F, r, _, _ => ⟨r, .refl _ _⟩
  | a :: as, p :: kvs, H, F, r, hn, nd => by
    have nd' := List.nodup_cons.mp nd
    have ha := hn a (List.mem_cons_self ..)
    obtain ⟨r2, l2⟩ := put_rel (kvs := kvs) (r.frzNew ha (.tup [kV p.1, p.2])) (fun b hb => by
      rw [upd_ne fun (z : b = a) => nd'.1 (z ▸ hb)]
      exact hn b (List.mem_cons_of_mem _ hb)) nd'.2
    exact ⟨r2, (r.frzLe ha (.tup [kV p.1, p.2])).trans l2⟩
theorem items_rep {G : Env1} {F' : Hp} : ∀ {l : List (Key × D)} {vs : List (Key × V)} {as : List Addr}, RepK G.ca G.K ρ F' l vs → Paired (fun (t : Addr) (p : Key × V) => F' t = some (.tup [kV p.1, p.2])) as vs → RepL G.ca G.K ρ F' (l.map fun p => .tup [kD p.1, p.2]) (as.map V.ref)
  | [], vs, as, h, pr => by
    obtain rfl : vs = [] := h
    cases pr
    rfl
  | (k0, d0) :: l, _, as, ⟨v, r', e, g1, g2, g3⟩, pr => by
    subst e
    cases pr with
    | @cons a _ as _ hp pr => exact ⟨_, _, rfl, ⟨a, _, rfl, hp, _, _, rfl, key_rep2 g3, _, _, rfl, g1, rfl⟩, items_rep g2 pr⟩
theorem PV.step {α : Type} {G : Env1} {L : Hp} {s1 : S} {ρ1 : List Addr} {F1 : Hp} {Q : VK} {o : Option α} {g : α → S → R D} (ne : ∀ l s, (g l s).isErr = false) (q : PB G L ρ1 F1 W σ (rpD G) Q ((R.of s1 o).bind g)) : ∃ l, o = some l ∧ PV G L ρ1 F1 (rpD G) Q (g l s1) := by
  cases o with
  | none => exact q.elim
  | some l => exact ⟨l, rfl, PB.pv q (ne l s1)⟩
/-- the thing that is taken in, evaluated -/
theorem src_ok (h : Sd c ca T X W sc) {f : Expr → ME} (hf : ∀ e, PE X e (tE (gx X ca T) W (f e))) {a : Expr} {g : List D → S → R D} (ne : ∀ l s, (g l s).isErr = false) {Q : VK} (I : Inv X pins σ H s) (q : tE (gx X ca T) W (fun sl s => (srcM c.own sc f a sl s).bind fun l s1 => g l s1) σ H Q) :
    wpAny (model X.prog X.w) X.A (eval a X.env) (fun u s1 => ∃ r l st ρ F L, u = .ref r ∧ Coll X ca T pins σ L ρ F st l (.ref r) s1 ∧ PV (gx X ca T) L ρ F (rpD (gx X ca T)) Q (g l st)) X.xe s := by
  -- one value, then the rest
  have one : ∀ {o : Expr} {w : D → S → Option (List D)}, (∀ sl s, srcM c.own sc f a sl s = (f o sl s).bind fun d s1 => R.of s1 (w d s1)) →
      wpAny (model X.prog X.w) X.A (eval o X.env) (EP X pins σ fun v H' => ∃ d st1 ρ1 F1 L, Rel (gx X ca T) L H' st1 ρ1 F1 ∧ RepD ca X.K ρ1 F1 d v ∧ ∃ l, w d st1 = some l ∧ PV (gx X ca T) L ρ1 F1 (rpD (gx X ca T)) Q (g l st1)) X.xe s := fun {o w} e => by
    obtain ⟨sl, st, ρ, F, L, hs, hr, hp⟩ := q
    refine (hf o).run pins s σ H _ I ⟨sl, st, ρ, F, L, hs, hr, ?_⟩
    dsimp only at hp
    rw [e] at hp
    cases ef : f o sl st with
    | ok d s1 =>
      rw [ef] at hp
      intro v H' ρ' F' l' r' p
      obtain ⟨l, e1, q⟩ := PV.step ne (PB.le hp l')
      exact ⟨d, s1, ρ', F', L, r', p, l, e1, q⟩
    | err x s1 =>
      rw [ef] at hp
      exact hp
    | bad =>
      rw [ef] at hp
      exact hp
  have never : (∀ sl s, srcM c.own sc f a sl s = .bad) → wpAny (model X.prog X.w) X.A (eval a X.env) (fun u s1 => ∃ r l st ρ F L, u = .ref r ∧ Coll X ca T pins σ L ρ F st l (.ref r) s1 ∧ PV (gx X ca T) L ρ F (rpD (gx X ca T)) Q (g l st)) X.xe s := fun e => by
    obtain ⟨sl, st, ρ, F, L, hs, hr, hp⟩ := q
    dsimp only at hp
    rw [e] at hp
    exact hp.elim
  cases hk : itK c.own sc true a with
  | val =>
    refine thn (one (o := a) (w := takeD) fun sl s => by unfold srcM; rw [hk]) fun u s1 ⟨v, H1, I1, rv, d, st1, ρ1, F1, L, r1, hd, l, e1, q⟩ => ?_
    obtain ⟨b, eb, hc⟩ := coll_val h.calm I1 r1 hd rv e1
    exact ⟨b, l, st1, ρ1, F1, L, eb, eb ▸ hc, q⟩
  | vals o =>
    unfold itK at hk
    split at hk
    · repeat' (first | (cases hk; done) | split at hk)
    · rename_i o' m apos cpos
      split at hk
      · rename_i hm
        split at hk
        · rename_i hc
          cases hk
          subst hm
          refine wpAny_Call_method (T := "dict") (id := "dict.values") (noSuper hc.2) rfl hc.1 PySem.F.plainAttrs_dict PySem.F.slot_dict_values PySem.F.type_dict_values (thn (one (o := o) (w := fun d s => (walkV d s).map (·.1)) fun sl s => by
            unfold srcM itK
            simp only [if_true, hc, and_self]) fun u s1 ⟨v, H1, I1, rv, d, st1, ρ1, F1, L, r1, hd, l, e1, q⟩ => ?_)
          unfold walkV at e1
          split at e1
          rotate_left
          · cases e1
          rename_i l' ev
          cases e1
          obtain ⟨b, vs, eb, h1, h2⟩ := r1.viewK hd ev
          subst eb
          obtain rfl : u = Value.ref b := rv
          obtain ⟨z, lo, kvs, rel, dd⟩ := dk_rd I1.hok h1
          obtain ⟨ep, hat⟩ := dd.dictAt
          have hl : vs.length = kvs.length := Paired.length rel
          refine ⟨dd.typeIs, dd.mapOf.noDict, ?_⟩
          have I2 : Inv X pins σ H1 { s1 with heap := s1.heap.push { cls := .type "dict_values", data := .fields #[.ref b] } } := I1.kept (t' := s1.toks) fun b ob q => Heap.get?_push_of_some _ q
          show wpAny _ _ (callWith cpos (.builtin "dict.values") [.ref b] [] []) _ X.xe s1
          refine method_meetsIn PySem.F.slot_dict_values PySem.F.entry_dict_values rfl (PySem.evalArgs_none ⟨rfl, dd.typeIs, PySem.F.args_dict_values_1 _, _, meets_dict_values (mixKind X.prog X.w) b lo, ⟨kvs, dd⟩, s1.heap.objs.size, _, st1, ρ1, F1, L, rfl, fun E R k => ?_, q⟩)
          refine PySem.W.kdu_collect (A := X.A.in1) (s := { s1 with heap := s1.heap.push { cls := .type "dict_values", data := .fields #[.ref b] } }) (PySem.W.kdl_values (knd := mixKind X.prog X.w) (kvs := kvs) (ep := ep) (r := s1.heap.objs.size) (d := b)) (I1.ok.hd h.calm) ⟨⟨_, Heap.get?_push_size _ rfl, rfl, rfl⟩, hat.push _⟩ (by omega) fun h' tk acc hk hacc => ?_
          have hrep : RepL ca X.K ρ1 F1 (l'.map fun p => p.2) (vs.map fun p => p.2) := vals_rep (G := gx X ca T) h2
          refine k h' tk acc.toList (vs.map fun p => p.2) H1 F1 hk (I2.kept hk) (.refl _ _) r1 hrep (vals_ix (by rw [List.length_map, hl]; exact (show acc.toList.length = kvs.length from hacc.1).symm) fun j v e => ?_) (by have e2 : acc.toList.length = kvs.length := hacc.1; omega)
          obtain ⟨k1, e1⟩ := hacc.2 j v (by rw [← Array.getElem?_toList]; exact e)
          have hj : j < vs.length := by rw [hl]; exact (List.getElem?_eq_some_iff.mp e1).1
          obtain ⟨p, hp⟩ : ∃ p, vs[j]? = some p := ⟨_, List.getElem?_eq_getElem hj⟩
          obtain ⟨u', g1, g2⟩ := kv_get rel (show vs[j]? = some (p.1, p.2) from hp)
          rw [e1] at g1
          cases g1
          exact ⟨p.2, by rw [List.getElem?_map, hp]; rfl, g2⟩
        · cases hk
      · repeat' (first | (cases hk; done) | split at hk)
    · cases hk
    · cases hk
  | itms o =>
    unfold itK at hk
    split at hk
    · repeat' (first | (cases hk; done) | split at hk)
    · rename_i o' m apos cpos
      split at hk
      · repeat' (first | (cases hk; done) | split at hk)
      · rename_i hmv
        split at hk
        · rename_i hm
          split at hk
          · rename_i hc
            cases hk
            subst hm
            refine wpAny_Call_method (T := "dict") (id := "dict.items") (noSuper hc.2.1) rfl hc.1 PySem.F.plainAttrs_dict PySem.F.slot_dict_items PySem.F.type_dict_items (thn (one (o := o) (w := fun d s => (walkI d s).map (·.1)) fun sl s => by
              unfold srcM itK
              simp only [if_true, if_neg hmv, hc, and_self]) fun u s1 ⟨v, H1, I1, rv, d, st1, ρ1, F1, L, r1, hd, l, e1, q⟩ => ?_)
            unfold walkI at e1
            split at e1
            rotate_left
            · cases e1
            rename_i l' ev
            cases e1
            obtain ⟨b, vs, eb, h1, h2⟩ := r1.viewK hd ev
            subst eb
            obtain rfl : u = Value.ref b := rv
            obtain ⟨z, lo, kvs, rel, dd⟩ := dk_rd I1.hok h1
            obtain ⟨ep, hat⟩ := dd.dictAt
            have hl : vs.length = kvs.length := Paired.length rel
            refine ⟨dd.typeIs, dd.mapOf.noDict, ?_⟩
            have I2 : Inv X pins σ H1 { s1 with heap := s1.heap.push { cls := .type "dict_items", data := .fields #[.ref b] } } := I1.kept (t' := s1.toks) fun b ob q => Heap.get?_push_of_some _ q
            show wpAny _ _ (callWith cpos (.builtin "dict.items") [.ref b] [] []) _ X.xe s1
            refine method_meetsIn PySem.F.slot_dict_items PySem.F.entry_dict_items rfl (PySem.evalArgs_none ⟨rfl, dd.typeIs, PySem.F.args_dict_items_1 _, _, meets_dict_items (mixKind X.prog X.w) b lo, ⟨kvs, dd⟩, s1.heap.objs.size, _, st1, ρ1, F1, L, rfl, fun E R k => ?_, q⟩)
            refine PySem.W.kdx_collect (A := X.A.in1) (s := { s1 with heap := s1.heap.push { cls := .type "dict_items", data := .fields #[.ref b] } }) (knd := mixKind X.prog X.w) (kvs := kvs) (ep := ep) (r := s1.heap.objs.size) (d := b) (I1.ok.hd h.calm) ⟨_, Heap.get?_push_size _ rfl, rfl, rfl⟩ (hat.push _) (by omega) fun h' tk as hk hla hG => ?_
            have nd : as.Nodup := List.Pairwise.imp (fun {a b} (h : a < b) => Nat.ne_of_lt h) hG.rise
            have up : ∀ a ∈ as, (s1.heap.push { cls := .type "dict_items", data := .fields #[.ref b] }).objs.size ≤ a := fun a ha => Nat.le_of_lt (hG.above a ha)
            have fr : ∀ a ∈ as, H1 a = none := fun a ha => I2.hok.fresh (up a ha)
            have at1 := LiI.putT_at as vs H1 (by omega) nd
            have at2 := LiI.putT_at as vs F1 (by omega) nd
            obtain ⟨r3, l3⟩ := put_rel (kvs := vs) r1 fr nd
            have I3 : Inv X pins σ (LiI.putT H1 as vs) { s1 with heap := h', toks := tk } := by
              refine inv_more (s := { s1 with heap := s1.heap.push { cls := .type "dict_items", data := .fields #[.ref b] } }) I2 hk (fun a o e => ?_) (fun a e ne => ?_) fun a o e e2 => ?_
              · rw [LiI.putT_off as vs _ fun z => by rw [fr a z] at e; cases e]
                exact e
              · by_cases ha : a ∈ as
                · exact up a ha
                · rw [LiI.putT_off as vs _ ha] at ne
                  exact absurd e ne
              · by_cases ha : a ∈ as
                · obtain ⟨j, pk, e3, e4, e5⟩ := LiI.paired_ix at1 ha
                  rw [e5] at e2
                  cases e2
                  obtain ⟨key, k1, x, f1, f2, f3⟩ := hG.pairs j a e3
                  obtain ⟨qv, g1, g2⟩ := kv_get rel (show vs[j]? = some (pk.1, pk.2) from e4)
                  rw [f1] at g1
                  cases g1
                  exact ⟨by show 2 ≤ sizeLine; decide, [key, x], .cons (relV_key (show keyIs pk.1 key = true from f2)) (.cons g2 .nil), ⟨_, f3, rfl, _, rfl⟩⟩
                · rw [LiI.putT_off as vs _ ha, e] at e2
                  cases e2
            exact k h' tk (as.map Value.ref) (as.map V.ref) _ _ hk I3 l3 r3 (items_rep (G := gx X ca T) (RepK.mono l3 _ _ h2) at2) (LiI.vals_refs as) (by rw [List.length_map]; omega)
          · cases hk
        · cases hk
    · cases hk
    · cases hk
  | _ => exact never fun sl s => by unfold srcM; rw [hk]
end
end AL
set_option Elab.async false
set_option linter.all false
set_option maxRecDepth 100000
set_option maxHeartbeats 4000000
/-! AL32: sorted, in a call. -/
namespace AL
open PySem PySem.Spec PyProof.Rows L2
section
variable {c : Cfg} {ca : Str → Addr} {T : List (Addr × Str)} {X : Cx} {W : WX} {sc : Scope} {p : Ev} {pos pf : Pos}
theorem plain_rev (a : Addr) : Builtin.«list.sort» ⟨[.ref a], []⟩ = Builtin.«list.sort» ⟨[.ref a], [(Str.ofString "reverse", .bool false)]⟩ := by
  rw [list_sort_rev]
  first | rfl | kernel_rfl
theorem sortR_ne {b : Bool} {l : List D} {s : S} : (match sortR b l with
    | some q => made c pos (.lst q) s
    | none => .bad : R D).isErr = false := by
  split
  · exact made_ne
  · rfl
theorem ae_sort (h : Sd c ca T X W sc) (he : ∀ e, PE X e (tE (gx X ca T) W (p.e sc e))) {a : Expr} (hg : glN sc ("sorted" : Str) = true) (ho : c.own "sorted" = false) (hi : c.isC "sorted" = false) (ha : starB a = false) :
    PE X (.Call (.Name "sorted" pf) [a] [] pos) (tE (gx X ca T) W (sortM c p sc false a pos)) := by
  obtain ⟨hgl, hdb⟩ := glN_ok h hg
  have hm := h.blt "sorted" (by simp [bltN]) ho hi
  refine ⟨fun pins s σ H Q I q => ?_⟩
  refine wpAny_Call_Name_kw (ld_blt (u := .builtin "sorted") I hgl hm (by decide +kernel) ?_ (by decide) hdb)
  refine PyProof.Rows.callWith_builtin1 ?_ (star_ok ha) rfl
  rw [star_ok ha]
  show wpAny _ _ (spliced ((false, eval a X.env) :: backTo pos (starEach [] X.env))) _ _ s
  refine Calls.spliced_cons (thn (src_ok h he (g := fun l s1 => match sortR false l with
    | some q => made c pos (.lst q) s1
    | none => .bad) (fun l s => sortR_ne) I q) fun u s1 ⟨r, l, st, ρ, F, L, eu, hc, q⟩ => Calls.spliced_nil ?_)
  subst eu
  exact sorted_coll hc plain_rev (PyProof.Rows.args_sorted1 _) (fun _ => PyProof.Rows.args_list_sort _) q
theorem ae_sortR (h : Sd c ca T X W sc) (he : ∀ e, PE X e (tE (gx X ca T) W (p.e sc e))) {a : Expr} {b : Bool} {j : Nat} {p1 p2 : Pos} (hg : glN sc ("sorted" : Str) = true) (ho : c.own "sorted" = false) (hi : c.isC "sorted" = false) (ha : starB a = false) :
    PE X (.Call (.Name "sorted" pf) [a] [⟨some "reverse", .Constant (.bool b) j p1, p2⟩] pos) (tE (gx X ca T) W (sortM c p sc b a pos)) := by
  obtain ⟨hgl, hdb⟩ := glN_ok h hg
  have hm := h.blt "sorted" (by simp [bltN]) ho hi
  refine ⟨fun pins s σ H Q I q => ?_⟩
  refine wpAny_Call_Name_kw (ld_blt (u := .builtin "sorted") I hgl hm (by decide +kernel) ?_ (by decide) hdb)
  refine PyProof.Rows.callWith_kw ?_ (by rw [star_ok ha]; rfl) (by rw [star_ok ha]; rfl) rfl rfl
  rw [star_ok ha]
  show wpAny _ _ (spliced ((false, eval a X.env) :: backTo pos (starEach [] X.env))) _ _ s
  refine Calls.spliced_cons (thn (src_ok h he (g := fun l s1 => match sortR b l with
    | some q => made c pos (.lst q) s1
    | none => .bad) (fun l s => sortR_ne) I q) fun u s1 ⟨r, l, st, ρ, F, L, eu, hc, q⟩ => Calls.spliced_nil ?_)
  subst eu
  refine PyProof.Rows.evalAll_cons ?_
  refine wpAny_bind (Constant_bool (wpAny_bind (wpAny_standAt (wpAny_pure (PyProof.Rows.evalAll_nil ?_)))))
  exact sorted_coll hc (fun _ => rfl) (PyProof.Rows.args_sorted_rev _ _) (fun _ => PyProof.Rows.args_list_sort_rev _ _) q
end
end AL
set_option Elab.async false
set_option linter.all false
set_option maxRecDepth 100000
set_option maxHeartbeats 4000000
/-! AL33: a lambda of one parameter, called by a built-in. -/
namespace AL
open PySem PySem.Spec PyProof.Rows L2
/-- the same, deeper -/
def atA (X : Cx) (A : Around) : Cx := { X with A := A }
section
variable {X : Cx} {A : Around} {pins : List (Addr × Obj)} {σ : L2.St} {H : Hp} {s : Shared}
theorem inv_at (I : Inv X pins σ H s) (h1 : A.frames = X.A.frames) (h2 : A.handled = X.A.handled) : Inv (atA X A) pins σ H s :=
  ⟨⟨I.ok.mod, I.ok.kind, I.ok.glob, I.ok.blt, I.ok.above, I.ok.inj, I.ok.has, I.ok.cab, fun z => h2.trans (I.ok.hd z), h1.trans I.ok.frames, I.ok.stk, I.ok.exf, I.ok.bs, I.ok.bsz, I.ok.noex, I.ok.exfs, I.ok.funs, I.ok.frf⟩, I.os, I.bare, I.base, I.loc, I.cell, I.free, I.freeC, I.pin, I.hok, I.len⟩
theorem inv_back (I : Inv (atA X A) pins σ H s) (h1 : X.A.frames = A.frames) (h2 : X.A.handled = A.handled) : Inv X pins σ H s :=
  ⟨⟨I.ok.mod, I.ok.kind, I.ok.glob, I.ok.blt, I.ok.above, I.ok.inj, I.ok.has, I.ok.cab, fun z => h2.trans (I.ok.hd z), h1.trans I.ok.frames, I.ok.stk, I.ok.exf, I.ok.bs, I.ok.bsz, I.ok.noex, I.ok.exfs, I.ok.funs, I.ok.frf⟩, I.os, I.bare, I.base, I.loc, I.cell, I.free, I.freeC, I.pin, I.hok, I.len⟩
end
/-- one parameter; captured names, globals -/
structure LamS1 (sc scope : Scope) (x : Str) : Prop where
  kind : scope.kind = .function
  co : scope.isCoroutine = false
  gen : scope.isGenerator = false
  par : scope.names.lookup x = some .local
  own : ∀ y ∈ scope.names, (y.2 = .local → y.1 = x) ∧ y.2 ≠ .cell
  free : ∀ y ∈ scope.names, y.2 = .free → sc.names.lookup y.1 = some .cell ∨ sc.names.lookup y.1 = some .free
theorem lamS1_by {sc scope : Scope} {x : Str} (h : lamSB1 sc scope x = true) : LamS1 sc scope x := by
  unfold lamSB1 at h
  simp only [Bool.and_eq_true, Bool.or_eq_true, Bool.not_eq_true', decide_eq_true_eq, decide_eq_false_iff_not, List.all_eq_true] at h
  obtain ⟨⟨⟨⟨h1, h2⟩, h3⟩, h5⟩, h4⟩ := h
  refine ⟨h1, h2, h3, h5, fun y hy => ⟨fun e => ?_, (h4 y hy).1.2⟩, fun y hy e => ?_⟩
  · rcases (h4 y hy).1.1 with z | z
    · exact absurd e z
    · exact z
  · rcases (h4 y hy).2 with (z | z) | z
    · exact absurd e z
    · exact .inl z
    · exact .inr z
section
variable {X : Cx} {A : Around} {pins : List (Addr × Obj)} {σ : L2.St} {H : Hp} {s : Shared} {scope : Scope} {x : Str} {i : Nat} {f c' : Addr} {v : V} {u : Value}
theorem lam1_has (L : LamS1 X.env.scope scope x) (ok : X.Ok) : ∀ y ∈ scope.names, y.2 = .free → ∃ c, X.env.cells.lookup y.1 = some c := fun y hy e => by
  rcases L.free y hy e with k | k
  · exact ok.has _ (.inl k)
  · exact ok.has _ (.inr k)
theorem lam1_start {E : XK} {h₁ : Heap} {tk : Nat} (I : Inv X pins σ H s) (L : LamS1 X.env.scope scope x) (h1 : A.frames = X.A.frames) (h2 : A.handled = none) (hns : h₁.Ns s.heap.objs.size fun y => [(x, u)].reverse.lookup y) (kp : ∀ b o, s.heap.get? b = some o → h₁.get? b = some o)
    (nd : X.N.Nodup) (hi : X.N[i]? = some x) (rv : L2.RelV v u) : Inv (LamX.lamCx X A X.stack s H E scope f c') [] (σ.set i (some v)) H { s with heap := h₁, toks := tk } := by
  have hfree := lam1_has L I.ok
  have cm : ∀ {y c}, (cloFrom X.env.cells scope.names []).lookup y = some c → X.env.cells.lookup y = some c := fun {y c} e => by
    rcases cloFrom_mem (PySem.mem_of_lookup e) with hm | ⟨g1, g2⟩
    · cases hm
    · obtain ⟨c1, hc⟩ := hfree _ g1 rfl
      have hc : X.env.cells.lookup y = some c1 := hc
      have : c = c1 := by
        rw [g2, hc]
        rfl
      subst this
      exact hc
  have look : ∀ {y}, scope.names.lookup y = some .free → ∃ c, (cloFrom X.env.cells scope.names []).lookup y = some c := fun {y} hl =>
    mem_lookup (cloFrom_has (cells := X.env.cells) (acc := []) (show (y, NameKind.free) ∈ scope.names from PySem.mem_of_lookup hl))
  have cellK : ∀ {c : Addr} {w : Option Value}, s.heap.IsCell c w → h₁.IsCell c w := fun {c w} ⟨o, ho, hd⟩ => ⟨o, kp _ _ ho, hd⟩
  have e0 := I.env0
  refine ⟨⟨I.ok.mod, L.kind, rfl, rfl, Nat.le_refl _, fun y z c a b => I.ok.inj y z c (cm a) (cm b), fun y hy => ?_, fun y c z _ => (by cases (show false = true from z)), fun _ => h2, Around.frames_deeper (h1.trans I.ok.frames), .inr ⟨rfl, rfl⟩, fun b z => (by cases z), e0.bs, e0.bsz, fun b _ _ z => (by cases z),
      fun b z => (by cases z), e0.funs, e0.frf⟩,
    rfl, I.bare, Un.kept kp, ⟨_, hns, fun j y w a b d => ?_⟩, fun y c e => ?_, I.hok.fresh (Nat.le_refl _), fun y c e => I.freeC y c (cm e), fun q hq => (by cases hq), I.hok.kept kp, by rw [List.length_set]; exact I.len⟩
  · have hy : scope.names.lookup y = some .cell ∨ scope.names.lookup y = some .free := hy
    rcases hy with hy | hy
    · exact absurd rfl (L.own _ (PySem.mem_of_lookup hy)).2
    · exact look hy
  · have d : Vis scope y := d
    have a : X.N[j]? = some y := a
    by_cases hj : i = j
    · subst hj
      rw [hi] at a
      cases a
      rw [List.getElem?_set] at b
      simp only [if_true] at b
      split at b
      · cases b
        exact ⟨u, rv, .inl ⟨L.par, by simp⟩⟩
      · cases b
    · rw [List.getElem?_set_ne hj] at b
      rcases d with k | k | k
      · have := (L.own _ (PySem.mem_of_lookup k)).1 rfl
        have this : y = x := this
        subst this
        exfalso
        obtain ⟨g1, g2⟩ := List.getElem?_eq_some_iff.mp hi
        obtain ⟨g3, g4⟩ := List.getElem?_eq_some_iff.mp a
        exact hj ((List.getElem_inj nd).mp (g2.trans g4.symm))
      · exact absurd rfl (L.own _ (PySem.mem_of_lookup k)).2
      · obtain ⟨m, hn, hl⟩ := I.loc
        have hvis : Vis X.env.scope y := (L.free _ (PySem.mem_of_lookup k) rfl).elim (fun k => .inr (.inl k)) (fun k => .inr (.inr k))
        obtain ⟨w', r, q⟩ := hl j y w a b hvis
        obtain ⟨c2, g2⟩ := look k
        refine ⟨w', r, .inr ⟨.inr k, c2, g2, ?_⟩⟩
        have c1 := cm g2
        rcases q with ⟨k', _⟩ | ⟨_, c3, e', z⟩
        · have k' : X.env.scope.names.lookup y = some .local := k'
          rcases L.free _ (PySem.mem_of_lookup k) rfl with k2 | k2
          · rw [show X.env.scope.names.lookup y = _ from k2] at k'
            cases k'
          · rw [show X.env.scope.names.lookup y = _ from k2] at k'
            cases k'
        · rw [c1] at e'
          cases e'
          exact cellK z
  · obtain ⟨w', z⟩ := I.cell y c (cm e)
    exact ⟨w', cellK z⟩
abbrev noE : XK := fun _ _ _ => False
/-- the lambda, called by a built-in -/
theorem lam1_call {params : Arguments} {body : Expr} {pm ctv : Value} {k : Nat} {Q : VK} {tb : TE} {E' : Value → Shared → Prop} (I : Inv X pins σ H s) (L : LamS1 X.env.scope scope x) (h1 : A.frames = X.A.frames) (hr : Room (k + 1) A)
    (hf : s.heap.get? f = some (PySem.W.kla_obj "<lambda>" (X.env.qual ++ "<lambda>") params body scope (cloFrom X.env.cells scope.names []) pm c' ctv)) (hc : H c' = some (LamX.CodeO c' (X.env.qual ++ "<lambda>")))
    (hbind : ∀ u, bindArgs (PySem.W.kla_fn "<lambda>" (X.env.qual ++ "<lambda>") params body scope (cloFrom X.env.cells scope.names []) pm (.ref c') ctv) ⟨[u], []⟩ = pure [(x, u)])
    (nd : X.N.Nodup) (hi : X.N[i]? = some x) (rv : L2.RelV v u) (hbody : Room k (A.deeper (LamX.lamEnv X scope s.heap.objs.size f c')) → PE (LamX.lamCx X A X.stack s H noE scope f c') body tb) (q : tb (σ.set i (some v)) H Q) :
    wpAny (model X.prog X.w) A (call (.ref f) [u]) (EP X pins σ Q) E' s := by
  obtain ⟨⟨oc, vs, t, hoc, hdc, hvc⟩, _, _⟩ := I.hok c' _ hc
  have rc : codeAny (model X.prog X.w) A (.call (.ref f) ⟨[u], []⟩) (CR (L2.CX X.prog X.w) X.stack X.prog X.w H s Q noE) s := by
    refine PySem.W.kla_callFunE hr.depth hf rfl L.co L.gen rfl ⟨c', oc, vs, t, rfl, hoc, hdc, hvc⟩ ?_
    rw [hbind]
    refine wpAny_pure (wpAny_newFunctionEnv (fun y hy => (L.own y hy).2) (fun y hy => ?_) (fun h₁ hns hsb => ⟨I.nolimit.fresh _ hsb, ?_⟩) L.kind)
    · rw [List.mem_singleton.mp hy]
      exact L.par
    show codeAny _ _ (.expr body (LamX.lamEnv X scope s.heap.objs.size f c')) _ _
    have kp : ∀ b o, s.heap.get? b = some o → h₁.get? b = some o := fun b o e => hsb.extBut b o (Nat.ne_of_lt (Heap.lt_size e)) (Heap.get?_push_of_some _ e)
    have J := lam1_start (f := f) (c' := c') (E := noE) (tk := s.toks + [(x, u)].length) I L h1 hr.hd hns kp nd hi rv
    refine PySem.W.kla_codeExpr (wpAny_mono ((hbody (hr.deeper _)).run [] _ _ H Q J q) (fun w s' hq => ?_) fun e s' hq => hq)
    obtain ⟨w', H', J', rw', q⟩ := hq
    exact ⟨w', H', J'.os, J'.bare, J'.base, J'.hok, rw', q⟩
  refine wpAny_call (codeAny_mono rc fun r s' hq => ?_)
  cases r with
  | error e =>
    obtain ⟨_, _, _, _, _, _, _, _, _, _, _, _, z⟩ := hq
    exact z.elim
  | ok fl =>
    cases fl with
    | ret w => exact I.after hq
    | next => exact False.elim hq
    | brk => exact False.elim hq
    | cont => exact False.elim hq
end
end AL
set_option Elab.async false
set_option linter.all false
set_option maxRecDepth 100000
set_option maxHeartbeats 4000000
/-! AL34: two keys compared. -/
namespace AL
open PySem PySem.Spec PyProof.Rows L2 PySem.SeqAt
/-- as the library tells it -/
def pdA : D → PyData
  | .int i => .int i
  | .str x => .str x
  | _ => .none
section
variable {ca : Str → Addr} {T : List (Addr × Str)} {X : Cx} {L H : Hp} {st : S} {s : Shared} {ρ : List Addr} {F : Hp} {pins : List (Addr × Obj)} {σ : L2.St} {A : Around} {E : Value → Shared → Prop}
theorem preK_cons (d : D) (l : List D) : preK (d :: l) = match flatK d with
    | some k => k :: preK l
    | none => [] := rfl
theorem pre_full {d : D} {l : List D} (h : (preK (d :: l)).length = (d :: l).length) : (∃ k, flatK d = some k ∧ preK (d :: l) = k :: preK l) ∧ (preK l).length = l.length := by
  rw [preK_cons] at h ⊢
  cases hf : flatK d with
  | none =>
    rw [hf] at h
    cases h
  | some k =>
    rw [hf] at h
    exact ⟨⟨k, rfl, rfl⟩, by simpa using h⟩
theorem reads_one {d : D} {v : V} {u : Value} {k : KA} {h : Heap} (hd : RepD ca X.K ρ F d v) (rv : L2.RelV v u) (hf : flatK d = some k) : Reads h u (pdA d) [] := by
  cases d with
  | int i =>
    obtain rfl : v = .int i := hd
    obtain ⟨t, rfl⟩ := rv
    exact .int i t
  | str x =>
    obtain ⟨rfl, _⟩ := hd
    obtain ⟨t, rfl⟩ := rv
    exact .str x t
  | _ => cases hf
theorem reads_flat {h : Heap} : ∀ {l : List D} {vs : List V} {us : List Value}, RepL ca X.K ρ F l vs → Vals vs us → (preK l).length = l.length → ReadsAll h us (l.map pdA) []
  | [], vs, us, hl, r, _ => by
    obtain rfl : vs = [] := hl
    cases r
    exact .nil
  | d :: l, _, us, ⟨v, vs, e, h1, h2⟩, r, hp => by
    subst e
    cases r with
    | cons r1 r2 =>
      obtain ⟨⟨k, hk, _⟩, hp'⟩ := pre_full hp
      exact ReadsAll.cons (as := []) (bs := []) (reads_one h1 r1 hk) (reads_flat h2 r2 hp')
theorem tok_one {d : D} {k : KA} (h : flatK d = some k) : PySem.W.keyToks (pdA d) = [k] := by
  cases d with
  | int i => cases h; rfl
  | str x => cases h; rfl
  | _ => cases h
theorem alike_one {d d' : D} {k k' : KA} (h : flatK d = some k) (h' : flatK d' = some k') (hs : isR k = isR k') : PySem.W.alike (pdA d) (pdA d') = true := by
  cases d with
  | int i =>
    cases h
    cases d' with
    | int j => rfl
    | str y => cases h'; cases hs
    | _ => cases h'
  | str x =>
    cases h
    cases d' with
    | int j => cases h'; cases hs
    | str y => rfl
    | _ => cases h'
  | _ => cases h
theorem toks_flat : ∀ {l l' : List D}, (preK l).length = l.length → (preK l').length = l'.length → shK (preK l) = shK (preK l') → PySem.W.alikeAll (l.map pdA) (l'.map pdA) = true ∧ PyProof.Rows.lexLt itemOrd (PySem.W.keyToksAll (l.map pdA)) (PySem.W.keyToksAll (l'.map pdA)) = ltKA (preK l) (preK l')
  | [], [], _, _, _ => ⟨rfl, by
    show PyProof.Rows.lexLt itemOrd [.inl 0] [.inl 0] = _
    rw [lex_irrefl]
    rfl⟩
  | [], d' :: l', _, h', hs => by
    obtain ⟨⟨k, hk, e⟩, _⟩ := pre_full h'
    rw [e] at hs
    cases hs
  | d :: l, [], h, _, hs => by
    obtain ⟨⟨k, hk, e⟩, _⟩ := pre_full h
    rw [e] at hs
    cases hs
  | d :: l, d' :: l', h, h', hs => by
    obtain ⟨⟨k, hk, e⟩, h1⟩ := pre_full h
    obtain ⟨⟨k', hk', e'⟩, h1'⟩ := pre_full h'
    rw [e, e'] at hs
    obtain ⟨s1, s2⟩ := List.cons.inj hs
    obtain ⟨a1, a2⟩ := toks_flat h1 h1' s2
    refine ⟨?_, ?_⟩
    · show (PySem.W.alike (pdA d) (pdA d') && PySem.W.alikeAll (l.map pdA) (l'.map pdA)) = true
      rw [alike_one hk hk' s1, a1]
      rfl
    · show PyProof.Rows.lexLt itemOrd (.inl 1 :: (PySem.W.keyToks (pdA d) ++ PySem.W.keyToksAll (l.map pdA))) (.inl 1 :: (PySem.W.keyToks (pdA d') ++ PySem.W.keyToksAll (l'.map pdA))) = _
      rw [lex_self, tok_one hk, tok_one hk', e, e']
      show PyProof.Rows.lexLt itemOrd (k :: PySem.W.keyToksAll (l.map pdA)) (k' :: PySem.W.keyToksAll (l'.map pdA)) = PyProof.Rows.lexLt itemOrd (k :: preK l) (k' :: preK l')
      rw [lex_cons, lex_cons, a2]
theorem depth_flat : ∀ l : List D, PyData.depthAll (l.map pdA) = 0
  | [] => rfl
  | d :: l => by
    show max (PyData.depth (pdA d)) (PyData.depthAll (l.map pdA)) = 0
    rw [depth_flat l]
    cases d <;> rfl
/-- which keys may be compared -/
def KOk (k0 k : D) : Prop := kindK k < 3 ∧ kindK k = kindK k0 ∧ shK (keyD k) = shK (keyD k0) ∧ fullD k = true
theorem key_lt (I : Inv X pins σ H s) (r : Rel (gx X ca T) L H st ρ F) {d d' k0 : D} {v v' : V} {u u' : Value} (hd : RepD ca X.K ρ F d v) (rv : L2.RelV v u) (hd' : RepD ca X.K ρ F d' v') (rv' : L2.RelV v' u') (c1 : KOk k0 d) (c2 : KOk k0 d') (hu : A.units + 64 < cLine) {Q : Value → Shared → Prop}
    (q : Q (.bool (ltKA (keyD d) (keyD d'))) s) : wpAny (model X.prog X.w) A (richCompare .Lt u u') Q E s := by
  have tup : ∀ {a a' : Addr} {l l' : List D} {vs vs' : List V}, SqT X.K H a vs → RepL ca X.K ρ F l vs → SqT X.K H a' vs' → RepL ca X.K ρ F l' vs' → (preK l).length = l.length → (preK l').length = l'.length → shK (preK l) = shK (preK l') → Q (.bool (ltKA (preK l) (preK l'))) s → wpAny (model X.prog X.w) A (richCompare .Lt (.ref a) (.ref a')) Q E s := fun {a a' l l' vs vs'} g1 g2 g3 g4 f1 f2 f3 q => by
    obtain ⟨its, r1, ⟨o, ho, hc, n, hdt⟩, _⟩ := I.tuple g1
    obtain ⟨its', r1', ⟨o', ho', hc', n', hdt'⟩, _⟩ := I.tuple g3
    obtain ⟨a1, a2⟩ := toks_flat f1 f2 f3
    have R1 : Reads s.heap (.ref a) (.tuple (l.map pdA)) [] := .tuple ho hc hdt (by simpa using reads_flat (h := s.heap) g2 r1 f1)
    have R2 : Reads s.heap (.ref a') (.tuple (l'.map pdA)) [] := .tuple ho' hc' hdt' (by simpa using reads_flat (h := s.heap) g4 r1' f2)
    refine PySem.W.rcLt_alike _ _ A s _ _ _ _ R1 R2 a1 (fun z => by cases z) ?_ X.prog X.w E Q ?_
    · have : PyData.depth (.tuple (l.map pdA)) = 1 := by
        show PyData.depthAll (l.map pdA) + 1 = 1
        rw [depth_flat]
      omega
    · have : PySem.W.dataLt (.tuple (l.map pdA)) (.tuple (l'.map pdA)) = ltKA (preK l) (preK l') := a2
      rw [this]
      exact q
  obtain ⟨b1, b2, b3, b4⟩ := c1
  obtain ⟨e1, e2, e3, e4⟩ := c2
  have kk : kindK d = kindK d' := b2.trans e2.symm
  have ss := b3.trans e3.symm
  cases d with
  | int i =>
    cases d' with
    | int j =>
      obtain rfl : v = .int i := hd
      obtain rfl : v' = .int j := hd'
      obtain ⟨t, rfl⟩ := rv
      obtain ⟨t', rfl⟩ := rv'
      refine HT.rcLt_int A s i t j t' X.prog X.w E Q ?_
      have : decide (i < j) = ltKA (keyD (.int i)) (keyD (.int j)) := by
        show decide (i < j) = PyProof.Rows.lexLt itemOrd [.inl i] [.inl j]
        rw [lex_cons]
        have : itemOrd.blt (Sum.inl i) (Sum.inl j) = decide (i < j) := rfl
        rw [this]
        cases decide (i < j) <;> simp [PyProof.Rows.lexLt]
      rw [this]
      exact q
    | _ => first | cases kk | exact absurd (show (3 : Nat) < 3 from e1) (by decide)
  | str x =>
    cases d' with
    | str y =>
      obtain ⟨rfl, _⟩ := hd
      obtain ⟨rfl, _⟩ := hd'
      obtain ⟨t, rfl⟩ := rv
      obtain ⟨t', rfl⟩ := rv'
      have : decide (x.cps.toList < y.cps.toList) = ltKA (keyD (.str x)) (keyD (.str y)) := by
        show decide (x.cps.toList < y.cps.toList) = PyProof.Rows.lexLt itemOrd [.inr x.cps.toList] [.inr y.cps.toList]
        rw [lex_cons]
        have : itemOrd.blt (Sum.inr x.cps.toList) (Sum.inr y.cps.toList) = decide (x.cps.toList < y.cps.toList) := rfl
        rw [this]
        cases decide (x.cps.toList < y.cps.toList) <;> simp [PyProof.Rows.lexLt]
      exact (PyProof.Rows.lt_str (by rw [this]; exact q) : wpAny (model X.prog X.w) A (compareOp .Lt (.str x t) (.str y t')) Q E s)
    | _ => first | cases kk | exact absurd (show (3 : Nat) < 3 from e1) (by decide)
  | tup l =>
    obtain ⟨a, vs, rfl, h1, h2⟩ := hd
    obtain rfl : u = .ref a := rv
    have f1 : (preK l).length = l.length := beq_iff_eq.mp b4
    cases d' with
    | tup l' =>
      obtain ⟨a', vs', rfl, h1', h2'⟩ := hd'
      obtain rfl : u' = .ref a' := rv'
      exact tup (.of (r.frz a _ h1).1) h2 (.of (r.frz a' _ h1').1) h2' f1 (beq_iff_eq.mp e4) ss q
    | con l' =>
      obtain ⟨a', vs', rfl, h1', h2'⟩ := hd'
      obtain rfl : u' = .ref a' := rv'
      exact tup (.of (r.frz a _ h1).1) h2 (r.sqT h1') h2' f1 (beq_iff_eq.mp e4) ss q
    | _ => first | cases kk | exact absurd (show (3 : Nat) < 3 from e1) (by decide)
  | con l =>
    obtain ⟨a, vs, rfl, h1, h2⟩ := hd
    obtain rfl : u = .ref a := rv
    have f1 : (preK l).length = l.length := beq_iff_eq.mp b4
    cases d' with
    | tup l' =>
      obtain ⟨a', vs', rfl, h1', h2'⟩ := hd'
      obtain rfl : u' = .ref a' := rv'
      exact tup (r.sqT h1) h2 (.of (r.frz a' _ h1').1) h2' f1 (beq_iff_eq.mp e4) ss q
    | con l' =>
      obtain ⟨a', vs', rfl, h1', h2'⟩ := hd'
      obtain rfl : u' = .ref a' := rv'
      exact tup (r.sqT h1) h2 (r.sqT h1') h2' f1 (beq_iff_eq.mp e4) ss q
    | _ => first | cases kk | exact absurd (show (3 : Nat) < 3 from e1) (by decide)
  | _ => exact absurd (show (3 : Nat) < 3 from b1) (by decide)
theorem kOk_all {l : List D} (h : okSort l = true) (hf : l.all fullD = true) {k0 : D} (h0 : l.head? = some k0) : ∀ k ∈ l, KOk k0 k := fun k hk => by
  cases l with
  | nil => cases hk
  | cons a l =>
    cases h0
    have h3 := okSort_all h hk
    unfold okSort at h
    simp only [Bool.and_eq_true, decide_eq_true_eq] at h
    have := List.all_eq_true.mp h.1.2 k hk
    simp only [Bool.and_eq_true, beq_iff_eq] at this
    exact ⟨h3, this.1, this.2, List.all_eq_true.mp hf k hk⟩
end
end AL
set_option Elab.async false
set_option linter.all false
set_option maxRecDepth 100000
set_option maxHeartbeats 4000000
/-! AL35: the loop of min by a key. -/
namespace AL
open PySem PySem.Spec PyProof.Rows L2 PySem.SeqAt
section
variable {c : Cfg} {ca : Str → Addr} {T : List (Addr × Str)} {X : Cx} {W : WX} {sc : Scope}
/-- an object that is nobody's -/
def Loose (X : Cx) (pins : List (Addr × Obj)) (b : Addr) : Prop := b ≠ X.env.locals ∧ b ∉ X.fs ∧ (b ∈ X.ex ∨ X.s_0.heap.objs.size ≤ b) ∧ (∀ x c, X.env.cells.lookup x = some c → c ≠ b) ∧ ∀ p ∈ X.pn ++ pins, p.1 ≠ b
structure LpS (X : Cx) (ca : Str → Addr) (T : List (Addr × Str)) (pins : List (Addr × Obj)) (σ : L2.St) (L : Hp) (ρ0 : List Addr) (F0 : Hp) (sa : Addr) (so : Obj) (fp : List Addr) (tn : Nat → Heap → Prop) (i : Nat) (st : S) (ρ : List Addr) (F H : Hp) (s : Shared) : Prop where
  inv : Inv X (pins ++ [(sa, so)]) σ H s
  at_ : tn i s.heap
  fpn : ∀ b ∈ fp, H b = none
  rel : Rel (gx X ca T) L H st ρ F
  le : Le ρ0 F0 ρ F
section
variable {pins : List (Addr × Obj)} {σ : L2.St} {L H : Hp} {ρ0 ρ : List Addr} {F0 F : Hp} {sa it f : Addr} {so : Obj} {fp : List Addr} {tn : Nat → Heap → Prop} {i : Nat} {st : S} {s : Shared} {tg : Expr} {J : It} {A : Around}
theorem LpS.get (l : LpS X ca T pins σ L ρ0 F0 sa so fp tn i st ρ F H s) : s.heap.get? sa = some so ∧ H sa = none :=
  let h := l.inv.pin (sa, so) (List.mem_append_right _ (List.mem_append_right _ (List.mem_singleton.mpr rfl)))
  ⟨h.1, h.2.1⟩
theorem loose_fp (hl : ∀ b ∈ fp, Loose X pins b) (hs : sa ∉ fp) (hn : ∀ b ∈ fp, H b = none) : ∀ b ∈ fp, FpOk X (pins ++ [(sa, so)]) H b := fun b hb => by
  obtain ⟨h1, h2, h3, h4, h5⟩ := hl b hb
  refine ⟨hn b hb, h1, h2, h3, h4, fun p hp z => ?_⟩
  rcases List.mem_append.mp hp with hp | hp
  · exact h5 p (List.mem_append_left _ hp) z
  · rcases List.mem_append.mp hp with hp | hp
    · exact h5 p (List.mem_append_right _ hp) z
    · rw [List.mem_singleton.mp hp] at z
      have z : sa = b := z
      exact hs (by rw [z]; exact hb)
/-- the object at sa becomes another -/
theorem inv_upd {so' : Obj} {h' : Heap} {tk : Nat} (I : Inv X (pins ++ [(sa, so)]) σ H s) (hl : Loose X pins sa) (k : ∀ b o, b ≠ sa → s.heap.get? b = some o → h'.get? b = some o) (hn : h'.get? sa = some so') (hd : ∀ v, so'.data ≠ .cell v) : Inv X (pins ++ [(sa, so')]) σ H { s with heap := h', toks := tk } := by
  obtain ⟨h1, h2, h3, h4, h5⟩ := hl
  have p := I.pin (sa, so) (List.mem_append_right _ (List.mem_append_right _ (List.mem_singleton.mpr rfl)))
  have I1 : Inv X pins σ H { s with heap := h', toks := tk } := I.unpinned.turned k p.2.1 h1 h3 h4 h5
  refine I1.pins_of fun q hq => ?_
  rcases List.mem_append.mp hq with hq | hq
  · exact I1.pin q (List.mem_append_right _ hq)
  · rw [List.mem_singleton.mp hq]
    exact ⟨hn, p.2.1, h1, h2, hd⟩
end
/-- the key of the next item -/
structure KeyF (X : Cx) (c : Cfg) (ca : Str → Addr) (T : List (Addr × Str)) (p : Ev) (x : Str) (body : Expr) (lsc : Scope) (ix : Nat) (f c' : Addr) (pm ctv : Value) (params : Arguments) (lo : Obj) : Prop where
  lam : LamS1 X.env.scope lsc x
  obj : lo = PySem.W.kla_obj "<lambda>" (X.env.qual ++ "<lambda>") params body lsc (cloFrom X.env.cells lsc.names []) pm c' ctv
  bind : ∀ u, bindArgs (PySem.W.kla_fn "<lambda>" (X.env.qual ++ "<lambda>") params body lsc (cloFrom X.env.cells lsc.names []) pm (.ref c') ctv) ⟨[u], []⟩ = pure [(x, u)]
  ix : X.N[ix]? = some x
  nd : X.N.Nodup
  body : ∀ (s : Shared) (H : Hp), Room (c.lvl + 3) (X.A.in1.deeper (LamX.lamEnv X lsc s.heap.objs.size f c')) → PE (LamX.lamCx X X.A.in1 X.stack s H noE lsc f c') body (tE (gx X ca T) (fun cc d _ H => noE cc d H) (p.l lsc body))
  room : Room (c.lvl + 4) X.A.in1
theorem Post.err {α : Type} {P : α → S → Prop} {r : R α} (h : Post P r) : ∃ a s, r = .ok a s ∧ P a s := by
  cases r with
  | ok a s => exact ⟨a, s, rfl, h⟩
  | err x s => exact h.elim
  | bad => exact h.elim
theorem keysL_step {fk : D → S → R D} {d : D} {l : List D} {st : S} {P : List (D × D) → S → Prop} (h : Post P (keysL fk (d :: l) st)) : ∃ k st1, fk d st = .ok k st1 ∧ Post (fun r s4 => P ((k, d) :: r) s4) (keysL fk l st1) := by
  unfold keysL at h
  obtain ⟨k, st1, e, h⟩ := h.bind
  refine ⟨k, st1, e, ?_⟩
  exact h.bind2
section
variable {pins : List (Addr × Obj)} {σ : L2.St} {L L0 H : Hp} {ρ0 ρ ρ1 : List Addr} {F0 F F1 : Hp} {sa it f c' : Addr} {so lo : Obj} {fp : List Addr} {tn : Nat → Heap → Prop} {i ix : Nat} {st s1 : S} {ls : List D × S} {s : Shared} {tg : Expr} {J : It} {p : Ev} {x : Str} {body : Expr} {lsc : Scope} {pm ctv : Value} {params : Arguments} {sl : Sl} {U : Hp → Hp} {Q : VK} {k0 : D}
/-- a told code object stays told -/
theorem code_kept {q : Str} (r : Rel (gx X ca T) L H st ρ F) (h : H c' = some (LamX.CodeO c' q)) : ∃ F2, Le ρ F ρ F2 ∧ Rel (gx X ca T) L H st ρ F2 ∧ ∀ (H : Hp) (st : S) (ρ' : List Addr) (F' L2 : Hp), ExL L L2 → Le ρ F2 ρ' F' → Rel (gx X ca T) L2 H st ρ' F' → H c' = some (LamX.CodeO c' q) := by
  cases hF : F c' with
  | some u =>
    have e := (r.frz c' u hF).1
    rw [h] at e
    cases e
    refine ⟨F, .refl _ _, r, fun H st ρ' F' L2 _ l r' => ?_⟩
    rcases l.sub c' _ hF with z | ⟨z, _⟩
    · exact (r'.frz c' _ z).1
    · cases z
  | none =>
    cases hL : L c' with
    | some u =>
      have e := (r.lkd c' u hL).1
      rw [h] at e
      cases e
      exact ⟨F, .refl _ _, r, fun H st ρ' F' L2 ex l r' => (r'.lkd c' _ (ex _ _ hL)).1⟩
    | none =>
      have hρ : c' ∉ ρ := fun hm => by
        obtain ⟨u, h1, _, h2⟩ := r.cellO hm
        rw [h] at h1
        cases h1
        exact h2 _ rfl
      obtain ⟨r2, l2⟩ := r.addF h hρ hL hF (fun ps => LamX.codeO_ne ps)
      refine ⟨_, l2, r2, fun H st ρ' F' L2 _ l r' => ?_⟩
      rcases l.sub c' _ upd_same with z | ⟨z, _⟩
      · exact (r'.frz c' _ z).1
      · cases z
/-- the key function is called -/
theorem key_called (hk : KeyF X c ca T p x body lsc ix f c' pm ctv params lo) (hco : ∀ (H : Hp) (st : S) (ρ : List Addr) (F : Hp), Le ρ0 F0 ρ F → Rel (gx X ca T) L H st ρ F → H c' = some (LamX.CodeO c' (X.env.qual ++ "<lambda>"))) (hT : ∀ (i : Nat) (h : Heap), tn i h → ∀ b ∈ fp, ∃ o, h.get? b = some o ∧ ∀ v, o.data ≠ .cell v) (hkp : ∀ (i : Nat) (h h' : Heap), tn i h → (∀ b ∈ fp, ∀ o, h.get? b = some o → h'.get? b = some o) → tn i h')
    (hlo : ∀ b ∈ fp, Loose X (pins ++ [(f, lo)]) b) (hsf : sa ∉ fp) (l : LpS X ca T (pins ++ [(f, lo)]) σ L ρ0 F0 sa so fp tn i st ρ F H s) (hs : SlR (gx X ca T) ρ0 F0 sl σ) {d : D} {v : V} {u : Value} {k : D} {st1 : S} (hd : RepD ca X.K ρ F d v) (rv : L2.RelV v u) (e : p.l lsc body (sl.set ix (some d)) st = .ok k st1) {E' : Value → Shared → Prop} :
    wpAny (model X.prog X.w) X.A.in1 (call (.ref f) [u]) (fun ku s2 => ∃ kv H2 ρ2 F2, LpS X ca T (pins ++ [(f, lo)]) σ L ρ0 F0 sa so fp tn i st1 ρ2 F2 H2 s2 ∧ Le ρ F ρ2 F2 ∧ RepD ca X.K ρ2 F2 k kv ∧ L2.RelV kv ku) E' s := by
  have fok := loose_fp (so := so) hlo hsf l.fpn
  have I1 := l.inv.pinned fok (hT _ _ l.at_)
  have hf := (I1.pin (f, lo) (List.mem_append_right _ (List.mem_append_left _ (List.mem_append_left _ (List.mem_append_right _ (List.mem_singleton.mpr rfl)))))).1
  rw [hk.obj] at hf
  refine wpAny_mono (lam1_call (Q := fun kv H2 => ∃ ρ2 F2, Le ρ F ρ2 F2 ∧ Rel (gx X ca T) L H2 st1 ρ2 F2 ∧ RepD ca X.K ρ2 F2 k kv) I1 hk.lam rfl hk.room hf (hco _ _ _ _ l.le l.rel) hk.bind hk.nd hk.ix rv (hk.body s H) ⟨sl.set ix (some d), st, ρ, F, L, (hs.mono l.le).set ix hd, l.rel, ?_⟩) (fun ku s2 ⟨kv, H2, I2, rk, ρ2, F2, l2, r2, hkv⟩ => ?_) fun _ _ z => z
  · rw [e]
    exact fun kv H2 ρ2 F2 l2 r2 hkv => ⟨ρ2, F2, l2, r2, hkv⟩
  · have back : ∀ b ∈ fp, ∃ o, s.heap.get? b = some o ∧ s2.heap.get? b = some o ∧ H2 b = none := fun b hb => by
      obtain ⟨o, ho, hd⟩ := hT _ _ l.at_ b hb
      have q := I2.pin (b, o) (List.mem_append_right _ (List.mem_append_right _ (mem_pinsAt hb ho)))
      exact ⟨o, ho, q.1, q.2.1⟩
    refine ⟨kv, H2, ρ2, F2, ⟨I2.unpinned, hkp _ _ _ l.at_ fun b hb o ho => ?_, fun b hb => ?_, r2, l.le.trans l2⟩, l2, hkv, rk⟩
    · obtain ⟨o', h1, h2, _⟩ := back b hb
      rw [ho] at h1
      cases h1
      exact h2
    · obtain ⟨_, _, _, h3⟩ := back b hb
      exact h3
end
end
end AL
set_option Elab.async false
set_option linter.all false
set_option maxRecDepth 100000
set_option maxHeartbeats 4000000
/-! AL36: min by a key. -/
namespace AL
open PySem PySem.Spec PyProof.Rows L2 PySem.SeqAt
abbrev tgN : Expr := .Name "" ⟨0, 0, 0, 0⟩
theorem stripped {α β : Type} {M : Model} {A : Around} {E : Value → Shared → Prop} {s : Shared} {Q : β → Shared → Prop} {P : Unit → Shared → Prop} {t : Sem β} (h : wpAny M A (pure () : Sem Unit) P (fun _ _ => False) s) (k : ∀ s', P () s' → wpAny M A t Q E s') : wpAny M A t Q E s := by
  have e : t = ((pure () : Sem Unit) >>= fun _ => t) := (pure_bind (m := Sem) () fun _ => t).symm
  rw [e]
  exact wpAny_bind (wpAny_mono h (fun _ s' q => k s' q) fun _ _ z => z.elim)
section
variable {c : Cfg} {ca : Str → Addr} {T : List (Addr × Str)} {X : Cx} {W : WX} {sc : Scope}
variable {pins : List (Addr × Obj)} {σ : L2.St} {L L1 H : Hp} {ρ0 ρ ρ1 : List Addr} {F0 F F1 : Hp} {sa it f c' : Addr} {so lo : Obj} {fp : List Addr} {tn : Nat → Heap → Prop} {i ix : Nat} {st s1 : S} {ls : List D × S} {s : Shared} {J : It} {p : Ev} {x : Str} {body : Expr} {lsc : Scope} {pm ctv : Value} {params : Arguments} {sl : Sl} {U : Hp → Hp} {Q : VK} {k0 : D}
/-- what is wanted of the rest of the keys -/
def KP (X : Cx) (ca : Str → Addr) (T : List (Addr × Str)) (L : Hp) (ρ : List Addr) (F : Hp) (Q : VK) (k0 : D) (s1 s2 : S) (best : D × D) : List (D × D) → S → Prop := fun r s4 => (∀ q ∈ r, KOk k0 q.1) ∧ s4.lk = s2.lk ∧ PV (gx X ca T) L ρ F (rpD (gx X ca T)) Q (.ok (minK best r).2 { s4 with lk := s1.lk })
def RRm (X : Cx) (pins : List (Addr × Obj)) (σ : L2.St) (Q : VK) : Result → Shared → Prop := fun r s' => match r with
  | .ok (.ret v) => EP X pins σ (fun v => UnO X (Q v)) v s'
  | .ok _ => False
  | .error e => X.xe e s'
theorem min_turns (hc : X.calm = true) (hu : X.A.in1.units + 64 < cLine) (T' : Turn X.prog X.w X.K tgN J fp it tn) (wk : Wk (gx X ca T) L1 ρ1 F1 ls.1 J) (un : Unl X (gx X ca T) L L1 ρ1 F1 s1 ls.2 U) (l01 : Le ρ0 F0 ρ1 F1) (hs : SlR (gx X ca T) ρ1 F1 sl σ)
    (hk : KeyF X c ca T p x body lsc ix f c' pm ctv params lo) (hco : ∀ (H : Hp) (st : S) (ρ : List Addr) (F : Hp), Le ρ1 F1 ρ F → Rel (gx X ca T) L1 H st ρ F → H c' = some (LamX.CodeO c' (X.env.qual ++ "<lambda>")))
    (hlo : ∀ b ∈ fp, Loose X (pins ++ [(f, lo)]) b) (hls : Loose X (pins ++ [(f, lo)]) sa) (hsf : sa ∉ fp) :
    ∀ (n i : Nat) (H : Hp) (s : Shared) (st : S) (ρ : List Addr) (F : Hp) (kb db : D) (kv dv : V) (ku du : Value) (c0 : Nat), n = ls.1.length - i → i ≤ ls.1.length → LpS X ca T (pins ++ [(f, lo)]) σ L1 ρ1 F1 sa (seqObj "list" #[du, ku] c0) fp tn i st ρ F H s →
      RepD ca X.K ρ F kb kv → RepD ca X.K ρ F db dv → L2.RelV kv ku → L2.RelV dv du → KOk k0 kb → Post (KP X ca T L ρ0 F0 Q k0 s1 ls.2 (kb, db)) (keysL (fun d s => p.l lsc body (sl.set ix (some d)) s) (ls.1.drop i) st) →
      codeAny (model X.prog X.w) X.A (.builtin "min.loop" ⟨[.ref it, .ref f, .ref sa], []⟩) (RRm X pins σ Q) s
  | n, i, H, s, st, ρ, F, kb, db, kv, dv, ku, du, c0, hn, hle, l, hkb, hdb, rk, rd, ck, po => by
    have hname : (toString "min" ++ toString ".loop" : String) = "min.loop" := by decide
    have fok := loose_fp (so := seqObj "list" #[du, ku] c0) hlo hsf l.fpn
    refine codeAny_builtin PySem.F.entry_min_loop ?_
    rw [Around.under_plainId PySem.F.plain_min_loop _]
    show wpAny _ X.A.in1 (seqItems? (.ref sa) >>= _) _ _ _
    refine wpAny_bind (wpAny_seqItems l.get.1 rfl ?_)
    show wpAny _ X.A.in1 (tryCatch (pyNext (.ref it)) _ >>= _) _ _ _
    by_cases hlt : i < ls.1.length
    · obtain ⟨d, hd⟩ : ∃ d, ls.1[i]? = some d := ⟨_, List.getElem?_eq_getElem hlt⟩
      have ed : ls.1.drop i = d :: ls.1.drop (i + 1) := by
        rw [List.drop_eq_getElem_cons hlt]
        rw [List.getElem?_eq_getElem hlt] at hd
        cases hd
        rfl
      rw [ed] at po
      obtain ⟨k, st1, ek, po⟩ := keysL_step po
      refine wpAny_bind (wpAny_tryCatch (wpAny_mono (T'.item (atA X X.A.in1) rfl rfl rfl hc i _ s σ H (fun _ _ => False) (inv_at l.inv rfl rfl) fok l.at_ (wk.go i H st ρ F L1 (fun _ _ z => z) hlt l.le l.rel)) (fun r s2 ⟨u, hr, h4⟩ => ?_) fun _ _ z => z.elim))
      subst hr
      refine stripped (α := Unit) h4 fun s3 ⟨xv, H3, I3, rx, hy, st3, fn3⟩ => ?_
      obtain ⟨d', F3, hd', l3, r3, rd3⟩ := wk.yld i H st ρ F L1 xv H3 (fun _ _ z => z) hlt l.le l.rel hy
      rw [hd] at hd'
      cases hd'
      have lp3 : LpS X ca T (pins ++ [(f, lo)]) σ L1 ρ1 F1 sa (seqObj "list" #[du, ku] c0) fp tn (i + 1) st ρ F3 H3 s3 := ⟨inv_back I3 rfl rfl, st3, fn3, r3, l.le.trans l3⟩
      show wpAny _ X.A.in1 (tryCatch (holding [u] (call (.ref f) [u])) _ >>= _) _ _ _
      refine wpAny_bind (wpAny_tryCatch (wpAny_holding (wpAny_mono (key_called hk hco T'.obj T'.keep hlo hsf lp3 hs rd3 rx ek (E' := fun _ _ => False)) (fun k2 s4 ⟨kv4, H4, ρ4, F4, lp4, l4, hk4, rk4⟩ => ?_) fun _ _ z => z.elim)))
      have l34 := l3.trans l4
      have ck4 : KOk k0 k := by
        obtain ⟨r, s4, _, h1, _⟩ := po.err
        exact h1 _ (List.mem_cons_self ..)
      show wpAny _ X.A.in1 (tryCatch (holding [u, k2] (richCompare .Lt k2 ku >>= _)) _ >>= _) _ _ _
      refine wpAny_bind (wpAny_tryCatch (wpAny_holding (wpAny_bind (key_lt lp4.inv lp4.rel hk4 rk4 (RepD.mono l34 _ _ hkb) rk ck4 ck hu ?_))))
      refine wpAny_bind (wpAny_holding (wpAny_truthy_bool ?_))
      refine wpAny_bind (wpAny_letGo (wpAny_pure ?_))
      by_cases hb : ltKA (keyD k) (keyD kb) = true
      · rw [hb]
        simp only [if_true]
        obtain ⟨g1, g2⟩ := lp4.get
        refine wpAny_bind ?_
        refine wpAny_updateSeq g1 rfl (wpAny_bind (wpAny_letGo ?_))
        rw [hname]
        obtain ⟨c2, hc2⟩ : ∃ c2, (s4.heap.update sa (Obj.mapSeq fun _ => #[u, k2])).get? sa = some (seqObj "list" #[u, k2] c2) := ⟨_, get?_update_seq g1 fun _ => #[u, k2]⟩
        have kp : ∀ b o, b ≠ sa → s4.heap.get? b = some o → (s4.heap.update sa (Obj.mapSeq fun _ => #[u, k2])).get? b = some o := fun b o hb e => (Heap.get?_update_ne _ _ _ _ hb).trans e
        have I5 := inv_upd (tk := s4.toks) lp4.inv hls kp hc2 (fun v z => by cases z)
        refine wpAny_pure ⟨plainId_quiet PySem.F.plain_min_loop _, min_turns hc hu T' wk un l01 hs hk hco hlo hls hsf (ls.1.length - (i + 1)) (i + 1) H4 _ st1 ρ4 F4 k d kv4 xv k2 u c2 rfl hlt ⟨I5, T'.keep _ _ _ lp4.at_ fun b hb o e => kp b o (fun z => hsf (by rw [← z]; exact hb)) e, lp4.fpn, lp4.rel, lp4.le⟩ hk4 (RepD.mono l4 _ _ rd3) rk4 rx ck4 (po.imp fun r s4 ⟨h1, h2, h3⟩ => ⟨fun q hq => h1 q (List.mem_cons_of_mem _ hq), h2, ?_⟩)⟩
        have e : minK (kb, db) ((k, d) :: r) = minK (k, d) r := by
          show (if ltKA (keyD k) (keyD kb) = true then minK (k, d) r else minK (kb, db) r) = _
          rw [if_pos hb]
        rw [e] at h3
        exact h3
      · have hb' : ltKA (keyD k) (keyD kb) = false := by simpa using hb
        rw [hb']
        simp only [Bool.false_eq_true, if_false]
        refine wpAny_bind (wpAny_letGo ?_)
        rw [hname]
        refine wpAny_pure ⟨plainId_quiet PySem.F.plain_min_loop _, min_turns hc hu T' wk un l01 hs hk hco hlo hls hsf (ls.1.length - (i + 1)) (i + 1) H4 _ st1 ρ4 F4 kb db kv dv ku du c0 rfl hlt lp4 (RepD.mono l34 _ _ hkb) (RepD.mono l34 _ _ hdb) rk rd ck (po.imp fun r s4 ⟨h1, h2, h3⟩ => ⟨fun q hq => h1 q (List.mem_cons_of_mem _ hq), h2, ?_⟩)⟩
        have e : minK (kb, db) ((k, d) :: r) = minK (kb, db) r := by
          show (if ltKA (keyD k) (keyD kb) = true then minK (k, d) r else minK (kb, db) r) = _
          rw [if_neg hb]
        rw [e] at h3
        exact h3
    · have ei : i = ls.1.length := by omega
      rw [ei, List.drop_length] at po
      refine wpAny_bind (wpAny_tryCatch (wpAny_mono (T'.done (atA X X.A.in1) rfl rfl rfl hc i _ s σ H (fun _ _ => False) (inv_at l.inv rfl rfl) fok l.at_ (by rw [ei]; exact wk.stop H st ρ F L1 (fun _ _ z => z) l.le l.rel)) (fun r s2 ⟨hr, I2⟩ => ?_) fun _ _ z => z.elim))
      subst hr
      have I2 := inv_back (X := X) I2 rfl rfl
      have g1 := (I2.pin (sa, seqObj "list" #[du, ku] c0) (List.mem_append_right _ (List.mem_append_right _ (List.mem_singleton.mpr rfl)))).1
      show wpAny _ X.A.in1 (updateSeq sa (fun _ => #[]) >>= _) _ _ _
      refine wpAny_bind ?_
      refine wpAny_updateSeq g1 rfl (wpAny_bind (wpAny_letGo (wpAny_pure ?_)))
      have kp : ∀ b o, b ≠ sa → s2.heap.get? b = some o → (s2.heap.update sa (Obj.mapSeq fun _ => (#[] : Array Value))).get? b = some o := fun b o hb e => (Heap.get?_update_ne _ _ _ _ hb).trans e
      obtain ⟨c2, hc2⟩ : ∃ c2, (s2.heap.update sa (Obj.mapSeq fun _ => (#[] : Array Value))).get? sa = some (seqObj "list" #[] c2) := ⟨_, get?_update_seq g1 fun _ => (#[] : Array Value)⟩
      have I5 := inv_upd (tk := s2.toks) I2 hls kp hc2 (fun v z => by cases z)
      obtain ⟨_, p2, p3⟩ := po
      exact ⟨dv, H, I5.unpinned.unpinned, rd, un.un l.rel (P := Q dv) (p3 dv (U H) ρ F (l01.trans l.le) (un.back H st ρ F l.le l.rel p2) hdb)⟩
termination_by n => n
decreasing_by all_goals (simp_wf; omega)
end
end AL
set_option Elab.async false
set_option linter.all false
set_option maxRecDepth 100000
set_option maxHeartbeats 4000000
/-! AL37: min by a key, the rule. -/
namespace AL
open PySem PySem.Spec PyProof.Rows L2 PySem.SeqAt
theorem keysL_ne {fk : D → S → R D} : ∀ (l : List D) (s : S), (keysL fk l s).isErr = false
  | [], s => rfl
  | d :: l, s => by
    unfold keysL
    cases fk d s with
    | err _ _ => rfl
    | bad => rfl
    | ok k s1 =>
      show ((keysL fk l s1).bind _).isErr = false
      have := keysL_ne (fk := fk) l s1
      cases h : keysL fk l s1 with
      | err _ _ => rw [h] at this; cases this
      | bad => rfl
      | ok _ _ => rfl
section
variable {c : Cfg} {ca : Str → Addr} {T : List (Addr × Str)} {X : Cx} {W : WX} {sc : Scope}
variable {pins : List (Addr × Obj)} {σ : L2.St} {L L1 H : Hp} {ρ0 ρ ρ1 : List Addr} {F0 F F1 : Hp} {sa it f c' : Addr} {so lo : Obj} {fp : List Addr} {tn : Nat → Heap → Prop} {i ix : Nat} {st s1 : S} {ls : List D × S} {s : Shared} {J : It} {p : Ev} {x : Str} {body : Expr} {lsc : Scope} {pm ctv : Value} {params : Arguments} {sl : Sl} {U : Hp → Hp} {Q : VK} {k0 : D}
/-- what all keys come to -/
def keyR (r : List (D × D)) (s3 : S) : R D := match r with
  | [] => .bad
  | y :: r => if (okSort ((y :: r).map (·.1)) && ((y :: r).map (·.1)).all fullD) = true then .ok (minK y r).2 s3 else .bad
theorem min_first (hc : X.calm = true) (hu : X.A.in1.units + 64 < cLine) (T' : Turn X.prog X.w X.K tgN J fp it tn) (wk : Wk (gx X ca T) L1 ρ1 F1 ls.1 J) (un : Unl X (gx X ca T) L L1 ρ1 F1 s1 ls.2 U) (l01 : Le ρ0 F0 ρ1 F1) (hs : SlR (gx X ca T) ρ1 F1 sl σ)
    (hk : KeyF X c ca T p x body lsc ix f c' pm ctv params lo) (hco : ∀ (H : Hp) (st : S) (ρ : List Addr) (F : Hp), Le ρ1 F1 ρ F → Rel (gx X ca T) L1 H st ρ F → H c' = some (LamX.CodeO c' (X.env.qual ++ "<lambda>")))
    (hlo : ∀ b ∈ fp, Loose X (pins ++ [(f, lo)]) b) (hls : Loose X (pins ++ [(f, lo)]) sa) (hsf : sa ∉ fp) (l : LpS X ca T (pins ++ [(f, lo)]) σ L1 ρ1 F1 sa (seqObj "list" #[] 0) fp tn 0 ls.2 ρ1 F1 H s)
    (po : Post (fun r s4 => s4.lk = ls.2.lk ∧ PV (gx X ca T) L ρ0 F0 (rpD (gx X ca T)) Q (keyR r { s4 with lk := s1.lk })) (keysL (fun d s => p.l lsc body (sl.set ix (some d)) s) ls.1 ls.2)) :
    codeAny (model X.prog X.w) X.A (.builtin "min.loop" ⟨[.ref it, .ref f, .ref sa], []⟩) (RRm X pins σ Q) s := by
  have hname : (toString "min" ++ toString ".loop" : String) = "min.loop" := by decide
  have fok := loose_fp (so := seqObj "list" #[] 0) hlo hsf l.fpn
  cases hl : ls.1 with
  | nil =>
    rw [hl] at po
    obtain ⟨_, z⟩ := po
    exact z.elim
  | cons d rest =>
    have hlt : 0 < ls.1.length := by rw [hl]; exact Nat.succ_pos _
    have hd : ls.1[0]? = some d := by rw [hl]; rfl
    rw [hl] at po
    obtain ⟨k, st1, ek, po⟩ := keysL_step po
    -- the keys are alike
    have po : KOk k k ∧ Post (KP X ca T L ρ0 F0 Q k s1 ls.2 (k, d)) (keysL (fun d s => p.l lsc body (sl.set ix (some d)) s) rest st1) := by
      obtain ⟨r, s4, er, h1, h2⟩ := po.err
      unfold keyR at h2
      dsimp only at h2
      split at h2
      · rename_i hcnd
        rw [Bool.and_eq_true] at hcnd
        have all := kOk_all hcnd.1 hcnd.2 (k0 := k) rfl
        refine ⟨all k (List.mem_cons_self ..), ?_⟩
        rw [er]
        exact ⟨fun q hq => all q.1 (List.mem_map.mpr ⟨q, List.mem_cons_of_mem _ hq, rfl⟩), h1, h2⟩
      · exact h2.elim
    obtain ⟨ck, po⟩ := po
    refine codeAny_builtin PySem.F.entry_min_loop ?_
    rw [Around.under_plainId PySem.F.plain_min_loop _]
    show wpAny _ X.A.in1 (seqItems? (.ref sa) >>= _) _ _ _
    refine wpAny_bind (wpAny_seqItems l.get.1 rfl ?_)
    show wpAny _ X.A.in1 (tryCatch (pyNext (.ref it)) _ >>= _) _ _ _
    refine wpAny_bind (wpAny_tryCatch (wpAny_mono (T'.item (atA X X.A.in1) rfl rfl rfl hc 0 _ s σ H (fun _ _ => False) (inv_at l.inv rfl rfl) fok l.at_ (wk.go 0 H ls.2 ρ1 F1 L1 (fun _ _ z => z) hlt l.le l.rel)) (fun r s2 ⟨u, hr, h4⟩ => ?_) fun _ _ z => z.elim))
    subst hr
    refine stripped (α := Unit) h4 fun s3 ⟨xv, H3, I3, rx, hy, st3, fn3⟩ => ?_
    obtain ⟨d', F3, hd', l3, r3, rd3⟩ := wk.yld 0 H ls.2 ρ1 F1 L1 xv H3 (fun _ _ z => z) hlt l.le l.rel hy
    rw [hd] at hd'
    cases hd'
    have lp3 : LpS X ca T (pins ++ [(f, lo)]) σ L1 ρ1 F1 sa (seqObj "list" #[] 0) fp tn (0 + 1) ls.2 ρ1 F3 H3 s3 := ⟨inv_back I3 rfl rfl, st3, fn3, r3, l.le.trans l3⟩
    show wpAny _ X.A.in1 (tryCatch (holding [u] (call (.ref f) [u])) _ >>= _) _ _ _
    refine wpAny_bind (wpAny_tryCatch (wpAny_holding (wpAny_mono (key_called hk hco T'.obj T'.keep hlo hsf lp3 hs rd3 rx ek (E' := fun _ _ => False)) (fun k2 s4 ⟨kv4, H4, ρ4, F4, lp4, l4, hk4, rk4⟩ => ?_) fun _ _ z => z.elim)))
    obtain ⟨g1, g2⟩ := lp4.get
    show wpAny _ X.A.in1 (updateSeq sa (fun _ => #[u, k2]) >>= _) _ _ _
    refine wpAny_bind ?_
    refine wpAny_updateSeq g1 rfl ?_
    rw [hname]
    obtain ⟨c2, hc2⟩ : ∃ c2, (s4.heap.update sa (Obj.mapSeq fun _ => #[u, k2])).get? sa = some (seqObj "list" #[u, k2] c2) := ⟨_, get?_update_seq g1 fun _ => #[u, k2]⟩
    have kp : ∀ b o, b ≠ sa → s4.heap.get? b = some o → (s4.heap.update sa (Obj.mapSeq fun _ => #[u, k2])).get? b = some o := fun b o hb e => (Heap.get?_update_ne _ _ _ _ hb).trans e
    have I5 := inv_upd (tk := s4.toks) lp4.inv hls kp hc2 (fun v z => by cases z)
    refine wpAny_pure ⟨plainId_quiet PySem.F.plain_min_loop _, min_turns (k0 := k) hc hu T' wk un l01 hs hk hco hlo hls hsf (ls.1.length - 1) 1 H4 _ st1 ρ4 F4 k d kv4 xv k2 u c2 rfl hlt ⟨I5, T'.keep _ _ _ lp4.at_ fun b hb o e => kp b o (fun z => hsf (by rw [← z]; exact hb)) e, lp4.fpn, lp4.rel, lp4.le⟩ hk4 (RepD.mono l4 _ _ rd3) rk4 rx ck ?_⟩
    rw [hl]
    exact po
theorem bind1 {q : Str} {x : Str} {an : Option Expr} {w1 : Pos} {body : Expr} {lsc : Scope} {cl : List (Str × Addr)} {pm cv ctv u : Value} : bindArgs (PySem.W.kla_fn "<lambda>" q ⟨[], [⟨x, an, w1⟩], none, [], [], none, []⟩ body lsc cl pm cv ctv) ⟨[u], []⟩ = pure [(x, u)] := by
  have e : seqItems? Value.none = (pure none : Sem (Option (Array Value))) := rfl
  simp [bindArgs, PySem.W.kla_fn, e]
theorem lam_data {nm q : Str} {params : Arguments} {body : Expr} {scope : Scope} {cl : List (Str × Addr)} {pm ctv : Value} {c' : Addr} : ∃ fd, (PySem.W.kla_obj nm q params body scope cl pm c' ctv).data = .func fd := ⟨_, rfl⟩
theorem ae_key (h : Sd c ca T X W sc) (hE : EvOk c ca T p X.prog X.w X.K) {a : Expr} {pf pos lp p1 : Pos} {an : Option Expr} {w1 : Pos} (hg : glN sc ("min" : Str) = true) (ho : c.own "min" = false) (hi : c.isC "min" = false) (ha : starB a = false) (hl : c.lam = 1) (ht : c.tb = 1) (hsb : lamSB1 sc lsc x = true) :
    PE X (.Call (.Name "min" pf) [a] [⟨some "key", .Lambda ⟨[], [⟨x, an, w1⟩], none, [], [], none, []⟩ body lsc lp, p1⟩] pos) (tE (gx X ca T) W (keyM c p sc x body lsc a)) := by
  obtain ⟨hgl, hdb⟩ := glN_ok h hg
  have hm := h.blt "min" (by simp [bltN]) ho hi
  obtain ⟨cA, P, TB, hcode, hmT, hu⟩ := h.tab1 (by omega) ht
  have LS : LamS1 X.env.scope lsc x := by
    rw [h.scp]
    exact lamS1_by hsb
  obtain ⟨he, _⟩ := hE.ok X W sc rfl rfl rfl h
  refine ⟨fun pins s σ H Q I q => ?_⟩
  obtain ⟨sl, st, ρ, F, L, hs, hr, hp⟩ := q
  dsimp only [keyM] at hp
  cases hix : ixN c.N x with
  | none =>
    rw [hix] at hp
    exact hp.elim
  | some ix =>
  rw [hix] at hp
  have hNx : X.N[ix]? = some x := by rw [h.N]; exact ixN_at hix
  refine wpAny_Call_Name_kw (ld_blt (u := .builtin "min") I hgl hm (by decide +kernel) ?_ (by decide) hdb)
  refine PyProof.Rows.callWith_kw ?_ (by rw [star_ok ha]; rfl) (by rw [star_ok ha]; rfl) rfl rfl
  rw [star_ok ha]
  show wpAny _ _ (spliced ((false, eval a X.env) :: backTo pos (starEach [] X.env))) _ _ s
  have q0 : PB (gx X ca T) L ρ F W σ (rpD (gx X ca T)) (fun v H' => ∃ d s1 ls ρ1 F1, Le ρ F ρ1 F1 ∧ Rel (gx X ca T) L H' s1 ρ1 F1 ∧ RepD ca X.K ρ1 F1 d v ∧ walk d s1 = some ls ∧ Post (fun r s4 => s4.lk = ls.2.lk ∧ PV (gx X ca T) L ρ F (rpD (gx X ca T)) Q (keyR r { s4 with lk := s1.lk })) (keysL (fun d s => p.l lsc body (sl.set ix (some d)) s) ls.1 ls.2)) (p.e sc a sl st) := by
    cases e : p.e sc a sl st with
    | err y s1 =>
      rw [e] at hp
      exact hp
    | bad =>
      rw [e] at hp
      exact hp
    | ok d s1 =>
      rw [e] at hp
      intro v H' ρ1 F1 l1 r1 hd
      have hp : PB (gx X ca T) L ρ F W σ (rpD (gx X ca T)) Q (match walk d s1 with
        | some ls => unlk s1 ls.2 ((keysL (fun d s => p.l lsc body (sl.set ix (some d)) s) ls.1 ls.2).bind fun r s3 => keyR r s3)
        | none => .bad) := hp
      cases ew : walk d s1 with
      | none =>
        rw [ew] at hp
        exact hp.elim
      | some ls =>
        rw [ew] at hp
        have hp : PB (gx X ca T) L ρ F W σ (rpD (gx X ca T)) Q (unlk s1 ls.2 ((keysL (fun d s => p.l lsc body (sl.set ix (some d)) s) ls.1 ls.2).bind fun r s3 => keyR r s3)) := hp
        refine ⟨d, s1, ls, ρ1, F1, l1, r1, hd, ew, ?_⟩
        have ne := keysL_ne (fk := fun d s => p.l lsc body (sl.set ix (some d)) s) ls.1 ls.2
        cases ek : keysL (fun d s => p.l lsc body (sl.set ix (some d)) s) ls.1 ls.2 with
        | err _ _ => rw [ek] at ne; cases ne
        | bad => rw [ek] at hp; exact hp.elim
        | ok r s4 =>
          rw [ek] at hp
          have hp : PB (gx X ca T) L ρ F W σ (rpD (gx X ca T)) Q (unlk s1 ls.2 (keyR r s4)) := hp
          unfold keyR at hp
          cases r with
          | nil => exact hp.elim
          | cons y r' =>
            dsimp only at hp
            split at hp
            · rename_i hcnd
              have hp : PB (gx X ca T) L ρ F W σ (rpD (gx X ca T)) Q (if s4.lk = ls.2.lk then .ok (minK y r').2 { s4 with lk := s1.lk } else .bad) := hp
              by_cases hlk : s4.lk = ls.2.lk
              · rw [if_pos hlk] at hp
                refine ⟨hlk, ?_⟩
                unfold keyR
                dsimp only
                rw [if_pos hcnd]
                exact hp
              · rw [if_neg hlk] at hp
                exact hp.elim
            · exact hp.elim
  refine Calls.spliced_cons (thn ((he a).run pins s σ H _ I ⟨sl, st, ρ, F, L, hs, hr, q0⟩) fun u s1' ⟨v, H1, I1, rv, d, st1, ls, ρ1, F1, l1, r1, hd, ew, po⟩ => Calls.spliced_nil ?_)
  refine PyProof.Rows.evalAll_cons ?_
  refine wpAny_bind (LamX.lam_make2 I1 TB hcode hmT hu r1.tabsH rfl (lam1_has LS I1.ok) fun f c' pm ctv H2 s2 I2 eN T2 hf hfn hfr hco => wpAny_bind (wpAny_standAt (wpAny_pure (PyProof.Rows.evalAll_nil ?_))))
  have r2 := r1.extN eN T2
  obtain ⟨F3, l3, r3, kept⟩ := code_kept r2 hco
  generalize hlo : PySem.W.kla_obj "<lambda>" (X.env.qual ++ "<lambda>") ⟨[], [⟨x, an, w1⟩], none, [], [], none, []⟩ body lsc (cloFrom X.env.cells lsc.names []) pm c' ctv = lo at hf
  have hdat : ∃ fd, lo.data = .func fd := by rw [← hlo]; exact ⟨_, rfl⟩
  obtain ⟨fd, hfd⟩ := hdat
  have hfx : f ∉ X.fs := fun z => hfr (by
    rcases I2.ok.stk with e | ⟨e, _⟩
    · rw [e]
      exact z
    · rw [e]
      obtain ⟨e', he', q⟩ := List.mem_filterMap.mp z
      exact List.mem_filterMap.mpr ⟨e', List.mem_cons_of_mem _ he', q⟩)
  have hfl : f ≠ X.env.locals := fun z => by
    obtain ⟨m, ⟨o, es, ep, ho, hd', _⟩, _⟩ := I2.loc
    rw [← z, hf] at ho
    cases ho
    rw [hfd] at hd'
    cases hd'
  have I2p : Inv X (pins ++ [(f, lo)]) σ H2 s2 := I2.pins_of fun q hq => by
    rcases List.mem_append.mp hq with hq | hq
    · exact I2.pin q (List.mem_append_right _ hq)
    · rw [List.mem_singleton.mp hq]
      exact ⟨hf, hfn, hfl, hfx, fun v z => by rw [hfd] at z; cases z⟩
  show wpAny _ _ (call (.builtin "min") [u] [(Str.ofString "key", .ref f)]) _ _ s2
  refine kmk_tree PySem.F.kind_min PySem.F.plain_min PySem.F.entry_min (kmk_min_key _ _) ?_
  show wpAny _ X.A.in1 (Builtin.Builtins.bindParams "min" ["key", "default"] 0 ⟨[], [(Str.ofString "key", .ref f)]⟩ >>= _) _ _ s2
  refine wpAny_bind (wpAny_of_eq (show Builtin.Builtins.bindParams "min" ["key", "default"] 0 ⟨[], [(Str.ofString "key", .ref f)]⟩ = pure [some (.ref f), none] from rfl) ?_)
  refine wpAny_bind (wpAny_pure ?_)
  have hname : (toString "min" ++ toString ".loop" : String) = "min.loop" := by decide
  refine wpAny_bind (wpAny_mono (iter_val (X := atA X X.A.in1) (ca := ca) (T := T) (W := W) (tg := tgN) (E := fun _ _ => False) (R' := fun J H' => ∃ ρ' F' L' U, Le ρ1 F3 ρ' F' ∧ Rel (gx X ca T) L' H' ls.2 ρ' F' ∧ ExL L L' ∧ Wk (gx X ca T) L' ρ' F' ls.1 J ∧ Unl X (gx X ca T) L L' ρ' F' st1 ls.2 U) (inv_at I2p rfl rfl) (.refl ρ1 F3) r3 (RepD.mono l3 _ _ hd) rv ?_) (fun itv s3 ⟨it, fp, tn, J, H3, eit, I3, T3, tn0, fpk, ρ3, F4, L3, U, l4, r4, exl, wk, un⟩ => ?_) fun _ _ z => z.elim)
  · rw [ew]
    exact fun J H' ρ' F' L' U l' r' wk un _ => ⟨ρ', F', L', U, l', r', un.ex, wk, ⟨un.back, un.can, un.ex⟩⟩
  subst eit
  have I3 := inv_back (X := X) I3 rfl rfl
  refine wpAny_bind (wpAny_newList ?_ (Nat.zero_le _))
  rw [hname]
  have hnS : H3 s3.heap.objs.size = none := I3.hok.fresh (Nat.le_refl _)
  have kpS : ∀ b o, s3.heap.get? b = some o → (s3.heap.push (seqObj "list" #[] 0)).get? b = some o := fun b o e => Heap.get?_push_of_some _ e
  have fS := I3.fpOk (Nat.le_refl _) hnS
  have lS : Loose X (pins ++ [(f, lo)]) s3.heap.objs.size := fS.2
  have I4 : Inv X ((pins ++ [(f, lo)]) ++ [(s3.heap.objs.size, seqObj "list" #[] 0)]) σ H3 { s3 with heap := s3.heap.push (seqObj "list" #[] 0) } := (I3.kept (t' := s3.toks) kpS).pins_of fun q hq => by
    rcases List.mem_append.mp hq with hq | hq
    · have := I3.pin q (List.mem_append_right _ hq)
      exact ⟨kpS _ _ this.1, this.2⟩
    · rw [List.mem_singleton.mp hq]
      exact ⟨Heap.get?_push_size _ rfl, hnS, fS.2.1, fS.2.2.1, fun v z => by cases z⟩
  have hsf : s3.heap.objs.size ∉ fp := fun hm => by
    obtain ⟨o, ho', _⟩ := T3.obj _ _ tn0 _ hm
    exact Nat.lt_irrefl _ (Heap.lt_size ho')
  have lall : Le ρ F ρ3 F4 := l1.trans (l3.trans l4)
  refine wpAny_pure ⟨plainId_quiet PySem.F.plain_min_loop _, codeAny_mono (min_first (c := c) (Q := Q) (p := p) (x := x) (body := body) (lsc := lsc) (ix := ix) (c' := c') (pm := pm) (ctv := ctv) (params := ⟨[], [⟨x, an, w1⟩], none, [], [], none, []⟩) (lo := lo) (sl := sl) (pins := pins) h.calm ?_ T3 wk un lall (hs.mono lall) ⟨LS, hlo.symm, fun u => bind1, hNx, h.nd, fun s' H' hroom => ?_, ?_⟩ (fun H' st' ρ' F' l' r' => kept H' st' ρ' F' L3 exl (l4.trans l') r') (fun b hb => (fpk b hb).2) lS hsf ⟨I4, T3.keep _ _ _ tn0 fun b hb o e => kpS b o e, fun b hb => (fpk b hb).1, r4, .refl _ _⟩ (po.imp fun r s4 ⟨e1, e2⟩ => ⟨e1, e2⟩)) fun r s' hq => ?_⟩
  · have := (h.room.mono (j := c.lvl + 5) (by omega)).in1.units
    exact this
  · exact (hE.lam (LamX.lamCx X X.A.in1 X.stack s' H' noE lsc f c') (fun cc d _ H => noE cc d H) lsc (by omega) rfl rfl rfl (h.inLam hl lsc X.A.in1 X.stack s' H' noE f c' hroom)).1 body
  · exact (h.room.mono (j := c.lvl + 5) (by omega)).in1
  · cases r with
    | error e => exact hq
    | ok fl =>
      cases fl with
      | ret w =>
        obtain ⟨v', H', J', rv', q'⟩ := (show EP X pins σ (fun v => UnO X (Q v)) w s' from hq)
        obtain ⟨H5, J5, q5⟩ := q'.inv J'
        exact ⟨v', H5, J5, rv', q5⟩
      | next => exact hq
      | brk => exact hq
      | cont => exact hq
end
end AL
set_option Elab.async false
set_option linter.all false
set_option maxRecDepth 100000
set_option maxHeartbeats 4000000
/-! AL60: a generator expression's frame. -/
namespace AL
open PySem PySem.Spec PyProof.Rows L2
/-- own names, captured ones, globals; no cells of its own -/
structure GenS1 (sc gsc : Scope) : Prop where
  kind : gsc.kind = .function
  co : gsc.isCoroutine = false
  dot : gsc.names.lookup (".0" : Str) = some NameKind.local
  cell : ∀ y ∈ gsc.names, y.2 ≠ .cell
  free : ∀ y ∈ gsc.names, y.2 = .free → sc.names.lookup y.1 = some .cell ∨ sc.names.lookup y.1 = some .free
theorem genS_by {sc gsc : Scope} (h : genSB sc gsc = true) : GenS1 sc gsc := by
  unfold genSB at h
  simp only [Bool.and_eq_true, Bool.or_eq_true, Bool.not_eq_true', decide_eq_true_eq, decide_eq_false_iff_not, List.all_eq_true] at h
  obtain ⟨⟨⟨h1, h2⟩, h3⟩, h4⟩ := h
  refine ⟨h1, h2, h3, fun y hy => (h4 y hy).1, fun y hy e => ?_⟩
  rcases (h4 y hy).2 with (z | z) | z
  · exact absurd e z
  · exact .inl z
  · exact .inr z
abbrev gEnv (X : Cx) (gsc : Scope) (C : Addr) (code : Value) : Env := genEnv gsc (cloFrom X.env.cells gsc.names []) C code builtinsNs X.env
/-- the context of the generator's body; the frame is made in the state s -/
def genCx (X : Cx) (A : Around) (s : Shared) (H : Hp) (fp : List Addr) (gsc : Scope) (code : Value) (pn : List (Addr × Obj)) : Cx where
  prog := X.prog
  w := X.w
  K := X.K
  mg := X.mg
  base := X.base
  A := A.deeper (gEnv X gsc s.heap.objs.size code)
  N := X.N
  s_0 := s
  H_0 := H
  env := gEnv X gsc s.heap.objs.size code
  outer := X.stack
  stack := gEnv X gsc s.heap.objs.size code :: X.stack
  ex := fp
  fn := fun _ => false
  calm := true
  pn := pn
  xe := fun _ _ => False
section
variable {X : Cx} {A : Around} {pins : List (Addr × Obj)} {σ : L2.St} {H : Hp} {s : Shared} {gsc : Scope} {fp : List Addr} {code it : Value}
theorem gen_has (L : GenS1 X.env.scope gsc) (ok : X.Ok) : ∀ y ∈ gsc.names, y.2 = .free → ∃ c, X.env.cells.lookup y.1 = some c := fun y hy e => by
  rcases L.free y hy e with k | k
  · exact ok.has _ (.inl k)
  · exact ok.has _ (.inr k)
/-- the frame stands, nothing is bound in it but what is walked -/
theorem gen_start {vs : List Nat} {h₁ : Heap} {g' : Array GenState} {tk : Nat} {pn : List (Addr × Obj)} (I : Inv X pins σ H s) (L : GenS1 X.env.scope gsc) (hA : A.frames = X.A.frames) (hd : A.handled = none)
    (hfp : ∀ b ∈ fp, FpOk X pins H b) (hlt : ∀ b ∈ fp, b < s.heap.objs.size) (hb : AllBare g') (hns : h₁.Ns s.heap.objs.size fun y => if y = ".0" then some it else none) (kp : ∀ b o, s.heap.get? b = some o → h₁.get? b = some o)
    (hown : ∀ y j, gsc.names.lookup y = some .local → X.N[j]? = some y → j ∈ vs)
    (hpn : ∀ p ∈ pn, h₁.get? p.1 = some p.2 ∧ s.heap.objs.size < p.1 ∧ ∀ v, p.2.data ≠ .cell v) :
    Inv (genCx X A s H fp gsc code pn) [] (wipe σ vs) H { s with heap := h₁, gens := g', toks := tk } := by
  have hfree := gen_has L I.ok
  have cm : ∀ {y c}, (cloFrom X.env.cells gsc.names []).lookup y = some c → X.env.cells.lookup y = some c := fun {y c} e => by
    rcases cloFrom_mem (PySem.mem_of_lookup e) with hm | ⟨g1, g2⟩
    · cases hm
    · obtain ⟨c1, hc⟩ := hfree _ g1 rfl
      have hc : X.env.cells.lookup y = some c1 := hc
      have : c = c1 := by
        rw [g2, hc]
        rfl
      rw [this]
      exact hc
  have look : ∀ {y}, gsc.names.lookup y = some .free → ∃ c, (cloFrom X.env.cells gsc.names []).lookup y = some c := fun {y} hl =>
    mem_lookup (cloFrom_has (cells := X.env.cells) (acc := []) (show (y, NameKind.free) ∈ gsc.names from PySem.mem_of_lookup hl))
  have cellK : ∀ {c : Addr} {w : Option Value}, s.heap.IsCell c w → h₁.IsCell c w := fun {c w} ⟨o, ho, hd⟩ => ⟨o, kp _ _ ho, hd⟩
  have e0 := I.env0
  refine ⟨⟨I.ok.mod, L.kind, I.ok.glob, rfl, Nat.le_refl _, fun y z c a b => I.ok.inj y z c (cm a) (cm b), fun y hy => ?_, fun y c z _ => (by cases (show false = true from z)), fun _ => hd, Around.frames_deeper (hA.trans I.ok.frames), .inr ⟨rfl, rfl⟩, fun b z => ⟨Nat.ne_of_lt (hlt b z), fun y c e => (hfp b z).2.2.2.2.1 y c (cm e)⟩, e0.bs, e0.bsz, fun b o eb z => ?_,
      fun b z hs => ?_, e0.funs, e0.frf⟩,
    rfl, hb, Un.kept kp, ⟨_, hns, fun j y w a b d => ?_⟩, fun y c e => ?_, I.hok.fresh (Nat.le_refl _), fun y c e => I.freeC y c (cm e), fun q hq => ?_, I.hok.kept kp, by rw [wipe_length]; exact I.len⟩
  · have hy : gsc.names.lookup y = some .cell ∨ gsc.names.lookup y = some .free := hy
    rcases hy with hy | hy
    · exact absurd rfl (L.cell _ (PySem.mem_of_lookup hy))
    · exact look hy
  · rcases (hfp b z).2.2.2.1 with hx | hx
    · exact I.ok.noex b o eb hx
    · exact absurd (Nat.lt_of_lt_of_le (Heap.lt_size (I.ok.bs b o eb).1) hx) (Nat.lt_irrefl _)
  · rcases List.mem_cons.mp (I.stkSub b hs) with e | e
    · exact (hfp b z).2.1 e
    · exact (hfp b z).2.2.1 e
  · have d : Vis gsc y := d
    have a : X.N[j]? = some y := a
    obtain ⟨b1, b2⟩ := wipe_some b
    rcases d with k | k | k
    · exact absurd (hown y j k a) b2
    · exact absurd rfl (L.cell _ (PySem.mem_of_lookup k))
    · obtain ⟨m, hn, hl⟩ := I.loc
      have hvis : Vis X.env.scope y := (L.free _ (PySem.mem_of_lookup k) rfl).elim (fun k => .inr (.inl k)) (fun k => .inr (.inr k))
      obtain ⟨w', r, q⟩ := hl j y w a b1 hvis
      obtain ⟨c2, g2⟩ := look k
      refine ⟨w', r, .inr ⟨.inr k, c2, g2, ?_⟩⟩
      have c1 := cm g2
      rcases q with ⟨k', _⟩ | ⟨_, c3, e', z⟩
      · have k' : X.env.scope.names.lookup y = some .local := k'
        rcases L.free _ (PySem.mem_of_lookup k) rfl with k2 | k2
        · rw [show X.env.scope.names.lookup y = _ from k2] at k'
          cases k'
        · rw [show X.env.scope.names.lookup y = _ from k2] at k'
          cases k'
      · rw [c1] at e'
        cases e'
        exact cellK z
  · obtain ⟨w', z⟩ := I.cell y c (cm e)
    exact ⟨w', cellK z⟩
  · have hq : q ∈ pn ++ [] := hq
    rw [List.append_nil] at hq
    obtain ⟨h1, h2, h3⟩ := hpn q hq
    exact ⟨h1, I.hok.fresh (Nat.le_of_lt h2), Nat.ne_of_gt h2, fun z => by
      rcases List.mem_cons.mp (I.stkSub _ z) with e | e
      · have := I.lt
        rw [e] at h2
        exact absurd (Nat.lt_trans this h2) (Nat.lt_irrefl _)
      · exact I.nofs (Nat.le_of_lt h2) e, h3⟩
/-- back in the def -/
theorem gen_back {σ' : L2.St} {H' : Hp} {s' : Shared} {pn pins2 : List (Addr × Obj)} (I : Inv X pins σ H s) (hfp : ∀ b ∈ fp, FpOk X pins H b) (J : Inv (genCx X A s H fp gsc code pn) pins2 σ' H' s') : Inv X pins σ H' s' :=
  I.call' (ch := fp) J.os J.base J.hok J.bare fun b hb => ⟨(hfp b hb).2.2.2.1, (hfp b hb).2.1, (hfp b hb).2.2.2.2.1, (hfp b hb).2.2.2.2.2⟩
end
end AL
set_option Elab.async false
set_option linter.all false
set_option maxRecDepth 100000
set_option maxHeartbeats 4000000
/-! AL61: a generator expression's turns. -/
namespace AL
open PySem PySem.Spec PyProof.Rows L2
/-- what is left behind k of them -/
def trk (g : MG) (t : MT) (e : ME) (sl : Sl) (l0 : List D) (s0 : S) : Nat → Option (List D × S)
  | 0 => some (l0, s0)
  | k + 1 => match trk g t e sl l0 s0 k with
    | some (l, st) => (match gnext g t e sl l st with
      | .ok (some (_, xs)) st' => some (xs, st')
      | _ => none)
    | none => none
def isOk {α : Type} : R α → Prop
  | .ok _ _ => True
  | _ => False
theorem gnext_len {g : MG} {t : MT} {e : ME} {sl : Sl} : ∀ {l : List D} {s : S} {d : D} {xs : List D} {s' : S}, gnext g t e sl l s = .ok (some (d, xs)) s' → xs.length < l.length
  | [], s, d, xs, s', h => by cases h
  | x :: l, s, d, xs, s', h => by
    unfold gnext at h
    cases hg : g x sl s with
    | err _ _ => rw [hg] at h; cases h
    | bad => rw [hg] at h; cases h
    | ok sl1 s1 =>
      rw [hg] at h
      have h : ((t sl1 s1).noErr.bind fun b s2 => if b = true then (e sl1 s2).noErr.bind fun d s3 => if s3.lk = s.lk then R.ok (some (d, l)) s3 else .bad else if s2.lk = s.lk then gnext g t e sl l s2 else .bad) = .ok (some (d, xs)) s' := h
      cases ht : t sl1 s1 with
      | err _ _ => rw [ht] at h; cases h
      | bad => rw [ht] at h; cases h
      | ok b s2 =>
        rw [ht] at h
        have h : (if b = true then (e sl1 s2).noErr.bind fun d s3 => if s3.lk = s.lk then R.ok (some (d, l)) s3 else .bad else if s2.lk = s.lk then gnext g t e sl l s2 else .bad) = .ok (some (d, xs)) s' := h
        split at h
        · cases he : e sl1 s2 with
          | err _ _ => rw [he] at h; cases h
          | bad => rw [he] at h; cases h
          | ok d3 s3 =>
            rw [he] at h
            have h : (if s3.lk = s.lk then R.ok (some (d3, l)) s3 else .bad) = .ok (some (d, xs)) s' := h
            split at h
            · cases h
              exact Nat.lt_succ_self _
            · cases h
        · split at h
          · exact Nat.lt_succ_of_lt (gnext_len h)
          · cases h
theorem trk_len {g : MG} {t : MT} {e : ME} {sl : Sl} {l0 : List D} {s0 : S} : ∀ (k : Nat) {l : List D} {st : S}, trk g t e sl l0 s0 k = some (l, st) → l.length + k ≤ l0.length
  | 0, l, st, h => by
    cases h
    exact Nat.le_refl _
  | k + 1, l, st, h => by
    unfold trk at h
    cases hk : trk g t e sl l0 s0 k with
    | none => rw [hk] at h; cases h
    | some q =>
      obtain ⟨l1, st1⟩ := q
      rw [hk] at h
      dsimp only at h
      have ih := trk_len k hk
      split at h
      · rename_i d xs st' e1
        cases h
        have := gnext_len e1
        omega
      · cases h
/-- the consumer's own object -/
def pinS : Option Addr → Obj → List (Addr × Obj)
  | none, _ => []
  | some a, o => [(a, o)]
section
variable {c : Cfg} {ca : Str → Addr} {T : List (Addr × Str)} {X : Cx} {A : Around} {sF : Shared} {HF : Hp} {fp : List Addr} {gsc : Scope} {code : Value} {pn : List (Addr × Obj)}
theorem inv_wiped {pins : List (Addr × Obj)} {σ : L2.St} {H : Hp} {s : Shared} (I : Inv X pins σ H s) (vs : List Nat) : Inv X pins (wipe σ vs) H s :=
  ⟨I.ok, I.os, I.bare, I.base, let ⟨m, h1, h2⟩ := I.loc; ⟨m, h1, fun i x v a b c => h2 i x v a (wipe_some b).1 c⟩, I.cell, I.free, I.freeC, I.pin, I.hok, by rw [wipe_length]; exact I.len⟩
theorem inv_gens {pins : List (Addr × Obj)} {σ : L2.St} {H : Hp} {s : Shared} {g' : Array GenState} {tk : Nat} (I : Inv X pins σ H s) (hb : AllBare g') : Inv X pins σ H { s with gens := g', toks := tk } :=
  ⟨I.ok, I.os, hb, I.base, I.loc, I.cell, I.free, I.freeC, I.pin, I.hok, I.len⟩
/-- the generator's frame between two items: l is left -/
structure GInv (ca : Str → Addr) (T : List (Addr × Str)) (X : Cx) (A : Around) (sF : Shared) (HF : Hp) (fp : List Addr) (gsc : Scope) (code : Value) (pn : List (Addr × Obj)) (σG : L2.St) (L1 : Hp) (ρ1 : List Addr) (F1 : Hp) (tn : Nat → Heap → Prop) (ls : List D) (lk0 : List Nat)
    (pins : List (Addr × Obj)) (l : List D) (st : S) (ρ : List Addr) (F H : Hp) (s : Shared) : Prop where
  inv : Inv (genCx X A sF HF fp gsc code pn) pins σG H s
  idx : ∃ i, l = ls.drop i ∧ i ≤ ls.length ∧ tn i s.heap
  fpn : ∀ b ∈ fp, H b = none
  rel : Rel (gx X ca T) L1 H st ρ F
  le : Le ρ1 F1 ρ F
  lk : st.lk = lk0
variable {σG : L2.St} {L1 : Hp} {ρ1 : List Addr} {F1 : Hp} {tn : Nat → Heap → Prop} {ls : List D} {lk0 : List Nat} {s0 : S}
/-- an item is handed out -/
def GYd (ca : Str → Addr) (T : List (Addr × Str)) (X : Cx) (A : Around) (sF : Shared) (HF : Hp) (fp : List Addr) (gsc : Scope) (code : Value) (pn : List (Addr × Obj)) (σG : L2.St) (L1 : Hp) (ρ1 : List Addr) (F1 : Hp) (tn : Nat → Heap → Prop) (ls : List D) (lk0 : List Nat)
    (g : MG) (t : MT) (e : ME) (sl : Sl) (s0 : S) (Sx : Option Addr) : Protocol := fun m s₀ v s kap =>
  ∃ (k : Nat) (l0 l : List D) (st0 st : S) (ρ : List Addr) (F H : Hp) (so : Obj) (d : D) (vv : V), m + 1 + k = ls.length + 1 ∧ trk g t e sl ls s0 k = some (l0, st0) ∧ gnext g t e sl l0 st0 = .ok (some (d, l)) st ∧ (∀ a, Sx = some a → s₀.heap.get? a = some so) ∧
    GInv ca T X A sF HF fp gsc code pn σG L1 ρ1 F1 tn ls lk0 (pinS Sx so) l st ρ F H s ∧ RepD ca X.K ρ F d vv ∧ L2.RelV vv v ∧
    ∀ (s'' : Shared) (so' : Obj) (ρ' : List Addr) (F' H' : Hp), GInv ca T X A sF HF fp gsc code pn σG L1 ρ1 F1 tn ls lk0 (pinS Sx so') l st ρ' F' H' s'' → (∀ a, Sx = some a → s''.heap.get? a = some so') → isOk (gnext g t e sl l st) → kap (.send .none) s''
/-- .. the end -/
def GEd (ca : Str → Addr) (T : List (Addr × Str)) (X : Cx) (A : Around) (sF : Shared) (HF : Hp) (fp : List Addr) (gsc : Scope) (code : Value) (pn : List (Addr × Obj)) (σG : L2.St) (L1 : Hp) (ρ1 : List Addr) (F1 : Hp) (ls : List D) (lk0 : List Nat)
    (g : MG) (t : MT) (e : ME) (sl : Sl) (s0 : S) (Sx : Option Addr) : Nat → Shared → Shared → Prop := fun n s₀ s =>
  ∃ (k : Nat) (l0 : List D) (st0 st : S) (ρ : List Addr) (F H : Hp) (so : Obj), n + k = ls.length + 1 ∧ trk g t e sl ls s0 k = some (l0, st0) ∧ gnext g t e sl l0 st0 = .ok none st ∧ (∀ a, Sx = some a → s₀.heap.get? a = some so) ∧
    Inv (genCx X A sF HF fp gsc code pn) (pinS Sx so) σG H s ∧ Rel (gx X ca T) L1 H st ρ F ∧ Le ρ1 F1 ρ F ∧ st.lk = lk0
theorem over_comp {elt : Expr} {gs : List Comprehension} {scope : Scope} {gpos : Pos} {it acc : Value} {env : Env} : A.over (.compLoop (.GeneratorExp elt gs scope gpos) 0 it acc env) [] = A.deeper env := by
  first
    | rfl
    | (obtain ⟨hd, d, fr, gs', u⟩ := A; simp [Around.over, Around.deeper, marksOver, frameCount, unitsOf, envsOf, guardsOf, pushEnvs, pushGuards, Code.envs, Code.env?, Code.isFrame, Code.guards, Code.isGuard, Code.weight, Code.frames, Code.isCreation, Code.isCaller, Code.cUnits])
theorem over_start {elt : Expr} {gs : List Comprehension} {scope : Scope} {gpos : Pos} {it acc : Value} {env : Env} : A.over (.compStart (.GeneratorExp elt gs scope gpos) 0 it acc env) [] = A.deeper env := by
  first
    | rfl
    | (obtain ⟨hd, d, fr, gs', u⟩ := A; simp [Around.over, Around.deeper, marksOver, frameCount, unitsOf, envsOf, guardsOf, pushEnvs, pushGuards, Code.envs, Code.env?, Code.isFrame, Code.guards, Code.isGuard, Code.weight, Code.frames, Code.isCreation, Code.isCaller, Code.cUnits])
end
end AL
set_option Elab.async false
set_option linter.all false
set_option maxRecDepth 100000
set_option maxHeartbeats 4000000
/-! AL62: the run of a generator expression's code. -/
namespace AL
open PySem PySem.Spec PyProof.Rows L2
section
variable {c : Cfg} {ca : Str → Addr} {T : List (Addr × Str)} {X : Cx} {A : Around} {sF : Shared} {HF : Hp} {fp : List Addr} {gsc : Scope} {code : Value} {pn : List (Addr × Obj)}
variable {σG : L2.St} {L1 : Hp} {ρ1 : List Addr} {F1 : Hp} {tn : Nat → Heap → Prop} {ls : List D} {lk0 : List Nat} {s0 : S} {g : MG} {t : MT} {e : ME} {sl : Sl} {vs : List Nat} {it : Addr} {J : It} {elt tg iter : Expr} {ifs : List Expr} {gpos : Pos} {Sx : Option Addr}
/-- the iterator's own objects, in the generator's frame -/
structure FpG (X : Cx) (A : Around) (sF : Shared) (HF : Hp) (fp : List Addr) (gsc : Scope) (code : Value) (pn : List (Addr × Obj)) (Sx : Option Addr) : Prop where
  loc : ∀ b ∈ fp, b ≠ (genCx X A sF HF fp gsc code pn).env.locals
  fs : ∀ b ∈ fp, b ∉ (genCx X A sF HF fp gsc code pn).fs
  cell : ∀ b ∈ fp, ∀ x c, (genCx X A sF HF fp gsc code pn).env.cells.lookup x = some c → c ≠ b
  pn : ∀ b ∈ fp, ∀ p ∈ pn, p.1 ≠ b
  own : ∀ a, Sx = some a → a ∉ fp
theorem FpG.ok (f : FpG X A sF HF fp gsc code pn Sx) {so : Obj} {H : Hp} (hn : ∀ b ∈ fp, H b = none) : ∀ b ∈ fp, FpOk (genCx X A sF HF fp gsc code pn) (pinS Sx so) H b := fun b hb => by
  refine ⟨hn b hb, f.loc b hb, f.fs b hb, .inl hb, f.cell b hb, fun p hp z => ?_⟩
  rcases List.mem_append.mp hp with hp | hp
  · exact f.pn b hb p hp z
  · cases hS : Sx with
    | none => rw [hS] at hp; cases hp
    | some a =>
      rw [hS] at hp
      rw [List.mem_singleton.mp hp] at z
      have z : a = b := z
      exact f.own a hS (by rw [z]; exact hb)
theorem bind_inv {α β : Type} {r : R α} {f : α → S → R β} (h : isOk (r.noErr.bind f)) : ∃ a s, r = .ok a s ∧ isOk (f a s) := by
  cases r with
  | ok a s => exact ⟨a, s, rfl, h⟩
  | err x s => exact h.elim
  | bad => exact h.elim
theorem noErr_ok' {α β : Type} {a : α} {s : S} {f : α → S → R β} : (R.ok a s).noErr.bind f = f a s := rfl
theorem gseg (T' : Turn X.prog X.w X.K tg J fp it tn) (wk : Wk (gx X ca T) L1 ρ1 F1 ls J) (hs : SlR (gx X ca T) ρ1 F1 sl σG) (hw : wipe σG vs = σG) (hf : FpG X A sF HF fp gsc code pn Sx) (hco : gsc.isCoroutine = false)
    (hg : PG (genCx X A sF HF fp gsc code pn) tg (tGw (gx X ca T) vs g)) (ht : PTs (genCx X A sF HF fp gsc code pn) ifs (tT (gx X ca T) noW t)) (he : PE (genCx X A sF HF fp gsc code pn) elt (tE (gx X ca T) noW e)) :
    ∀ (n i : Nat) (l : List D) (st : S) (ρ : List Addr) (F H : Hp) (s s₀ : Shared) (so : Obj) (m k : Nat) (l0 : List D) (st0 : S), n = ls.length - i → i ≤ ls.length → l = ls.drop i →
      Inv (genCx X A sF HF fp gsc code pn) (pinS Sx so) σG H s → tn i s.heap → (∀ b ∈ fp, H b = none) → Rel (gx X ca T) L1 H st ρ F → Le ρ1 F1 ρ F → st.lk = lk0 →
      m + k = ls.length + 1 → k ≤ i → trk g t e sl ls s0 k = some (l0, st0) → gnext g t e sl l st = gnext g t e sl l0 st0 → isOk (gnext g t e sl l0 st0) → (∀ a, Sx = some a → s₀.heap.get? a = some so) →
      Seg (model X.prog X.w) A (fun n s₀ r s₁ => r = .ok .next ∧ GEd ca T X A sF HF fp gsc code pn σG L1 ρ1 F1 ls lk0 g t e sl s0 Sx n s₀ s₁) (GYd ca T X A sF HF fp gsc code pn σG L1 ρ1 F1 tn ls lk0 g t e sl s0 Sx) m s₀
        (.compLoop (.GeneratorExp elt [⟨tg, iter, ifs, 0⟩] gsc gpos) 0 (.ref it) .none (gEnv X gsc sF.heap.objs.size code))
        ((model X.prog X.w).den (.compLoop (.GeneratorExp elt [⟨tg, iter, ifs, 0⟩] gsc gpos) 0 (.ref it) .none (gEnv X gsc sF.heap.objs.size code))) [] s := by
  intro n
  induction n with
  | zero =>
    intro i l st ρ F H s s₀ so m k l0 st0 hn hle hl I at_ fpn rel le lk hm hki htr heq hok hso
    have hi : i = ls.length := by omega
    subst hi
    rw [List.drop_length] at hl
    subst hl
    show Seg _ A _ _ _ s₀ _ ((compTurn (.GeneratorExp elt [⟨tg, iter, ifs, 0⟩] gsc gpos) 0 (.ref it) .none (gEnv X gsc sF.heap.objs.size code)).onRaise (leaving (gEnv X gsc sF.heap.objs.size code))) [] s
    rw [compTurn_gen, Sem.onRaise_eq_wrap]
    refine seg_bind_wrap (wpAny_standAt (seg_bind_wrap ?_))
    rw [over_comp]
    refine wpAny_mono (T'.done (genCx X A sF HF fp gsc code pn) rfl rfl rfl rfl _ _ s σG H (fun _ _ => False) I (hf.ok fpn) at_ (wk.stop H st ρ F L1 (fun _ _ z => z) le rel)) (fun r s1 ⟨hr, I1⟩ => ?_) fun _ _ z => z.elim
    subst hr
    exact seg_end (.ok .next) ⟨rfl, k, l0, st0, st, ρ, F, H, so, hm, htr, heq.symm, hso, I1, rel, le, lk⟩
  | succ n ih =>
    intro i l st ρ F H s s₀ so m k l0 st0 hn hle hl I at_ fpn rel le lk hm hki htr heq hok hso
    have hlt : i < ls.length := by omega
    show Seg _ A _ _ _ s₀ _ ((compTurn (.GeneratorExp elt [⟨tg, iter, ifs, 0⟩] gsc gpos) 0 (.ref it) .none (gEnv X gsc sF.heap.objs.size code)).onRaise (leaving (gEnv X gsc sF.heap.objs.size code))) [] s
    rw [compTurn_gen, Sem.onRaise_eq_wrap]
    refine seg_bind_wrap (wpAny_standAt (seg_bind_wrap ?_))
    rw [over_comp]
    refine wpAny_mono (T'.item (genCx X A sF HF fp gsc code pn) rfl rfl rfl rfl i _ s σG H (fun _ _ => False) I (hf.ok fpn) at_ (wk.go i H st ρ F L1 (fun _ _ z => z) hlt le rel)) (fun r s1 ⟨u, hr, h4⟩ => ?_) fun _ _ z => z.elim
    subst hr
    refine seg_bind_wrap ?_
    rw [over_comp]
    refine wpAny_mono h4 (fun _ s2 ⟨xv, H2, I2, rx, hy, at2, fn2⟩ => ?_) fun _ _ z => z.elim
    obtain ⟨d, F2, hd, l2, r2, rd⟩ := wk.yld i H st ρ F L1 xv H2 (fun _ _ z => z) hlt le rel hy
    have ed : ls.drop i = d :: ls.drop (i + 1) := by
      rw [List.drop_eq_getElem_cons hlt]
      rw [List.getElem?_eq_getElem hlt] at hd
      cases hd
      rfl
    rw [hl, ed] at heq
    have hok2 : isOk (gnext g t e sl (d :: ls.drop (i + 1)) st) := by
      rw [heq]
      exact hok
    unfold gnext at hok2
    obtain ⟨sl1, st1, eg, hok2⟩ := bind_inv hok2
    obtain ⟨b, st2, et, hok2⟩ := bind_inv hok2
    -- the target
    have Ip := I2.pinned (hf.ok fn2) (T'.obj _ _ at2)
    refine seg_bind_wrap ?_
    rw [over_comp]
    refine wpAny_mono (hg.run _ s2 σG H2 xv u (fun σ3 H3 => wipe σ3 vs = wipe σG vs ∧ ∃ ρ3 F3, Le ρ F2 ρ3 F3 ∧ Rel (gx X ca T) L1 H3 st1 ρ3 F3 ∧ SlR (gx X ca T) ρ3 F3 sl1 σ3) Ip rx ⟨d, sl, st, ρ, F2, L1, rd, hs.mono (le.trans l2), r2, ?_⟩) (fun _ s3 ⟨σ3, H3, I3, hw3, ρ3, F3, l3, r3, hs3⟩ => ?_) fun _ _ z => z.elim
    · rw [eg]
      exact fun σ3 H3 ρ3 F3 l3 r3 hs3 hw3 => ⟨hw3, ρ3, F3, l3, r3, hs3⟩
    -- the tests
    refine seg_bind_wrap ?_
    rw [over_comp]
    refine wpAny_mono (ht.run _ s3 σ3 H3 (fun b' H4 => b' = b ∧ ∃ ρ4 F4, Le ρ3 F3 ρ4 F4 ∧ Rel (gx X ca T) L1 H4 st2 ρ4 F4) I3 ⟨sl1, st1, ρ3, F3, L1, hs3, r3, ?_⟩) (fun b' s4 ⟨H4, I4, hb, ρ4, F4, l4, r4⟩ => ?_) fun _ _ z => z.elim
    · rw [et]
      exact fun b' H4 ρ4 F4 l4 r4 hb => ⟨hb.symm, ρ4, F4, l4, r4⟩
    subst hb
    have back : ∀ {σ' : L2.St} {H' : Hp} {s' : Shared}, wipe σ' vs = wipe σG vs → Inv (genCx X A sF HF fp gsc code pn) (pinS Sx so ++ pinsAt fp s2.heap) σ' H' s' → Inv (genCx X A sF HF fp gsc code pn) (pinS Sx so) σG H' s' ∧ tn (i + 1) s'.heap ∧ ∀ b ∈ fp, H' b = none := fun {σ' H' s'} hwe I' => by
      have q : ∀ b ∈ fp, ∃ o, s2.heap.get? b = some o ∧ s'.heap.get? b = some o ∧ H' b = none := fun b hb => by
        obtain ⟨o, ho, hd⟩ := T'.obj _ _ at2 b hb
        have q := I'.pin (b, o) (List.mem_append_right _ (List.mem_append_right _ (mem_pinsAt hb ho)))
        exact ⟨o, ho, q.1, q.2.1⟩
      have Iw := inv_wiped I'.unpinned vs
      rw [hwe, hw] at Iw
      refine ⟨Iw, T'.keep _ _ _ at2 fun b hb o ho => ?_, fun b hb => ?_⟩
      · obtain ⟨o', h1, h2, _⟩ := q b hb
        rw [ho] at h1
        cases h1
        exact h2
      · obtain ⟨_, _, _, h3⟩ := q b hb
        exact h3
    have l04 := ((le.trans l2).trans l3).trans l4
    have lk1 : ∀ {s3 : S}, s3.lk = st.lk → s3.lk = lk0 := fun h => h.trans lk
    cases b' with
    | false =>
      have hok2 : isOk (if st2.lk = st.lk then gnext g t e sl (ls.drop (i + 1)) st2 else .bad) := hok2
      have heq2 : gnext g t e sl (d :: ls.drop (i + 1)) st = if st2.lk = st.lk then gnext g t e sl (ls.drop (i + 1)) st2 else .bad := by
        conv => lhs; unfold gnext
        rw [eg, noErr_ok', et, noErr_ok']
        rfl
      by_cases hk2 : st2.lk = st.lk
      · rw [if_pos hk2] at heq2
        obtain ⟨J1, J2, J3⟩ := back hw3 I4
        refine seg_again rfl (ih (i + 1) (ls.drop (i + 1)) st2 ρ4 F4 H4 s4 s₀ so m k l0 st0 (by omega) hlt rfl J1 J2 J3 r4 l04 (lk1 hk2) hm (Nat.le_succ_of_le hki) htr (heq2.symm.trans heq) hok hso)
      · rw [if_neg hk2] at hok2
        exact hok2.elim
    | true =>
      have hok2 : isOk ((e sl1 st2).noErr.bind fun d s3 => if s3.lk = st.lk then R.ok (some (d, ls.drop (i + 1))) s3 else .bad) := hok2
      obtain ⟨dv, st3, ee, hok2⟩ := bind_inv hok2
      by_cases hk3 : st3.lk = st.lk
      rotate_left
      · rw [if_neg hk3] at hok2
        exact hok2.elim
      have heq2 : gnext g t e sl (d :: ls.drop (i + 1)) st = .ok (some (dv, ls.drop (i + 1))) st3 := by
        conv => lhs; unfold gnext
        rw [eg, noErr_ok', et, noErr_ok']
        show ((e sl1 st2).noErr.bind fun d s3 => if s3.lk = st.lk then R.ok (some (d, ls.drop (i + 1))) s3 else .bad) = _
        rw [ee, noErr_ok']
        exact if_pos hk3
      have hg0 : gnext g t e sl l0 st0 = .ok (some (dv, ls.drop (i + 1))) st3 := heq.symm.trans heq2
      have htr1 : trk g t e sl ls s0 (k + 1) = some (ls.drop (i + 1), st3) := by
        unfold trk
        rw [htr]
        dsimp only
        rw [hg0]
      obtain ⟨m', rfl⟩ : ∃ m', m = m' + 1 := ⟨m - 1, by omega⟩
      simp only [if_true]
      have hyo : ∀ v, yieldOut (gEnv X gsc sF.heap.objs.size code) v = yieldValue v := fun v => by
        have : (gEnv X gsc sF.heap.objs.size code).scope.isCoroutine = false := hco
        simp only [yieldOut, this, Bool.false_eq_true, if_false]
      simp only [hyo]
      rw [Sem.bind_eq_wrap', Sem.bind_eq_wrap', Sem.wrap_wrap, Sem.wrap_wrap]
      refine seg_wrap ?_
      rw [over_comp]
      refine wpAny_mono (he.run _ s4 σ3 H4 (fun y H5 => ∃ ρ5 F5, Le ρ4 F4 ρ5 F5 ∧ Rel (gx X ca T) L1 H5 st3 ρ5 F5 ∧ RepD ca X.K ρ5 F5 dv y) I4 ⟨sl1, st2, ρ4, F4, L1, hs3.mono l4, r4, ?_⟩) (fun y s5 ⟨yv, H5, I5, ry, ρ5, F5, l5, r5, hd5⟩ => ?_) fun _ _ z => z.elim
      · rw [ee]
        exact fun y H5 ρ5 F5 l5 r5 hd5 => ⟨ρ5, F5, l5, r5, hd5⟩
      obtain ⟨J1, J2, J3⟩ := back hw3 I5
      refine seg_at (seg_yield rfl rfl rfl ⟨k, l0, ls.drop (i + 1), st0, st3, ρ5, F5, H5, so, dv, yv, hm, htr, hg0, hso, ⟨J1, ⟨i + 1, rfl, hlt, J2⟩, J3, r5, l04.trans l5, lk1 hk3⟩, hd5, ry, fun s'' so' ρ' F' H' gi hso' hok' => ?_⟩)
      obtain ⟨i', hi1, hi2, hi3⟩ := gi.idx
      have hii : i' = i + 1 := by
        have := congrArg List.length hi1
        rw [List.length_drop, List.length_drop] at this
        omega
      subst hii
      exact seg_again rfl (ih (i + 1) (ls.drop (i + 1)) st3 ρ' F' H' s'' s'' so' m' (k + 1) (ls.drop (i + 1)) st3 (by omega) hlt rfl gi.inv hi3 gi.fpn gi.rel gi.le gi.lk (by omega) (Nat.succ_le_succ hki) htr1 rfl hok' hso')
end
end AL
set_option Elab.async false
set_option linter.all false
set_option maxRecDepth 100000
set_option maxHeartbeats 4000000
/-! AL63: the generator's start, its next item. -/
namespace AL
open PySem PySem.Spec PyProof.Rows L2
section
variable {c : Cfg} {ca : Str → Addr} {T : List (Addr × Str)} {X : Cx} {W : WX} {sc : Scope} {A : Around} {sF : Shared} {HF : Hp} {fp : List Addr} {gsc : Scope} {code : Value} {pn : List (Addr × Obj)}
/-- targets -/
theorem gw_gen (h : Sd c ca T X W sc) (L : GenS1 sc gsc) : ∀ (n : Nat) (tg : Expr), PG (genCx X A sF HF fp gsc code pn) tg (tGw (gx X ca T) (ownN c.N gsc) (gC c.N gsc n tg))
  | 0, tg => gw_bad (X := genCx X A sF HF fp gsc code pn)
  | n + 1, tg => by
    have one : ∀ {x : Str} {pos : Pos}, gsc.names.lookup x = some .local → PG (genCx X A sF HF fp gsc code pn) (.Name x pos) (tGw (gx X ca T) (ownN c.N gsc) (match ixN c.N x with
        | some i => gName i
        | none => fun _ _ _ => .bad)) := fun {x pos} hk => by
      cases hi : ixN c.N x with
      | none => exact gw_bad (X := genCx X A sF HF fp gsc code pn)
      | some i =>
        refine ⟨fun pins s σ H v u Q I r ⟨d, sl, st, ρ, F, L2, hd, hs, hr, q⟩ => ?_⟩
        refine (pg_name (X := genCx X A sF HF fp gsc code pn) (i := i) h.nd (by show X.N[i]? = _; rw [h.N]; exact ixN_at hi) (.inl hk) (.inr hk)).run pins s σ H v u Q I r ?_
        exact q _ H ρ F (.refl ρ F) hr (hs.set i hd) (wipe_set (ixN_own hk (.inl rfl) hi))
    cases tg with
    | Name x pos =>
      show PG _ _ (tGw (gx X ca T) (ownN c.N gsc) (match gsc.names.lookup x with
        | some .local => (match ixN c.N x with
          | some i => gName i
          | none => fun _ _ _ => .bad)
        | some .cell => (match ixN c.N x with
          | some i => gName i
          | none => fun _ _ _ => .bad)
        | _ => fun _ _ _ => .bad))
      cases e : gsc.names.lookup x with
      | none => exact gw_bad (X := genCx X A sF HF fp gsc code pn)
      | some k =>
        cases k with
        | «local» => exact one e
        | cell => exact absurd rfl (L.cell _ (PySem.mem_of_lookup e))
        | _ => exact gw_bad (X := genCx X A sF HF fp gsc code pn)
    | Tuple es k pos =>
      show PG _ _ (tGw (gx X ca T) (ownN c.N gsc) (if es.any starB = true then fun _ _ _ => .bad else gTup (gC c.N gsc n) es))
      by_cases hs : es.any starB = true
      · rw [if_pos hs]
        exact gw_bad (X := genCx X A sF HF fp gsc code pn)
      · rw [if_neg hs]
        have hn : es.any starB = false := by simpa using hs
        refine ⟨fun pins s σ H v u Q I r ⟨d, sl, st, ρ, F, L2, hd, hsl, hr, q⟩ => ?_⟩
        unfold gTup at q
        split at q
        · rename_i l hl
          unfold unpackD at hl
          split at hl
          · rename_i l' ev
            cases hl
            obtain ⟨a, vs, e1, h1, h2⟩ := hr.viewT hd ev
            refine (pg_tup (X := genCx X A sF HF fp gsc code pn) rfl (gw_many (X := genCx X A sF HF fp gsc code pn) (gw_gen h L n) hn) (noStar_asg hn).2.1 (noStar_asg hn).2.2).run pins s σ H v u Q I r ⟨a, vs, e1, h1, ?_, l, sl, st, ρ, F, L2, h2, hsl, hr, q⟩
            rw [← RepL.length (G := gx X ca T) h2]
            exact gMany_len q
          · cases hl
        · exact q.elim
    | _ => exact gw_bad (X := genCx X A sF HF fp gsc code pn)
variable {σG : L2.St} {L1 : Hp} {ρ1 : List Addr} {F1 : Hp} {tn : Nat → Heap → Prop} {ls : List D} {lk0 : List Nat} {s0 : S} {g : MG} {t : MT} {e : ME} {sl : Sl} {vs : List Nat} {it : Addr} {J : It} {elt tg iter : Expr} {ifs : List Expr} {gpos : Pos} {Sx : Option Addr}
/-- what the generator's state, behind k items, can do -/
def GSt (ca : Str → Addr) (T : List (Addr × Str)) (X : Cx) (A : Around) (sF : Shared) (HF : Hp) (fp : List Addr) (gsc : Scope) (code : Value) (pn : List (Addr × Obj)) (σG : L2.St) (L1 : Hp) (ρ1 : List Addr) (F1 : Hp) (tn : Nat → Heap → Prop) (ls : List D) (lk0 : List Nat)
    (g : MG) (t : MT) (e : ME) (sl : Sl) (s0 : S) (Sx : Option Addr) (k : Nat) (gs : GenState) : Prop := ∀ (l : List D) (st : S) (s'' : Shared) (so' : Obj) (ρ : List Addr) (F H : Hp), trk g t e sl ls s0 k = some (l, st) →
  GInv ca T X A sF HF fp gsc code pn σG L1 ρ1 F1 tn ls lk0 (pinS Sx so') l st ρ F H s'' → isOk (gnext g t e sl l st) → (∀ a, Sx = some a → s''.heap.get? a = some so') →
  gs.Goes (model X.prog X.w) A (fun n s₀ r s₁ => r = .ok .next ∧ GEd ca T X A sF HF fp gsc code pn σG L1 ρ1 F1 ls lk0 g t e sl s0 Sx n s₀ s₁) (GYd ca T X A sF HF fp gsc code pn σG L1 ρ1 F1 tn ls lk0 g t e sl s0 Sx) (ls.length + 1 - k) (.send .none) s''
theorem gfresh (T' : Turn X.prog X.w X.K tg J fp it tn) (wk : Wk (gx X ca T) L1 ρ1 F1 ls J) (hs : SlR (gx X ca T) ρ1 F1 sl σG) (hw : wipe σG vs = σG) (hf : FpG X A sF HF fp gsc code pn Sx) (hco : gsc.isCoroutine = false)
    (hg : PG (genCx X A sF HF fp gsc code pn) tg (tGw (gx X ca T) vs g)) (ht : PTs (genCx X A sF HF fp gsc code pn) ifs (tT (gx X ca T) noW t)) (he : PE (genCx X A sF HF fp gsc code pn) elt (tE (gx X ca T) noW e)) :
    GSt ca T X A sF HF fp gsc code pn σG L1 ρ1 F1 tn ls lk0 g t e sl s0 Sx 0 (.fresh (.compStart (.GeneratorExp elt [⟨tg, iter, ifs, 0⟩] gsc gpos) 0 (.ref it) .none (gEnv X gsc sF.heap.objs.size code))) := by
  intro l st s'' so' ρ F H htr gi hok hso
  have htr' := htr
  cases htr'
  obtain ⟨i, hi1, hi2, hi3⟩ := gi.idx
  have hi0 : i = 0 ∨ ls = [] := by
    have := congrArg List.length hi1
    rw [List.length_drop] at this
    by_cases h : ls.length = 0
    · exact .inr (List.eq_nil_of_length_eq_zero h)
    · exact .inl (by omega)
  have at0 : tn 0 s''.heap := by
    rcases hi0 with h | h
    · rw [← h]
      exact hi3
    · rw [h] at hi2
      have : i = 0 := by
        have : i ≤ 0 := hi2
        omega
      rw [← this]
      exact hi3
  refine ⟨rfl, ?_⟩
  have loop := gseg (A := A) (sF := sF) (HF := HF) (code := code) (pn := pn) (lk0 := lk0) (s0 := s0) (iter := iter) (gpos := gpos) T' wk hs hw hf hco hg ht he (ls.length - 0) 0 ls s0 ρ F H s'' s'' so' (ls.length + 1 - 0) 0 ls s0 rfl (Nat.zero_le _) rfl gi.inv at0 gi.fpn gi.rel gi.le gi.lk rfl (Nat.le_refl _) htr rfl hok hso
  show Seg _ A _ _ _ s'' _ ((compStart (.GeneratorExp elt [⟨tg, iter, ifs, 0⟩] gsc gpos) 0 (.ref it) .none (gEnv X gsc sF.heap.objs.size code)).onRaise (leaving (gEnv X gsc sF.heap.objs.size code))) [] s''
  unfold compStart
  rw [Sem.onRaise_eq_wrap]
  show Seg _ A _ _ _ s'' _ ((ask >>= _).wrap _ _ _ _) [] s''
  refine seg_bind_wrap (wpAny_askSetting ?_)
  split
  · exact seg_again rfl loop
  · first
      | exact seg_bind_wrap (wpAny_rule (seg_bind_wrap (wpAny_standAt (seg_bind_wrap (T'.self _ 0 s'' _ _ at0 (seg_again rfl loop))))))
      | (refine seg_bind_wrap (wpAny_rule ?_); show Seg _ A _ _ _ s'' _ ((standAt iter.pos >>= _).wrap _ _ _ _) [] s''; exact seg_bind_wrap (wpAny_standAt (seg_bind_wrap (T'.self _ 0 s'' _ _ at0 (seg_again rfl loop)))))
end
end AL
set_option Elab.async false
set_option linter.all false
set_option maxRecDepth 100000
set_option maxHeartbeats 4000000
/-! AL64: what takes in a generator. -/
namespace AL
open PySem PySem.Spec PyProof.Rows L2
section
variable {c : Cfg} {ca : Str → Addr} {T : List (Addr × Str)} {X : Cx} {A : Around} {sF : Shared} {HF : Hp} {fp : List Addr} {gsc : Scope} {code : Value} {pn : List (Addr × Obj)}
variable {σG : L2.St} {L1 : Hp} {ρ1 : List Addr} {F1 : Hp} {tn : Nat → Heap → Prop} {ls : List D} {lk0 : List Nat} {s0 : S} {g : MG} {t : MT} {e : ME} {sl : Sl} {Sx : Option Addr} {a : Addr} {gn : Nat} {go : Obj}
theorem gen_next {l : List D} {st : S} {ρ : List Addr} {F H : Hp} {s : Shared} {so : Obj} {k : Nat} {gs : GenState} {Q : Option Value → Shared → Prop} {E : Value → Shared → Prop} (hh : A.handled = none) (hroom : A.depth < recursionLimit) (hgo : ∀ h : Heap, h.get? a = some go → h.IsGen a gn)
    (gi : GInv ca T X A.in1 sF HF fp gsc code [(a, go)] σG L1 ρ1 F1 tn ls lk0 (pinS Sx so) l st ρ F H s) (hgs : s.gens[gn]? = some gs) (hG : GSt ca T X A.in1 sF HF fp gsc code [(a, go)] σG L1 ρ1 F1 tn ls lk0 g t e sl s0 Sx k gs) (htr : trk g t e sl ls s0 k = some (l, st))
    (hok : isOk (gnext g t e sl l st)) (hso : ∀ x, Sx = some x → s.heap.get? x = some so)
    (hY : ∀ (d : D) (l' : List D) (st' : S) (v : Value) (vv : V) (ρ' : List Addr) (F' H' : Hp) (s' : Shared) (gs' : GenState), gnext g t e sl l st = .ok (some (d, l')) st' → trk g t e sl ls s0 (k + 1) = some (l', st') → GInv ca T X A.in1 sF HF fp gsc code [(a, go)] σG L1 ρ1 F1 tn ls lk0 (pinS Sx so) l' st' ρ' F' H' s' →
      s'.gens[gn]? = some gs' → GSt ca T X A.in1 sF HF fp gsc code [(a, go)] σG L1 ρ1 F1 tn ls lk0 g t e sl s0 Sx (k + 1) gs' → RepD ca X.K ρ' F' d vv → L2.RelV vv v → Q (some v) s')
    (hN : ∀ (st' : S) (ρ' : List Addr) (F' H' : Hp) (s' : Shared), gnext g t e sl l st = .ok none st' → Inv (genCx X A.in1 sF HF fp gsc code [(a, go)]) (pinS Sx so) σG H' s' → Rel (gx X ca T) L1 H' st' ρ' F' → Le ρ1 F1 ρ' F' → st'.lk = lk0 → Q none s') :
    wpAny (model X.prog X.w) A (pyNext (.ref a)) Q E s := by
  have hg := hgo _ (gi.inv.pin (a, go) (List.mem_append_left _ (List.mem_singleton.mpr rfl))).1
  have hl := gi.inv.nolimit
  have hlt : gn < s.gens.size := (Array.getElem?_eq_some_iff.mp hgs).1
  have hkl := trk_len k htr
  have gi' : GInv ca T X A.in1 sF HF fp gsc code [(a, go)] σG L1 ρ1 F1 tn ls lk0 (pinS Sx so) l st ρ F H (s.setGen gn .running) := ⟨inv_gens gi.inv (allBare_setGen gi.inv.bare rfl), gi.idx, gi.fpn, gi.rel, gi.le, gi.lk⟩
  have hgo' := hG l st _ so ρ F H htr gi' hok hso
  obtain ⟨m, hm⟩ : ∃ m, ls.length + 1 - k = m + 1 := ⟨ls.length - k, by omega⟩
  rw [hm] at hgo'
  refine GenW.wpAny_gsz (n := gn + 1) hlt (wpAny_pyNext_genexpQ (P := GEd ca T X A.in1 sF HF fp gsc code [(a, go)] σG L1 ρ1 F1 ls lk0 g t e sl s0 Sx) hh hl hroom hg hgs hgo' (fun v s₁ gs' hb hv hsz => ?_) (fun s₁ hp h' hk hsz => ?_))
  · obtain ⟨k', l0, l', st0, st', ρ', F', H', so', d, vv, h1, h2, h3, h4, h5, h6, h7, h8⟩ := hv
    have hkk : k' = k := by omega
    subst hkk
    rw [htr] at h2
    cases h2
    have hso' : pinS Sx so' = pinS Sx so := by
      cases hS : Sx with
      | none => rfl
      | some x =>
        have e1 := h4 x hS
        have e2 := hso x hS
        have e1 : s.heap.get? x = some so' := e1
        rw [e1] at e2
        cases e2
        rfl
    rw [hso'] at h5
    have htr1 : trk g t e sl ls s0 (k' + 1) = some (l', st') := by
      unfold trk
      rw [htr]
      dsimp only
      rw [h3]
    have hsz1 : gn < s₁.gens.size := by
      have q : (s₁.setGen gn gs').gens.size = s₁.gens.size := GenW.setGen_size _ _ _
      have hsz' : gn + 1 ≤ (s₁.setGen gn gs').gens.size := hsz
      omega
    refine hY d l' st' v vv ρ' F' H' (s₁.setGen gn gs') gs' h3 htr1 ⟨inv_gens h5.inv (allBare_setGen h5.inv.bare hb), h5.idx, h5.fpn, h5.rel, h5.le, h5.lk⟩ (setGen_at hsz1) ?_ h6 h7
    intro l2 st2 s2 so2 ρ2 F2 H2 q1 q2 q3 q4
    rw [htr1] at q1
    cases q1
    have := h8 s2 so2 ρ2 F2 H2 q2 q4 q3
    rw [show ls.length + 1 - (k' + 1) = m from by omega]
    exact this
  · obtain ⟨k', l0, st0, st', ρ', F', H', so', h1, h2, h3, h4, h5, h6, h7, h8⟩ := hp
    have hkk : k' = k := by omega
    subst hkk
    rw [htr] at h2
    cases h2
    have hso' : pinS Sx so' = pinS Sx so := by
      cases hS : Sx with
      | none => rfl
      | some x =>
        have e1 := h4 x hS
        have e2 := hso x hS
        have e1 : s.heap.get? x = some so' := e1
        rw [e1] at e2
        cases e2
        rfl
    rw [hso'] at h5
    have J : Inv (genCx X A.in1 sF HF fp gsc code [(a, go)]) (pinS Sx so) σG H' { s₁ with heap := h' } := h5.kept hk
    refine hN st' ρ' F' H' _ h3 ?_ h6 h7 h8
    exact inv_gens (g' := (s₁.setGen gn .finished).gens) (tk := s₁.toks) J (allBare_setGen h5.bare rfl)
/-- what is wanted of the end -/
def RFin (ca : Str → Addr) (T : List (Addr × Str)) (X : Cx) (A : Around) (sF : Shared) (HF : Hp) (fp : List Addr) (gsc : Scope) (code : Value) (pn : List (Addr × Obj)) (σG : L2.St) (L1 : Hp) (ρ1 : List Addr) (F1 : Hp) (lk0 : List Nat) (P : D → S → Prop) (R : Result → Shared → Prop) : Prop :=
  ∀ (d : D) (vv : V) (u : Value) (st : S) (ρ : List Addr) (F H : Hp) (s : Shared), P d st → Inv (genCx X A sF HF fp gsc code pn) [] σG H s → Rel (gx X ca T) L1 H st ρ F → Le ρ1 F1 ρ F → st.lk = lk0 → RepD ca X.K ρ F d vv → L2.RelV vv u → R (.ok (.ret u)) s
theorem any_turns {P : D → S → Prop} {R : Result → Shared → Prop} (hh : X.A.handled = none) (hroom : X.A.depth + 1 < recursionLimit) (hgo : ∀ h : Heap, h.get? a = some go → h.IsGen a gn)
    (hR : RFin ca T X X.A.in1.in1 sF HF fp gsc code [(a, go)] σG L1 ρ1 F1 lk0 P R) :
    ∀ (n k : Nat) (l : List D) (st : S) (ρ : List Addr) (F H : Hp) (s : Shared) (gs : GenState), GInv ca T X X.A.in1.in1 sF HF fp gsc code [(a, go)] σG L1 ρ1 F1 tn ls lk0 [] l st ρ F H s → s.gens[gn]? = some gs → GSt ca T X X.A.in1.in1 sF HF fp gsc code [(a, go)] σG L1 ρ1 F1 tn ls lk0 g t e sl s0 none k gs →
      trk g t e sl ls s0 k = some (l, st) → Post P (anyG true g t e sl n l st) → codeAny (model X.prog X.w) X.A (.builtin "any.loop" ⟨[.ref a], []⟩) R s
  | 0, k, l, st, ρ, F, H, s, gs, gi, hgs, hG, htr, po => po.elim
  | n + 1, k, l, st, ρ, F, H, s, gs, gi, hgs, hG, htr, po => by
    unfold anyG at po
    have hok : isOk (gnext g t e sl l st) := by
      cases q : gnext g t e sl l st with
      | ok _ _ => exact True.intro
      | err _ _ => rw [q] at po; exact po.elim
      | bad => rw [q] at po; exact po.elim
    refine codeAny_builtin PySem.F.entry_any_loop ?_
    rw [Around.under_plainId PySem.F.plain_any_loop _]
    show wpAny _ X.A.in1 (pyNext (.ref a) >>= _) _ _ s
    refine wpAny_bind (gen_next (A := X.A.in1) (Sx := none) (so := go) hh (by show X.A.depth < _; omega) hgo gi hgs hG htr hok (fun x z => by cases z) (fun d l' st' v vv ρ' F' H' s' gs' q1 q2 gi' hgs' hG' hd rv => ?_) fun st' ρ' F' H' s' q1 J r l hlk => ?_)
    · rw [q1] at po
      cases d <;> first | (exact po.elim) | skip
      rename_i b
      have e1 : vv = .bl b := hd
      subst e1
      have e2 : v = .bool b := rv
      subst e2
      have po : Post P (if b = true then .ok (.bl true) st' else anyG true g t e sl n l' st') := po
      refine wpAny_bind (wpAny_holding (wpAny_truthy_bool ?_))
      refine wpAny_bind (wpAny_letGo ?_)
      cases b with
      | false =>
        simp only [Bool.false_eq_true, if_false] at po ⊢
        exact wpAny_pure ⟨plainId_quiet PySem.F.plain_any_loop _, any_turns hh hroom hgo hR n (k + 1) l' st' ρ' F' H' s' gs' gi' hgs' hG' q2 po⟩
      | true =>
        simp only [if_true] at po ⊢
        exact wpAny_bind (wpAny_rule (wpAny_pure (hR (.bl true) (.bl true) (.bool true) st' ρ' F' H' s' po gi'.inv gi'.rel gi'.le gi'.lk rfl rfl)))
    · rw [q1] at po
      have po : P (.bl false) st' := po
      exact wpAny_bind (wpAny_rule (wpAny_pure (hR (.bl false) (.bl false) (.bool false) st' ρ' F' H' s' po J r l hlk rfl rfl)))
theorem all_turns {P : D → S → Prop} {R : Result → Shared → Prop} (hh : X.A.handled = none) (hroom : X.A.depth + 1 < recursionLimit) (hgo : ∀ h : Heap, h.get? a = some go → h.IsGen a gn)
    (hR : RFin ca T X X.A.in1.in1 sF HF fp gsc code [(a, go)] σG L1 ρ1 F1 lk0 P R) :
    ∀ (n k : Nat) (l : List D) (st : S) (ρ : List Addr) (F H : Hp) (s : Shared) (gs : GenState), GInv ca T X X.A.in1.in1 sF HF fp gsc code [(a, go)] σG L1 ρ1 F1 tn ls lk0 [] l st ρ F H s → s.gens[gn]? = some gs → GSt ca T X X.A.in1.in1 sF HF fp gsc code [(a, go)] σG L1 ρ1 F1 tn ls lk0 g t e sl s0 none k gs →
      trk g t e sl ls s0 k = some (l, st) → Post P (anyG false g t e sl n l st) → codeAny (model X.prog X.w) X.A (.builtin "all.loop" ⟨[.ref a], []⟩) R s
  | 0, k, l, st, ρ, F, H, s, gs, gi, hgs, hG, htr, po => po.elim
  | n + 1, k, l, st, ρ, F, H, s, gs, gi, hgs, hG, htr, po => by
    unfold anyG at po
    have hok : isOk (gnext g t e sl l st) := by
      cases q : gnext g t e sl l st with
      | ok _ _ => exact True.intro
      | err _ _ => rw [q] at po; exact po.elim
      | bad => rw [q] at po; exact po.elim
    refine codeAny_builtin PySem.F.entry_all_loop ?_
    rw [Around.under_plainId PySem.F.plain_all_loop _]
    show wpAny _ X.A.in1 (pyNext (.ref a) >>= _) _ _ s
    refine wpAny_bind (gen_next (A := X.A.in1) (Sx := none) (so := go) hh (by show X.A.depth < _; omega) hgo gi hgs hG htr hok (fun x z => by cases z) (fun d l' st' v vv ρ' F' H' s' gs' q1 q2 gi' hgs' hG' hd rv => ?_) fun st' ρ' F' H' s' q1 J r l hlk => ?_)
    · rw [q1] at po
      cases d <;> first | (exact po.elim) | skip
      rename_i b
      have e1 : vv = .bl b := hd
      subst e1
      have e2 : v = .bool b := rv
      subst e2
      have po : Post P (if b = false then .ok (.bl false) st' else anyG false g t e sl n l' st') := po
      refine wpAny_bind (wpAny_holding (wpAny_truthy_bool ?_))
      refine wpAny_bind (wpAny_letGo ?_)
      cases b with
      | true =>
        simp only [Bool.true_eq_false, if_false, if_true] at po ⊢
        exact wpAny_pure ⟨plainId_quiet PySem.F.plain_all_loop _, all_turns hh hroom hgo hR n (k + 1) l' st' ρ' F' H' s' gs' gi' hgs' hG' q2 po⟩
      | false =>
        simp only [Bool.false_eq_true, if_false, if_true] at po ⊢
        exact wpAny_bind (wpAny_rule (wpAny_pure (hR (.bl false) (.bl false) (.bool false) st' ρ' F' H' s' po gi'.inv gi'.rel gi'.le gi'.lk rfl rfl)))
    · rw [q1] at po
      have po : P (.bl true) st' := po
      exact wpAny_bind (wpAny_rule (wpAny_pure (hR (.bl true) (.bl true) (.bool true) st' ρ' F' H' s' po J r l hlk rfl rfl)))
end
end AL
set_option Elab.async false
set_option linter.all false
set_option maxRecDepth 100000
set_option maxHeartbeats 4000000
/-! AL65: sum of a generator. -/
namespace AL
open PySem PySem.Spec PyProof.Rows L2 PySem.SeqAt
abbrev totO (i : Int) (tA : Tok) (c : Nat) : Obj := { cls := .type "list", dict := none, data := .seq #[.int i tA] c, slots := #[] }
section
variable {c : Cfg} {ca : Str → Addr} {T : List (Addr × Str)} {X : Cx} {sF : Shared} {HF : Hp} {fp : List Addr} {gsc : Scope} {code : Value}
variable {σG : L2.St} {L1 : Hp} {ρ1 : List Addr} {F1 : Hp} {tn : Nat → Heap → Prop} {ls : List D} {lk0 : List Nat} {s0 : S} {g : MG} {t : MT} {e : ME} {sl : Sl} {a Sa : Addr} {gn : Nat} {go : Obj}
theorem sum_turns {P : D → S → Prop} {R : Result → Shared → Prop} (hh : X.A.handled = none) (hroom : X.A.depth + 1 < recursionLimit) (hgo : ∀ h : Heap, h.get? a = some go → h.IsGen a gn)
    (hls : Loose (genCx X X.A.in1.in1 sF HF fp gsc code [(a, go)]) [] Sa) (hsf : Sa ∉ fp) (hkp : ∀ (i : Nat) (h h' : Heap), tn i h → (∀ b ∈ fp, ∀ o, h.get? b = some o → h'.get? b = some o) → tn i h')
    (hR : ∀ (i : Int) (tA : Tok) (o : Obj) (st : S) (ρ : List Addr) (F H : Hp) (s : Shared), P (.int i) st → Inv (genCx X X.A.in1.in1 sF HF fp gsc code [(a, go)]) (pinS (some Sa) o) σG H s → Rel (gx X ca T) L1 H st ρ F → Le ρ1 F1 ρ F → st.lk = lk0 → R (.ok (.ret (.int i tA))) s) :
    ∀ (n k : Nat) (tot : Int) (tA : Tok) (cc : Nat) (l : List D) (st : S) (ρ : List Addr) (F H : Hp) (s : Shared) (gs : GenState), GInv ca T X X.A.in1.in1 sF HF fp gsc code [(a, go)] σG L1 ρ1 F1 tn ls lk0 (pinS (some Sa) (totO tot tA cc)) l st ρ F H s → s.gens[gn]? = some gs → GSt ca T X X.A.in1.in1 sF HF fp gsc code [(a, go)] σG L1 ρ1 F1 tn ls lk0 g t e sl s0 (some Sa) k gs →
      trk g t e sl ls s0 k = some (l, st) → Post P (sumG g t e sl n tot l st) → codeAny (model X.prog X.w) X.A (.builtin "sum.loop" ⟨[.ref a, .ref Sa, rawInt 0, rawInt 0], []⟩) R s
  | 0, k, tot, tA, cc, l, st, ρ, F, H, s, gs, gi, hgs, hG, htr, po => po.elim
  | n + 1, k, tot, tA, cc, l, st, ρ, F, H, s, gs, gi, hgs, hG, htr, po => by
    unfold sumG at po
    have hok : isOk (gnext g t e sl l st) := by
      cases q : gnext g t e sl l st with
      | ok _ _ => exact True.intro
      | err _ _ => rw [q] at po; exact po.elim
      | bad => rw [q] at po; exact po.elim
    have hS : s.heap.get? Sa = some (totO tot tA cc) := (gi.inv.pin (Sa, totO tot tA cc) (List.mem_append_right _ (List.mem_singleton.mpr rfl))).1
    refine codeAny_builtin PySem.F.entry_sum_loop ?_
    rw [Around.under_plainId PySem.F.plain_sum_loop _]
    show wpAny _ X.A.in1 (seqItems? (.ref Sa) >>= _) _ _ s
    refine wpAny_bind (wpAny_seqItems hS rfl ?_)
    show wpAny _ X.A.in1 (tryCatch (pyNext (.ref a)) _ >>= _) _ _ s
    refine wpAny_bind (wpAny_tryCatch (gen_next (A := X.A.in1) (Sx := some Sa) (so := totO tot tA cc) hh (by show X.A.depth < _; omega) hgo gi hgs hG htr hok (fun x z => by cases z; exact hS) (fun d l' st' v vv ρ' F' H' s' gs' q1 q2 gi' hgs' hG' hd rv => ?_) fun st' ρ' F' H' s' q1 J r l hlk => ?_))
    · rw [q1] at po
      cases d <;> first | (exact po.elim) | skip
      rename_i i
      have e1 : vv = .int i := hd
      subst e1
      obtain ⟨ti, rfl⟩ : ∃ ti, v = .int i ti := rv
      have po : Post P (if (longB i && longB (tot + i)) = true then sumG g t e sl n (tot + i) l' st' else .bad) := po
      by_cases hlong : (longB i && longB (tot + i)) = true
      rotate_left
      · rw [if_neg hlong] at po
        exact po.elim
      rw [if_pos hlong] at po
      have hS' : s'.heap.get? Sa = some (totO tot tA cc) := (gi'.inv.pin (Sa, totO tot tA cc) (List.mem_append_right _ (List.mem_singleton.mpr rfl))).1
      have hlong : ((decide (-(2 ^ 63) ≤ i) && decide (i < 2 ^ 63)) && (decide (-(2 ^ 63) ≤ tot + i) && decide (tot + i < 2 ^ 63))) = true := hlong
      show wpAny _ X.A.in1 (if (_ : Bool) = true then (mkInt (tot + i) >>= _) else _) _ _ _
      split
      · refine wpAny_bind (wpAny_mkInt ?_)
        show wpAny _ X.A.in1 (updateSeq Sa (fun _ => #[.int (tot + i) s'.toks]) >>= _) _ _ _
        refine wpAny_bind ?_
        have kp : ∀ b o, b ≠ Sa → s'.heap.get? b = some o → (s'.heap.update Sa (Obj.mapSeq fun _ => #[.int (tot + i) s'.toks])).get? b = some o := fun b o hb e => (Heap.get?_update_ne _ _ _ _ hb).trans e
        obtain ⟨c2, hc2⟩ : ∃ c2, (s'.heap.update Sa (Obj.mapSeq fun _ => #[.int (tot + i) s'.toks])).get? Sa = some (totO (tot + i) s'.toks c2) := ⟨_, get?_update_seq hS' fun _ => #[.int (tot + i) s'.toks]⟩
        refine wpAny_updateSeq hS' rfl (wpAny_pure ⟨plainId_quiet PySem.F.plain_sum_loop _, ?_⟩)
        have I5 := inv_upd (X := genCx X X.A.in1.in1 sF HF fp gsc code [(a, go)]) (pins := []) (tk := s'.toks + 1) gi'.inv hls kp hc2 (fun v z => by cases z)
        obtain ⟨ix, x1, x2, x3⟩ := gi'.idx
        refine sum_turns hh hroom hgo hls hsf hkp hR n (k + 1) (tot + i) s'.toks c2 l' st' ρ' F' H' _ gs' ⟨I5, ⟨ix, x1, x2, hkp _ _ _ x3 fun b hb o e => kp b o (fun z => hsf (by rw [← z]; exact hb)) e⟩, gi'.fpn, gi'.rel, gi'.le, gi'.lk⟩ hgs' hG' q2 po
      · rename_i hneg
        exact absurd hlong hneg
    · rw [q1] at po
      have po : P (.int tot) st' := po
      exact wpAny_pure (hR tot tA _ st' ρ' F' H' s' po J r l hlk)
end
end AL
set_option Elab.async false
set_option linter.all false
set_option maxRecDepth 100000
set_option maxHeartbeats 4000000
/-! AL66: any, all, sum of a generator expression, the rule. -/
namespace AL
open PySem PySem.Spec PyProof.Rows L2 PySem.SeqAt
section
variable {c : Cfg} {ca : Str → Addr} {T : List (Addr × Str)} {X : Cx} {W : WX} {sc gsc : Scope} {pins : List (Addr × Obj)} {σ : L2.St} {H : Hp} {s : Shared}
theorem Sd.inGen (h : Sd c ca T X W sc) (hl : c.lam = 1) (sF : Shared) (HF : Hp) (fp : List Addr) (code : Value) (pn : List (Addr × Obj)) : Sd c.less ca T (genCx X X.A.in1.in1 sF HF fp gsc code pn) noW gsc where
  N := h.N
  nd := h.nd
  scp := rfl
  calm := rfl
  tk := fun u s' ⟨_, _, _, _, _, _, _, _, _, _, _, _, _, _, _, _, w⟩ => w.elim
  room := by
    show Room (c.lvl + 3 + 3 * (c.lam - 1)) _
    rw [hl]
    have hr : Room (c.lvl + 6) X.A := h.room.mono (by rw [hl]; exact Nat.le_refl _)
    exact hr.in1.in1.deeper _
  gl := h.gl
  fns := h.fns
  meth := h.meth
  new := h.new
  blt := h.blt
  attr := h.attr
  exc := h.exc
  exm := h.exm
  excG := h.excG
  tab1 := fun z => by
    have z : 0 < c.lam - 1 := z
    omega
  tab2 := fun z => by
    have z : 0 < c.lam - 1 := z
    omega
  told := fun z => by
    have z : 0 < c.lam - 1 := z
    omega
/-- the generator's code object is new, or found in the table -/
theorem gen_code {cA P : Addr} {gpos : Pos} {Q : Value → Shared → Prop} {E : Value → Shared → Prop} (I : Inv X pins σ H s) (TB : LamX.TabB X.base X.mg cA P) (hcode : X.env.code = .ref cA)
    (hm : (P, X.env.qual ++ "<genexpr>") ∈ T) (hu : ∀ p ∈ T, p.1 = P → p.2 = X.env.qual ++ "<genexpr>") (hT : LamX.Tabs T H)
    (h : ∀ (cv : Value) (H1 : Hp) (s' : Shared), Inv X pins σ H1 s' → LamX.ExtN H H1 → LamX.Tabs T H1 → (∀ b o, H b = none → s.heap.get? b = some o → s'.heap.get? b = some o) → (∀ b, H b = none → b < s.heap.objs.size → H1 b = none) → s.heap.objs.size ≤ s'.heap.objs.size → Q cv s') :
    wpAny (model X.prog X.w) X.A (genexprCode X.env gpos (X.env.qual ++ "<genexpr>") gsc) Q E s := by
  obtain ⟨ps, hP, ht, ha⟩ := hT _ hm
  have hP' : s.heap.get? P = some { cls := .none, data := .fields ps } := I.hok P _ hP
  have cd : PySem.W.CodeHd s.heap cA P := TB.code.keeps I.bk
  cases hc : codeAmong gpos ps.toList with
  | some cv => exact wpAny_genexprCode_hit hcode (cd.code hP' ht) hc (h cv H s I (LamX.ExtN.refl H) hT (fun b o _ e => e) (fun b e _ => e) (Nat.le_refl _))
  | none =>
    refine wpAny_genexprCodeX hcode (cd.code hP' ht) (cd.tab hP') hc fun c' h' tk hx hge hlt hco hrec htab _ => ?_
    obtain ⟨c2, oc, vs, t, e2, hoc, hd, hv⟩ := hrec
    cases e2
    have nC : H c' = none := I.hok.fresh hge
    have I1 := LamX.inv_table (t' := tk) (more := #[rawInt gpos.line, rawInt gpos.col, .ref c']) (h' := h') I hP (fun b o hb e => hx b o hb e) htab.2 hge ⟨oc, vs, t, hoc, hd, hv⟩
    have hE : LamX.ExtN H (upd (upd H P (.tbl (ps ++ #[rawInt gpos.line, rawInt gpos.col, .ref c']))) c' (LamX.CodeO c' (X.env.qual ++ "<genexpr>"))) := fun b o e n => by
      rw [upd_ne (ne_of_none e nC), upd_ne (fun z => n ps (Option.some.inj (e.symm.trans (by rw [z]; exact hP))))]
      exact e
    have eL : (ps ++ #[rawInt gpos.line, rawInt gpos.col, .ref c']).toList = ps.toList ++ [rawInt gpos.line, rawInt gpos.col, .ref c'] := by simp
    refine h (.ref c') _ _ I1 hE (fun p hp => ?_) (fun b o n e => hx b o (fun z => by rw [z, hP] at n; cases n) e) (fun b n hb => ?_) (Nat.le_trans hge (Nat.le_of_lt hlt))
    · by_cases hb : p.1 = P
      · rw [hu p hp hb, hb]
        refine ⟨_, by rw [upd_ne (ne_of_none hP nC), upd_same], by rw [eL]; exact PySem.TriplesOk_snoc _ _ _ _ ht, fun p' cv hcv => ?_⟩
        rw [eL] at hcv
        rcases LamX.among_app _ ht hcv with z | z
        · obtain ⟨c0, e1, e2⟩ := ha p' cv z
          exact ⟨c0, e1, hE _ _ e2 LamX.codeO_ne⟩
        · exact ⟨c', z, upd_same⟩
      · obtain ⟨ps', a1, a2, a3⟩ := hT p hp
        refine ⟨ps', by rw [upd_ne (ne_of_none a1 nC), upd_ne hb]; exact a1, a2, fun p' cv hcv => ?_⟩
        obtain ⟨c0, e1, e2⟩ := a3 p' cv hcv
        exact ⟨c0, e1, hE _ _ e2 LamX.codeO_ne⟩
    · rw [upd_ne (Nat.ne_of_lt (Nat.lt_of_lt_of_le hb hge)), upd_ne (fun z => by rw [z, hP] at n; cases n)]
      exact n
end
end AL
set_option Elab.async false
set_option linter.all false
set_option maxRecDepth 100000
set_option maxHeartbeats 4000000
/-! AL67: a generator expression's value; any, all, sum. -/
namespace AL
open PySem PySem.Spec PyProof.Rows L2 PySem.SeqAt
theorem anyG_ne {kk : Bool} {g : MG} {t : MT} {e : ME} {sl : Sl} : ∀ (n : Nat) (l : List D) (s : S), (anyG kk g t e sl n l s).isErr = false
  | 0, l, s => rfl
  | n + 1, l, s => by
    unfold anyG
    split
    · rfl
    · split
      · rfl
      · exact anyG_ne n _ _
    · rfl
theorem sumG_ne {g : MG} {t : MT} {e : ME} {sl : Sl} : ∀ (n : Nat) (a : Int) (l : List D) (s : S), (sumG g t e sl n a l s).isErr = false
  | 0, a, l, s => rfl
  | n + 1, a, l, s => by
    unfold sumG
    split
    · rfl
    · split
      · exact sumG_ne n _ _ _
      · rfl
    · rfl
theorem genC_ne {k : Str} {g : MG} {t : MT} {e : ME} {sl : Sl} (l : List D) (s : S) : (genC k g t e sl l s).isErr = false := by
  unfold genC
  split
  · exact sumG_ne _ _ _ _
  · exact anyG_ne _ _ _
section
variable {c : Cfg} {ca : Str → Addr} {T : List (Addr × Str)} {X : Cx} {W : WX} {sc gsc : Scope} {pins : List (Addr × Obj)} {σ : L2.St} {H : Hp} {s : Shared} {p : Ev}
theorem as_testsL {X : Cx} {W : WX} (ht : ∀ e, PT X e (tT (gx X ca T) W (p.lt sc e))) : ∀ ifs : List Expr, PTs X ifs (tT (gx X ca T) W (testsL p sc ifs))
  | [] => ⟨fun pins s σ H Q I ⟨sl, st, ρ, F, L, hs, hr, hp⟩ => pts_nil.run pins s σ H Q I (hp true H ρ F (.refl ρ F) hr rfl)⟩
  | [a] => pts_one (ht a)
  | _ :: _ :: _ => ⟨fun pins s σ H Q I ⟨sl, st, ρ, F, L, hs, hr, hp⟩ => hp.elim⟩
/-- what is known of the generator that has come -/
structure GMk (c : Cfg) (ca : Str → Addr) (T : List (Addr × Str)) (X : Cx) (p : Ev) (gsc : Scope) (pins : List (Addr × Obj)) (σ : L2.St) (sl : Sl) (tg elt : Expr) (ifs : List Expr) (L0 : Hp) (ρ : List Addr) (F : Hp) (Q : VK) (k : Str)
    (a : Addr) (gn : Nat) (go : Obj) (sF : Shared) (HF : Hp) (fp : List Addr) (code : Value) (tn : Nat → Heap → Prop) (ls : List D × S) (s1 : S) (ρ1 : List Addr) (F1 L1 : Hp) (U : Hp → Hp) (s5 : Shared) (g0 : GenState) : Prop where
  gi : GInv ca T X X.A.in1.in1 sF HF fp gsc code [(a, go)] (wipe σ (ownN c.N gsc)) L1 ρ1 F1 tn ls.1 ls.2.lk [] ls.1 ls.2 ρ1 F1 HF s5
  gs : s5.gens[gn]? = some g0
  gof : ∀ Sx : Option Addr, (∀ x, Sx = some x → x ∉ fp) → GSt ca T X X.A.in1.in1 sF HF fp gsc code [(a, go)] (wipe σ (ownN c.N gsc)) L1 ρ1 F1 tn ls.1 ls.2.lk (gC c.N gsc 4 tg) (testsL p gsc ifs) (p.l gsc elt) (wipeS sl (ownN c.N gsc)) ls.2 Sx 0 g0
  isg : ∀ h : Heap, h.get? a = some go → h.IsGen a gn
  back : ∀ (σ' : L2.St) (H' : Hp) (s' : Shared) (pins2 : List (Addr × Obj)), Inv (genCx X X.A.in1.in1 sF HF fp gsc code [(a, go)]) pins2 σ' H' s' → Inv X pins σ H' s'
  un : Unl X (gx X ca T) L0 L1 ρ1 F1 s1 ls.2 U
  le : Le ρ F ρ1 F1
  kp : ∀ (i : Nat) (h h' : Heap), tn i h → (∀ b ∈ fp, ∀ o, h.get? b = some o → h'.get? b = some o) → tn i h'
  tob : ∀ b ∈ fp, b < s5.heap.objs.size
  asz : a < s5.heap.objs.size
  szF : sF.heap.objs.size < s5.heap.objs.size
  po : Post (fun d s4 => s4.lk = ls.2.lk ∧ PV (gx X ca T) L0 ρ F (rpD (gx X ca T)) Q (.ok d { s4 with lk := s1.lk })) (genC k (gC c.N gsc 4 tg) (testsL p gsc ifs) (p.l gsc elt) (wipeS sl (ownN c.N gsc)) ls.1 ls.2)
theorem ixN_is {N : List Str} {x : Str} {j : Nat} (nd : N.Nodup) (h : N[j]? = some x) : ixN N x = some j := by
  unfold ixN
  rw [List.findIdx?_eq_some_iff_getElem]
  obtain ⟨h1, h2⟩ := List.getElem?_eq_some_iff.mp h
  refine ⟨h1, by rw [h2]; simp, fun i hi => ?_⟩
  simp only [decide_eq_true_eq]
  intro e
  have := (List.getElem_inj nd).mp (e.trans h2.symm)
  omega
theorem gen_cm (L : GenS1 X.env.scope gsc) (ok : X.Ok) {y : Str} {q : Addr} (e : (cloFrom X.env.cells gsc.names []).lookup y = some q) : X.env.cells.lookup y = some q := by
  rcases cloFrom_mem (PySem.mem_of_lookup e) with hm | ⟨g1, g2⟩
  · cases hm
  · obtain ⟨c1, hc⟩ := gen_has L ok _ g1 rfl
    have hc : X.env.cells.lookup y = some c1 := hc
    have : q = c1 := by
      rw [g2, hc]
      rfl
    rw [this]
    exact hc
theorem gen_val (h : Sd c ca T X W sc) (hic : c.isC ("range" : Str) = false) (hE : EvOk c ca T p X.prog X.w X.K) (hl : c.lam = 1) (ht : c.tb = 2) (hgs : genSB sc gsc = true) {elt tg iter : Expr} {ifs : List Expr} {gpos : Pos} {k : Str} (hdi : dispB iter = false)
    {sl : Sl} {st : S} {ρ : List Addr} {F L0 : Hp} {Q : VK} {Q2 : Value → Shared → Prop} (I : Inv X pins σ H s) (hs : SlR (gx X ca T) ρ F sl σ) (hr : Rel (gx X ca T) L0 H st ρ F) (hp : PB (gx X ca T) L0 ρ F W σ (rpD (gx X ca T)) Q (genM c p sc k elt tg iter ifs gsc sl st))
    (hQ : ∀ (a : Addr) (gn : Nat) (go : Obj) (sF : Shared) (HF : Hp) (fp : List Addr) (code : Value) (tn : Nat → Heap → Prop) (ls : List D × S) (s1 : S) (ρ1 : List Addr) (F1 L1 : Hp) (U : Hp → Hp) (s5 : Shared) (g0 : GenState), GMk c ca T X p gsc pins σ sl tg elt ifs L0 ρ F Q k a gn go sF HF fp code tn ls s1 ρ1 F1 L1 U s5 g0 → Q2 (.ref a) s5) :
    wpAny (model X.prog X.w) X.A (eval (.GeneratorExp elt [⟨tg, iter, ifs, 0⟩] gsc gpos) X.env) Q2 X.xe s := by
  have he := (hE.ok X W sc rfl rfl rfl h).1
  obtain ⟨cA, P, TB, hcode, hmT, hu⟩ := h.tab2 (by omega) ht
  have L : GenS1 X.env.scope gsc := by
    rw [h.scp]
    exact genS_by hgs
  have q0 : tI X (gx X ca T) W (itM c.own sc (p.e sc) (tupB tg) iter) σ H (fun J H' => ∃ (ls : List D × S) (s1 : S) (ρ1 : List Addr) (F1 L1 : Hp) (U : Hp → Hp), Le ρ F ρ1 F1 ∧ Rel (gx X ca T) L1 H' ls.2 ρ1 F1 ∧ Wk (gx X ca T) L1 ρ1 F1 ls.1 J ∧ Unl X (gx X ca T) L0 L1 ρ1 F1 s1 ls.2 U ∧
      Post (fun d s4 => s4.lk = ls.2.lk ∧ PV (gx X ca T) L0 ρ F (rpD (gx X ca T)) Q (.ok d { s4 with lk := s1.lk })) (genC k (gC c.N gsc 4 tg) (testsL p gsc ifs) (p.l gsc elt) (wipeS sl (ownN c.N gsc)) ls.1 ls.2)) := by
    refine ⟨sl, st, ρ, F, L0, hs, hr, ?_⟩
    unfold genM at hp
    cases e : itM c.own sc (p.e sc) (tupB tg) iter sl st with
    | err y s1 =>
      rw [e] at hp
      exact hp
    | bad =>
      rw [e] at hp
      exact hp
    | ok ls s1 =>
      rw [e] at hp
      have hp : PB (gx X ca T) L0 ρ F W σ (rpD (gx X ca T)) Q (unlk s1 ls.2 (genC k (gC c.N gsc 4 tg) (testsL p gsc ifs) (p.l gsc elt) (wipeS sl (ownN c.N gsc)) ls.1 ls.2)) := hp
      intro J H1 ρ1 F1 L1 U l1 r1 wk un _
      refine ⟨ls, s1, ρ1, F1, L1, U, l1, r1, wk, un, ?_⟩
      have ne := genC_ne (k := k) (g := gC c.N gsc 4 tg) (t := testsL p gsc ifs) (e := p.l gsc elt) (sl := wipeS sl (ownN c.N gsc)) ls.1 ls.2
      cases eg : genC k (gC c.N gsc 4 tg) (testsL p gsc ifs) (p.l gsc elt) (wipeS sl (ownN c.N gsc)) ls.1 ls.2 with
      | err _ _ => rw [eg] at ne; cases ne
      | bad => rw [eg] at hp; exact hp.elim
      | ok d s4 =>
        rw [eg] at hp
        have hp : PB (gx X ca T) L0 ρ F W σ (rpD (gx X ca T)) Q (if s4.lk = ls.2.lk then .ok d { s4 with lk := s1.lk } else .bad) := hp
        by_cases hlk : s4.lk = ls.2.lk
        · rw [if_pos hlk] at hp
          exact ⟨hlk, hp⟩
        · rw [if_neg hlk] at hp
          exact hp.elim
  have hPI := ai_it (tg := tg) h hic he iter
  refine wpAny_GeneratorExp_make L.co (closure_ok (gen_has L I.ok)) L.cell L.dot L.kind h.room.depth ?_ (fun v => by cases iter <;> first | rfl | cases hdi)
  refine wpAny_mono (hPI.run pins s σ H _ I q0) (fun xv s1' h1 => wpAny_mono h1 (fun itv s2 h2 => ?_) fun _ _ e => e) fun _ _ e => e
  obtain ⟨it, fp, tn, J, H1, eit, I1, T1, tn0, fpk, ls, s1, ρ1, F1, L1, U, l1, r1, wk, un, po⟩ := h2
  subst eit
  refine ⟨I1.nolimit, ?_⟩
  refine gen_code I1 TB hcode hmT hu r1.tabsH fun cv H2 s3 I2 eN T2 kp2 kn2 hsz => ?_
  have r2 := r1.extN eN T2
  have obj3 : ∀ b ∈ fp, ∀ o, s2.heap.get? b = some o → s3.heap.get? b = some o := fun b hb o e => kp2 b o (fpk b hb).1 e
  have tn3 : tn 0 s3.heap := T1.keep _ _ _ tn0 obj3
  have hlt : ∀ b ∈ fp, b < s3.heap.objs.size := fun b hb => by
    obtain ⟨o, ho, _⟩ := T1.obj _ _ tn3 b hb
    exact Heap.lt_size ho
  have fpk3 : ∀ b ∈ fp, FpOk X pins H2 b := fun b hb => by
    obtain ⟨g1, g2⟩ := fpk b hb
    obtain ⟨o, ho, _⟩ := T1.obj _ _ tn0 b hb
    exact ⟨kn2 b g1 (Heap.lt_size ho), g2⟩
  obtain ⟨bm, ob, e1, e2, e3, e4, e5, e6, e7, e8⟩ := TB.bm
  refine wpAny_builtinsFor (m := X.mg) (by rw [I2.ok.glob]; exact I2.mod.glob.keeps I2.bk) e1 e2 (I2.bk _ _ e5) e6 e7 e8 ?_
  intro h' hns hsb
  have hsz' : h'.objs.size = s3.heap.objs.size + 1 := by rw [hsb.1, Heap.size_push]
  generalize hgo : ({ cls := .type "generator", data := .fields #[.int s3.gens.size 0, .str "<genexpr>" (s3.toks + 1), .str (X.env.qual ++ "<genexpr>") (s3.toks + 1 + 1)] } : Obj) = go
  have kp5 : ∀ b o, s3.heap.get? b = some o → (h'.push go).get? b = some o := fun b o e => Heap.get?_push_of_some _ (hsb.extBut b o (Nat.ne_of_lt (Heap.lt_size e)) (Heap.get?_push_of_some _ e))
  have hpush : (h'.push go).get? h'.objs.size = some go := Heap.get?_push_size _ (by rw [← hgo]; rfl)
  have hgd : ∀ v, go.data ≠ .cell v := fun v z => by
    rw [← hgo] at z
    cases z
  have hbare : AllBare (s3.gens.push (.fresh (.compStart (.GeneratorExp elt [⟨tg, iter, ifs, 0⟩] gsc gpos) 0 (.ref it) .none (gEnv X gsc s3.heap.objs.size cv)))) := AllBare.push I2.bare rfl
  have hown : ∀ y j, gsc.names.lookup y = some .local → X.N[j]? = some y → j ∈ ownN c.N gsc := fun y j hy hj => by
    refine ixN_own hy (.inl rfl) ?_
    rw [h.N] at hj
    have hnd := h.nd
    rw [h.N] at hnd
    exact ixN_is hnd hj
  have J5 := gen_start (X := X) (A := X.A.in1.in1) (fp := fp) (code := cv) (vs := ownN c.N gsc) (h₁ := h'.push go) (tk := s3.toks + 1 + 1 + 1) (pn := [(h'.objs.size, go)]) I2 L rfl h.room.hd fpk3 hlt hbare (hns.push _) kp5 hown (fun q hq => by
    rw [List.mem_singleton.mp hq]
    exact ⟨hpush, by omega, hgd⟩)
  have isg : ∀ h : Heap, h.get? h'.objs.size = some go → h.IsGen h'.objs.size s3.gens.size := fun h e => ⟨go, _, _, e, by rw [← hgo], by rw [← hgo], by rw [← hgo]⟩
  have hG := hE.lam (genCx X X.A.in1.in1 s3 H2 fp gsc cv [(h'.objs.size, go)]) noW gsc (by omega) rfl rfl rfl (h.inGen hl s3 H2 fp cv [(h'.objs.size, go)])
  have hw := wipe_rel (hs.mono l1) (ownN c.N gsc)
  refine hQ h'.objs.size s3.gens.size go s3 H2 fp cv tn ls s1 ρ1 F1 L1 U _ (.fresh (.compStart (.GeneratorExp elt [⟨tg, iter, ifs, 0⟩] gsc gpos) 0 (.ref it) .none (gEnv X gsc s3.heap.objs.size cv))) ⟨⟨J5, ⟨0, rfl, Nat.zero_le _, T1.keep _ _ _ tn3 fun b hb o e => kp5 b o e⟩, fun b hb => (fpk3 b hb).1, r2, .refl _ _, rfl⟩, Array.getElem?_push_size .., fun Sx hSx => ?_, isg, fun σ' H' s' pins2 J => gen_back I2 fpk3 J, un, l1, T1.keep, fun b hb => ?_, ?_, ?_, po⟩
  · refine gfresh (vs := ownN c.N gsc) T1 wk hw wipe_wipe ⟨fun b hb => Nat.ne_of_lt (hlt b hb), fun b hb z => ?_, fun b hb y q e => (fpk3 b hb).2.2.2.2.1 y q (gen_cm L I2.ok e), fun b hb q hq z => ?_, fun x hx => hSx x hx⟩ L.co (gw_gen h (genS_by hgs) 4 tg) (as_testsL hG.2 ifs) (hG.1 elt)
    · rcases List.mem_cons.mp (I2.stkSub b z) with e | e
      · exact (fpk3 b hb).2.1 e
      · exact (fpk3 b hb).2.2.1 e
    · rw [List.mem_singleton.mp hq] at z
      have z : h'.objs.size = b := z
      have hb' := hlt b hb
      rw [← z, hsz'] at hb'
      exact Nat.lt_irrefl _ (Nat.lt_trans (Nat.lt_succ_self _) hb')
  · show b < (h'.push go).objs.size
    rw [Heap.size_push, hsz']
    exact Nat.lt_succ_of_lt (Nat.lt_succ_of_lt (hlt b hb))
  · show h'.objs.size < (h'.push go).objs.size
    rw [Heap.size_push]
    omega
  · show s3.heap.objs.size < (h'.push go).objs.size
    rw [Heap.size_push]
    omega
end
end AL
set_option Elab.async false
set_option linter.all false
set_option maxRecDepth 100000
set_option maxHeartbeats 4000000
/-! AL68: any, all, sum of a generator expression, as calls. -/
namespace AL
open PySem PySem.Spec PyProof.Rows L2 PySem.SeqAt
section
variable {c : Cfg} {ca : Str → Addr} {T : List (Addr × Str)} {X : Cx} {W : WX} {sc gsc : Scope} {pins : List (Addr × Obj)} {σ : L2.St} {H : Hp} {s : Shared} {p : Ev}
section
variable {sl : Sl} {tg elt : Expr} {ifs : List Expr} {L0 : Hp} {ρ : List Addr} {F : Hp} {Q : VK} {k : Str} {a : Addr} {gn : Nat} {go : Obj} {sF : Shared} {HF : Hp} {fp : List Addr} {code : Value} {tn : Nat → Heap → Prop} {ls : List D × S} {s1 : S} {ρ1 : List Addr} {F1 L1 : Hp} {U : Hp → Hp} {s5 : Shared} {g0 : GenState}
/-- the end -/
theorem GMk.fin (G : GMk c ca T X p gsc pins σ sl tg elt ifs L0 ρ F Q k a gn go sF HF fp code tn ls s1 ρ1 F1 L1 U s5 g0) {d : D} {vv : V} {u : Value} {st : S} {ρ' : List Addr} {F' H' : Hp} {s' : Shared} {σ' : L2.St} {pins2 : List (Addr × Obj)}
    (hp : st.lk = ls.2.lk ∧ PV (gx X ca T) L0 ρ F (rpD (gx X ca T)) Q (.ok d { st with lk := s1.lk })) (J : Inv (genCx X X.A.in1.in1 sF HF fp gsc code [(a, go)]) pins2 σ' H' s') (r : Rel (gx X ca T) L1 H' st ρ' F') (l : Le ρ1 F1 ρ' F') (rd : RepD ca X.K ρ' F' d vv) (rv : L2.RelV vv u) : RRm X pins σ Q (.ok (.ret u)) s' :=
  ⟨vv, H', G.back _ _ _ _ J, rv, G.un.un r (P := Q vv) (hp.2 vv (U H') ρ' F' (G.le.trans l) (G.un.back H' st ρ' F' l r hp.1) rd)⟩
theorem GMk.fin0 (G : GMk c ca T X p gsc pins σ sl tg elt ifs L0 ρ F Q k a gn go sF HF fp code tn ls s1 ρ1 F1 L1 U s5 g0) : RFin ca T X X.A.in1.in1 sF HF fp gsc code [(a, go)] (wipe σ (ownN c.N gsc)) L1 ρ1 F1 ls.2.lk (fun d s4 => s4.lk = ls.2.lk ∧ PV (gx X ca T) L0 ρ F (rpD (gx X ca T)) Q (.ok d { s4 with lk := s1.lk })) (RRm X pins σ Q) :=
  fun _ _ _ _ _ _ _ _ hp J r l _ rd rv => G.fin hp J r l rd rv
theorem rrm_ep {r : Result} {s' : Shared} : RRm X pins σ Q r s' → (match r with
    | .ok (.ret v) => EP X pins σ Q v s'
    | .ok _ => False
    | .error e => X.xe e s') := by
  intro h
  cases r with
  | error e => exact h
  | ok fl =>
    cases fl with
    | ret w =>
      obtain ⟨v', H', J', rv', q'⟩ := (show EP X pins σ (fun v => UnO X (Q v)) w s' from h)
      obtain ⟨H5, J5, q5⟩ := q'.inv J'
      exact ⟨v', H5, J5, rv', q5⟩
    | next => exact h
    | brk => exact h
    | cont => exact h
theorem call_anyG (hr : X.A.depth + 1 < recursionLimit) (hh : X.A.handled = none) (G : GMk c ca T X p gsc pins σ sl tg elt ifs L0 ρ F Q ("any" : Str) a gn go sF HF fp code tn ls s1 ρ1 F1 L1 U s5 g0) : wpAny (model X.prog X.w) X.A (call (.builtin "any") [.ref a]) (EP X pins σ Q) X.xe s5 := by
  refine call_function_tree PySem.F.kind_any PySem.F.plain_any PySem.F.entry_any (PySem.F.args_any1 _) ?_
  unfold Builtin.«any»
  refine wpAny_bind (m := oneArg "any" _) (wpAny_pure (wpAny_bind (wpAny_pyIter_gen (G.isg _ (G.gi.inv.pin (a, go) (List.mem_append_left _ (List.mem_singleton.mpr rfl))).1) (wpAny_pure ⟨plainId_quiet PySem.F.plain_any_loop _, ?_⟩))))
  have po := G.po
  unfold genC at po
  rw [if_neg (by decide)] at po
  exact codeAny_mono (any_turns hh hr G.isg G.fin0 (ls.1.length + 1) 0 ls.1 ls.2 ρ1 F1 HF s5 g0 G.gi G.gs (G.gof none fun _ z => by cases z) rfl po) fun r s' hq => rrm_ep hq
theorem call_allG (hr : X.A.depth + 1 < recursionLimit) (hh : X.A.handled = none) (G : GMk c ca T X p gsc pins σ sl tg elt ifs L0 ρ F Q ("all" : Str) a gn go sF HF fp code tn ls s1 ρ1 F1 L1 U s5 g0) : wpAny (model X.prog X.w) X.A (call (.builtin "all") [.ref a]) (EP X pins σ Q) X.xe s5 := by
  refine call_function_tree PySem.F.kind_all PySem.F.plain_all PySem.F.entry_all (PySem.F.args_all1 _) ?_
  unfold Builtin.«all»
  refine wpAny_bind (m := oneArg "all" _) (wpAny_pure (wpAny_bind (wpAny_pyIter_gen (G.isg _ (G.gi.inv.pin (a, go) (List.mem_append_left _ (List.mem_singleton.mpr rfl))).1) (wpAny_pure ⟨plainId_quiet PySem.F.plain_all_loop _, ?_⟩))))
  have po := G.po
  unfold genC at po
  rw [if_neg (by decide)] at po
  exact codeAny_mono (all_turns hh hr G.isg G.fin0 (ls.1.length + 1) 0 ls.1 ls.2 ρ1 F1 HF s5 g0 G.gi G.gs (G.gof none fun _ z => by cases z) rfl po) fun r s' hq => rrm_ep hq
theorem call_sumG (hr : X.A.depth + 1 < recursionLimit) (hh : X.A.handled = none) (G : GMk c ca T X p gsc pins σ sl tg elt ifs L0 ρ F Q ("sum" : Str) a gn go sF HF fp code tn ls s1 ρ1 F1 L1 U s5 g0) : wpAny (model X.prog X.w) X.A (call (.builtin "sum") [.ref a]) (EP X pins σ Q) X.xe s5 := by
  refine call_function_tree PySem.F.kind_sum PySem.F.plain_sum PySem.F.entry_sum (PySem.F.args_sum1 _) ?_
  unfold Builtin.«sum»
  simp only [List.length_cons, List.length_nil]; rw [if_neg (by decide)]
  refine wpAny_bind (wpAny_of_eq (show Builtin.Builtins.bindParams "sum" ["start"] 0 { } = pure [none] from rfl) (wpAny_bind (wpAny_pyIter_gen (G.isg _ (G.gi.inv.pin (a, go) (List.mem_append_left _ (List.mem_singleton.mpr rfl))).1) (wpAny_bind (wpAny_mkInt (wpAny_bind (wpAny_pure ?_)))))))
  simp only [List.forIn_cons, List.forIn_nil]
  refine wpAny_bind (wpAny_bind (wpAny_bind (wpAny_isInstance (T := "int") (b := false) (typeIs_int _ _ _) PySem.sub_int_str ?_))); simp only [Bool.false_eq_true, if_false]
  refine wpAny_pure (wpAny_bind (wpAny_bind (wpAny_isInstance (T := "int") (b := false) (typeIs_int _ _ _) PySem.sub_int_bytes ?_))); simp only [Bool.false_eq_true, if_false]
  refine wpAny_pure (wpAny_bind (wpAny_bind (wpAny_isInstance (T := "int") (b := false) (typeIs_int _ _ _) PySem.sub_int_bytearray ?_))); simp only [Bool.false_eq_true, if_false]
  refine wpAny_pure (wpAny_pure (wpAny_bind (wpAny_newObj_type ?_)))
  have po := G.po
  unfold genC at po
  rw [if_pos rfl] at po
  have hsf : s5.heap.objs.size ∉ fp := fun hm => Nat.lt_irrefl _ (G.tob _ hm)
  have kpS : ∀ b o, s5.heap.get? b = some o → (s5.heap.push (totO 0 s5.toks 0)).get? b = some o := fun b o e => Heap.get?_push_of_some _ e
  have hnS : HF s5.heap.objs.size = none := G.gi.inv.hok.fresh (Nat.le_refl _)
  have fS := G.gi.inv.fpOk (Nat.le_refl _) hnS
  have I4 : Inv (genCx X X.A.in1.in1 sF HF fp gsc code [(a, go)]) (pinS (some s5.heap.objs.size) (totO 0 s5.toks 0)) (wipe σ (ownN c.N gsc)) HF { s5 with heap := s5.heap.push (totO 0 s5.toks 0), toks := s5.toks + 1 } := (G.gi.inv.kept (t' := s5.toks + 1) kpS).pins_of fun q hq => by
    rw [List.mem_singleton.mp hq]
    exact ⟨Heap.get?_push_size _ rfl, hnS, fS.2.1, fS.2.2.1, fun v z => by cases z⟩
  obtain ⟨ix, x1, x2, x3⟩ := G.gi.idx
  refine wpAny_pure ⟨plainId_quiet PySem.F.plain_sum_loop _, codeAny_mono (sum_turns (R := RRm X pins σ Q) (s0 := ls.2) hh hr G.isg fS.2 hsf G.kp (fun i tA o st ρ' F' H' s' hp J r l _ => G.fin (d := .int i) (vv := .int i) hp J r l rfl ⟨tA, rfl⟩) (ls.1.length + 1) 0 0 s5.toks 0 ls.1 ls.2 ρ1 F1 HF _ g0 ⟨I4, ⟨ix, x1, x2, G.kp _ _ _ x3 fun b _ o e => kpS b o e⟩, G.gi.fpn, G.gi.rel, G.gi.le, G.gi.lk⟩ G.gs (G.gof (some s5.heap.objs.size) fun x z => by cases z; exact hsf) rfl po) fun r s' hq => rrm_ep hq⟩
end
theorem ae_gen (h : Sd c ca T X W sc) (hic : c.isC ("range" : Str) = false) (hE : EvOk c ca T p X.prog X.w X.K) {f : Str} {pf gpos pos : Pos} {elt tg iter : Expr} {ifs : List Expr} (hg : glN sc f = true) (ho : c.own f = false) (hi : c.isC f = false) (hf : f = ("any" : Str) ∨ f = ("all" : Str) ∨ f = ("sum" : Str)) (hl : c.lam = 1) (ht : c.tb = 2) (hgs : genSB sc gsc = true) (hdi : dispB iter = false) :
    PE X (.Call (.Name f pf) [.GeneratorExp elt [⟨tg, iter, ifs, 0⟩] gsc gpos] [] pos) (tE (gx X ca T) W (genM c p sc f elt tg iter ifs gsc)) := by
  refine ⟨fun pins s σ H Q I ⟨sl, st, ρ, F, L0, hs, hr, hp⟩ => ?_⟩
  obtain ⟨hgl, hdb⟩ := glN_ok h hg
  have hd : X.A.depth + 1 < recursionLimit := by
    have := h.room.dp
    omega
  have hm : X.mg f = none := h.blt f (by rcases hf with e | e | e <;> subst e <;> decide +kernel) ho hi
  rcases hf with e | e | e <;> subst e
  · refine wpAny_Call_Name_kw (ld_blt (u := .builtin "any") I hgl hm (by decide +kernel) ?_ (by decide) hdb)
    refine PyProof.Rows.callWith_builtin1 ?_ (show starEach [.GeneratorExp elt [⟨tg, iter, ifs, 0⟩] gsc gpos] X.env = (false, eval (.GeneratorExp elt [⟨tg, iter, ifs, 0⟩] gsc gpos) X.env) :: starEach [] X.env from rfl) (by rfl)
    show wpAny _ _ (spliced ((false, eval (.GeneratorExp elt [⟨tg, iter, ifs, 0⟩] gsc gpos) X.env) :: backTo pos (starEach [] X.env))) _ _ s
    exact Calls.spliced_cons (gen_val h hic hE hl ht hgs hdi I hs hr hp fun a gn go sF HF fp code tn ls s1 ρ1 F1 L1 U s5 g0 G => Calls.spliced_nil (call_anyG hd h.room.hd G))
  · refine wpAny_Call_Name_kw (ld_blt (u := .builtin "all") I hgl hm (by decide +kernel) ?_ (by decide) hdb)
    refine PyProof.Rows.callWith_builtin1 ?_ (show starEach [.GeneratorExp elt [⟨tg, iter, ifs, 0⟩] gsc gpos] X.env = (false, eval (.GeneratorExp elt [⟨tg, iter, ifs, 0⟩] gsc gpos) X.env) :: starEach [] X.env from rfl) (by rfl)
    show wpAny _ _ (spliced ((false, eval (.GeneratorExp elt [⟨tg, iter, ifs, 0⟩] gsc gpos) X.env) :: backTo pos (starEach [] X.env))) _ _ s
    exact Calls.spliced_cons (gen_val h hic hE hl ht hgs hdi I hs hr hp fun a gn go sF HF fp code tn ls s1 ρ1 F1 L1 U s5 g0 G => Calls.spliced_nil (call_allG hd h.room.hd G))
  · refine wpAny_Call_Name_kw (ld_blt (u := .builtin "sum") I hgl hm (by decide +kernel) ?_ (by decide) hdb)
    refine PyProof.Rows.callWith_builtin1 ?_ (show starEach [.GeneratorExp elt [⟨tg, iter, ifs, 0⟩] gsc gpos] X.env = (false, eval (.GeneratorExp elt [⟨tg, iter, ifs, 0⟩] gsc gpos) X.env) :: starEach [] X.env from rfl) (by rfl)
    show wpAny _ _ (spliced ((false, eval (.GeneratorExp elt [⟨tg, iter, ifs, 0⟩] gsc gpos) X.env) :: backTo pos (starEach [] X.env))) _ _ s
    exact Calls.spliced_cons (gen_val h hic hE hl ht hgs hdi I hs hr hp fun a gn go sF HF fp code tn ls s1 ρ1 F1 L1 U s5 g0 G => Calls.spliced_nil (call_sumG hd h.room.hd G))
/-- generators as arguments -/
theorem ae_genc (h : Sd c ca T X W sc) (hic : c.isC ("range" : Str) = false) (hE : EvOk c ca T p X.prog X.w X.K) (f : Str) (pf : Pos) (elt : Expr) (gs : List Comprehension) (gsc : Scope) (gp pos : Pos) : PE X (.Call (.Name f pf) [.GeneratorExp elt gs gsc gp] [] pos) (tE (gx X ca T) W (stepE c p sc (.Call (.Name f pf) [.GeneratorExp elt gs gsc gp] [] pos))) := by
  show PE X _ (tE (gx X ca T) W (call1 c p sc f pos (.GeneratorExp elt gs gsc gp)))
  unfold call1
  split
  · rename_i heq
    cases heq
  · rename_i heq
    cases heq
  · rename_i elt' tg iter ifs gsc' gp' heq
    cases heq
    split
    · rename_i hc
      obtain ⟨c1, c2, c3, c4, c5, c6⟩ := hc
      simp only [Bool.and_eq_true, Bool.not_eq_true'] at c1
      exact ae_gen h hic hE c1.1.1 c1.1.2 c1.2 c2 c3 c4 c5 c6
    · exact ae_bad
  · exact ae_bad
  · rename_i n1 n2 n3
    exact absurd rfl (n3 _ _ _ _)
end
end AL
set_option Elab.async false
set_option linter.all false
set_option maxRecDepth 100000
set_option maxHeartbeats 4000000
/-! AL69: list(range(..)). -/
namespace AL
open PySem PySem.Spec PyProof.Rows L2
theorem rngSize {a b c : Int} (hc : 0 < c) : Builtin.Range.rangeSize a b c = ((if a < b then ((b - a - 1) / c + 1).toNat else 0 : Nat) : Int) := by
  unfold Builtin.Range.rangeSize
  rw [if_pos hc]
  split
  · rename_i h
    have : 0 ≤ (b - a - 1) / c := Int.ediv_nonneg (by omega) (by omega)
    omega
  · rfl
theorem rngSmall {a b c : Int} (hc : 0 < c) (hc2 : c < 1073741824) (ha : -(2 ^ 62) ≤ a) (ha' : a < 2 ^ 62) (hb : -(2 ^ 62) ≤ b) (hb' : b < 2 ^ 62) : Builtin.Range.small a b c = true := by
  unfold Builtin.Range.small
  unfold Builtin.Range.rangeSize
  simp only [Builtin.Range.rangeFitsLong, Bool.and_eq_true, Bool.or_eq_true, decide_eq_true_eq, beq_iff_eq, if_pos hc]
  split
  · have h1 : 0 ≤ (b - a - 1) / c := Int.ediv_nonneg (by omega) (by omega)
    have h2 : (b - a - 1) / c ≤ b - a - 1 := Int.ediv_le_self _ (by omega)
    omega
  · omega
theorem rngLen {a b c : Int} (hc : 0 < c) (h : b - a < 16777216) : (if a < b then ((b - a - 1) / c + 1).toNat else 0) ≤ 2 ^ 24 := by
  split
  · rename_i hl
    have : (b - a - 1) / c ≤ b - a - 1 := Int.ediv_le_self _ (by omega)
    omega
  · omega
section
variable {ca : Str → Addr} {T : List (Addr × Str)} {X : Cx} {W : WX}
theorem repL_steps {ρ : List Addr} {F : Hp} {lo c : Int} : ∀ (n : Nat) (k : Nat), RepL ca X.K ρ F ((List.range' k n).map fun (i : Nat) => .int (lo + (i : Int) * c)) ((List.range' k n).map fun (i : Nat) => V.int (lo + (i : Int) * c))
  | 0, k => rfl
  | n + 1, k => by
    rw [List.range'_succ, List.map_cons, List.map_cons]
    exact ⟨_, _, rfl, rfl, repL_steps n (k + 1)⟩
theorem vals_steps {lo c : Int} {n : Nat} {acc : Array Value} (h : ItemsOf (fun i v => ∃ t, v = .int (lo + i * c) t) acc n) : Vals ((List.range n).map fun (i : Nat) => V.int (lo + (i : Int) * c)) acc.toList := by
  have e : acc.toList.length = n := by rw [Array.length_toList]; exact h.1
  rw [← e]
  refine vals_of_get acc.toList _ fun j u hj => ?_
  obtain ⟨t, rfl⟩ := h.2 j u (by rw [← hj, Array.getElem?_toList])
  exact ⟨t, rfl⟩
end
section
variable {c : Cfg} {ca : Str → Addr} {T : List (Addr × Str)} {X : Cx} {W : WX} {sc : Scope} {p : Ev}
theorem rangeX_of {ds : List D} {l : List D} (h : rangeX ds = some l) : ∃ a b k, rngC a b k = some l ∧ (ds = [.int b] ∧ a = 0 ∧ k = 1 ∨ ds = [.int a, .int b] ∧ k = 1 ∨ ds = [.int a, .int b, .int k]) := by
  unfold rangeX at h
  split at h
  · exact ⟨_, _, _, h, .inl ⟨rfl, rfl, rfl⟩⟩
  · exact ⟨_, _, _, h, .inr (.inl ⟨rfl, rfl⟩)⟩
  · exact ⟨_, _, _, h, .inr (.inr rfl)⟩
  · cases h
theorem ae_lrg (h : Sd c ca T X W sc) (he : ∀ e, PE X e (tE (gx X ca T) W (p.e sc e))) {pf pos : Pos} {a : Expr} (hg : glN sc ("list" : Str) = true) (ho : c.own "list" = false) (hi : c.isC "list" = false) (hr : rngB c sc a = true) :
    PE X (.Call (.Name "list" pf) [a] [] pos) (tE (gx X ca T) W (lrgM c p sc a pos)) := by
  unfold rngB at hr
  split at hr
  rotate_left
  · cases hr
  rename_i g gp e1 es rpos
  simp only [Bool.and_eq_true, Bool.not_eq_true', decide_eq_true_eq] at hr
  obtain ⟨⟨⟨⟨⟨r1, r2⟩, r3⟩, r4⟩, r5⟩, r6⟩ := hr
  subst r1
  have hgl : Gl X "range" := (glN_ok h (x := "range") r2).1
  have hm : X.mg "range" = none := h.blt _ (by simp [bltN]) r3 r4
  have hgl2 : Gl X "list" := (glN_ok h (x := "list") hg).1
  have hm2 : X.mg "list" = none := h.blt _ (by simp [bltN]) ho hi
  have hn : (e1 :: es).any starB = false := by rw [List.any_cons, r5, r6]; rfl
  refine ⟨fun pins s σ H Q I ⟨sl, st, ρ, F, L, hs, hrl, hp⟩ => ?_⟩
  refine Call_ (ld_blt I hgl2 hm2 boot_list (PyProof.Rows.callWith_type1 (args_cons ?_ rfl) rfl))
  have hp : PB (gx X ca T) L ρ F W σ (rpD (gx X ca T)) Q ((many (p.e sc) (e1 :: es) sl st).bind fun ds s1 => (match rangeX ds with
    | some l => made c pos (.lst l) s1
    | none => .bad)) := hp
  have q0 : tA (gx X ca T) W (many (p.e sc) (e1 :: es)) σ H (fun vs H1 => ∃ ds ρ1 F1 st1 l, RepL ca X.K ρ1 F1 ds vs ∧ Le ρ F ρ1 F1 ∧ Rel (gx X ca T) L H1 st1 ρ1 F1 ∧ rangeX ds = some l ∧ PV (gx X ca T) L ρ F (rpD (gx X ca T)) Q (made c pos (.lst l) st1)) := by
    refine ⟨sl, st, ρ, F, L, hs, hrl, ?_⟩
    cases e : many (p.e sc) (e1 :: es) sl st with
    | err x s1 => rw [e] at hp; exact hp
    | bad => rw [e] at hp; exact hp
    | ok ds s1 =>
      rw [e] at hp
      intro vs H1 ρ1 F1 l1 r1 hv
      have hp : PB (gx X ca T) L ρ F W σ (rpD (gx X ca T)) Q (match rangeX ds with
        | some l => made c pos (.lst l) s1
        | none => .bad) := hp
      cases hx : rangeX ds with
      | none => rw [hx] at hp; exact hp.elim
      | some l =>
        rw [hx] at hp
        exact ⟨ds, ρ1, F1, s1, l, hv, l1, r1, hx, PB.pv hp made_ne⟩
  refine Call_ (ld_blt I hgl hm boot_range (PyProof.Rows.callWith_type1 (thn ((aa_many (ca := ca) (T := T) (W := W) he hn).run rpos pins s σ H _ I q0) fun us s1 ⟨vs, H1, I1, rv, ds, ρ1, F1, st1, l, hd, l1, r1, hx, q⟩ => ?_) (star_ok r5) (noStar_each r6).1))
  obtain ⟨a, b, k, hc, hds⟩ := rangeX_of hx
  unfold rngC at hc
  split at hc
  rotate_left
  · cases hc
  rename_i hb
  cases hc
  obtain ⟨b1, b2, b3, b4, b5, b6, b7⟩ := hb
  have b3 : -(2 ^ 62) ≤ a := b3
  have b4 : a < 2 ^ 62 := b4
  have b5 : -(2 ^ 62) ≤ b := b5
  have b6 : b < 2 ^ 62 := b6
  have fin : ∀ (s2 : Shared) (r : Addr) (t u v : Tok), Inv X pins σ H1 s2 → IsRange s2.heap r a b k t u v → wpAny (model X.prog X.w) X.A (call (.type "list") [.ref r]) (EP X pins σ Q) X.xe s2 := fun s2 r t u v I2 hR => by
    refine call_list_range (n := if a < b then ((b - a - 1) / k + 1).toNat else 0) (I2.ok.hd h.calm) hR (rngSmall b1 b2 b3 b4 b5 b6) (rngSize b1) (rngLen b1 b7) fun h' tk acc c' hk e' hi => ?_
    have hl : (List.map (fun (i : Nat) => V.int (a + (i : Int) * k)) (List.range (if a < b then ((b - a - 1) / k + 1).toNat else 0))).length ≤ sizeLine := by
      have := rngLen b1 b7
      rw [List.length_map, List.length_range, sizeLine_eq]
      omega
    have J := I2.laid (t' := tk) hk (Nat.le_refl _) (show ObjOk X.prog X.w _ _ _ (.lst ((List.range (if a < b then ((b - a - 1) / k + 1).toNat else 0)).map fun (i : Nat) => V.int (a + (i : Int) * k))) from ⟨hl, acc.toList, c', vals_steps hi, by rw [Array.toArray_toList]; exact e'⟩)
    refine ⟨.ref s2.heap.objs.size, _, J, rfl, ?_⟩
    have hrep : RepL ca X.K ρ1 F1 (stepL a k (if a < b then ((b - a - 1) / k + 1).toNat else 0)) ((List.range (if a < b then ((b - a - 1) / k + 1).toNat else 0)).map fun (i : Nat) => V.int (a + (i : Int) * k)) := by
      unfold stepL
      rw [List.range_eq_range']
      exact repL_steps _ 0
    exact made_lst (PV.imp q l1 fun _ _ _ _ _ _ _ _ _ _ q => q) r1 hrep (I2.hok.fresh (Nat.le_refl _))
  have I2 : ∀ (t u v : Tok), Inv X pins σ H1 { s1 with heap := s1.heap.push { cls := .type "range", data := .fields #[.int a t, .int b u, .int k v] }, toks := s1.toks } := fun t u v => I1.kept (t' := s1.toks) fun b o e => Heap.get?_push_of_some _ e
  rcases hds with ⟨e, e2, e3⟩ | ⟨e, e2⟩ | e
  · subst e e2 e3
    obtain ⟨v, ev, hx⟩ := RepL.one (G := gx X ca T) hd
    obtain rfl : v = .int b := hx
    subst ev
    cases rv with
    | cons r rr =>
      cases rr
      obtain ⟨t, rfl⟩ := r
      exact call_range_1 (args_nil (fin _ _ _ _ _ (I1.kept fun b u e => Heap.get?_push_of_some _ e) (IsRange.new _ _ _ _ _ _ _)))
  · subst e e2
    obtain ⟨v, w, ev, hx, hy⟩ := RepL.two (G := gx X ca T) hd
    obtain rfl : v = .int a := hx
    obtain rfl : w = .int b := hy
    subst ev
    cases rv with
    | cons r rr =>
      cases rr with
      | cons r' rr =>
        cases rr
        obtain ⟨t, rfl⟩ := r
        obtain ⟨t', rfl⟩ := r'
        exact call_range_2 (args_nil (fin _ _ _ _ _ (I1.kept fun b u e => Heap.get?_push_of_some _ e) (IsRange.new _ _ _ _ _ _ _)))
  · subst e
    obtain ⟨v, w1, ev, hx, w, w2, ew, hy, x, w3, ex, hz, e4⟩ := hd
    subst e4 ex ew ev
    obtain rfl : v = .int a := hx
    obtain rfl : w = .int b := hy
    obtain rfl : x = .int k := hz
    cases rv with
    | cons r rr =>
      cases rr with
      | cons r' rr =>
        cases rr with
        | cons r'' rr =>
          cases rr
          obtain ⟨t, rfl⟩ := r
          obtain ⟨t', rfl⟩ := r'
          obtain ⟨t'', rfl⟩ := r''
          refine call_range_3 (by omega) ?_ (.inl (PyProof.noPylong_small (by omega)))
          exact args_nil (fin _ _ _ _ _ (I2 t t' t'') (IsRange.new _ _ _ _ _ _ _))
end
end AL
set_option Elab.async false
set_option linter.all false
set_option maxRecDepth 100000
set_option maxHeartbeats 4000000
/-! AL38: one step of the evaluator, statements. -/
namespace AL
open PySem PySem.Spec PyProof.Rows L2
section
variable {c : Cfg} {ca : Str → Addr} {T : List (Addr × Str)} {X : Cx} {W : WX} {sc : Scope} {p : Ev} {pos : Pos} {e : Expr} {me : ME}
/-- {} -/
theorem made_dt {G : Env1} {L H : Hp} {s : S} {ρ : List Addr} {F : Hp} {l : List (List Key × D)} {vs : List (List Key × V)} {Q : VK} (q : PV G L ρ F (rpD G) Q (made c pos (.dt l) s)) (r : Rel G L H s ρ F) (h : RepT G.ca G.K ρ F l vs) {a : Addr} (ha : H a = none) : Q (.ref a) (upd H a (.dT vs)) := by
  unfold made at q
  split at q
  · have r' := r.cellNew ha (o := .dT vs) (c := .dt l) ⟨vs, upd_same, h⟩
    refine q (.ref a) _ (ρ ++ [a]) F (Le.app ρ F a) r' ⟨a, ?_, rfl⟩
    rw [← r.len, List.getElem?_append_right (Nat.le_refl _), Nat.sub_self]
    rfl
  · exact q (.ref a) _ ρ (upd F a (.dT vs)) (r.frzLe ha _) (r.frzNew ha _) ⟨a, vs, rfl, .inl upd_same, RepT.mono (r.frzLe ha _) _ _ h⟩
theorem ae_dict (ks : List (Option Expr)) (vs : List Expr) : PE X (.Dict ks vs pos) (tE (gx X ca T) W (stepE c p sc (.Dict ks vs pos))) := by
  cases ks with
  | cons k ks => exact ae_bad
  | nil =>
    cases vs with
    | cons v vs => exact ae_bad
    | nil =>
      cases hk : c.tkd pos.line pos.col with
      | true =>
        have e : stepE c p sc (.Dict [] [] pos) = fun _ s => made c pos (.dt []) s := by
          funext sl s
          show made c pos (if c.tkd pos.line pos.col = true then .dt [] else .dk []) s = _
          rw [if_pos hk]
        rw [e]
        exact pe_dnewT.weak fun σ H Q ⟨sl, s, ρ, F, L, hs, hr, hp⟩ => fun a ha => made_dt (PB.pv hp made_ne) hr (show RepT ca X.K ρ F [] [] from rfl) ha
      | false =>
        have e : stepE c p sc (.Dict [] [] pos) = fun _ s => made c pos (.dk []) s := by
          funext sl s
          show made c pos (if c.tkd pos.line pos.col = true then .dt [] else .dk []) s = _
          rw [if_neg (by rw [hk]; decide)]
        rw [e]
        exact pe_dnewK.weak fun σ H Q ⟨sl, s, ρ, F, L, hs, hr, hp⟩ => fun a ha => made_dk (PB.pv hp made_ne) hr (show RepK ca X.K ρ F [] [] from rfl) ha
/-- keywords -/
theorem ae_kw (h : Sd c ca T X W sc) (hE : EvOk c ca T p X.prog X.w X.K) (f : Str) (pf : Pos) (args : List Expr) (k : Keyword) (ks : List Keyword) (pos : Pos) : PE X (.Call (.Name f pf) args (k :: ks) pos) (tE (gx X ca T) W (stepE c p sc (.Call (.Name f pf) args (k :: ks) pos))) := by
  obtain ⟨he, _⟩ := hE.ok X W sc rfl rfl rfl h
  show PE X _ (tE (gx X ca T) W (callK c p sc f args (k :: ks) pos))
  unfold callK
  by_cases hg : (glN sc f && !c.own f && !c.isC f) = false
  · rw [if_pos hg]
    exact ae_bad
  rw [if_neg hg]
  have hg : (glN sc f && !c.own f && !c.isC f) = true := by
    cases hh : (glN sc f && !c.own f && !c.isC f) with
    | true => rfl
    | false => exact absurd hh hg
  simp only [Bool.and_eq_true, Bool.not_eq_true'] at hg
  split
  · rename_i k0 x an w1 body lsc lp kp heq
    split
    · rename_i a
      split
      · rename_i hc
        obtain ⟨c1, c2, c3, c4, c5, c6⟩ := hc
        subst c1 c2
        rw [heq]
        exact ae_key h hE hg.1.1 hg.1.2 hg.2 c6 c3 c4 c5
      · exact ae_bad
    · exact ae_bad
  · rename_i k0 b j p1 p2 heq
    split
    · rename_i a
      split
      · rename_i hc
        obtain ⟨c1, c2, c3⟩ := hc
        subst c1 c2
        rw [heq]
        exact ae_sortR h he hg.1.1 hg.1.2 hg.2 c3
      · exact ae_bad
    · exact ae_bad
  · exact ae_bad
/-- lambdas -/
theorem ae_lamc (h : Sd c ca T X W sc) (hE : EvOk c ca T p X.prog X.w X.K) (f : Str) (pf : Pos) (ps : Arguments) (b : Expr) (lsc : Scope) (lp pos : Pos) : PE X (.Call (.Name f pf) [.Lambda ps b lsc lp] [] pos) (tE (gx X ca T) W (stepE c p sc (.Call (.Name f pf) [.Lambda ps b lsc lp] [] pos))) := by
  show PE X _ (tE (gx X ca T) W (call1 c p sc f pos (.Lambda ps b lsc lp)))
  unfold call1
  split
  · rename_i body lsc' lp' heq
    cases heq
    split
    · rename_i hc
      obtain ⟨c1, c2, c3, c4, c5⟩ := hc
      subst c1
      exact ae_told h hE c2 c3 c4 c5
    · exact ae_bad
  · exact ae_bad
  · rename_i heq
    cases heq
  · rename_i heq
    cases heq
  · rename_i n1 n2 n3 n4
    exact absurd rfl (n2 _ _ _ _)
theorem as_asg2 {tg : Expr} {g : MG} (he : PE X e (tE (gx X ca T) W me)) (hg : PG X tg (tG (gx X ca T) g)) (hc : swapsWithSole [tg] e pos.line X.env = pure false) (hw : swappedStores [tg] e X.env = pure none) (hst : starB tg = false) :
    PS X (.Assign [tg] e pos) (tS (gx X ca T) W fun sl s => (me sl s).sbind sl fun d s1 => ((g d sl s1).noErr).sbind sl fun sl1 s2 => .nx sl1 s2) :=
  (ps_asg he hg hc hw (one_asg hst)).weak fun D σ H q => by
    exact tE.imp (tS_bind (rp := rpD (gx X ca T)) (f := fun sl d s1 => ((g d sl s1).noErr).sbind sl fun sl1 s2 => .nx sl1 s2) q) fun v H' ⟨sl, d, s', ρ, F, L, h1, h2, h3, h4⟩ => ⟨d, sl, s', ρ, F, L, h3, h1, h2, h4.target⟩
theorem noSwapped {env : Env} {tg e : Expr} (h : tupB tg = false ∨ tupB e = false) (h2 : ∀ ts p, tg ≠ .List ts p) : swappedStores [tg] e env = pure none := by
  cases tg <;> first
    | rfl
    | exact absurd rfl (h2 _ _)
    | (cases e <;> first | rfl | (rcases h with z | z <;> cases z))
/-- del d[k] -/
theorem as_del (h : Sd c ca T X W sc) {o k : Expr} {mo mk : ME} {p1 : Pos} (ho : PE X o (tE (gx X ca T) W mo)) (hk : PE X k (tE (gx X ca T) W mk)) : PS X (.Delete [.Subscript o k p1] pos) (tS (gx X ca T) W fun sl s => (mo sl s).sbind sl fun ov s1 => (mk sl s1).sbind sl fun kv s2 => (delIx ov kv s2).sbind sl fun _ s3 => .nx sl s3) :=
  (ps_ddel ho hk).weak fun D σ H q => by
    refine tE.imp (tS_bind (rp := rpD (gx X ca T)) (f := fun sl ov s1 => (mk sl s1).sbind sl fun kv s2 => (delIx ov kv s2).sbind sl fun _ s3 => .nx sl s3) q) fun v H1 ⟨sl, ov, st1, ρ1, F1, L, hs1, hr1, hd1, q1⟩ => ?_
    refine ⟨sl, st1, ρ1, F1, L, hs1, hr1, (PQ.bind (rp := rpD (gx X ca T)) hs1 q1).imp (.refl ρ1 F1) fun _ _ _ y H2 _ _ _ _ _ q2 => ?_⟩
    obtain ⟨kv, st2, ρ2, F2, _, l2, hs2, hr2, hk2, q2⟩ := q2
    have hd2 := RepD.mono l2 _ _ hd1
    unfold delIx at q2
    split at q2
    rotate_left
    · exact q2.elim
    rename_i i
    split at q2
    rotate_left
    · exact q2.elim
    rename_i hf
    split at q2
    rotate_left
    · exact q2.elim
    rename_i l e
    split at q2
    rotate_left
    · exact q2.elim
    rename_i kk hkk
    split at q2
    rotate_left
    · exact q2.elim
    rename_i hsome
    obtain ⟨a, ha, ev⟩ := hd2
    subst ev
    obtain ⟨vs, h1, h2⟩ := hr2.free_dk ha e hf
    have hval := RepK.val (G := gx X ca T) kk h2
    obtain ⟨ey, ek⟩ := key_rep (G := gx X ca T) hkk hk2
    subst ey
    refine ⟨a, vs, kk, rfl, h1, rfl, ?_, ?_⟩
    · cases hl : lookK kk l with
      | none =>
        rw [hl] at hsome
        cases hsome
      | some w =>
        rw [hl] at hval
        obtain ⟨z, hz, _⟩ := hval
        rw [hz]
        rfl
    · have hwr := hr2.write (i := i) (o := .dK (dropK vs kk)) (c := .dk (delK kk l)) ha (free_ok hf) ⟨_, upd_same, delK_ok kk h2⟩ (fun b hb hi => belowK_del (show belowK b l = true from hr2.disc i _ e b hb hi))
      exact q2 σ _ ρ2 F2 (.refl _ _) hs2 hwr
theorem asg_own {tg e : Expr} {q : Pos} (h : ∀ ts1 k1 p1 es k2 p2, tg = .Tuple ts1 k1 p1 → e ≠ .Tuple es k2 p2) : stepS c p sc (.Assign [tg] e q) = (if starB tg = true ∨ asgB c tg = true then badS else fun sl s => ((if isComp e = true then stepE c p sc e else p.e sc e) sl s).sbind sl fun d s1 => ((gEv c p sc 4 tg d sl s1).noErr).sbind sl fun sl1 s2 => .nx sl1 s2) := by
  cases tg <;> first
    | rfl
    | (cases e <;> first | rfl | exact absurd rfl (h _ _ _ _ _ _ rfl))
theorem comp_sole {tg e : Expr} {ln : Nat} {env : Env} (h : ∀ x q, tg ≠ .Name x q) (hc : isComp e = true) : swapsWithSole [tg] e ln env = pure false := by
  cases e <;> first
    | (cases hc; done)
    | (cases tg <;> first | rfl | exact absurd rfl (h _ _))
theorem as_assign (h : Ss c ca T X W sc) (hic : c.isC ("range" : Str) = false) (hE : EvOk c ca T p X.prog X.w X.K) (hSE : ∀ e, PE X e (tE (gx X ca T) W (stepE c p sc e))) (tg e : Expr) (hne : ∀ ts1 k1 p1 es k2 p2, tg = .Tuple ts1 k1 p1 → e ≠ .Tuple es k2 p2) : PS X (.Assign [tg] e pos) (tS (gx X ca T) W (stepS c p sc (.Assign [tg] e pos))) := by
  obtain ⟨he, _⟩ := hE.ok X W sc rfl rfl rfl h.toSd
  rw [asg_own hne]
  by_cases hst : starB tg = true ∨ asgB c tg = true
  · rw [if_pos hst]
    exact as_bad
  rw [if_neg hst]
  rw [not_or] at hst
  obtain ⟨hst, hab⟩ := hst
  have hst : starB tg = false := by simpa using hst
  have hw : swappedStores [tg] e X.env = pure none := by
    refine noSwapped ?_ fun ts q z => hab (by rw [z]; rfl)
    cases tg with
    | Tuple ts k1 p1 =>
      refine .inr ?_
      cases e with
      | Tuple es k2 p2 => exact absurd rfl (hne _ _ _ _ _ _ rfl)
      | _ => rfl
    | _ => exact .inl rfl
  by_cases hc : isComp e = true
  rotate_left
  · rw [if_neg hc]
    exact as_asg2 (he e) (ag_ev h he 4 tg) (by
      have := noSwap (tg := some tg) (ln := pos.line) (env := X.env) (e := e) (by simpa using hc)
      exact this) hw hst
  rw [if_pos hc]
  by_cases hN : ∃ x q, tg = .Name x q
  rotate_left
  · exact as_asg2 (hSE e) (ag_ev h he 4 tg) (comp_sole (fun x q z => hN ⟨x, q, z⟩) hc) hw hst
  obtain ⟨x, q, rfl⟩ := hN
  have plain : swapsWithSole [.Name x q] e pos.line X.env = pure false → PS X (.Assign [.Name x q] e pos) (tS (gx X ca T) W fun sl s => (stepE c p sc e sl s).sbind sl fun d s1 => ((gEv c p sc 4 (.Name x q) d sl s1).noErr).sbind sl fun sl1 s2 => .nx sl1 s2) := fun z => as_asg2 (hSE e) (ag_ev h he 4 _) z hw hst
  have nev : (∀ sl s, stepE c p sc e sl s = .bad) → PS X (.Assign [.Name x q] e pos) (tS (gx X ca T) W fun sl s => (stepE c p sc e sl s).sbind sl fun d s1 => ((gEv c p sc 4 (.Name x q) d sl s1).noErr).sbind sl fun sl1 s2 => .nx sl1 s2) := fun z => PS.never fun D σ H ⟨sl, s, ρ, F, L, hs, hr, hp⟩ => by
    dsimp only at hp
    rw [z] at hp
    exact hp
  cases e with
  | ListComp elt gs csc cpos =>
    rcases gs with _ | ⟨⟨tg, iter, ifs, n⟩, _ | ⟨g2, r⟩⟩
    · exact nev fun sl s => rfl
    · by_cases hn : n = 0
      · subst hn
        by_cases hloc : sc.names.lookup x = some .local ∧ (q.line == cpos.line) = true ∧ (csc.names.any fun (n, k) => n == x && (k == .local || k == .cell)) = false
        · obtain ⟨l1, l2, l3⟩ := hloc
          cases hi : ixN c.N x with
          | none => exact absurd (show (ixN c.N x).isNone = true by rw [hi]; rfl) hab
          | some i =>
            have e4 : gEv c p sc 4 (.Name x q) = gName i := by
              show (match sc.names.lookup x with
                | some .local => (match ixN c.N x with
                  | some i => gName i
                  | none => fun _ _ _ => .bad)
                | some .cell => (match ixN c.N x with
                  | some i => gName i
                  | none => fun _ _ _ => .bad)
                | _ => fun _ _ _ => .bad) = _
              rw [l1, hi]
            rw [e4]
            exact as_lc h hic hE hi l1 l2 l3
        · refine plain ?_
          have kx : X.env.kindOf x = sc.names.lookup x := by
            show X.env.scope.names.lookup x = _
            rw [h.scp]
          show swapsWith (.ListComp elt [⟨tg, iter, ifs, 0⟩] csc cpos) (some (.Name x q)) pos.line X.env = pure false
          unfold swapsWith
          simp only [kx, Expr.pos]
          have : (X.env.blockKind == .function && sc.names.lookup x == some .local && q.line == cpos.line && !(csc.names.any fun (n, k) => n == x && (k == .local || k == .cell))) = false := by
            cases b1 : (sc.names.lookup x == some .local) with
            | false => simp
            | true =>
              cases b2 : (q.line == cpos.line) with
              | false => simp
              | true =>
                cases b3 : (csc.names.any fun (n, k) => n == x && (k == .local || k == .cell)) with
                | true => simp
                | false => exact absurd ⟨beq_iff_eq.mp b1, b2, b3⟩ hloc
          rw [this]
      · refine nev fun sl s => ?_
        have : stepE c p sc (.ListComp elt [⟨tg, iter, ifs, n⟩] csc cpos) = badE := by
          unfold stepE
          split <;> first | rfl | simp_all
        rw [this]
        rfl
    · refine nev fun sl s => ?_
      have : stepE c p sc (.ListComp elt (⟨tg, iter, ifs, n⟩ :: g2 :: r) csc cpos) = badE := by
        unfold stepE
        split <;> first | rfl | simp_all
      rw [this]
      rfl
  | SetComp _ _ _ _ => exact nev fun sl s => rfl
  | DictComp _ _ _ _ _ => exact nev fun sl s => rfl
  | _ => cases hc
/-- statements -/
theorem stepS_ok (h : Ss c ca T X W sc) (hic : c.isC ("range" : Str) = false) (hE : EvOk c ca T p X.prog X.w X.K) (hst : ∀ st, PS X st (tS (gx X ca T) W (p.st sc st))) (hSE : ∀ e, PE X e (tE (gx X ca T) W (stepE c p sc e))) : ∀ st, PS X st (tS (gx X ca T) W (stepS c p sc st)) := by
  obtain ⟨he, ht⟩ := hE.ok X W sc rfl rfl rfl h.toSd
  have hr := fun l => as_runs (f := p.st sc) hst l
  intro st
  cases st with
  | Pass pos => exact as_pass
  | Break pos => exact as_break
  | Continue pos => exact as_cont
  | Return o pos =>
    cases o with
    | none => exact as_retN
    | some e => exact as_ret (he e)
  | Expr e pos =>
    show PS X _ (tS (gx X ca T) W (if isComp e = true then badS else _))
    by_cases hc : isComp e = true
    · rw [if_pos hc]
      exact as_bad
    · rw [if_neg hc]
      exact as_expr (he e) (by simpa using hc)
  | If t a b pos => exact as_if (ht t) (hr a) (hr b)
  | Assign ts e pos =>
    rcases ts with _ | ⟨tg, _ | ⟨t2, r⟩⟩
    · exact as_bad
    · cases tg with
      | Tuple ts k1 p1 =>
        cases e with
        | Tuple es k2 p2 => exact as_tup h he
        | _ => exact as_assign h hic hE hSE _ _ (by intro _ _ _ _ _ _ _ z; cases z)
      | _ => exact as_assign h hic hE hSE _ _ (by intro _ _ _ _ _ _ z; cases z)
    · cases tg <;> exact as_bad
  | AugAssign tg op e pos =>
    cases tg with
    | Name x p1 =>
      show PS X _ (tS (gx X ca T) W (match slotI c sc x with
        | some i => fun sl s => (slot i sl s).sbind sl fun x s1 => (p.e sc e sl s1).sbind sl fun y s2 => (augD op x y s2).sbind sl fun d s3 => .nx (sl.set i (some d)) s3
        | none => badS))
      cases hi : slotI c sc x with
      | none => exact as_bad
      | some i => exact as_augN h hi (he e)
    | Attribute o f p1 => exact as_augA h.toSd (he o) (he e)
    | _ => exact as_bad
  | For tg iter body orelse pos =>
    cases orelse with
    | cons _ _ => exact as_bad
    | nil =>
      show PS X _ (tS (gx X ca T) W (if setB iter = true then badS else _))
      by_cases hc : setB iter = true
      · rw [if_pos hc]
        exact as_bad
      · rw [if_neg hc]
        exact as_for h (ai_it h.toSd hic he iter) (ag_ev h he 4 tg) (hr body) (by simpa using hc)
  | While t body orelse pos =>
    cases orelse with
    | cons _ _ => exact as_bad
    | nil => exact as_while h (ht t) (hr body) c.fuel
  | Raise x cause pos =>
    cases x with
    | none => exact as_bad
    | some ex =>
      cases cause with
      | some cz =>
        have : stepS c p sc (.Raise (some ex) (some cz) pos) = badS := by
          cases ex <;> first | rfl | skip
          unfold stepS
          split <;> first | rfl | simp_all
        rw [this]
        exact as_bad
      | none =>
        by_cases hf : ∃ C p1 e p3, ex = .Call (.Name C p1) [e] [] p3
        · obtain ⟨C, p1, e, p3, rfl⟩ := hf
          show PS X _ (tS (gx X ca T) W (if c.exc C = true ∧ glN sc C = true ∧ starB e = false then _ else badS))
          by_cases hc : c.exc C = true ∧ glN sc C = true ∧ starB e = false
          · rw [if_pos hc]
            exact as_raise h hc.1 hc.2.1 hc.2.2 (he e)
          · rw [if_neg hc]
            exact as_bad
        · have : stepS c p sc (.Raise (some ex) none pos) = badS := by
            unfold stepS
            split <;> first | rfl | skip
            all_goals (rename_i heq; first | (cases heq; exact absurd ⟨_, _, _, _, rfl⟩ hf) | cases heq)
          rw [this]
          exact as_bad
  | Delete es pos =>
    by_cases hf : ∃ o k p1, es = [.Subscript o k p1]
    · obtain ⟨o, k, p1, rfl⟩ := hf
      show PS X _ (tS (gx X ca T) W (if sliceB k = true then badS else _))
      by_cases hc : sliceB k = true
      · rw [if_pos hc]
        exact as_bad
      · rw [if_neg hc]
        exact as_del h.toSd (he o) (he k)
    · have : stepS c p sc (.Delete es pos) = badS := by
        unfold stepS
        split <;> first | rfl | skip
        all_goals (rename_i heq; first | (cases heq; exact absurd ⟨_, _, _, rfl⟩ hf) | cases heq)
      rw [this]
      exact as_bad
  | _ => exact as_bad
end
end AL
set_option Elab.async false
set_option linter.all false
set_option maxRecDepth 100000
set_option maxHeartbeats 4000000
/-! AL39: the evaluator is sound, at any fuel. -/
namespace AL
open PySem PySem.Spec PyProof.Rows L2
/-- statements of the evaluator are sound -/
def StOk (c : Cfg) (ca : Str → Addr) (T : List (Addr × Str)) (p : Ev) (P : Program) (w : World) (K : PySem.W.Frag) : Prop :=
  ∀ (X : Cx) (W : WX) (sc : Scope), X.prog = P → X.w = w → X.K = K → Ss c ca T X W sc → ∀ st, PS X st (tS (gx X ca T) W (p.st sc st))
section
variable {ca : Str → Addr} {T : List (Addr × Str)} {P : Program} {w : World} {K : PySem.W.Frag}
theorem ev_ok : ∀ (n : Nat) (c : Cfg), c.isC ("range" : Str) = false → EvOk c ca T (ev n c) P w K ∧ StOk c ca T (ev n c) P w K
  | 0, c, _ => ⟨⟨fun X W sc _ _ _ h => ⟨fun e => ae_bad, fun e => at_bad⟩, fun X W sc _ _ _ _ h => ⟨fun e => ae_bad, fun e => at_bad⟩⟩, fun X W sc _ _ _ h st => as_bad⟩
  | n + 1, c, hic => by
    obtain ⟨h1, h2⟩ := ev_ok n c hic
    obtain ⟨g1, _⟩ := ev_ok n c.less hic
    have hE : EvOk c ca T (withL (ev n c) (if c.lam = 0 then fun _ _ => badE else (ev n c.less).e) (if c.lam = 0 then fun _ _ => badT else (ev n c.less).t)) P w K := by
      refine ⟨h1.ok, fun X W sc hl e1 e2 e3 h => ?_⟩
      have n1 : (withL (ev n c) (if c.lam = 0 then fun _ _ => badE else (ev n c.less).e) (if c.lam = 0 then fun _ _ => badT else (ev n c.less).t)).l = (ev n c.less).e := by
        show (if c.lam = 0 then fun _ _ => badE else (ev n c.less).e) = _
        rw [if_neg (by omega)]
      have n2 : (withL (ev n c) (if c.lam = 0 then fun _ _ => badE else (ev n c.less).e) (if c.lam = 0 then fun _ _ => badT else (ev n c.less).t)).lt = (ev n c.less).t := by
        show (if c.lam = 0 then fun _ _ => badT else (ev n c.less).t) = _
        rw [if_neg (by omega)]
      rw [n1, n2]
      exact g1.ok X W sc e1 e2 e3 h
    have hS : StOk c ca T (withL (ev n c) (if c.lam = 0 then fun _ _ => badE else (ev n c.less).e) (if c.lam = 0 then fun _ _ => badT else (ev n c.less).t)) P w K := h2
    show EvOk c ca T (step c (withL (ev n c) (if c.lam = 0 then fun _ _ => badE else (ev n c.less).e) (if c.lam = 0 then fun _ _ => badT else (ev n c.less).t))) P w K ∧ StOk c ca T (step c (withL (ev n c) (if c.lam = 0 then fun _ _ => badE else (ev n c.less).e) (if c.lam = 0 then fun _ _ => badT else (ev n c.less).t))) P w K
    generalize withL (ev n c) (if c.lam = 0 then fun _ _ => badE else (ev n c.less).e) (if c.lam = 0 then fun _ _ => badT else (ev n c.less).t) = p at hE hS
    have hP : ∀ (X : Cx) (W : WX) (sc : Scope), X.prog = P → X.w = w → X.K = K → Sd c ca T X W sc → ∀ e, PE X e (tE (gx X ca T) W (stepE c p sc e)) := fun X W sc e1 e2 e3 h => by
      subst e1 e2 e3
      have he := (hE.ok X W sc rfl rfl rfl h).1
      refine stepE_ok h hic hE (fun ks vs pos => ae_dict ks vs) (callN_ok h he (fun f pf ps b lsc lp pos => ae_lamc h hE f pf ps b lsc lp pos) (fun f pf elt gs gsc gp pos => ae_genc h hic hE f pf elt gs gsc gp pos) (fun pf a pos g1 g2 g3 g4 => ae_sort h he g1 g2 g3 g4) (fun pf a pos g1 g2 g3 g4 => ae_lrg h he g1 g2 g3 g4) fun f pf args k ks pos => ae_kw h hE f pf args k ks pos)
    refine ⟨⟨fun X W sc e1 e2 e3 h => ⟨hP X W sc e1 e2 e3 h, ?_⟩, fun X W sc _ _ _ _ h => ⟨fun e => ae_bad, fun e => at_bad⟩⟩, fun X W sc e1 e2 e3 h => ?_⟩
    · subst e1 e2 e3
      exact stepT_ok h hE (hP X W sc rfl rfl rfl h)
    · have hs := hS X W sc e1 e2 e3 h
      have hq := hP X W sc e1 e2 e3 h.toSd
      subst e1 e2 e3
      exact stepS_ok h hic hE hs hq
end
end AL
set_option Elab.async false
set_option linter.all false
set_option maxRecDepth 100000
set_option maxHeartbeats 400000
namespace AL
open PySem PySem.Spec PyProof.Rows L2
theorem zip_look {ps : List Str} : ∀ {us : List Value}, us.length = ps.length → ps.Nodup → (∀ n ∈ ps, ((ps.zip us).lookup n).isSome = true) ∧ (ps.filterMap fun n => ((ps.zip us).lookup n).map (n, ·)) = ps.zip us := by
  induction ps with
  | nil => exact fun _ _ => ⟨fun _ h => (by cases h), rfl⟩
  | cons x ps ih =>
    intro us hl hn
    cases us with
    | nil => cases hl
    | cons u us =>
      obtain ⟨h1, h2⟩ := ih (us := us) (by simpa using hl) hn.of_cons
      have hx : x ∉ ps := (List.nodup_cons.mp hn).1
      have other : ∀ n ∈ ps, (((x, u) :: ps.zip us).lookup n) = (ps.zip us).lookup n := fun n hm => by
        have : (n == x) = false := by
          cases q : (n == x) with
          | false => rfl
          | true => exact absurd (beq_iff_eq.mp q ▸ hm) hx
        rw [List.lookup_cons, this]
      have self : ((x, u) :: ps.zip us).lookup x = some u := by
        rw [List.lookup_cons, beq_self_eq_true]
      refine ⟨fun n hm => ?_, ?_⟩
      · rcases List.mem_cons.mp hm with e | hm
        · subst e
          show (((n, u) :: ps.zip us).lookup n).isSome = true
          rw [self]
          rfl
        · show (((x, u) :: ps.zip us).lookup n).isSome = true
          rw [other n hm]
          exact h1 n hm
      · show ((x :: ps).filterMap fun n => (((x, u) :: ps.zip us).lookup n).map (n, ·)) = (x, u) :: ps.zip us
        rw [List.filterMap_cons, self]
        show (x, u) :: _ = _
        congr 1
        have : ∀ l : List Str, (∀ n ∈ l, n ∈ ps) → (l.filterMap fun n => (((x, u) :: ps.zip us).lookup n).map (n, ·)) = l.filterMap fun n => ((ps.zip us).lookup n).map (n, ·) := fun l => by
          induction l with
          | nil => exact fun _ => rfl
          | cons y l il =>
            intro hy
            rw [List.filterMap_cons, List.filterMap_cons, other y (hy y (List.mem_cons_self ..)), il fun n hm => hy n (List.mem_cons_of_mem _ hm)]
        exact (this ps fun _ h => h).trans h2
theorem bind_plain {x qual : Str} {as : List Arg} {body : List Stmt} {scope : Scope} {kV doc pm cdv ct : Value} {an : Option Addr} {ps : List Str} (hps : as.map (·.arg) = ps) (hn : ps.Nodup) {us : List Value} (hl : us.length = ps.length) :
    bindArgs (PySem.W.fnOf x qual ⟨[], as, none, [], [], none, []⟩ body scope .none kV doc pm an cdv ct) ⟨us, []⟩ = pure (ps.zip us) := by
  obtain ⟨h1, h2⟩ := zip_look hl hn
  have hf : ps.filter (fun n => ((ps.zip us).lookup n).isNone) = [] := List.filter_eq_nil_iff.mpr fun n hm => by
    have := h1 n hm
    cases q : (ps.zip us).lookup n with
    | none =>
      rw [q] at this
      cases this
    | some u => simp
  have e : seqItems? Value.none = pure (f := Sem) none := rfl
  unfold bindArgs
  simp only [PySem.W.fnOf, List.map_nil, List.nil_append, hps, e, pure_bind, List.append_nil, List.forIn_nil, List.forIn_cons]
  simp [hl, hf, h2]
/-- a def's table; l: the name's end -/
def TabAt (T : List (Addr × Str)) (base : Heap) (mg : Str → Option Value) (code : Value) (qual l n : Str) : Prop := ∃ cA P, LamX.TabB base mg cA P ∧ code = .ref cA ∧ (P, (qual ++ l) ++ n) ∈ T ∧ ∀ p ∈ T, p.1 = P → p.2 = (qual ++ l) ++ n
/-- a def as it stands -/
structure DefAt (T : List (Addr × Str)) (q : Program) (K : PySem.W.Frag) (mg : Str → Option Value) (base : Heap) (f : Fn) (fa : Addr) (fd : FuncData) : Prop where
  ex : ∃ name qual as, FunD K name qual ⟨[], as, none, [], [], none, []⟩ f.body f.sc [] [] fa fd ∧ as.map (·.arg) = f.ps ∧ (f.tb = 1 → TabAt T base mg fd.code qual ".<locals>." "<lambda>") ∧ (f.tb = 2 → TabAt T base mg fd.code qual ".<locals>." "<genexpr>")
  sc : FnScope f.N f.ps f.sc
  nd : f.ps.Nodup
  told : f.tb = 1 → ToldOk q K mg
theorem DefAt.binds {T : List (Addr × Str)} {q : Program} {K : PySem.W.Frag} {mg : Str → Option Value} {base : Heap} {f : Fn} {fa : Addr} {fd : FuncData} (D : DefAt T q K mg base f fa fd) : Binds K fd f.ps [] := by
  obtain ⟨name, qual, as, F, ha, _⟩ := D.ex
  exact F.bindsN fun kV doc pm an cdv ct us hl => bind_plain ha D.nd hl
/-- the program stands -/
structure PrOk (P : Prog) (ca : Str → Addr) (T : List (Addr × Str)) (q : Program) (K : PySem.W.Frag) (mg : Str → Option Value) (base : Heap) : Prop where
  gl : ∀ x d, lookK x P.gls = some d → ∃ v u, mg x = some u ∧ RelV v u ∧ ∀ ρ F, RepD ca K ρ F d v
  fns : ∀ x f, lookF x P.fns = some f → ∃ fa fd, DefAt T q K mg base f fa fd ∧ mg x = some (.ref fa) ∧ PySem.W.keepIn K (.ref fa) = true
  meths : ∀ C m f, lookF (C, m) P.meths = some f → ∃ fa fd, DefAt T q K mg base f fa fd ∧ Cls K (ca C) ∧ Meth K (ca C) m fa
  inits : ∀ C, P.classes.contains C = true → ∃ f, lookF (C, ("__init__" : Str)) P.meths = some f ∧ ∃ fa fd, DefAt T q K mg base f fa fd ∧ Cls K (ca C) ∧ Mk K (ca C) fa ∧ mg C = some (.ref (ca C))
  blt : ∀ x ∈ bltN, (lookF x P.fns).isSome = false → P.classes.contains x = false → mg x = none
  attr : ∀ C f, P.attrs.contains (C, f) = true → Cls K (ca C) ∧ NoAttr K (ca C) f
  exc : ∀ C, (P.excs.lookup C).isSome = true → (∃ bmB B newId initId, ExcBaseFacts B newId initId bmB ∧ PySem.W.excIn K (ca C) bmB newId = true) ∧ mg C = some (.ref (ca C)) ∧ PySem.W.keepIn K (.ref (ca C)) = true ∧ PySem.W.subIn K (.ref (ca C)) (.type "BaseException") = some true ∧ PySem.W.typeIn K (.ref (ca C)) = some (.type "type")
  exm : ∀ x y, (P.excs.lookup x).isSome = true → y ∈ excN → PySem.W.exmOne K (.ref (ca x)) (.ref (ca y)) = some (match P.excs.lookup x with
    | some l => l.contains y
    | none => false)
  excG : ∀ y ∈ excN, mg y = some (.ref (ca y))
  rng : P.classes.contains ("range" : Str) = false
section
variable {P : Prog} {ca : Str → Addr} {T : List (Addr × Str)} {q : Program} {w : World} {K : PySem.W.Frag} {mg : Str → Option Value} {base : Heap}
/-- a level stands -/
structure LvOk (P : Prog) (ca : Str → Addr) (T : List (Addr × Str)) (q : Program) (w : World) (K : PySem.W.Frag) (mg : Str → Option Value) (base : Heap) (lvl : Nat) (z : Lv) : Prop where
  fns : ∀ x f, lookF x P.fns = some f → ∃ k fa fd, FnOk q w K mg base (L2.CX q w) k fa fd f.ps (spC ⟨ca, K, T⟩ f.ps.length (z.call x)) ∧ (∀ ds s, ds.length ≠ f.ps.length → z.call x ds s = .bad) ∧ k ≤ lvl ∧ mg x = some (.ref fa) ∧ PySem.W.keepIn K (.ref fa) = true ∧ Binds K fd f.ps []
  meth : ∀ C m g, z.meth C m = some g → ∃ k fa fd ps, FnOk q w K mg base (L2.CX q w) k fa fd ps (spC ⟨ca, K, T⟩ ps.length g) ∧ (∀ ds s, ds.length ≠ ps.length → g ds s = .bad) ∧ k ≤ lvl ∧ Cls K (ca C) ∧ Meth K (ca C) m fa ∧ Binds K fd ps []
  new : ∀ x, P.classes.contains x = true → ∃ k fa fd ps, FnOk q w K mg base (L2.CX q w) k fa fd ps (spN ⟨ca, K, T⟩ ps.length x (z.new x)) ∧ (∀ ds s, ds.length + 1 ≠ ps.length → z.new x ds s = .bad) ∧ k + 1 ≤ lvl ∧ Mk K (ca x) fa ∧ mg x = some (.ref (ca x)) ∧ Binds K fd ps []
/-- a body's surroundings -/
theorem ss_of (pr : PrOk P ca T q K mg base) {k : Nat} {z : Lv} (lo : LvOk P ca T q w K mg base (lvN k) z) {f : Fn} {fa : Addr} {qual : Str} {cdv : Value} {A : Around} {outer : List Env} {s : Shared} {H : Hp} {E : XK} (S : FnScope f.N f.ps f.sc) (told : f.tb = 1 → ToldOk q K mg)
    (t1 : f.tb = 1 → TabAt T base mg cdv qual ".<locals>." "<lambda>") (t2 : f.tb = 2 → TabAt T base mg cdv qual ".<locals>." "<genexpr>") (hr : Room (lvN k + 6) (A.deeper (envOfC qual f.sc s.heap.objs.size fa cdv))) :
    Ss (cfgOf P f.N f.tb k z.call z.new z.meth) ca T (cxOf (L2.CX q w) q w K mg base f.N qual f.sc fa cdv A outer s H E) (fun c d _ H => E c d H) f.sc where
  N := rfl
  nd := S.nd
  scp := rfl
  calm := rfl
  tk := takes_of rfl rfl rfl rfl
  room := hr
  gl := pr.gl
  fns := fun x hx => by
    have hx : (lookF x P.fns).isSome = true := hx
    cases e : lookF x P.fns with
    | none =>
      rw [e] at hx
      cases hx
    | some g =>
      obtain ⟨k', fa', fd', h1, h2, h3, h4, h5, h6⟩ := lo.fns x g e
      exact ⟨k', fa', fd', g.ps, h1, h2, h3, h4, h5, h6⟩
  meth := fun C m g hg => lo.meth C m g hg
  new := fun x _ hx => lo.new x hx
  blt := pr.blt
  attr := pr.attr
  exc := pr.exc
  exm := pr.exm
  excG := pr.excG
  tab1 := fun _ h => t1 h
  tab2 := fun _ h => t2 h
  told := fun _ h => told h
  po := passes_of (K := fun e s'' => L2.CX q w outer H s E e s'') (E₁ := fun e s'' => L2.CX q w outer H s E e s'') rfl
  fn := fun _ _ => rfl
  kind := S.kind
/-- a def's body -/
theorem def_ok (pr : PrOk P ca T q K mg base) {k n : Nat} {z : Lv} (lo : LvOk P ca T q w K mg base (lvN k) z) {f : Fn} {fa : Addr} {fd : FuncData} (D : DefAt T q K mg base f fa fd) {sp : Sp} (len : ∀ vs H Q E, sp vs H Q E → vs.length = f.ps.length)
    (ends : ∀ vs H Q E, sp vs H Q E → tS ⟨ca, K, T⟩ (fun c d _ H' => E c d H') (runs ((ev n (cfgOf P f.N f.tb k z.call z.new z.meth)).st f.sc) f.body) { nx := fun _ H' => Q .non H', rt := Q } (L2.start f.N vs) H) :
    FnOk q w K mg base (L2.CX q w) (lvN k + 6 + 1) fa fd f.ps sp := by
  obtain ⟨name, qual, as, F, ha, t1, t2⟩ := D.ex
  obtain ⟨oc, od, dV, kV, doc, pm, an, cdv, ct, osl, e, lk, hcd, _, _⟩ := F.ex
  subst e
  have hE := (ev_ok (ca := ca) (T := T) (P := q) (w := w) (K := K) n (cfgOf P f.N f.tb k z.call z.new z.meth) (show P.classes.contains ("range" : Str) = false from pr.rng)).2
  refine fn_of lk hcd D.sc len ?_
  intro A outer s H vs Q E hr hsp
  have hs := ss_of (w := w) (outer := outer) (H := H) (E := E) pr lo D.sc D.told t1 t2 hr
  have hb := hE (cxOf (L2.CX q w) q w K mg base f.N qual f.sc fa cdv A outer s H E) (fun c d _ H => E c d H) f.sc rfl rfl rfl hs
  exact ⟨_, as_runs hb f.body, ends vs H Q E hsp⟩
theorem spC_len {G : Env1} {n : Nat} {cl : List D → S → R D} {ps : List Str} (h : n = ps.length) : ∀ vs H Q E, spC G n cl vs H Q E → vs.length = ps.length := fun vs H Q E z => z.1.trans h
theorem spN_len {G : Env1} {n : Nat} {C : Str} {cl : List D → S → R D} {ps : List Str} (h : n = ps.length) : ∀ vs H Q E, spN G n C cl vs H Q E → vs.length = ps.length := fun vs H Q E z => z.1.trans h
theorem runBody_len {c : Cfg} {k : Nat} {f : Fn} {ds : List D} {s : S} (h : ds.length ≠ f.ps.length) : runBody c k f ds s = .bad := by
  unfold runBody
  rw [if_neg h]
theorem runInit_len {c : Cfg} {k : Nat} {C : Str} {f : Fn} {ds : List D} {s : S} (h : ds.length + 1 ≠ f.ps.length) : runInit P c k C f ds s = .bad := by
  unfold runInit
  rw [if_neg h]
/-- what never is asked for -/
theorem fn_never {k : Nat} {fa : Addr} {fd : FuncData} {ps : List Str} {sp : Sp} (h : ∀ vs H Q E, ¬ sp vs H Q E) : FnOk q w K mg base (L2.CX q w) k fa fd ps sp :=
  ⟨fun vs H Q E z => (h vs H Q E z).elim, fun A outer s H args us vs Q E hr e0 hb r z => (h vs H Q E z).elim⟩
theorem lv_ok (pr : PrOk P ca T q K mg base) : ∀ k, LvOk P ca T q w K mg base (lvN k) (lv P k)
  | 0 => by
    refine ⟨fun x f e => ?_, fun C m g e => (by cases e), fun x e => ?_⟩
    · obtain ⟨fa, fd, D, h1, h2⟩ := pr.fns x f e
      exact ⟨0, fa, fd, fn_never fun vs H Q E z => by
        obtain ⟨_, ds, s, ρ, F, L, _, _, hp⟩ := z
        exact hp, fun _ _ _ => rfl, Nat.zero_le _, h1, h2, D.binds⟩
    · obtain ⟨f, e1, fa, fd, D, h1, h2, h3⟩ := pr.inits x e
      exact ⟨0, fa, fd, f.ps, fn_never fun vs H Q E z => by
        obtain ⟨_, ds, rest, s, ρ, F, L, a, dx, H1, Q', _, _, _, _, _, _, _, _, hp⟩ := z
        exact hp, fun _ _ _ => rfl, by decide, h2, h3, D.binds⟩
  | k + 1 => by
    have lo := lv_ok pr k
    have hl : lvN k + 7 + 1 ≤ lvN (k + 1) := by unfold lvN; omega
    refine ⟨fun x f e => ?_, fun C m g e => ?_, fun x e => ?_⟩
    · obtain ⟨fa, fd, D, h1, h2⟩ := pr.fns x f e
      have ec : (lv P (k + 1)).call x = runBody (cfgOf P f.N f.tb k (lv P k).call (lv P k).new (lv P k).meth) P.depth f := by
        funext ds s
        show (match lookF x P.fns with
          | some f => runBody (cfgOf P f.N f.tb k (lv P k).call (lv P k).new (lv P k).meth) P.depth f ds s
          | none => .bad) = _
        rw [e]
      rw [ec]
      refine ⟨_, fa, fd, def_ok pr lo D (spC_len rfl) fun vs H Q E z => body_ends z, fun ds s hd => runBody_len hd, by omega, h1, h2, D.binds⟩
    · have em : (lv P (k + 1)).meth C m = (lookF (C, m) P.meths).map fun f => runBody (cfgOf P f.N f.tb k (lv P k).call (lv P k).new (lv P k).meth) P.depth f := rfl
      rw [em] at e
      cases ef : lookF (C, m) P.meths with
      | none =>
        rw [ef] at e
        cases e
      | some f =>
        rw [ef] at e
        cases e
        obtain ⟨fa, fd, D, h1, h2⟩ := pr.meths C m f ef
        refine ⟨_, fa, fd, f.ps, def_ok pr lo D (spC_len rfl) fun vs H Q E z => body_ends z, fun ds s hd => runBody_len hd, by omega, h1, h2, D.binds⟩
    · obtain ⟨f, e1, fa, fd, D, h1, h2, h3⟩ := pr.inits x e
      have en : (lv P (k + 1)).new x = runInit P (cfgOf P f.N f.tb k (lv P k).call (lv P k).new (lv P k).meth) P.depth x f := by
        funext ds s
        show (match lookF (x, ("__init__" : Str)) P.meths with
          | some f => runInit P (cfgOf P f.N f.tb k (lv P k).call (lv P k).new (lv P k).meth) P.depth x f ds s
          | none => _) = _
        rw [e1]
      rw [en]
      refine ⟨_, fa, fd, f.ps, def_ok pr lo D (spN_len rfl) fun vs H Q E z => init_ends h1 z, fun ds s hd => runInit_len hd, by omega, h2, h3, D.binds⟩
end
end AL
set_option Elab.async false
set_option linter.all false
set_option maxRecDepth 100000
set_option maxHeartbeats 4000000
/-! AL41: the program's table stands where the head says so. -/
namespace AL
open PySem PySem.Spec PyProof.Rows L2
def isDef (x : Str) (st : Stmt) : Prop := ∃ a b c d e f g h i, st = .FunctionDef x a b c d e f g h i
/-- the defs of the text, for the head -/
def dOf (at_ : He.Defn) (x q : Str) (st : Stmt) : He.DefD := ⟨at_, x, q, defArgs st, defBody st, defScope st, [], []⟩
def dM (C : Str) : List Stmt → List He.DefD
  | [] => []
  | st :: l => match st with
    | .FunctionDef y _ _ _ _ _ _ _ _ _ => dOf (C, some y) y (C ++ "." ++ y) st :: dM C l
    | _ => dM C l
def dB : List Stmt → List He.DefD
  | [] => []
  | st :: l => match st with
    | .FunctionDef x _ _ _ _ _ _ _ _ _ => dOf (x, none) x x st :: dB l
    | .ClassDef C _ _ b _ _ _ _ _ _ _ => if excNames.contains C then dB l else dM C b ++ dB l
    | _ => dB l
/-- the defs that make lambdas, generators -/
def tMk (C : Str) (tb : Str × Str → Nat) : List Stmt → List (He.Defn × Str × Nat)
  | [] => []
  | st :: l => match st with
    | .FunctionDef y _ _ _ _ _ _ _ _ _ => if tb (C, y) = 0 then tMk C tb l else ((C, some y), C ++ "." ++ y, tb (C, y)) :: tMk C tb l
    | _ => tMk C tb l
def tBk (tb : Str × Str → Nat) : List Stmt → List (He.Defn × Str × Nat)
  | [] => []
  | st :: l => match st with
    | .FunctionDef x _ _ _ _ _ _ _ _ _ => if tb ("", x) = 0 then tBk tb l else ((x, none), x, tb ("", x)) :: tBk tb l
    | .ClassDef C _ _ b _ _ _ _ _ _ _ => if excNames.contains C then tBk tb l else tMk C tb b ++ tBk tb l
    | _ => tBk tb l
def plainA : Arguments → Bool
  | ⟨[], _, none, [], [], none, []⟩ => true
  | _ => false
def stOk (tb : Nat) (st : Stmt) : Bool := plainA (defArgs st) && C8.scC (fnOf tb st).N (fnOf tb st).ps (defScope st) && decide (fnOf tb st).ps.Nodup
def stM (C : Str) (tb : Str × Str → Nat) : List Stmt → Bool
  | [] => true
  | st :: l => (match st with
    | .FunctionDef y _ _ _ _ _ _ _ _ _ => stOk (tb (C, y)) st
    | _ => true) && stM C tb l
def stB (tb : Str × Str → Nat) : List Stmt → Bool
  | [] => true
  | st :: l => (match st with
    | .FunctionDef x _ _ _ _ _ _ _ _ _ => stOk (tb ("", x)) st
    | .ClassDef C _ _ b _ _ _ _ _ _ _ => excNames.contains C || stM C tb b
    | _ => true) && stB tb l
def toldC : List Stmt → Bool
  | [] => false
  | st :: l => (match st with
    | .FunctionDef x _ _ _ _ _ _ _ _ _ => decide (x = ("_law_told" : Str)) && (match (fnOf 0 st).ps with
      | [a] => okN a && decide (toldBody a (defBody st) = some toldL) && toldL.all (fun p => decide ((defScope st).names.lookup p.1 = some .globalImplicit)) && decide ((fnOf 0 st).N[0]? = some a) && stOk 0 st
      | _ => false)
    | _ => false) || toldC l
theorem dM_mem {C y : Str} {st : Stmt} (h : isDef y st) : ∀ {b : List Stmt}, st ∈ b → dOf (C, some y) y (C ++ "." ++ y) st ∈ dM C b
  | [], z => by cases z
  | a :: l, z => by
    rcases List.mem_cons.mp z with e | z
    · subst e
      obtain ⟨_, _, _, _, _, _, _, _, _, rfl⟩ := h
      exact List.mem_cons_self ..
    · have := dM_mem (C := C) h z
      unfold dM
      split
      · exact List.mem_cons_of_mem _ this
      · exact this
theorem tMk_mem {C y : Str} {tb : Str × Str → Nat} {st : Stmt} (h : isDef y st) (hk : tb (C, y) ≠ 0) : ∀ {b : List Stmt}, st ∈ b → ((C, some y), C ++ "." ++ y, tb (C, y)) ∈ tMk C tb b
  | [], z => by cases z
  | a :: l, z => by
    rcases List.mem_cons.mp z with e | z
    · subst e
      obtain ⟨_, _, _, _, _, _, _, _, _, rfl⟩ := h
      unfold tMk
      dsimp only
      rw [if_neg hk]
      exact List.mem_cons_self ..
    · have := tMk_mem (C := C) h hk z
      unfold tMk
      split
      · split
        · exact this
        · exact List.mem_cons_of_mem _ this
      · exact this
theorem stM_mem {C y : Str} {tb : Str × Str → Nat} {st : Stmt} (h : isDef y st) : ∀ {b : List Stmt}, st ∈ b → stM C tb b = true → stOk (tb (C, y)) st = true
  | [], z, _ => by cases z
  | a :: l, z, q => by
    unfold stM at q
    rw [Bool.and_eq_true] at q
    rcases List.mem_cons.mp z with e | z
    · subst e
      obtain ⟨_, _, _, _, _, _, _, _, _, rfl⟩ := h
      exact q.1
    · exact stM_mem h z q.2
/-- where a def stands in the text -/
inductive Where (b : List Stmt) : Str × Str → He.Defn → Str → Str → Stmt → Prop where
  | top {x : Str} {st : Stmt} (h : isDef x st) (m : st ∈ b) : Where b ("", x) (x, none) x x st
  | meth {C y : Str} {st : Stmt} {cb : List Stmt} {u1 u2 u3 u4 u5 u6 u7 u8 u9} (hC : excNames.contains C = false) (m : .ClassDef C u1 u2 cb u3 u4 u5 u6 u7 u8 u9 ∈ b) (h : isDef y st) (m2 : st ∈ cb) : Where b (C, y) (C, some y) y (C ++ "." ++ y) st
theorem where_d {k : Str × Str} {a : He.Defn} {x q : Str} {st : Stmt} : ∀ {b : List Stmt}, Where b k a x q st → dOf a x q st ∈ dB b
  | [], .top _ m => by cases m
  | [], .meth _ m _ _ => by cases m
  | s :: l, .top h m => by
    rcases List.mem_cons.mp m with e | m
    · subst e
      obtain ⟨_, _, _, _, _, _, _, _, _, rfl⟩ := h
      exact List.mem_cons_self ..
    · have := where_d (.top h m)
      unfold dB
      split
      · exact List.mem_cons_of_mem _ this
      · split
        · exact this
        · exact List.mem_append_right _ this
      · exact this
  | s :: l, .meth hC m h m2 => by
    rcases List.mem_cons.mp m with e | m
    · subst e
      unfold dB
      dsimp only
      rw [if_neg (by rw [hC]; decide)]
      exact List.mem_append_left _ (dM_mem h m2)
    · have := where_d (.meth hC m h m2)
      unfold dB
      split
      · exact List.mem_cons_of_mem _ this
      · split
        · exact this
        · exact List.mem_append_right _ this
      · exact this
theorem where_t {tb : Str × Str → Nat} {k : Str × Str} {a : He.Defn} {x q : Str} {st : Stmt} (hk : tb k ≠ 0) : ∀ {b : List Stmt}, Where b k a x q st → (a, q, tb k) ∈ tBk tb b
  | [], .top _ m => by cases m
  | [], .meth _ m _ _ => by cases m
  | s :: l, .top h m => by
    rcases List.mem_cons.mp m with e | m
    · subst e
      obtain ⟨_, _, _, _, _, _, _, _, _, rfl⟩ := h
      unfold tBk
      dsimp only
      rw [if_neg hk]
      exact List.mem_cons_self ..
    · have := where_t hk (.top h m)
      unfold tBk
      split
      · split
        · exact this
        · exact List.mem_cons_of_mem _ this
      · split
        · exact this
        · exact List.mem_append_right _ this
      · exact this
  | s :: l, .meth hC m h m2 => by
    rcases List.mem_cons.mp m with e | m
    · subst e
      unfold tBk
      dsimp only
      rw [if_neg (by rw [hC]; decide)]
      exact List.mem_append_left _ (tMk_mem h hk m2)
    · have := where_t hk (.meth hC m h m2)
      unfold tBk
      split
      · split
        · exact this
        · exact List.mem_cons_of_mem _ this
      · split
        · exact this
        · exact List.mem_append_right _ this
      · exact this
theorem where_s {tb : Str × Str → Nat} {k : Str × Str} {a : He.Defn} {x q : Str} {st : Stmt} : ∀ {b : List Stmt}, Where b k a x q st → stB tb b = true → stOk (tb k) st = true
  | [], .top _ m, _ => by cases m
  | [], .meth _ m _ _, _ => by cases m
  | s :: l, .top h m, z => by
    unfold stB at z
    rw [Bool.and_eq_true] at z
    rcases List.mem_cons.mp m with e | m
    · subst e
      obtain ⟨_, _, _, _, _, _, _, _, _, rfl⟩ := h
      exact z.1
    · exact where_s (.top h m) z.2
  | s :: l, .meth hC m h m2, z => by
    unfold stB at z
    rw [Bool.and_eq_true] at z
    rcases List.mem_cons.mp m with e | m
    · subst e
      have this : (excNames.contains _ || stM _ tb _) = true := z.1
      rw [hC] at this
      exact stM_mem h m2 this
    · exact where_s (.meth hC m h m2) z.2
theorem tabF_mem {tb : Str → Nat} {x : Str} {f : Fn} : ∀ {b : List Stmt}, lookF x (tabF tb b) = some f → ∃ st, isDef x st ∧ st ∈ b ∧ f = fnOf (tb x) st
  | [], h => by cases h
  | s :: l, h => by
    have up : lookF x (tabF tb l) = some f → ∃ st, isDef x st ∧ st ∈ s :: l ∧ f = fnOf (tb x) st := fun h => by
      obtain ⟨st, h1, h2, h3⟩ := tabF_mem h
      exact ⟨st, h1, List.mem_cons_of_mem _ h2, h3⟩
    unfold tabF at h
    split at h
    · unfold lookF at h
      split at h
      · rename_i e
        cases h
        have e : _ = x := e
        subst e
        exact ⟨_, ⟨_, _, _, _, _, _, _, _, _, rfl⟩, List.mem_cons_self .., rfl⟩
      · exact up h
    · exact up h
theorem lookF_app {κ : Type} [DecidableEq κ] {k : κ} {f : Fn} : ∀ {a b : List (κ × Fn)}, lookF k (a ++ b) = some f → lookF k a = some f ∨ lookF k b = some f
  | [], b, h => .inr h
  | p :: a, b, h => by
    have h : (if p.1 = k then some p.2 else lookF k (a ++ b)) = some f := h
    show (if p.1 = k then some p.2 else lookF k a) = some f ∨ _
    split at h
    · rename_i e
      rw [if_pos e]
      exact .inl h
    · rename_i e
      rw [if_neg e]
      exact lookF_app h
theorem lookF_map {C : Str} {k : Str × Str} {f : Fn} : ∀ {a : List (Str × Fn)}, lookF k (a.map fun p => ((C, p.1), p.2)) = some f → k.1 = C ∧ lookF k.2 a = some f
  | [], h => by cases h
  | p :: a, h => by
    have h' : (if (C, p.1) = k then some p.2 else lookF k (a.map fun p => ((C, p.1), p.2))) = some f := h
    show _ ∧ (if p.1 = k.2 then some p.2 else lookF k.2 a) = some f
    by_cases e : (C, p.1) = k
    · rw [if_pos e] at h'
      subst e
      exact ⟨rfl, by rw [if_pos rfl]; exact h'⟩
    · rw [if_neg e] at h'
      obtain ⟨h1, h2⟩ := lookF_map h'
      refine ⟨h1, ?_⟩
      rw [if_neg fun z => e (by rw [← h1, z])]
      exact h2
theorem tabM_mem {tb : Str × Str → Nat} {C m : Str} {f : Fn} {b0 : List Stmt} : ∀ {b : List Stmt}, (∀ s ∈ b, s ∈ b0) → lookF (C, m) (tabM tb b) = some f → ∃ st, Where b0 (C, m) (C, some m) m (C ++ "." ++ m) st ∧ f = fnOf (tb (C, m)) st
  | [], _, h => by cases h
  | s :: l, hb, h => by
    have up : lookF (C, m) (tabM tb l) = some f → _ := fun h => tabM_mem (fun s hs => hb s (List.mem_cons_of_mem _ hs)) h
    have hs := hb s (List.mem_cons_self ..)
    unfold tabM at h
    split at h
    · rename_i x u1 u2 cb u3 u4 u5 u6 u7 u8 u9
      split at h
      · exact up h
      · rename_i hx
        rcases lookF_app h with h | h
        · obtain ⟨h1, h2⟩ := lookF_map h
          have h1 : C = x := h1
          subst h1
          obtain ⟨st, i1, i2, i3⟩ := tabF_mem (tb := fun m => tb (C, m)) h2
          exact ⟨st, .meth (by simpa using hx) hs i1 i2, i3⟩
        · exact up h
    · exact up h
theorem tabC_no {x : Str} : ∀ {b : List Stmt}, (tabC b).contains x = true → excNames.contains x = false
  | [], h => by cases h
  | s :: l, h => by
    unfold tabC at h
    split at h
    · split at h
      · exact tabC_no h
      · rename_i hx
        rw [List.contains_cons, Bool.or_eq_true] at h
        rcases h with h | h
        · rw [beq_iff_eq.mp h]
          simpa using hx
        · exact tabC_no h
    · exact tabC_no h
end AL
set_option Elab.async false
set_option linter.all false
set_option maxRecDepth 100000
set_option maxHeartbeats 4000000
/-! AL42: the head's facts. -/
namespace AL
open PySem PySem.Spec PyProof.Rows L2
def isInt : D → Bool
  | .int _ => true
  | _ => false
def glFa (p : Str × D) : Option He.Fa := match p.2 with
  | .int i => some (.int p.1 i)
  | _ => none
/-- what the head is asked -/
def faL (P : Prog) (xs : List Str) : List He.Fa := (P.fns.map fun p => .glo p.1) ++ ((P.classes.flatMap fun C => [.glo C, .cls C, .mkr C]) ++ ((P.attrs.map fun p => .noat p.1 p.2) ++ ((P.meths.map fun p => .meth p.1.1 p.1.2) ++
  ((xs.flatMap fun x => .exc x :: excN.map fun y => .exm x y ([x, ("LampFault" : Str)].contains y)) ++ (excN.map .glo ++ (((bltN.filter fun x => !(lookF x P.fns).isSome && !P.classes.contains x).map .free) ++ P.gls.filterMap glFa))))))
/-- what is seen without the head -/
def okP (b : List Stmt) (tb : Str × Str → Nat) (xs : List Str) (P : Prog) : Bool := stB tb b && (xs.all excN.contains && (P.attrs.all (fun p => P.classes.contains p.1) && (P.meths.all (fun p => P.classes.contains p.1.1) && (P.classes.all (fun C => (lookF (C, ("__init__" : Str)) P.meths).isSome) &&
  (!P.classes.contains ("range" : Str) && (P.gls.all (fun p => isInt p.2) && (toldC b || (tBk tb b).all fun t => decide (t.2.2 ≠ 1))))))))
def lamN (k : Nat) : Str := if k = 1 then "<lambda>" else "<genexpr>"
def tTab (K : PySem.W.Frag) (l : List (He.Defn × Str × Nat)) : List (Addr × Str) := l.map fun t => ((He.cT K t.1).2, (t.2.1 ++ ".<locals>.") ++ lamN t.2.2)
theorem nodup_inj2 {α β : Type} {g : α → β} : ∀ {l : List α}, (l.map g).Nodup → ∀ {x y : α}, x ∈ l → y ∈ l → g x = g y → x = y
  | [], _, _, _, h, _, _ => by cases h
  | a :: l, hn, x, y, hx, hy, e => by
    obtain ⟨h1, h2⟩ := List.nodup_cons.mp hn
    rcases List.mem_cons.mp hx with ex | hx' <;> rcases List.mem_cons.mp hy with ey | hy'
    · rw [ex, ey]
    · rw [ex] at e
      exact absurd (e ▸ List.mem_map_of_mem hy') h1
    · rw [ey] at e
      exact absurd (e ▸ List.mem_map_of_mem hx') h1
    · exact nodup_inj2 h2 hx' hy' e
theorem plainA_of {a : Arguments} (h : plainA a = true) : ∃ as, a = ⟨[], as, none, [], [], none, []⟩ := by
  unfold plainA at h
  split at h
  · exact ⟨_, rfl⟩
  · cases h
section
variable {b : List Stmt} {tb : Str × Str → Nat} {xs : List Str} {q : Program} {w : World} {K : PySem.W.Frag} {mg : Str → Option Value} {base : Heap} {k : Str × Str} {a : He.Defn} {x ql : Str} {st : Stmt} {fd : FuncData}
theorem defAt_of (hw : Where b k a x ql st) (F : FunD K x ql (defArgs st) (defBody st) (defScope st) [] [] (He.fAd K a) fd) (hs : stOk (tb k) st = true) (TB : ∀ t ∈ tBk tb b, LamX.TabB base mg (He.cT K t.1).1 (He.cT K t.1).2)
    (nd : ((tBk tb b).map fun t => (He.cT K t.1).2).Nodup) (told : tb k = 1 → ToldOk q K mg) : DefAt (tTab K (tBk tb b)) q K mg base (fnOf (tb k) st) (He.fAd K a) fd := by
  unfold stOk at hs
  rw [Bool.and_eq_true, Bool.and_eq_true] at hs
  obtain ⟨⟨h1, h2⟩, h3⟩ := hs
  obtain ⟨as, ha⟩ := plainA_of h1
  have tab : ∀ n, tb k = n → n ≠ 0 → TabAt (tTab K (tBk tb b)) base mg fd.code ql ".<locals>." (lamN n) := fun n hn h0 => by
    have hm := where_t (tb := tb) (by rw [hn]; exact h0) hw
    obtain ⟨oc, od, dV, kV, doc, pm, an, cdv, ct, osl, e, lk, hcd, _, _⟩ := F.ex
    obtain ⟨c, ec⟩ := He.codeIn_ref hcd
    have hc : He.codeOf K a = c := He.codeOf_eq lk (by rw [e]; exact ec)
    refine ⟨(He.cT K a).1, (He.cT K a).2, TB _ hm, ?_, ?_, fun p hp e1 => ?_⟩
    · show fd.code = .ref (He.codeOf K a)
      rw [hc, e]
      exact ec
    · exact List.mem_map.mpr ⟨_, hm, by rw [hn]⟩
    · obtain ⟨t, ht, et⟩ := List.mem_map.mp hp
      subst et
      have := nodup_inj2 nd ht hm e1
      subst this
      show _ ++ lamN (tb k) = _
      rw [hn]
  refine ⟨⟨x, ql, as, ?_, ?_, fun z => ?_, fun z => ?_⟩, C8.fnScope_by h2, of_decide_eq_true h3, told⟩
  · rw [← ha]
    exact F
  · show as.map (·.arg) = (defArgs st).args.map _
    rw [ha]
    exact List.map_congr_left fun ⟨_, _, _⟩ _ => rfl
  · exact tab 1 z (by decide)
  · exact tab 2 z (by decide)
theorem tabF_has {tb : Str → Nat} (h : isDef x st) : ∀ {b : List Stmt}, st ∈ b → ∃ p ∈ tabF tb b, p.1 = x
  | [], z => by cases z
  | s :: l, z => by
    rcases List.mem_cons.mp z with e | z
    · subst e
      obtain ⟨_, _, _, _, _, _, _, _, _, rfl⟩ := h
      exact ⟨_, List.mem_cons_self .., rfl⟩
    · obtain ⟨p, hp, e⟩ := tabF_has (tb := tb) h z
      unfold tabF
      split
      · exact ⟨p, List.mem_cons_of_mem _ hp, e⟩
      · exact ⟨p, hp, e⟩
theorem toldC_mem : ∀ {b : List Stmt}, toldC b = true → ∃ st a, isDef "_law_told" st ∧ st ∈ b ∧ (fnOf 0 st).ps = [a] ∧ okN a = true ∧ toldBody a (defBody st) = some toldL ∧ (∀ p ∈ toldL, (defScope st).names.lookup p.1 = some .globalImplicit) ∧ (fnOf 0 st).N[0]? = some a ∧ stOk 0 st = true
  | [], h => by cases h
  | s :: l, h => by
    unfold toldC at h
    rw [Bool.or_eq_true] at h
    rcases h with h | h
    · split at h
      · rw [Bool.and_eq_true] at h
        obtain ⟨h1, h2⟩ := h
        have h1 := of_decide_eq_true h1
        subst h1
        split at h2
        · rename_i a ea
          simp only [Bool.and_eq_true, decide_eq_true_eq, List.all_eq_true] at h2
          obtain ⟨⟨⟨⟨k1, k2⟩, k3⟩, k4⟩, k5⟩ := h2
          exact ⟨_, a, ⟨_, _, _, _, _, _, _, _, _, rfl⟩, List.mem_cons_self .., ea, k1, k2, k3, k4, k5⟩
        · cases h2
      · cases h
    · obtain ⟨st, a, h1, h2, h3⟩ := toldC_mem h
      exact ⟨st, a, h1, List.mem_cons_of_mem _ h2, h3⟩
end
end AL
set_option Elab.async false
set_option linter.all false
set_option maxRecDepth 100000
set_option maxHeartbeats 4000000
/-! AL43: the program stands; a law's end. -/
namespace AL
open PySem PySem.Spec PyProof.Rows L2
theorem lookF_mem {κ : Type} [DecidableEq κ] {k : κ} {f : Fn} : ∀ {l : List (κ × Fn)}, lookF k l = some f → (k, f) ∈ l
  | [], h => by cases h
  | p :: l, h => by
    have h' : (if p.1 = k then some p.2 else lookF k l) = some f := h
    by_cases e : p.1 = k
    · rw [if_pos e] at h'
      cases h'
      subst e
      exact List.mem_cons_self ..
    · rw [if_neg e] at h'
      exact List.mem_cons_of_mem _ (lookF_mem h')
theorem lookK_mem2 {κ : Type} [DecidableEq κ] {k : κ} {f : D} : ∀ {l : List (κ × D)}, lookK k l = some f → (k, f) ∈ l
  | [], h => by cases h
  | p :: l, h => by
    have h' : (if p.1 = k then some p.2 else lookK k l) = some f := h
    by_cases e : p.1 = k
    · rw [if_pos e] at h'
      cases h'
      subst e
      exact List.mem_cons_self ..
    · rw [if_neg e] at h'
      exact List.mem_cons_of_mem _ (lookK_mem2 h')
theorem tabX_look {x : Str} {l : List Str} : ∀ {xs : List Str}, (tabX xs).lookup x = some l → x ∈ xs ∧ l = [x, "LampFault"]
  | [], h => by cases h
  | y :: ys, h => by
    have h' : (match x == y with | true => some [y, ("LampFault" : Str)] | false => (tabX ys).lookup x) = some l := h
    cases e : (x == y) with
    | true =>
      rw [e] at h'
      have := beq_iff_eq.mp e
      subst this
      cases h'
      exact ⟨List.mem_cons_self .., rfl⟩
    | false =>
      rw [e] at h'
      obtain ⟨h1, h2⟩ := tabX_look h'
      exact ⟨List.mem_cons_of_mem _ h1, h2⟩
section
variable {b : List Stmt} {tb : Str × Str → Nat} {xs : List Str} {chg tkd : Nat → Nat → Bool} {frozen : Str → Bool} {depth fuel : Nat} {q : Program} {w : World} {K : PySem.W.Frag} {mg : Str → Option Value} {base h : Heap} {ex : PySem.W.Frag → Bool} {P : Prog}
theorem prOk_of (hP : P = progOf b xs tb chg tkd frozen depth fuel) (s : He.SaysX (faL P xs) (dB b) [] ((tBk tb b).map (·.1)) ex w h K) (ok : okP b tb xs P = true) (nd : ((tBk tb b).map fun t => (He.cT K t.1).2).Nodup)
    (KX : K.In base) (G : base.Ns mainGlobals mg) (TB : ∀ t ∈ tBk tb b, LamX.TabB base mg (He.cT K t.1).1 (He.cT K t.1).2) : PrOk P (He.ga K) (tTab K (tBk tb b)) q K mg base := by
  have fact : ∀ {f : He.Fa}, f ∈ faL P xs → f.ok K = true := fun hf => s.t.d.facts hf
  unfold okP at ok
  simp only [Bool.and_eq_true, Bool.not_eq_true', List.all_eq_true, Bool.or_eq_true, decide_eq_true_eq] at ok
  obtain ⟨o1, o2, o3, o4, o5, o6, o7, o8⟩ := ok
  have fFn : ∀ p ∈ P.fns, (He.Fa.glo p.1).ok K = true := fun p hp => fact (by unfold faL; exact List.mem_append_left _ (List.mem_map.mpr ⟨p, hp, rfl⟩))
  have fC : ∀ C ∈ P.classes, ∀ f ∈ ([.glo C, .cls C, .mkr C] : List He.Fa), f.ok K = true := fun C hC f hf => fact (by
    unfold faL
    exact List.mem_append_right _ (List.mem_append_left _ (List.mem_flatMap.mpr ⟨C, hC, hf⟩)))
  have fA : ∀ p ∈ P.attrs, (He.Fa.noat p.1 p.2).ok K = true := fun p hp => fact (by
    unfold faL
    exact List.mem_append_right _ (List.mem_append_right _ (List.mem_append_left _ (List.mem_map.mpr ⟨p, hp, rfl⟩))))
  have fM : ∀ p ∈ P.meths, (He.Fa.meth p.1.1 p.1.2).ok K = true := fun p hp => fact (by
    unfold faL
    exact List.mem_append_right _ (List.mem_append_right _ (List.mem_append_right _ (List.mem_append_left _ (List.mem_map.mpr ⟨p, hp, rfl⟩)))))
  have fX : ∀ x ∈ xs, ∀ f ∈ (He.Fa.exc x :: excN.map fun y => .exm x y ([x, ("LampFault" : Str)].contains y)), f.ok K = true := fun x hx f hf => fact (by
    unfold faL
    exact List.mem_append_right _ (List.mem_append_right _ (List.mem_append_right _ (List.mem_append_right _ (List.mem_append_left _ (List.mem_flatMap.mpr ⟨x, hx, hf⟩))))))
  have fG : ∀ y ∈ excN, (He.Fa.glo y).ok K = true := fun y hy => fact (by
    unfold faL
    exact List.mem_append_right _ (List.mem_append_right _ (List.mem_append_right _ (List.mem_append_right _ (List.mem_append_right _ (List.mem_append_left _ (List.mem_map.mpr ⟨y, hy, rfl⟩)))))))
  have fB : ∀ x ∈ bltN, (lookF x P.fns).isSome = false → P.classes.contains x = false → (He.Fa.free x).ok K = true := fun x hx h1 h2 => fact (by
    unfold faL
    exact List.mem_append_right _ (List.mem_append_right _ (List.mem_append_right _ (List.mem_append_right _ (List.mem_append_right _ (List.mem_append_right _ (List.mem_append_left _ (List.mem_map.mpr ⟨x, List.mem_filter.mpr ⟨hx, by rw [h1, h2]; rfl⟩, rfl⟩))))))))
  have fL : ∀ p ∈ P.gls, ∀ f, glFa p = some f → f.ok K = true := fun p hp f hf => fact (by
    unfold faL
    exact List.mem_append_right _ (List.mem_append_right _ (List.mem_append_right _ (List.mem_append_right _ (List.mem_append_right _ (List.mem_append_right _ (List.mem_append_right _ (List.mem_filterMap.mpr ⟨p, hp, hf⟩))))))))
  have fun_ : ∀ {k a x ql st}, Where b k a x ql st → ∃ fd, FunD K x ql (defArgs st) (defBody st) (defScope st) [] [] (He.fAd K a) fd := fun hw => s.t.d.defs (where_d hw)
  have toldOk : ∀ {k a x ql st}, Where b k a x ql st → tb k = 1 → ToldOk q K mg := fun {k a x ql st} hw hk => by
    have hm := where_t (tb := tb) (by rw [hk]; decide) hw
    rcases o8 with o8 | o8
    · obtain ⟨sg, p, i1, i2, i3, i4, i5, i6, i7, i8⟩ := toldC_mem o8
      obtain ⟨fd, F⟩ := fun_ (.top i1 i2)
      have D := s.t.d
      obtain ⟨pr, hp, ep⟩ := tabF_has (tb := fun x => tb ("", x)) i1 i2
      have hg : mg ("_law_told" : Str) = some (.ref (He.ga K "_law_told")) := by
        have := He.glo_ok KX G (fFn pr (by rw [hP]; exact hp))
        rw [ep] at this
        exact this
      have i8' := i8
      unfold stOk at i8
      rw [Bool.and_eq_true, Bool.and_eq_true] at i8
      obtain ⟨⟨j1, j2⟩, j3⟩ := i8
      obtain ⟨as, ha⟩ := plainA_of j1
      have S : FnScope (fnOf 0 sg).N (fnOf 0 sg).ps (defScope sg) := C8.fnScope_by j2
      have ea : as.map (·.arg) = (fnOf 0 sg).ps := by
        show as.map (·.arg) = (defArgs sg).args.map _
        rw [ha]
        exact List.map_congr_left fun ⟨_, _, _⟩ _ => rfl
      rw [ha] at F
      have B : Binds K fd (fnOf 0 sg).ps [] := F.bindsN fun kV doc pm an cdv ct us hl => bind_plain ea (of_decide_eq_true j3) hl
      obtain ⟨oc, od, dV, kV, doc, pm, an, cdv, ct, osl, e, lk, hcd, _, _⟩ := F.ex
      subst e
      rw [i3] at B S
      exact ⟨_, _, _, _, dV, kV, doc, pm, cdv, ct, oc, an, od, osl, (fnOf 0 sg).N, p, hg, F.kp, lk, hcd, B, S, i7, i4, i5, i6⟩
    · exact absurd hk (o8 _ hm)
  have defAt : ∀ {k a x ql st}, Where b k a x ql st → ∃ fd, DefAt (tTab K (tBk tb b)) q K mg base (fnOf (tb k) st) (He.fAd K a) fd := fun hw => by
    obtain ⟨fd, F⟩ := fun_ hw
    exact ⟨fd, defAt_of hw F (where_s hw o1) TB nd (toldOk hw)⟩
  refine
    { gl := fun x d e => ?_
      fns := fun x f e => ?_
      meths := fun C m f e => ?_
      inits := fun C e => ?_
      blt := fun x hx h1 h2 => He.free_ok KX G (fB x hx h1 h2)
      attr := fun C f e => ?_
      exc := fun C e => ?_
      exm := fun x y e hy => ?_
      excG := fun y hy => He.glo_ok KX G (fG y hy)
      rng := o6 }
  · have hm := lookK_mem2 e
    have hi := o7 _ hm
    cases d with
    | int i =>
      obtain ⟨t, ht⟩ := He.int_ok KX G (fL _ hm _ rfl)
      exact ⟨.int i, _, ht, ⟨t, rfl⟩, fun ρ F => rfl⟩
    | _ => cases hi
  · have hm := lookF_mem e
    have hg := He.glo_ok KX G (fFn _ hm)
    rw [hP] at e
    obtain ⟨st, h1, h2, h3⟩ := tabF_mem (tb := fun x => tb ("", x)) e
    subst h3
    have hw : Where b ("", x) (x, none) x x st := .top h1 h2
    obtain ⟨fd, D⟩ := defAt hw
    obtain ⟨_, F⟩ := fun_ hw
    exact ⟨_, fd, D, hg, F.kp⟩
  · have hm := lookF_mem e
    have hc := o4 _ hm
    have hM := He.meth_ok (fM _ hm)
    rw [hP] at e
    obtain ⟨st, hw, h3⟩ := tabM_mem (b0 := b) (fun _ h => h) e
    subst h3
    obtain ⟨fd, D⟩ := defAt hw
    exact ⟨_, fd, D, He.cls_ok (fC C (List.contains_iff_mem.mp hc) (.cls C) (by simp)), hM⟩
  · have hC := List.contains_iff_mem.mp e
    have hi := o5 C hC
    cases ef : lookF (C, ("__init__" : Str)) P.meths with
    | none =>
      rw [ef] at hi
      cases hi
    | some f =>
      have e2 := ef
      rw [hP] at e2
      obtain ⟨st, hw, h3⟩ := tabM_mem (b0 := b) (fun _ h => h) e2
      subst h3
      obtain ⟨fd, D⟩ := defAt hw
      exact ⟨_, rfl, _, fd, D, He.cls_ok (fC C hC (.cls C) (by simp)), He.mkr_ok (fC C hC (.mkr C) (by simp)), He.glo_ok KX G (fC C hC (.glo C) (by simp))⟩
  · have hm := List.contains_iff_mem.mp e
    have hc := o3 _ hm
    exact ⟨He.cls_ok (fC C (List.contains_iff_mem.mp hc) (.cls C) (by simp)), He.noat_ok (fA _ hm)⟩
  · have e' : ((tabX xs).lookup C).isSome = true := by
      rw [hP] at e
      exact e
    cases el : (tabX xs).lookup C with
    | none =>
      rw [el] at e'
      cases e'
    | some l =>
      obtain ⟨h1, _⟩ := tabX_look el
      obtain ⟨k1, k2, k3, k4⟩ := He.exc_ok (fX C h1 (.exc C) (by simp))
      exact ⟨⟨_, _, _, _, PySem.F.excBase_ValueError, k1⟩, He.glo_ok KX G (fG C (List.contains_iff_mem.mp (o2 C h1))), k2, k3, k4⟩
  · have e' : ((tabX xs).lookup x).isSome = true := by
      rw [hP] at e
      exact e
    have ex : P.excs = tabX xs := by
      rw [hP]
      rfl
    cases el : (tabX xs).lookup x with
    | none =>
      rw [el] at e'
      cases e'
    | some l =>
      obtain ⟨h1, h2⟩ := tabX_look el
      rw [ex, el]
      subst h2
      exact He.exm_ok (fX x h1 (.exm x y ([x, ("LampFault" : Str)].contains y)) (List.mem_cons_of_mem _ (List.mem_map.mpr ⟨y, hy, rfl⟩)))
end
end AL
set_option Elab.async false
set_option linter.all false
set_option maxRecDepth 100000
set_option maxHeartbeats 4000000
/-! AL44: a law's end. -/
namespace AL
open PySem PySem.Spec PyProof.Rows L2
/-- what the head looks at besides: no list is written; the defs' tables are apart -/
def exL (ts : List (He.Defn × Str × Nat)) (K : PySem.W.Frag) : Bool := K.all (fun p => !decide (p.2.cls = .type "list")) && decide ((ts.map fun t => (He.cT K t.1).2).Nodup)
theorem repL_ints {ca : Str → Addr} {K : PySem.W.Frag} {ρ : List Addr} {F : Hp} : ∀ ns : List Int, RepL ca K ρ F (ns.map D.int) (ns.map V.int)
  | [] => rfl
  | n :: ns => ⟨.int n, ns.map V.int, rfl, rfl, repL_ints ns⟩
section
variable {b : List Stmt} {tb : Str × Str → Nat} {xs : List Str} {chg tkd : Nat → Nat → Bool} {frozen : Str → Bool} {depth fuel : Nat} {P : Prog} {k : Nat} {f : Fn} {st : Stmt} {l : PySem.W.OpenLaw} {n : Nat} {mg : Str → Option Value} {w : World} {K : PySem.W.Frag} {h : Heap} {fa : Addr}
theorem law_at (hP : P = progOf b xs tb chg tkd frozen depth fuel) (s : He.SaysX (faL P xs) (dB b) [] ((tBk tb b).map (·.1)) (exL (tBk tb b)) w h K) (KX : K.In h) (G : h.Ns mainGlobals mg) (ok : okP b tb xs P = true)
    (hst : isDef "law" st) (hm : st ∈ b) (hf : lookF ("law" : Str) P.fns = some (fnOf (tb ("", "law")) st)) (hps : (fnOf (tb ("", "law")) st).ps = [("script" : Str)]) (hfa : mg ("law" : Str) = some (.ref fa))
    (main : ∀ ns : List Int, ns.length ≤ n → (∀ z ∈ ns, Builtin.Int.intBits z ≤ 1048576) → isT (lawR P (k + 1) ns) = true) : LamX.LawAtS l w K (L2.CX l.prog w) (lvN k + 6 + 1) n "script" mg fa h := by
  have hex := s.more
  unfold exL at hex
  rw [Bool.and_eq_true, List.all_eq_true] at hex
  obtain ⟨x1, x2⟩ := hex
  have nd := of_decide_eq_true x2
  have hw : Where b ("", "law") ("law", none) "law" "law" st := .top hst hm
  have okC := ok
  unfold okP at okC
  rw [Bool.and_eq_true] at okC
  have hS := where_s (tb := tb) hw okC.1
  have F0 : ∃ fd, FunD K "law" "law" (defArgs st) (defBody st) (defScope st) [] [] (He.fAd K ("law", none)) fd := s.t.d.defs (where_d hw)
  obtain ⟨fd, F⟩ := F0
  have hga : He.ga K "law" = fa := by
    have : (He.Fa.glo "law").ok K = true := s.t.d.facts (by
      unfold faL
      exact List.mem_append_left _ (List.mem_map.mpr ⟨_, lookF_mem hf, rfl⟩))
    have e := He.glo_ok KX G this
    rw [hfa] at e
    cases e
    rfl
  have hfA : He.fAd K ("law", none) = fa := hga
  unfold stOk at hS
  rw [Bool.and_eq_true, Bool.and_eq_true] at hS
  obtain ⟨⟨j1, j2⟩, j3⟩ := hS
  obtain ⟨as, ha⟩ := plainA_of j1
  have ea : as.map (·.arg) = [("script" : Str)] := by
    rw [← hps]
    show as.map (·.arg) = (defArgs st).args.map _
    rw [ha]
    exact List.map_congr_left fun ⟨_, _, _⟩ _ => rfl
  refine ⟨fd, ((tBk tb b).map (·.1)).map (He.cT K), spC ⟨He.ga K, K, tTab K (tBk tb b)⟩ 1 ((lv P (k + 1)).call "law"), fun p hp => ?_, fun p hp => ?_, fun p hp => ?_, fun s u => ?_, fun H a ns hl hb hT hS => ?_, fun base hK hG hTB => ?_⟩
  · obtain ⟨t, ht, e⟩ := List.mem_map.mp hp
    subst e
    exact s.empty t ht
  · obtain ⟨t, ht, e⟩ := List.mem_map.mp hp
    subst e
    exact s.out t ht
  · obtain ⟨t, ht, e⟩ := List.mem_map.mp hp
    subst e
    exact PySem.W.codeHd_of_K KX (s.hd t ht)
  · have F' := F
    rw [ha] at F'
    exact F'.bindsA (ps := [("script" : Str)]) (fun kV doc pm an cdv ct us hl => bind_plain ea (by decide) hl) s [u] rfl
  · -- the law's own call
    have hR : Rd H a (.lst (ns.map V.int)) := by
      rcases hS with hS | ⟨o, its, m, e1, e2, _⟩
      · exact hS
      · have := x1 _ (He.lookup_mem e1)
        rw [show ((a, o) : Addr × Obj).2.cls = .type "list" from e2] at this
        simp at this
    obtain ⟨u, hu, hud⟩ : ∃ u, H a = some u ∧ (u = .lst (ns.map V.int) ∨ ∃ o, u = .frz o (.lst (ns.map V.int))) := by
      rcases hR with hR | ⟨o, hR⟩
      · exact ⟨_, hR, .inl rfl⟩
      · exact ⟨_, hR, .inr ⟨o, rfl⟩⟩
    have hnt : ∀ ps, u ≠ .tbl ps := by
      rcases hud with e | ⟨o, e⟩ <;> (subst e; intro ps z; cases z)
    refine ⟨rfl, [.lst (ns.map .int)], S0, [], (fun c => if c = a then some u else none), (fun _ => none), ⟨.ref a, [], rfl, ⟨a, ns.map V.int, rfl, ?_, repL_ints ns⟩, rfl⟩, ?_, ?_⟩
    · have hq : (fun c => if c = a then some u else none : Hp) a = some u := if_pos rfl
      rcases hud with e | ⟨o, e⟩
      · exact .inl (by rw [hq, e])
      · exact .inr ⟨o, by rw [hq, e]⟩
    · refine ⟨rfl, List.nodup_nil, fun c v e => ?_, fun c v e => (by cases e), fun i c a e => (by cases e), fun a h => (by cases h), fun p hp => ?_, fun i h => (by cases h), fun i h => (by cases h), fun i c e => (by cases e), fun c ps e => ?_, fun c ps e => (by cases e)⟩
      · have e : (if c = a then some u else none) = some v := e
        by_cases hc : c = a
        · rw [if_pos hc] at e
          cases e
          subst hc
          exact ⟨hu, by simp, rfl⟩
        · rw [if_neg hc] at e
          cases e
      · obtain ⟨t, ht, e⟩ := List.mem_map.mp hp
        subst e
        refine .nil ?_
        rw [off_out (by simp)]
        exact hT _ (List.mem_map.mpr ⟨t.1, List.mem_map.mpr ⟨t, ht, rfl⟩, rfl⟩)
      · have e : (if c = a then some u else none) = some (.tbl ps) := e
        by_cases hc : c = a
        · rw [if_pos hc] at e
          cases e
          exact hnt _ rfl
        · rw [if_neg hc] at e
          cases e
    · have hmn := main ns hl hb
      unfold lawR at hmn
      cases er : (lv P (k + 1)).call "law" [.lst (ns.map .int)] S0 with
      | ok d s1 =>
        rw [er] at hmn
        cases d with
        | bl c =>
          cases c with
          | true => exact fun v H' ρ' F' _ _ e => e
          | false => cases hmn
        | _ => cases hmn
      | err x s1 =>
        rw [er] at hmn
        cases hmn
      | bad =>
        rw [er] at hmn
        cases hmn
  · have TB : ∀ t ∈ tBk tb b, LamX.TabB base mg (He.cT K t.1).1 (He.cT K t.1).2 := fun t ht => hTB _ (List.mem_map.mpr ⟨t.1, List.mem_map.mpr ⟨t, ht, rfl⟩, rfl⟩)
    have pr := prOk_of (q := l.prog) (mg := mg) (base := base) hP s ok nd hK hG TB
    have lo := lv_ok (w := w) pr k
    obtain ⟨fa', fd', D', hm', hk'⟩ := pr.fns _ _ hf
    have hs2 := where_s (tb := tb) hw okC.1
    have told : tb ("", "law") = 1 → ToldOk l.prog K mg := fun z => D'.told z
    have D := defAt_of (q := l.prog) hw F hs2 TB nd told
    rw [hfA] at D
    have ec : (lv P (k + 1)).call "law" = runBody (cfgOf P (fnOf (tb ("", "law")) st).N (fnOf (tb ("", "law")) st).tb k (lv P k).call (lv P k).new (lv P k).meth) P.depth (fnOf (tb ("", "law")) st) := by
      funext ds s
      show (match lookF ("law" : Str) P.fns with
        | some f => runBody (cfgOf P f.N f.tb k (lv P k).call (lv P k).new (lv P k).meth) P.depth f ds s
        | none => .bad) = _
      rw [hf]
    rw [ec]
    have := def_ok (n := P.depth) pr lo D (sp := spC ⟨He.ga K, K, tTab K (tBk tb b)⟩ 1 (runBody (cfgOf P (fnOf (tb ("", "law")) st).N (fnOf (tb ("", "law")) st).tb k (lv P k).call (lv P k).new (lv P k).meth) P.depth (fnOf (tb ("", "law")) st))) (spC_len (by rw [hps]; rfl)) fun vs H Q E z => body_ends (by rw [hps]; exact z)
    rw [hps] at this
    exact this
end
end AL
set_option Elab.async false
set_option linter.all false
set_option maxRecDepth 100000
set_option maxHeartbeats 4000000
/-! AL50: the evaluator's rows without syntax. -/
namespace AL
open PySem PySem.Spec PyProof.Rows L2
abbrev MI := Sl → S → R (List D × S)
/-- the made object, by a flag -/
def mkC (ch : Bool) (d : D) (s : S) : R D := if ch = true then (match d.cell with
    | some q => alloc q s
    | none => .bad) else .ok d s
def manyW : List ME → Sl → S → R (List D)
  | [], _, s => .ok [] s
  | f :: fs, sl, s => (f sl s).bind fun d s1 => (manyW fs sl s1).bind fun ds s2 => .ok (d :: ds) s2
def andTW : List MT → MT
  | [], _, _ => .bad
  | [a], sl, s => a sl s
  | a :: l, sl, s => (a sl s).bind fun b s1 => if b = true then andTW l sl s1 else .ok false s1
def orTW : List MT → MT
  | [], _, _ => .bad
  | [a], sl, s => a sl s
  | a :: l, sl, s => (a sl s).bind fun b s1 => if b = true then .ok true s1 else orTW l sl s1
def andVW : List ME → ME
  | [], _, _ => .bad
  | [a], sl, s => a sl s
  | a :: l, sl, s => (a sl s).bind fun d s1 => (asB d s1).bind fun b s2 => if b = true then andVW l sl s2 else .ok (.bl false) s2
def orVW : List ME → ME
  | [], _, _ => .bad
  | [a], sl, s => a sl s
  | a :: l, sl, s => (a sl s).bind fun d s1 => (asB d s1).bind fun b s2 => if b = true then .ok (.bl true) s2 else orVW l sl s2
def ch1 (op : CmpOp) (a b : ME) : MT := fun sl s => (a sl s).bind fun x s1 => (b sl s1).bind fun y s2 => cmpM op x y s2
def ch2 (op op' : CmpOp) (a b c : ME) : MT := fun sl s => (a sl s).bind fun x s1 => (b sl s1).bind fun y s2 => (cmpM op x y s2).bind fun k s3 =>
    if k = true then (c sl s3).bind fun z s4 => cmpM op' y z s4 else .ok false s3
def Ebin (op : Operator) (ch : Bool) (a b : ME) : ME := bin (fun x y s => (binD op x y s).bind fun d s1 => mkC ch d s1) a b
def Eof (m : MT) : ME := fun sl s => (m sl s).bind fun b s2 => .ok (.bl b) s2
def Eife (t : MT) (a b : ME) : ME := fun sl s => (t sl s).bind fun b' s1 => if b' = true then a sl s1 else b sl s1
def Etup (es : List ME) : ME := fun sl s => (manyW es sl s).bind fun ds s1 => .ok (.tup ds) s1
def Elst (ch : Bool) (es : List ME) : ME := fun sl s => (manyW es sl s).bind fun ds s1 => mkC ch (.lst ds) s1
def Edic (ch t : Bool) : ME := fun _ s => mkC ch (if t = true then .dt [] else .dk []) s
def partW : Option ME → Sl → S → R (Option Int)
  | none, _, s => .ok none s
  | some e, sl, s => (e sl s).bind fun d s1 => (match d with
    | .int i => .ok (some i) s1
    | _ => .bad)
def Eslc (o : ME) (lo hi : Option ME) : ME := fun sl s => (o sl s).bind fun x s1 => (partW lo sl s1).bind fun a s2 => (partW hi sl s2).bind fun b s3 => (match cutD x a b s3 with
      | some d => .ok d s3
      | none => .bad)
def compW (it : MI) (g : MG) (t : MT) (e : ME) (ws : List Nat) : Sl → S → R (List D) := fun sl s => (it sl s).bind fun ls s1 => unlk s1 ls.2 (compL g t e (wipeS sl ws) ls.1 ls.2)
def Ecomp (ch : Bool) (it : MI) (g : MG) (t : MT) (e : ME) (ws : List Nat) : ME := fun sl s => (compW it g t e ws sl s).bind fun l s1 => mkC ch (.lst l) s1
def Ival (e : ME) : MI := fun sl s => (e sl s).bind fun d s1 => R.of s1 (walk d s1)
def Irng (es : List ME) : MI := fun sl s => (manyW es sl s).bind fun ds s1 => R.of s1 ((rangeD ds).map fun l => (l, s1))
def Ivals (e : ME) : MI := fun sl s => (e sl s).bind fun d s1 => R.of s1 (walkV d s1)
def Iitms (e : ME) : MI := fun sl s => (e sl s).bind fun d s1 => R.of s1 (walkI d s1)
def Ecall (f : List D → S → R D) (es : List ME) : ME := fun sl s => (manyW es sl s).bind fun ds s1 => f ds s1
def Eblt (g : List D → S → R D) (ch : Bool) (es : List ME) : ME := fun sl s => (manyW es sl s).bind fun ds s1 => (g ds s1).bind fun d s2 => mkC ch d s2
def methZ (mt : Str → Str → Option (List D → S → R D)) (y : D) (m : Str) : Option (D → List D → S → R D) := match y with
  | .obj C _ => (mt C m).map fun g x ds s => g (x :: ds) s
  | .lst _ => methL m
  | .dk _ => methK m
  | .dt _ => methK m
  | .str _ => methS m
  | _ => none
def Emeth (mt : Str → Str → Option (List D → S → R D)) (o : ME) (m : Str) (es : List ME) : ME := fun sl s => (o sl s).bind fun x s1 => (match methZ mt (x.view s1) m with
      | some g => (manyW es sl s1).bind fun ds s2 => g x ds s2
      | none => .bad)
def Sval (e : ME) : Sl → S → R (List D) := fun sl s => (e sl s).bind fun d s1 => R.of s1 (takeD d s1)
def Svals (e : ME) : Sl → S → R (List D) := fun sl s => (e sl s).bind fun d s1 => R.of s1 ((walkV d s1).map (·.1))
def Sitms (e : ME) : Sl → S → R (List D) := fun sl s => (e sl s).bind fun d s1 => R.of s1 ((walkI d s1).map (·.1))
def Esort (ch b : Bool) (src : Sl → S → R (List D)) : ME := fun sl s => (src sl s).bind fun l s1 => (match sortR b l with
  | some q => mkC ch (.lst q) s1
  | none => .bad)
def excP (P : Prog) (x : Str) : Bool := (P.excs.lookup x).isSome
def subP (P : Prog) (x y : Str) : Bool := match P.excs.lookup x with
    | some l => l.contains y
    | none => false
def attrP (P : Prog) (C f : Str) : Bool := P.attrs.contains (C, f)
def Etold (P : Prog) (m : ME) : ME := fun sl s => match m sl s with
  | .err x s1 => if excP P x.cls = true then (match toldIn (subP P) x.cls toldL with
    | some t => .ok (.str t) s1
    | none => .bad) else .bad
  | r => r
def Emin (i : Nat) (body a : ME) : ME := fun sl s => (a sl s).bind fun d s1 => (match walk d s1 with
    | some ls => unlk s1 ls.2 ((keysL (fun d s => body (sl.set i (some d)) s) ls.1 ls.2).bind fun r s3 => (match r with
      | [] => .bad
      | y :: r => if (okSort ((y :: r).map (·.1)) && ((y :: r).map (·.1)).all fullD) = true then .ok (minK y r).2 s3 else .bad))
    | none => .bad)
def Egen (k : Str) (it : MI) (g : MG) (t : MT) (e : ME) (ws : List Nat) : ME := fun sl s => (it sl s).bind fun ls s1 => unlk s1 ls.2 (genC k g t e (wipeS sl ws) ls.1 ls.2)
def Elrg (ch : Bool) (es : List ME) : ME := fun sl s => (manyW es sl s).bind fun ds s1 => (match rangeX ds with
    | some l => mkC ch (.lst l) s1
    | none => .bad)
/-! targets -/
def gManyW : List MG → List D → Sl → S → R Sl
  | [], [], sl, s => .ok sl s
  | f :: fs, d :: ds, sl, s => (f d sl s).bind fun sl1 s1 => gManyW fs ds sl1 s1
  | _, _, _, _ => .bad
def Gtup (gs : List MG) : MG := fun d sl s => match unpackD d s with
  | some l => gManyW gs l sl s
  | none => .bad
def Gatt (P : Prog) (o : ME) (f : Str) : MG := fun d sl s => (o sl s).noErr.bind fun x s1 => unitR sl (setAt (attrP P) x f d s1)
def Gix (o k : ME) : MG := fun d sl s => (o sl s).noErr.bind fun x s1 => (k sl s1).noErr.bind fun y s2 => unitR sl (setIx x y d s2)
/-! statements -/
def runW : List MS → MS
  | [], sl, s => .nx sl s
  | a :: l, sl, s => match a sl s with
    | .nx sl1 s1 => runW l sl1 s1
    | r => r
def Snop : MS := fun sl s => .nx sl s
def Sbrk : MS := fun sl s => .bk sl s
def Sctn : MS := fun sl s => .ct sl s
def SretN : MS := fun _ s => .rt .non s
def Sret (e : ME) : MS := fun sl s => (e sl s).sbind sl fun d s1 => .rt d s1
def Sexp (e : ME) : MS := fun sl s => (e sl s).sbind sl fun _ s1 => .nx sl s1
def Sif (t : MT) (a b : MS) : MS := fun sl s => (t sl s).sbind sl fun b' s1 => if b' = true then a sl s1 else b sl s1
def Sasg (e : ME) (g : MG) : MS := fun sl s => (e sl s).sbind sl fun d s1 => ((g d sl s1).noErr).sbind sl fun sl1 s2 => .nx sl1 s2
/-- a, b = x, y: by a tuple; right to left -/
def Stup (es : List ME) (gs : List MG) : MS := fun sl s => (manyW es sl s).sbind sl fun ds s1 => ((Gtup gs (.tup ds) sl s1).noErr).sbind sl fun sl1 s2 => .nx sl1 s2
def SswN (N : List Str) (xs : List Str) (es : List ME) : MS := fun sl s => (manyW es sl s).sbind sl fun ds s1 => (match setR N xs ds sl with
      | some sl1 => .nx sl1 s1
      | none => .bad)
def Saug (i : Nat) (op : Operator) (e : ME) : MS := fun sl s => (slot i sl s).sbind sl fun x s1 => (e sl s1).sbind sl fun y s2 => (augD op x y s2).sbind sl fun d s3 => .nx (sl.set i (some d)) s3
def SaugA (P : Prog) (o : ME) (f : Str) (op : Operator) (e : ME) : MS := fun sl s => (o sl s).sbind sl fun ov s1 => (match getAt ov f s1 with
    | some x => (e sl s1).sbind sl fun y s2 => (augD op x y s2).sbind sl fun d s3 => (setAt (attrP P) ov f d s3).sbind sl fun _ s4 => .nx sl s4
    | none => .bad)
def Sfor (it : MI) (g : MG) (b : MS) : MS := fun sl s => (it sl s).sbind sl fun ls s1 => unlkS s1 ls.2 (forL (fun d sl s => (g d sl s).noErr) b ls.1 sl ls.2)
def Swhl (n : Nat) (t : MT) (b : MS) : MS := whileL t b n
def Srai (C : Str) (e : ME) : MS := fun sl s => (e sl s).sbind sl fun _ s1 => .er ⟨C, none⟩ sl s1
def Sdel (o k : ME) : MS := fun sl s => (o sl s).sbind sl fun ov s1 => (k sl s1).sbind sl fun kv s2 => (delIx ov kv s2).sbind sl fun _ s3 => .nx sl s3
def Tnot (t : MT) : MT := fun sl s => (t sl s).bind fun b s1 => .ok (!b) s1
def Tall : MT := fun _ s => .ok true s
/-- a def's call, by its body -/
def defC (np n : Nat) (b : MS) (ds : List D) (s : S) : R D := if ds.length = np then (match b (ds.map some ++ List.replicate (n - ds.length) none) { s with bases := s.st.length :: s.bases } with
    | .nx _ s1 => exitF s.st.length s .non s1
    | .rt d s1 => exitF s.st.length s d s1
    | .er x _ s1 => exitX s.st.length s x s1
    | _ => .bad) else .bad
def iniC (fz : Bool) (C : Str) (np n : Nat) (b : MS) (ds : List D) (s : S) : R D := if ds.length + 1 = np then (match b ((.ref s.st.length :: ds).map some ++ List.replicate (n - (D.ref s.st.length :: ds).length) none) { s with st := s.st ++ [.ins C []], bases := s.st.length :: s.bases } with
    | .nx _ s1 => exitI fz C s.st.length s s1
    | .er x _ s1 => exitX s.st.length s x s1
    | _ => .bad) else .bad
end AL
set_option Elab.async false
set_option linter.all false
set_option maxRecDepth 100000
set_option maxHeartbeats 4000000
/-! AL51: symbolic runs. -/
namespace AL
open PySem PySem.Spec PyProof.Rows L2
section
variable {α β : Type} {s : S} {sl : Sl}
@[simp] theorem bind_ok (a : α) (s : S) (f : α → S → R β) : (R.ok a s).bind f = f a s := rfl
@[simp] theorem bind_err (x : Ex) (s : S) (f : α → S → R β) : (R.err x s).bind f = .err x s := rfl
@[simp] theorem bind_bad (f : α → S → R β) : (R.bad : R α).bind f = .bad := rfl
@[simp] theorem sbind_ok (a : α) (s : S) (sl : Sl) (f : α → S → RS) : (R.ok a s).sbind sl f = f a s := rfl
@[simp] theorem sbind_err (x : Ex) (s : S) (sl : Sl) (f : α → S → RS) : (R.err x s).sbind sl f = .er x sl s := rfl
@[simp] theorem noErr_ok (a : α) (s : S) : (R.ok a s).noErr = .ok a s := rfl
@[simp] theorem unitR_ok (u : Unit) (s : S) (sl : Sl) : unitR sl (.ok u s) = .ok sl s := rfl
@[simp] theorem pureE_ap (d : D) (sl : Sl) (s : S) : pureE d sl s = .ok d s := rfl
@[simp] theorem slot_0 (d : D) (l : Sl) (s : S) : slot 0 (some d :: l) s = .ok d s := rfl
@[simp] theorem slot_s (i : Nat) (x : Option D) (l : Sl) (s : S) : slot (i + 1) (x :: l) s = slot i l s := rfl
@[simp] theorem mkC_f (d : D) (s : S) : mkC false d s = .ok d s := rfl
@[simp] theorem gName_ap (i : Nat) (d : D) (sl : Sl) (s : S) : gName i d sl s = .ok (sl.set i (some d)) s := rfl
@[simp] theorem manyW_n (sl : Sl) (s : S) : manyW [] sl s = .ok [] s := rfl
@[simp] theorem manyW_c (f : ME) (fs : List ME) (sl : Sl) (s : S) : manyW (f :: fs) sl s = (f sl s).bind fun d s1 => (manyW fs sl s1).bind fun ds s2 => .ok (d :: ds) s2 := rfl
@[simp] theorem runW_n (sl : Sl) (s : S) : runW [] sl s = .nx sl s := rfl
/-- a row's end, and on -/
def RS.then (r : RS) (k : Sl → S → RS) : RS := match r with
  | .nx sl s => k sl s
  | r => r
@[simp] theorem runW_c (f : MS) (fs : List MS) (sl : Sl) (s : S) : runW (f :: fs) sl s = (f sl s).then (runW fs) := by
  unfold runW RS.then
  cases f sl s <;> rfl
@[simp] theorem then_nx (k : Sl → S → RS) : (RS.nx sl s).then k = k sl s := rfl
@[simp] theorem then_rt (d : D) (k : Sl → S → RS) : (RS.rt d s).then k = .rt d s := rfl
@[simp] theorem then_bk (k : Sl → S → RS) : (RS.bk sl s).then k = .bk sl s := rfl
@[simp] theorem then_ct (k : Sl → S → RS) : (RS.ct sl s).then k = .ct sl s := rfl
@[simp] theorem then_er (x : Ex) (k : Sl → S → RS) : (RS.er x sl s).then k = .er x sl s := rfl
end
@[simp] theorem Ebin_ap (op : Operator) (ch : Bool) (a b : ME) (sl : Sl) (s : S) : Ebin op ch a b sl s = (a sl s).bind fun x s1 => (b sl s1).bind fun y s2 => (binD op x y s2).bind fun d s1 => mkC ch d s1 := rfl
@[simp] theorem bin_ap (f : D → D → S → R D) (a b : ME) (sl : Sl) (s : S) : bin f a b sl s = (a sl s).bind fun x s1 => (b sl s1).bind fun y s2 => f x y s2 := rfl
@[simp] theorem una_ap (f : D → S → R D) (a : ME) (sl : Sl) (s : S) : una f a sl s = (a sl s).bind fun x s1 => f x s1 := rfl
@[simp] theorem ch1_ap (op : CmpOp) (a b : ME) (sl : Sl) (s : S) : ch1 op a b sl s = (a sl s).bind fun x s1 => (b sl s1).bind fun y s2 => cmpM op x y s2 := rfl
@[simp] theorem Sif_ap (t : MT) (a b : MS) (sl : Sl) (s : S) : Sif t a b sl s = (t sl s).sbind sl fun b' s1 => if b' = true then a sl s1 else b sl s1 := rfl
@[simp] theorem Sasg_ap (e : ME) (g : MG) (sl : Sl) (s : S) : Sasg e g sl s = (e sl s).sbind sl fun d s1 => ((g d sl s1).noErr).sbind sl fun sl1 s2 => .nx sl1 s2 := rfl
@[simp] theorem Sret_ap (e : ME) (sl : Sl) (s : S) : Sret e sl s = (e sl s).sbind sl fun d s1 => .rt d s1 := rfl
@[simp] theorem Eblt_ap (g : List D → S → R D) (ch : Bool) (es : List ME) (sl : Sl) (s : S) : Eblt g ch es sl s = (manyW es sl s).bind fun ds s1 => (g ds s1).bind fun d s2 => mkC ch d s2 := rfl
@[simp] theorem Gix_ap (o k : ME) (d : D) (sl : Sl) (s : S) : Gix o k d sl s = (o sl s).noErr.bind fun x s1 => (k sl s1).noErr.bind fun y s2 => unitR sl (setIx x y d s2) := rfl
theorem view_lst {i : Nat} {l : List D} {s : S} (h : s.st[i]? = some (.lst l)) : (D.ref i).view s = .lst l := by
  simp [D.view, h]
theorem view_dk {i : Nat} {l : List (Key × D)} {s : S} (h : s.st[i]? = some (.dk l)) : (D.ref i).view s = .dk l := by
  simp [D.view, h]
theorem view_ins {i : Nat} {c : Str} {l : List (Str × D)} {s : S} (h : s.st[i]? = some (.ins c l)) : (D.ref i).view s = .obj c l := by
  simp [D.view, h]
@[simp] theorem vw_int (i : Int) (s : S) : (D.int i).view s = .int i := rfl
@[simp] theorem vw_str (i : Str) (s : S) : (D.str i).view s = .str i := rfl
@[simp] theorem vw_bl (i : Bool) (s : S) : (D.bl i).view s = .bl i := rfl
@[simp] theorem vw_non (s : S) : D.non.view s = .non := rfl
@[simp] theorem vw_tup (l : List D) (s : S) : (D.tup l).view s = .tup l := rfl
@[simp] theorem view_lst' (l : List D) (s : S) : (D.lst l).view s = .lst l := rfl
theorem getIx_lst {x : D} {i : Int} {l : List D} {s : S} (h : x.view s = .lst l) : getIx x (.int i) s = (ixOf i l.length).bind fun j => l[j]? := by
  simp [getIx, h]
theorem eqS_int (n : Nat) (s : S) (a b : Int) : eqS (n + 1) s (.int a) (.int b) = some (decide (a = b)) := rfl
@[simp] theorem cmp_eq_int (s : S) (a b : Int) : cmpM .Eq (.int a) (.int b) s = .ok (decide (a = b)) s := rfl
@[simp] theorem cmp_ne_int (s : S) (a b : Int) : cmpM .NotEq (.int a) (.int b) s = .ok (!decide (a = b)) s := rfl
@[simp] theorem cmp_lt_int (s : S) (a b : Int) : cmpM .Lt (.int a) (.int b) s = .ok (decide (a < b)) s := rfl
@[simp] theorem cmp_le_int (s : S) (a b : Int) : cmpM .LtE (.int a) (.int b) s = .ok (decide (a ≤ b)) s := rfl
@[simp] theorem cmp_gt_int (s : S) (a b : Int) : cmpM .Gt (.int a) (.int b) s = .ok (decide (b < a)) s := rfl
@[simp] theorem cmp_ge_int (s : S) (a b : Int) : cmpM .GtE (.int a) (.int b) s = .ok (decide (b ≤ a)) s := rfl
@[simp] theorem add_int (s : S) (a b : Int) : binD .Add (.int a) (.int b) s = .ok (.int (a + b)) s := rfl
@[simp] theorem sub_int (s : S) (a b : Int) : binD .Sub (.int a) (.int b) s = .ok (.int (a - b)) s := rfl
theorem mul_int (s : S) {a b : Int} (h : a.natAbs < 2 ^ 64 ∨ b.natAbs < 2 ^ 64) : binD .Mult (.int a) (.int b) s = .ok (.int (a * b)) s := by
  simp only [binD, vw_int]
  rw [if_pos h]
theorem div_int (s : S) {a b : Int} (h : b ≠ 0 ∧ b.natAbs < 1073741824) : binD .FloorDiv (.int a) (.int b) s = .ok (.int (a.fdiv b)) s := by
  simp only [binD, vw_int]
  rw [if_pos h]
theorem mod_int (s : S) {a b : Int} (h : b ≠ 0) : binD .Mod (.int a) (.int b) s = .ok (.int (a.fmod b)) s := by
  simp only [binD, vw_int]
  rw [if_pos h]
@[simp] theorem intM_int (s : S) (a : Int) : intM [.int a] s = .ok (.int a) s := rfl
@[simp] theorem intM_bl (s : S) (a : Bool) : intM [.bl a] s = .ok (.int (b2D a)) s := rfl
/-- what a cell may take -/
theorem fits_int (s : S) (i : Nat) (a : Int) : fits s i (.int a) = true := by
  unfold fits
  rw [List.all_eq_true]
  intro b _
  simp [D.under]
theorem setIx_lst {s : S} {i : Nat} {j : Int} {m : Nat} {l : List D} {v : D} (hf : free s i = true) (hv : fits s i v = true) (h : s.st[i]? = some (.lst l)) (hj : ixOf j l.length = some m) : setIx (.ref i) (.int j) v s = .ok () (putC i (.lst (l.set m v)) s) := by
  simp [setIx, hf, hv, h, hj]
/-! ### the dice -/
/-- the dice's cell -/
structure Dice (i : Nat) (a b k : Int) (s : S) : Prop where
  at_ : s.st[i]? = some (.lst [.int a, .int b, .int k])
  fr : free s i = true
theorem Dice.lt {i : Nat} {a b k : Int} {s : S} (h : Dice i a b k s) : i < s.st.length := (List.getElem?_eq_some_iff.mp h.at_).1
theorem Dice.ix0 {i : Nat} {a b k : Int} {s : S} (h : Dice i a b k s) : getIx (.ref i) (.int 0) s = some (.int a) := by
  rw [getIx_lst (view_lst h.at_)]
  rfl
theorem Dice.ix1 {i : Nat} {a b k : Int} {s : S} (h : Dice i a b k s) : getIx (.ref i) (.int 1) s = some (.int b) := by
  rw [getIx_lst (view_lst h.at_)]
  rfl
theorem Dice.ix2 {i : Nat} {a b k : Int} {s : S} (h : Dice i a b k s) : getIx (.ref i) (.int 2) s = some (.int k) := by
  rw [getIx_lst (view_lst h.at_)]
  rfl
/-- the dice set anew -/
def setD (i : Nat) (a b k : Int) (s : S) : S := putC i (.lst [.int a, .int b, .int k]) s
theorem Dice.put {i : Nat} {a b k : Int} {s : S} (h : Dice i a b k s) (a' b' k' : Int) : Dice i a' b' k' (setD i a' b' k' s) := by
  refine ⟨?_, h.fr⟩
  show (s.st.set i _)[i]? = _
  rw [List.getElem?_set_self h.lt]
theorem put_put (i : Nat) (a b k a' b' k' : Int) (s : S) : setD i a' b' k' (setD i a b k s) = setD i a' b' k' s := by
  unfold setD putC
  simp
theorem Dice.set0 {i : Nat} {a b k : Int} {s : S} (h : Dice i a b k s) (v : Int) : setIx (.ref i) (.int 0) (.int v) s = .ok () (setD i v b k s) := setIx_lst h.fr (fits_int s i v) h.at_ (m := 0) rfl
theorem Dice.set1 {i : Nat} {a b k : Int} {s : S} (h : Dice i a b k s) (v : Int) : setIx (.ref i) (.int 1) (.int v) s = .ok () (setD i a v k s) := setIx_lst h.fr (fits_int s i v) h.at_ (m := 1) rfl
theorem Dice.set2 {i : Nat} {a b k : Int} {s : S} (h : Dice i a b k s) (v : Int) : setIx (.ref i) (.int 2) (.int v) s = .ok () (setD i a b v s) := setIx_lst h.fr (fits_int s i v) h.at_ (m := 2) rfl
/-- a throw: what comes out, the dice behind it -/
def rollV (a b k m : Int) : Int := if k = 2 ∨ (k = 1 ∧ 0 < a) then a.fmod m else (((a * 48271 + b * 69621 + 11).fmod 2147483647).fdiv 7 + (a * 48271 + b * 69621 + 11).fmod 2147483647).fmod m
def rollA (a b k m : Int) : Int := if k = 2 ∨ (k = 1 ∧ 0 < a) then a.fdiv m else (a * 48271 + b * 69621 + 11).fmod 2147483647
def rollB (a b k : Int) : Int := if k = 2 ∨ (k = 1 ∧ 0 < a) then b else b + 1
def rollK (a k : Int) : Int := if k = 2 ∨ (k = 1 ∧ 0 < a) then k else 0
@[simp] theorem atM_ap (f : Str) (x : D) (s : S) : atM f x s = match getAt x f s with
  | some d => .ok d s
  | none => .bad := rfl
@[simp] theorem ixM_ap (x y : D) (s : S) : ixM x y s = match getIx x y s with
  | some d => .ok d s
  | none => .bad := rfl
/-- a throw's place -/
theorem roll_lt {a b k m : Int} (hm : 0 < m) : 0 ≤ rollV a b k m ∧ rollV a b k m < m := by
  unfold rollV
  split
  · exact ⟨Int.fmod_nonneg_of_pos _ hm, Int.fmod_lt_of_pos _ hm⟩
  · exact ⟨Int.fmod_nonneg_of_pos _ hm, Int.fmod_lt_of_pos _ hm⟩
/-- the dice's cell is ahead of a def's own cells: what a call gives back -/
theorem defC_rt {np n : Nat} {b : MS} {ds : List D} {s s1 : S} {d : D} (hl : ds.length = np) (h : b (ds.map some ++ List.replicate (n - ds.length) none) { s with bases := s.st.length :: s.bases } = .rt d s1)
    (e1 : s1.lk = s.lk) (e2 : s1.bases = s.st.length :: s.bases) (hu : d.under s.st.length = true) : defC np n b ds s = .ok d { s1 with st := s1.st.take s.st.length, bases := s.bases } := by
  unfold defC
  rw [if_pos hl, h]
  unfold exitF
  dsimp only
  rw [if_pos ⟨e1, e2⟩, if_pos hu]
theorem Dice.based {i : Nat} {a b k : Int} {s : S} (h : Dice i a b k s) (l : List Nat) : Dice i a b k { s with bases := l } := ⟨h.at_, h.fr⟩
@[simp] theorem mkC_lst (l : List D) (s : S) : mkC true (.lst l) s = .ok (.ref s.st.length) { s with st := s.st ++ [.lst l] } := rfl
@[simp] theorem mkC_dk (l : List (Key × D)) (s : S) : mkC true (.dk l) s = .ok (.ref s.st.length) { s with st := s.st ++ [.dk l] } := rfl
@[simp] theorem ch2_ap (op op' : CmpOp) (a b c : ME) (sl : Sl) (s : S) : ch2 op op' a b c sl s = (a sl s).bind fun x s1 => (b sl s1).bind fun y s2 => (cmpM op x y s2).bind fun k s3 =>
    if k = true then (c sl s3).bind fun z s4 => cmpM op' y z s4 else .ok false s3 := rfl
@[simp] theorem Elst_ap (ch : Bool) (es : List ME) (sl : Sl) (s : S) : Elst ch es sl s = (manyW es sl s).bind fun ds s1 => mkC ch (.lst ds) s1 := rfl
@[simp] theorem Etup_ap (es : List ME) (sl : Sl) (s : S) : Etup es sl s = (manyW es sl s).bind fun ds s1 => .ok (.tup ds) s1 := rfl
@[simp] theorem Eof_ap (m : MT) (sl : Sl) (s : S) : Eof m sl s = (m sl s).bind fun b s2 => .ok (.bl b) s2 := rfl
@[simp] theorem Ecall_ap (f : List D → S → R D) (es : List ME) (sl : Sl) (s : S) : Ecall f es sl s = (manyW es sl s).bind fun ds s1 => f ds s1 := rfl
@[simp] theorem Eife_ap (t : MT) (a b : ME) (sl : Sl) (s : S) : Eife t a b sl s = (t sl s).bind fun b' s1 => if b' = true then a sl s1 else b sl s1 := rfl
@[simp] theorem Ecomp_ap (ch : Bool) (it : MI) (g : MG) (t : MT) (e : ME) (ws : List Nat) (sl : Sl) (s : S) : Ecomp ch it g t e ws sl s = (it sl s).bind fun ls s1 => (unlk s1 ls.2 (compL g t e (wipeS sl ws) ls.1 ls.2)).bind fun l s1 => mkC ch (.lst l) s1 := by
  unfold Ecomp compW
  cases it sl s <;> rfl
@[simp] theorem of_some {α : Type} (a : α) (s : S) : R.of s (some a) = .ok a s := rfl
@[simp] theorem Ival_ap (e : ME) (sl : Sl) (s : S) : Ival e sl s = (e sl s).bind fun d s1 => R.of s1 (walk d s1) := rfl
@[simp] theorem walk_lst (l : List D) (s : S) : walk (.lst l) s = some (l, s) := rfl
@[simp] theorem walk_tup (l : List D) (s : S) : walk (.tup l) s = some (l, s) := rfl
@[simp] theorem unlk_id {α : Type} (a : α) (s0 s : S) (h : s.lk = s0.lk) : unlk s0 s0 (.ok a s) = .ok a s := by
  unfold unlk
  dsimp only
  rw [if_pos h]
  obtain ⟨x, y, z⟩ := s
  obtain ⟨x0, y0, z0⟩ := s0
  have h : z = z0 := h
  subst h
  rfl
/-- what a cell of the script makes of the dice -/
def diceA (c : Int) : Int := if 0 - 10 < c ∧ c < 10 then c.natAbs else c
def diceB (c : Int) : Int := if 0 - 10 < c ∧ c < 10 then 0 else 1 + c.fmod 1009
def diceK (c : Int) : Int := if 0 - 10 < c ∧ c < 10 then 2 else if 10 ^ 18 ≤ c then 1 else 0
def diceC (c : Int) : Cell := .lst [.int (diceA c), .int (diceB c), .int (diceK c)]
/-- the cells of the script that are used -/
def cellsOf (ns : List Int) (m : Nat) : List Int := if ns.take m = [] then [0] else ns.take m
/-- .. a new one -/
theorem defC_rt2 {np n : Nat} {b : MS} {ds : List D} {s s1 : S} {d : D} (hl : ds.length = np) (h : b (ds.map some ++ List.replicate (n - ds.length) none) { s with bases := s.st.length :: s.bases } = .rt d s1)
    (e1 : s1.lk = s.lk) (e2 : s1.bases = s.st.length :: s.bases) (hu : d.under s.st.length = false) : defC np n b ds s = .ok d { s1 with bases := s.bases } := by
  unfold defC
  rw [if_pos hl, h]
  unfold exitF
  dsimp only
  rw [if_pos ⟨e1, e2⟩, if_neg (by rw [hu]; decide)]
/-- .. nothing new was made -/
theorem defC_rt3 {np n : Nat} {b : MS} {ds : List D} {s s1 : S} {d : D} (hl : ds.length = np) (h : b (ds.map some ++ List.replicate (n - ds.length) none) { s with bases := s.st.length :: s.bases } = .rt d s1)
    (e1 : s1.lk = s.lk) (e2 : s1.bases = s.st.length :: s.bases) (e3 : s1.st.length ≤ s.st.length) : defC np n b ds s = .ok d { s1 with bases := s.bases } := by
  unfold defC
  rw [if_pos hl, h]
  unfold exitF
  dsimp only
  rw [if_pos ⟨e1, e2⟩, List.take_of_length_le e3]
  split <;> rfl
/-- .. by an exception -/
theorem defC_er {np n : Nat} {b : MS} {ds : List D} {s s1 : S} {C : Str} {sl : Sl} (hl : ds.length = np) (h : b (ds.map some ++ List.replicate (n - ds.length) none) { s with bases := s.st.length :: s.bases } = .er ⟨C, none⟩ sl s1)
    (e1 : s1.lk = s.lk) (e2 : s1.bases = s.st.length :: s.bases) (e3 : s1.st.length ≤ s.st.length) : defC np n b ds s = .err ⟨C, none⟩ { s1 with bases := s.bases } := by
  unfold defC
  rw [if_pos hl, h]
  unfold exitX
  dsimp only
  rw [if_pos ⟨e1, e2⟩, List.take_of_length_le e3]
@[simp] theorem cmp_eq_nil (l : List D) (s : S) : cmpM .Eq (.lst l) (.lst []) s = .ok l.isEmpty s := by
  cases l <;> rfl
@[simp] theorem cmp_ne_nil (l : List D) (s : S) : cmpM .NotEq (.lst l) (.lst []) s = .ok (!l.isEmpty) s := by
  cases l <;> rfl
theorem cut_take (l : List D) (m : Nat) (s : S) : AL.cutD (.lst l) none (some (m : Int)) s = some (.lst (l.take m)) := by
  simp only [AL.cutD, D.view, cut, HT.sIx_none, List.drop_zero, Nat.sub_zero]
  rw [HT.sIx_nat]
  congr 2
  by_cases h : m ≤ l.length
  · rw [Nat.min_eq_left h]
  · rw [Nat.min_eq_right (by omega), List.take_of_length_le (Nat.le_refl _), List.take_of_length_le (by omega)]
end AL
set_option Elab.async false
set_option linter.all false
set_option maxRecDepth 100000
set_option maxHeartbeats 4000000
/-! AL52: more of symbolic runs. -/
namespace AL
open PySem PySem.Spec PyProof.Rows L2
theorem ofString_inj {a b : String} : (Str.ofString a = Str.ofString b) ↔ a = b := by
  constructor
  · intro h
    rw [Str.ofString_eq_toList, Str.ofString_eq_toList] at h
    have h1 := congrArg (fun x : Str => x.cps.toList) h
    have h1 : a.toList.map Char.toNat = b.toList.map Char.toNat := by simpa using h1
    have h2 : a.toList = b.toList := (List.map_inj_right fun x y e => Char.toNat_inj.mp e).mp h1
    exact String.toList_inj.mp h2
  · intro h
    rw [h]
section
variable (sl : Sl) (s : S)
@[simp] theorem Emeth_ap (mt : Str → Str → Option (List D → S → R D)) (o : ME) (m : Str) (es : List ME) : Emeth mt o m es sl s = (o sl s).bind fun x s1 => (match methZ mt (x.view s1) m with
      | some g => (manyW es sl s1).bind fun ds s2 => g x ds s2
      | none => .bad) := rfl
@[simp] theorem Sfor_ap (it : MI) (g : MG) (b : MS) : Sfor it g b sl s = (it sl s).sbind sl fun ls s1 => unlkS s1 ls.2 (forL (fun d sl s => (g d sl s).noErr) b ls.1 sl ls.2) := rfl
@[simp] theorem Sval_ap (e : ME) : Sval e sl s = (e sl s).bind fun d s1 => R.of s1 (takeD d s1) := rfl
@[simp] theorem Svals_ap (e : ME) : Svals e sl s = (e sl s).bind fun d s1 => R.of s1 ((walkV d s1).map (·.1)) := rfl
@[simp] theorem Sitms_ap (e : ME) : Sitms e sl s = (e sl s).bind fun d s1 => R.of s1 ((walkI d s1).map (·.1)) := rfl
@[simp] theorem Ivals_ap (e : ME) : Ivals e sl s = (e sl s).bind fun d s1 => R.of s1 (walkV d s1) := rfl
@[simp] theorem Iitms_ap (e : ME) : Iitms e sl s = (e sl s).bind fun d s1 => R.of s1 (walkI d s1) := rfl
@[simp] theorem Irng_ap (es : List ME) : Irng es sl s = (manyW es sl s).bind fun ds s1 => R.of s1 ((rangeD ds).map fun l => (l, s1)) := rfl
@[simp] theorem Esort_ap (ch b : Bool) (src : Sl → S → R (List D)) : Esort ch b src sl s = (src sl s).bind fun l s1 => (match sortR b l with
  | some q => mkC ch (.lst q) s1
  | none => .bad) := rfl
@[simp] theorem Gatt_ap (P : Prog) (o : ME) (f : Str) (d : D) : Gatt P o f d sl s = (o sl s).noErr.bind fun x s1 => unitR sl (setAt (attrP P) x f d s1) := rfl
@[simp] theorem Gtup_ap (gs : List MG) (l : List D) : Gtup gs (.tup l) sl s = gManyW gs l sl s := rfl
@[simp] theorem gManyW_n : gManyW [] [] sl s = .ok sl s := rfl
@[simp] theorem gManyW_c (f : MG) (fs : List MG) (d : D) (ds : List D) : gManyW (f :: fs) (d :: ds) sl s = (f d sl s).bind fun sl1 s1 => gManyW fs ds sl1 s1 := rfl
@[simp] theorem Saug_ap (i : Nat) (op : Operator) (e : ME) : Saug i op e sl s = (slot i sl s).sbind sl fun x s1 => (e sl s1).sbind sl fun y s2 => (augD op x y s2).sbind sl fun d s3 => .nx (sl.set i (some d)) s3 := rfl
@[simp] theorem SaugA_ap (P : Prog) (o : ME) (f : Str) (op : Operator) (e : ME) : SaugA P o f op e sl s = (o sl s).sbind sl fun ov s1 => (match getAt ov f s1 with
    | some x => (e sl s1).sbind sl fun y s2 => (augD op x y s2).sbind sl fun d s3 => (setAt (attrP P) ov f d s3).sbind sl fun _ s4 => .nx sl s4
    | none => .bad) := rfl
@[simp] theorem Srai_ap (C : Str) (e : ME) : Srai C e sl s = (e sl s).sbind sl fun _ s1 => .er ⟨C, none⟩ sl s1 := rfl
@[simp] theorem Sdel_ap (o k : ME) : Sdel o k sl s = (o sl s).sbind sl fun ov s1 => (k sl s1).sbind sl fun kv s2 => (delIx ov kv s2).sbind sl fun _ s3 => .nx sl s3 := rfl
@[simp] theorem Sexp_ap (e : ME) : Sexp e sl s = (e sl s).sbind sl fun _ s1 => .nx sl s1 := rfl
@[simp] theorem Tnot_ap (t : MT) : Tnot t sl s = (t sl s).bind fun b s1 => .ok (!b) s1 := rfl
@[simp] theorem Tall_ap : Tall sl s = .ok true s := rfl
@[simp] theorem Stup_ap (es : List ME) (gs : List MG) : Stup es gs sl s = (manyW es sl s).sbind sl fun ds s1 => ((Gtup gs (.tup ds) sl s1).noErr).sbind sl fun sl1 s2 => .nx sl1 s2 := rfl
@[simp] theorem orT_1 (a : MT) : orTW [a] sl s = a sl s := rfl
@[simp] theorem orT_c (a b : MT) (l : List MT) : orTW (a :: b :: l) sl s = (a sl s).bind fun q s1 => if q = true then .ok true s1 else orTW (b :: l) sl s1 := rfl
@[simp] theorem andT_1 (a : MT) : andTW [a] sl s = a sl s := rfl
@[simp] theorem andT_c (a b : MT) (l : List MT) : andTW (a :: b :: l) sl s = (a sl s).bind fun q s1 => if q = true then andTW (b :: l) sl s1 else .ok false s1 := rfl
@[simp] theorem truM_ap (m : ME) : truM m sl s = (m sl s).bind fun d s1 => match truthD d s1 with
  | some b => .ok b s1
  | none => .bad := rfl
@[simp] theorem Edic_ap (ch : Bool) : Edic ch false sl s = mkC ch (.dk []) s := rfl
end
theorem unlkS_nx (sl : Sl) (s0 s : S) (h : s.lk = s0.lk) : unlkS s0 s0 (.nx sl s) = .nx sl s := by
  unfold unlkS
  dsimp only
  rw [if_pos h]
  obtain ⟨x, y, z⟩ := s
  obtain ⟨x0, y0, z0⟩ := s0
  have h : z = z0 := h
  subst h
  rfl
def dInts (l : List Int) : List D := l.map .int
def dStrs (l : List Str) : List D := l.map .str
theorem ok_ints (l : List Int) : okSort (dInts l) = true := by
  cases l with
  | nil => rfl
  | cons x l =>
    have h1 : (dInts (x :: l)).all fullD = true := by
      unfold dInts
      rw [List.all_map, List.all_eq_true]
      intro y _
      rfl
    have h2 : (dInts (x :: l)).all (fun e => kindK e == kindK (.int x) && shK (keyD e) == shK (keyD (.int x))) = true := by
      unfold dInts
      rw [List.all_map, List.all_eq_true]
      intro y _
      rfl
    show (decide (kindK (.int x) < 3) && !(keyD (.int x)).isEmpty && (dInts (x :: l)).all (fun e => kindK e == kindK (.int x) && shK (keyD e) == shK (keyD (.int x))) && ((dInts (x :: l)).all fullD || _)) = true
    rw [h1, h2]
    rfl
theorem ok_strs (l : List Str) : okSort (dStrs l) = true := by
  cases l with
  | nil => rfl
  | cons x l =>
    have h1 : (dStrs (x :: l)).all fullD = true := by
      unfold dStrs
      rw [List.all_map, List.all_eq_true]
      intro y _
      rfl
    have h2 : (dStrs (x :: l)).all (fun e => kindK e == kindK (.str x) && shK (keyD e) == shK (keyD (.str x))) = true := by
      unfold dStrs
      rw [List.all_map, List.all_eq_true]
      intro y _
      rfl
    show (decide (kindK (.str x) < 3) && !(keyD (.str x)).isEmpty && (dStrs (x :: l)).all (fun e => kindK e == kindK (.str x) && shK (keyD e) == shK (keyD (.str x))) && ((dStrs (x :: l)).all fullD || _)) = true
    rw [h1, h2]
    rfl
/-- sorted numbers, sorted texts -/
def sInts (l : List Int) : List Int := sortBy (fun a => keyD (.int a)) l
def sStrs (l : List Str) : List Str := sortBy (fun a => keyD (.str a)) l
theorem sort_ints (l : List Int) : sortR false (dInts l) = some (dInts (sInts l)) := by
  unfold sortR
  rw [if_pos (ok_ints l), if_neg (by decide)]
  unfold dInts sInts
  rw [sortBy_map]
theorem sort_strs (l : List Str) : sortR false (dStrs l) = some (dStrs (sStrs l)) := by
  unfold sortR
  rw [if_pos (ok_strs l), if_neg (by decide)]
  unfold dStrs sStrs
  rw [sortBy_map]
theorem sInts_perm (l : List Int) : (sInts l).Perm l := sortBy_perm l
theorem sStrs_perm (l : List Str) : (sStrs l).Perm l := sortBy_perm l
/-- a comprehension that changes nothing -/
theorem compL_map {α : Type} {g : MG} {t : MT} {e : ME} {sl : Sl} {s : S} (mk : α → D) (p : α → Bool) (f : α → D) : ∀ l : List α, (∀ x ∈ l, ∃ sl1, g (mk x) sl s = .ok sl1 s ∧ t sl1 s = .ok (p x) s ∧ (p x = true → e sl1 s = .ok (f x) s)) →
    compL g t e sl (l.map mk) s = .ok ((l.filter p).map f) s
  | [], _ => rfl
  | x :: l, h => by
    obtain ⟨sl1, h1, h2, h3⟩ := h x (List.mem_cons_self ..)
    have ih := compL_map mk p f l fun y hy => h y (List.mem_cons_of_mem _ hy)
    rw [List.map_cons]
    unfold compL
    rw [h1, noErr_ok, bind_ok, h2, noErr_ok, bind_ok]
    cases q : p x with
    | true =>
      rw [if_pos rfl, h3 q, noErr_ok, bind_ok, if_pos rfl, ih, bind_ok, List.filter_cons, q, if_pos rfl]
      rfl
    | false => rw [if_neg (by decide), if_pos rfl, ih, List.filter_cons, q, if_neg (by decide)]
/-- a walk to its end -/
theorem forL_nx {g : MG} {b : MS} (I : List D → Sl → S → Prop) (step : ∀ x xs sl s, I (x :: xs) sl s → ∃ sl1 s1 sl2 s2, g x sl s = .ok sl1 s1 ∧ (b sl1 s1 = .nx sl2 s2 ∨ b sl1 s1 = .ct sl2 s2) ∧ I xs sl2 s2) :
    ∀ xs sl s, I xs sl s → ∃ sl' s', forL g b xs sl s = .nx sl' s' ∧ I [] sl' s'
  | [], sl, s, h => ⟨sl, s, rfl, h⟩
  | x :: xs, sl, s, h => by
    obtain ⟨sl1, s1, sl2, s2, h1, h2, h3⟩ := step x xs sl s h
    obtain ⟨sl', s', h4, h5⟩ := forL_nx I step xs sl2 s2 h3
    refine ⟨sl', s', ?_, h5⟩
    unfold forL
    rw [h1, sbind_ok]
    rcases h2 with h2 | h2 <;> rw [h2] <;> exact h4
/-- .. nothing new was made, no value -/
theorem defC_nx3 {np n : Nat} {b : MS} {ds : List D} {s s1 : S} {sl : Sl} (hl : ds.length = np) (h : b (ds.map some ++ List.replicate (n - ds.length) none) { s with bases := s.st.length :: s.bases } = .nx sl s1)
    (e1 : s1.lk = s.lk) (e2 : s1.bases = s.st.length :: s.bases) (e3 : s1.st.length ≤ s.st.length) : defC np n b ds s = .ok .non { s1 with bases := s.bases } := by
  unfold defC
  rw [if_pos hl, h]
  unfold exitF
  dsimp only
  rw [if_pos ⟨e1, e2⟩, List.take_of_length_le e3]
  split <;> rfl
@[simp] theorem tupM_lst (l : List D) (s : S) : tupleM [.lst l] s = .ok (.tup l) s := rfl
@[simp] theorem tupM_tup (l : List D) (s : S) : tupleM [.tup l] s = .ok (.tup l) s := rfl
@[simp] theorem takeD_tup (l : List D) (s : S) : takeD (.tup l) s = some l := rfl
@[simp] theorem takeD_lst (l : List D) (s : S) : takeD (.lst l) s = some l := rfl
theorem add_tup {a b : List D} (s : S) (h : a.length + b.length ≤ sizeLine) : binD .Add (.tup a) (.tup b) s = .ok (.tup (a ++ b)) s := by
  simp only [binD, vw_tup]
  rw [if_pos ⟨rfl, h⟩]
theorem add_lst {a b : List D} (s : S) (h : a.length + b.length ≤ sizeLine) : binD .Add (.lst a) (.lst b) s = .ok (.lst (a ++ b)) s := by
  simp only [binD, view_lst']
  rw [if_pos h]
theorem dInts_app (a b : List Int) : dInts a ++ dInts b = dInts (a ++ b) := by simp [dInts]
theorem dStrs_app (a b : List Str) : dStrs a ++ dStrs b = dStrs (a ++ b) := by simp [dStrs]
theorem dInts_len (a : List Int) : (dInts a).length = a.length := by simp [dInts]
theorem dStrs_len (a : List Str) : (dStrs a).length = a.length := by simp [dStrs]
end AL
set_option Elab.async false
set_option linter.all false
set_option maxRecDepth 100000
set_option maxHeartbeats 4000000
/-! AL53: the least by a key; counts. -/
namespace AL
open PySem PySem.Spec PyProof.Rows L2
theorem ltKA_tr {a b c : List KA} (h1 : ltKA b a = false) (h2 : ltKA c b = false) : ltKA c a = false := by
  cases q : ltKA c a with
  | false => rfl
  | true =>
    rcases lex_negTrans (O := itemOrd) _ b _ q with z | z
    · exact absurd (z.symm.trans h2) (by decide)
    · exact absurd (z.symm.trans h1) (by decide)
theorem minK_spec : ∀ (l : List (D × D)) (x : D × D), minK x l ∈ x :: l ∧ ∀ y ∈ x :: l, ltKA (keyD y.1) (keyD (minK x l).1) = false
  | [], x => ⟨List.mem_cons_self .., fun y hy => by
    rw [List.mem_singleton.mp hy]
    exact lex_irrefl (O := itemOrd) _⟩
  | y :: l, x => by
    show minK x (y :: l) ∈ _ ∧ _
    have e : minK x (y :: l) = if ltKA (keyD y.1) (keyD x.1) = true then minK y l else minK x l := rfl
    by_cases h : ltKA (keyD y.1) (keyD x.1) = true
    · obtain ⟨i1, i2⟩ := minK_spec l y
      rw [e, if_pos h]
      refine ⟨List.mem_cons_of_mem _ i1, fun z hz => ?_⟩
      rcases List.mem_cons.mp hz with ez | hz
      · subst ez
        have hyz : ltKA (keyD z.1) (keyD y.1) = false := by
          cases q : ltKA (keyD z.1) (keyD y.1) with
          | false => rfl
          | true =>
            have := lex_trans (O := itemOrd) _ _ _ h q
            rw [lex_irrefl] at this
            cases this
        exact ltKA_tr (i2 y (List.mem_cons_self ..)) hyz
      · exact i2 z hz
    · have h' : ltKA (keyD y.1) (keyD x.1) = false := by simpa using h
      obtain ⟨i1, i2⟩ := minK_spec l x
      rw [e, if_neg h]
      refine ⟨?_, fun z hz => ?_⟩
      · rcases List.mem_cons.mp i1 with q | q
        · rw [q]
          exact List.mem_cons_self ..
        · exact List.mem_cons_of_mem _ (List.mem_cons_of_mem _ q)
      · rcases List.mem_cons.mp hz with ez | hz
        · rw [ez]
          exact i2 x (List.mem_cons_self ..)
        · rcases List.mem_cons.mp hz with ez | hz
          · rw [ez]
            exact ltKA_tr (i2 x (List.mem_cons_self ..)) h'
          · exact i2 z (List.mem_cons_of_mem _ hz)
theorem keysL_map {α : Type} {f : D → S → R D} {s : S} (mk kf : α → D) : ∀ l : List α, (∀ x ∈ l, f (mk x) s = .ok (kf x) s) → keysL f (l.map mk) s = .ok (l.map fun x => (kf x, mk x)) s
  | [], _ => rfl
  | x :: l, h => by
    have ih := keysL_map mk kf l fun y hy => h y (List.mem_cons_of_mem _ hy)
    rw [List.map_cons]
    unfold keysL
    rw [h x (List.mem_cons_self ..), noErr_ok, bind_ok, ih]
    rfl
theorem count_ints (k : Int) (s : S) (l : List Int) : countM (.lst (dInts l)) [.int k] s = .ok (.int (l.count k : Nat)) s := by
  have : ∀ l : List Int, countM.intsL (dInts l) = some l := fun l => by
    induction l with
    | nil => rfl
    | cons x l ih =>
      show (countM.intsL (dInts l)).map (x :: ·) = _
      rw [ih]
      rfl
  simp [countM, this]
theorem unlk_ok {α : Type} (a : α) (s0 s1 : S) : unlk s0 s1 (.ok a s1) = .ok a { s1 with lk := s0.lk } := by
  unfold unlk
  dsimp only
  rw [if_pos rfl]
/-- keys of two numbers -/
theorem lt_two (a b c d : Int) : ltKA [.inl a, .inl b] [.inl c, .inl d] = (decide (a < c) || (decide (a = c) && decide (b < d))) := by
  by_cases h1 : a < c
  · simp [ltKA, PyProof.Rows.lexLt, itemOrd, itemLt, h1]
  · by_cases h2 : a = c
    · subst h2
      simp [ltKA, PyProof.Rows.lexLt, itemOrd, itemLt]
    · have h3 : c < a := by omega
      simp [ltKA, PyProof.Rows.lexLt, itemOrd, itemLt, h1, h2, h3]
end AL
set_option Elab.async false
set_option linter.all false
set_option maxRecDepth 100000
set_option maxHeartbeats 4000000
/-! AL54: symbolic runs over states that are written out. -/
namespace AL
open PySem PySem.Spec PyProof.Rows L2
section
variable {s : S} {sl : Sl}
/-! kinds -/
@[simp] theorem truth_bl (b : Bool) (s : S) : truthD (.bl b) s = some b := rfl
@[simp] theorem truth_int (i : Int) (s : S) : truthD (.int i) s = some (i != 0) := rfl
@[simp] theorem truth_lst (l : List D) (s : S) : truthD (.lst l) s = some !l.isEmpty := rfl
@[simp] theorem truth_tup (l : List D) (s : S) : truthD (.tup l) s = some !l.isEmpty := rfl
@[simp] theorem truth_non (s : S) : truthD .non s = some false := rfl
@[simp] theorem cmp_eq_str (a b : Str) (s : S) : cmpM .Eq (.str a) (.str b) s = .ok (decide (a = b)) s := rfl
@[simp] theorem cmp_ne_str (a b : Str) (s : S) : cmpM .NotEq (.str a) (.str b) s = .ok (!decide (a = b)) s := rfl
@[simp] theorem cmp_eq_bl (a b : Bool) (s : S) : cmpM .Eq (.bl a) (.bl b) s = .ok (a == b) s := rfl
@[simp] theorem cmp_ne_bl (a b : Bool) (s : S) : cmpM .NotEq (.bl a) (.bl b) s = .ok (!(a == b)) s := rfl
@[simp] theorem cmp_is_non (s : S) : cmpM .Is .non .non s = .ok true s := rfl
@[simp] theorem cmp_is_str (a : Str) (s : S) : cmpM .Is (.str a) .non s = .ok false s := rfl
@[simp] theorem cmp_is_int (a : Int) (s : S) : cmpM .Is (.int a) .non s = .ok false s := rfl
@[simp] theorem cmp_is_bl (a : Bool) (s : S) : cmpM .Is (.bl a) .non s = .ok false s := rfl
@[simp] theorem cmp_is_tup (a : List D) (s : S) : cmpM .Is (.tup a) .non s = .ok false s := rfl
@[simp] theorem cmp_isn_non (s : S) : cmpM .IsNot .non .non s = .ok false s := rfl
@[simp] theorem cmp_isn_str (a : Str) (s : S) : cmpM .IsNot (.str a) .non s = .ok true s := rfl
@[simp] theorem cmp_isn_int (a : Int) (s : S) : cmpM .IsNot (.int a) .non s = .ok true s := rfl
@[simp] theorem cmp_isn_tup (a : List D) (s : S) : cmpM .IsNot (.tup a) .non s = .ok true s := rfl
@[simp] theorem cmp_si (a : Str) (b : Int) (s : S) : cmpM .Eq (.str a) (.int b) s = .ok false s := rfl
@[simp] theorem cmp_is (a : Int) (b : Str) (s : S) : cmpM .Eq (.int a) (.str b) s = .ok false s := rfl
@[simp] theorem cmp_ns (b : Str) (s : S) : cmpM .Eq .non (.str b) s = .ok false s := rfl
@[simp] theorem cmp_nsi (a : Str) (b : Int) (s : S) : cmpM .NotEq (.str a) (.int b) s = .ok true s := rfl
@[simp] theorem cmp_nis (a : Int) (b : Str) (s : S) : cmpM .NotEq (.int a) (.str b) s = .ok true s := rfl
@[simp] theorem b2D_t : b2D true = 1 := rfl
@[simp] theorem b2D_f : b2D false = 0 := rfl
@[simp] theorem notM_bl (b : Bool) (s : S) : notM (.bl b) s = .ok (.bl !b) s := rfl
@[simp] theorem negM_int (b : Int) (s : S) : negM (.int b) s = .ok (.int (-b)) s := rfl
@[simp] theorem asB_bl (b : Bool) (s : S) : asB (.bl b) s = .ok b s := rfl

theorem eqZ_self {f : D → D → Option Bool} : ∀ l : List D, (∀ x ∈ l, f x x = some true) → eqZ f l l = some true
  | [], _ => rfl
  | x :: l, h => by
    have ih := eqZ_self l fun y hy => h y (List.mem_cons_of_mem _ hy)
    show (match f x x, eqZ f l l with
      | some p, some q => some (p && q)
      | _, _ => none) = _
    rw [h x (List.mem_cons_self ..), ih]
    rfl
mutual
/-- flat data, tuples and lists of such, so deep -/
def flaB : Nat → D → Bool
  | _, .non => true
  | _, .bl _ => true
  | _, .int _ => true
  | _, .str _ => true
  | n + 1, .tup l => flasB n l
  | n + 1, .lst l => flasB n l
  | _, _ => false
def flasB : Nat → List D → Bool
  | _, [] => true
  | n, d :: l => flaB n d && flasB n l
end
theorem flasB_iff (n : Nat) : ∀ l : List D, flasB n l = true ↔ ∀ d ∈ l, flaB n d = true
  | [] => by simp [flasB]
  | d :: l => by
    unfold flasB
    rw [Bool.and_eq_true, flasB_iff n l]
    simp
theorem eqS_flat (s : S) : ∀ (n : Nat) (d : D), flaB n d = true → eqS (n + 1) s d d = some true
  | n, .non, _ => rfl
  | n, .bl b, _ => by cases b <;> rfl
  | n, .int i, _ => by show some (decide (i = i)) = _; simp
  | n, .str x, _ => by show some (decide (x = x)) = _; simp
  | 0, .tup l, h => by simp [flaB] at h
  | 0, .lst l, h => by simp [flaB] at h
  | n + 1, .tup l, h => by
    unfold flaB at h
    rw [flasB_iff] at h
    show (match eqZ (eqS (n + 1) s) l l with
      | some q => some (q && l.length == l.length)
      | none => none) = _
    rw [eqZ_self l fun x hx => eqS_flat s n x (h x hx)]
    simp
  | n + 1, .lst l, h => by
    unfold flaB at h
    rw [flasB_iff] at h
    show (if l.length = l.length then eqZ (eqS (n + 1) s) l l else some false) = _
    rw [if_pos rfl, eqZ_self l fun x hx => eqS_flat s n x (h x hx)]
  | _, .ref _, h => by simp [flaB] at h
  | _, .con _, h => by simp [flaB] at h
  | _, .dk _, h => by simp [flaB] at h
  | _, .dt _, h => by simp [flaB] at h
  | _, .obj _ _, h => by simp [flaB] at h
theorem ne_flat {d : D} (h : flaB 7 d = true) (s : S) : cmpM .NotEq d d s = .ok false s := by
  have := eqS_flat s 7 d h
  simp [cmpM, cmpOp, this]
theorem eqq_flat {d : D} (h : flaB 7 d = true) (s : S) : cmpM .Eq d d s = .ok true s := by
  have := eqS_flat s 7 d h
  simp [cmpM, cmpOp, this]
theorem flats_ints (n : Nat) (l : List Int) : flasB n (dInts l) = true := by
  rw [flasB_iff]
  intro d hd
  obtain ⟨x, _, e⟩ := List.mem_map.mp hd
  rw [← e]
  cases n <;> rfl
theorem flats_strs (n : Nat) (l : List Str) : flasB n (dStrs l) = true := by
  rw [flasB_iff]
  intro d hd
  obtain ⟨x, _, e⟩ := List.mem_map.mp hd
  rw [← e]
  cases n <;> rfl
theorem flats_map {α : Type} (n : Nat) (f : α → D) (l : List α) (h : ∀ x ∈ l, flaB n (f x) = true) : flasB n (l.map f) = true := by
  rw [flasB_iff]
  intro d hd
  obtain ⟨x, hx, e⟩ := List.mem_map.mp hd
  rw [← e]
  exact h x hx
/-! texts in states -/
@[simp] theorem fits_bl (s : S) (i : Nat) (a : Bool) : fits s i (.bl a) = true := by simp [fits, D.under]
@[simp] theorem fits_str (s : S) (i : Nat) (a : Str) : fits s i (.str a) = true := by simp [fits, D.under]
@[simp] theorem fits_non (s : S) (i : Nat) : fits s i .non = true := by simp [fits, D.under]
@[simp] theorem fits_int' (s : S) (i : Nat) (a : Int) : fits s i (.int a) = true := fits_int s i a
theorem under_ints (l : List Int) (n : Nat) : belowL n (dInts l) = true := by
  induction l with
  | nil => rfl
  | cons x l ih => exact ih
theorem under_strs (l : List Str) (n : Nat) : belowL n (dStrs l) = true := by
  induction l with
  | nil => rfl
  | cons x l ih => exact ih
@[simp] theorem fits_tupI (s : S) (i : Nat) (l : List Int) : fits s i (.tup (dInts l)) = true := by simp [fits, D.under, under_ints]
@[simp] theorem fits_tupS (s : S) (i : Nat) (l : List Str) : fits s i (.tup (dStrs l)) = true := by simp [fits, D.under, under_strs]
@[simp] theorem fits_lstI (s : S) (i : Nat) (l : List Int) : fits s i (.lst (dInts l)) = true := by simp [fits, D.under, under_ints]
theorem putC_put (i : Nat) (a b : Cell) (s : S) : putC i a (putC i b s) = putC i a s := by
  unfold putC
  simp
theorem putC_self {i : Nat} {c : Cell} (h : s.st[i]? = some c) : putC i c s = s := by
  unfold putC
  have : s.st.set i c = s.st := by
    obtain ⟨g1, g2⟩ := List.getElem?_eq_some_iff.mp h
    rw [← g2, List.set_getElem_self]
  rw [this]
@[simp] theorem putC_len (i : Nat) (c : Cell) (s : S) : (putC i c s).st.length = s.st.length := by
  show (s.st.set i c).length = _
  rw [List.length_set]
@[simp] theorem putC_lk (i : Nat) (c : Cell) (s : S) : (putC i c s).lk = s.lk := by cases s; exact rfl
@[simp] theorem putC_bases (i : Nat) (c : Cell) (s : S) : (putC i c s).bases = s.bases := by cases s; exact rfl
theorem at_put {i : Nat} {c : Cell} (h : i < s.st.length) : (putC i c s).st[i]? = some c := by
  show (s.st.set i c)[i]? = _
  rw [List.getElem?_set_self h]
theorem at_put_ne {i j : Nat} {c c' : Cell} (h : s.st[i]? = some c) (n : j ≠ i) : (putC j c' s).st[i]? = some c := by
  show (s.st.set j _)[i]? = _
  rw [List.getElem?_set_ne n]
  exact h
/-- an instance at q -/
theorem getAt_put {q : Nat} {C f : Str} {l : List (Str × D)} (h : q < s.st.length) : getAt (.ref q) f (putC q (.ins C l) s) = lookK f l := by
  simp [getAt, view_ins (at_put h)]
theorem setAt_put {q : Nat} {C f : Str} {l : List (Str × D)} {v : D} {at_ : Str → Str → Bool} (h : q < s.st.length) (hl : s.lk = []) (hv : fits (putC q (.ins C l) s) q v = true) (ha : at_ C f = true) (hn : l.length < 999) :
    setAt at_ (.ref q) f v (putC q (.ins C l) s) = .ok () (putC q (.ins C (setO f v l)) s) := by
  have hf : free (putC q (.ins C l) s) q = true := by simp [free, hl]
  simp [setAt, hf, hv, at_put h, ha, hn, putC_put]
/-! the telling -/
def tellR (P : Prog) : R D → R D
  | .err x s1 => if excP P x.cls = true then (match toldIn (subP P) x.cls toldL with
    | some t => .ok (.str t) s1
    | none => .bad) else .bad
  | r => r
@[simp] theorem Etold_ap (P : Prog) (m : ME) (sl : Sl) (s : S) : Etold P m sl s = tellR P (m sl s) := by
  unfold Etold tellR
  cases m sl s <;> rfl
@[simp] theorem tell_ok (P : Prog) (d : D) (s : S) : tellR P (.ok d s) = .ok d s := rfl
theorem tell_er {P : Prog} {x t : Str} (h1 : excP P x = true) (h2 : toldIn (subP P) x toldL = some t) (s : S) : tellR P (.err ⟨x, none⟩ s) = .ok (.str t) s := by
  unfold tellR
  dsimp only
  rw [if_pos h1, h2]
/-! methods -/
@[simp] theorem methZ_obj (mt : Str → Str → Option (List D → S → R D)) (C m : Str) (l : List (Str × D)) : methZ mt (.obj C l) m = (mt C m).map fun g x ds s => g (x :: ds) s := rfl
@[simp] theorem methZ_app (mt : Str → Str → Option (List D → S → R D)) (l : List D) : methZ mt (.lst l) "append" = some appendM := by simp [methZ, methL, ofString_inj]
@[simp] theorem methZ_cnt (mt : Str → Str → Option (List D → S → R D)) (l : List D) : methZ mt (.lst l) "count" = some countM := by simp [methZ, methL, ofString_inj]
@[simp] theorem methZ_idx (mt : Str → Str → Option (List D → S → R D)) (l : List D) : methZ mt (.lst l) "index" = some indexM := by simp [methZ, methL, ofString_inj]
@[simp] theorem methZ_popL (mt : Str → Str → Option (List D → S → R D)) (l : List D) : methZ mt (.lst l) "pop" = some popL := by simp [methZ, methL, ofString_inj]
@[simp] theorem methZ_get (mt : Str → Str → Option (List D → S → R D)) (l : List (Key × D)) : methZ mt (.dk l) "get" = some getM := by simp [methZ, methK, ofString_inj]
@[simp] theorem methZ_popK (mt : Str → Str → Option (List D → S → R D)) (l : List (Key × D)) : methZ mt (.dk l) "pop" = some popK := by simp [methZ, methK, ofString_inj]
theorem append_put {i : Nat} {l : List D} {v : D} (h : i < s.st.length) (hl : s.lk = []) (hv : fits (putC i (.lst l) s) i v = true) (hn : l.length < sizeLine) : appendM (.ref i) [v] (putC i (.lst l) s) = .ok .non (putC i (.lst (l ++ [v])) s) := by
  have hf : free (putC i (.lst l) s) i = true := by simp [free, hl]
  simp [appendM, hf, hv, at_put h, hn, putC_put]
/-! any, all, sum over a generator that changes nothing -/
@[simp] theorem Egen_ap (k : Str) (it : MI) (g : MG) (t : MT) (e : ME) (ws : List Nat) (sl : Sl) (s : S) : Egen k it g t e ws sl s = (it sl s).bind fun ls s1 => unlk s1 ls.2 (genC k g t e (wipeS sl ws) ls.1 ls.2) := rfl
theorem gnext_pure {α : Type} {g : MG} {t : MT} {e : ME} (mk : α → D) (p : α → Bool) (f : α → D) : ∀ l : List α, (∀ x ∈ l, ∃ sl1, g (mk x) sl s = .ok sl1 s ∧ t sl1 s = .ok (p x) s ∧ (p x = true → e sl1 s = .ok (f x) s)) →
    (l.filter p = [] ∧ gnext g t e sl (l.map mk) s = .ok none s) ∨ ∃ (x : α) (r : List α), l.filter p = x :: r.filter p ∧ (∀ y ∈ r, y ∈ l) ∧ r.length < l.length ∧ gnext g t e sl (l.map mk) s = .ok (some (f x, r.map mk)) s
  | [], _ => .inl ⟨rfl, rfl⟩
  | x :: l, h => by
    obtain ⟨sl1, h1, h2, h3⟩ := h x (List.mem_cons_self ..)
    rw [List.map_cons]
    unfold gnext
    rw [h1, noErr_ok, bind_ok, h2, noErr_ok, bind_ok]
    cases q : p x with
    | true =>
      rw [if_pos rfl, h3 q, noErr_ok, bind_ok, if_pos rfl]
      exact .inr ⟨x, l, by rw [List.filter_cons, q]; rfl, fun y hy => List.mem_cons_of_mem _ hy, Nat.lt_succ_self _, rfl⟩
    | false =>
      rw [if_neg (by decide), if_pos rfl, List.filter_cons, q]
      rcases gnext_pure mk p f l fun y hy => h y (List.mem_cons_of_mem _ hy) with ⟨h4, h5⟩ | ⟨y, r, h4, h5, h6, h7⟩
      · exact .inl ⟨h4, h5⟩
      · exact .inr ⟨y, r, h4, fun z hz => List.mem_cons_of_mem _ (h5 z hz), Nat.lt_succ_of_lt h6, h7⟩
theorem anyG_pure {α : Type} {g : MG} {t : MT} {e : ME} (kk : Bool) (mk : α → D) (p : α → Bool) (f : α → Bool) : ∀ (n : Nat) (l : List α), l.length < n → (∀ x ∈ l, ∃ sl1, g (mk x) sl s = .ok sl1 s ∧ t sl1 s = .ok (p x) s ∧ (p x = true → e sl1 s = .ok (.bl (f x)) s)) →
    anyG kk g t e sl n (l.map mk) s = .ok (.bl (if ((l.filter p).any fun x => f x == kk) = true then kk else !kk)) s
  | 0, l, hn, h => absurd hn (Nat.not_lt_zero _)
  | n + 1, l, hn, h => by
    unfold anyG
    rcases gnext_pure mk p (fun x => .bl (f x)) l h with ⟨h1, h2⟩ | ⟨x, r, h1, h2, h3, h4⟩
    · rw [h2, h1]
      rfl
    · rw [h4, h1]
      dsimp only
      by_cases hf : f x = kk
      · rw [if_pos hf]
        simp [hf]
      · rw [if_neg hf, anyG_pure kk mk p f n r (by omega) fun y hy => h y (h2 y hy)]
        have : (f x == kk) = false := by simpa using hf
        rw [List.any_cons, this, Bool.false_or]
theorem gen_any {α : Type} {g : MG} {t : MT} {e : ME} (mk : α → D) (p f : α → Bool) (l : List α) (h : ∀ x ∈ l, ∃ sl1, g (mk x) sl s = .ok sl1 s ∧ t sl1 s = .ok (p x) s ∧ (p x = true → e sl1 s = .ok (.bl (f x)) s)) :
    genC "any" g t e sl (l.map mk) s = .ok (.bl ((l.filter p).any f)) s := by
  unfold genC
  rw [if_neg (by simp [ofString_inj]), anyG_pure _ mk p f _ l (by rw [List.length_map]; exact Nat.lt_succ_self _) h]
  simp only [decide_true]
  congr 2
  cases q : (l.filter p).any f <;> simp_all
theorem gen_all {α : Type} {g : MG} {t : MT} {e : ME} (mk : α → D) (p f : α → Bool) (l : List α) (h : ∀ x ∈ l, ∃ sl1, g (mk x) sl s = .ok sl1 s ∧ t sl1 s = .ok (p x) s ∧ (p x = true → e sl1 s = .ok (.bl (f x)) s)) :
    genC "all" g t e sl (l.map mk) s = .ok (.bl ((l.filter p).all f)) s := by
  unfold genC
  rw [if_neg (by simp [ofString_inj]), anyG_pure _ mk p f _ l (by rw [List.length_map]; exact Nat.lt_succ_self _) h]
  have : decide (Str.ofString "all" = Str.ofString "any") = false := by simp [ofString_inj]
  rw [this]
  have e : ∀ m : List α, (if (m.any fun x => f x == false) = true then false else !false) = m.all f := fun m => by
    induction m with
    | nil => rfl
    | cons x m ih =>
      rw [List.any_cons, List.all_cons, ← ih]
      cases hx : f x
      · simp
      · simp
  rw [e]
theorem sumG_pure {α : Type} {g : MG} {t : MT} {e : ME} (mk : α → D) (p : α → Bool) (f : α → Int) (M : Nat) : ∀ (n : Nat) (a : Int) (l : List α), l.length < n → a.natAbs + l.length * M < 2 ^ 63 → (∀ x ∈ l, (f x).natAbs ≤ M) → (∀ x ∈ l, ∃ sl1, g (mk x) sl s = .ok sl1 s ∧ t sl1 s = .ok (p x) s ∧ (p x = true → e sl1 s = .ok (.int (f x)) s)) →
    sumG g t e sl n a (l.map mk) s = .ok (.int (a + ((l.filter p).map f).sum)) s
  | 0, a, l, hn, hb, hm, h => absurd hn (Nat.not_lt_zero _)
  | n + 1, a, l, hn, hb, hm, h => by
    unfold sumG
    rcases gnext_pure mk p (fun x => .int (f x)) l h with ⟨h1, h2⟩ | ⟨x, r, h1, h2, h3, h4⟩
    · rw [h2, h1]
      simp
    · rw [h4, h1]
      dsimp only
      have hx : x ∈ l := (List.mem_filter.mp (show x ∈ l.filter p by rw [h1]; exact List.mem_cons_self ..)).1
      have h5 := hm x hx
      have h6 : (r.length + 1) * M ≤ l.length * M := Nat.mul_le_mul_right M h3
      have h7 : (r.length + 1) * M = r.length * M + M := Nat.succ_mul _ _
      have h8 : longB (f x) = true := by
        unfold longB
        rw [Bool.and_eq_true, decide_eq_true_eq, decide_eq_true_eq]
        omega
      have h9 : longB (a + f x) = true := by
        unfold longB
        rw [Bool.and_eq_true, decide_eq_true_eq, decide_eq_true_eq]
        omega
      rw [h8, h9, if_pos (by rfl), sumG_pure mk p f M n (a + f x) r (by omega) (by omega) (fun y hy => hm y (h2 y hy)) fun y hy => h y (h2 y hy)]
      rw [List.map_cons, List.sum_cons, Int.add_assoc]
theorem gen_sum {α : Type} {g : MG} {t : MT} {e : ME} (mk : α → D) (p : α → Bool) (f : α → Int) (M : Nat) (l : List α) (hb : l.length * M < 2 ^ 63) (hm : ∀ x ∈ l, (f x).natAbs ≤ M) (h : ∀ x ∈ l, ∃ sl1, g (mk x) sl s = .ok sl1 s ∧ t sl1 s = .ok (p x) s ∧ (p x = true → e sl1 s = .ok (.int (f x)) s)) :
    genC "sum" g t e sl (l.map mk) s = .ok (.int ((l.filter p).map f).sum) s := by
  unfold genC
  rw [if_pos rfl, sumG_pure mk p f M _ 0 l (by rw [List.length_map]; exact Nat.lt_succ_self _) (by simpa using hb) hm h]
  simp
end
end AL
set_option Elab.async false
set_option linter.all false
set_option maxRecDepth 100000
set_option maxHeartbeats 4000000
/-! AL55: calls, by simp. -/
namespace AL
open PySem PySem.Spec PyProof.Rows L2
def base (l : List Nat) (s : S) : S := { s with bases := l }
section
variable {s s1 : S} {sl : Sl} {l l' : List Nat} {i : Nat} {c : Cell} {d : D}
@[simp] theorem base_put : base l (putC i c s) = putC i c (base l s) := by cases s; exact rfl
@[simp] theorem base_base : base l (base l' s) = base l s := by cases s; exact rfl
@[simp] theorem base_self : base s.bases s = s := by cases s; exact rfl
@[simp] theorem base_st : (base l s).st = s.st := by cases s; exact rfl
@[simp] theorem base_lk : (base l s).lk = s.lk := by cases s; exact rfl
@[simp] theorem base_bs : (base l s).bases = l := by cases s; exact rfl
@[simp] theorem base_mk (a : List Cell) (b : List Nat) (k : List Nat) : base l ⟨a, b, k⟩ = ⟨a, l, k⟩ := rfl
def defR (s : S) : RS → R D
  | .nx _ s1 => exitF s.st.length s .non s1
  | .rt d s1 => exitF s.st.length s d s1
  | .er x _ s1 => exitX s.st.length s x s1
  | _ => .bad
theorem defC_eq (np n : Nat) (b : MS) (ds : List D) (s : S) : defC np n b ds s = if ds.length = np then defR s (b (ds.map some ++ List.replicate (n - ds.length) none) (base (s.st.length :: s.bases) s)) else .bad := by
  unfold defC defR base
  split
  · cases b (ds.map some ++ List.replicate (n - ds.length) none) { s with bases := s.st.length :: s.bases } <;> rfl
  · rfl
@[simp] theorem defR_rt (h1 : s1.lk = s.lk) (h2 : s1.bases = s.st.length :: s.bases) (h3 : s1.st.length ≤ s.st.length) : defR s (.rt d s1) = .ok d (base s.bases s1) := by
  unfold defR exitF
  dsimp only
  rw [if_pos ⟨h1, h2⟩, List.take_of_length_le h3]
  split <;> rfl
@[simp] theorem defR_nx (h1 : s1.lk = s.lk) (h2 : s1.bases = s.st.length :: s.bases) (h3 : s1.st.length ≤ s.st.length) : defR s (.nx sl s1) = .ok .non (base s.bases s1) := defR_rt (d := .non) h1 h2 h3
@[simp] theorem defR_er {C : Str} (h1 : s1.lk = s.lk) (h2 : s1.bases = s.st.length :: s.bases) (h3 : s1.st.length ≤ s.st.length) : defR s (.er ⟨C, none⟩ sl s1) = .err ⟨C, none⟩ (base s.bases s1) := by
  unfold defR exitX
  dsimp only
  rw [if_pos ⟨h1, h2⟩, List.take_of_length_le h3]
  rfl
/-- what was made is thrown away -/
theorem defR_cut (h1 : s1.lk = s.lk) (h2 : s1.bases = s.st.length :: s.bases) (hu : d.under s.st.length = true) : defR s (.rt d s1) = .ok d { s1 with st := s1.st.take s.st.length, bases := s.bases } := by
  unfold defR exitF
  dsimp only
  rw [if_pos ⟨h1, h2⟩, if_pos hu]
theorem defR_cutE {C : Str} (h1 : s1.lk = s.lk) (h2 : s1.bases = s.st.length :: s.bases) : defR s (.er ⟨C, none⟩ sl s1) = .err ⟨C, none⟩ { s1 with st := s1.st.take s.st.length, bases := s.bases } := by
  unfold defR exitX
  dsimp only
  rw [if_pos ⟨h1, h2⟩]
/-- a new instance, without cells of its own -/
theorem iniC_ok {C : Str} {np n : Nat} {b : MS} {ds : List D} {f : List (Str × D)} (hl : ds.length + 1 = np)
    (h : b ((.ref s.st.length :: ds).map some ++ List.replicate (n - (D.ref s.st.length :: ds).length) none) (putC s.st.length (.ins C []) { s with st := s.st ++ [.ins C []], bases := s.st.length :: s.bases }) = .nx sl (putC s.st.length (.ins C f) { s with st := s.st ++ [.ins C []], bases := s.st.length :: s.bases })) :
    iniC false C np n b ds s = .ok (.ref s.st.length) { s with st := s.st ++ [.ins C f] } := by
  have e : ∀ f, putC s.st.length (.ins C f) { s with st := s.st ++ [.ins C []], bases := s.st.length :: s.bases } = ({ s with st := s.st ++ [.ins C f], bases := s.st.length :: s.bases } : S) := fun f => by
    unfold putC
    simp
  rw [e, e] at h
  unfold iniC
  rw [if_pos hl, h]
  unfold exitI
  dsimp only
  rw [if_pos ⟨rfl, rfl⟩, if_neg (by decide)]
theorem iniC_er {C X : Str} {fz : Bool} {np n : Nat} {b : MS} {ds : List D} (hl : ds.length + 1 = np)
    (h : b ((.ref s.st.length :: ds).map some ++ List.replicate (n - (D.ref s.st.length :: ds).length) none) { s with st := s.st ++ [.ins C []], bases := s.st.length :: s.bases } = .er ⟨X, none⟩ sl { s with st := s.st ++ [.ins C []], bases := s.st.length :: s.bases }) :
    iniC fz C np n b ds s = .err ⟨X, none⟩ s := by
  unfold iniC
  rw [if_pos hl, h]
  unfold exitX
  dsimp only
  rw [if_pos ⟨rfl, rfl⟩]
  simp
/-! the dice at the head -/
abbrev dC (a b k : Int) : Cell := .lst [.int a, .int b, .int k]
theorem dice_hd (a b k : Int) (r : List Cell) (bs : List Nat) : Dice 0 a b k ⟨dC a b k :: r, bs, []⟩ := ⟨rfl, rfl⟩
/-- sums, greatest, least -/
theorem intsOf_ints : ∀ l : List Int, intsOf (dInts l) = some l
  | [] => rfl
  | x :: l => by
    show (intsOf (dInts l)).map (x :: ·) = _
    rw [intsOf_ints l]
    rfl
@[simp] theorem sum_ints (l : List Int) (s : S) : sumM [.lst (dInts l)] s = .ok (.int l.sum) s := by
  simp [sumM, lstOf, intsOf_ints]
@[simp] theorem len_ints (l : List Int) (s : S) : lenM [.lst (dInts l)] s = .ok (.int l.length) s := by
  simp [lenM, dInts]
@[simp] theorem len_lst (l : List D) (s : S) : lenM [.lst l] s = .ok (.int l.length) s := rfl
@[simp] theorem len_tup (l : List D) (s : S) : lenM [.tup l] s = .ok (.int l.length) s := rfl
@[simp] theorem len_str (z : Str) (s : S) : lenM [.str z] s = .ok (.int z.length) s := rfl
@[simp] theorem max2 (a b : Int) (s : S) : maxM [.int a, .int b] s = .ok (.int (if b > a then b else a)) s := rfl
@[simp] theorem min2 (a b : Int) (s : S) : minM [.int a, .int b] s = .ok (.int (if b < a then b else a)) s := rfl
theorem maxI_is : ∀ (l : List Int) (x M : Int), M ∈ x :: l → (∀ y ∈ x :: l, y ≤ M) → maxI x l = M
  | [], x, M, h, _ => by
    rw [List.mem_singleton] at h
    exact h.symm
  | y :: l, x, M, h, hle => by
    show maxI (if x < y then y else x) l = M
    have hx := hle x (List.mem_cons_self ..)
    have hy := hle y (List.mem_cons_of_mem _ (List.mem_cons_self ..))
    refine maxI_is l _ M ?_ fun z hz => ?_
    · rcases List.mem_cons.mp h with e | h
      · subst e
        split
        · exact absurd (by omega : M < M) (Int.lt_irrefl _)
        · exact List.mem_cons_self ..
      · rcases List.mem_cons.mp h with e | h
        · subst e
          split
          · exact List.mem_cons_self ..
          · have : M = x := by omega
            rw [← this]
            exact List.mem_cons_self ..
        · exact List.mem_cons_of_mem _ h
    · rcases List.mem_cons.mp hz with e | hz
      · subst e
        split
        · exact hy
        · exact hx
      · exact hle z (List.mem_cons_of_mem _ (List.mem_cons_of_mem _ hz))
theorem max_ints {l : List Int} {M : Int} (h : M ∈ l) (hle : ∀ y ∈ l, y ≤ M) (s : S) : maxM [.lst (dInts l)] s = .ok (.int M) s := by
  cases l with
  | nil => cases h
  | cons x l =>
    have : maxM [.lst (dInts (x :: l))] s = .ok (.int (maxI x l)) s := by
      simp [maxM, lstOf, intsOf_ints]
    rw [this, maxI_is l x M h hle]
theorem minI_is : ∀ (l : List Int) (x M : Int), M ∈ x :: l → (∀ y ∈ x :: l, M ≤ y) → minI x l = M
  | [], x, M, h, _ => by
    rw [List.mem_singleton] at h
    exact h.symm
  | y :: l, x, M, h, hle => by
    show minI (if y < x then y else x) l = M
    have hx := hle x (List.mem_cons_self ..)
    have hy := hle y (List.mem_cons_of_mem _ (List.mem_cons_self ..))
    refine minI_is l _ M ?_ fun z hz => ?_
    · rcases List.mem_cons.mp h with e | h
      · subst e
        split
        · exact absurd (by omega : M < M) (Int.lt_irrefl _)
        · exact List.mem_cons_self ..
      · rcases List.mem_cons.mp h with e | h
        · subst e
          split
          · exact List.mem_cons_self ..
          · have : M = x := by omega
            rw [← this]
            exact List.mem_cons_self ..
        · exact List.mem_cons_of_mem _ h
    · rcases List.mem_cons.mp hz with e | hz
      · subst e
        split
        · exact hy
        · exact hx
      · exact hle z (List.mem_cons_of_mem _ (List.mem_cons_of_mem _ hz))
theorem min_ints {l : List Int} {M : Int} (h : M ∈ l) (hle : ∀ y ∈ l, M ≤ y) (s : S) : minM [.lst (dInts l)] s = .ok (.int M) s := by
  cases l with
  | nil => cases h
  | cons x l =>
    have : minM [.lst (dInts (x :: l))] s = .ok (.int (minI x l)) s := by
      simp [minM, lstOf, intsOf_ints]
    rw [this, minI_is l x M h hle]
/-! ranges -/
theorem upL_eq : ∀ (n : Nat) (a : Int), upL a n = (List.range n).map fun (i : Nat) => D.int (a + i)
  | 0, _ => rfl
  | n + 1, a => by
    have ih := upL_eq n (a + 1)
    show D.int a :: upL (a + 1) n = _
    rw [ih, List.range_succ_eq_map, List.map_cons, List.map_map]
    congr 1
    · simp
    · refine List.map_congr_left fun i _ => ?_
      show D.int (a + 1 + i) = D.int (a + ((i + 1 : Nat) : Int))
      congr 1
      omega
theorem range1 {n : Int} (h0 : 0 ≤ n) (h1 : n < 16777216) : rangeD [.int n] = some ((List.range n.toNat).map fun (i : Nat) => D.int i) := by
  unfold rangeD
  dsimp only
  rw [if_pos ⟨by unfold lidN; omega, h1⟩, upL_eq]
  simp
theorem range2 {a b : Int} (h0 : -4000000000000000000 ≤ a) (h1 : a < 4000000000000000000) (h2 : -4000000000000000000 ≤ b) (h3 : b < 4000000000000000000) (h4 : b - a < 16777216) : rangeD [.int a, .int b] = some ((List.range (b - a).toNat).map fun (i : Nat) => D.int (a + i)) := by
  unfold rangeD
  dsimp only
  rw [if_pos ⟨by unfold lidN; omega, by unfold lidN; omega, by unfold lidN; omega, by unfold lidN; omega, h4⟩, upL_eq]
@[simp] theorem Elrg_ap (ch : Bool) (es : List ME) (sl : Sl) (s : S) : Elrg ch es sl s = (manyW es sl s).bind fun ds s1 => (match rangeX ds with
    | some l => mkC ch (.lst l) s1
    | none => .bad) := rfl
theorem rangeX3 {a b c : Int} (hc : 0 < c) (hc2 : c < 1073741824) (h0 : -4000000000000000000 ≤ a) (h1 : a < 4000000000000000000) (h2 : -4000000000000000000 ≤ b) (h3 : b < 4000000000000000000) (h4 : b - a < 16777216) :
    rangeX [.int a, .int b, .int c] = some (stepL a c (if a < b then ((b - a - 1) / c + 1).toNat else 0)) := by
  show rngC a b c = _
  unfold rngC
  rw [if_pos ⟨hc, hc2, by unfold lidN; omega, by unfold lidN; omega, by unfold lidN; omega, by unfold lidN; omega, h4⟩]
@[simp] theorem stepL_len (a c : Int) (n : Nat) : (stepL a c n).length = n := by simp [stepL]
/-! draws -/
theorem compL_draw {α : Type} {e : ME} {i : Nat} {r : List Cell} {bs : List Nat} (mk : α → D) (Pv : α → Prop) (he : ∀ (x : D) (a b k : Int), ∃ v a' b' k', Pv v ∧ e (sl.set i (some x)) ⟨dC a b k :: r, bs, []⟩ = .ok (mk v) ⟨dC a' b' k' :: r, bs, []⟩) : ∀ (l : List D) (a b k : Int),
    ∃ (vs : List α) (a' b' k' : Int), vs.length = l.length ∧ (∀ v ∈ vs, Pv v) ∧ compL (gName i) Tall e sl l ⟨dC a b k :: r, bs, []⟩ = .ok (vs.map mk) ⟨dC a' b' k' :: r, bs, []⟩
  | [], a, b, k => ⟨[], a, b, k, rfl, (fun v hv => by cases hv), rfl⟩
  | x :: l, a, b, k => by
    obtain ⟨v, a1, b1, k1, hv, h1⟩ := he x a b k
    obtain ⟨vs, a2, b2, k2, h2, h3, h4⟩ := compL_draw mk Pv he l a1 b1 k1
    refine ⟨v :: vs, a2, b2, k2, by simp [h2], fun y hy => ?_, ?_⟩
    · rcases List.mem_cons.mp hy with e | hy
      · rw [e]
        exact hv
      · exact h3 y hy
    · unfold compL
      rw [gName_ap, noErr_ok, bind_ok, Tall_ap, noErr_ok, bind_ok, if_pos rfl, h1, noErr_ok, bind_ok, if_pos rfl, h4]
      rfl
end
end AL
set_option Elab.async false
set_option linter.all false
set_option maxRecDepth 100000
set_option maxHeartbeats 4000000
/-! AL56: slots that are not written out; loops; orders. -/
namespace AL
open PySem PySem.Spec PyProof.Rows L2
section
variable {s : S} {sl : Sl}
@[simp] theorem slot_set_ne {i j : Nat} (h : i ≠ j) (v : Option D) : slot i (sl.set j v) s = slot i sl s := by
  unfold slot
  rw [List.getElem?_set_ne (Ne.symm h)]
@[simp] theorem slot_set_eq {i : Nat} (h : i < sl.length) (d : D) : slot i (sl.set i (some d)) s = .ok d s := by
  unfold slot
  rw [List.getElem?_set_self h]
@[simp] theorem wipeS_nil (sl : Sl) : wipeS sl [] = sl := by unfold wipeS; exact rfl
@[simp] theorem wipeS_cons (sl : Sl) (v : Nat) (vs : List Nat) : wipeS sl (v :: vs) = (wipeS sl vs).set v none := by
  conv => lhs; unfold wipeS
@[simp] theorem SswN_ap (N : List Str) (xs : List Str) (es : List ME) (sl : Sl) (s : S) : SswN N xs es sl s = (manyW es sl s).sbind sl fun ds s1 => (match setR N xs ds sl with
      | some sl1 => .nx sl1 s1
      | none => .bad) := by unfold SswN; exact rfl
@[simp] theorem orV_1 (a : ME) : orVW [a] sl s = a sl s := by unfold orVW; exact rfl
@[simp] theorem orV_c (a b : ME) (l : List ME) : orVW (a :: b :: l) sl s = (a sl s).bind fun d s1 => (asB d s1).bind fun c s2 => if c = true then .ok (.bl true) s2 else orVW (b :: l) sl s2 := by
  conv => lhs; unfold orVW
@[simp] theorem andV_1 (a : ME) : andVW [a] sl s = a sl s := by unfold andVW; exact rfl
@[simp] theorem andV_c (a b : ME) (l : List ME) : andVW (a :: b :: l) sl s = (a sl s).bind fun d s1 => (asB d s1).bind fun c s2 => if c = true then andVW (b :: l) sl s2 else .ok (.bl false) s2 := by
  conv => lhs; unfold andVW
theorem sif_no {t : MT} {x : MS} (h : t sl s = .ok false s) : Sif t x (runW []) sl s = .nx sl s := by
  rw [Sif_ap, h]
  rfl
/-! walks over a cell -/
def lkd (l : List Nat) (s : S) : S := { s with lk := l }
@[simp] theorem lkd_st (l : List Nat) : (lkd l s).st = s.st := by cases s; exact rfl
@[simp] theorem lkd_bs (l : List Nat) : (lkd l s).bases = s.bases := by cases s; exact rfl
@[simp] theorem lkd_lk (l : List Nat) : (lkd l s).lk = l := by cases s; exact rfl
theorem lock_lkd {i : Nat} (hl : s.lk = []) : lockS i s = lkd [i] s := by
  unfold lockS lkd
  rw [hl]
  exact rfl
theorem walk_rl {i : Nat} {l : List D} (hl : s.lk = []) (h : s.st[i]? = some (.lst l)) : walk (.ref i) s = some (l, lkd [i] s) := by
  rw [← lock_lkd hl]
  simp [walk, view_lst h, lkOf]
theorem walk_rk {i : Nat} {l : List (Key × D)} (hl : s.lk = []) (h : s.st[i]? = some (.dk l)) : walk (.ref i) s = some (l.map fun p => kD p.1, lkd [i] s) := by
  rw [← lock_lkd hl]
  simp [walk, view_dk h, lkOf]
@[simp] theorem unlk_lkd {α : Type} (a : α) (s : S) (l : List Nat) : unlk s (lkd l s) (.ok a (lkd l s)) = .ok a s := by
  rw [unlk_ok]
  exact rfl
@[simp] theorem unlk_same {α : Type} (a : α) (s : S) : unlk s s (.ok a s) = .ok a s := by
  rw [unlk_ok]
/-! a while by its count -/
theorem while_n {t : MT} {b : MS} (enc : Nat → Sl × S) (c : Nat → Bool) (ht : ∀ k, t (enc k).1 (enc k).2 = .ok (c k) (enc k).2) (hb : ∀ k, c k = true → b (enc k).1 (enc k).2 = .nx (enc (k + 1)).1 (enc (k + 1)).2) :
    ∀ (K k fuel : Nat), (∀ i, k ≤ i → i < k + K → c i = true) → c (k + K) = false → K < fuel → whileL t b fuel (enc k).1 (enc k).2 = .nx (enc (k + K)).1 (enc (k + K)).2
  | K, k, 0, _, _, h => absurd h (Nat.not_lt_zero _)
  | 0, k, fuel + 1, _, h0, _ => by
    unfold whileL
    rw [ht, sbind_ok]
    have h0 : c k = false := h0
    rw [h0]
    exact rfl
  | K + 1, k, fuel + 1, h1, h0, h => by
    unfold whileL
    have hk := h1 k (Nat.le_refl _) (by omega)
    rw [ht, sbind_ok, hk, if_pos rfl, hb k hk]
    have e : k + (K + 1) = k + 1 + K := by omega
    rw [e]
    exact while_n enc c ht hb K (k + 1) fuel (fun i a b => h1 i (by omega) (by omega)) (by rw [← e]; exact h0) (by omega)
/-- .. kept where it ends: what holds at the turns only -/
theorem while_i {t : MT} {b : MS} (enc : Nat → Sl × S) (c : Nat → Bool) : ∀ (K k fuel : Nat), (∀ i, k ≤ i → i ≤ k + K → t (enc i).1 (enc i).2 = .ok (c i) (enc i).2) → (∀ i, k ≤ i → i < k + K → c i = true ∧ b (enc i).1 (enc i).2 = .nx (enc (i + 1)).1 (enc (i + 1)).2) → c (k + K) = false → K < fuel → whileL t b fuel (enc k).1 (enc k).2 = .nx (enc (k + K)).1 (enc (k + K)).2
  | K, k, 0, _, _, _, h => absurd h (Nat.not_lt_zero _)
  | 0, k, fuel + 1, ht, _, h0, _ => by
    unfold whileL
    rw [ht k (Nat.le_refl _) (Nat.le_refl _), sbind_ok]
    have h0 : c k = false := h0
    rw [h0]
    exact rfl
  | K + 1, k, fuel + 1, ht, h1, h0, h => by
    unfold whileL
    obtain ⟨hk, hb⟩ := h1 k (Nat.le_refl _) (by omega)
    rw [ht k (Nat.le_refl _) (by omega), sbind_ok, hk, if_pos rfl, hb]
    have e : k + (K + 1) = k + 1 + K := by omega
    rw [e]
    exact while_i enc c K (k + 1) fuel (fun i a b => ht i (by omega) (by omega)) (fun i a b => h1 i (by omega) (by omega)) (by rw [← e]; exact h0) (by omega)
/-- the first that fails -/
theorem first_no (c : Nat → Bool) : ∀ (B : Nat), c B = false → ∃ K, K ≤ B ∧ (∀ i, i < K → c i = true) ∧ c K = false
  | 0, h => ⟨0, Nat.le_refl _, (fun i hi => absurd hi (Nat.not_lt_zero _)), h⟩
  | B + 1, h => by
    by_cases h1 : ∃ i, i ≤ B ∧ c i = false
    · obtain ⟨i, h2, h3⟩ := h1
      obtain ⟨K, h4, h5, h6⟩ := first_no (fun j => c j) i h3
      exact ⟨K, by omega, h5, h6⟩
    · refine ⟨B + 1, Nat.le_refl _, fun i hi => ?_, h⟩
      cases q : c i with
      | true => rfl
      | false => exact absurd ⟨i, by omega, q⟩ h1
termination_by B => B
decreasing_by all_goals omega
/-! a for by its turns -/
theorem for_n {g : MG} {b : MS} (enc : Nat → Sl × S) (l : List D) : ∀ (n k : Nat), k + n = l.length → (∀ i d, k ≤ i → l[i]? = some d → ∃ sl1, g d (enc i).1 (enc i).2 = .ok sl1 (enc i).2 ∧ b sl1 (enc i).2 = .nx (enc (i + 1)).1 (enc (i + 1)).2) →
    forL (fun d sl s => (g d sl s).noErr) b (l.drop k) (enc k).1 (enc k).2 = .nx (enc l.length).1 (enc l.length).2
  | 0, k, h, hs => by
    have : k = l.length := by omega
    subst this
    rw [List.drop_length]
    exact rfl
  | n + 1, k, h, hs => by
    have hk : k < l.length := by omega
    rw [List.drop_eq_getElem_cons hk]
    unfold forL
    obtain ⟨sl1, h1, h2⟩ := hs k l[k] (Nat.le_refl _) (List.getElem?_eq_getElem hk)
    rw [h1, noErr_ok, sbind_ok, h2]
    exact for_n enc l n (k + 1) (by omega) fun i d a b => hs i d (by omega) b
/-! the least by a key, the head of the sorted -/
theorem sortBy_cons {α : Type} {k : α → List KA} {l : List α} (h : l ≠ []) : ∃ x r, sortBy k l = x :: r ∧ x ∈ l ∧ ∀ y ∈ l, ltKA (k y) (k x) = false := by
  cases e : sortBy k l with
  | nil =>
    have := (sortBy_perm (k := k) l).length_eq
    rw [e] at this
    exact absurd (List.eq_nil_of_length_eq_zero this.symm) h
  | cons x r =>
    have hs := sortBy_srtd (k := k) l
    rw [e] at hs
    have hp := sortBy_perm (k := k) l
    rw [e] at hp
    refine ⟨x, r, rfl, hp.mem_iff.mp (List.mem_cons_self ..), fun y hy => ?_⟩
    rcases List.mem_cons.mp (hp.mem_iff.mpr hy) with q | q
    · rw [q]
      exact lex_irrefl (O := itemOrd) _
    · exact (List.pairwise_cons.mp hs).1 y q
/-- keys of a number and a text -/
theorem lt_is (a c : Int) (b d : List Nat) : ltKA [.inl a, .inr b] [.inl c, .inr d] = (decide (a < c) || (decide (a = c) && decide (b < d))) := by
  by_cases h1 : a < c
  · simp [ltKA, PyProof.Rows.lexLt, itemOrd, itemLt, h1]
  · by_cases h2 : a = c
    · subst h2
      simp [ltKA, PyProof.Rows.lexLt, itemOrd, itemLt]
    · have h3 : c < a := by omega
      simp [ltKA, PyProof.Rows.lexLt, itemOrd, itemLt, h1, h2, h3]
end
end AL
set_option Elab.async false
set_option linter.all false
set_option maxRecDepth 1000000
set_option maxHeartbeats 0
namespace LW
open PySem PySem.Spec PyProof.Rows L2 AL
def chg (l c : Nat) : Bool := [(98, 19), (131, 15), (132, 11), (177, 17)].contains (l, c)
def tkd (l c : Nat) : Bool := [].contains (l, c)
def fz (x : Str) : Bool := ([] : List Str).contains x
def tb (k : Str × Str) : Nat := if k = (("" : Str), ("cans_for" : Str)) then 2 else if k = (("" : Str), ("nights" : Str)) then 2 else if k = (("" : Str), ("wick_cut" : Str)) then 2 else if k = (("" : Str), ("brightest" : Str)) then 1 else if k = (("" : Str), ("_law_cases1" : Str)) then 1 else if k = (("" : Str), ("_law_rest1" : Str)) then 1 else if k = (("" : Str), ("law" : Str)) then 1 else 0
def xs : List Str := ["BadDeed", "BadLamp", "BadSize", "NoRoom", "NoSuch", "NoWay"]
abbrev body : List Stmt := PySem.Challenge.pw_lamphall_k01_oils.main.body
def P : Prog := progOf body xs tb chg tkd fz 40 100000
end LW
set_option Elab.async false
set_option linter.all false
set_option maxRecDepth 1000000
set_option maxHeartbeats 0
namespace LW
open PySem PySem.Spec PyProof.Rows L2 AL
abbrev N_OilLamp_init__ : List Str := ["self", "holds", "wick"]
abbrev s_OilLamp_init___0 (z : Lv) : MS := (Sif (ch1 .Lt (Eblt minM false [(slot 1), (slot 2)]) (pureE (.int 1))) (runW [(Srai "BadLamp" (pureE (.str "no lamp")))]) (runW []))
abbrev s_OilLamp_init___1 (z : Lv) : MS := (Sasg (slot 1) (Gatt P (slot 0) "holds"))
abbrev s_OilLamp_init___2 (z : Lv) : MS := (Sasg (pureE (.int 0)) (Gatt P (slot 0) "oil"))
abbrev s_OilLamp_init___3 (z : Lv) : MS := (Sasg (slot 2) (Gatt P (slot 0) "wick"))
abbrev s_OilLamp_init___4 (z : Lv) : MS := (Sasg (pureE (.int 1)) (Gatt P (slot 0) "high"))
abbrev s_OilLamp_init___5 (z : Lv) : MS := (Sasg (pureE (.bl false)) (Gatt P (slot 0) "lit"))
abbrev s_OilLamp_init___6 (z : Lv) : MS := (Sasg (pureE (.int 0)) (Gatt P (slot 0) "soot"))
abbrev w_OilLamp_init___ (z : Lv) : MS := (runW [s_OilLamp_init___0 z, s_OilLamp_init___1 z, s_OilLamp_init___2 z, s_OilLamp_init___3 z, s_OilLamp_init___4 z, s_OilLamp_init___5 z, s_OilLamp_init___6 z])
abbrev b_OilLamp_init__ (z : Lv) : MS := (w_OilLamp_init___ z)
theorem q_OilLamp_init__ (j : Nat) : (lv P (j + 1)).new "OilLamp" = iniC false "OilLamp" 3 3 (b_OilLamp_init__ (lv P j)) := by
  funext ds s
  kernel_rfl
abbrev N_OilLamp_pour : List Str := ["self", "much"]
abbrev s_OilLamp_pour_0 (z : Lv) : MS := (Sif (truM (una (atM "lit") (slot 0))) (runW [(Srai "BadDeed" (pureE (.str "lit")))]) (runW []))
abbrev s_OilLamp_pour_1 (z : Lv) : MS := (Sif (ch1 .Lt (slot 1) (pureE (.int 1))) (runW [(Srai "BadSize" (pureE (.str "none")))]) (runW []))
abbrev s_OilLamp_pour_2 (z : Lv) : MS := (Sif (ch1 .Gt (Ebin .Add false (una (atM "oil") (slot 0)) (slot 1)) (una (atM "holds") (slot 0))) (runW [(Srai "NoRoom" (pureE (.str "it runs over")))]) (runW []))
abbrev s_OilLamp_pour_3 (z : Lv) : MS := (SaugA P (slot 0) "oil" .Add (slot 1))
abbrev w_OilLamp_pour_ (z : Lv) : MS := (runW [s_OilLamp_pour_0 z, s_OilLamp_pour_1 z, s_OilLamp_pour_2 z, s_OilLamp_pour_3 z])
abbrev b_OilLamp_pour (z : Lv) : MS := (w_OilLamp_pour_ z)
theorem q_OilLamp_pour (j : Nat) : (lv P (j + 1)).meth "OilLamp" "pour" = some (defC 2 2 (b_OilLamp_pour (lv P j))) := by
  kernel_rfl
abbrev N_OilLamp_light : List Str := ["self"]
abbrev s_OilLamp_light_0 (z : Lv) : MS := (Sif (truM (una (atM "lit") (slot 0))) (runW [(Srai "BadDeed" (pureE (.str "lit")))]) (runW []))
abbrev s_OilLamp_light_1 (z : Lv) : MS := (Sif (orTW [(ch1 .Eq (una (atM "oil") (slot 0)) (pureE (.int 0))), (ch1 .Eq (una (atM "wick") (slot 0)) (pureE (.int 0)))]) (runW [(Srai "NoWay" (pureE (.str "no oil, or no wick")))]) (runW []))
abbrev s_OilLamp_light_2 (z : Lv) : MS := (Sasg (pureE (.bl true)) (Gatt P (slot 0) "lit"))
abbrev w_OilLamp_light_ (z : Lv) : MS := (runW [s_OilLamp_light_0 z, s_OilLamp_light_1 z, s_OilLamp_light_2 z])
abbrev b_OilLamp_light (z : Lv) : MS := (w_OilLamp_light_ z)
theorem q_OilLamp_light (j : Nat) : (lv P (j + 1)).meth "OilLamp" "light" = some (defC 1 1 (b_OilLamp_light (lv P j))) := by
  kernel_rfl
abbrev N_OilLamp_turn_wick : List Str := ["self", "high"]
abbrev s_OilLamp_turn_wick_0 (z : Lv) : MS := (Sif (Tnot (ch2 .LtE .LtE (pureE (.int 1)) (slot 1) (pureE (.int 4)))) (runW [(Srai "BadSize" (pureE (.str "no height")))]) (runW []))
abbrev s_OilLamp_turn_wick_1 (z : Lv) : MS := (Sif (ch1 .Eq (slot 1) (una (atM "high") (slot 0))) (runW [(Srai "BadDeed" (pureE (.str "the same")))]) (runW []))
abbrev s_OilLamp_turn_wick_2 (z : Lv) : MS := (Sasg (slot 1) (Gatt P (slot 0) "high"))
abbrev w_OilLamp_turn_wick_ (z : Lv) : MS := (runW [s_OilLamp_turn_wick_0 z, s_OilLamp_turn_wick_1 z, s_OilLamp_turn_wick_2 z])
abbrev b_OilLamp_turn_wick (z : Lv) : MS := (w_OilLamp_turn_wick_ z)
theorem q_OilLamp_turn_wick (j : Nat) : (lv P (j + 1)).meth "OilLamp" "turn_wick" = some (defC 2 2 (b_OilLamp_turn_wick (lv P j))) := by
  kernel_rfl
abbrev N_OilLamp_hour : List Str := ["self", "burnt", "light", "smoke"]
abbrev s_OilLamp_hour_0 (z : Lv) : MS := (Sif (Tnot (truM (una (atM "lit") (slot 0)))) (runW [(Sret (pureE (.int 0)))]) (runW []))
abbrev s_OilLamp_hour_1 (z : Lv) : MS := (Sasg (Eblt minM false [(una (atM "oil") (slot 0)), (una (atM "high") (slot 0))]) (gName 1))
abbrev s_OilLamp_hour_2 (z : Lv) : MS := (SaugA P (slot 0) "oil" .Sub (slot 1))
abbrev s_OilLamp_hour_3 (z : Lv) : MS := (Sasg (Eblt maxM false [(pureE (.int 0)), (Ebin .Sub false (Ebin .Mult false (slot 1) (pureE (.int 10))) (una (atM "soot") (slot 0)))]) (gName 2))
abbrev s_OilLamp_hour_4 (z : Lv) : MS := (Sasg (Eblt maxM false [(pureE (.int 0)), (Ebin .Sub false (una (atM "high") (slot 0)) (pureE (.int 2)))]) (gName 3))
abbrev s_OilLamp_hour_5a0 (z : Lv) : MS := (SaugA P (slot 0) "soot" .Add (slot 3))
abbrev s_OilLamp_hour_5a1 (z : Lv) : MS := (Sif (ch1 .Eq (Ebin .Mod false (una (atM "soot") (slot 0)) (pureE (.int 2))) (pureE (.int 0))) (runW [(SaugA P (slot 0) "wick" .Sub (pureE (.int 1)))]) (runW []))
abbrev w_OilLamp_hour_5a (z : Lv) : MS := (runW [s_OilLamp_hour_5a0 z, s_OilLamp_hour_5a1 z])
abbrev s_OilLamp_hour_5 (z : Lv) : MS := (Sif (ch1 .Gt (slot 3) (pureE (.int 0))) (w_OilLamp_hour_5a z) (runW []))
abbrev s_OilLamp_hour_6 (z : Lv) : MS := (Sif (orTW [(ch1 .Eq (una (atM "oil") (slot 0)) (pureE (.int 0))), (ch1 .Eq (una (atM "wick") (slot 0)) (pureE (.int 0)))]) (runW [(Sasg (pureE (.bl false)) (Gatt P (slot 0) "lit"))]) (runW []))
abbrev s_OilLamp_hour_7 (z : Lv) : MS := (Sret (slot 2))
abbrev w_OilLamp_hour_ (z : Lv) : MS := (runW [s_OilLamp_hour_0 z, s_OilLamp_hour_1 z, s_OilLamp_hour_2 z, s_OilLamp_hour_3 z, s_OilLamp_hour_4 z, s_OilLamp_hour_5 z, s_OilLamp_hour_6 z, s_OilLamp_hour_7 z])
abbrev b_OilLamp_hour (z : Lv) : MS := (w_OilLamp_hour_ z)
theorem q_OilLamp_hour (j : Nat) : (lv P (j + 1)).meth "OilLamp" "hour" = some (defC 1 4 (b_OilLamp_hour (lv P j))) := by
  kernel_rfl
abbrev N_OilLamp_blow_out : List Str := ["self"]
abbrev s_OilLamp_blow_out_0 (z : Lv) : MS := (Sif (Tnot (truM (una (atM "lit") (slot 0)))) (runW [(Srai "BadDeed" (pureE (.str "not lit")))]) (runW []))
abbrev s_OilLamp_blow_out_1 (z : Lv) : MS := (Sasg (pureE (.bl false)) (Gatt P (slot 0) "lit"))
abbrev w_OilLamp_blow_out_ (z : Lv) : MS := (runW [s_OilLamp_blow_out_0 z, s_OilLamp_blow_out_1 z])
abbrev b_OilLamp_blow_out (z : Lv) : MS := (w_OilLamp_blow_out_ z)
theorem q_OilLamp_blow_out (j : Nat) : (lv P (j + 1)).meth "OilLamp" "blow_out" = some (defC 1 1 (b_OilLamp_blow_out (lv P j))) := by
  kernel_rfl
abbrev N_OilLamp_wipe : List Str := ["self", "found"]
abbrev s_OilLamp_wipe_0 (z : Lv) : MS := (Sif (orTW [(truM (una (atM "lit") (slot 0))), (ch1 .Eq (una (atM "soot") (slot 0)) (pureE (.int 0)))]) (runW [(Srai "BadDeed" (pureE (.str "lit, or clean")))]) (runW []))
abbrev s_OilLamp_wipe_1 (z : Lv) : MS := (Sasg (una (atM "soot") (slot 0)) (gName 1))
abbrev s_OilLamp_wipe_2 (z : Lv) : MS := (Sasg (pureE (.int 0)) (Gatt P (slot 0) "soot"))
abbrev s_OilLamp_wipe_3 (z : Lv) : MS := (Sret (slot 1))
abbrev w_OilLamp_wipe_ (z : Lv) : MS := (runW [s_OilLamp_wipe_0 z, s_OilLamp_wipe_1 z, s_OilLamp_wipe_2 z, s_OilLamp_wipe_3 z])
abbrev b_OilLamp_wipe (z : Lv) : MS := (w_OilLamp_wipe_ z)
theorem q_OilLamp_wipe (j : Nat) : (lv P (j + 1)).meth "OilLamp" "wipe" = some (defC 1 2 (b_OilLamp_wipe (lv P j))) := by
  kernel_rfl
abbrev N_OilLamp_hours_left : List Str := ["self"]
abbrev s_OilLamp_hours_left_0 (z : Lv) : MS := (Sret (Ebin .Sub false (pureE (.int 0)) (Ebin .FloorDiv false (Ebin .Sub false (pureE (.int 0)) (una (atM "oil") (slot 0))) (una (atM "high") (slot 0)))))
abbrev w_OilLamp_hours_left_ (z : Lv) : MS := (runW [s_OilLamp_hours_left_0 z])
abbrev b_OilLamp_hours_left (z : Lv) : MS := (w_OilLamp_hours_left_ z)
theorem q_OilLamp_hours_left (j : Nat) : (lv P (j + 1)).meth "OilLamp" "hours_left" = some (defC 1 1 (b_OilLamp_hours_left (lv P j))) := by
  kernel_rfl
abbrev N_OilLamp_shown : List Str := ["self"]
abbrev s_OilLamp_shown_0 (z : Lv) : MS := (Sret (Etup [(una (atM "oil") (slot 0)), (una (atM "wick") (slot 0)), (una (atM "high") (slot 0)), (una (atM "lit") (slot 0)), (una (atM "soot") (slot 0))]))
abbrev w_OilLamp_shown_ (z : Lv) : MS := (runW [s_OilLamp_shown_0 z])
abbrev b_OilLamp_shown (z : Lv) : MS := (w_OilLamp_shown_ z)
theorem q_OilLamp_shown (j : Nat) : (lv P (j + 1)).meth "OilLamp" "shown" = some (defC 1 1 (b_OilLamp_shown (lv P j))) := by
  kernel_rfl
abbrev N_cans_for : List Str := ["lamps", "can", "need", "many", ".0", "holds", "oil"]
abbrev s_cans_for_0 (z : Lv) : MS := (Sif (ch1 .Lt (slot 1) (pureE (.int 1))) (runW [(Srai "BadSize" (pureE (.str "no can")))]) (runW []))
abbrev s_cans_for_1 (z : Lv) : MS := (Sasg (Egen "sum" (Ival (slot 0)) (Gtup [(gName 5), (gName 6)]) Tall (Ebin .Sub false (slot 5) (slot 6)) [4, 5, 6]) (gName 2))
abbrev s_cans_for_2 (z : Lv) : MS := (Sasg (Ebin .Sub false (pureE (.int 0)) (Ebin .FloorDiv false (Ebin .Sub false (pureE (.int 0)) (slot 2)) (slot 1))) (gName 3))
abbrev s_cans_for_3 (z : Lv) : MS := (Sret (Etup [(slot 3), (Ebin .Sub false (Ebin .Mult false (slot 3) (slot 1)) (slot 2))]))
abbrev w_cans_for_ (z : Lv) : MS := (runW [s_cans_for_0 z, s_cans_for_1 z, s_cans_for_2 z, s_cans_for_3 z])
abbrev b_cans_for (z : Lv) : MS := (w_cans_for_ z)
theorem q_cans_for (j : Nat) : (lv P (j + 1)).call "cans_for" = defC 2 7 (b_cans_for (lv P j)) := by
  funext ds s
  kernel_rfl
abbrev N_poured : List Str := ["cans", "lamps", "found", "left", "lack"]
abbrev s_poured_0 (z : Lv) : MS := (SswN N_poured ["found", "left"] [(Elst true []), (Eblt sumM false [(slot 0)])])
abbrev s_poured_1b0 (z : Lv) : MS := (Sif (ch1 .Gt (slot 4) (slot 3)) (runW [(Srai "NoWay" (pureE (.str "too little")))]) (runW []))
abbrev s_poured_1b1 (z : Lv) : MS := (Sexp (Emeth z.meth (slot 2) "append" [(slot 4)]))
abbrev s_poured_1b2 (z : Lv) : MS := (Saug 3 .Sub (slot 4))
abbrev w_poured_1b (z : Lv) : MS := (runW [s_poured_1b0 z, s_poured_1b1 z, s_poured_1b2 z])
abbrev s_poured_1 (z : Lv) : MS := (Sfor (Ival (slot 1)) (gName 4) (w_poured_1b z))
abbrev s_poured_2 (z : Lv) : MS := (Sret (Etup [(Eblt tupleM false [(slot 2)]), (slot 3)]))
abbrev w_poured_ (z : Lv) : MS := (runW [s_poured_0 z, s_poured_1 z, s_poured_2 z])
@[simp] theorem sw_poured_0 (sl : Sl) (x0 x1 : D) : setR N_poured ["found", "left"] [x0, x1] sl = some ((sl.set 3 (some x1)).set 2 (some x0)) := by rfl
abbrev b_poured (z : Lv) : MS := (w_poured_ z)
theorem q_poured (j : Nat) : (lv P (j + 1)).call "poured" = defC 2 5 (b_poured (lv P j)) := by
  funext ds s
  kernel_rfl
abbrev N_nights : List Str := ["oil", "hours", "each", "night", ".0", "one"]
abbrev s_nights_0 (z : Lv) : MS := (Sif (orTW [(ch1 .Lt (slot 0) (pureE (.int 0))), (ch1 .Lt (slot 2) (pureE (.int 0))), (truM (Egen "any" (Ival (slot 1)) (gName 5) Tall (Eof (ch1 .Lt (slot 5) (pureE (.int 0)))) [4, 5]))]) (runW [(Srai "BadSize" (pureE (.str "below nought")))]) (runW []))
abbrev s_nights_1 (z : Lv) : MS := (Sif (ch1 .Eq (Ebin .Mult false (Eblt sumM false [(slot 1)]) (slot 2)) (pureE (.int 0))) (runW [(Srai "NoWay" (pureE (.str "never")))]) (runW []))
abbrev s_nights_2 (z : Lv) : MS := (Sasg (pureE (.int 0)) (gName 3))
abbrev t_nights_3 (z : Lv) : MT := (ch1 .GtE (slot 0) (Ebin .Mult false (bin ixM (slot 1) (Ebin .Mod false (slot 3) (Eblt lenM false [(slot 1)]))) (slot 2)))
abbrev s_nights_3b0 (z : Lv) : MS := (Saug 0 .Sub (Ebin .Mult false (bin ixM (slot 1) (Ebin .Mod false (slot 3) (Eblt lenM false [(slot 1)]))) (slot 2)))
abbrev s_nights_3b1 (z : Lv) : MS := (Saug 3 .Add (pureE (.int 1)))
abbrev w_nights_3b (z : Lv) : MS := (runW [s_nights_3b0 z, s_nights_3b1 z])
abbrev s_nights_3 (z : Lv) : MS := (Swhl 100000 (t_nights_3 z) (w_nights_3b z))
abbrev s_nights_4 (z : Lv) : MS := (Sret (slot 3))
abbrev w_nights_ (z : Lv) : MS := (runW [s_nights_0 z, s_nights_1 z, s_nights_2 z, s_nights_3 z, s_nights_4 z])
abbrev b_nights (z : Lv) : MS := (w_nights_ z)
theorem q_nights (j : Nat) : (lv P (j + 1)).call "nights" = defC 3 6 (b_nights (lv P j)) := by
  funext ds s
  kernel_rfl
abbrev N_best_height : List Str := ["oil", "hours", "good", ".0", "high"]
abbrev s_best_height_0 (z : Lv) : MS := (Sasg (Ecomp false (Irng [(pureE (.int 1)), (pureE (.int 5))]) (gName 4) (ch1 .LtE (Ebin .Mult false (slot 4) (slot 1)) (slot 0)) (slot 4) [3, 4]) (gName 2))
abbrev s_best_height_1 (z : Lv) : MS := (Sif (ch1 .Eq (slot 2) (Elst false [])) (runW [(Srai "NoWay" (pureE (.str "too little")))]) (runW []))
abbrev s_best_height_2 (z : Lv) : MS := (Sret (bin ixM (slot 2) (una negM (pureE (.int 1)))))
abbrev w_best_height_ (z : Lv) : MS := (runW [s_best_height_0 z, s_best_height_1 z, s_best_height_2 z])
abbrev b_best_height (z : Lv) : MS := (w_best_height_ z)
theorem q_best_height (j : Nat) : (lv P (j + 1)).call "best_height" = defC 2 5 (b_best_height (lv P j)) := by
  funext ds s
  kernel_rfl
abbrev N_wick_cut : List Str := ["lengths", "lamp", ".0", "long"]
abbrev s_wick_cut_0 (z : Lv) : MS := (Sif (orTW [(ch1 .Lt (slot 1) (pureE (.int 1))), (truM (Egen "any" (Ival (slot 0)) (gName 3) Tall (Eof (ch1 .Lt (slot 3) (pureE (.int 0)))) [2, 3]))]) (runW [(Srai "BadSize" (pureE (.str "no cord")))]) (runW []))
abbrev s_wick_cut_1 (z : Lv) : MS := (Sret (Etup [(Egen "sum" (Ival (slot 0)) (gName 3) Tall (Ebin .FloorDiv false (slot 3) (slot 1)) [2, 3]), (Eblt tupleM false [(Ecomp false (Ival (slot 0)) (gName 3) (ch1 .Gt (Ebin .Mod false (slot 3) (slot 1)) (pureE (.int 0))) (Ebin .Mod false (slot 3) (slot 1)) [2, 3])])]))
abbrev w_wick_cut_ (z : Lv) : MS := (runW [s_wick_cut_0 z, s_wick_cut_1 z])
abbrev b_wick_cut (z : Lv) : MS := (w_wick_cut_ z)
theorem q_wick_cut (j : Nat) : (lv P (j + 1)).call "wick_cut" = defC 2 4 (b_wick_cut (lv P j)) := by
  funext ds s
  kernel_rfl
abbrev N_brightest : List Str := ["lamps", "name"]
abbrev s_brightest_0 (z : Lv) : MS := (Sif (ch1 .Eq (slot 0) (Edic false false)) (runW [(Srai "NoSuch" (pureE (.str "none")))]) (runW []))
abbrev s_brightest_1 (z : Lv) : MS := (Sret (Emin 1 (Etup [(Ebin .Sub false (pureE (.int 0)) (Eblt maxM false [(pureE (.int 0)), (Ebin .Sub false (Ebin .Mult false (pureE (.int 10)) (bin ixM (bin ixM (slot 0) (slot 1)) (pureE (.int 0)))) (bin ixM (bin ixM (slot 0) (slot 1)) (pureE (.int 1))))])), (slot 1)]) (slot 0)))
abbrev w_brightest_ (z : Lv) : MS := (runW [s_brightest_0 z, s_brightest_1 z])
abbrev b_brightest (z : Lv) : MS := (w_brightest_ z)
theorem q_brightest (j : Nat) : (lv P (j + 1)).call "brightest" = defC 1 2 (b_brightest (lv P j)) := by
  funext ds s
  kernel_rfl
abbrev N_law_dice : List Str := ["cell"]
abbrev s_law_dice_0 (z : Lv) : MS := (Sif (ch2 .Lt .Lt (Ebin .Sub false (pureE (.int 0)) (pureE (.int 10))) (slot 0) (pureE (.int 10))) (runW [(Sret (Elst true [(Eblt absM false [(slot 0)]), (pureE (.int 0)), (pureE (.int 2))]))]) (runW []))
abbrev s_law_dice_1 (z : Lv) : MS := (Sret (Elst true [(slot 0), (Ebin .Add false (pureE (.int 1)) (Ebin .Mod false (Eblt intM false [(slot 0)]) (pureE (.int 1009)))), (Eblt intM false [(Eof (ch1 .GtE (slot 0) (Ebin .Pow false (pureE (.int 10)) (pureE (.int 18)))))])]))
abbrev w_law_dice_ (z : Lv) : MS := (runW [s_law_dice_0 z, s_law_dice_1 z])
abbrev b_law_dice (z : Lv) : MS := (w_law_dice_ z)
theorem q_law_dice (j : Nat) : (lv P (j + 1)).call "_law_dice" = defC 1 1 (b_law_dice (lv P j)) := by
  funext ds s
  kernel_rfl
abbrev N_law_roll : List Str := ["dice", "many", "found"]
abbrev s_law_roll_0a0 (z : Lv) : MS := (Sasg (Ebin .Mod false (Eblt intM false [(bin ixM (slot 0) (pureE (.int 0)))]) (slot 1)) (gName 2))
abbrev s_law_roll_0a1 (z : Lv) : MS := (Sasg (Ebin .FloorDiv false (bin ixM (slot 0) (pureE (.int 0))) (slot 1)) (Gix (slot 0) (pureE (.int 0))))
abbrev s_law_roll_0a2 (z : Lv) : MS := (Sret (slot 2))
abbrev w_law_roll_0a (z : Lv) : MS := (runW [s_law_roll_0a0 z, s_law_roll_0a1 z, s_law_roll_0a2 z])
abbrev s_law_roll_0 (z : Lv) : MS := (Sif (orTW [(ch1 .Eq (bin ixM (slot 0) (pureE (.int 2))) (pureE (.int 2))), (andTW [(ch1 .Eq (bin ixM (slot 0) (pureE (.int 2))) (pureE (.int 1))), (ch1 .Gt (bin ixM (slot 0) (pureE (.int 0))) (pureE (.int 0)))])]) (w_law_roll_0a z) (runW []))
abbrev s_law_roll_1 (z : Lv) : MS := (Sasg (pureE (.int 0)) (Gix (slot 0) (pureE (.int 2))))
abbrev s_law_roll_2 (z : Lv) : MS := (Sasg (Ebin .Mod false (Eblt intM false [(Ebin .Add false (Ebin .Add false (Ebin .Mult false (bin ixM (slot 0) (pureE (.int 0))) (pureE (.int 48271))) (Ebin .Mult false (bin ixM (slot 0) (pureE (.int 1))) (pureE (.int 69621)))) (pureE (.int 11)))]) (pureE (.int 2147483647))) (Gix (slot 0) (pureE (.int 0))))
abbrev s_law_roll_3 (z : Lv) : MS := (Sasg (Ebin .Add false (bin ixM (slot 0) (pureE (.int 1))) (pureE (.int 1))) (Gix (slot 0) (pureE (.int 1))))
abbrev s_law_roll_4 (z : Lv) : MS := (Sret (Ebin .Mod false (Eblt intM false [(Ebin .Add false (Ebin .FloorDiv false (bin ixM (slot 0) (pureE (.int 0))) (pureE (.int 7))) (bin ixM (slot 0) (pureE (.int 0))))]) (slot 1)))
abbrev w_law_roll_ (z : Lv) : MS := (runW [s_law_roll_0 z, s_law_roll_1 z, s_law_roll_2 z, s_law_roll_3 z, s_law_roll_4 z])
abbrev b_law_roll (z : Lv) : MS := (w_law_roll_ z)
theorem q_law_roll (j : Nat) : (lv P (j + 1)).call "_law_roll" = defC 2 3 (b_law_roll (lv P j)) := by
  funext ds s
  kernel_rfl
abbrev N_law_rounds : List Str := ["script", "most", "cells", ".0", "cell"]
abbrev s_law_rounds_0 (z : Lv) : MS := (Sasg (Eslc (slot 0) none (some (slot 1))) (gName 2))
abbrev s_law_rounds_1 (z : Lv) : MS := (Sif (ch1 .Eq (slot 2) (Elst false [])) (runW [(Sasg (Elst false [(pureE (.int 0))]) (gName 2))]) (runW []))
abbrev s_law_rounds_2 (z : Lv) : MS := (Sret (Ecomp false (Ival (slot 2)) (gName 4) Tall (Ecall (z.call "_law_dice") [(slot 4)]) [3, 4]))
abbrev w_law_rounds_ (z : Lv) : MS := (runW [s_law_rounds_0 z, s_law_rounds_1 z, s_law_rounds_2 z])
abbrev b_law_rounds (z : Lv) : MS := (w_law_rounds_ z)
theorem q_law_rounds (j : Nat) : (lv P (j + 1)).call "_law_rounds" = defC 2 5 (b_law_rounds (lv P j)) := by
  funext ds s
  kernel_rfl
abbrev N_law_cases1 : List Str := []
abbrev s_law_cases1_0 (z : Lv) : MS := (Sif (ch1 .NotEq (Etold P (Ecall (z.new "OilLamp") [(pureE (.int 0)), (pureE (.int 1))])) (pureE (.str "lamp"))) (runW [(Sret (pureE (.bl false)))]) (runW []))
abbrev s_law_cases1_1 (z : Lv) : MS := (Sif (ch1 .NotEq (Etold P (Ecall (z.call "cans_for") [(Elst false []), (pureE (.int 0))])) (pureE (.str "size"))) (runW [(Sret (pureE (.bl false)))]) (runW []))
abbrev s_law_cases1_2 (z : Lv) : MS := (Sif (ch1 .NotEq (Etold P (Ecall (z.call "nights") [(Ebin .Sub false (pureE (.int 0)) (pureE (.int 1))), (Elst false [(pureE (.int 1))]), (pureE (.int 1))])) (pureE (.str "size"))) (runW [(Sret (pureE (.bl false)))]) (runW []))
abbrev s_law_cases1_3 (z : Lv) : MS := (Sif (ch1 .NotEq (Etold P (Ecall (z.call "wick_cut") [(Elst false []), (pureE (.int 0))])) (pureE (.str "size"))) (runW [(Sret (pureE (.bl false)))]) (runW []))
abbrev s_law_cases1_4 (z : Lv) : MS := (Sret (pureE (.bl true)))
abbrev w_law_cases1_ (z : Lv) : MS := (runW [s_law_cases1_0 z, s_law_cases1_1 z, s_law_cases1_2 z, s_law_cases1_3 z, s_law_cases1_4 z])
abbrev b_law_cases1 (z : Lv) : MS := (w_law_cases1_ z)
theorem q_law_cases1 (j : Nat) : (lv P (j + 1)).call "_law_cases1" = defC 0 0 (b_law_cases1 (lv P j)) := by
  funext ds s
  kernel_rfl
abbrev N_law_rest1 : List Str := ["dice", "rows", "can", "k", "holds", "need", "many", "due", "left", "good", "cords", "size", "rests", "order", "cans", "each", "hours", "lacks", "lamps", "span", "stock", ".0", "held", "cord", "rest", "name"]
abbrev s_law_rest1_0 (z : Lv) : MS := (SswN N_law_rest1 ["rows", "can"] [(Elst true []), (Ebin .Add false (pureE (.int 1)) (Ecall (z.call "_law_roll") [(slot 0), (pureE (.int 20))]))])
abbrev s_law_rest1_1b0 (z : Lv) : MS := (Sasg (Ebin .Add false (pureE (.int 1)) (Ecall (z.call "_law_roll") [(slot 0), (pureE (.int 20))])) (gName 4))
abbrev s_law_rest1_1b1 (z : Lv) : MS := (Sexp (Emeth z.meth (slot 1) "append" [(Etup [(slot 4), (Ecall (z.call "_law_roll") [(slot 0), (Ebin .Add false (slot 4) (pureE (.int 1)))])])]))
abbrev w_law_rest1_1b (z : Lv) : MS := (runW [s_law_rest1_1b0 z, s_law_rest1_1b1 z])
abbrev s_law_rest1_1 (z : Lv) : MS := (Sfor (Irng [(Ecall (z.call "_law_roll") [(slot 0), (pureE (.int 5))])]) (gName 3) (w_law_rest1_1b z))
abbrev s_law_rest1_2 (z : Lv) : MS := (Sasg (Eblt sumM false [(Ecomp false (Ival (slot 1)) (Gtup [(gName 4), (gName 22)]) Tall (Ebin .Sub false (slot 4) (slot 22)) [21, 4, 22])]) (gName 5))
abbrev s_law_rest1_3 (z : Lv) : MS := (Sasg (Eblt lenM false [(Elrg false [(pureE (.int 0)), (slot 5), (slot 2)])]) (gName 6))
abbrev s_law_rest1_4 (z : Lv) : MS := (Sif (ch1 .NotEq (Ecall (z.call "cans_for") [(slot 1), (slot 2)]) (Etup [(slot 6), (Ebin .Sub false (Ebin .Mult false (slot 6) (slot 2)) (slot 5))])) (runW [(Sret (pureE (.bl false)))]) (runW []))
abbrev s_law_rest1_5 (z : Lv) : MS := (Stup [(Ecomp false (Ival (slot 1)) (Gtup [(gName 4), (gName 22)]) Tall (Ebin .Sub false (slot 4) (slot 22)) [21, 4, 22]), (Ecomp false (Irng [(Ecall (z.call "_law_roll") [(slot 0), (pureE (.int 4))])]) (gName 3) Tall (Ecall (z.call "_law_roll") [(slot 0), (pureE (.int 20))]) [21, 3])] [(gName 17), (gName 14)])
abbrev s_law_rest1_6 (z : Lv) : MS := (Sasg (Eife (ch1 .LtE (slot 5) (Eblt sumM false [(slot 14)])) (Etup [(Eblt tupleM false [(slot 17)]), (Ebin .Sub false (Eblt sumM false [(slot 14)]) (slot 5))]) (pureE (.str "no way"))) (gName 7))
abbrev s_law_rest1_7 (z : Lv) : MS := (Sif (ch1 .NotEq (Etold P (Ecall (z.call "poured") [(slot 14), (slot 17)])) (slot 7)) (runW [(Sret (pureE (.bl false)))]) (runW []))
abbrev s_law_rest1_8 (z : Lv) : MS := (Stup [(Ecomp false (Irng [(Ecall (z.call "_law_roll") [(slot 0), (pureE (.int 4))])]) (gName 3) Tall (Ecall (z.call "_law_roll") [(slot 0), (pureE (.int 9))]) [21, 3]), (Ecall (z.call "_law_roll") [(slot 0), (pureE (.int 4))]), (Ecall (z.call "_law_roll") [(slot 0), (pureE (.int 90))]), (pureE (.str "no way"))] [(gName 16), (gName 15), (gName 20), (gName 7)])
abbrev s_law_rest1_9a0 (z : Lv) : MS := (SswN N_law_rest1 ["due", "left"] [(pureE (.int 0)), (slot 20)])
abbrev t_law_rest1_9a1 (z : Lv) : MT := (ch1 .GtE (slot 8) (Ebin .Mult false (slot 15) (bin ixM (slot 16) (Ebin .Mod false (slot 7) (Eblt lenM false [(slot 16)])))))
abbrev s_law_rest1_9a1b0 (z : Lv) : MS := (SswN N_law_rest1 ["left", "due"] [(Ebin .Sub false (slot 8) (Ebin .Mult false (slot 15) (bin ixM (slot 16) (Ebin .Mod false (slot 7) (Eblt lenM false [(slot 16)]))))), (Ebin .Add false (slot 7) (pureE (.int 1)))])
abbrev w_law_rest1_9a1b (z : Lv) : MS := (runW [s_law_rest1_9a1b0 z])
abbrev s_law_rest1_9a1 (z : Lv) : MS := (Swhl 100000 (t_law_rest1_9a1 z) (w_law_rest1_9a1b z))
abbrev w_law_rest1_9a (z : Lv) : MS := (runW [s_law_rest1_9a0 z, s_law_rest1_9a1 z])
abbrev s_law_rest1_9 (z : Lv) : MS := (Sif (ch1 .Gt (Ebin .Mult false (Eblt sumM false [(slot 16)]) (slot 15)) (pureE (.int 0))) (w_law_rest1_9a z) (runW []))
abbrev s_law_rest1_10 (z : Lv) : MS := (Sif (ch1 .NotEq (Etold P (Ecall (z.call "nights") [(slot 20), (slot 16), (slot 15)])) (slot 7)) (runW [(Sret (pureE (.bl false)))]) (runW []))
abbrev s_law_rest1_11 (z : Lv) : MS := (Sasg (Ecall (z.call "_law_roll") [(slot 0), (pureE (.int 30))]) (gName 19))
abbrev s_law_rest1_12 (z : Lv) : MS := (Sasg (Ecomp false (Irng [(pureE (.int 1)), (pureE (.int 5))]) (gName 3) (ch1 .LtE (Ebin .Mult false (slot 3) (slot 19)) (slot 20)) (slot 3) [21, 3]) (gName 9))
abbrev s_law_rest1_13 (z : Lv) : MS := (Sif (ch1 .NotEq (Etold P (Ecall (z.call "best_height") [(slot 20), (slot 19)])) (Eife (ch1 .NotEq (slot 9) (Elst false [])) (Eblt maxM false [(slot 9)]) (pureE (.str "no way")))) (runW [(Sret (pureE (.bl false)))]) (runW []))
abbrev s_law_rest1_14 (z : Lv) : MS := (Stup [(Ecomp false (Irng [(Ecall (z.call "_law_roll") [(slot 0), (pureE (.int 5))])]) (gName 3) Tall (Ecall (z.call "_law_roll") [(slot 0), (pureE (.int 20))]) [21, 3]), (Ebin .Add false (pureE (.int 1)) (Ecall (z.call "_law_roll") [(slot 0), (pureE (.int 7))]))] [(gName 10), (gName 11)])
abbrev s_law_rest1_15 (z : Lv) : MS := (Sasg (Ecomp false (Ival (slot 10)) (gName 23) Tall (Ebin .Sub false (slot 23) (Ebin .Mult false (Ebin .FloorDiv false (slot 23) (slot 11)) (slot 11))) [21, 23]) (gName 12))
abbrev s_law_rest1_16 (z : Lv) : MS := (Sif (ch1 .NotEq (Ecall (z.call "wick_cut") [(slot 10), (slot 11)]) (Etup [(Eblt sumM false [(Ecomp false (Ival (slot 10)) (gName 23) Tall (Ebin .FloorDiv false (slot 23) (slot 11)) [21, 23])]), (Eblt tupleM false [(Ecomp false (Ival (slot 12)) (gName 24) (ch1 .Gt (slot 24) (pureE (.int 0))) (slot 24) [21, 24])])])) (runW [(Sret (pureE (.bl false)))]) (runW []))
abbrev s_law_rest1_17 (z : Lv) : MS := (Sasg (Eblt dictM false [(Ecomp false (Irng [(Ecall (z.call "_law_roll") [(slot 0), (pureE (.int 5))])]) (gName 3) Tall (Etup [(bin ixM (pureE (.str "abcd")) (slot 3)), (Etup [(Ebin .Add false (pureE (.int 1)) (Ecall (z.call "_law_roll") [(slot 0), (pureE (.int 4))])), (Ecall (z.call "_law_roll") [(slot 0), (pureE (.int 40))])])]) [21, 3])]) (gName 18))
abbrev s_law_rest1_18 (z : Lv) : MS := (Sasg (Esort false false (Sval (Ecomp false (Ival (slot 18)) (gName 25) Tall (Etup [(Ebin .Sub false (pureE (.int 0)) (Eblt maxM false [(pureE (.int 0)), (Ebin .Sub false (Ebin .Mult false (pureE (.int 10)) (bin ixM (bin ixM (slot 18) (slot 25)) (pureE (.int 0)))) (bin ixM (bin ixM (slot 18) (slot 25)) (pureE (.int 1))))])), (slot 25)]) [21, 25]))) (gName 13))
abbrev s_law_rest1_19 (z : Lv) : MS := (Sif (ch1 .NotEq (Etold P (Ecall (z.call "brightest") [(slot 18)])) (Eife (ch1 .NotEq (slot 13) (Elst false [])) (bin ixM (bin ixM (slot 13) (pureE (.int 0))) (pureE (.int 1))) (pureE (.str "no such")))) (runW [(Sret (pureE (.bl false)))]) (runW []))
abbrev s_law_rest1_20 (z : Lv) : MS := (Sif (Tnot (truM (Ecall (z.call "_law_cases1") []))) (runW [(Sret (pureE (.bl false)))]) (runW []))
abbrev s_law_rest1_21 (z : Lv) : MS := (Sret (pureE (.bl true)))
abbrev w_law_rest1_ (z : Lv) : MS := (runW [s_law_rest1_0 z, s_law_rest1_1 z, s_law_rest1_2 z, s_law_rest1_3 z, s_law_rest1_4 z, s_law_rest1_5 z, s_law_rest1_6 z, s_law_rest1_7 z, s_law_rest1_8 z, s_law_rest1_9 z, s_law_rest1_10 z, s_law_rest1_11 z, s_law_rest1_12 z, s_law_rest1_13 z, s_law_rest1_14 z, s_law_rest1_15 z, s_law_rest1_16 z, s_law_rest1_17 z, s_law_rest1_18 z, s_law_rest1_19 z, s_law_rest1_20 z, s_law_rest1_21 z])
@[simp] theorem sw_law_rest1_0 (sl : Sl) (x0 x1 : D) : setR N_law_rest1 ["rows", "can"] [x0, x1] sl = some ((sl.set 2 (some x1)).set 1 (some x0)) := by rfl
@[simp] theorem sw_law_rest1_1 (sl : Sl) (x0 x1 : D) : setR N_law_rest1 ["due", "left"] [x0, x1] sl = some ((sl.set 8 (some x1)).set 7 (some x0)) := by rfl
@[simp] theorem sw_law_rest1_2 (sl : Sl) (x0 x1 : D) : setR N_law_rest1 ["left", "due"] [x0, x1] sl = some ((sl.set 7 (some x1)).set 8 (some x0)) := by rfl
abbrev b_law_rest1 (z : Lv) : MS := (w_law_rest1_ z)
theorem q_law_rest1 (j : Nat) : (lv P (j + 1)).call "_law_rest1" = defC 1 26 (b_law_rest1 (lv P j)) := by
  funext ds s
  kernel_rfl
abbrev N_law : List Str := ["script", "dice", "room", "wick", "oil", "high", "lit", "soot", "step", "sort", "due", "told", "burnt", "lamp", "much"]
abbrev s_law_0b0 (z : Lv) : MS := (Stup [(Ebin .Add false (pureE (.int 1)) (Ecall (z.call "_law_roll") [(slot 1), (pureE (.int 30))])), (Ebin .Add false (pureE (.int 1)) (Ecall (z.call "_law_roll") [(slot 1), (pureE (.int 5))])), (pureE (.int 0)), (pureE (.int 1)), (pureE (.bl false)), (pureE (.int 0))] [(gName 2), (gName 3), (gName 4), (gName 5), (gName 6), (gName 7)])
abbrev s_law_0b1 (z : Lv) : MS := (Sasg (Ecall (z.new "OilLamp") [(slot 2), (slot 3)]) (gName 13))
abbrev s_law_0b2b0 (z : Lv) : MS := (Stup [(Ecall (z.call "_law_roll") [(slot 1), (pureE (.int 8))]), (Ecall (z.call "_law_roll") [(slot 1), (pureE (.int 12))])] [(gName 9), (gName 14)])
abbrev s_law_0b2b1a0 (z : Lv) : MS := (Sasg (Eife (truM (slot 6)) (pureE (.str "deed")) (Eife (ch1 .Lt (slot 14) (pureE (.int 1))) (pureE (.str "size")) (Eife (ch1 .Gt (Ebin .Add false (slot 4) (slot 14)) (slot 2)) (pureE (.str "no room")) (pureE .non)))) (gName 10))
abbrev s_law_0b2b1a1 (z : Lv) : MS := (Sasg (Etold P (Emeth z.meth (slot 13) "pour" [(slot 14)])) (gName 11))
abbrev s_law_0b2b1a2 (z : Lv) : MS := (Sasg (Ebin .Add false (slot 4) (Eife (ch1 .Is (slot 10) (pureE .non)) (slot 14) (pureE (.int 0)))) (gName 4))
abbrev w_law_0b2b1a (z : Lv) : MS := (runW [s_law_0b2b1a0 z, s_law_0b2b1a1 z, s_law_0b2b1a2 z])
abbrev s_law_0b2b1o0a0 (z : Lv) : MS := (Sasg (Eife (truM (slot 6)) (pureE (.str "deed")) (Eife (orTW [(ch1 .Eq (slot 4) (pureE (.int 0))), (ch1 .Eq (slot 3) (pureE (.int 0)))]) (pureE (.str "no way")) (pureE .non))) (gName 10))
abbrev s_law_0b2b1o0a1 (z : Lv) : MS := (Sasg (Etold P (Emeth z.meth (slot 13) "light" [])) (gName 11))
abbrev s_law_0b2b1o0a2 (z : Lv) : MS := (Sasg (orVW [(slot 6), (Eof (ch1 .Is (slot 10) (pureE .non)))]) (gName 6))
abbrev w_law_0b2b1o0a (z : Lv) : MS := (runW [s_law_0b2b1o0a0 z, s_law_0b2b1o0a1 z, s_law_0b2b1o0a2 z])
abbrev s_law_0b2b1o0o0a0 (z : Lv) : MS := (Sasg (Eife (Tnot (ch2 .LtE .LtE (pureE (.int 1)) (slot 14) (pureE (.int 4)))) (pureE (.str "size")) (Eife (ch1 .Eq (slot 14) (slot 5)) (pureE (.str "deed")) (pureE .non))) (gName 10))
abbrev s_law_0b2b1o0o0a1 (z : Lv) : MS := (Sasg (Etold P (Emeth z.meth (slot 13) "turn_wick" [(slot 14)])) (gName 11))
abbrev s_law_0b2b1o0o0a2 (z : Lv) : MS := (Sasg (Eife (ch1 .Is (slot 10) (pureE .non)) (slot 14) (slot 5)) (gName 5))
abbrev w_law_0b2b1o0o0a (z : Lv) : MS := (runW [s_law_0b2b1o0o0a0 z, s_law_0b2b1o0o0a1 z, s_law_0b2b1o0o0a2 z])
abbrev s_law_0b2b1o0o0o0a0 (z : Lv) : MS := (SswN N_law ["due", "told"] [(pureE (.int 0)), (Emeth z.meth (slot 13) "hour" [])])
abbrev s_law_0b2b1o0o0o0a1a0 (z : Lv) : MS := (Sasg (Eblt minM false [(slot 4), (slot 5)]) (gName 12))
abbrev s_law_0b2b1o0o0o0a1a1 (z : Lv) : MS := (SswN N_law ["due", "oil"] [(Eblt maxM false [(pureE (.int 0)), (Ebin .Sub false (Ebin .Mult false (pureE (.int 10)) (slot 12)) (slot 7))]), (Ebin .Sub false (slot 4) (slot 12))])
abbrev s_law_0b2b1o0o0o0a1a2 (z : Lv) : MS := (Sasg (Ebin .Add false (slot 7) (bin ixM (Elst false [(pureE (.int 0)), (pureE (.int 0)), (pureE (.int 0)), (pureE (.int 1)), (pureE (.int 2))]) (slot 5))) (gName 7))
abbrev s_law_0b2b1o0o0o0a1a3 (z : Lv) : MS := (Sasg (Ebin .Sub false (slot 3) (Eblt intM false [(andVW [(Eof (ch1 .Gt (slot 5) (pureE (.int 2)))), (Eof (ch1 .Eq (Ebin .Mod false (slot 7) (pureE (.int 2))) (pureE (.int 0))))])])) (gName 3))
abbrev s_law_0b2b1o0o0o0a1a4 (z : Lv) : MS := (Sasg (andVW [(Eof (ch1 .Gt (slot 4) (pureE (.int 0)))), (Eof (ch1 .Gt (slot 3) (pureE (.int 0))))]) (gName 6))
abbrev w_law_0b2b1o0o0o0a1a (z : Lv) : MS := (runW [s_law_0b2b1o0o0o0a1a0 z, s_law_0b2b1o0o0o0a1a1 z, s_law_0b2b1o0o0o0a1a2 z, s_law_0b2b1o0o0o0a1a3 z, s_law_0b2b1o0o0o0a1a4 z])
abbrev s_law_0b2b1o0o0o0a1 (z : Lv) : MS := (Sif (truM (slot 6)) (w_law_0b2b1o0o0o0a1a z) (runW []))
abbrev w_law_0b2b1o0o0o0a (z : Lv) : MS := (runW [s_law_0b2b1o0o0o0a0 z, s_law_0b2b1o0o0o0a1 z])
abbrev s_law_0b2b1o0o0o0o0a0 (z : Lv) : MS := (SswN N_law ["due", "told"] [(Eife (truM (slot 6)) (pureE .non) (pureE (.str "deed"))), (Etold P (Emeth z.meth (slot 13) "blow_out" []))])
abbrev s_law_0b2b1o0o0o0o0a1 (z : Lv) : MS := (Sasg (pureE (.bl false)) (gName 6))
abbrev w_law_0b2b1o0o0o0o0a (z : Lv) : MS := (runW [s_law_0b2b1o0o0o0o0a0 z, s_law_0b2b1o0o0o0o0a1 z])
abbrev s_law_0b2b1o0o0o0o0o0 (z : Lv) : MS := (SswN N_law ["due", "told"] [(Eife (orTW [(truM (slot 6)), (ch1 .Eq (slot 7) (pureE (.int 0)))]) (pureE (.str "deed")) (slot 7)), (Etold P (Emeth z.meth (slot 13) "wipe" []))])
abbrev s_law_0b2b1o0o0o0o0o1 (z : Lv) : MS := (Sasg (Eife (ch1 .Eq (slot 10) (pureE (.str "deed"))) (slot 7) (pureE (.int 0))) (gName 7))
abbrev w_law_0b2b1o0o0o0o0o (z : Lv) : MS := (runW [s_law_0b2b1o0o0o0o0o0 z, s_law_0b2b1o0o0o0o0o1 z])
abbrev s_law_0b2b1o0o0o0o0 (z : Lv) : MS := (Sif (ch1 .Eq (slot 9) (pureE (.int 6))) (w_law_0b2b1o0o0o0o0a z) (w_law_0b2b1o0o0o0o0o z))
abbrev w_law_0b2b1o0o0o0o (z : Lv) : MS := (runW [s_law_0b2b1o0o0o0o0 z])
abbrev s_law_0b2b1o0o0o0 (z : Lv) : MS := (Sif (ch1 .Lt (slot 9) (pureE (.int 6))) (w_law_0b2b1o0o0o0a z) (w_law_0b2b1o0o0o0o z))
abbrev w_law_0b2b1o0o0o (z : Lv) : MS := (runW [s_law_0b2b1o0o0o0 z])
abbrev s_law_0b2b1o0o0 (z : Lv) : MS := (Sif (ch1 .Eq (slot 9) (pureE (.int 3))) (w_law_0b2b1o0o0a z) (w_law_0b2b1o0o0o z))
abbrev w_law_0b2b1o0o (z : Lv) : MS := (runW [s_law_0b2b1o0o0 z])
abbrev s_law_0b2b1o0 (z : Lv) : MS := (Sif (ch1 .Eq (slot 9) (pureE (.int 2))) (w_law_0b2b1o0a z) (w_law_0b2b1o0o z))
abbrev w_law_0b2b1o (z : Lv) : MS := (runW [s_law_0b2b1o0 z])
abbrev s_law_0b2b1 (z : Lv) : MS := (Sif (ch1 .Lt (slot 9) (pureE (.int 2))) (w_law_0b2b1a z) (w_law_0b2b1o z))
abbrev s_law_0b2b2 (z : Lv) : MS := (Sif (orTW [(ch1 .NotEq (slot 11) (slot 10)), (ch1 .NotEq (Emeth z.meth (slot 13) "shown" []) (Etup [(slot 4), (slot 3), (slot 5), (slot 6), (slot 7)]))]) (runW [(Sret (pureE (.bl false)))]) (runW []))
abbrev w_law_0b2b (z : Lv) : MS := (runW [s_law_0b2b0 z, s_law_0b2b1 z, s_law_0b2b2 z])
abbrev s_law_0b2 (z : Lv) : MS := (Sfor (Irng [(Ecall (z.call "_law_roll") [(slot 1), (pureE (.int 13))])]) (gName 8) (w_law_0b2b z))
abbrev s_law_0b3 (z : Lv) : MS := (Sif (ch1 .NotEq (Emeth z.meth (slot 13) "hours_left" []) (Eblt lenM false [(Elrg false [(pureE (.int 0)), (slot 4), (slot 5)])])) (runW [(Sret (pureE (.bl false)))]) (runW []))
abbrev s_law_0b4 (z : Lv) : MS := (Sif (Tnot (truM (Ecall (z.call "_law_rest1") [(slot 1)]))) (runW [(Sret (pureE (.bl false)))]) (runW []))
abbrev w_law_0b (z : Lv) : MS := (runW [s_law_0b0 z, s_law_0b1 z, s_law_0b2 z, s_law_0b3 z, s_law_0b4 z])
abbrev s_law_0 (z : Lv) : MS := (Sfor (Ival (Ecall (z.call "_law_rounds") [(slot 0), (pureE (.int 1))])) (gName 1) (w_law_0b z))
abbrev s_law_1 (z : Lv) : MS := (Sret (pureE (.bl true)))
abbrev w_law_ (z : Lv) : MS := (runW [s_law_0 z, s_law_1 z])
@[simp] theorem sw_law_0 (sl : Sl) (x0 x1 : D) : setR N_law ["due", "told"] [x0, x1] sl = some ((sl.set 11 (some x1)).set 10 (some x0)) := by rfl
@[simp] theorem sw_law_1 (sl : Sl) (x0 x1 : D) : setR N_law ["due", "oil"] [x0, x1] sl = some ((sl.set 4 (some x1)).set 10 (some x0)) := by rfl
abbrev b_law (z : Lv) : MS := (w_law_ z)
theorem q_law (j : Nat) : (lv P (j + 1)).call "law" = defC 1 15 (b_law (lv P j)) := by
  funext ds s
  kernel_rfl
end LW
set_option Elab.async false
set_option linter.all false
set_option maxRecDepth 1000000
set_option maxHeartbeats 1000000
namespace LW
open PySem PySem.Spec PyProof.Rows L2 AL
theorem roll_run (z : Lv) {i : Nat} {a b k m : Int} {s : S} (h : Dice i a b k s) (hm : 0 < m) (hm2 : m < 1073741824) :
    b_law_roll z [some (.ref i), some (.int m), none] s = .rt (.int (rollV a b k m)) (setD i (rollA a b k m) (rollB a b k) (rollK a k) s) := by
  have hm0 : m ≠ 0 := by omega
  have hm1 : m ≠ 0 ∧ m.natAbs < 1073741824 := ⟨hm0, by omega⟩
  have hM : ∀ x : Int, binD .Mod (.int x) (.int m) = fun s => R.ok (.int (x.fmod m)) s := fun x => funext fun s => mod_int s hm0
  have hD : ∀ x : Int, binD .FloorDiv (.int x) (.int m) = fun s => R.ok (.int (x.fdiv m)) s := fun x => funext fun s => div_int s hm1
  have hD7 : ∀ x : Int, binD .FloorDiv (.int x) (.int 7) = fun s => R.ok (.int (x.fdiv 7)) s := fun x => funext fun s => div_int s (by decide)
  have hMp : ∀ x : Int, binD .Mod (.int x) (.int 2147483647) = fun s => R.ok (.int (x.fmod 2147483647)) s := fun x => funext fun s => mod_int s (by decide)
  have hX : ∀ x : Int, binD .Mult (.int x) (.int 48271) = fun s => R.ok (.int (x * 48271)) s := fun x => funext fun s => mul_int s (.inr (by decide))
  have hY : ∀ x : Int, binD .Mult (.int x) (.int 69621) = fun s => R.ok (.int (x * 69621)) s := fun x => funext fun s => mul_int s (.inr (by decide))
  have test : orTW [ch1 .Eq (bin ixM (slot 0) (pureE (.int 2))) (pureE (.int 2)), andTW [ch1 .Eq (bin ixM (slot 0) (pureE (.int 2))) (pureE (.int 1)), ch1 .Gt (bin ixM (slot 0) (pureE (.int 0))) (pureE (.int 0))]] [some (.ref i), some (.int m), none] s = .ok (decide (k = 2 ∨ (k = 1 ∧ 0 < a))) s := by
    simp [orTW, andTW, ch1_ap, bin_ap, ixM_ap, h.ix2, h.ix0]
    by_cases h2 : k = 2 <;> by_cases h1 : k = 1 <;> simp [h1, h2]
  by_cases hk : k = 2 ∨ (k = 1 ∧ 0 < a)
  · rw [decide_eq_true hk] at test
    simp [b_law_roll, s_law_roll_0a0, s_law_roll_0a1, s_law_roll_0a2, w_law_roll_0a, s_law_roll_0, s_law_roll_1, s_law_roll_2, s_law_roll_3, s_law_roll_4, w_law_roll_, Sif_ap, test, Sasg_ap, Ebin_ap, Eblt_ap, bin_ap, ixM_ap, h.ix0, hM, hD, Gix_ap, h.set0, Sret_ap, rollV, rollA, rollB, rollK, hk]
  · rw [decide_eq_false hk] at test
    have d1 := h.put a b 0
    have d2 := d1.put ((a * 48271 + b * 69621 + 11).fmod 2147483647) b 0
    have d3 := d2.put ((a * 48271 + b * 69621 + 11).fmod 2147483647) (b + 1) 0
    simp only [put_put] at d2 d3
    simp [b_law_roll, s_law_roll_0a0, s_law_roll_0a1, s_law_roll_0a2, w_law_roll_0a, s_law_roll_0, s_law_roll_1, s_law_roll_2, s_law_roll_3, s_law_roll_4, w_law_roll_, Sif_ap, test, Sasg_ap, Ebin_ap, Eblt_ap, bin_ap, ixM_ap, Gix_ap, h.set2, d1.ix0, d1.ix1, hX, hY, hMp, d1.set0, put_put, d2.ix1, d2.set1, d3.ix0, hD7, hM, Sret_ap, rollV, rollA, rollB, rollK, hk]
theorem roll (j : Nat) {i : Nat} {a b k m : Int} {s : S} (h : Dice i a b k s) (hm : 0 < m) (hm2 : m < 1073741824) :
    (lv P (j + 1)).call "_law_roll" [.ref i, .int m] s = .ok (.int (rollV a b k m)) (setD i (rollA a b k m) (rollB a b k) (rollK a k) s) := by
  rw [q_law_roll]
  have hr := roll_run (lv P j) (h.based (s.st.length :: s.bases)) hm hm2
  have hc := defC_rt (np := 2) (n := 3) (b := b_law_roll (lv P j)) (ds := [.ref i, .int m]) (s := s) rfl hr rfl rfl rfl
  rw [hc]
  have : (s.st.set i (.lst [.int (rollA a b k m), .int (rollB a b k), .int (rollK a k)])).take s.st.length = s.st.set i (.lst [.int (rollA a b k m), .int (rollB a b k), .int (rollK a k)]) := by
    refine List.take_of_length_le ?_
    rw [List.length_set]
    exact Nat.le_refl _
  show R.ok _ (⟨(s.st.set i (.lst [.int (rollA a b k m), .int (rollB a b k), .int (rollK a k)])).take s.st.length, s.bases, s.lk⟩ : S) = _
  rw [this]
  rfl
theorem dice_run (z : Lv) (c : Int) (s : S) : b_law_dice z [some (.int c)] s = .rt (.ref s.st.length) { s with st := s.st ++ [diceC c] } := by
  have hp : binD .Pow (.int 10) (.int 18) = fun s => R.ok (.int (10 ^ 18)) s := rfl
  have hq : binD .Mod (.int c) (.int 1009) = fun s => R.ok (.int (c.fmod 1009)) s := funext fun s => mod_int s (by decide)
  have ha : absM [.int c] = fun s => R.ok (.int (c.natAbs : Int)) s := by
    funext s
    simp [absM]
    split <;> omega
  unfold diceC diceA diceB diceK
  by_cases h1 : (-10 : Int) < c <;> by_cases h2 : c < 10 <;> by_cases h3 : (1000000000000000000 : Int) ≤ c <;> simp [b_law_dice, s_law_dice_0, s_law_dice_1, w_law_dice_, Sif_ap, ch2_ap, Ebin_ap, Sret_ap, Elst_ap, Eblt_ap, Eof_ap, ch1_ap, hp, hq, ha, h1, h2, h3, b2D]
theorem dice (j : Nat) (c : Int) (s : S) : (lv P (j + 1)).call "_law_dice" [.int c] s = .ok (.ref s.st.length) { s with st := s.st ++ [diceC c] } := by
  rw [q_law_dice]
  have hr := dice_run (lv P j) c { s with bases := s.st.length :: s.bases }
  exact defC_rt2 (np := 1) (n := 1) (ds := [.int c]) rfl hr rfl rfl (by simp [D.under])
/-- a row of dice -/
theorem dices (j : Nat) {g : MG} {t : MT} (sl : Sl) (hg : ∀ c s, g (.int c) sl s = .ok (sl.set 4 (some (.int c))) s) (ht : ∀ sl s, t sl s = .ok true s) (h4 : 4 < sl.length) : ∀ (cs : List Int) (s : S), compL g t (Ecall ((lv P (j + 1)).call "_law_dice") [slot 4]) sl (cs.map .int) s =
    .ok ((List.range cs.length).map fun i => .ref (s.st.length + i)) { s with st := s.st ++ cs.map diceC }
  | [], s => by simp [compL]
  | c :: cs, s => by
    have ih := dices j sl hg ht h4 cs { s with st := s.st ++ [diceC c] }
    have hs : slot 4 (sl.set 4 (some (.int c))) s = .ok (.int c) s := by
      unfold slot
      rw [List.getElem?_set_self h4]
    simp only [List.map_cons, compL, hg, noErr_ok, bind_ok, ht, if_true, Ecall_ap, manyW_c, hs, manyW_n, dice, ih]
    simp [List.range_succ_eq_map, Nat.add_assoc, Nat.add_comm, Nat.add_left_comm]
theorem rounds_run (j : Nat) (ns : List Int) (m : Nat) (s : S) : b_law_rounds (lv P (j + 1)) [some (.lst (ns.map .int)), some (.int m), none, none, none] s =
    .rt (.lst ((List.range (cellsOf ns m).length).map fun i => .ref (s.st.length + i))) { s with st := s.st ++ (cellsOf ns m).map diceC } := by
  have hc := cut_take (ns.map D.int) m s
  have go : ∀ (cs : List Int) (s : S), cs ≠ [] → Sret (Ecomp false (Ival (slot 2)) (gName 4) Tall (Ecall ((lv P (j + 1)).call "_law_dice") [slot 4]) [3, 4]) [some (.lst (ns.map .int)), some (.int m), some (.lst (cs.map .int)), none, none] s =
      .rt (.lst ((List.range cs.length).map fun i => .ref (s.st.length + i))) { s with st := s.st ++ cs.map diceC } := fun cs s hn => by
    have hd := dices j (g := gName 4) (t := Tall) [some (.lst (ns.map .int)), some (.int m), some (.lst (cs.map .int)), none, none] (fun c s => rfl) (fun sl s => rfl) (by simp) cs s
    rw [Sret_ap, Ecomp_ap]
    simp [Ival_ap, wipeS, hd]
  have e1 : Sasg (Eslc (slot 0) none (some (slot 1))) (gName 2) [some (.lst (ns.map .int)), some (.int m), none, none, none] s = .nx [some (.lst (ns.map .int)), some (.int m), some (.lst ((ns.take m).map .int)), none, none] s := by
    simp [Sasg_ap, Eslc, partW, hc]
  unfold cellsOf
  by_cases h : ns.take m = []
  · rw [if_pos h]
    have := go [0] s (by simp)
    rw [h] at e1
    simp only [b_law_rounds, s_law_rounds_0, s_law_rounds_1, s_law_rounds_2, w_law_rounds_, runW_c, e1, then_nx]
    simp at this
    simp [Sif_ap, ch1_ap, Elst_ap, Sasg_ap, this]
  · rw [if_neg h]
    have := go (ns.take m) s h
    simp only [b_law_rounds, s_law_rounds_0, s_law_rounds_1, s_law_rounds_2, w_law_rounds_, runW_c, e1, then_nx]
    have hne : ((ns.take m).map D.int).isEmpty = false := by
      cases q : ns.take m with
      | nil => exact absurd q h
      | cons x l => rfl
    simp only [Sif_ap, ch1_ap, Elst_ap, slot_s, slot_0, bind_ok, manyW_n, mkC_f, cmp_eq_nil, hne, sbind_ok, Bool.false_eq_true, if_false, runW_n, then_nx]
    rw [runW_c, this]
    rfl
theorem rounds (j : Nat) (ns : List Int) (m : Nat) (s : S) : (lv P (j + 2)).call "_law_rounds" [.lst (ns.map .int), .int m] s =
    .ok (.lst ((List.range (cellsOf ns m).length).map fun i => .ref (s.st.length + i))) { s with st := s.st ++ (cellsOf ns m).map diceC } := by
  rw [q_law_rounds]
  have hr := rounds_run j ns m { s with bases := s.st.length :: s.bases }
  refine defC_rt2 (np := 2) (n := 5) (ds := [.lst (ns.map .int), .int m]) rfl hr rfl rfl ?_
  have : ∃ x l, cellsOf ns m = x :: l := by
    unfold cellsOf
    cases q : ns.take m with
    | nil => exact ⟨_, _, rfl⟩
    | cons x l => exact ⟨_, _, rfl⟩
  obtain ⟨x, l, e⟩ := this
  rw [e]
  simp [D.under, belowL, List.range_succ_eq_map]
@[simp] theorem tell_BadDeed (s : S) : tellR P (.err ⟨"BadDeed", none⟩ s) = .ok (.str "deed") s := tell_er (by decide +kernel) (by decide +kernel) s
@[simp] theorem tell_BadLamp (s : S) : tellR P (.err ⟨"BadLamp", none⟩ s) = .ok (.str "lamp") s := tell_er (by decide +kernel) (by decide +kernel) s
@[simp] theorem tell_BadSize (s : S) : tellR P (.err ⟨"BadSize", none⟩ s) = .ok (.str "size") s := tell_er (by decide +kernel) (by decide +kernel) s
@[simp] theorem tell_NoRoom (s : S) : tellR P (.err ⟨"NoRoom", none⟩ s) = .ok (.str "no room") s := tell_er (by decide +kernel) (by decide +kernel) s
@[simp] theorem tell_NoSuch (s : S) : tellR P (.err ⟨"NoSuch", none⟩ s) = .ok (.str "no such") s := tell_er (by decide +kernel) (by decide +kernel) s
@[simp] theorem tell_NoWay (s : S) : tellR P (.err ⟨"NoWay", none⟩ s) = .ok (.str "no way") s := tell_er (by decide +kernel) (by decide +kernel) s
def a_OilLamp (holds : Int) (oil : Int) (wick : Int) (high : Int) (lit : Bool) (soot : Int) : List (Str × D) := [("holds", .int holds), ("oil", .int oil), ("wick", .int wick), ("high", .int high), ("lit", .bl lit), ("soot", .int soot)]
section
variable (holds : Int) (oil : Int) (wick : Int) (high : Int) (lit : Bool) (soot : Int) {q : Nat} {s : S}
@[simp] theorem l_OilLamp : (a_OilLamp holds oil wick high lit soot).length < 999 := by simp [a_OilLamp]
@[simp] theorem g_OilLamp_holds : lookK ("holds" : Str) (a_OilLamp holds oil wick high lit soot) = some (.int holds) := by simp [a_OilLamp, lookK, ofString_inj]
@[simp] theorem get_OilLamp_holds (h : q < s.st.length) : getAt (.ref q) "holds" (putC q (.ins "OilLamp" (a_OilLamp holds oil wick high lit soot)) s) = some (.int holds) := by rw [getAt_put h, g_OilLamp_holds]
theorem t_OilLamp_holds : attrP P "OilLamp" "holds" = true := by decide +kernel
@[simp] theorem u_OilLamp_holds (v' : Int) : setO ("holds" : Str) (.int v') (a_OilLamp holds oil wick high lit soot) = a_OilLamp v' oil wick high lit soot := by simp [a_OilLamp, setO, ofString_inj]
@[simp] theorem set_OilLamp_holds (h : q < s.st.length) (hl : s.lk = []) (v' : Int) : setAt (attrP P) (.ref q) "holds" (.int v') (putC q (.ins "OilLamp" (a_OilLamp holds oil wick high lit soot)) s) = .ok () (putC q (.ins "OilLamp" (a_OilLamp v' oil wick high lit soot)) s) := by
  rw [setAt_put h hl (by simp) t_OilLamp_holds (l_OilLamp ..), u_OilLamp_holds]
@[simp] theorem g_OilLamp_oil : lookK ("oil" : Str) (a_OilLamp holds oil wick high lit soot) = some (.int oil) := by simp [a_OilLamp, lookK, ofString_inj]
@[simp] theorem get_OilLamp_oil (h : q < s.st.length) : getAt (.ref q) "oil" (putC q (.ins "OilLamp" (a_OilLamp holds oil wick high lit soot)) s) = some (.int oil) := by rw [getAt_put h, g_OilLamp_oil]
theorem t_OilLamp_oil : attrP P "OilLamp" "oil" = true := by decide +kernel
@[simp] theorem u_OilLamp_oil (v' : Int) : setO ("oil" : Str) (.int v') (a_OilLamp holds oil wick high lit soot) = a_OilLamp holds v' wick high lit soot := by simp [a_OilLamp, setO, ofString_inj]
@[simp] theorem set_OilLamp_oil (h : q < s.st.length) (hl : s.lk = []) (v' : Int) : setAt (attrP P) (.ref q) "oil" (.int v') (putC q (.ins "OilLamp" (a_OilLamp holds oil wick high lit soot)) s) = .ok () (putC q (.ins "OilLamp" (a_OilLamp holds v' wick high lit soot)) s) := by
  rw [setAt_put h hl (by simp) t_OilLamp_oil (l_OilLamp ..), u_OilLamp_oil]
@[simp] theorem g_OilLamp_wick : lookK ("wick" : Str) (a_OilLamp holds oil wick high lit soot) = some (.int wick) := by simp [a_OilLamp, lookK, ofString_inj]
@[simp] theorem get_OilLamp_wick (h : q < s.st.length) : getAt (.ref q) "wick" (putC q (.ins "OilLamp" (a_OilLamp holds oil wick high lit soot)) s) = some (.int wick) := by rw [getAt_put h, g_OilLamp_wick]
theorem t_OilLamp_wick : attrP P "OilLamp" "wick" = true := by decide +kernel
@[simp] theorem u_OilLamp_wick (v' : Int) : setO ("wick" : Str) (.int v') (a_OilLamp holds oil wick high lit soot) = a_OilLamp holds oil v' high lit soot := by simp [a_OilLamp, setO, ofString_inj]
@[simp] theorem set_OilLamp_wick (h : q < s.st.length) (hl : s.lk = []) (v' : Int) : setAt (attrP P) (.ref q) "wick" (.int v') (putC q (.ins "OilLamp" (a_OilLamp holds oil wick high lit soot)) s) = .ok () (putC q (.ins "OilLamp" (a_OilLamp holds oil v' high lit soot)) s) := by
  rw [setAt_put h hl (by simp) t_OilLamp_wick (l_OilLamp ..), u_OilLamp_wick]
@[simp] theorem g_OilLamp_high : lookK ("high" : Str) (a_OilLamp holds oil wick high lit soot) = some (.int high) := by simp [a_OilLamp, lookK, ofString_inj]
@[simp] theorem get_OilLamp_high (h : q < s.st.length) : getAt (.ref q) "high" (putC q (.ins "OilLamp" (a_OilLamp holds oil wick high lit soot)) s) = some (.int high) := by rw [getAt_put h, g_OilLamp_high]
theorem t_OilLamp_high : attrP P "OilLamp" "high" = true := by decide +kernel
@[simp] theorem u_OilLamp_high (v' : Int) : setO ("high" : Str) (.int v') (a_OilLamp holds oil wick high lit soot) = a_OilLamp holds oil wick v' lit soot := by simp [a_OilLamp, setO, ofString_inj]
@[simp] theorem set_OilLamp_high (h : q < s.st.length) (hl : s.lk = []) (v' : Int) : setAt (attrP P) (.ref q) "high" (.int v') (putC q (.ins "OilLamp" (a_OilLamp holds oil wick high lit soot)) s) = .ok () (putC q (.ins "OilLamp" (a_OilLamp holds oil wick v' lit soot)) s) := by
  rw [setAt_put h hl (by simp) t_OilLamp_high (l_OilLamp ..), u_OilLamp_high]
@[simp] theorem g_OilLamp_lit : lookK ("lit" : Str) (a_OilLamp holds oil wick high lit soot) = some (.bl lit) := by simp [a_OilLamp, lookK, ofString_inj]
@[simp] theorem get_OilLamp_lit (h : q < s.st.length) : getAt (.ref q) "lit" (putC q (.ins "OilLamp" (a_OilLamp holds oil wick high lit soot)) s) = some (.bl lit) := by rw [getAt_put h, g_OilLamp_lit]
theorem t_OilLamp_lit : attrP P "OilLamp" "lit" = true := by decide +kernel
@[simp] theorem u_OilLamp_lit (v' : Bool) : setO ("lit" : Str) (.bl v') (a_OilLamp holds oil wick high lit soot) = a_OilLamp holds oil wick high v' soot := by simp [a_OilLamp, setO, ofString_inj]
@[simp] theorem set_OilLamp_lit (h : q < s.st.length) (hl : s.lk = []) (v' : Bool) : setAt (attrP P) (.ref q) "lit" (.bl v') (putC q (.ins "OilLamp" (a_OilLamp holds oil wick high lit soot)) s) = .ok () (putC q (.ins "OilLamp" (a_OilLamp holds oil wick high v' soot)) s) := by
  rw [setAt_put h hl (by simp) t_OilLamp_lit (l_OilLamp ..), u_OilLamp_lit]
@[simp] theorem g_OilLamp_soot : lookK ("soot" : Str) (a_OilLamp holds oil wick high lit soot) = some (.int soot) := by simp [a_OilLamp, lookK, ofString_inj]
@[simp] theorem get_OilLamp_soot (h : q < s.st.length) : getAt (.ref q) "soot" (putC q (.ins "OilLamp" (a_OilLamp holds oil wick high lit soot)) s) = some (.int soot) := by rw [getAt_put h, g_OilLamp_soot]
theorem t_OilLamp_soot : attrP P "OilLamp" "soot" = true := by decide +kernel
@[simp] theorem u_OilLamp_soot (v' : Int) : setO ("soot" : Str) (.int v') (a_OilLamp holds oil wick high lit soot) = a_OilLamp holds oil wick high lit v' := by simp [a_OilLamp, setO, ofString_inj]
@[simp] theorem set_OilLamp_soot (h : q < s.st.length) (hl : s.lk = []) (v' : Int) : setAt (attrP P) (.ref q) "soot" (.int v') (putC q (.ins "OilLamp" (a_OilLamp holds oil wick high lit soot)) s) = .ok () (putC q (.ins "OilLamp" (a_OilLamp holds oil wick high lit v')) s) := by
  rw [setAt_put h hl (by simp) t_OilLamp_soot (l_OilLamp ..), u_OilLamp_soot]
end
end LW
set_option Elab.async false
set_option linter.all false
set_option maxRecDepth 1000000
set_option maxHeartbeats 2000000
namespace LW
open PySem PySem.Spec PyProof.Rows L2 AL
section
variable {q : Nat} {s : S} {holds oil wick high : Int} {lit : Bool} {soot : Int}
theorem pour (z : Lv) (hq : q < s.st.length) (hl : s.lk = []) (much : Int) : defC 2 2 (b_OilLamp_pour z) [.ref q, .int much] (putC q (.ins "OilLamp" (a_OilLamp holds oil wick high lit soot)) s) =
    if lit = true then .err ⟨"BadDeed", none⟩ (putC q (.ins "OilLamp" (a_OilLamp holds oil wick high lit soot)) s)
    else if much < 1 then .err ⟨"BadSize", none⟩ (putC q (.ins "OilLamp" (a_OilLamp holds oil wick high lit soot)) s)
    else if holds < oil + much then .err ⟨"NoRoom", none⟩ (putC q (.ins "OilLamp" (a_OilLamp holds oil wick high lit soot)) s)
    else .ok .non (putC q (.ins "OilLamp" (a_OilLamp holds (oil + much) wick high lit soot)) s) := by
  cases lit
  · by_cases h1 : much < 1 <;> by_cases h2 : holds < oil + much <;> simp [defC_eq, hq, hl, h1, h2, augD]
  · simp [defC_eq, hq, hl]
theorem light (z : Lv) (hq : q < s.st.length) (hl : s.lk = []) : defC 1 1 (b_OilLamp_light z) [.ref q] (putC q (.ins "OilLamp" (a_OilLamp holds oil wick high lit soot)) s) =
    if lit = true then .err ⟨"BadDeed", none⟩ (putC q (.ins "OilLamp" (a_OilLamp holds oil wick high lit soot)) s)
    else if oil = 0 ∨ wick = 0 then .err ⟨"NoWay", none⟩ (putC q (.ins "OilLamp" (a_OilLamp holds oil wick high lit soot)) s)
    else .ok .non (putC q (.ins "OilLamp" (a_OilLamp holds oil wick high true soot)) s) := by
  cases lit
  · by_cases h1 : oil = 0 <;> by_cases h2 : wick = 0 <;> simp [defC_eq, hq, hl, h1, h2]
  · simp [defC_eq, hq, hl]
theorem turn_wick (z : Lv) (hq : q < s.st.length) (hl : s.lk = []) (h : Int) : defC 2 2 (b_OilLamp_turn_wick z) [.ref q, .int h] (putC q (.ins "OilLamp" (a_OilLamp holds oil wick high lit soot)) s) =
    if ¬(1 ≤ h ∧ h ≤ 4) then .err ⟨"BadSize", none⟩ (putC q (.ins "OilLamp" (a_OilLamp holds oil wick high lit soot)) s)
    else if h = high then .err ⟨"BadDeed", none⟩ (putC q (.ins "OilLamp" (a_OilLamp holds oil wick high lit soot)) s)
    else .ok .non (putC q (.ins "OilLamp" (a_OilLamp holds oil wick h lit soot)) s) := by
  by_cases h3 : h = high
  · subst h3
    by_cases h1 : 1 ≤ h <;> by_cases h2 : h ≤ 4 <;> simp [defC_eq, hq, hl, h1, h2]
  · by_cases h1 : 1 ≤ h <;> by_cases h2 : h ≤ 4 <;> simp [defC_eq, hq, hl, h1, h2, h3]
theorem blow_out (z : Lv) (hq : q < s.st.length) (hl : s.lk = []) : defC 1 1 (b_OilLamp_blow_out z) [.ref q] (putC q (.ins "OilLamp" (a_OilLamp holds oil wick high lit soot)) s) =
    if lit = false then .err ⟨"BadDeed", none⟩ (putC q (.ins "OilLamp" (a_OilLamp holds oil wick high lit soot)) s)
    else .ok .non (putC q (.ins "OilLamp" (a_OilLamp holds oil wick high false soot)) s) := by
  cases lit <;> simp [defC_eq, hq, hl]
theorem wipe (z : Lv) (hq : q < s.st.length) (hl : s.lk = []) : defC 1 2 (b_OilLamp_wipe z) [.ref q] (putC q (.ins "OilLamp" (a_OilLamp holds oil wick high lit soot)) s) =
    if lit = true ∨ soot = 0 then .err ⟨"BadDeed", none⟩ (putC q (.ins "OilLamp" (a_OilLamp holds oil wick high lit soot)) s)
    else .ok (.int soot) (putC q (.ins "OilLamp" (a_OilLamp holds oil wick high lit 0)) s) := by
  cases lit <;> by_cases h1 : soot = 0 <;> simp [defC_eq, hq, hl, h1]
theorem shown (z : Lv) (hq : q < s.st.length) : defC 1 1 (b_OilLamp_shown z) [.ref q] (putC q (.ins "OilLamp" (a_OilLamp holds oil wick high lit soot)) s) =
    .ok (.tup [.int oil, .int wick, .int high, .bl lit, .int soot]) (putC q (.ins "OilLamp" (a_OilLamp holds oil wick high lit soot)) s) := by
  simp [defC_eq, hq]
theorem hours_left (z : Lv) (hq : q < s.st.length) (h : high ≠ 0 ∧ high.natAbs < 1073741824) : defC 1 1 (b_OilLamp_hours_left z) [.ref q] (putC q (.ins "OilLamp" (a_OilLamp holds oil wick high lit soot)) s) =
    .ok (.int (0 - (0 - oil).fdiv high)) (putC q (.ins "OilLamp" (a_OilLamp holds oil wick high lit soot)) s) := by
  have hd : ∀ x s, binD .FloorDiv (.int x) (.int high) s = .ok (.int (x.fdiv high)) s := fun x s => div_int s h
  simp [defC_eq, hq, hd]
def hB (oil high : Int) : Int := if high < oil then high else oil
def hS (high soot : Int) : Int := if 0 < high - 2 then soot + (high - 2) else soot
def hW (wick high soot : Int) : Int := if 0 < high - 2 ∧ (soot + (high - 2)).fmod 2 = 0 then wick - 1 else wick
def hG (oil high soot : Int) : Int := if hB oil high * 10 - soot > 0 then hB oil high * 10 - soot else 0
theorem hour (z : Lv) (hq : q < s.st.length) (hl : s.lk = []) : defC 1 4 (b_OilLamp_hour z) [.ref q] (putC q (.ins "OilLamp" (a_OilLamp holds oil wick high lit soot)) s) =
    if lit = false then .ok (.int 0) (putC q (.ins "OilLamp" (a_OilLamp holds oil wick high lit soot)) s)
    else .ok (.int (hG oil high soot)) (putC q (.ins "OilLamp" (a_OilLamp holds (oil - hB oil high) (hW wick high soot) high (!decide (oil - hB oil high = 0 ∨ hW wick high soot = 0)) (hS high soot))) s) := by
  cases lit
  · simp [defC_eq, hq, hl]
  · have hmul : ∀ x s, binD .Mult (.int x) (.int 10) s = .ok (.int (x * 10)) s := fun x s => mul_int s (.inr (by decide))
    have hmod : ∀ x s, binD .Mod (.int x) (.int 2) s = .ok (.int (x.fmod 2)) s := fun x s => mod_int s (by decide)
    have hmin : ∀ s, minM [.int oil, .int high] s = .ok (.int (hB oil high)) s := fun s => rfl
    have hmax : ∀ s, maxM [.int 0, .int (hB oil high * 10 - soot)] s = .ok (.int (hG oil high soot)) s := fun s => rfl
    by_cases g1 : 0 < high - 2
    · have hsm : ∀ s, maxM [.int 0, .int (high - 2)] s = .ok (.int (high - 2)) s := fun s => by
        show R.ok (D.int (if high - 2 > 0 then high - 2 else 0)) s = _
        rw [if_pos g1]
      have g1' : 2 < high := by omega
      by_cases g2 : (soot + (high - 2)).fmod 2 = 0
      · have hw : hW wick high soot = wick - 1 := if_pos ⟨g1, g2⟩
        have hs : hS high soot = soot + (high - 2) := if_pos g1
        rw [hw, hs]
        by_cases g3 : oil - hB oil high = 0 <;> by_cases g4 : wick - 1 = 0 <;> simp [-max2, -min2, defC_eq, hq, hl, hmul, hmod, hmin, hmax, hsm, augD, g1', g2, g3, g4]
      · have hw : hW wick high soot = wick := if_neg fun z => g2 z.2
        have hs : hS high soot = soot + (high - 2) := if_pos g1
        rw [hw, hs]
        by_cases g3 : oil - hB oil high = 0 <;> by_cases g4 : wick = 0 <;> simp [-max2, -min2, defC_eq, hq, hl, hmul, hmod, hmin, hmax, hsm, augD, g1', g2, g3, g4]
    · have hsm : ∀ s, maxM [.int 0, .int (high - 2)] s = .ok (.int 0) s := fun s => by
        show R.ok (D.int (if high - 2 > 0 then high - 2 else 0)) s = _
        rw [if_neg g1]
      have hw : hW wick high soot = wick := if_neg fun z => g1 z.1
      have hs : hS high soot = soot := if_neg g1
      rw [hw, hs]
      by_cases g3 : oil - hB oil high = 0 <;> by_cases g4 : wick = 0 <;> simp [-max2, -min2, defC_eq, hq, hl, hmul, hmod, hmin, hmax, hsm, augD, g3, g4]
theorem new_lamp (j : Nat) (hl : s.lk = []) (a b : Int) : (lv P (j + 1)).new "OilLamp" [.int a, .int b] s =
    if (if b < a then b else a) < 1 then .err ⟨"BadLamp", none⟩ s else .ok (.ref s.st.length) { s with st := s.st ++ [.ins "OilLamp" (a_OilLamp a 0 b 1 false 0)] } := by
  rw [q_OilLamp_init__]
  by_cases h : (if b < a then b else a) < 1
  · rw [if_pos h]
    refine iniC_er (sl := [some (.ref s.st.length), some (.int a), some (.int b)]) rfl ?_
    simp [h]
  · rw [if_neg h]
    refine iniC_ok (sl := [some (.ref s.st.length), some (.int a), some (.int b)]) rfl ?_
    generalize hs : ({ s with st := s.st ++ [.ins "OilLamp" []], bases := s.st.length :: s.bases } : S) = s2
    have hq : s.st.length < s2.st.length := by rw [← hs]; simp
    have hk : s2.lk = [] := by rw [← hs]; exact hl
    have st : ∀ (f : Str) (v : D) (l : List (Str × D)), attrP P "OilLamp" f = true → (∀ s i, fits s i v = true) → l.length < 999 → setAt (attrP P) (.ref s.st.length) f v (putC s.st.length (.ins "OilLamp" l) s2) = .ok () (putC s.st.length (.ins "OilLamp" (setO f v l)) s2) := fun f v l h1 h2 h3 => setAt_put hq hk (h2 _ _) h1 h3
    simp [h, st, t_OilLamp_holds, t_OilLamp_oil, t_OilLamp_wick, t_OilLamp_high, t_OilLamp_lit, t_OilLamp_soot, setO, ofString_inj, a_OilLamp]
end
end LW
set_option Elab.async false
set_option linter.all false
set_option maxRecDepth 1000000
set_option maxHeartbeats 2000000
namespace LW
open PySem PySem.Spec PyProof.Rows L2 AL
section
variable {r : Nat} {s : S}
def pr (l : List (Int × Int)) : List D := l.map fun p => .tup [.int p.1, .int p.2]
def lack (l : List (Int × Int)) : List Int := l.map fun p => p.1 - p.2
theorem sum_nn : ∀ l : List Int, (∀ x ∈ l, 0 ≤ x) → 0 ≤ l.sum
  | [], _ => by simp
  | x :: l, h => by
    rw [List.sum_cons]
    have := sum_nn l fun y hy => h y (List.mem_cons_of_mem _ hy)
    have := h x (List.mem_cons_self ..)
    omega
theorem filt {α : Type} (l : List α) : l.filter (fun _ => true) = l := List.filter_eq_self.mpr fun _ _ => rfl
theorem cans_for (j : Nat) (l : List (Int × Int)) (hr : s.st[r]? = some (.lst (pr l))) (hl : s.lk = []) (can : Int) (h1 : 1 ≤ can) (h2 : can < 1000) (hn : l.length ≤ 1000) (hb : ∀ p ∈ l, 0 ≤ p.2 ∧ p.2 ≤ p.1 ∧ p.1 ≤ 1000) :
    (lv P (j + 1)).call "cans_for" [.ref r, .int can] s = .ok (.tup [.int (0 - (0 - (lack l).sum).fdiv can), .int ((0 - (0 - (lack l).sum).fdiv can) * can - (lack l).sum)]) s := by
  rw [q_cans_for]
  have hg : ∀ s', genC "sum" (Gtup [(gName 5), (gName 6)]) Tall (Ebin .Sub false (slot 5) (slot 6)) [some (.ref r), some (.int can), none, none, none, none, none] (pr l) s' = .ok (.int (lack l).sum) s' := fun s' => by
    have := gen_sum (s := s') (sl := [some (.ref r), some (.int can), none, none, none, none, none]) (g := Gtup [(gName 5), (gName 6)]) (t := Tall) (e := Ebin .Sub false (slot 5) (slot 6)) (fun p : Int × Int => D.tup [.int p.1, .int p.2]) (fun _ => true) (fun p => p.1 - p.2) 1000 l (by omega) (fun x hx => by have := hb x hx; omega) fun x _ => ⟨[some (.ref r), some (.int can), none, none, none, some (.int x.1), some (.int x.2)], by simp, rfl, fun _ => by simp⟩
    rw [filt] at this
    exact this
  have hw : walk (.ref r) (base (s.st.length :: s.bases) s) = some (pr l, lkd [r] (base (s.st.length :: s.bases) s)) := walk_rl (by simpa using hl) (by simpa using hr)
  have hd : ∀ x s, binD .FloorDiv (.int x) (.int can) s = .ok (.int (x.fdiv can)) s := fun x s => div_int s (by omega)
  have hm : ∀ x s, binD .Mult (.int x) (.int can) s = .ok (.int (x * can)) s := fun x s => mul_int s (.inr (by omega))
  have hc : ¬ can < 1 := by omega
  simp [defC_eq, hc, hw, hg, hd, hm]
theorem cans_none (j : Nat) (l : List D) : (lv P (j + 1)).call "cans_for" [.lst l, .int 0] s = .err ⟨"BadSize", none⟩ s := by
  rw [q_cans_for]
  simp [defC_eq]
/-- cans poured -/
theorem poured_loop (z : Lv) (a b : Option D) (n0 : Nat) : ∀ (l acc : List Int) (left : Int) (e : Option D) (s : S), s.lk = [] → n0 < s.st.length → acc.length + l.length ≤ 1000 → (∀ x ∈ l, 0 ≤ x) → 0 ≤ left →
    if l.sum ≤ left then ∃ y, forL (fun d sl s => (gName 4 d sl s).noErr) (w_poured_1b z) (dInts l) [a, b, some (.ref n0), some (.int left), e] (putC n0 (.lst (dInts acc)) s) = .nx [a, b, some (.ref n0), some (.int (left - l.sum)), y] (putC n0 (.lst (dInts (acc ++ l))) s)
    else ∃ sl acc', forL (fun d sl s => (gName 4 d sl s).noErr) (w_poured_1b z) (dInts l) [a, b, some (.ref n0), some (.int left), e] (putC n0 (.lst (dInts acc)) s) = .er ⟨"NoWay", none⟩ sl (putC n0 (.lst (dInts acc')) s)
  | [], acc, left, e, s, hl, hn, hz, h0, hp => by
    rw [if_pos (by simpa using hp)]
    refine ⟨e, ?_⟩
    simp [dInts, forL]
  | x :: l, acc, left, e, s, hl, hn, hz, h0, hp => by
    have hx := h0 x (List.mem_cons_self ..)
    have hl0 : ∀ y ∈ l, 0 ≤ y := fun y hy => h0 y (List.mem_cons_of_mem _ hy)
    have hs0 : 0 ≤ l.sum := sum_nn l hl0
    rw [List.length_cons] at hz
    have e0 : dInts (x :: l) = .int x :: dInts l := rfl
    rw [e0]
    by_cases h : left < x
    · rw [if_neg (by rw [List.sum_cons]; omega)]
      refine ⟨[a, b, some (.ref n0), some (.int left), some (.int x)], acc, ?_⟩
      unfold forL
      simp [h]
    · have ha : ∀ s, s.lk = [] → n0 < s.st.length → appendM (.ref n0) [.int x] (putC n0 (.lst (dInts acc)) s) = .ok .non (putC n0 (.lst (dInts (acc ++ [x]))) s) := fun s h1 h2 => by
        have := append_put (s := s) (i := n0) (l := dInts acc) (v := .int x) h2 h1 (by simp) (by rw [dInts_len, sizeLine_eq]; omega)
        rw [this]
        simp [dInts]
      have ih := poured_loop z a b n0 l (acc ++ [x]) (left - x) (some (.int x)) s hl hn (by rw [List.length_append, List.length_singleton]; omega) hl0 (by omega)
      have hview : ∀ s : S, n0 < s.st.length → (D.ref n0).view (putC n0 (.lst (dInts acc)) s) = .lst (dInts acc) := fun s h => view_lst (at_put h)
      have e1 : forL (fun d sl s => (gName 4 d sl s).noErr) (w_poured_1b z) (.int x :: dInts l) [a, b, some (.ref n0), some (.int left), e] (putC n0 (.lst (dInts acc)) s) = forL (fun d sl s => (gName 4 d sl s).noErr) (w_poured_1b z) (dInts l) [a, b, some (.ref n0), some (.int (left - x)), some (.int x)] (putC n0 (.lst (dInts (acc ++ [x]))) s) := by
        conv => lhs; unfold forL
        simp [h, hview, hn, ha, hl, augD]
      have e2 : left - x - l.sum = left - (x :: l).sum := by rw [List.sum_cons]; omega
      have e3 : acc ++ [x] ++ l = acc ++ x :: l := by simp
      rw [e1]
      by_cases hc : l.sum ≤ left - x
      · rw [if_pos hc, e2, e3] at ih
        rw [if_pos (by rw [List.sum_cons]; omega)]
        exact ih
      · rw [if_neg hc] at ih
        rw [if_neg (by rw [List.sum_cons]; omega)]
        exact ih
theorem take_put (n : Nat) (c : Cell) (s : S) (h : s.st.length = n) : (s.st ++ [c]).take n = s.st := by
  subst h
  simp
theorem poured (j : Nat) (cans l : List Int) (hn : l.length ≤ 1000) (h0 : ∀ x ∈ l, 0 ≤ x) (h1 : ∀ x ∈ cans, 0 ≤ x) (hl : s.lk = []) : (lv P (j + 1)).call "poured" [.lst (dInts cans), .lst (dInts l)] s =
    if l.sum ≤ cans.sum then .ok (.tup [.tup (dInts l), .int (cans.sum - l.sum)]) s else .err ⟨"NoWay", none⟩ s := by
  rw [q_poured]
  have hp := poured_loop (lv P j) (some (.lst (dInts cans))) (some (.lst (dInts l))) s.st.length l [] cans.sum none { s with st := s.st ++ [.lst []], bases := s.st.length :: s.bases } hl (by simp) (by simpa using hn) h0 (sum_nn _ h1)
  have e0 : ∀ c, putC s.st.length c { s with st := s.st ++ [.lst []], bases := s.st.length :: s.bases } = ({ s with st := s.st ++ [c], bases := s.st.length :: s.bases } : S) := fun c => by
    unfold putC
    simp
  simp only [e0] at hp
  have st0 : ∀ X, s_poured_0 X [some (.lst (dInts cans)), some (.lst (dInts l)), none, none, none] (base (s.st.length :: s.bases) s) = .nx [some (.lst (dInts cans)), some (.lst (dInts l)), some (.ref s.st.length), some (.int cans.sum), none] { s with st := s.st ++ [.lst []], bases := s.st.length :: s.bases } := fun X => by
    simp
  rw [defC_eq, if_pos (show [D.lst (dInts cans), D.lst (dInts l)].length = 2 from rfl)]
  have e1 : ([D.lst (dInts cans), D.lst (dInts l)].map some ++ List.replicate (5 - [D.lst (dInts cans), D.lst (dInts l)].length) none) = [some (.lst (dInts cans)), some (.lst (dInts l)), none, none, none] := rfl
  rw [e1]
  unfold b_poured w_poured_
  rw [runW_c, st0, then_nx, runW_c]
  have hi : ∀ s', Ival (slot 1) [some (.lst (dInts cans)), some (.lst (dInts l)), some (.ref s.st.length), some (.int cans.sum), none] s' = .ok (dInts l, s') s' := fun s' => by simp
  by_cases h : l.sum ≤ cans.sum
  · rw [if_pos h] at hp ⊢
    obtain ⟨y, hp⟩ := hp
    unfold s_poured_1
    rw [Sfor_ap, hi, sbind_ok]
    dsimp only
    rw [show ({ s with st := s.st ++ [.lst []], bases := s.st.length :: s.bases } : S) = { s with st := s.st ++ [.lst (dInts [])], bases := s.st.length :: s.bases } from rfl, hp, unlkS_nx _ _ _ (by rfl), then_nx, runW_c]
    have hv : (D.ref s.st.length).view { s with st := s.st ++ [.lst (dInts ([] ++ l))], bases := s.st.length :: s.bases } = .lst (dInts l) := view_lst (by simp)
    have e2 : s_poured_2 (lv P j) [some (.lst (dInts cans)), some (.lst (dInts l)), some (.ref s.st.length), some (.int (cans.sum - l.sum)), y] { s with st := s.st ++ [.lst (dInts ([] ++ l))], bases := s.st.length :: s.bases } = .rt (.tup [.tup (dInts l), .int (cans.sum - l.sum)]) { s with st := s.st ++ [.lst (dInts ([] ++ l))], bases := s.st.length :: s.bases } := by
      have : ∀ s : S, (D.ref s.st.length).view s = .ref s.st.length := fun s => by simp [D.view]
      unfold s_poured_2
      rw [Sret_ap, Etup_ap, manyW_c, Eblt_ap, manyW_c, slot_s, slot_s, slot_0, bind_ok, manyW_n, bind_ok, bind_ok]
      have ht : tupleM [.ref s.st.length] { s with st := s.st ++ [.lst (dInts ([] ++ l))], bases := s.st.length :: s.bases } = .ok (.tup (dInts l)) { s with st := s.st ++ [.lst (dInts ([] ++ l))], bases := s.st.length :: s.bases } := by
        unfold tupleM
        dsimp only
        rw [hv]
      rw [ht]
      rfl
    rw [e2, then_rt, defR_cut (by rfl) (by rfl) (by simp [D.under, belowL, under_ints])]
    simp
  · rw [if_neg h] at hp ⊢
    obtain ⟨sl, acc, hp⟩ := hp
    unfold s_poured_1
    rw [Sfor_ap, hi, sbind_ok]
    dsimp only
    rw [show ({ s with st := s.st ++ [.lst []], bases := s.st.length :: s.bases } : S) = { s with st := s.st ++ [.lst (dInts [])], bases := s.st.length :: s.bases } from rfl, hp]
    have e2 : unlkS { s with st := s.st ++ [.lst (dInts [])], bases := s.st.length :: s.bases } { s with st := s.st ++ [.lst (dInts [])], bases := s.st.length :: s.bases } (.er ⟨"NoWay", none⟩ sl { s with st := s.st ++ [.lst (dInts acc)], bases := s.st.length :: s.bases }) = .er ⟨"NoWay", none⟩ sl { s with st := s.st ++ [.lst (dInts acc)], bases := s.st.length :: s.bases } := by
      unfold unlkS
      dsimp only
      rw [if_pos ⟨rfl, by simp [dkL]⟩]
    rw [e2, then_er, defR_cutE (by rfl) (by rfl)]
    simp
end
end LW
set_option Elab.async false
set_option linter.all false
set_option maxRecDepth 100000
set_option maxHeartbeats 4000000
/-! AL57: indices, dicts made, the least of names. -/
namespace AL
open PySem PySem.Spec PyProof.Rows L2
section
variable {s : S} {sl : Sl}
theorem ix_nat (l : List D) (j : Nat) (h : j < l.length) (s : S) : getIx (.lst l) (.int (j : Nat)) s = l[j]? := by
  rw [getIx_lst (view_lst' l s)]
  have : ixOf (j : Nat) l.length = some j := by
    unfold ixOf L2.ixN
    simp [h]
  rw [this]
  rfl
theorem ix_ints (l : List Int) (j : Nat) (h : j < l.length) (s : S) : getIx (.lst (dInts l)) (.int (j : Nat)) s = some (.int (l[j]?.getD 0)) := by
  rw [ix_nat _ _ (by rw [dInts_len]; exact h)]
  unfold dInts
  rw [List.getElem?_map, List.getElem?_eq_getElem h]
  rfl
@[simp] theorem augD_add (a b : Int) (s : S) : augD .Add (.int a) (.int b) s = .ok (.int (a + b)) s := by cases s; exact rfl
@[simp] theorem augD_sub (a b : Int) (s : S) : augD .Sub (.int a) (.int b) s = .ok (.int (a - b)) s := by cases s; exact rfl
theorem fmod_nat (i n : Nat) : ((i : Int)).fmod (n : Int) = ((i % n : Nat) : Int) := by
  rw [Int.fmod_eq_emod_of_nonneg _ (by omega)]
  rfl
/-! a dict from pairs -/
theorem setK_fresh {k : Key} {d : D} {l : List (Key × D)} (h : k ∉ l.map (·.1)) : setK k d l = l ++ [(k, d)] := by
  unfold setK
  rw [if_neg]
  simp only [List.any_eq_true, decide_eq_true_eq, not_exists, not_and]
  intro p hp e
  exact h (List.mem_map.mpr ⟨p, hp, e⟩)
theorem fold_setK : ∀ (ps acc : List (Key × D)), ((acc ++ ps).map (·.1)).Nodup → ps.foldl (fun a q => setK q.1 q.2 a) acc = acc ++ ps
  | [], acc, _ => by simp
  | p :: ps, acc, h => by
    have h' : ((acc ++ [p] ++ ps).map (·.1)).Nodup := by
      rw [List.append_assoc]
      exact h
    have hp : p.1 ∉ acc.map (·.1) := by
      rw [List.map_append, List.nodup_append] at h
      intro hm
      exact h.2.2 _ hm p.1 (List.mem_map.mpr ⟨p, List.mem_cons_self .., rfl⟩) rfl
    rw [List.foldl_cons, setK_fresh hp]
    rw [fold_setK ps (acc ++ [(p.1, p.2)]) h', List.append_assoc]
    rfl
theorem pairsK_map {α : Type} (s : S) (kf : α → Str) (vf : α → D) : ∀ l : List α, pairsK s (l.map fun x => .tup [.str (kf x), vf x]) = some (l.map fun x => (.inr (kf x), vf x))
  | [] => rfl
  | x :: l => by
    have ih := pairsK_map s kf vf l
    rw [List.map_cons]
    unfold pairsK
    rw [vw_tup]
    dsimp only
    rw [ih]
    rfl
theorem dict_map {α : Type} (s : S) (kf : α → Str) (vf : α → D) (l : List α) (h : (l.map kf).Nodup) : dictM [.lst (l.map fun x => .tup [.str (kf x), vf x])] s = .ok (.dk (l.map fun x => (.inr (kf x), vf x))) s := by
  have hn : ((l.map fun x => ((.inr (kf x) : Key), vf x)).map (·.1)).Nodup := by
    rw [List.map_map]
    have : ((fun p : Key × D => p.1) ∘ fun x => ((.inr (kf x) : Key), vf x)) = (fun n : Str => (.inr n : Key)) ∘ kf := rfl
    rw [this, ← List.map_map]
    exact List.Pairwise.map _ (fun a b hab e => hab (Sum.inr.inj e)) h
  have hf := fold_setK (l.map fun x => ((.inr (kf x) : Key), vf x)) [] (by simpa using hn)
  simp only [dictM, lstOf, view_lst', Option.bind_some, pairsK_map s kf vf l]
  rw [hf]
  rfl
/-! dicts from names -/
abbrev Dn (α : Type) := List (Str × α)
def dkG {α : Type} (f : α → D) (l : Dn α) : List (Key × D) := l.map fun p => (.inr p.1, f p.2)
def nmG {α : Type} (l : Dn α) : List Str := l.map (·.1)
def atG {α : Type} [Inhabited α] (l : Dn α) (x : Str) : α := (l.lookup x).getD default
section
variable {α : Type} {f : α → D}
theorem look_dkG (x : Str) : ∀ l : Dn α, lookK (Sum.inr x : Key) (dkG f l) = (l.lookup x).map f
  | [] => rfl
  | p :: l => by
    have ih := look_dkG x l
    show (if (Sum.inr p.1 : Key) = Sum.inr x then some _ else lookK (Sum.inr x : Key) (dkG f l)) = _
    rw [ih, List.lookup_cons]
    by_cases h : p.1 = x
    · subst h; simp
    · have h1 : (x == p.1) = false := by
        rw [beq_eq_false_iff_ne]
        exact fun e => h e.symm
      rw [h1, if_neg (fun e => h (Sum.inr.inj e))]
theorem look_inG {n : Str} : ∀ {l : Dn α}, n ∈ nmG l → ∃ v, l.lookup n = some v ∧ (n, v) ∈ l
  | [], h => by cases h
  | p :: l, h => by
    rw [List.lookup_cons]
    by_cases e : n = p.1
    · subst e
      rw [beq_self_eq_true]
      exact ⟨p.2, rfl, List.mem_cons_self ..⟩
    · have h1 : (n == p.1) = false := by
        rw [beq_eq_false_iff_ne]
        exact e
      rw [h1]
      rcases List.mem_cons.mp h with h | h
      · exact absurd h e
      · obtain ⟨v, h2, h3⟩ := look_inG (l := l) h
        exact ⟨v, h2, List.mem_cons_of_mem _ h3⟩
theorem look_noG {n : Str} : ∀ {l : Dn α}, n ∉ nmG l → l.lookup n = none
  | [], _ => rfl
  | p :: l, h => by
    rw [List.lookup_cons]
    have h1 : (n == p.1) = false := by
      rw [beq_eq_false_iff_ne]
      exact fun e => h (e ▸ List.mem_cons_self ..)
    rw [h1]
    exact look_noG fun q => h (List.mem_cons_of_mem _ q)
theorem look_unG : ∀ {l : Dn α}, (nmG l).Nodup → ∀ p ∈ l, l.lookup p.1 = some p.2
  | [], _, p, h => by cases h
  | a :: l, hn, p, h => by
    obtain ⟨h1, h2⟩ := List.nodup_cons.mp hn
    rw [List.lookup_cons]
    rcases List.mem_cons.mp h with e | h
    · subst e
      rw [beq_self_eq_true]
    · have : (p.1 == a.1) = false := by
        rw [beq_eq_false_iff_ne]
        intro e
        exact h1 (List.mem_map.mpr ⟨p, h, e⟩)
      rw [this]
      exact look_unG h2 p h
theorem at_inG [Inhabited α] {n : Str} {l : Dn α} (h : n ∈ nmG l) : l.lookup n = some (atG l n) ∧ (n, atG l n) ∈ l := by
  obtain ⟨v, h1, h2⟩ := look_inG h
  unfold atG
  rw [h1]
  exact ⟨rfl, h2⟩
theorem ix_dkG [Inhabited α] {n : Str} {l : Dn α} (h : n ∈ nmG l) (s : S) : getIx (.dk (dkG f l)) (.str n) s = some (f (atG l n)) := by
  simp [getIx, D.view, getD?, look_dkG, (at_inG h).1]
theorem eqK_nil {f : D → D → Option Bool} : ∀ l : List (Key × D), ∃ e, eqK f l [] = some e ∧ (l ≠ [] → e = false)
  | [] => ⟨true, rfl, fun h => absurd rfl h⟩
  | p :: l => by
    obtain ⟨e, h, _⟩ := eqK_nil (f := f) l
    refine ⟨false, ?_, fun _ => rfl⟩
    show (match eqK f l [] with
      | some q => (match lookK p.1 ([] : List (Key × D)) with
        | some b => (match f p.2 b with
          | some e => some (e && q)
          | none => none)
        | none => some false)
      | none => none) = some false
    rw [h]
    rfl
theorem eqS_dk0 {d : D} {l : List (Key × D)} {s : S} (h : d.view s = .dk l) : eqS 8 s d (.dk []) = some l.isEmpty := by
  obtain ⟨e, h1, h2⟩ := eqK_nil (f := eqS 7 s) l
  show eqS (7 + 1) s d (.dk []) = _
  unfold eqS
  rw [h]
  have hv : (D.dk []).view s = .dk [] := rfl
  rw [hv]
  dsimp only
  rw [h1]
  cases l with
  | nil => cases e <;> first | rfl | (simp [eqK] at h1)
  | cons p l => rfl
@[simp] theorem cmp_eq_dk0 (l : List (Key × D)) (s : S) : cmpM .Eq (.dk l) (.dk []) s = .ok l.isEmpty s := by
  simp [cmpM, cmpOp, eqS_dk0 (s := s) (show (D.dk l).view s = .dk l from rfl)]
@[simp] theorem cmp_ne_dk0 (l : List (Key × D)) (s : S) : cmpM .NotEq (.dk l) (.dk []) s = .ok (!l.isEmpty) s := by
  simp [cmpM, cmpOp, eqS_dk0 (s := s) (show (D.dk l).view s = .dk l from rfl)]
theorem cmp_eq_rk0 {i : Nat} {l : List (Key × D)} {s : S} (h : s.st[i]? = some (.dk l)) : cmpM .Eq (.ref i) (.dk []) s = .ok l.isEmpty s := by
  simp [cmpM, cmpOp, eqS_dk0 (view_dk h)]
theorem cmp_ne_rk0 {i : Nat} {l : List (Key × D)} {s : S} (h : s.st[i]? = some (.dk l)) : cmpM .NotEq (.ref i) (.dk []) s = .ok (!l.isEmpty) s := by
  simp [cmpM, cmpOp, eqS_dk0 (view_dk h)]
@[simp] theorem dkG_emp (l : Dn α) : (dkG f l).isEmpty = l.isEmpty := by
  cases l <;> rfl
theorem walk_dkG (l : Dn α) (s : S) : walk (.dk (dkG f l)) s = some ((nmG l).map D.str, s) := by
  simp [walk, D.view, lkOf, dkG, nmG, kD]
theorem dict_dkG {l : Dn α} (h : (nmG l).Nodup) (s : S) : dictM [.lst (l.map fun x => .tup [.str x.1, f x.2])] s = .ok (.dk (dkG f l)) s := dict_map s (fun x : Str × α => x.1) (fun x => f x.2) l h
end
end
end AL
set_option Elab.async false
set_option linter.all false
set_option maxRecDepth 1000000
set_option maxHeartbeats 2000000
namespace LW
open PySem PySem.Spec PyProof.Rows L2 AL
section
variable {s : S} {hs : List Int} {e oil : Int}
def gh (hs : List Int) (e : Int) (k : Nat) : Int := hs[k % hs.length]?.getD 0 * e
def lo (hs : List Int) (e oil : Int) : Nat → Int
  | 0 => oil
  | k + 1 => lo hs e oil k - gh hs e k
theorem lo_take (q : Nat) : ∀ m, m ≤ hs.length → lo hs e oil (hs.length * q + m) = lo hs e oil (hs.length * q) - (hs.take m).sum * e
  | 0, _ => by simp
  | m + 1, h => by
    have ih := lo_take q m (by omega)
    show lo hs e oil (hs.length * q + m) - gh hs e (hs.length * q + m) = _
    rw [ih]
    unfold gh
    have : (hs.length * q + m) % hs.length = m := by
      rw [Nat.mul_add_mod, Nat.mod_eq_of_lt (by omega)]
    rw [this, List.getElem?_eq_getElem (by omega), List.take_add_one, List.getElem?_eq_getElem (by omega), Option.getD_some, Option.toList_some, List.sum_append_int, List.sum_singleton, Int.add_mul]
    omega
theorem lo_cyc : ∀ q : Nat, lo hs e oil (hs.length * q) = oil - q * (hs.sum * e)
  | 0 => by simp [lo]
  | q + 1 => by
    have := lo_take (hs := hs) (e := e) (oil := oil) q hs.length (Nat.le_refl _)
    rw [List.take_length, lo_cyc q] at this
    rw [Nat.mul_succ, this, Int.natCast_add, Int.add_mul]
    omega
theorem gh_nn (he : 0 ≤ e) (hh : ∀ x ∈ hs, 0 ≤ x) (k : Nat) : 0 ≤ gh hs e k := by
  unfold gh
  refine Int.mul_nonneg ?_ he
  cases q : hs[k % hs.length]? with
  | none => exact Int.le_refl 0
  | some x => exact hh x (List.mem_of_getElem? q)
theorem ex_night (h0 : 0 ≤ oil) (he : 0 ≤ e) (hh : ∀ x ∈ hs, 0 ≤ x) (hp : 0 < hs.sum * e) : ∃ K, K ≤ hs.length * (oil.toNat + 1) ∧ (∀ i, i < K → decide (gh hs e i ≤ lo hs e oil i) = true) ∧ decide (gh hs e K ≤ lo hs e oil K) = false := by
  refine first_no (fun k => decide (gh hs e k ≤ lo hs e oil k)) _ ?_
  have h1 := gh_nn he hh (hs.length * (oil.toNat + 1))
  have h2 := lo_cyc (hs := hs) (e := e) (oil := oil) (oil.toNat + 1)
  have h3 : ((oil.toNat + 1 : Nat) : Int) = oil + 1 := by omega
  rw [h3] at h2
  have h4 : (oil + 1) * 1 ≤ (oil + 1) * (hs.sum * e) := Int.mul_le_mul_of_nonneg_left (by omega) (by omega)
  rw [decide_eq_false_iff_not]
  omega
theorem any_neg (l : List Int) (h : ∀ x ∈ l, 0 ≤ x) : l.any (fun x => decide (x < 0)) = false := by
  rw [List.any_eq_false]
  intro x hx
  have := h x hx
  simp
  omega
def nightEnc (hs : List Int) (e oil : Int) (a b : Option D) (s : S) (i : Nat) : Sl × S := ([some (.int (lo hs e oil i)), some (.lst (dInts hs)), some (.int e), some (.int i), a, b], s)
theorem nights_ok (j : Nat) (h0 : 0 ≤ oil) (h1 : oil < 1000) (he : 0 ≤ e) (h2 : e < 1000) (hh : ∀ x ∈ hs, 0 ≤ x) (hl : hs.length ≤ 50) :
    (hs.sum * e = 0 → (lv P (j + 1)).call "nights" [.int oil, .lst (dInts hs), .int e] s = .err ⟨"NoWay", none⟩ s) ∧
    (∀ K, 0 < hs.sum * e → K ≤ hs.length * (oil.toNat + 1) → (∀ i, i < K → decide (gh hs e i ≤ lo hs e oil i) = true) → decide (gh hs e K ≤ lo hs e oil K) = false → (lv P (j + 1)).call "nights" [.int oil, .lst (dInts hs), .int e] s = .ok (.int K) s) := by
  rw [q_nights]
  have hm : ∀ x s, binD .Mult (.int x) (.int e) s = .ok (.int (x * e)) s := fun x s => mul_int s (.inr (by omega))
  have hg : ∀ (a : Option D) s', genC "any" (gName 5) Tall (Eof (ch1 .Lt (slot 5) (pureE (.int 0)))) [some (.int oil), some (.lst (dInts hs)), some (.int e), a, none, none] (dInts hs) s' = .ok (.bl false) s' := fun a s' => by
    have := gen_any (s := s') (sl := [some (.int oil), some (.lst (dInts hs)), some (.int e), a, none, none]) (g := gName 5) (t := Tall) (e := Eof (ch1 .Lt (slot 5) (pureE (.int 0)))) D.int (fun _ => true) (fun x => decide (x < 0)) hs fun x _ => ⟨[some (.int oil), some (.lst (dInts hs)), some (.int e), a, none, some (.int x)], by simp, rfl, fun _ => by simp⟩
    rw [filt, any_neg hs hh] at this
    exact this
  have c1 : ¬ oil < 0 := by omega
  have c2 : ¬ e < 0 := by omega
  constructor
  · intro hz
    simp [defC_eq, c1, c2, hg, hm, hz]
  · intro K hp hK hc hK2
    have hz : hs.sum * e ≠ 0 := by omega
    have hn : hs ≠ [] := by
      intro q
      rw [q] at hp
      simp at hp
    have hn0 : 0 < hs.length := List.length_pos_iff.mpr hn
    have hnd : (hs.length : Int) ≠ 0 := by omega
    have hmod : ∀ (i : Nat) s, binD .Mod (.int i) (.int hs.length) s = .ok (.int ((i : Int) % (hs.length : Int))) s := fun i s => by rw [mod_int s hnd, Int.fmod_eq_emod_of_nonneg _ (by omega)]
    have hix : ∀ (i : Nat) s, getIx (.lst (dInts hs)) (.int ((i : Int) % (hs.length : Int))) s = some (.int (hs[i % hs.length]?.getD 0)) := fun i s => ix_ints hs _ (Nat.mod_lt _ hn0) s
    have hKb : K < 100000 := by
      have h3 : oil.toNat + 1 ≤ 1000 := by omega
      have h4 : hs.length * (oil.toNat + 1) ≤ 50 * 1000 := Nat.mul_le_mul hl h3
      omega
    have hw := while_i (t := t_nights_3 (lv P j)) (b := w_nights_3b (lv P j)) (nightEnc hs e oil none none (base (s.st.length :: s.bases) s)) (fun i => decide (gh hs e i ≤ lo hs e oil i)) K 0 100000
      (fun i _ _ => by
        simp [nightEnc, hmod, hix, hm, dInts_len, gh]
        rfl)
      (fun i _ hi => ⟨hc i (by omega), by simp [nightEnc, hmod, hix, hm, dInts_len, lo, gh]⟩) (by simpa using hK2) hKb
    rw [Nat.zero_add] at hw
    simp only [nightEnc, lo] at hw
    simp [defC_eq, c1, c2, hg, hm, hz, Swhl]
    simp at hw
    simp [hw]
theorem nights_neg (j : Nat) : (lv P (j + 1)).call "nights" [.int (-1), .lst [.int 1], .int 1] s = .err ⟨"BadSize", none⟩ s := by
  rw [q_nights]
  simp [defC_eq]
end
end LW
set_option Elab.async false
set_option linter.all false
set_option maxRecDepth 100000
set_option maxHeartbeats 4000000
/-! AL58: the least of names, by a number and then the name. -/
namespace AL
open PySem PySem.Spec PyProof.Rows L2
section
variable {s : S} {sl : Sl}
def kn (f : Str → Int) (n : Str) : D := .tup [.int (f n), .str n]
def ltN (f : Str → Int) (a b : Str) : Bool := decide (f a < f b) || (decide (f a = f b) && decide (a.cps.toList < b.cps.toList))
theorem key_kn (f : Str → Int) (n : Str) : keyD (kn f n) = [.inl (f n), .inr n.cps.toList] := rfl
theorem lt_kn (f : Str → Int) (a b : Str) : ltKA (keyD (kn f a)) (keyD (kn f b)) = ltN f a b := lt_is _ _ _ _
/-- the least is one -/
theorem lt_uniq {f : Str → Int} {a b : Str} (h1 : ltN f a b = false) (h2 : ltN f b a = false) : a = b := by
  unfold ltN at h1 h2
  simp only [Bool.or_eq_false_iff, Bool.and_eq_false_iff, decide_eq_false_iff_not] at h1 h2
  have e : f a = f b := by omega
  have h3 : ¬ a.cps.toList < b.cps.toList := h1.2.resolve_left (fun h => h e)
  have h4 : ¬ b.cps.toList < a.cps.toList := h2.2.resolve_left (fun h => h e.symm)
  have h5 : a.cps.toList = b.cps.toList := List.le_antisymm (List.not_lt.mp h4) (List.not_lt.mp h3)
  cases a with | mk a => cases b with | mk b =>
  congr
  exact Array.toList_inj.mp h5
def Least (f : Str → Int) (l : List Str) (m : Str) : Prop := m ∈ l ∧ ∀ y ∈ l, ltN f y m = false
theorem Least.eq {f : Str → Int} {l : List Str} {a b : Str} (h1 : Least f l a) (h2 : Least f l b) : a = b := lt_uniq (h2.2 a h1.1) (h1.2 b h2.1)
theorem ok_kn (f : Str → Int) (l : List Str) : okSort (l.map (kn f)) = true ∧ (l.map (kn f)).all fullD = true := by
  have h2 : (l.map (kn f)).all fullD = true := by
    rw [List.all_eq_true]
    intro d hd
    obtain ⟨n, _, e⟩ := List.mem_map.mp hd
    rw [← e]
    rfl
  refine ⟨?_, h2⟩
  cases l with
  | nil => rfl
  | cons n l =>
    have h3 : ((kn f n :: l.map (kn f)).all fun e => kindK e == kindK (kn f n) && shK (keyD e) == shK (keyD (kn f n))) = true := by
      rw [List.all_eq_true]
      intro d hd
      rw [← List.map_cons] at hd
      obtain ⟨m, _, e⟩ := List.mem_map.mp hd
      rw [← e]
      rfl
    rw [List.map_cons] at h2 ⊢
    unfold okSort
    dsimp only
    rw [h3, h2]
    rfl
theorem sort_kn (f : Str → Int) (l : List Str) : sortR false (l.map (kn f)) = some ((sortBy (fun n => keyD (kn f n)) l).map (kn f)) := by
  unfold sortR
  rw [if_pos (ok_kn f l).1, if_neg (by decide), sortBy_map]
theorem sort_least {f : Str → Int} {l : List Str} (h : l ≠ []) : ∃ m r, sortBy (fun n => keyD (kn f n)) l = m :: r ∧ Least f l m := by
  obtain ⟨x, r, h1, h2, h3⟩ := sortBy_cons (k := fun n => keyD (kn f n)) h
  exact ⟨x, r, h1, h2, fun y hy => by rw [← lt_kn]; exact h3 y hy⟩
theorem min_least {i : Nat} {body a : ME} {d : D} {f : Str → Int} {l : List Str} {s1 : S} (ha : a sl s = .ok d s) (hw : walk d s = some (l.map D.str, s1)) (hu : ∀ d : D, unlk s s1 (.ok d s1) = .ok d s)
    (hb : ∀ n ∈ l, body (sl.set i (some (.str n))) s1 = .ok (kn f n) s1) (h : l ≠ []) : ∃ m, Least f l m ∧ Emin i body a sl s = .ok (.str m) s := by
  have hk := keysL_map (f := fun d s => body (sl.set i (some d)) s) (s := s1) D.str (kn f) l fun n hn => by
    exact hb n hn
  cases l with
  | nil => exact absurd rfl h
  | cons n l =>
    have hf : (((n :: l).map fun x => (kn f x, D.str x)).map (·.1)) = (n :: l).map (kn f) := by
      rw [List.map_map]
      rfl
    have hok : (okSort (((n :: l).map fun x => (kn f x, D.str x)).map (·.1)) && (((n :: l).map fun x => (kn f x, D.str x)).map (·.1)).all fullD) = true := by
      rw [hf, (ok_kn f (n :: l)).1, (ok_kn f (n :: l)).2]
      rfl
    have sp := minK_spec (l.map fun x => (kn f x, D.str x)) (kn f n, D.str n)
    rw [← List.map_cons (f := fun x => (kn f x, D.str x))] at sp
    obtain ⟨m, hm, em⟩ := List.mem_map.mp sp.1
    refine ⟨m, ⟨hm, fun y hy => ?_⟩, ?_⟩
    · have := sp.2 (kn f y, D.str y) (List.mem_map.mpr ⟨y, hy, rfl⟩)
      rw [← em, lt_kn] at this
      exact this
    · unfold Emin
      rw [ha, bind_ok, hw]
      dsimp only
      rw [hk, bind_ok]
      have e2 : ((n :: l).map fun x => (kn f x, D.str x)) = (kn f n, D.str n) :: l.map fun x => (kn f x, D.str x) := rfl
      rw [e2] at hok ⊢
      dsimp only
      rw [if_pos hok, ← em]
      exact hu _
/-! draws, item by item -/
theorem compL_drawz {α β : Type} {e : ME} {i : Nat} {r : List Cell} {bs : List Nat} (mk0 : β → D) (Q : β → Prop) (mk : β → α → D) (Pv : α → Prop) (he : ∀ (x : β), Q x → ∀ (a b k : Int), ∃ v a' b' k', Pv v ∧ e (sl.set i (some (mk0 x))) ⟨dC a b k :: r, bs, []⟩ = .ok (mk x v) ⟨dC a' b' k' :: r, bs, []⟩) : ∀ (l : List β) (a b k : Int), (∀ x ∈ l, Q x) →
    ∃ (ps : List (β × α)) (a' b' k' : Int), ps.map (·.1) = l ∧ (∀ p ∈ ps, Pv p.2) ∧ compL (gName i) Tall e sl (l.map mk0) ⟨dC a b k :: r, bs, []⟩ = .ok (ps.map fun p => mk p.1 p.2) ⟨dC a' b' k' :: r, bs, []⟩
  | [], a, b, k, _ => ⟨[], a, b, k, rfl, (fun v hv => by cases hv), rfl⟩
  | x :: l, a, b, k, hq => by
    obtain ⟨v, a1, b1, k1, hv, h1⟩ := he x (hq x (List.mem_cons_self ..)) a b k
    obtain ⟨vs, a2, b2, k2, h2, h3, h4⟩ := compL_drawz mk0 Q mk Pv he l a1 b1 k1 fun y hy => hq y (List.mem_cons_of_mem _ hy)
    refine ⟨(x, v) :: vs, a2, b2, k2, by simp [h2], fun y hy => ?_, ?_⟩
    · rcases List.mem_cons.mp hy with e | hy
      · rw [e]
        exact hv
      · exact h3 y hy
    · rw [List.map_cons]
      unfold compL
      rw [gName_ap, noErr_ok, bind_ok, Tall_ap, noErr_ok, bind_ok, if_pos rfl, h1, noErr_ok, bind_ok, if_pos rfl, h4]
      rfl
@[simp] theorem ix_hd (x : D) (l : List D) (s : S) : getIx (.lst (x :: l)) (.int 0) s = some x := by
  have := ix_nat (x :: l) 0 (by simp) s
  simpa using this
/-! letters -/
def chrAt (z : Str) (i : Nat) : Str := ⟨#[z.cps[i]?.getD 0]⟩
theorem ix_chr {z : Str} {i : Nat} (h : i < z.length) (s : S) : getIx (.str z) (.int i) s = some (.str (chrAt z i)) := by
  have h1 : ixOf (i : Nat) z.length = some i := by
    unfold ixOf L2.ixN
    simp [h]
  have h2 : i < z.cps.size := h
  show ((ixOf i z.length).bind fun j => z.cps[j]?.map fun c => D.str ⟨#[c]⟩) = _
  rw [h1]
  simp [chrAt, h2]
theorem map_nd {α β : Type} {f : α → β} : ∀ {l : List α}, l.Nodup → (∀ x ∈ l, ∀ y ∈ l, f x = f y → x = y) → (l.map f).Nodup
  | [], _, _ => List.nodup_nil
  | x :: l, h, hf => by
    obtain ⟨h1, h2⟩ := List.nodup_cons.mp h
    rw [List.map_cons, List.nodup_cons]
    refine ⟨fun hm => ?_, map_nd h2 fun a ha b hb => hf a (List.mem_cons_of_mem _ ha) b (List.mem_cons_of_mem _ hb)⟩
    obtain ⟨y, hy, e⟩ := List.mem_map.mp hm
    have := hf x (List.mem_cons_self ..) y (List.mem_cons_of_mem _ hy) e.symm
    exact h1 (this ▸ hy)
theorem chr_nd {z : Str} {N : Nat} (hz : ∀ i j, i < N → j < N → chrAt z i = chrAt z j → i = j) {n : Nat} (hn : n ≤ N) : ((List.range n).map (chrAt z)).Nodup := by
  refine map_nd List.nodup_range ?_
  intro i hi j hj e
  rw [List.mem_range] at hi hj
  exact hz i j (by omega) (by omega) e
end
end AL
set_option Elab.async false
set_option linter.all false
set_option maxRecDepth 1000000
set_option maxHeartbeats 2000000
namespace LW
open PySem PySem.Spec PyProof.Rows L2 AL
section
variable {s : S}
def bestL (h o : Int) : List Int := ([1, 2, 3, 4] : List Int).filter fun k => decide (k * h ≤ o)
theorem bestL_cases {h o : Int} (h0 : 0 ≤ h) : bestL h o = [] ∨ bestL h o = [1] ∨ bestL h o = [1, 2] ∨ bestL h o = [1, 2, 3] ∨ bestL h o = [1, 2, 3, 4] := by
  unfold bestL
  by_cases c1 : 1 * h ≤ o <;> by_cases c2 : 2 * h ≤ o <;> by_cases c3 : 3 * h ≤ o <;> by_cases c4 : 4 * h ≤ o <;>
    first
    | (exfalso; omega)
    | simp [List.filter_cons, c1, c2, c3, c4] at *
  all_goals simp [*]
def bestR (l : List Int) (s : S) : R D := match l with
  | [] => .err ⟨"NoWay", none⟩ s
  | x :: r => .ok (.int ((x :: r).getLast (by simp))) s
theorem best_comp (a : Nat) (t : MT) (e : ME) (ws : List Nat) (sl : Sl) (h o : Int) (hg : ∀ x s, t ((wipeS sl ws).set a (some (.int x))) s = .ok (decide (x * h ≤ o)) s) (he : ∀ x s, e ((wipeS sl ws).set a (some (.int x))) s = .ok (.int x) s) :
    Ecomp false (Irng [pureE (.int 1), pureE (.int 5)]) (gName a) t e ws sl s = .ok (.lst (dInts (bestL h o))) s := by
  have hr : rangeD [.int 1, .int 5] = some (([1, 2, 3, 4] : List Int).map D.int) := rfl
  have hc := compL_map (sl := wipeS sl ws) (s := s) (g := gName a) (t := t) (e := e) D.int (fun k => decide (k * h ≤ o)) D.int [1, 2, 3, 4] fun x _ => ⟨_, gName_ap a (.int x) _ s, hg x s, fun _ => he x s⟩
  simp only [Ecomp_ap, Irng_ap, manyW_c, manyW_n, pureE_ap, bind_ok, hr, Option.map_some, of_some, hc, unlk_same, mkC_f]
  rfl
theorem best (j : Nat) (h o : Int) (h0 : 0 ≤ h) (h1 : h < 1000) : (lv P (j + 1)).call "best_height" [.int o, .int h] s = bestR (bestL h o) s := by
  rw [q_best_height]
  have hm : ∀ x s, binD .Mult (.int x) (.int h) s = .ok (.int (x * h)) s := fun x s => mul_int s (.inr (by omega))
  have hc : ∀ s', Ecomp false (Irng [pureE (.int 1), pureE (.int 5)]) (gName 4) (ch1 .LtE (Ebin .Mult false (slot 4) (slot 1)) (slot 0)) (slot 4) [3, 4] [some (.int o), some (.int h), none, none, none] s' = .ok (.lst (dInts (bestL h o))) s' := fun s' =>
    best_comp 4 _ _ _ _ h o (fun x s => by simp [hm]) fun x s => by simp
  have e : ∀ l : List Int, bestL h o = l → (dInts l) = l.map D.int := fun l _ => rfl
  rw [defC_eq, if_pos (by rfl)]
  show defR s (runW [s_best_height_0 (lv P j), s_best_height_1 (lv P j), s_best_height_2 (lv P j)] [some (.int o), some (.int h), none, none, none] _) = _
  have st0 : s_best_height_0 (lv P j) [some (.int o), some (.int h), none, none, none] (base (s.st.length :: s.bases) s) = .nx [some (.int o), some (.int h), some (.lst (dInts (bestL h o))), none, none] (base (s.st.length :: s.bases) s) := by
    unfold s_best_height_0
    rw [Sasg_ap, hc]
    rfl
  rw [runW_c, st0, then_nx]
  rcases bestL_cases (h := h) (o := o) h0 with q | q | q | q | q <;> rw [q] <;> simp [dInts, bestR, getIx, ixOf, L2.ixN]
/-! cords -/
theorem cut_ok (j : Nat) (l : List Int) (z : Int) (h1 : 1 ≤ z) (h2 : z < 1000) (hl : ∀ x ∈ l, 0 ≤ x ∧ x < 1000) (hn : l.length ≤ 1000) : (lv P (j + 1)).call "wick_cut" [.lst (dInts l), .int z] s =
    .ok (.tup [.int (l.map fun x => x.fdiv z).sum, .tup (dInts ((l.filter fun x => decide (0 < x.fmod z)).map fun x => x.fmod z))]) s := by
  rw [q_wick_cut]
  have hz : z ≠ 0 := by omega
  have hd : ∀ x s, binD .FloorDiv (.int x) (.int z) s = .ok (.int (x.fdiv z)) s := fun x s => div_int s (by omega)
  have hm : ∀ x s, binD .Mod (.int x) (.int z) s = .ok (.int (x.fmod z)) s := fun x s => mod_int s hz
  have hg : ∀ s', genC "any" (gName 3) Tall (Eof (ch1 .Lt (slot 3) (pureE (.int 0)))) [some (.lst (dInts l)), some (.int z), none, none] (dInts l) s' = .ok (.bl false) s' := fun s' => by
    have := gen_any (s := s') (sl := [some (.lst (dInts l)), some (.int z), none, none]) (g := gName 3) (t := Tall) (e := Eof (ch1 .Lt (slot 3) (pureE (.int 0)))) D.int (fun _ => true) (fun x => decide (x < 0)) l fun x _ => ⟨[some (.lst (dInts l)), some (.int z), none, some (.int x)], by simp, rfl, fun _ => by simp⟩
    rw [filt, any_neg l fun x hx => (hl x hx).1] at this
    exact this
  have hs : ∀ s', genC "sum" (gName 3) Tall (Ebin .FloorDiv false (slot 3) (slot 1)) [some (.lst (dInts l)), some (.int z), none, none] (dInts l) s' = .ok (.int (l.map fun x => x.fdiv z).sum) s' := fun s' => by
    have := gen_sum (s := s') (sl := [some (.lst (dInts l)), some (.int z), none, none]) (g := gName 3) (t := Tall) (e := Ebin .FloorDiv false (slot 3) (slot 1)) D.int (fun _ => true) (fun x => x.fdiv z) 1000 l (by omega) (fun x hx => by
      have := hl x hx
      rw [Int.fdiv_eq_ediv_of_nonneg _ (by omega)]
      have h3 : 0 ≤ x / z := Int.ediv_nonneg this.1 (by omega)
      have h4 : x / z ≤ x := Int.ediv_le_self _ this.1
      omega) fun x _ => ⟨[some (.lst (dInts l)), some (.int z), none, some (.int x)], by simp, rfl, fun _ => by simp [hd]⟩
    rw [filt] at this
    exact this
  have hc : ∀ s', compL (gName 3) (ch1 .Gt (Ebin .Mod false (slot 3) (slot 1)) (pureE (.int 0))) (Ebin .Mod false (slot 3) (slot 1)) [some (.lst (dInts l)), some (.int z), none, none] (dInts l) s' = .ok (dInts ((l.filter fun x => decide (0 < x.fmod z)).map fun x => x.fmod z)) s' := fun s' => by
    have := compL_map (sl := [some (.lst (dInts l)), some (.int z), none, none]) (s := s') (g := gName 3) (t := ch1 .Gt (Ebin .Mod false (slot 3) (slot 1)) (pureE (.int 0))) (e := Ebin .Mod false (slot 3) (slot 1)) D.int (fun x => decide (0 < x.fmod z)) (fun x => .int (x.fmod z)) l fun x _ => ⟨[some (.lst (dInts l)), some (.int z), none, some (.int x)], by simp, by simp [hm], fun _ => by simp [hm]⟩
    refine Eq.trans this ?_
    unfold dInts
    rw [List.map_map]
    rfl
  have c1 : ¬ z < 1 := by omega
  simp [defC_eq, c1, hg, hs, hc, tupleM]
theorem cut_none (j : Nat) : (lv P (j + 1)).call "wick_cut" [.lst [], .int 0] s = .err ⟨"BadSize", none⟩ s := by
  rw [q_wick_cut]
  simp [defC_eq]
end
end LW
set_option Elab.async false
set_option linter.all false
set_option maxRecDepth 1000000
set_option maxHeartbeats 2000000
namespace LW
open PySem PySem.Spec PyProof.Rows L2 AL
section
variable {s : S}
abbrev Ls := Dn (Int × Int)
def fL (p : Int × Int) : D := .tup [.int p.1, .int p.2]
def max0 (x : Int) : Int := if x > 0 then x else 0
/-- the key of a name -/
def kL (l : Ls) (n : Str) : Int := 0 - max0 (10 * (atG l n).1 - (atG l n).2)
theorem key_run {i m : Nat} {l : Ls} {sl : Sl} (h1 : ∀ s, slot i sl s = .ok (.dk (dkG fL l)) s) {n : Str} (h2 : ∀ s, slot m sl s = .ok (.str n) s) (hn : n ∈ nmG l) (hb : ∀ p ∈ l, p.2.1.natAbs < 1000) (s : S) :
    (Etup [(Ebin .Sub false (pureE (.int 0)) (Eblt maxM false [(pureE (.int 0)), (Ebin .Sub false (Ebin .Mult false (pureE (.int 10)) (bin ixM (bin ixM (slot i) (slot m)) (pureE (.int 0)))) (bin ixM (bin ixM (slot i) (slot m)) (pureE (.int 1))))])), (slot m)]) sl s = .ok (kn (kL l) n) s := by
  have hi : ∀ s, getIx (.dk (dkG fL l)) (.str n) s = some (fL (atG l n)) := ix_dkG hn
  have g0 : ∀ s, getIx (fL (atG l n)) (.int 0) s = some (.int (atG l n).1) := fun s => rfl
  have g1 : ∀ s, getIx (fL (atG l n)) (.int 1) s = some (.int (atG l n).2) := fun s => rfl
  have hbn := hb _ (at_inG hn).2
  have hm : ∀ s, binD .Mult (.int 10) (.int (atG l n).1) s = .ok (.int (10 * (atG l n).1)) s := fun s => mul_int s (.inl (by decide))
  simp [h1, h2, hi, g0, g1, hm, kn, kL, max0]
theorem bright (j : Nat) (l : Ls) (hb : ∀ p ∈ l, p.2.1.natAbs < 1000) : (l = [] → (lv P (j + 1)).call "brightest" [.dk (dkG fL l)] s = .err ⟨"NoSuch", none⟩ s) ∧
    (l ≠ [] → ∃ m, Least (kL l) (nmG l) m ∧ (lv P (j + 1)).call "brightest" [.dk (dkG fL l)] s = .ok (.str m) s) := by
  rw [q_brightest]
  constructor
  · intro e
    subst e
    simp [defC_eq]
  · intro e
    have ne : nmG l ≠ [] := fun q => e (List.map_eq_nil_iff.mp q)
    obtain ⟨m, h1, h2⟩ := min_least (i := 1) (sl := [some (.dk (dkG fL l)), none]) (s := base (s.st.length :: s.bases) s) (a := slot 0) (body := (Etup [(Ebin .Sub false (pureE (.int 0)) (Eblt maxM false [(pureE (.int 0)), (Ebin .Sub false (Ebin .Mult false (pureE (.int 10)) (bin ixM (bin ixM (slot 0) (slot 1)) (pureE (.int 0)))) (bin ixM (bin ixM (slot 0) (slot 1)) (pureE (.int 1))))])), (slot 1)])) (f := kL l) (l := nmG l) rfl (walk_dkG l _) (fun d => unlk_same d _)
      (fun n hn => key_run (i := 0) (m := 1) (fun s => rfl) (fun s => rfl) hn hb _) ne
    refine ⟨m, h1, ?_⟩
    simp [defC_eq, h2, e]
end
end LW
set_option Elab.async false
set_option linter.all false
set_option maxRecDepth 1000000
set_option maxHeartbeats 2000000
namespace LW
open PySem PySem.Spec PyProof.Rows L2 AL
section
variable {a b k : Int} {r : List Cell} {bs : List Nat} {sl : Sl}
theorem roll_at (j : Nat) {m : Int} (h : 0 < m) (h2 : m < 1073741824) : (lv P (j + 1)).call "_law_roll" [.ref 0, .int m] ⟨dC a b k :: r, bs, []⟩ = .ok (.int (rollV a b k m)) ⟨dC (rollA a b k m) (rollB a b k) (rollK a k) :: r, bs, []⟩ := roll j (dice_hd a b k r bs) h h2
theorem roll_x (j : Nat) {m : Int} (h : 0 < m) (h2 : m < 1073741824) (a b k : Int) : ∃ v a' b' k', (0 ≤ v ∧ v < m) ∧ ∀ (r : List Cell) (bs : List Nat), (lv P (j + 1)).call "_law_roll" [.ref 0, .int m] ⟨dC a b k :: r, bs, []⟩ = .ok (.int v) ⟨dC a' b' k' :: r, bs, []⟩ := ⟨_, _, _, _, roll_lt h, fun r bs => roll_at j h h2⟩
/-- a row of draws -/
theorem rolls_x (j : Nat) {m : Int} (h : 0 < m) (h2 : m < 1073741824) {i : Nat} {sl : Sl} (hs : ∀ x s, slot 0 (sl.set i (some x)) s = .ok (.ref 0) s) (l : List D) (a b k : Int) (r : List Cell) (bs : List Nat) : ∃ (vs : List Int) (a' b' k' : Int), vs.length = l.length ∧ (∀ v ∈ vs, 0 ≤ v ∧ v < m) ∧
    compL (gName i) Tall (Ecall ((lv P (j + 1)).call "_law_roll") [slot 0, pureE (.int m)]) sl l ⟨dC a b k :: r, bs, []⟩ = .ok (dInts vs) ⟨dC a' b' k' :: r, bs, []⟩ :=
  compL_draw (r := r) (bs := bs) (sl := sl) (i := i) D.int (fun v => 0 ≤ v ∧ v < m) (fun x a b k => by
    obtain ⟨v, a', b', k', h3, h4⟩ := roll_x j h h2 a b k
    exact ⟨v, a', b', k', h3, by simp [hs, h4]⟩) l a b k
theorem rg (n : Int) (h : 0 ≤ n) (h2 : n < 1000) : ∃ l : List D, l.length = n.toNat ∧ rangeD [.int n] = some l := ⟨_, by simp, range1 h (by omega)⟩
/-- [roll m for k in range(roll n)] -/
theorem Ecomp_rolls (j : Nat) {n m : Int} (hn : 0 < n) (hn2 : n < 1000) (h : 0 < m) (h2 : m < 1073741824) {i : Nat} {ws : List Nat} {sl : Sl} (h0 : ∀ s, slot 0 sl s = .ok (.ref 0) s) (hs : ∀ x s, slot 0 ((wipeS sl ws).set i (some x)) s = .ok (.ref 0) s) (a b k : Int) (r : List Cell) (bs : List Nat) : ∃ (vs : List Int) (a' b' k' : Int), vs.length < n.toNat ∧ (∀ v ∈ vs, 0 ≤ v ∧ v < m) ∧
    Ecomp false (Irng [Ecall ((lv P (j + 1)).call "_law_roll") [slot 0, pureE (.int n)]]) (gName i) Tall (Ecall ((lv P (j + 1)).call "_law_roll") [slot 0, pureE (.int m)]) ws sl ⟨dC a b k :: r, bs, []⟩ = .ok (.lst (dInts vs)) ⟨dC a' b' k' :: r, bs, []⟩ := by
  obtain ⟨v, a1, b1, k1, h3, h4⟩ := roll_x j hn (by omega) a b k
  obtain ⟨l, hl, hr⟩ := rg v h3.1 (by omega)
  obtain ⟨vs, a2, b2, k2, h5, h6, h7⟩ := rolls_x j h h2 hs l a1 b1 k1 r bs
  refine ⟨vs, a2, b2, k2, by omega, h6, ?_⟩
  simp [h0, h4, hr, h7]
/-! rows of lamps -/
theorem app2 (c X : Cell) (l : List D) (v : D) (hv : ∀ n, v.under n = true) (hn : l.length < sizeLine) : appendM (.ref 2) [v] ⟨[c, X, .lst l], bs, []⟩ = .ok .non ⟨[c, X, .lst (l ++ [v])], bs, []⟩ := by
  have hf : free ⟨[c, X, .lst l], bs, []⟩ 2 = true := rfl
  have hv2 : fits ⟨[c, X, .lst l], bs, []⟩ 2 v = true := by simp [fits, hv]
  simp [appendM, hf, hv2, hn, putC]
theorem loop1 (j : Nat) (X : Cell) (c : Option D) (w : Sl) : ∀ (l : List D) (rows : List (Int × Int)) (x3 x4 : Option D) (a b k : Int), rows.length + l.length ≤ 1000 → (∀ p ∈ rows, 0 ≤ p.2 ∧ p.2 ≤ p.1 ∧ p.1 ≤ 20) →
    ∃ rows' x3' x4' a' b' k', rows'.length = rows.length + l.length ∧ (∀ p ∈ rows', 0 ≤ p.2 ∧ p.2 ≤ p.1 ∧ p.1 ≤ 20) ∧ forL (fun d sl s => (gName 3 d sl s).noErr) (w_law_rest1_1b (lv P (j + 1))) l (some (.ref 0) :: some (.ref 2) :: c :: x3 :: x4 :: w) ⟨[dC a b k, X, .lst (pr rows)], bs, []⟩ = .nx (some (.ref 0) :: some (.ref 2) :: c :: x3' :: x4' :: w) ⟨[dC a' b' k', X, .lst (pr rows')], bs, []⟩
  | [], rows, x3, x4, a, b, k, _, hr => ⟨rows, x3, x4, a, b, k, rfl, hr, rfl⟩
  | x :: l, rows, x3, x4, a, b, k, hn, hr => by
    rw [List.length_cons] at hn
    obtain ⟨v, a1, b1, k1, h1, h2⟩ := roll_x j (show (0 : Int) < 20 by decide) (by decide) a b k
    obtain ⟨u, a2, b2, k2, h3, h4⟩ := roll_x j (show (0 : Int) < 1 + v + 1 by omega) (by omega) a1 b1 k1
    obtain ⟨rows', x3', x4', a', b', k', h5, h6, h7⟩ := loop1 j X c w l (rows ++ [(1 + v, u)]) (some x) (some (.int (1 + v))) a2 b2 k2 (by rw [List.length_append, List.length_singleton]; omega) (fun p hp => by
      rcases List.mem_append.mp hp with q | q
      · exact hr p q
      · rw [List.mem_singleton.mp q]
        dsimp only
        omega)
    refine ⟨rows', x3', x4', a', b', k', by rw [h5, List.length_append, List.length_singleton, List.length_cons]; omega, h6, ?_⟩
    have hap := app2 (bs := bs) (dC a2 b2 k2) X (pr rows) (.tup [.int (1 + v), .int u]) (fun n => by simp [D.under, belowL]) (by rw [sizeLine_eq]; unfold pr; rw [List.length_map]; omega)
    have hpr : pr rows ++ [.tup [.int (1 + v), .int u]] = pr (rows ++ [(1 + v, u)]) := by simp [pr]
    rw [hpr] at hap
    have hview : ∀ c, (D.ref 2).view ⟨[c, X, .lst (pr rows)], bs, []⟩ = .lst (pr rows) := fun c => view_lst rfl
    conv => enter [1]; unfold forL
    simp [h2, h4, hview, hap]
    exact h7
end
end LW
set_option Elab.async false
set_option linter.all false
set_option maxRecDepth 1000000
set_option maxHeartbeats 2000000
namespace LW
open PySem PySem.Spec PyProof.Rows L2 AL
section
variable {a b k : Int} {r : List Cell} {bs : List Nat} {sl : Sl}
/-- rounded up -/
theorem ceil_eq {n c : Int} (hn : 0 ≤ n) (hc : 0 < c) : 0 - (0 - n).fdiv c = (((if (0 : Int) < n then ((n - 0 - 1) / c + 1).toNat else 0) : Nat) : Int) := by
  rw [Int.fdiv_eq_ediv_of_nonneg _ (by omega)]
  by_cases h : 0 < n
  · rw [if_pos h]
    have h1 : 0 ≤ (n - 0 - 1) / c := Int.ediv_nonneg (by omega) (by omega)
    have h2 := Int.mul_ediv_add_emod (n - 0 - 1) c
    have h3 := Int.emod_nonneg (n - 0 - 1) (b := c) (by omega)
    have h4 := Int.emod_lt_of_pos (n - 0 - 1) hc
    have h5 : (0 - n) / c = -((n - 0 - 1) / c) - 1 := by
      have e : 0 - n = (c - 1 - (n - 0 - 1) % c) + c * (-((n - 0 - 1) / c) - 1) := by
        rw [Int.mul_sub, Int.mul_neg]
        omega
      rw [e, Int.add_mul_ediv_left _ _ (by omega), Int.ediv_eq_zero_of_lt (by omega) (by omega)]
      omega
    omega
  · have : n = 0 := by omega
    subst this
    simp
theorem lack_nn {l : List (Int × Int)} (h : ∀ p ∈ l, 0 ≤ p.2 ∧ p.2 ≤ p.1 ∧ p.1 ≤ 20) : ∀ x ∈ lack l, 0 ≤ x ∧ x ≤ 20 := by
  intro x hx
  obtain ⟨p, hp, e⟩ := List.mem_map.mp hx
  have := h p hp
  omega
theorem sum_le (M : Int) : ∀ (l : List Int), (∀ x ∈ l, x ≤ M) → l.sum ≤ l.length * M
  | [], _ => by simp
  | x :: l, h => by
    have h1 := sum_le M l fun y hy => h y (List.mem_cons_of_mem _ hy)
    have h2 := h x (List.mem_cons_self ..)
    rw [List.sum_cons, List.length_cons, Int.natCast_add, Int.add_mul]
    omega
theorem st0 (j : Nat) (X : Cell) (h0 : ∀ s, slot 0 sl s = .ok (.ref 0) s) (a b k : Int) : ∃ c a' b' k', (1 ≤ c ∧ c ≤ 20) ∧ s_law_rest1_0 (lv P (j + 1)) sl ⟨[dC a b k, X], bs, []⟩ = .nx ((sl.set 2 (some (.int c))).set 1 (some (.ref 2))) ⟨[dC a' b' k', X, .lst []], bs, []⟩ := by
  obtain ⟨v, a1, b1, k1, h1, h2⟩ := roll_x j (show (0 : Int) < 20 by decide) (by decide) a b k
  refine ⟨1 + v, a1, b1, k1, by omega, ?_⟩
  simp [h0, h2]
theorem st1 (j : Nat) (X : Cell) (c : Option D) (w : Sl) (x3 x4 : Option D) (a b k : Int) : ∃ rows x3' x4' a' b' k', rows.length < 5 ∧ (∀ p ∈ rows, 0 ≤ p.2 ∧ p.2 ≤ p.1 ∧ p.1 ≤ 20) ∧ s_law_rest1_1 (lv P (j + 1)) (some (.ref 0) :: some (.ref 2) :: c :: x3 :: x4 :: w) ⟨[dC a b k, X, .lst []], bs, []⟩ = .nx (some (.ref 0) :: some (.ref 2) :: c :: x3' :: x4' :: w) ⟨[dC a' b' k', X, .lst (pr rows)], bs, []⟩ := by
  obtain ⟨v, a1, b1, k1, h1, h2⟩ := roll_x j (show (0 : Int) < 5 by decide) (by decide) a b k
  obtain ⟨l, hl, hr⟩ := rg v h1.1 (by omega)
  obtain ⟨rows, x3', x4', a', b', k', h5, h6, h7⟩ := loop1 (bs := bs) j X c w l [] x3 x4 a1 b1 k1 (by simp; omega) (by simp)
  refine ⟨rows, x3', x4', a', b', k', by rw [h5]; simp; omega, h6, ?_⟩
  unfold s_law_rest1_1
  rw [Sfor_ap]
  have hi : Irng [Ecall ((lv P (j + 1)).call "_law_roll") [slot 0, pureE (.int 5)]] (some (.ref 0) :: some (.ref 2) :: c :: x3 :: x4 :: w) ⟨[dC a b k, X, .lst []], bs, []⟩ = .ok (l, ⟨[dC a1 b1 k1, X, .lst []], bs, []⟩) ⟨[dC a1 b1 k1, X, .lst []], bs, []⟩ := by
    simp [h2, hr]
  rw [hi, sbind_ok]
  dsimp only
  have h8 : pr [] = [] := rfl
  rw [h8] at h7
  rw [h7, unlkS_nx _ _ _ (by rfl)]
/-- [holds - held for holds, held in rows] -/
theorem lacks (X : Cell) (rows : List (Int × Int)) (c0 : Cell) (h1 : ∀ s, slot 1 sl s = .ok (.ref 2) s) (hl : sl.length = 26) : Ecomp false (Ival (slot 1)) (Gtup [(gName 4), (gName 22)]) Tall (Ebin .Sub false (slot 4) (slot 22)) [21, 4, 22] sl ⟨[c0, X, .lst (pr rows)], bs, []⟩ = .ok (.lst (dInts (lack rows))) ⟨[c0, X, .lst (pr rows)], bs, []⟩ := by
  have hw : walk (.ref 2) ⟨[c0, X, .lst (pr rows)], bs, []⟩ = some (pr rows, lkd [2] ⟨[c0, X, .lst (pr rows)], bs, []⟩) := walk_rl rfl rfl
  have hc := compL_map (s := lkd [2] ⟨[c0, X, .lst (pr rows)], bs, []⟩) (sl := wipeS sl [21, 4, 22]) (g := Gtup [(gName 4), (gName 22)]) (t := Tall) (e := Ebin .Sub false (slot 4) (slot 22)) (fun p : Int × Int => D.tup [.int p.1, .int p.2]) (fun _ => true) (fun p => .int (p.1 - p.2)) rows fun p _ => ⟨((wipeS sl [21, 4, 22]).set 4 (some (.int p.1))).set 22 (some (.int p.2)), by simp, rfl, fun _ => by simp [hl]⟩
  rw [filt] at hc
  rw [Ecomp_ap, Ival_ap, h1, bind_ok, hw, of_some, bind_ok]
  dsimp only
  have hp : pr rows = rows.map fun p : Int × Int => D.tup [.int p.1, .int p.2] := rfl
  have hd : dInts (lack rows) = rows.map fun p => D.int (p.1 - p.2) := by
    unfold dInts lack
    rw [List.map_map]
    rfl
  rw [← hp] at hc
  rw [hc, unlk_lkd, hd]
  rfl
theorem st2 (z : Lv) (X : Cell) (rows : List (Int × Int)) (c0 : Cell) (h1 : ∀ s, slot 1 sl s = .ok (.ref 2) s) (hl : sl.length = 26) : s_law_rest1_2 z sl ⟨[c0, X, .lst (pr rows)], bs, []⟩ = .nx (sl.set 5 (some (.int (lack rows).sum))) ⟨[c0, X, .lst (pr rows)], bs, []⟩ := by
  unfold s_law_rest1_2
  simp only [Sasg_ap, Eblt_ap, manyW_c, manyW_n, lacks X rows c0 h1 hl, bind_ok, sum_ints, mkC_f, sbind_ok, gName_ap, noErr_ok]
/-- how many -/
def manyC (n c : Int) : Nat := if 0 < n then ((n - 0 - 1) / c + 1).toNat else 0
theorem st3 (z : Lv) {n c : Int} (s : S) (h5 : ∀ s, slot 5 sl s = .ok (.int n) s) (h2 : ∀ s, slot 2 sl s = .ok (.int c) s) (hn : 0 ≤ n) (hn2 : n < 10000) (hc : 0 < c) (hc2 : c < 1000) : s_law_rest1_3 z sl s = .nx (sl.set 6 (some (.int (manyC n c)))) s := by
  have hr := rangeX3 (a := 0) (b := n) (c := c) hc (by omega) (by omega) (by omega) (by omega) (by omega) (by omega)
  simp [h5, h2, hr, manyC]
theorem st4 (j : Nat) (X c0 : Cell) (rows : List (Int × Int)) {c : Int} (h1 : ∀ s, slot 1 sl s = .ok (.ref 2) s) (h2 : ∀ s, slot 2 sl s = .ok (.int c) s) (h5 : ∀ s, slot 5 sl s = .ok (.int (lack rows).sum) s) (h6 : ∀ s, slot 6 sl s = .ok (.int (manyC (lack rows).sum c)) s)
    (hc : 1 ≤ c) (hc2 : c ≤ 20) (hn : rows.length < 5) (hb : ∀ p ∈ rows, 0 ≤ p.2 ∧ p.2 ≤ p.1 ∧ p.1 ≤ 20) : s_law_rest1_4 (lv P (j + 1)) sl ⟨[c0, X, .lst (pr rows)], bs, []⟩ = .nx sl ⟨[c0, X, .lst (pr rows)], bs, []⟩ := by
  have hx := cans_for (s := ⟨[c0, X, .lst (pr rows)], bs, []⟩) (r := 2) j rows rfl rfl c hc (by omega) (by omega) fun p hp => by have := hb p hp; omega
  have hm : ∀ x s, binD .Mult (.int x) (.int c) s = .ok (.int (x * c)) s := fun x s => mul_int s (.inr (by omega))
  have he : 0 - (0 - (lack rows).sum).fdiv c = (manyC (lack rows).sum c : Nat) := ceil_eq (sum_nn _ fun x hx => (lack_nn hb x hx).1) (by omega)
  rw [he] at hx
  refine sif_no ?_
  have hne := ne_flat (d := .tup [.int (manyC (lack rows).sum c : Nat), .int ((manyC (lack rows).sum c : Nat) * c - (lack rows).sum)]) rfl ⟨[c0, X, .lst (pr rows)], bs, []⟩
  simp [h1, h2, h5, h6, hx, hm, hne]
theorem st5 (j : Nat) (X : Cell) (rows : List (Int × Int)) (h1 : ∀ s, slot 1 sl s = .ok (.ref 2) s) (h0 : ∀ s, slot 0 sl s = .ok (.ref 0) s) (hl : sl.length = 26) (a b k : Int) : ∃ (cans : List Int) (a' b' k' : Int), cans.length < 4 ∧ (∀ x ∈ cans, 0 ≤ x ∧ x < 20) ∧
    s_law_rest1_5 (lv P (j + 1)) sl ⟨[dC a b k, X, .lst (pr rows)], bs, []⟩ = .nx ((sl.set 17 (some (.lst (dInts (lack rows))))).set 14 (some (.lst (dInts cans)))) ⟨[dC a' b' k', X, .lst (pr rows)], bs, []⟩ := by
  obtain ⟨vs, a', b', k', h3, h4, h5⟩ := Ecomp_rolls j (n := 4) (m := 20) (by decide) (by decide) (by decide) (by decide) (i := 3) (ws := [21, 3]) (sl := sl) h0 (fun x s => by simp [h0]) a b k [X, .lst (pr rows)] bs
  refine ⟨vs, a', b', k', h3, h4, ?_⟩
  have hq := lacks (bs := bs) X rows (dC a b k) h1 hl
  unfold s_law_rest1_5
  rw [Stup_ap, manyW_c, hq, bind_ok, manyW_c, h5, bind_ok]
  rfl
end
end LW
set_option Elab.async false
set_option linter.all false
set_option maxRecDepth 1000000
set_option maxHeartbeats 2000000
namespace LW
open PySem PySem.Spec PyProof.Rows L2 AL
section
variable {a b k : Int} {r : List Cell} {bs : List Nat} {sl : Sl} {s : S}
def duP (lk cans : List Int) : D := if lk.sum ≤ cans.sum then .tup [.tup (dInts lk), .int (cans.sum - lk.sum)] else .str "no way"
theorem st6 (z : Lv) {lk cans : List Int} (s : S) (h5 : ∀ s, slot 5 sl s = .ok (.int lk.sum) s) (h14 : ∀ s, slot 14 sl s = .ok (.lst (dInts cans)) s) (h17 : ∀ s, slot 17 sl s = .ok (.lst (dInts lk)) s) : s_law_rest1_6 z sl s = .nx (sl.set 7 (some (duP lk cans))) s := by
  by_cases h : lk.sum ≤ cans.sum <;> simp [h5, h14, h17, duP, h, tupleM]
theorem st7 (j : Nat) {lk cans : List Int} (s : S) (hs : s.lk = []) (h7 : ∀ s, slot 7 sl s = .ok (duP lk cans) s) (h14 : ∀ s, slot 14 sl s = .ok (.lst (dInts cans)) s) (h17 : ∀ s, slot 17 sl s = .ok (.lst (dInts lk)) s)
    (hn : lk.length ≤ 1000) (hb : ∀ x ∈ lk, 0 ≤ x) (hc : ∀ x ∈ cans, 0 ≤ x) : s_law_rest1_7 (lv P (j + 1)) sl s = .nx sl s := by
  refine sif_no ?_
  have hp := poured (s := s) j cans lk hn hb hc hs
  by_cases h : lk.sum ≤ cans.sum
  · rw [if_pos h] at hp
    have hne := ne_flat (d := .tup [.tup (dInts lk), .int (cans.sum - lk.sum)]) (by simp [flaB, flasB, flats_ints]) s
    simp [h7, h14, h17, hp, duP, h, hne]
  · rw [if_neg h] at hp
    simp [h7, h14, h17, hp, duP, h]
theorem st8 (j : Nat) (h0 : ∀ s, slot 0 sl s = .ok (.ref 0) s) (hl : sl.length = 26) (a b k : Int) (r : List Cell) : ∃ (hs : List Int) (e o a' b' k' : Int), hs.length < 4 ∧ (∀ x ∈ hs, 0 ≤ x ∧ x < 9) ∧ (0 ≤ e ∧ e < 4) ∧ (0 ≤ o ∧ o < 90) ∧
    s_law_rest1_8 (lv P (j + 1)) sl ⟨dC a b k :: r, bs, []⟩ = .nx ((((sl.set 16 (some (.lst (dInts hs)))).set 15 (some (.int e))).set 20 (some (.int o))).set 7 (some (.str "no way"))) ⟨dC a' b' k' :: r, bs, []⟩ := by
  obtain ⟨vs, a1, b1, k1, h3, h4, h5⟩ := Ecomp_rolls j (n := 4) (m := 9) (by decide) (by decide) (by decide) (by decide) (i := 3) (ws := [21, 3]) (sl := sl) h0 (fun x s => by simp [h0]) a b k r bs
  obtain ⟨e, a2, b2, k2, h6, h7⟩ := roll_x j (show (0 : Int) < 4 by decide) (by decide) a1 b1 k1
  obtain ⟨o, a3, b3, k3, h8, h9⟩ := roll_x j (show (0 : Int) < 90 by decide) (by decide) a2 b2 k2
  refine ⟨vs, e, o, a3, b3, k3, h3, h4, h6, h8, ?_⟩
  unfold s_law_rest1_8
  rw [Stup_ap, manyW_c, h5, bind_ok]
  simp [h0, h7, h9]
/-- how many nights: what the law finds -/
def Nigh (hs : List Int) (e o : Int) (d : D) : Prop := (hs.sum * e = 0 ∧ d = .str "no way") ∨ (0 < hs.sum * e ∧ ∃ K : Nat, d = .int K ∧ K ≤ hs.length * (o.toNat + 1) ∧ (∀ i, i < K → decide (gh hs e i ≤ lo hs e o i) = true) ∧ decide (gh hs e K ≤ lo hs e o K) = false)
theorem sum_e {hs : List Int} {e : Int} (hb : ∀ x ∈ hs, 0 ≤ x) (he : 0 ≤ e) : 0 ≤ hs.sum * e := Int.mul_nonneg (sum_nn hs hb) he
def rEnc (hs : List Int) (e o : Int) (sl : Sl) (s : S) (i : Nat) : Sl × S := ((sl.set 7 (some (.int i))).set 8 (some (.int (lo hs e o i))), s)
theorem set78 (sl : Sl) (x y x' y' : Option D) : ((((sl.set 7 x).set 8 y).set 7 x').set 8 y') = (sl.set 7 x').set 8 y' := by
  rw [List.set_comm y x' (i := 8) (j := 7) (by decide), List.set_set, List.set_set]
theorem set87 (sl : Sl) (x y : Option D) : (sl.set 8 y).set 7 x = (sl.set 7 x).set 8 y := List.set_comm _ _ (by decide)
theorem st9 (z : Lv) {hs : List Int} {e o : Int} (s : S) (hl : sl.length = 26) (h16 : ∀ s, slot 16 sl s = .ok (.lst (dInts hs)) s) (h15 : ∀ s, slot 15 sl s = .ok (.int e) s) (h20 : ∀ s, slot 20 sl s = .ok (.int o) s) (h7 : sl[7]? = some (some (.str "no way")))
    (he : 0 ≤ e) (he2 : e < 4) (ho : 0 ≤ o) (ho2 : o < 90) (hb : ∀ x ∈ hs, 0 ≤ x ∧ x < 9) (hn : hs.length < 4) :
    ∃ d x8, Nigh hs e o d ∧ s_law_rest1_9 z sl s = .nx ((sl.set 7 (some d)).set 8 x8) s := by
  have hb0 : ∀ x ∈ hs, 0 ≤ x := fun x hx => (hb x hx).1
  have hm : ∀ x s, binD .Mult (.int x) (.int e) s = .ok (.int (x * e)) s := fun x s => mul_int s (.inr (by omega))
  have hm' : ∀ x s, binD .Mult (.int e) (.int x) s = .ok (.int (x * e)) s := fun x s => by rw [mul_int s (.inl (by omega)), Int.mul_comm]
  have hp := sum_e hb0 he
  by_cases hz : 0 < hs.sum * e
  · obtain ⟨K, h1, h2, h3⟩ := ex_night (hs := hs) ho he hb0 hz
    refine ⟨.int K, some (.int (lo hs e o K)), .inr ⟨hz, K, rfl, h1, h2, h3⟩, ?_⟩
    have hnn : hs ≠ [] := by
      intro q
      rw [q] at hz
      simp at hz
    have hn0 : 0 < hs.length := List.length_pos_iff.mpr hnn
    have hnd : (hs.length : Int) ≠ 0 := by omega
    have hmod : ∀ (i : Nat) s, binD .Mod (.int i) (.int hs.length) s = .ok (.int ((i : Int) % (hs.length : Int))) s := fun i s => by rw [mod_int s hnd, Int.fmod_eq_emod_of_nonneg _ (by omega)]
    have hix : ∀ (i : Nat) s, getIx (.lst (dInts hs)) (.int ((i : Int) % (hs.length : Int))) s = some (.int (hs[i % hs.length]?.getD 0)) := fun i s => ix_ints hs _ (Nat.mod_lt _ hn0) s
    have hKb : K < 100000 := by
      have h4 : hs.length * (o.toNat + 1) ≤ 4 * 1000 := Nat.mul_le_mul (by omega) (by omega)
      omega
    have hw := while_i (t := t_law_rest1_9a1 z) (b := w_law_rest1_9a1b z) (rEnc hs e o sl s) (fun i => decide (gh hs e i ≤ lo hs e o i)) K 0 100000
      (fun i _ _ => by
        simp [rEnc, hl, h16, h15, hmod, hix, hm', dInts_len, gh]
        rfl)
      (fun i _ hi => ⟨h2 i (by omega), by
        simp [rEnc, hl, h16, h15, hmod, hix, hm', dInts_len, gh, lo, set87, set78]⟩) (by simpa using h3) hKb
    rw [Nat.zero_add] at hw
    have e0 : rEnc hs e o sl s 0 = ((sl.set 7 (some (.int 0))).set 8 (some (.int o)), s) := rfl
    rw [e0] at hw
    unfold s_law_rest1_9
    rw [Sif_ap]
    have ht : ch1 .Gt (Ebin .Mult false (Eblt sumM false [(slot 16)]) (slot 15)) (pureE (.int 0)) sl s = .ok true s := by
      simp [h16, h15, hm, hz]
    rw [ht, sbind_ok, if_pos rfl]
    have h90 : s_law_rest1_9a0 z sl s = .nx ((sl.set 7 (some (.int 0))).set 8 (some (.int o))) s := by
      simp [h20, set87]
    unfold w_law_rest1_9a
    rw [runW_c, h90, then_nx, runW_c]
    have h91 : s_law_rest1_9a1 z ((sl.set 7 (some (.int 0))).set 8 (some (.int o))) s = .nx (rEnc hs e o sl s K).1 (rEnc hs e o sl s K).2 := hw
    rw [h91, then_nx, runW_n]
    rfl
  · refine ⟨.str "no way", sl[8]?.getD none, .inl ⟨by omega, rfl⟩, ?_⟩
    have e1 : sl.set 7 (some (.str "no way")) = sl := by
      refine List.ext_getElem? fun i => ?_
      rw [List.getElem?_set]
      split
      · rename_i q
        subst q
        rw [h7, if_pos (by omega)]
      · rfl
    have e2 : sl.set 8 (sl[8]?.getD none) = sl := by
      refine List.ext_getElem? fun i => ?_
      rw [List.getElem?_set]
      split
      · rename_i q
        subst q
        rw [if_pos (by omega), List.getElem?_eq_getElem (by omega)]
        rfl
      · rfl
    rw [e1, e2]
    have hz' : ¬ 0 < hs.sum * e := hz
    refine sif_no ?_
    simp [h16, h15, hm, hz']
theorem st10 (j : Nat) {hs : List Int} {e o : Int} {d : D} (hd : Nigh hs e o d) (s : S) (h16 : ∀ s, slot 16 sl s = .ok (.lst (dInts hs)) s) (h15 : ∀ s, slot 15 sl s = .ok (.int e) s) (h20 : ∀ s, slot 20 sl s = .ok (.int o) s) (h7 : ∀ s, slot 7 sl s = .ok d s)
    (he : 0 ≤ e) (he2 : e < 4) (ho : 0 ≤ o) (ho2 : o < 90) (hb : ∀ x ∈ hs, 0 ≤ x ∧ x < 9) (hn : hs.length < 4) : s_law_rest1_10 (lv P (j + 1)) sl s = .nx sl s := by
  obtain ⟨n1, n2⟩ := nights_ok (s := s) (hs := hs) (e := e) (oil := o) j ho (by omega) he (by omega) (fun x hx => (hb x hx).1) (by omega)
  refine sif_no ?_
  rcases hd with ⟨h1, h2⟩ | ⟨h1, K, h2, h3, h4, h5⟩
  · have := n1 h1
    subst h2
    simp [h16, h15, h20, h7, this]
  · have := n2 K h1 h3 h4 h5
    subst h2
    simp [h16, h15, h20, h7, this]
theorem st11 (j : Nat) (h0 : ∀ s, slot 0 sl s = .ok (.ref 0) s) (a b k : Int) (r : List Cell) : ∃ (h a' b' k' : Int), (0 ≤ h ∧ h < 30) ∧ s_law_rest1_11 (lv P (j + 1)) sl ⟨dC a b k :: r, bs, []⟩ = .nx (sl.set 19 (some (.int h))) ⟨dC a' b' k' :: r, bs, []⟩ := by
  obtain ⟨e, a2, b2, k2, h6, h7⟩ := roll_x j (show (0 : Int) < 30 by decide) (by decide) a b k
  exact ⟨e, a2, b2, k2, h6, by simp [h0, h7]⟩
theorem st12 (z : Lv) {h o : Int} (s : S) (hl : sl.length = 26) (h19 : ∀ s, slot 19 sl s = .ok (.int h) s) (h20 : ∀ s, slot 20 sl s = .ok (.int o) s) (hh : 0 ≤ h ∧ h < 30) : s_law_rest1_12 z sl s = .nx (sl.set 9 (some (.lst (dInts (bestL h o))))) s := by
  have hm : ∀ x s, binD .Mult (.int x) (.int h) s = .ok (.int (x * h)) s := fun x s => mul_int s (.inr (by omega))
  have hc := best_comp (s := s) 3 (ch1 .LtE (Ebin .Mult false (slot 3) (slot 19)) (slot 20)) (slot 3) [21, 3] sl h o (fun x s => by simp [hl, h19, h20, hm]) fun x s => by simp [hl]
  unfold s_law_rest1_12
  rw [Sasg_ap, hc]
  rfl
theorem st13 (j : Nat) {h o : Int} (s : S) (h19 : ∀ s, slot 19 sl s = .ok (.int h) s) (h20 : ∀ s, slot 20 sl s = .ok (.int o) s) (h9 : ∀ s, slot 9 sl s = .ok (.lst (dInts (bestL h o))) s) (hh : 0 ≤ h ∧ h < 30) : s_law_rest1_13 (lv P (j + 1)) sl s = .nx sl s := by
  have hb := best (s := s) j h o hh.1 (by omega)
  have hm : ∀ (l : List Int) (M : Int), M ∈ l → (∀ y ∈ l, y ≤ M) → ∀ s, maxM [.lst (dInts l)] s = .ok (.int M) s := fun l M h1 h2 s => max_ints h1 h2 s
  refine sif_no ?_
  rcases bestL_cases (h := h) (o := o) hh.1 with q | q | q | q | q <;> rw [q] at hb h9
  · simp [h19, h20, h9, hb, bestR, dInts]
  · simp [h19, h20, h9, hb, bestR, hm [1] 1 (by decide) (by decide)]
    simp [dInts]
  · simp [h19, h20, h9, hb, bestR, hm [1, 2] 2 (by decide) (by decide)]
    simp [dInts]
  · simp [h19, h20, h9, hb, bestR, hm [1, 2, 3] 3 (by decide) (by decide)]
    simp [dInts]
  · simp [h19, h20, h9, hb, bestR, hm [1, 2, 3, 4] 4 (by decide) (by decide)]
    simp [dInts]
end
end LW
set_option Elab.async false
set_option linter.all false
set_option maxRecDepth 1000000
set_option maxHeartbeats 2000000
namespace LW
open PySem PySem.Spec PyProof.Rows L2 AL
section
variable {a b k : Int} {r : List Cell} {bs : List Nat} {sl : Sl} {s : S}
theorem st14 (j : Nat) (h0 : ∀ s, slot 0 sl s = .ok (.ref 0) s) (a b k : Int) (r : List Cell) : ∃ (cs : List Int) (z a' b' k' : Int), cs.length < 5 ∧ (∀ x ∈ cs, 0 ≤ x ∧ x < 20) ∧ (1 ≤ z ∧ z < 8) ∧
    s_law_rest1_14 (lv P (j + 1)) sl ⟨dC a b k :: r, bs, []⟩ = .nx ((sl.set 10 (some (.lst (dInts cs)))).set 11 (some (.int z))) ⟨dC a' b' k' :: r, bs, []⟩ := by
  obtain ⟨vs, a1, b1, k1, h3, h4, h5⟩ := Ecomp_rolls j (n := 5) (m := 20) (by decide) (by decide) (by decide) (by decide) (i := 3) (ws := [21, 3]) (sl := sl) h0 (fun x s => by simp [h0]) a b k r bs
  obtain ⟨e, a2, b2, k2, h6, h7⟩ := roll_x j (show (0 : Int) < 7 by decide) (by decide) a1 b1 k1
  refine ⟨vs, 1 + e, a2, b2, k2, h3, h4, by omega, ?_⟩
  unfold s_law_rest1_14
  rw [Stup_ap, manyW_c, h5, bind_ok]
  simp [h0, h7]
theorem st15 (z' : Lv) {cs : List Int} {z : Int} (s : S) (hl : sl.length = 26) (h10 : ∀ s, slot 10 sl s = .ok (.lst (dInts cs)) s) (h11 : ∀ s, slot 11 sl s = .ok (.int z) s) (hz : 1 ≤ z ∧ z < 8) : s_law_rest1_15 z' sl s = .nx (sl.set 12 (some (.lst (dInts (cs.map fun x => x.fmod z))))) s := by
  have hd : ∀ x s, binD .FloorDiv (.int x) (.int z) s = .ok (.int (x.fdiv z)) s := fun x s => div_int s (by omega)
  have hm : ∀ x s, binD .Mult (.int x) (.int z) s = .ok (.int (x * z)) s := fun x s => mul_int s (.inr (by omega))
  have he : ∀ x : Int, x - x.fdiv z * z = x.fmod z := fun x => by rw [Int.fmod_def, Int.mul_comm]
  have hc := compL_map (sl := wipeS sl [21, 23]) (s := s) (g := gName 23) (t := Tall) (e := Ebin .Sub false (slot 23) (Ebin .Mult false (Ebin .FloorDiv false (slot 23) (slot 11)) (slot 11))) D.int (fun _ => true) (fun x => .int (x.fmod z)) cs fun x _ => ⟨(wipeS sl [21, 23]).set 23 (some (.int x)), by simp, rfl, fun _ => by simp [hl, h11, hd, hm, he]⟩
  rw [filt] at hc
  have e1 : cs.map (fun x => D.int (x.fmod z)) = dInts (cs.map fun x => x.fmod z) := by
    unfold dInts
    rw [List.map_map]
    rfl
  rw [e1] at hc
  have hc' : compL (gName 23) Tall (Ebin .Sub false (slot 23) (Ebin .Mult false (Ebin .FloorDiv false (slot 23) (slot 11)) (slot 11))) (wipeS sl [21, 23]) (dInts cs) s = .ok (dInts (cs.map fun x => x.fmod z)) s := hc
  unfold s_law_rest1_15
  rw [Sasg_ap, Ecomp_ap, Ival_ap, h10, bind_ok, walk_lst, of_some, bind_ok]
  dsimp only
  rw [hc', unlk_same]
  rfl
theorem st16 (j : Nat) {cs : List Int} {z : Int} (s : S) (hl : sl.length = 26) (h10 : ∀ s, slot 10 sl s = .ok (.lst (dInts cs)) s) (h11 : ∀ s, slot 11 sl s = .ok (.int z) s) (h12 : ∀ s, slot 12 sl s = .ok (.lst (dInts (cs.map fun x => x.fmod z))) s) (hz : 1 ≤ z ∧ z < 8) (hn : cs.length < 5) (hb : ∀ x ∈ cs, 0 ≤ x ∧ x < 20) : s_law_rest1_16 (lv P (j + 1)) sl s = .nx sl s := by
  have hcut := cut_ok (s := s) j cs z hz.1 (by omega) (fun x hx => by have := hb x hx; omega) (by omega)
  have hd : ∀ x s, binD .FloorDiv (.int x) (.int z) s = .ok (.int (x.fdiv z)) s := fun x s => div_int s (by omega)
  have c1 := compL_map (sl := wipeS sl [21, 23]) (s := s) (g := gName 23) (t := Tall) (e := Ebin .FloorDiv false (slot 23) (slot 11)) D.int (fun _ => true) (fun x => .int (x.fdiv z)) cs fun x _ => ⟨(wipeS sl [21, 23]).set 23 (some (.int x)), by simp, rfl, fun _ => by simp [hl, h11, hd]⟩
  rw [filt] at c1
  have e1 : cs.map (fun x => D.int (x.fdiv z)) = dInts (cs.map fun x => x.fdiv z) := by
    unfold dInts
    rw [List.map_map]
    rfl
  rw [e1] at c1
  have c1' : compL (gName 23) Tall (Ebin .FloorDiv false (slot 23) (slot 11)) (wipeS sl [21, 23]) (dInts cs) s = .ok (dInts (cs.map fun x => x.fdiv z)) s := c1
  have c2 := compL_map (sl := wipeS sl [21, 24]) (s := s) (g := gName 24) (t := ch1 .Gt (slot 24) (pureE (.int 0))) (e := slot 24) D.int (fun x => decide (0 < x)) D.int (cs.map fun x => x.fmod z) fun x _ => ⟨(wipeS sl [21, 24]).set 24 (some (.int x)), by simp, by simp [hl], fun _ => by simp [hl]⟩
  have e2 : ((cs.map fun x => x.fmod z).filter fun x => decide (0 < x)) = (cs.filter fun x => decide (0 < x.fmod z)).map fun x => x.fmod z := by
    rw [List.filter_map]
    rfl
  rw [e2] at c2
  have c2' : compL (gName 24) (ch1 .Gt (slot 24) (pureE (.int 0))) (slot 24) (wipeS sl [21, 24]) (dInts (cs.map fun x => x.fmod z)) s = .ok (dInts ((cs.filter fun x => decide (0 < x.fmod z)).map fun x => x.fmod z)) s := c2
  refine sif_no ?_
  have hne := ne_flat (d := .tup [.int (cs.map fun x => x.fdiv z).sum, .tup (dInts ((cs.filter fun x => decide (0 < x.fmod z)).map fun x => x.fmod z))]) (by simp [flaB, flasB, flats_ints]) s
  rw [ch1_ap, Ecall_ap, manyW_c, h10, bind_ok, manyW_c, h11, bind_ok, manyW_n, bind_ok, bind_ok, bind_ok, hcut, bind_ok, Etup_ap, manyW_c, Eblt_ap, manyW_c, Ecomp_ap, Ival_ap, h10, bind_ok, walk_lst, of_some, bind_ok]
  dsimp only
  rw [c1', unlk_same, bind_ok, mkC_f, bind_ok, manyW_n, bind_ok, bind_ok, sum_ints, bind_ok, mkC_f, bind_ok, manyW_c, Eblt_ap, manyW_c, Ecomp_ap, Ival_ap, h12, bind_ok, walk_lst, of_some, bind_ok]
  dsimp only
  rw [c2', unlk_same, bind_ok, mkC_f, bind_ok, manyW_n, bind_ok, bind_ok]
  have ht : tupleM [.lst (dInts ((cs.filter fun x => decide (0 < x.fmod z)).map fun x => x.fmod z))] s = .ok (.tup (dInts ((cs.filter fun x => decide (0 < x.fmod z)).map fun x => x.fmod z))) s := rfl
  rw [ht]
  exact hne
theorem abcd_len : ("abcd" : Str).length = 4 := by decide +kernel
theorem abcd_inj : ∀ i j, i < 4 → j < 4 → chrAt ("abcd" : Str) i = chrAt ("abcd" : Str) j → i = j := by
  intro i j hi hj
  have : ∀ i : Fin 4, ∀ j : Fin 4, chrAt ("abcd" : Str) i.1 = chrAt ("abcd" : Str) j.1 → i.1 = j.1 := by decide +kernel
  exact this ⟨i, hi⟩ ⟨j, hj⟩
theorem st17 (j : Nat) (hl : sl.length = 26) (h0 : ∀ s, slot 0 sl s = .ok (.ref 0) s) (a b k : Int) (r : List Cell) : ∃ (l : Ls) (a' b' k' : Int), (nmG l).Nodup ∧ (∀ p ∈ l, p.2.1.natAbs < 1000) ∧
    s_law_rest1_17 (lv P (j + 1)) sl ⟨dC a b k :: r, bs, []⟩ = .nx (sl.set 18 (some (.dk (dkG fL l)))) ⟨dC a' b' k' :: r, bs, []⟩ := by
  obtain ⟨n, a1, b1, k1, h1, h2⟩ := roll_x j (show (0 : Int) < 5 by decide) (by decide) a b k
  obtain ⟨ps, a2, b2, k2, h3, h4, h5⟩ := compL_drawz (r := r) (bs := bs) (i := 3) (sl := wipeS sl [21, 3]) (e := (Etup [(bin ixM (pureE (.str "abcd")) (slot 3)), (Etup [(Ebin .Add false (pureE (.int 1)) (Ecall ((lv P (j + 1)).call "_law_roll") [(slot 0), (pureE (.int 4))])), (Ecall ((lv P (j + 1)).call "_law_roll") [(slot 0), (pureE (.int 40))])])]))
    (fun i : Nat => D.int i) (fun i => i < 4) (fun i v => .tup [.str (chrAt "abcd" i), fL v]) (fun v : Int × Int => v.1.natAbs < 1000) (fun x hx a b k => by
      obtain ⟨v, a1, b1, k1, h1, h2⟩ := roll_x j (show (0 : Int) < 4 by decide) (by decide) a b k
      obtain ⟨u, a2, b2, k2, h3, h4⟩ := roll_x j (show (0 : Int) < 40 by decide) (by decide) a1 b1 k1
      have hix : ∀ s, getIx (.str "abcd") (.int x) s = some (.str (chrAt "abcd" x)) := fun s => ix_chr (by rw [abcd_len]; exact hx) s
      exact ⟨(1 + v, u), a2, b2, k2, by dsimp only; omega, by simp [h0, hl, h2, h4, hix, fL]⟩) (List.range n.toNat) a1 b1 k1 fun x hx => by
        rw [List.mem_range] at hx
        omega
  have e1 : nmG (ps.map fun p => (chrAt "abcd" p.1, p.2)) = (List.range n.toNat).map (chrAt "abcd") := by
    unfold nmG
    rw [← h3, List.map_map, List.map_map]
    rfl
  have hnd : (nmG (ps.map fun p => (chrAt "abcd" p.1, p.2))).Nodup := by
    rw [e1]
    exact chr_nd abcd_inj (by omega)
  refine ⟨ps.map fun p => (chrAt "abcd" p.1, p.2), a2, b2, k2, hnd, fun p hp => ?_, ?_⟩
  · obtain ⟨q, hq, e⟩ := List.mem_map.mp hp
    rw [← e]
    exact h4 q hq
  · have hdk := dict_dkG (f := fL) hnd ⟨dC a2 b2 k2 :: r, bs, []⟩
    rw [List.map_map] at hdk
    have h5' : compL (gName 3) Tall (Etup [(bin ixM (pureE (.str "abcd")) (slot 3)), (Etup [(Ebin .Add false (pureE (.int 1)) (Ecall ((lv P (j + 1)).call "_law_roll") [(slot 0), (pureE (.int 4))])), (Ecall ((lv P (j + 1)).call "_law_roll") [(slot 0), (pureE (.int 40))])])]) (wipeS sl [21, 3]) ((List.range n.toNat).map fun (i : Nat) => D.int i) ⟨dC a1 b1 k1 :: r, bs, []⟩ = .ok (ps.map ((fun x : Str × Int × Int => D.tup [.str x.1, fL x.2]) ∘ fun p => (chrAt "abcd" p.1, p.2))) ⟨dC a2 b2 k2 :: r, bs, []⟩ := h5
    have hr : rangeD [.int n] = some ((List.range n.toNat).map fun (i : Nat) => D.int i) := range1 h1.1 (by omega)
    unfold s_law_rest1_17
    rw [Sasg_ap, Eblt_ap, manyW_c, Ecomp_ap, Irng_ap, manyW_c, Ecall_ap, manyW_c, h0, bind_ok, manyW_c, pureE_ap, bind_ok, manyW_n, bind_ok, bind_ok, bind_ok, h2, bind_ok, manyW_n, bind_ok, bind_ok, hr, Option.map_some, of_some, bind_ok]
    dsimp only
    rw [h5', unlk_id _ _ _ (by rfl), bind_ok, mkC_f, bind_ok, manyW_n, bind_ok, bind_ok, hdk, bind_ok, mkC_f, sbind_ok, gName_ap, noErr_ok, sbind_ok]
theorem st18 (z : Lv) {l : Ls} (s : S) (hl : sl.length = 26) (h18 : ∀ s, slot 18 sl s = .ok (.dk (dkG fL l)) s) (hb : ∀ p ∈ l, p.2.1.natAbs < 1000) : s_law_rest1_18 z sl s = .nx (sl.set 13 (some (.lst ((sortBy (fun n => keyD (kn (kL l) n)) (nmG l)).map (kn (kL l)))))) s := by
  have hc := compL_map (sl := wipeS sl [21, 25]) (s := s) (g := gName 25) (t := Tall) (e := (Etup [(Ebin .Sub false (pureE (.int 0)) (Eblt maxM false [(pureE (.int 0)), (Ebin .Sub false (Ebin .Mult false (pureE (.int 10)) (bin ixM (bin ixM (slot 18) (slot 25)) (pureE (.int 0)))) (bin ixM (bin ixM (slot 18) (slot 25)) (pureE (.int 1))))])), (slot 25)])) D.str (fun _ => true) (kn (kL l)) (nmG l) fun n hn => ⟨(wipeS sl [21, 25]).set 25 (some (.str n)), by simp, rfl, fun _ => key_run (i := 18) (m := 25) (fun s => by simp [hl, h18]) (fun s => by simp [hl]) hn hb s⟩
  rw [filt] at hc
  unfold s_law_rest1_18
  rw [Sasg_ap, Esort_ap, Sval_ap, Ecomp_ap, Ival_ap, h18, bind_ok, walk_dkG, of_some, bind_ok]
  dsimp only
  rw [hc, unlk_same, bind_ok, mkC_f, bind_ok]
  have ht : takeD (.lst ((nmG l).map (kn (kL l)))) s = some ((nmG l).map (kn (kL l))) := rfl
  rw [ht, of_some, bind_ok, sort_kn]
  rfl
theorem st19 (j : Nat) {l : Ls} (s : S) (h18 : ∀ s, slot 18 sl s = .ok (.dk (dkG fL l)) s) (h13 : ∀ s, slot 13 sl s = .ok (.lst ((sortBy (fun n => keyD (kn (kL l) n)) (nmG l)).map (kn (kL l)))) s) (hb : ∀ p ∈ l, p.2.1.natAbs < 1000) : s_law_rest1_19 (lv P (j + 1)) sl s = .nx sl s := by
  obtain ⟨b1, b2⟩ := bright (s := s) j l hb
  refine sif_no ?_
  by_cases e : l = []
  · have h1 := b1 e
    subst e
    have h2 : (sortBy (fun n => keyD (kn (kL []) n)) (nmG ([] : Ls))).map (kn (kL [])) = [] := rfl
    rw [h2] at h13
    simp [h18, h13, h1]
  · obtain ⟨m, h1, h2⟩ := b2 e
    have ne : nmG l ≠ [] := fun q => e (List.map_eq_nil_iff.mp q)
    obtain ⟨m', q, h3, h4⟩ := sort_least (f := kL l) ne
    have hm := h1.eq h4
    subst hm
    rw [h3, List.map_cons] at h13
    have g0 : ∀ s, getIx (.lst (kn (kL l) m :: q.map (kn (kL l)))) (.int 0) s = some (kn (kL l) m) := fun s => ix_hd _ _ s
    have g1 : ∀ s, getIx (kn (kL l) m) (.int 1) s = some (.str m) := fun s => rfl
    simp [h18, h13, h2, g0, g1]
theorem cases1 (j : Nat) (s : S) (hl : s.lk = []) : (lv P (j + 2)).call "_law_cases1" [] s = .ok (.bl true) s := by
  rw [q_law_cases1]
  have n0 : ∀ s : S, s.lk = [] → (lv P (j + 1)).new "OilLamp" [.int 0, .int 1] s = .err ⟨"BadLamp", none⟩ s := fun s hs => by
    rw [new_lamp j hs]
    simp
  simp [defC_eq, cans_none, cut_none, nights_neg, n0, hl]
end
end LW
set_option Elab.async false
set_option linter.all false
set_option maxRecDepth 1000000
set_option maxHeartbeats 2000000
namespace LW
open PySem PySem.Spec PyProof.Rows L2 AL
section
variable {bs : List Nat}
theorem run_nx {f : MS} {fs : List MS} {sl sl' : Sl} {s s' : S} {X : RS} (h : f sl s = .nx sl' s') (h2 : runW fs sl' s' = X) : runW (f :: fs) sl s = X := by
  rw [runW_c, h, then_nx, h2]
theorem rest1_run (j : Nat) (X : Cell) (a b k : Int) : ∃ a' b' k' rows, b_law_rest1 (lv P (j + 2)) (some (.ref 0) :: List.replicate 25 none) ⟨[dC a b k, X], 2 :: bs, []⟩ = .rt (.bl true) ⟨[dC a' b' k', X, .lst (pr rows)], 2 :: bs, []⟩ := by
  obtain ⟨c, a1, b1, k1, hc, h0⟩ := st0 (bs := 2 :: bs) (sl := [some (.ref 0), none, none, none, none, none, none, none, none, none, none, none, none, none, none, none, none, none, none, none, none, none, none, none, none, none]) (j + 1) X (fun s => rfl) a b k
  replace h0 : s_law_rest1_0 (lv P (j + 2)) [some (.ref 0), none, none, none, none, none, none, none, none, none, none, none, none, none, none, none, none, none, none, none, none, none, none, none, none, none] ⟨[dC a b k, X], 2 :: bs, []⟩ = .nx [some (.ref 0), some (.ref 2), some (.int c), none, none, none, none, none, none, none, none, none, none, none, none, none, none, none, none, none, none, none, none, none, none, none] ⟨[dC a1 b1 k1, X, .lst []], 2 :: bs, []⟩ := h0
  obtain ⟨rows, x3, x4, a2, b2, k2, hrn, hrb, h1⟩ := st1 (bs := 2 :: bs) (j + 1) X (some (.int c)) (List.replicate 21 none) none none a1 b1 k1
  replace h1 : s_law_rest1_1 (lv P (j + 2)) [some (.ref 0), some (.ref 2), some (.int c), none, none, none, none, none, none, none, none, none, none, none, none, none, none, none, none, none, none, none, none, none, none, none] ⟨[dC a1 b1 k1, X, .lst []], 2 :: bs, []⟩ = .nx [some (.ref 0), some (.ref 2), some (.int c), x3, x4, none, none, none, none, none, none, none, none, none, none, none, none, none, none, none, none, none, none, none, none, none] ⟨[dC a2 b2 k2, X, .lst (pr rows)], 2 :: bs, []⟩ := h1
  have hln := lack_nn hrb
  have hll : (lack rows).length = rows.length := List.length_map ..
  have hl0 := sum_nn _ fun x hx => (hln x hx).1
  have hl1 := sum_le 20 _ fun x hx => (hln x hx).2
  rw [hll] at hl1
  have h2 := st2 (bs := 2 :: bs) (sl := [some (.ref 0), some (.ref 2), some (.int c), x3, x4, none, none, none, none, none, none, none, none, none, none, none, none, none, none, none, none, none, none, none, none, none]) (lv P (j + 2)) X rows (dC a2 b2 k2) (fun s => rfl) rfl
  replace h2 : s_law_rest1_2 (lv P (j + 2)) [some (.ref 0), some (.ref 2), some (.int c), x3, x4, none, none, none, none, none, none, none, none, none, none, none, none, none, none, none, none, none, none, none, none, none] ⟨[dC a2 b2 k2, X, .lst (pr rows)], 2 :: bs, []⟩ = .nx [some (.ref 0), some (.ref 2), some (.int c), x3, x4, some (.int (lack rows).sum), none, none, none, none, none, none, none, none, none, none, none, none, none, none, none, none, none, none, none, none] ⟨[dC a2 b2 k2, X, .lst (pr rows)], 2 :: bs, []⟩ := h2
  have h3 := st3 (sl := [some (.ref 0), some (.ref 2), some (.int c), x3, x4, some (.int (lack rows).sum), none, none, none, none, none, none, none, none, none, none, none, none, none, none, none, none, none, none, none, none]) (lv P (j + 2)) (n := (lack rows).sum) (c := c) ⟨[dC a2 b2 k2, X, .lst (pr rows)], 2 :: bs, []⟩ (fun s => rfl) (fun s => rfl) hl0 (by omega) (by omega) (by omega)
  replace h3 : s_law_rest1_3 (lv P (j + 2)) [some (.ref 0), some (.ref 2), some (.int c), x3, x4, some (.int (lack rows).sum), none, none, none, none, none, none, none, none, none, none, none, none, none, none, none, none, none, none, none, none] ⟨[dC a2 b2 k2, X, .lst (pr rows)], 2 :: bs, []⟩ = .nx [some (.ref 0), some (.ref 2), some (.int c), x3, x4, some (.int (lack rows).sum), some (.int (manyC (lack rows).sum c)), none, none, none, none, none, none, none, none, none, none, none, none, none, none, none, none, none, none, none] ⟨[dC a2 b2 k2, X, .lst (pr rows)], 2 :: bs, []⟩ := h3
  have h4 := st4 (bs := 2 :: bs) (sl := [some (.ref 0), some (.ref 2), some (.int c), x3, x4, some (.int (lack rows).sum), some (.int (manyC (lack rows).sum c)), none, none, none, none, none, none, none, none, none, none, none, none, none, none, none, none, none, none, none]) (j + 1) X (dC a2 b2 k2) rows (c := c) (fun s => rfl) (fun s => rfl) (fun s => rfl) (fun s => rfl) hc.1 hc.2 hrn hrb
  obtain ⟨cans, a3, b3, k3, hcn, hcb, h5⟩ := st5 (bs := 2 :: bs) (sl := [some (.ref 0), some (.ref 2), some (.int c), x3, x4, some (.int (lack rows).sum), some (.int (manyC (lack rows).sum c)), none, none, none, none, none, none, none, none, none, none, none, none, none, none, none, none, none, none, none]) (j + 1) X rows (fun s => rfl) (fun s => rfl) rfl a2 b2 k2
  replace h5 : s_law_rest1_5 (lv P (j + 2)) [some (.ref 0), some (.ref 2), some (.int c), x3, x4, some (.int (lack rows).sum), some (.int (manyC (lack rows).sum c)), none, none, none, none, none, none, none, none, none, none, none, none, none, none, none, none, none, none, none] ⟨[dC a2 b2 k2, X, .lst (pr rows)], 2 :: bs, []⟩ = .nx [some (.ref 0), some (.ref 2), some (.int c), x3, x4, some (.int (lack rows).sum), some (.int (manyC (lack rows).sum c)), none, none, none, none, none, none, none, some (.lst (dInts cans)), none, none, some (.lst (dInts (lack rows))), none, none, none, none, none, none, none, none] ⟨[dC a3 b3 k3, X, .lst (pr rows)], 2 :: bs, []⟩ := h5
  have h6 := st6 (sl := [some (.ref 0), some (.ref 2), some (.int c), x3, x4, some (.int (lack rows).sum), some (.int (manyC (lack rows).sum c)), none, none, none, none, none, none, none, some (.lst (dInts cans)), none, none, some (.lst (dInts (lack rows))), none, none, none, none, none, none, none, none]) (lv P (j + 2)) (lk := lack rows) (cans := cans) ⟨[dC a3 b3 k3, X, .lst (pr rows)], 2 :: bs, []⟩ (fun s => rfl) (fun s => rfl) (fun s => rfl)
  replace h6 : s_law_rest1_6 (lv P (j + 2)) [some (.ref 0), some (.ref 2), some (.int c), x3, x4, some (.int (lack rows).sum), some (.int (manyC (lack rows).sum c)), none, none, none, none, none, none, none, some (.lst (dInts cans)), none, none, some (.lst (dInts (lack rows))), none, none, none, none, none, none, none, none] ⟨[dC a3 b3 k3, X, .lst (pr rows)], 2 :: bs, []⟩ = .nx [some (.ref 0), some (.ref 2), some (.int c), x3, x4, some (.int (lack rows).sum), some (.int (manyC (lack rows).sum c)), some (duP (lack rows) cans), none, none, none, none, none, none, some (.lst (dInts cans)), none, none, some (.lst (dInts (lack rows))), none, none, none, none, none, none, none, none] ⟨[dC a3 b3 k3, X, .lst (pr rows)], 2 :: bs, []⟩ := h6
  have h7 := st7 (sl := [some (.ref 0), some (.ref 2), some (.int c), x3, x4, some (.int (lack rows).sum), some (.int (manyC (lack rows).sum c)), some (duP (lack rows) cans), none, none, none, none, none, none, some (.lst (dInts cans)), none, none, some (.lst (dInts (lack rows))), none, none, none, none, none, none, none, none]) (j + 1) (lk := lack rows) (cans := cans) ⟨[dC a3 b3 k3, X, .lst (pr rows)], 2 :: bs, []⟩ rfl (fun s => rfl) (fun s => rfl) (fun s => rfl) (by omega) (fun x hx => (hln x hx).1) (fun x hx => (hcb x hx).1)
  obtain ⟨hs, e, o, a4, b4, k4, hsn, hsb, he, ho, h8⟩ := st8 (bs := 2 :: bs) (sl := [some (.ref 0), some (.ref 2), some (.int c), x3, x4, some (.int (lack rows).sum), some (.int (manyC (lack rows).sum c)), some (duP (lack rows) cans), none, none, none, none, none, none, some (.lst (dInts cans)), none, none, some (.lst (dInts (lack rows))), none, none, none, none, none, none, none, none]) (j + 1) (fun s => rfl) rfl a3 b3 k3 [X, .lst (pr rows)]
  replace h8 : s_law_rest1_8 (lv P (j + 2)) [some (.ref 0), some (.ref 2), some (.int c), x3, x4, some (.int (lack rows).sum), some (.int (manyC (lack rows).sum c)), some (duP (lack rows) cans), none, none, none, none, none, none, some (.lst (dInts cans)), none, none, some (.lst (dInts (lack rows))), none, none, none, none, none, none, none, none] ⟨[dC a3 b3 k3, X, .lst (pr rows)], 2 :: bs, []⟩ = .nx [some (.ref 0), some (.ref 2), some (.int c), x3, x4, some (.int (lack rows).sum), some (.int (manyC (lack rows).sum c)), some (.str "no way"), none, none, none, none, none, none, some (.lst (dInts cans)), some (.int e), some (.lst (dInts hs)), some (.lst (dInts (lack rows))), none, none, some (.int o), none, none, none, none, none] ⟨[dC a4 b4 k4, X, .lst (pr rows)], 2 :: bs, []⟩ := h8
  obtain ⟨d, x8, hd, h9⟩ := st9 (sl := [some (.ref 0), some (.ref 2), some (.int c), x3, x4, some (.int (lack rows).sum), some (.int (manyC (lack rows).sum c)), some (.str "no way"), none, none, none, none, none, none, some (.lst (dInts cans)), some (.int e), some (.lst (dInts hs)), some (.lst (dInts (lack rows))), none, none, some (.int o), none, none, none, none, none]) (lv P (j + 2)) (hs := hs) (e := e) (o := o) ⟨[dC a4 b4 k4, X, .lst (pr rows)], 2 :: bs, []⟩ rfl (fun s => rfl) (fun s => rfl) (fun s => rfl) rfl he.1 he.2 ho.1 ho.2 hsb hsn
  replace h9 : s_law_rest1_9 (lv P (j + 2)) [some (.ref 0), some (.ref 2), some (.int c), x3, x4, some (.int (lack rows).sum), some (.int (manyC (lack rows).sum c)), some (.str "no way"), none, none, none, none, none, none, some (.lst (dInts cans)), some (.int e), some (.lst (dInts hs)), some (.lst (dInts (lack rows))), none, none, some (.int o), none, none, none, none, none] ⟨[dC a4 b4 k4, X, .lst (pr rows)], 2 :: bs, []⟩ = .nx [some (.ref 0), some (.ref 2), some (.int c), x3, x4, some (.int (lack rows).sum), some (.int (manyC (lack rows).sum c)), some (d), x8, none, none, none, none, none, some (.lst (dInts cans)), some (.int e), some (.lst (dInts hs)), some (.lst (dInts (lack rows))), none, none, some (.int o), none, none, none, none, none] ⟨[dC a4 b4 k4, X, .lst (pr rows)], 2 :: bs, []⟩ := h9
  have h10 := st10 (sl := [some (.ref 0), some (.ref 2), some (.int c), x3, x4, some (.int (lack rows).sum), some (.int (manyC (lack rows).sum c)), some (d), x8, none, none, none, none, none, some (.lst (dInts cans)), some (.int e), some (.lst (dInts hs)), some (.lst (dInts (lack rows))), none, none, some (.int o), none, none, none, none, none]) (j + 1) hd ⟨[dC a4 b4 k4, X, .lst (pr rows)], 2 :: bs, []⟩ (fun s => rfl) (fun s => rfl) (fun s => rfl) (fun s => rfl) he.1 he.2 ho.1 ho.2 hsb hsn
  obtain ⟨h, a5, b5, k5, hh, h11⟩ := st11 (bs := 2 :: bs) (sl := [some (.ref 0), some (.ref 2), some (.int c), x3, x4, some (.int (lack rows).sum), some (.int (manyC (lack rows).sum c)), some (d), x8, none, none, none, none, none, some (.lst (dInts cans)), some (.int e), some (.lst (dInts hs)), some (.lst (dInts (lack rows))), none, none, some (.int o), none, none, none, none, none]) (j + 1) (fun s => rfl) a4 b4 k4 [X, .lst (pr rows)]
  replace h11 : s_law_rest1_11 (lv P (j + 2)) [some (.ref 0), some (.ref 2), some (.int c), x3, x4, some (.int (lack rows).sum), some (.int (manyC (lack rows).sum c)), some (d), x8, none, none, none, none, none, some (.lst (dInts cans)), some (.int e), some (.lst (dInts hs)), some (.lst (dInts (lack rows))), none, none, some (.int o), none, none, none, none, none] ⟨[dC a4 b4 k4, X, .lst (pr rows)], 2 :: bs, []⟩ = .nx [some (.ref 0), some (.ref 2), some (.int c), x3, x4, some (.int (lack rows).sum), some (.int (manyC (lack rows).sum c)), some (d), x8, none, none, none, none, none, some (.lst (dInts cans)), some (.int e), some (.lst (dInts hs)), some (.lst (dInts (lack rows))), none, some (.int h), some (.int o), none, none, none, none, none] ⟨[dC a5 b5 k5, X, .lst (pr rows)], 2 :: bs, []⟩ := h11
  have h12 := st12 (sl := [some (.ref 0), some (.ref 2), some (.int c), x3, x4, some (.int (lack rows).sum), some (.int (manyC (lack rows).sum c)), some (d), x8, none, none, none, none, none, some (.lst (dInts cans)), some (.int e), some (.lst (dInts hs)), some (.lst (dInts (lack rows))), none, some (.int h), some (.int o), none, none, none, none, none]) (lv P (j + 2)) (h := h) (o := o) ⟨[dC a5 b5 k5, X, .lst (pr rows)], 2 :: bs, []⟩ rfl (fun s => rfl) (fun s => rfl) hh
  replace h12 : s_law_rest1_12 (lv P (j + 2)) [some (.ref 0), some (.ref 2), some (.int c), x3, x4, some (.int (lack rows).sum), some (.int (manyC (lack rows).sum c)), some (d), x8, none, none, none, none, none, some (.lst (dInts cans)), some (.int e), some (.lst (dInts hs)), some (.lst (dInts (lack rows))), none, some (.int h), some (.int o), none, none, none, none, none] ⟨[dC a5 b5 k5, X, .lst (pr rows)], 2 :: bs, []⟩ = .nx [some (.ref 0), some (.ref 2), some (.int c), x3, x4, some (.int (lack rows).sum), some (.int (manyC (lack rows).sum c)), some (d), x8, some (.lst (dInts (bestL h o))), none, none, none, none, some (.lst (dInts cans)), some (.int e), some (.lst (dInts hs)), some (.lst (dInts (lack rows))), none, some (.int h), some (.int o), none, none, none, none, none] ⟨[dC a5 b5 k5, X, .lst (pr rows)], 2 :: bs, []⟩ := h12
  have h13 := st13 (sl := [some (.ref 0), some (.ref 2), some (.int c), x3, x4, some (.int (lack rows).sum), some (.int (manyC (lack rows).sum c)), some (d), x8, some (.lst (dInts (bestL h o))), none, none, none, none, some (.lst (dInts cans)), some (.int e), some (.lst (dInts hs)), some (.lst (dInts (lack rows))), none, some (.int h), some (.int o), none, none, none, none, none]) (j + 1) (h := h) (o := o) ⟨[dC a5 b5 k5, X, .lst (pr rows)], 2 :: bs, []⟩ (fun s => rfl) (fun s => rfl) (fun s => rfl) hh
  obtain ⟨cs, z, a6, b6, k6, hcsn, hcsb, hz, h14⟩ := st14 (bs := 2 :: bs) (sl := [some (.ref 0), some (.ref 2), some (.int c), x3, x4, some (.int (lack rows).sum), some (.int (manyC (lack rows).sum c)), some (d), x8, some (.lst (dInts (bestL h o))), none, none, none, none, some (.lst (dInts cans)), some (.int e), some (.lst (dInts hs)), some (.lst (dInts (lack rows))), none, some (.int h), some (.int o), none, none, none, none, none]) (j + 1) (fun s => rfl) a5 b5 k5 [X, .lst (pr rows)]
  replace h14 : s_law_rest1_14 (lv P (j + 2)) [some (.ref 0), some (.ref 2), some (.int c), x3, x4, some (.int (lack rows).sum), some (.int (manyC (lack rows).sum c)), some (d), x8, some (.lst (dInts (bestL h o))), none, none, none, none, some (.lst (dInts cans)), some (.int e), some (.lst (dInts hs)), some (.lst (dInts (lack rows))), none, some (.int h), some (.int o), none, none, none, none, none] ⟨[dC a5 b5 k5, X, .lst (pr rows)], 2 :: bs, []⟩ = .nx [some (.ref 0), some (.ref 2), some (.int c), x3, x4, some (.int (lack rows).sum), some (.int (manyC (lack rows).sum c)), some (d), x8, some (.lst (dInts (bestL h o))), some (.lst (dInts cs)), some (.int z), none, none, some (.lst (dInts cans)), some (.int e), some (.lst (dInts hs)), some (.lst (dInts (lack rows))), none, some (.int h), some (.int o), none, none, none, none, none] ⟨[dC a6 b6 k6, X, .lst (pr rows)], 2 :: bs, []⟩ := h14
  have h15 := st15 (sl := [some (.ref 0), some (.ref 2), some (.int c), x3, x4, some (.int (lack rows).sum), some (.int (manyC (lack rows).sum c)), some (d), x8, some (.lst (dInts (bestL h o))), some (.lst (dInts cs)), some (.int z), none, none, some (.lst (dInts cans)), some (.int e), some (.lst (dInts hs)), some (.lst (dInts (lack rows))), none, some (.int h), some (.int o), none, none, none, none, none]) (lv P (j + 2)) (cs := cs) (z := z) ⟨[dC a6 b6 k6, X, .lst (pr rows)], 2 :: bs, []⟩ rfl (fun s => rfl) (fun s => rfl) hz
  replace h15 : s_law_rest1_15 (lv P (j + 2)) [some (.ref 0), some (.ref 2), some (.int c), x3, x4, some (.int (lack rows).sum), some (.int (manyC (lack rows).sum c)), some (d), x8, some (.lst (dInts (bestL h o))), some (.lst (dInts cs)), some (.int z), none, none, some (.lst (dInts cans)), some (.int e), some (.lst (dInts hs)), some (.lst (dInts (lack rows))), none, some (.int h), some (.int o), none, none, none, none, none] ⟨[dC a6 b6 k6, X, .lst (pr rows)], 2 :: bs, []⟩ = .nx [some (.ref 0), some (.ref 2), some (.int c), x3, x4, some (.int (lack rows).sum), some (.int (manyC (lack rows).sum c)), some (d), x8, some (.lst (dInts (bestL h o))), some (.lst (dInts cs)), some (.int z), some (.lst (dInts (cs.map fun x => x.fmod z))), none, some (.lst (dInts cans)), some (.int e), some (.lst (dInts hs)), some (.lst (dInts (lack rows))), none, some (.int h), some (.int o), none, none, none, none, none] ⟨[dC a6 b6 k6, X, .lst (pr rows)], 2 :: bs, []⟩ := h15
  have h16 := st16 (sl := [some (.ref 0), some (.ref 2), some (.int c), x3, x4, some (.int (lack rows).sum), some (.int (manyC (lack rows).sum c)), some (d), x8, some (.lst (dInts (bestL h o))), some (.lst (dInts cs)), some (.int z), some (.lst (dInts (cs.map fun x => x.fmod z))), none, some (.lst (dInts cans)), some (.int e), some (.lst (dInts hs)), some (.lst (dInts (lack rows))), none, some (.int h), some (.int o), none, none, none, none, none]) (j + 1) (cs := cs) (z := z) ⟨[dC a6 b6 k6, X, .lst (pr rows)], 2 :: bs, []⟩ rfl (fun s => rfl) (fun s => rfl) (fun s => rfl) hz hcsn hcsb
  obtain ⟨l, a7, b7, k7, hnd, hlb, h17⟩ := st17 (bs := 2 :: bs) (sl := [some (.ref 0), some (.ref 2), some (.int c), x3, x4, some (.int (lack rows).sum), some (.int (manyC (lack rows).sum c)), some (d), x8, some (.lst (dInts (bestL h o))), some (.lst (dInts cs)), some (.int z), some (.lst (dInts (cs.map fun x => x.fmod z))), none, some (.lst (dInts cans)), some (.int e), some (.lst (dInts hs)), some (.lst (dInts (lack rows))), none, some (.int h), some (.int o), none, none, none, none, none]) (j + 1) rfl (fun s => rfl) a6 b6 k6 [X, .lst (pr rows)]
  replace h17 : s_law_rest1_17 (lv P (j + 2)) [some (.ref 0), some (.ref 2), some (.int c), x3, x4, some (.int (lack rows).sum), some (.int (manyC (lack rows).sum c)), some (d), x8, some (.lst (dInts (bestL h o))), some (.lst (dInts cs)), some (.int z), some (.lst (dInts (cs.map fun x => x.fmod z))), none, some (.lst (dInts cans)), some (.int e), some (.lst (dInts hs)), some (.lst (dInts (lack rows))), none, some (.int h), some (.int o), none, none, none, none, none] ⟨[dC a6 b6 k6, X, .lst (pr rows)], 2 :: bs, []⟩ = .nx [some (.ref 0), some (.ref 2), some (.int c), x3, x4, some (.int (lack rows).sum), some (.int (manyC (lack rows).sum c)), some (d), x8, some (.lst (dInts (bestL h o))), some (.lst (dInts cs)), some (.int z), some (.lst (dInts (cs.map fun x => x.fmod z))), none, some (.lst (dInts cans)), some (.int e), some (.lst (dInts hs)), some (.lst (dInts (lack rows))), some (.dk (dkG fL l)), some (.int h), some (.int o), none, none, none, none, none] ⟨[dC a7 b7 k7, X, .lst (pr rows)], 2 :: bs, []⟩ := h17
  have h18 := st18 (sl := [some (.ref 0), some (.ref 2), some (.int c), x3, x4, some (.int (lack rows).sum), some (.int (manyC (lack rows).sum c)), some (d), x8, some (.lst (dInts (bestL h o))), some (.lst (dInts cs)), some (.int z), some (.lst (dInts (cs.map fun x => x.fmod z))), none, some (.lst (dInts cans)), some (.int e), some (.lst (dInts hs)), some (.lst (dInts (lack rows))), some (.dk (dkG fL l)), some (.int h), some (.int o), none, none, none, none, none]) (lv P (j + 2)) (l := l) ⟨[dC a7 b7 k7, X, .lst (pr rows)], 2 :: bs, []⟩ rfl (fun s => rfl) hlb
  replace h18 : s_law_rest1_18 (lv P (j + 2)) [some (.ref 0), some (.ref 2), some (.int c), x3, x4, some (.int (lack rows).sum), some (.int (manyC (lack rows).sum c)), some (d), x8, some (.lst (dInts (bestL h o))), some (.lst (dInts cs)), some (.int z), some (.lst (dInts (cs.map fun x => x.fmod z))), none, some (.lst (dInts cans)), some (.int e), some (.lst (dInts hs)), some (.lst (dInts (lack rows))), some (.dk (dkG fL l)), some (.int h), some (.int o), none, none, none, none, none] ⟨[dC a7 b7 k7, X, .lst (pr rows)], 2 :: bs, []⟩ = .nx [some (.ref 0), some (.ref 2), some (.int c), x3, x4, some (.int (lack rows).sum), some (.int (manyC (lack rows).sum c)), some (d), x8, some (.lst (dInts (bestL h o))), some (.lst (dInts cs)), some (.int z), some (.lst (dInts (cs.map fun x => x.fmod z))), some (.lst ((sortBy (fun n => keyD (kn (kL l) n)) (nmG l)).map (kn (kL l)))), some (.lst (dInts cans)), some (.int e), some (.lst (dInts hs)), some (.lst (dInts (lack rows))), some (.dk (dkG fL l)), some (.int h), some (.int o), none, none, none, none, none] ⟨[dC a7 b7 k7, X, .lst (pr rows)], 2 :: bs, []⟩ := h18
  have h19 := st19 (sl := [some (.ref 0), some (.ref 2), some (.int c), x3, x4, some (.int (lack rows).sum), some (.int (manyC (lack rows).sum c)), some (d), x8, some (.lst (dInts (bestL h o))), some (.lst (dInts cs)), some (.int z), some (.lst (dInts (cs.map fun x => x.fmod z))), some (.lst ((sortBy (fun n => keyD (kn (kL l) n)) (nmG l)).map (kn (kL l)))), some (.lst (dInts cans)), some (.int e), some (.lst (dInts hs)), some (.lst (dInts (lack rows))), some (.dk (dkG fL l)), some (.int h), some (.int o), none, none, none, none, none]) (j + 1) (l := l) ⟨[dC a7 b7 k7, X, .lst (pr rows)], 2 :: bs, []⟩ (fun s => rfl) (fun s => rfl) hlb
  have h20 : s_law_rest1_20 (lv P (j + 2)) [some (.ref 0), some (.ref 2), some (.int c), x3, x4, some (.int (lack rows).sum), some (.int (manyC (lack rows).sum c)), some (d), x8, some (.lst (dInts (bestL h o))), some (.lst (dInts cs)), some (.int z), some (.lst (dInts (cs.map fun x => x.fmod z))), some (.lst ((sortBy (fun n => keyD (kn (kL l) n)) (nmG l)).map (kn (kL l)))), some (.lst (dInts cans)), some (.int e), some (.lst (dInts hs)), some (.lst (dInts (lack rows))), some (.dk (dkG fL l)), some (.int h), some (.int o), none, none, none, none, none] ⟨[dC a7 b7 k7, X, .lst (pr rows)], 2 :: bs, []⟩ = .nx [some (.ref 0), some (.ref 2), some (.int c), x3, x4, some (.int (lack rows).sum), some (.int (manyC (lack rows).sum c)), some (d), x8, some (.lst (dInts (bestL h o))), some (.lst (dInts cs)), some (.int z), some (.lst (dInts (cs.map fun x => x.fmod z))), some (.lst ((sortBy (fun n => keyD (kn (kL l) n)) (nmG l)).map (kn (kL l)))), some (.lst (dInts cans)), some (.int e), some (.lst (dInts hs)), some (.lst (dInts (lack rows))), some (.dk (dkG fL l)), some (.int h), some (.int o), none, none, none, none, none] ⟨[dC a7 b7 k7, X, .lst (pr rows)], 2 :: bs, []⟩ := by
    refine sif_no ?_
    have hc1 := cases1 j ⟨[dC a7 b7 k7, X, .lst (pr rows)], 2 :: bs, []⟩ rfl
    simp [hc1]
  refine ⟨a7, b7, k7, rows, ?_⟩
  refine run_nx h0 <| run_nx h1 <| run_nx h2 <| run_nx h3 <| run_nx h4 <| run_nx h5 <| run_nx h6 <| run_nx h7 <| run_nx h8 <| run_nx h9 <| run_nx h10 <| run_nx h11 <| run_nx h12 <| run_nx h13 <| run_nx h14 <| run_nx h15 <| run_nx h16 <| run_nx h17 <| run_nx h18 <| run_nx h19 <| run_nx h20 <| ?_
  rfl
theorem rest1 (j : Nat) (X : Cell) (a b k : Int) : ∃ a' b' k', (lv P (j + 3)).call "_law_rest1" [.ref 0] ⟨[dC a b k, X], bs, []⟩ = .ok (.bl true) ⟨[dC a' b' k', X], bs, []⟩ := by
  obtain ⟨a', b', k', rows, h⟩ := rest1_run (bs := bs) j X a b k
  refine ⟨a', b', k', ?_⟩
  rw [q_law_rest1, defC_eq, if_pos (by rfl)]
  have h' : b_law_rest1 (lv P (j + 2)) ([D.ref 0].map some ++ List.replicate (26 - [D.ref 0].length) none) (base ((⟨[dC a b k, X], bs, []⟩ : S).st.length :: (⟨[dC a b k, X], bs, []⟩ : S).bases) ⟨[dC a b k, X], bs, []⟩) = .rt (.bl true) ⟨[dC a' b' k', X, .lst (pr rows)], 2 :: bs, []⟩ := h
  rw [h', defR_cut (by rfl) (by rfl) (by rfl)]
  rfl
end
end LW
set_option Elab.async false
set_option linter.all false
set_option maxRecDepth 1000000
set_option maxHeartbeats 2000000
namespace LW
open PySem PySem.Spec PyProof.Rows L2 AL
section
variable {c0 : Cell} {sc : Option D} {room wick oil high : Int} {lit : Bool} {soot : Int} {x8 x9 x10 x11 x12 : Option D} {sort much : Int}
abbrev St (c0 : Cell) (room oil wick high : Int) (lit : Bool) (soot : Int) : S := ⟨[c0, .ins "OilLamp" (a_OilLamp room oil wick high lit soot)], [0], []⟩
abbrev SL (sc : Option D) (room wick oil high : Int) (lit : Bool) (soot : Int) (x8 x9 x10 x11 x12 x14 : Option D) : Sl := [sc, some (.ref 0), some (.int room), some (.int wick), some (.int oil), some (.int high), some (.bl lit), some (.int soot), x8, x9, x10, x11, x12, some (.ref 1), x14]
def Inv (oil wick high : Int) (lit : Bool) : Prop := 0 ≤ oil ∧ oil ≤ 1000 ∧ 0 ≤ wick ∧ (1 ≤ high ∧ high ≤ 4) ∧ (lit = true → 0 < oil ∧ 0 < wick)
@[simp] theorem vw_lamp : (D.ref 1).view (St c0 room oil wick high lit soot) = .obj "OilLamp" (a_OilLamp room oil wick high lit soot) := view_ins rfl
theorem pour_at (z : Lv) : defC 2 2 (b_OilLamp_pour z) [.ref 1, .int much] (St c0 room oil wick high lit soot) = if lit = true then .err ⟨"BadDeed", none⟩ (St c0 room oil wick high lit soot)
    else if much < 1 then .err ⟨"BadSize", none⟩ (St c0 room oil wick high lit soot)
    else if room < oil + much then .err ⟨"NoRoom", none⟩ (St c0 room oil wick high lit soot)
    else .ok .non (St c0 room (oil + much) wick high lit soot) := pour (q := 1) (s := St c0 room oil wick high lit soot) z (by simp) rfl much
theorem light_at (z : Lv) : defC 1 1 (b_OilLamp_light z) [.ref 1] (St c0 room oil wick high lit soot) = if lit = true then .err ⟨"BadDeed", none⟩ (St c0 room oil wick high lit soot)
    else if oil = 0 ∨ wick = 0 then .err ⟨"NoWay", none⟩ (St c0 room oil wick high lit soot)
    else .ok .non (St c0 room oil wick high true soot) := light (q := 1) (s := St c0 room oil wick high lit soot) z (by simp) rfl
theorem turn_at (z : Lv) : defC 2 2 (b_OilLamp_turn_wick z) [.ref 1, .int much] (St c0 room oil wick high lit soot) = if ¬(1 ≤ much ∧ much ≤ 4) then .err ⟨"BadSize", none⟩ (St c0 room oil wick high lit soot)
    else if much = high then .err ⟨"BadDeed", none⟩ (St c0 room oil wick high lit soot)
    else .ok .non (St c0 room oil wick much lit soot) := turn_wick (q := 1) (s := St c0 room oil wick high lit soot) z (by simp) rfl much
theorem blow_at (z : Lv) : defC 1 1 (b_OilLamp_blow_out z) [.ref 1] (St c0 room oil wick high lit soot) = if lit = false then .err ⟨"BadDeed", none⟩ (St c0 room oil wick high lit soot)
    else .ok .non (St c0 room oil wick high false soot) := blow_out (q := 1) (s := St c0 room oil wick high lit soot) z (by simp) rfl
theorem wipe_at (z : Lv) : defC 1 2 (b_OilLamp_wipe z) [.ref 1] (St c0 room oil wick high lit soot) = if lit = true ∨ soot = 0 then .err ⟨"BadDeed", none⟩ (St c0 room oil wick high lit soot)
    else .ok (.int soot) (St c0 room oil wick high lit 0) := wipe (q := 1) (s := St c0 room oil wick high lit soot) z (by simp) rfl
theorem shown_at (z : Lv) : defC 1 1 (b_OilLamp_shown z) [.ref 1] (St c0 room oil wick high lit soot) = .ok (.tup [.int oil, .int wick, .int high, .bl lit, .int soot]) (St c0 room oil wick high lit soot) := shown (q := 1) (s := St c0 room oil wick high lit soot) z (by simp)
theorem hour_at (z : Lv) : defC 1 4 (b_OilLamp_hour z) [.ref 1] (St c0 room oil wick high lit soot) = if lit = false then .ok (.int 0) (St c0 room oil wick high lit soot)
    else .ok (.int (hG oil high soot)) (St c0 room (oil - hB oil high) (hW wick high soot) high (!decide (oil - hB oil high = 0 ∨ hW wick high soot = 0)) (hS high soot)) := hour (q := 1) (s := St c0 room oil wick high lit soot) z (by simp) rfl
theorem left_at (z : Lv) (h : 1 ≤ high ∧ high ≤ 4) : defC 1 1 (b_OilLamp_hours_left z) [.ref 1] (St c0 room oil wick high lit soot) = .ok (.int (0 - (0 - oil).fdiv high)) (St c0 room oil wick high lit soot) := hours_left (q := 1) (s := St c0 room oil wick high lit soot) z (by simp) (by omega)
/-- what a turn leaves -/
def Turn (z : Lv) (sc : Option D) (c0 : Cell) (room oil wick high : Int) (lit : Bool) (soot : Int) (x8 x9 x10 x11 x12 : Option D) (much : Int) (r : RS) : Prop :=
  ∃ d x12' oil' wick' high' lit' soot', flaB 7 d = true ∧ Inv oil' wick' high' lit' ∧ r = .nx (SL sc room wick' oil' high' lit' soot' x8 x9 (some d) (some d) x12' (some (.int much))) (St c0 room oil' wick' high' lit' soot')
theorem trA (j : Nat) (h : sort < 2) (hr : room ≤ 1000) (I : Inv oil wick high lit) : Turn (lv P (j + 1)) sc c0 room oil wick high lit soot x8 (some (.int sort)) x10 x11 x12 much (s_law_0b2b1 (lv P (j + 1)) (SL sc room wick oil high lit soot x8 (some (.int sort)) x10 x11 x12 (some (.int much))) (St c0 room oil wick high lit soot)) := by
  obtain ⟨i1, i2, i3, i4, i5⟩ := I
  cases lit with
  | true => exact ⟨.str "deed", x12, oil, wick, high, true, soot, rfl, ⟨i1, i2, i3, i4, i5⟩, by simp [h, q_OilLamp_pour, pour_at]⟩
  | false =>
    by_cases h1 : much < 1
    · exact ⟨.str "size", x12, oil, wick, high, false, soot, rfl, ⟨i1, i2, i3, i4, i5⟩, by simp [h, q_OilLamp_pour, pour_at, h1]⟩
    · by_cases h2 : room < oil + much
      · exact ⟨.str "no room", x12, oil, wick, high, false, soot, rfl, ⟨i1, i2, i3, i4, i5⟩, by simp [h, q_OilLamp_pour, pour_at, h1, h2]⟩
      · exact ⟨.non, x12, oil + much, wick, high, false, soot, rfl, ⟨by omega, by omega, i3, i4, by simp⟩, by simp [h, q_OilLamp_pour, pour_at, h1, h2]⟩
theorem trB (j : Nat) (I : Inv oil wick high lit) : Turn (lv P (j + 1)) sc c0 room oil wick high lit soot x8 (some (.int 2)) x10 x11 x12 much (s_law_0b2b1 (lv P (j + 1)) (SL sc room wick oil high lit soot x8 (some (.int 2)) x10 x11 x12 (some (.int much))) (St c0 room oil wick high lit soot)) := by
  obtain ⟨i1, i2, i3, i4, i5⟩ := I
  cases lit with
  | true => exact ⟨.str "deed", x12, oil, wick, high, true, soot, rfl, ⟨i1, i2, i3, i4, i5⟩, by simp [q_OilLamp_light, light_at]⟩
  | false =>
    by_cases h1 : oil = 0
    · exact ⟨.str "no way", x12, oil, wick, high, false, soot, rfl, ⟨i1, i2, i3, i4, i5⟩, by simp [q_OilLamp_light, light_at, h1]⟩
    · by_cases h2 : wick = 0
      · exact ⟨.str "no way", x12, oil, wick, high, false, soot, rfl, ⟨i1, i2, i3, i4, i5⟩, by simp [q_OilLamp_light, light_at, h1, h2]⟩
      · exact ⟨.non, x12, oil, wick, high, true, soot, rfl, ⟨i1, i2, i3, i4, fun _ => ⟨by omega, by omega⟩⟩, by simp [q_OilLamp_light, light_at, h1, h2]⟩
theorem trC (j : Nat) (I : Inv oil wick high lit) : Turn (lv P (j + 1)) sc c0 room oil wick high lit soot x8 (some (.int 3)) x10 x11 x12 much (s_law_0b2b1 (lv P (j + 1)) (SL sc room wick oil high lit soot x8 (some (.int 3)) x10 x11 x12 (some (.int much))) (St c0 room oil wick high lit soot)) := by
  obtain ⟨i1, i2, i3, i4, i5⟩ := I
  by_cases h1 : 1 ≤ much
  · by_cases h2 : much ≤ 4
    · by_cases h3 : much = high
      · subst h3
        exact ⟨.str "deed", x12, oil, wick, much, lit, soot, rfl, ⟨i1, i2, i3, i4, i5⟩, by simp [q_OilLamp_turn_wick, turn_at, h1, h2]⟩
      · exact ⟨.non, x12, oil, wick, much, lit, soot, rfl, ⟨i1, i2, i3, ⟨h1, h2⟩, i5⟩, by simp [q_OilLamp_turn_wick, turn_at, h1, h2, h3]⟩
    · exact ⟨.str "size", x12, oil, wick, high, lit, soot, rfl, ⟨i1, i2, i3, i4, i5⟩, by simp [q_OilLamp_turn_wick, turn_at, h1, h2]⟩
  · exact ⟨.str "size", x12, oil, wick, high, lit, soot, rfl, ⟨i1, i2, i3, i4, i5⟩, by simp [q_OilLamp_turn_wick, turn_at, h1]⟩
theorem trE (j : Nat) (I : Inv oil wick high lit) : Turn (lv P (j + 1)) sc c0 room oil wick high lit soot x8 (some (.int 6)) x10 x11 x12 much (s_law_0b2b1 (lv P (j + 1)) (SL sc room wick oil high lit soot x8 (some (.int 6)) x10 x11 x12 (some (.int much))) (St c0 room oil wick high lit soot)) := by
  obtain ⟨i1, i2, i3, i4, i5⟩ := I
  cases lit with
  | true => exact ⟨.non, x12, oil, wick, high, false, soot, rfl, ⟨i1, i2, i3, i4, by simp⟩, by simp [q_OilLamp_blow_out, blow_at]⟩
  | false => exact ⟨.str "deed", x12, oil, wick, high, false, soot, rfl, ⟨i1, i2, i3, i4, by simp⟩, by simp [q_OilLamp_blow_out, blow_at]⟩
theorem trF (j : Nat) (h : 6 < sort) (I : Inv oil wick high lit) : Turn (lv P (j + 1)) sc c0 room oil wick high lit soot x8 (some (.int sort)) x10 x11 x12 much (s_law_0b2b1 (lv P (j + 1)) (SL sc room wick oil high lit soot x8 (some (.int sort)) x10 x11 x12 (some (.int much))) (St c0 room oil wick high lit soot)) := by
  obtain ⟨i1, i2, i3, i4, i5⟩ := I
  have g1 : ¬ sort < 2 := by omega
  have g2 : sort ≠ 2 := by omega
  have g3 : sort ≠ 3 := by omega
  have g4 : ¬ sort < 6 := by omega
  have g5 : sort ≠ 6 := by omega
  cases lit with
  | true => exact ⟨.str "deed", x12, oil, wick, high, true, soot, rfl, ⟨i1, i2, i3, i4, i5⟩, by simp [g1, g2, g3, g4, g5, q_OilLamp_wipe, wipe_at]⟩
  | false =>
    by_cases h1 : soot = 0
    · exact ⟨.str "deed", x12, oil, wick, high, false, soot, rfl, ⟨i1, i2, i3, i4, i5⟩, by simp [g1, g2, g3, g4, g5, q_OilLamp_wipe, wipe_at, h1]⟩
    · exact ⟨.int soot, x12, oil, wick, high, false, 0, rfl, ⟨i1, i2, i3, i4, i5⟩, by simp [g1, g2, g3, g4, g5, q_OilLamp_wipe, wipe_at, h1]⟩
end
end LW
set_option Elab.async false
set_option linter.all false
set_option maxRecDepth 1000000
set_option maxHeartbeats 2000000
namespace LW
open PySem PySem.Spec PyProof.Rows L2 AL
section
variable {c0 : Cell} {sc : Option D} {room wick oil high : Int} {lit : Bool} {soot : Int} {x8 x9 x10 x11 x12 : Option D} {sort much : Int}
theorem trD (j : Nat) (h : 3 < sort) (h6 : sort < 6) (I : Inv oil wick high lit) : Turn (lv P (j + 1)) sc c0 room oil wick high lit soot x8 (some (.int sort)) x10 x11 x12 much (s_law_0b2b1 (lv P (j + 1)) (SL sc room wick oil high lit soot x8 (some (.int sort)) x10 x11 x12 (some (.int much))) (St c0 room oil wick high lit soot)) := by
  obtain ⟨i1, i2, i3, i4, i5⟩ := I
  have g1 : ¬ sort < 2 := by omega
  have g2 : sort ≠ 2 := by omega
  have g3 : sort ≠ 3 := by omega
  cases lit with
  | false => exact ⟨.int 0, x12, oil, wick, high, false, soot, rfl, ⟨i1, i2, i3, i4, i5⟩, by simp [g1, g2, g3, h6, q_OilLamp_hour, hour_at]⟩
  | true =>
    obtain ⟨p1, p2⟩ := i5 rfl
    have hmin : ∀ s, minM [.int oil, .int high] s = .ok (.int (hB oil high)) s := fun s => rfl
    have hmul : ∀ x s, binD .Mult (.int 10) (.int x) s = .ok (.int (x * 10)) s := fun x s => by rw [mul_int s (.inl (by decide)), Int.mul_comm]
    have hmod : ∀ x s, binD .Mod (.int x) (.int 2) s = .ok (.int (x.fmod 2)) s := fun x s => mod_int s (by decide)
    have hmax : ∀ s, maxM [.int 0, .int (hB oil high * 10 - soot)] s = .ok (.int (hG oil high soot)) s := fun s => rfl
    have hb : 1 ≤ hB oil high ∧ hB oil high ≤ oil := by
      unfold hB
      split <;> omega
    have hw0 : 0 ≤ hW wick high soot := by
      unfold hW
      split <;> omega
    have hsix : ∀ s, getIx (.lst [.int 0, .int 0, .int 0, .int 1, .int 2]) (.int high) s = some (.int (hS high 0)) := fun s => by
      have : high = 1 ∨ high = 2 ∨ high = 3 ∨ high = 4 := by omega
      rcases this with q | q | q | q <;> subst q <;> rfl
    have hsa : soot + hS high 0 = hS high soot := by
      unfold hS
      split <;> omega
    refine ⟨.int (hG oil high soot), some (.int (hB oil high)), oil - hB oil high, hW wick high soot, high, !decide (oil - hB oil high = 0 ∨ hW wick high soot = 0), hS high soot, rfl, ⟨by omega, by omega, hw0, i4, fun q => ?_⟩, ?_⟩
    · have : ¬(oil - hB oil high = 0 ∨ hW wick high soot = 0) := by simpa using q
      constructor <;> omega
    have e1 : s_law_0b2b1o0o0o0a0 (lv P (j + 1)) (SL sc room wick oil high true soot x8 (some (.int sort)) x10 x11 x12 (some (.int much))) (St c0 room oil wick high true soot) = .nx (SL sc room wick oil high true soot x8 (some (.int sort)) (some (.int 0)) (some (.int (hG oil high soot))) x12 (some (.int much))) (St c0 room (oil - hB oil high) (hW wick high soot) high (!decide (oil - hB oil high = 0 ∨ hW wick high soot = 0)) (hS high soot)) := by
      simp [q_OilLamp_hour, hour_at]
    have hlw : ∀ S, (s_law_0b2b1o0o0o0a1a3 (lv P (j + 1))) (SL sc room wick (oil - hB oil high) high true (hS high soot) x8 (some (.int sort)) (some (.int (hG oil high soot))) (some (.int (hG oil high soot))) (some (.int (hB oil high))) (some (.int much))) S = .nx (SL sc room (hW wick high soot) (oil - hB oil high) high true (hS high soot) x8 (some (.int sort)) (some (.int (hG oil high soot))) (some (.int (hG oil high soot))) (some (.int (hB oil high))) (some (.int much))) S := fun S => by
      by_cases q1 : 2 < high
      · have q1' : 0 < high - 2 := by omega
        have q2 : hS high soot = soot + (high - 2) := if_pos q1'
        by_cases q3 : (soot + (high - 2)).fmod 2 = 0
        · have q4 : hW wick high soot = wick - 1 := if_pos ⟨q1', q3⟩
          rw [q4, q2]
          simp [hmod, q1, q3]
        · have q4 : hW wick high soot = wick := if_neg fun z => q3 z.2
          rw [q4, q2]
          simp [hmod, q1, q3]
      · have q1' : ¬ 0 < high - 2 := by omega
        have q4 : hW wick high soot = wick := if_neg fun z => q1' z.1
        rw [q4]
        simp [hmod, q1]
    have hll : ∀ S, (s_law_0b2b1o0o0o0a1a4 (lv P (j + 1))) (SL sc room (hW wick high soot) (oil - hB oil high) high true (hS high soot) x8 (some (.int sort)) (some (.int (hG oil high soot))) (some (.int (hG oil high soot))) (some (.int (hB oil high))) (some (.int much))) S = .nx (SL sc room (hW wick high soot) (oil - hB oil high) high (!decide (oil - hB oil high = 0 ∨ hW wick high soot = 0)) (hS high soot) x8 (some (.int sort)) (some (.int (hG oil high soot))) (some (.int (hG oil high soot))) (some (.int (hB oil high))) (some (.int much))) S := fun S => by
      by_cases q1 : oil - hB oil high = 0
      · have : ¬ 0 < oil - hB oil high := by omega
        simp [-Int.sub_pos, q1, this]
      · have q1' : 0 < oil - hB oil high := by omega
        by_cases q2 : hW wick high soot = 0
        · simp [-Int.sub_pos, q1, q1', q2]
        · have q2' : 0 < hW wick high soot := by omega
          simp [-Int.sub_pos, q1, q1', q2, q2']
    have e2 : s_law_0b2b1o0o0o0a1 (lv P (j + 1)) (SL sc room wick oil high true soot x8 (some (.int sort)) (some (.int 0)) (some (.int (hG oil high soot))) x12 (some (.int much))) (St c0 room (oil - hB oil high) (hW wick high soot) high (!decide (oil - hB oil high = 0 ∨ hW wick high soot = 0)) (hS high soot)) = .nx (SL sc room (hW wick high soot) (oil - hB oil high) high (!decide (oil - hB oil high = 0 ∨ hW wick high soot = 0)) (hS high soot) x8 (some (.int sort)) (some (.int (hG oil high soot))) (some (.int (hG oil high soot))) (some (.int (hB oil high))) (some (.int much))) (St c0 room (oil - hB oil high) (hW wick high soot) high (!decide (oil - hB oil high = 0 ∨ hW wick high soot = 0)) (hS high soot)) := by
      have a0 : ∀ S, s_law_0b2b1o0o0o0a1a0 (lv P (j + 1)) (SL sc room wick oil high true soot x8 (some (.int sort)) (some (.int 0)) (some (.int (hG oil high soot))) x12 (some (.int much))) S = .nx (SL sc room wick oil high true soot x8 (some (.int sort)) (some (.int 0)) (some (.int (hG oil high soot))) (some (.int (hB oil high))) (some (.int much))) S := fun S => by
        simp [-min2, hmin]
      have a1 : ∀ S, s_law_0b2b1o0o0o0a1a1 (lv P (j + 1)) (SL sc room wick oil high true soot x8 (some (.int sort)) (some (.int 0)) (some (.int (hG oil high soot))) (some (.int (hB oil high))) (some (.int much))) S = .nx (SL sc room wick (oil - hB oil high) high true soot x8 (some (.int sort)) (some (.int (hG oil high soot))) (some (.int (hG oil high soot))) (some (.int (hB oil high))) (some (.int much))) S := fun S => by
        simp [-max2, hmul, hmax]
      have a2 : ∀ S, s_law_0b2b1o0o0o0a1a2 (lv P (j + 1)) (SL sc room wick (oil - hB oil high) high true soot x8 (some (.int sort)) (some (.int (hG oil high soot))) (some (.int (hG oil high soot))) (some (.int (hB oil high))) (some (.int much))) S = .nx (SL sc room wick (oil - hB oil high) high true (hS high soot) x8 (some (.int sort)) (some (.int (hG oil high soot))) (some (.int (hG oil high soot))) (some (.int (hB oil high))) (some (.int much))) S := fun S => by
        simp [hsix, hsa]
      unfold s_law_0b2b1o0o0o0a1
      rw [Sif_ap]
      have ht : truM (slot 6) (SL sc room wick oil high true soot x8 (some (.int sort)) (some (.int 0)) (some (.int (hG oil high soot))) x12 (some (.int much))) (St c0 room (oil - hB oil high) (hW wick high soot) high (!decide (oil - hB oil high = 0 ∨ hW wick high soot = 0)) (hS high soot)) = .ok true (St c0 room (oil - hB oil high) (hW wick high soot) high (!decide (oil - hB oil high = 0 ∨ hW wick high soot = 0)) (hS high soot)) := by simp
      rw [ht, sbind_ok, if_pos rfl]
      unfold w_law_0b2b1o0o0o0a1a
      exact run_nx (a0 _) <| run_nx (a1 _) <| run_nx (a2 _) <| run_nx (hlw _) <| run_nx (hll _) rfl
    have e3 : w_law_0b2b1o0o0o0a (lv P (j + 1)) (SL sc room wick oil high true soot x8 (some (.int sort)) x10 x11 x12 (some (.int much))) (St c0 room oil wick high true soot) = .nx (SL sc room (hW wick high soot) (oil - hB oil high) high (!decide (oil - hB oil high = 0 ∨ hW wick high soot = 0)) (hS high soot) x8 (some (.int sort)) (some (.int (hG oil high soot))) (some (.int (hG oil high soot))) (some (.int (hB oil high))) (some (.int much))) (St c0 room (oil - hB oil high) (hW wick high soot) high (!decide (oil - hB oil high = 0 ∨ hW wick high soot = 0)) (hS high soot)) := run_nx e1 <| run_nx e2 rfl
    have i0 : ∀ (t : MT) (x y : MS) sl s b r, t sl s = .ok b s → (if b = true then x sl s else y sl s) = r → Sif t x y sl s = r := fun t x y sl s b r q1 q2 => by rw [Sif_ap, q1, sbind_ok, q2]
    have r1 : ∀ (f : MS) sl s sl' s', f sl s = .nx sl' s' → runW [f] sl s = .nx sl' s' := fun f sl s sl' s' q => run_nx q rfl
    refine i0 _ _ _ _ _ false _ (by simp [g1]) ?_
    refine r1 _ _ _ _ _ (i0 _ _ _ _ _ false _ (by simp [g2]) ?_)
    refine r1 _ _ _ _ _ (i0 _ _ _ _ _ false _ (by simp [g3]) ?_)
    refine r1 _ _ _ _ _ (i0 _ _ _ _ _ true _ (by simp [h6]) ?_)
    exact e3
end
end LW
set_option Elab.async false
set_option linter.all false
set_option maxRecDepth 100000
set_option maxHeartbeats 4000000
/-! AL59: the frame of a law of one round. -/
namespace AL
open PySem PySem.Spec PyProof.Rows L2
theorem sif_no' {t : MT} {x : MS} {sl : Sl} {s s1 : S} (h : t sl s = .ok false s1) : Sif t x (runW []) sl s = .nx sl s1 := by
  rw [Sif_ap, h]
  rfl
theorem cells1 (ns : List Int) : ∃ c, cellsOf ns 1 = [c] := by
  cases ns with
  | nil => exact ⟨0, rfl⟩
  | cons x l => exact ⟨x, rfl⟩
theorem law_frame {cl : List D → S → R D} {w : MS} {n : Nat} {ns : List Int} (c : Int) (hro : cl [.lst (ns.map .int), .int 1] ⟨[], [0], []⟩ = .ok (.lst [.ref 0]) ⟨[diceC c], [0], []⟩)
    (hb : ∃ sl2 r, w (some (.lst (ns.map .int)) :: some (.ref 0) :: List.replicate n none) ⟨[dC (diceA c) (diceB c) (diceK c)], [0], []⟩ = .nx sl2 ⟨r, [0], []⟩) :
    isT (defC 1 (n + 2) (runW [Sfor (Ival (Ecall cl [slot 0, pureE (.int 1)])) (gName 1) w, Sret (pureE (.bl true))]) [.lst (ns.map .int)] S0) = true := by
  obtain ⟨sl2, r, hb⟩ := hb
  have hf : forL (fun d sl s => (gName 1 d sl s).noErr) w [.ref 0] (some (.lst (ns.map .int)) :: none :: List.replicate n none) ⟨[diceC c], [0], []⟩ = .nx sl2 ⟨r, [0], []⟩ := by
    unfold forL
    rw [gName_ap, noErr_ok, sbind_ok]
    show (match w (some (.lst (ns.map .int)) :: some (.ref 0) :: List.replicate n none) ⟨[dC (diceA c) (diceB c) (diceK c)], [0], []⟩ with
      | .nx sl2 s2 => forL _ w [] sl2 s2
      | .ct sl2 s2 => forL _ w [] sl2 s2
      | .bk sl2 s2 => .nx sl2 s2
      | r => r) = _
    rw [hb]
    rfl
  have hr : runW [Sfor (Ival (Ecall cl [slot 0, pureE (.int 1)])) (gName 1) w, Sret (pureE (.bl true))] (some (.lst (ns.map .int)) :: none :: List.replicate n none) ⟨[], [0], []⟩ = .rt (.bl true) ⟨r, [0], []⟩ := by
    rw [runW_c, Sfor_ap, Ival_ap, Ecall_ap, manyW_c, slot_0, bind_ok, manyW_c, pureE_ap, bind_ok, manyW_n, bind_ok, bind_ok, bind_ok, hro, bind_ok, walk_lst, of_some, sbind_ok]
    dsimp only
    rw [hf, unlkS_nx _ _ _ (by rfl), then_nx]
    rfl
  have h := defC_rt (np := 1) (n := n + 2) (b := runW [Sfor (Ival (Ecall cl [slot 0, pureE (.int 1)])) (gName 1) w, Sret (pureE (.bl true))]) (ds := [.lst (ns.map .int)]) (s := S0) (s1 := ⟨r, [0], []⟩) (d := .bl true) rfl hr rfl rfl rfl
  rw [h]
  rfl
end AL
set_option Elab.async false
set_option linter.all false
set_option maxRecDepth 1000000
set_option maxHeartbeats 2000000
namespace LW
open PySem PySem.Spec PyProof.Rows L2 AL
section
variable {c0 : Cell} {sc : Option D} {room wick oil high : Int} {lit : Bool} {soot : Int} {x8 x9 x10 x11 x12 x14 : Option D}
theorem tr (j : Nat) (sort much : Int) (h0 : 0 ≤ sort ∧ sort < 8) (hr : room ≤ 1000) (I : Inv oil wick high lit) : Turn (lv P (j + 1)) sc c0 room oil wick high lit soot x8 (some (.int sort)) x10 x11 x12 much (s_law_0b2b1 (lv P (j + 1)) (SL sc room wick oil high lit soot x8 (some (.int sort)) x10 x11 x12 (some (.int much))) (St c0 room oil wick high lit soot)) := by
  by_cases h2 : sort < 2
  · exact trA j h2 hr I
  · by_cases h3 : sort = 2
    · subst h3
      exact trB j I
    · by_cases h4 : sort = 3
      · subst h4
        exact trC j I
      · by_cases h5 : sort < 6
        · exact trD j (by omega) h5 I
        · by_cases h6 : sort = 6
          · subst h6
            exact trE j I
          · exact trF j (by omega) I
theorem turn (j : Nat) (hr : room ≤ 1000) (I : Inv oil wick high lit) (a b k : Int) : ∃ y9 y10 y11 y12 y14 oil' wick' high' lit' soot' a' b' k', Inv oil' wick' high' lit' ∧
    w_law_0b2b (lv P (j + 1)) (SL sc room wick oil high lit soot x8 x9 x10 x11 x12 x14) (St (dC a b k) room oil wick high lit soot) = .nx (SL sc room wick' oil' high' lit' soot' x8 y9 y10 y11 y12 y14) (St (dC a' b' k') room oil' wick' high' lit' soot') := by
  obtain ⟨so, a1, b1, k1, h1, h2⟩ := roll_x j (show (0 : Int) < 8 by decide) (by decide) a b k
  obtain ⟨mu, a2, b2, k2, h3, h4⟩ := roll_x j (show (0 : Int) < 12 by decide) (by decide) a1 b1 k1
  obtain ⟨d, y12, oil', wick', high', lit', soot', hd, I', ht⟩ := tr (sc := sc) (c0 := dC a2 b2 k2) (soot := soot) (x8 := x8) (x10 := x10) (x11 := x11) (x12 := x12) j so mu h1 hr I
  refine ⟨some (.int so), some d, some d, y12, some (.int mu), oil', wick', high', lit', soot', a2, b2, k2, I', ?_⟩
  have e0 : s_law_0b2b0 (lv P (j + 1)) (SL sc room wick oil high lit soot x8 x9 x10 x11 x12 x14) (St (dC a b k) room oil wick high lit soot) = .nx (SL sc room wick oil high lit soot x8 (some (.int so)) x10 x11 x12 (some (.int mu))) (St (dC a2 b2 k2) room oil wick high lit soot) := by
    simp [h2, h4]
  have e2 : s_law_0b2b2 (lv P (j + 1)) (SL sc room wick' oil' high' lit' soot' x8 (some (.int so)) (some d) (some d) y12 (some (.int mu))) (St (dC a2 b2 k2) room oil' wick' high' lit' soot') = .nx (SL sc room wick' oil' high' lit' soot' x8 (some (.int so)) (some d) (some d) y12 (some (.int mu))) (St (dC a2 b2 k2) room oil' wick' high' lit' soot') := by
    refine sif_no ?_
    have n1 := ne_flat hd (St (dC a2 b2 k2) room oil' wick' high' lit' soot')
    have n2 := ne_flat (d := .tup [.int oil', .int wick', .int high', .bl lit', .int soot']) rfl (St (dC a2 b2 k2) room oil' wick' high' lit' soot')
    simp [n1, n2, q_OilLamp_shown, shown_at]
  exact run_nx e0 <| run_nx ht <| run_nx e2 rfl
theorem turns (j : Nat) (hr : room ≤ 1000) : ∀ (l : List D) {x8 x9 x10 x11 x12 x14 : Option D} {oil wick high : Int} {lit : Bool} {soot : Int} (a b k : Int), Inv oil wick high lit → ∃ y8 y9 y10 y11 y12 y14 oil' wick' high' lit' soot' a' b' k', Inv oil' wick' high' lit' ∧
    forL (fun d sl s => (gName 8 d sl s).noErr) (w_law_0b2b (lv P (j + 1))) l (SL sc room wick oil high lit soot x8 x9 x10 x11 x12 x14) (St (dC a b k) room oil wick high lit soot) = .nx (SL sc room wick' oil' high' lit' soot' y8 y9 y10 y11 y12 y14) (St (dC a' b' k') room oil' wick' high' lit' soot')
  | [], x8, x9, x10, x11, x12, x14, oil, wick, high, lit, soot, a, b, k, I => ⟨x8, x9, x10, x11, x12, x14, oil, wick, high, lit, soot, a, b, k, I, rfl⟩
  | d :: l, x8, x9, x10, x11, x12, x14, oil, wick, high, lit, soot, a, b, k, I => by
    obtain ⟨y9, y10, y11, y12, y14, oil1, wick1, high1, lit1, soot1, a1, b1, k1, I1, h1⟩ := turn (sc := sc) (soot := soot) (x8 := some d) (x9 := x9) (x10 := x10) (x11 := x11) (x12 := x12) (x14 := x14) j hr I a b k
    obtain ⟨z8, z9, z10, z11, z12, z14, oil2, wick2, high2, lit2, soot2, a2, b2, k2, I2, h2⟩ := turns j hr l (x8 := some d) (x9 := y9) (x10 := y10) (x11 := y11) (x12 := y12) (x14 := y14) (soot := soot1) a1 b1 k1 I1
    refine ⟨z8, z9, z10, z11, z12, z14, oil2, wick2, high2, lit2, soot2, a2, b2, k2, I2, ?_⟩
    unfold forL
    rw [gName_ap, noErr_ok, sbind_ok]
    show (match w_law_0b2b (lv P (j + 1)) (SL sc room wick oil high lit soot (some d) x9 x10 x11 x12 x14) (St (dC a b k) room oil wick high lit soot) with
      | .nx sl2 s2 => forL (fun d sl s => (gName 8 d sl s).noErr) (w_law_0b2b (lv P (j + 1))) l sl2 s2
      | .ct sl2 s2 => forL (fun d sl s => (gName 8 d sl s).noErr) (w_law_0b2b (lv P (j + 1))) l sl2 s2
      | .bk sl2 s2 => .nx sl2 s2
      | r => r) = _
    rw [h1]
    exact h2
theorem law_body (j : Nat) (sc : D) (a b k : Int) : ∃ sl2 r, w_law_0b (lv P (j + 3)) (some sc :: some (.ref 0) :: List.replicate 13 none) ⟨[dC a b k], [0], []⟩ = .nx sl2 ⟨r, [0], []⟩ := by
  obtain ⟨ro, a1, b1, k1, h1, h2⟩ := roll_x (j + 2) (show (0 : Int) < 30 by decide) (by decide) a b k
  obtain ⟨wi, a2, b2, k2, h3, h4⟩ := roll_x (j + 2) (show (0 : Int) < 5 by decide) (by decide) a1 b1 k1
  obtain ⟨n, a3, b3, k3, h5, h6⟩ := roll_x (j + 2) (show (0 : Int) < 13 by decide) (by decide) a2 b2 k2
  obtain ⟨l, hl, hr⟩ := rg n h5.1 (by omega)
  have I0 : Inv 0 (1 + wi) 1 false := ⟨by decide, by decide, by omega, by decide, by simp⟩
  obtain ⟨y8, y9, y10, y11, y12, y14, oil, wick, high, lit, soot, a4, b4, k4, I, h7⟩ := turns (sc := some sc) (room := 1 + ro) (j + 2) (by omega) l (x8 := none) (x9 := none) (x10 := none) (x11 := none) (x12 := none) (x14 := none) (soot := 0) a3 b3 k3 I0
  obtain ⟨i1, i2, i3, i4, i5⟩ := I
  obtain ⟨a5, b5, k5, h8⟩ := rest1 (bs := [0]) j (.ins "OilLamp" (a_OilLamp (1 + ro) oil wick high lit soot)) a4 b4 k4
  have e0 : s_law_0b0 (lv P (j + 3)) [some sc, some (.ref 0), none, none, none, none, none, none, none, none, none, none, none, none, none] ⟨[dC a b k], [0], []⟩ = .nx [some sc, some (.ref 0), some (.int (1 + ro)), some (.int (1 + wi)), some (.int 0), some (.int 1), some (.bl false), some (.int 0), none, none, none, none, none, none, none] ⟨[dC a2 b2 k2], [0], []⟩ := by
    simp [h2, h4]
  have e1 : s_law_0b1 (lv P (j + 3)) [some sc, some (.ref 0), some (.int (1 + ro)), some (.int (1 + wi)), some (.int 0), some (.int 1), some (.bl false), some (.int 0), none, none, none, none, none, none, none] ⟨[dC a2 b2 k2], [0], []⟩ = .nx (SL (some sc) (1 + ro) (1 + wi) 0 1 false 0 none none none none none none) (St (dC a2 b2 k2) (1 + ro) 0 (1 + wi) 1 false 0) := by
    have hn := new_lamp (s := ⟨[dC a2 b2 k2], [0], []⟩) (j + 2) rfl (1 + ro) (1 + wi)
    have hm : ¬ (if 1 + wi < 1 + ro then 1 + wi else 1 + ro) < 1 := by split <;> omega
    rw [if_neg hm] at hn
    simp [hn]
  have e2 : s_law_0b2 (lv P (j + 3)) (SL (some sc) (1 + ro) (1 + wi) 0 1 false 0 none none none none none none) (St (dC a2 b2 k2) (1 + ro) 0 (1 + wi) 1 false 0) = .nx (SL (some sc) (1 + ro) wick oil high lit soot y8 y9 y10 y11 y12 y14) (St (dC a4 b4 k4) (1 + ro) oil wick high lit soot) := by
    have hi : Irng [Ecall ((lv P (j + 3)).call "_law_roll") [slot 1, pureE (.int 13)]] (SL (some sc) (1 + ro) (1 + wi) 0 1 false 0 none none none none none none) (St (dC a2 b2 k2) (1 + ro) 0 (1 + wi) 1 false 0) = .ok (l, St (dC a3 b3 k3) (1 + ro) 0 (1 + wi) 1 false 0) (St (dC a3 b3 k3) (1 + ro) 0 (1 + wi) 1 false 0) := by
      simp [h6, hr]
    unfold s_law_0b2
    rw [Sfor_ap, hi, sbind_ok]
    dsimp only
    rw [h7, unlkS_nx _ _ _ (by rfl)]
  have e3 : s_law_0b3 (lv P (j + 3)) (SL (some sc) (1 + ro) wick oil high lit soot y8 y9 y10 y11 y12 y14) (St (dC a4 b4 k4) (1 + ro) oil wick high lit soot) = .nx (SL (some sc) (1 + ro) wick oil high lit soot y8 y9 y10 y11 y12 y14) (St (dC a4 b4 k4) (1 + ro) oil wick high lit soot) := by
    refine sif_no ?_
    have hx := rangeX3 (a := 0) (b := oil) (c := high) (by omega) (by omega) (by omega) (by omega) (by omega) (by omega) (by omega)
    have hc := ceil_eq (n := oil) (c := high) i1 (by omega)
    have hla := left_at (c0 := dC a4 b4 k4) (room := 1 + ro) (oil := oil) (wick := wick) (lit := lit) (soot := soot) (lv P (j + 2)) i4
    rw [hc] at hla
    simp [q_OilLamp_hours_left, hla, hx]
  have e4 : s_law_0b4 (lv P (j + 3)) (SL (some sc) (1 + ro) wick oil high lit soot y8 y9 y10 y11 y12 y14) (St (dC a4 b4 k4) (1 + ro) oil wick high lit soot) = .nx (SL (some sc) (1 + ro) wick oil high lit soot y8 y9 y10 y11 y12 y14) (St (dC a5 b5 k5) (1 + ro) oil wick high lit soot) := by
    refine sif_no' ?_
    simp [h8]
  exact ⟨_, _, run_nx e0 <| run_nx e1 <| run_nx e2 <| run_nx e3 <| run_nx e4 rfl⟩
theorem main (ns : List Int) : isT (lawR P (7 + 1) ns) = true := by
  unfold lawR
  rw [q_law]
  obtain ⟨c, hc⟩ := cells1 ns
  have hro := rounds 5 ns 1 ⟨[], [0], []⟩
  rw [hc] at hro
  exact law_frame (n := 13) c hro (law_body 4 _ _ _ _)
end
end LW
set_option Elab.async false
set_option linter.all false
set_option maxRecDepth 1000000
set_option maxHeartbeats 0

namespace LW
open PySem PySem.Spec PyProof.Rows L2 AL
def loose : List Str := ["__name__", "LampFault", "BadLamp", "BadPlan", "BadSize", "NoSuch", "NoRoom", "NoWay", "BadText", "BadDeed", "OilLamp", "cans_for", "poured", "nights", "best_height", "wick_cut", "brightest", "_law_dice", "_law_roll", "_law_rounds", "_law_told", "_law_cases1", "_law_rest1"]
abbrev R : PySem.W.OpenRow := PySem.W.OpenLaw.row PySem.Challenge.rw_lamphall_k01_oils
abbrev fa : List He.Fa := faL P xs
abbrev fn : List He.DefD := dB body
abbrev tf : List He.Defn := (tBk tb body).map (·.1)
abbrev hk : PySem.W.Hook := He.hookX 6 fa fn [] tf (exL (tBk tb body))
def ob (s : PySem.W.SharedT) : He.AlX := He.obsX 6 fa fn [] tf (exL (tBk tb body)) (HandSHeadRun.getT s)
theorem ob_eq (s : PySem.W.SharedT) : ob s = hk.obs s.abs := He.obsX_eq (HandSHeadRun.getT_eq s)
theorem run (w : World) : HandSHeadRun.RunEq R (PySem.W.view R.prog [25]) hk ob 4000 loose w := by
  intro os
  kernel_rfl
theorem ok : okP body tb xs P = true := by kernel_rfl
abbrev st : Stmt := body.getD 25 (.Pass ⟨0, 0, 0, 0⟩)
theorem isd : isDef "law" st := ⟨_, _, _, _, _, _, _, _, _, rfl⟩
theorem hm : st ∈ body := by
  show body.getD 25 _ ∈ body
  rw [List.getD_eq_getElem?_getD, List.getElem?_eq_getElem (by decide +kernel)]
  exact List.getElem_mem _
theorem hf : lookF ("law" : Str) P.fns = some (fnOf (tb ("", "law")) st) := by kernel_rfl
theorem hps : (fnOf (tb ("", "law")) st).ps = [("script" : Str)] := by kernel_rfl
end LW
open PySem PySem.W PySem.Calls PyProof.Rows
set_option maxRecDepth 100000 in
set_option maxHeartbeats 8000000 in
theorem PySem.Challenge.cw_lamphall_k01_oils_holds : PySem.Challenge.rw_lamphall_k01_oils.Holds := by
  w_on; o_law
  refine HandSHeadRun.head_any (r := OpenLaw.row PySem.Challenge.rw_lamphall_k01_oils) (q := view (OpenLaw.row PySem.Challenge.rw_lamphall_k01_oils).prog [25]) (H := LW.hk) (ob := LW.ob) (M := 4000) (loose := LW.loose) (d := HandSHeadRun.topDef (OpenLaw.row PySem.Challenge.rw_lamphall_k01_oils).prog 25) (kwd := []) LW.ob_eq
    (by kernel_rfl) (fun s => by kernel_rfl) LW.run (by kernel_rfl) (by kernel_rfl) (by kernel_rfl) (by rfl) (by first | assumption | decide +kernel) (by decide +kernel) ⟨rfl, rfl, rfl, rfl, rfl, by decide +kernel⟩ ?hw ?hc
  case hw => w_witness2
  case hc =>
    refine LamX.walk_ofTsE (l := PySem.Challenge.rw_lamphall_k01_oils) (n := 63) (k := AL.lvN 7 + 6 + 1) (x := "script") (CX := fun w => L2.CX (PySem.Challenge.rw_lamphall_k01_oils).prog w) rfl (by decide) (by kernel_rfl) ⟨rfl, by decide, by decide⟩ ?F ?G
    case G =>
      intro w H s e s' z
      obtain ⟨_, _, _, _, _, _, _, _, _, _, _, _, z⟩ := z
      exact z
    intro w mg fa h Y G hmg0
    obtain ⟨K, KX, c⟩ := Y
    have hmg : mg ("law" : PySem.Str) = some (.ref fa) := by
      have e : (HandSHeadRun.topDef (OpenLaw.row PySem.Challenge.rw_lamphall_k01_oils).prog 25).name = ("law" : PySem.Str) := by kernel_rfl
      rw [← e]
      exact hmg0
    exact ⟨K, KX, AL.law_at (k := 7) rfl c KX G LW.ok LW.isd LW.hm LW.hf LW.hps hmg fun ns _ _ => LW.main ns⟩
