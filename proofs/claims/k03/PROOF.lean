import PyProof.Rows.All
import Wide.All
import OpenK.AllK
import Wide.FinOn
import KE.KStateDown
import HandS.ForMost
import HandS.Exc
import HandS.ExcOwn
import HandS.CallSlots
import HandS.TryOnly
import HandS.TryMany
import HandS.WordsExc
import HandS.Defaults
import HandS.Codes
import HandS.IsInst
import HandS.Flow
import HandS.Style
import HandS.TupAny
import HandS.HeadHook1
import HandS.HeadHook2
import HandS.HeadHook4
import HandS.Lambda
import HandS.AnyAll
import HandS.HeadWalk
import HandS.Deep
import HandS.TupLen
import HandS.Text
import HandS.Zip
import HandS.HeadEnd
import HandS.SetKeys
import HandS.Conv
import HandS.More
import HandS.DeepEq
import HandS.TupLe
import PyProof.NeKinds
import KE.LtData
import KE.SortKeyHeap
import HandS.Records
import HandS.Comp
import HandS.Iter
import KE.GoesComp
import HandS.StrMore
import HandS.ReplaceLit
import HandS.ForExc
import HandS.Head0
import HandS.Head1
import HandS.Head2
import PySem.Challenge.RW_deducehall_k03_signs_of_a_text
set_option Elab.async false
set_option linter.all false
set_option maxRecDepth 100000
set_option maxHeartbeats 0
namespace LM
open PyProof.Rows hiding St frameOf passOn
open PySem PySem.Spec L2

abbrev St := L2.St
/-! ## values, objects, states -/
inductive AV where
  | non | bl (b : Bool) | int (i : Int) | str (x : Str)
  | tup (xs : List AV) | ct (xs : List AV) | vl (xs : List AV) | cl (xs : List AV) | vd (t : Bool) (kvs : List (AV × AV)) | ob (c : Str) (fs : List (Str × AV))
  | ref (i : Nat)
inductive AO where
  | lst (xs : List AV) | dic (t : Bool) (kvs : List (AV × AV)) | ins (c : Str) (fs : List (Str × AV)) | lck (t : Bool) (kvs : List (AV × AV))
inductive SV where
  | val (v : AV) | own (o : AO)
abbrev AH := List AO
structure SS where
  sl : List (Option SV)
  hp : AH
inductive Res (α : Type) where
  | ok (a : α) (s : SS) | exn (c : Str) (s : SS) | stuck
abbrev M (α : Type) := SS → Res α
inductive Fl where
  | nx | rt (v : AV) | bk | ct
inductive RF where
  | ok (v : AV) (h : AH) | exn (c : Str) (h : AH) | stuck
abbrev MF := List AV → AH → RF
def AO.frz : AO → AV
  | .lst xs => .vl xs
  | .dic t kvs => .vd t kvs
  | .ins c fs => .ob c fs
  | .lck _ _ => .non
def AO.isl : AO → Bool
  | .lck _ _ => true
  | _ => false
/-- a dict that is locked by a loop is read as a dict -/
def AO.rd : AO → AO
  | .lck t kvs => .dic t kvs
  | o => o

def kOf : AV → Option Key
  | .int i => some (.inl i)
  | .str x => some (.inr x)
  | _ => none
def tkOf : AV → Option (List Key)
  | .tup xs => xs.mapM kOf
  | _ => none

/-! ## what stands for what -/
mutual
def Emb (K : PySem.W.Frag) (F : Hp) (ρ : List Addr) : AV → V → Prop
  | .non, v => v = .non
  | .bl b, v => v = .bl b
  | .int i, v => v = .int i
  | .str x, v => v = .str x
  | .tup xs, v => ∃ p vs, v = .ref p ∧ F p = some (.tup vs) ∧ EmbL K F ρ xs vs
  | .ct xs, v => ∃ p vs, v = .ref p ∧ SqT K (fun _ => none) p vs ∧ EmbL K F ρ xs vs
  | .vl xs, v => ∃ p vs, v = .ref p ∧ F p = some (.lst vs) ∧ EmbL K F ρ xs vs
  | .cl xs, v => ∃ p vs, v = .ref p ∧ SqL K F p vs ∧ EmbL K F ρ xs vs
  | .vd t kvs, v => ∃ p, v = .ref p ∧ ((t = false ∧ ∃ kv, F p = some (.dK kv) ∧ EmbK K F ρ kvs kv) ∨ (t = true ∧ ∃ kv, F p = some (.dT kv) ∧ EmbT K F ρ kvs kv))
  | .ob c fs, v => ∃ p dx fs', v = .ref p ∧ F p = some (.ins (He.ga K c) dx fs') ∧ EmbF K F ρ fs fs'
  | .ref i, v => ∃ p, v = .ref p ∧ ρ[i]? = some p
def EmbL (K : PySem.W.Frag) (F : Hp) (ρ : List Addr) : List AV → List V → Prop
  | [], vs => vs = []
  | x :: xs, vs => ∃ v r, vs = v :: r ∧ Emb K F ρ x v ∧ EmbL K F ρ xs r
def EmbK (K : PySem.W.Frag) (F : Hp) (ρ : List Addr) : List (AV × AV) → List (Key × V) → Prop
  | [], kv => kv = []
  | (k, x) :: r, kv => ∃ k' v r', kv = (k', v) :: r' ∧ kOf k = some k' ∧ Emb K F ρ x v ∧ EmbK K F ρ r r'
def EmbT (K : PySem.W.Frag) (F : Hp) (ρ : List Addr) : List (AV × AV) → List (List Key × V) → Prop
  | [], kv => kv = []
  | (k, x) :: r, kv => ∃ k' v r', kv = (k', v) :: r' ∧ tkOf k = some k' ∧ Emb K F ρ x v ∧ EmbT K F ρ r r'
def EmbF (K : PySem.W.Frag) (F : Hp) (ρ : List Addr) : List (Str × AV) → List (Str × V) → Prop
  | [], kv => kv = []
  | (k, x) :: r, kv => ∃ v r', kv = (k, v) :: r' ∧ Emb K F ρ x v ∧ EmbF K F ρ r r'
end
def EmbO (K : PySem.W.Frag) (F : Hp) (ρ : List Addr) (H : Hp) (p : Addr) : AO → Prop
  | .lst xs => ∃ vs, H p = some (.lst vs) ∧ EmbL K F ρ xs vs
  | .dic t kvs => (t = false ∧ ∃ kv, H p = some (.dK kv) ∧ EmbK K F ρ kvs kv) ∨ (t = true ∧ ∃ kv, H p = some (.dT kv) ∧ EmbT K F ρ kvs kv)
  | .ins c fs => ∃ dx fs', H p = some (.ins (He.ga K c) dx fs') ∧ EmbF K F ρ fs fs'
  | .lck t kvs => p ∈ ρ ∧ ((t = false ∧ ∃ ob kv, H p = some (.frz ob (.dK kv)) ∧ EmbK K F ρ kvs kv) ∨ (t = true ∧ ∃ ob kv, H p = some (.frz ob (.dT kv)) ∧ EmbT K F ρ kvs kv))

def isDic : HO → Bool
  | .dK _ => true
  | .dT _ => true
  | _ => false
/-- as it was frozen, or a dict locked by a loop -/
def RdD (H : Hp) (b : Addr) (o : HO) : Prop := H b = some o ∨ (isDic o = true ∧ ∃ ob, H b = some (.frz ob o))

/-! ## the tables of code objects that are watched: of defs with lambdas (q: their name), of defs with generator expressions -/
class TabNames where
  names : List (He.Defn × Str)
  /-- tuples of texts that stand from the head on -/
  cts : List ((PySem.W.Frag → Addr) × List Str)
def ctB (K : PySem.W.Frag) (a : Addr) (xs : List Str) : Bool := match K.lookup a with
  | some ⟨.type c, _, .seq its _, _⟩ => decide (c = "tuple") && (decide (its.size ≤ sizeLine) && He.relAll (xs.map V.str) its.toList)
  | _ => false
/-- the watched tables stand apart -/
def tabNd [TabNames] (K : PySem.W.Frag) : Bool := decide ((TabNames.names.map fun e => (He.cT K e.1).2).Nodup)
def cxB [TabNames] (K : PySem.W.Frag) : Bool := (TabNames.cts.all fun e => ctB K (e.1 K) e.2) && tabNd K
def Tbs [TabNames] (K : PySem.W.Frag) (H : Hp) : Prop := ∀ e ∈ TabNames.names, LamX.TabS H (He.cT K e.1).2 e.2
def PlainAt (H : Hp) (p : Addr) : Prop := ∀ o, H p = some o → (∀ ps, o ≠ .tbl ps) ∧ ∀ φ, o ≠ .ext φ
theorem plain_none {H : Hp} {p : Addr} (h : H p = none) : PlainAt H p := fun o e => by rw [h] at e; cases e
theorem plain_of {H : Hp} {p : Addr} {u : HO} (h : H p = some u) (h1 : ∀ ps, u ≠ .tbl ps) (h2 : ∀ φ, u ≠ .ext φ) : PlainAt H p := fun o e => by
  rw [h] at e; cases e; exact ⟨h1, h2⟩
theorem EmbO.plain {K : PySem.W.Frag} {F H : Hp} {ρ : List Addr} {p : Addr} {o : AO} (h : EmbO K F ρ H p o) : PlainAt H p := by
  cases o with
  | lst xs => obtain ⟨vs, h1, _⟩ := h; exact plain_of h1 (fun _ z => by cases z) (fun _ z => by cases z)
  | dic t kvs =>
    rcases h with ⟨_, kv, h1, _⟩ | ⟨_, kv, h1, _⟩
    · exact plain_of h1 (fun _ z => by cases z) (fun _ z => by cases z)
    · exact plain_of h1 (fun _ z => by cases z) (fun _ z => by cases z)
  | ins c fs => obtain ⟨dx, fs', h1, _⟩ := h; exact plain_of h1 (fun _ z => by cases z) (fun _ z => by cases z)
  | lck t kvs =>
    rcases h with ⟨_, ⟨_, ob, kv, h1, _⟩ | ⟨_, ob, kv, h1, _⟩⟩
    · exact plain_of h1 (fun _ z => by cases z) (fun _ z => by cases z)
    · exact plain_of h1 (fun _ z => by cases z) (fun _ z => by cases z)
theorem EmbO.noTup {K : PySem.W.Frag} {F H : Hp} {ρ : List Addr} {p : Addr} {o : AO} {vs : List V} (h : EmbO K F ρ H p o) : H p ≠ some (.tup vs) := fun z => by
  cases o with
  | lst xs => obtain ⟨vs, h1, _⟩ := h; rw [h1] at z; cases z
  | dic t kvs => rcases h with ⟨_, kv, h1, _⟩ | ⟨_, kv, h1, _⟩ <;> (rw [h1] at z; cases z)
  | ins c fs => obtain ⟨dx, fs', h1, _⟩ := h; rw [h1] at z; cases z
  | lck t kvs => rcases h with ⟨_, ⟨_, ob, kv, h1, _⟩ | ⟨_, ob, kv, h1, _⟩⟩ <;> (rw [h1] at z; cases z)
theorem EmbO.noFrz {K : PySem.W.Frag} {F H : Hp} {ρ : List Addr} {p : Addr} {o : AO} {ob : Obj} {u : HO} (h : EmbO K F ρ H p o) (hl : o.isl = false) : H p ≠ some (.frz ob u) := fun z => by
  cases o with
  | lst xs => obtain ⟨vs, h1, _⟩ := h; rw [h1] at z; cases z
  | dic t kvs => rcases h with ⟨_, kv, h1, _⟩ | ⟨_, kv, h1, _⟩ <;> (rw [h1] at z; cases z)
  | ins c fs => obtain ⟨dx, fs', h1, _⟩ := h; rw [h1] at z; cases z
  | lck t kvs => cases hl
theorem EmbO.nol {K : PySem.W.Frag} {F H : Hp} {ρ : List Addr} {p : Addr} {o : AO} (h : EmbO K F ρ H p o) (hp : p ∉ ρ) : o.isl = false := by
  cases o with
  | lck t kvs => exact absurd h.1 hp
  | _ => rfl
theorem TabS.upd {H : Hp} {P p : Addr} {u : HO} {q : Str} (h : LamX.TabS H P q) (hp : PlainAt H p) : LamX.TabS (upd H p u) P q := by
  obtain ⟨ps, h1, h2, h3⟩ := h
  have ne : P ≠ p := fun z => by subst z; exact (hp _ h1).1 ps rfl
  refine ⟨ps, by rw [upd_ne ne]; exact h1, h2, fun pos cv hc => ?_⟩
  obtain ⟨c, e1, e2⟩ := h3 pos cv hc
  have ne2 : c ≠ p := fun z => by subst z; exact (hp _ e2).2 _ rfl
  exact ⟨c, e1, by rw [upd_ne ne2]; exact e2⟩
theorem Tbs.upd [TabNames] {K : PySem.W.Frag} {H : Hp} {p : Addr} {u : HO} (h : Tbs K H) (hp : PlainAt H p) : Tbs K (upd H p u) := fun e he => TabS.upd (h e he) hp
/-- the watched tables; no table is the caller's or frozen -/
structure TbX [TabNames] (K : PySem.W.Frag) (U F H : Hp) : Prop where
  tb : Tbs K H
  nu : ∀ b ps, U b ≠ some (.tbl ps)
  nf : ∀ b ps, F b ≠ some (.tbl ps)
theorem upd_nt {H : Hp} {p : Addr} {u : HO} (h : ∀ b ps, H b ≠ some (.tbl ps)) (hu : ∀ ps, u ≠ .tbl ps) : ∀ b ps, upd H p u b ≠ some (.tbl ps) := fun b ps z => by
  by_cases hb : b = p
  · subst hb; rw [upd_same] at z; exact hu ps (Option.some.inj z)
  · rw [upd_ne hb] at z; exact h b ps z
theorem TbX.upd [TabNames] {K : PySem.W.Frag} {U F H : Hp} {p : Addr} {u : HO} (h : TbX K U F H) (hp : PlainAt H p) : TbX K U F (upd H p u) := ⟨h.tb.upd hp, h.nu, h.nf⟩
theorem TbX.u [TabNames] {K : PySem.W.Frag} {U F H : Hp} {p : Addr} {u : HO} (h : TbX K U F H) (hu : ∀ ps, u ≠ .tbl ps) : TbX K (L2.upd U p u) F H := ⟨h.tb, upd_nt h.nu hu, h.nf⟩
theorem TbX.f [TabNames] {K : PySem.W.Frag} {U F H : Hp} {p : Addr} {u : HO} (h : TbX K U F H) (hu : ∀ ps, u ≠ .tbl ps) : TbX K U (L2.upd F p u) H := ⟨h.tb, h.nu, upd_nt h.nf hu⟩
theorem plain_u {H : Hp} {p : Addr} {u : HO} (h : PlainAt H p) (e : H p = some u) : ∀ ps, u ≠ .tbl ps := (h u e).1
structure Rep [TabNames] (K : PySem.W.Frag) (U F : Hp) (ρ : List Addr) (S : SS) (σ : St) (H : Hp) : Prop where
  len : σ.length = S.sl.length
  fro : ∀ b o, F b = some o → RdD H b o
  unt : ∀ b o, U b = some o → H b = some o
  rln : ρ.length = S.hp.length
  rnd : ρ.Nodup
  rF : ∀ p ∈ ρ, F p = none ∧ (U p = none ∨ ∃ ob u, U p = some (.frz ob u))
  FU : ∀ b o, F b = some o → U b = none ∨ (∃ ob, U b = some (.frz ob o)) ∨ ∃ vs, o = .tup vs
  hp : ∀ (i : Nat) (o : AO) (p : Addr), S.hp[i]? = some o → ρ[i]? = some p → EmbO K F ρ H p o
  val : ∀ (i : Nat) (a : AV), S.sl[i]? = some (some (.val a)) → ∃ v, σ[i]? = some (some v) ∧ Emb K F ρ a v
  own : ∀ (i : Nat) (o : AO), S.sl[i]? = some (some (.own o)) → ∃ p, σ[i]? = some (some (.ref p)) ∧ EmbO K F ρ H p o ∧ F p = none ∧ U p = none ∧ p ∉ ρ ∧
    ∀ (j : Nat) (o' : AO), S.sl[j]? = some (some (.own o')) → σ[j]? = some (some (.ref p)) → j = i
  tab : TbX K U F H

/-! ### growing -/
section
variable {K : PySem.W.Frag} {F F' F'' H H' : Hp} {ρ ρ' ρ'' : List Addr}
theorem pre_get {i : Nat} {p : Addr} (h : ρ <+: ρ') (e : ρ[i]? = some p) : ρ'[i]? = some p := by
  obtain ⟨t, rfl⟩ := h
  rw [List.getElem?_append_left (List.getElem?_eq_some_iff.mp e).1]
  exact e
theorem same_seqT {a : Addr} {xs : List V} (e : Same F F') (h : SqT K F a xs) : SqT K F' a xs := by
  rcases h with (h | ⟨o, h⟩) | h
  · exact .inl (.inl (e _ _ h))
  · exact .inl (.inr ⟨o, e _ _ h⟩)
  · exact .inr h
mutual
theorem Emb.mono (s : Same F F') (q : ρ <+: ρ') : ∀ (a : AV) (v : V), Emb K F ρ a v → Emb K F' ρ' a v
  | .non, _, h => by simpa only [Emb] using h
  | .bl _, _, h => by simpa only [Emb] using h
  | .int _, _, h => by simpa only [Emb] using h
  | .str _, _, h => by simpa only [Emb] using h
  | .tup xs, v, h => by
    simp only [Emb] at h ⊢
    obtain ⟨p, vs, e, h1, h2⟩ := h
    exact ⟨p, vs, e, s _ _ h1, EmbL.mono s q xs vs h2⟩
  | .ct xs, v, h => by
    simp only [Emb] at h ⊢
    obtain ⟨p, vs, e, h1, h2⟩ := h
    exact ⟨p, vs, e, h1, EmbL.mono s q xs vs h2⟩
  | .vl xs, v, h => by
    simp only [Emb] at h ⊢
    obtain ⟨p, vs, e, h1, h2⟩ := h
    exact ⟨p, vs, e, s _ _ h1, EmbL.mono s q xs vs h2⟩
  | .cl xs, v, h => by
    simp only [Emb] at h ⊢
    obtain ⟨p, vs, e, h1, h2⟩ := h
    exact ⟨p, vs, e, s.seq h1, EmbL.mono s q xs vs h2⟩
  | .vd t kvs, v, h => by
    simp only [Emb] at h ⊢
    obtain ⟨p, e, ⟨e1, kv, h1, h2⟩ | ⟨e1, kv, h1, h2⟩⟩ := h
    · exact ⟨p, e, .inl ⟨e1, kv, s _ _ h1, EmbK.mono s q kvs kv h2⟩⟩
    · exact ⟨p, e, .inr ⟨e1, kv, s _ _ h1, EmbT.mono s q kvs kv h2⟩⟩
  | .ob c fs, v, h => by
    simp only [Emb] at h ⊢
    obtain ⟨p, dx, fs', e, h1, h2⟩ := h
    exact ⟨p, dx, fs', e, s _ _ h1, EmbF.mono s q fs fs' h2⟩
  | .ref i, v, h => by
    simp only [Emb] at h ⊢
    obtain ⟨p, e, h1⟩ := h
    exact ⟨p, e, pre_get q h1⟩
theorem EmbL.mono (s : Same F F') (q : ρ <+: ρ') : ∀ (a : List AV) (v : List V), EmbL K F ρ a v → EmbL K F' ρ' a v
  | [], _, h => by simpa only [EmbL] using h
  | x :: xs, _, h => by
    simp only [EmbL] at h ⊢
    obtain ⟨v, r, e, h1, h2⟩ := h
    exact ⟨v, r, e, Emb.mono s q x v h1, EmbL.mono s q xs r h2⟩
theorem EmbK.mono (s : Same F F') (q : ρ <+: ρ') : ∀ (a : List (AV × AV)) (v : List (Key × V)), EmbK K F ρ a v → EmbK K F' ρ' a v
  | [], _, h => by simpa only [EmbK] using h
  | (k, x) :: xs, _, h => by
    simp only [EmbK] at h ⊢
    obtain ⟨k', v, r, e, e2, h1, h2⟩ := h
    exact ⟨k', v, r, e, e2, Emb.mono s q x v h1, EmbK.mono s q xs r h2⟩
theorem EmbT.mono (s : Same F F') (q : ρ <+: ρ') : ∀ (a : List (AV × AV)) (v : List (List Key × V)), EmbT K F ρ a v → EmbT K F' ρ' a v
  | [], _, h => by simpa only [EmbT] using h
  | (k, x) :: xs, _, h => by
    simp only [EmbT] at h ⊢
    obtain ⟨k', v, r, e, e2, h1, h2⟩ := h
    exact ⟨k', v, r, e, e2, Emb.mono s q x v h1, EmbT.mono s q xs r h2⟩
theorem EmbF.mono (s : Same F F') (q : ρ <+: ρ') : ∀ (a : List (Str × AV)) (v : List (Str × V)), EmbF K F ρ a v → EmbF K F' ρ' a v
  | [], _, h => by simpa only [EmbF] using h
  | (k, x) :: xs, _, h => by
    simp only [EmbF] at h ⊢
    obtain ⟨v, r, e, h1, h2⟩ := h
    exact ⟨v, r, e, Emb.mono s q x v h1, EmbF.mono s q xs r h2⟩
end
theorem EmbO.mono {p : Addr} {o : AO} (s : Same F F') (q : ρ <+: ρ') (e : H' p = H p) (h : EmbO K F ρ H p o) : EmbO K F' ρ' H' p o := by
  cases o with
  | lst xs =>
    obtain ⟨vs, h1, h2⟩ := h
    exact ⟨vs, e.trans h1, h2.mono s q⟩
  | dic t kvs =>
    rcases h with ⟨e1, kv, h1, h2⟩ | ⟨e1, kv, h1, h2⟩
    · exact .inl ⟨e1, kv, e.trans h1, h2.mono s q⟩
    · exact .inr ⟨e1, kv, e.trans h1, h2.mono s q⟩
  | ins c fs =>
    obtain ⟨dx, fs', h1, h2⟩ := h
    exact ⟨dx, fs', e.trans h1, h2.mono s q⟩
  | lck t kvs =>
    obtain ⟨hm, h⟩ := h
    refine ⟨q.subset hm, ?_⟩
    rcases h with ⟨e1, ob, kv, h1, h2⟩ | ⟨e1, ob, kv, h1, h2⟩
    · exact .inl ⟨e1, ob, kv, e.trans h1, h2.mono s q⟩
    · exact .inr ⟨e1, ob, kv, e.trans h1, h2.mono s q⟩
theorem EmbO.some {p : Addr} {o : AO} (h : EmbO K F ρ H p o) : ∃ u, H p = some u := by
  cases o with
  | lst xs => obtain ⟨vs, h1, _⟩ := h; exact ⟨_, h1⟩
  | dic t kvs =>
    rcases h with ⟨_, kv, h1, _⟩ | ⟨_, kv, h1, _⟩
    · exact ⟨_, h1⟩
    · exact ⟨_, h1⟩
  | ins c fs => obtain ⟨dx, fs', h1, _⟩ := h; exact ⟨_, h1⟩
  | lck t kvs =>
    rcases h with ⟨_, ⟨_, ob, kv, h1, _⟩ | ⟨_, ob, kv, h1, _⟩⟩
    · exact ⟨_, h1⟩
    · exact ⟨_, h1⟩
/-- frozen -/
theorem EmbO.frz {p : Addr} {o : AO} (hp : p ∉ ρ) (h : EmbO K F ρ F p o) : Emb K F ρ o.frz (.ref p) := by
  cases o with
  | lst xs =>
    obtain ⟨vs, h1, h2⟩ := h
    simp only [AO.frz, Emb]
    exact ⟨p, vs, rfl, h1, h2⟩
  | dic t kvs =>
    simp only [AO.frz, Emb]
    exact ⟨p, rfl, h⟩
  | ins c fs =>
    obtain ⟨dx, fs', h1, h2⟩ := h
    simp only [AO.frz, Emb]
    exact ⟨p, dx, fs', rfl, h1, h2⟩
  | lck t kvs => exact absurd h.1 hp
end
end LM

namespace LM
open PyProof.Rows hiding St frameOf passOn
open PySem PySem.Spec L2
variable [TabNames]
/-! ## what stays -/
theorem nodup_ixA {α : Type} {N : List α} (hN : N.Nodup) {i j : Nat} {x : α} (a : N[i]? = some x) (b : N[j]? = some x) : i = j := by
  obtain ⟨h1, e1⟩ := List.getElem?_eq_some_iff.mp a
  obtain ⟨h2, e2⟩ := List.getElem?_eq_some_iff.mp b
  have h := List.pairwise_iff_getElem.mp hN
  rcases Nat.lt_trichotomy i j with l | l | l
  · exact absurd (e1.trans e2.symm) (h i j h1 h2 l)
  · exact l
  · exact absurd (e2.trans e1.symm) (h j i h2 h1 l)
section
variable {K : PySem.W.Frag} {U F F' H H' : Hp} {ρ ρ' : List Addr} {S S1 : SS} {σ σ' : St}
theorem Rep.idx (R : Rep K U F ρ S σ H) {i : Nat} {p : Addr} (e : ρ[i]? = some p) : ∃ o, S.hp[i]? = some o := by
  have h := (List.getElem?_eq_some_iff.mp e).1
  rw [R.rln] at h
  exact ⟨_, List.getElem?_eq_getElem h⟩
theorem Rep.rH (R : Rep K U F ρ S σ H) {p : Addr} (hp : p ∈ ρ) : ∃ o, H p = some o := by
  obtain ⟨i, h, e⟩ := List.mem_iff_getElem.mp hp
  have e2 : ρ[i]? = some p := by rw [List.getElem?_eq_getElem h, e]
  obtain ⟨o, eo⟩ := R.idx e2
  exact (R.hp i o p eo e2).some
theorem Rep.new (R : Rep K U F ρ S σ H) {p : Addr} (h : H p = none) : F p = none ∧ U p = none ∧ p ∉ ρ ∧ ∀ (j : Nat) (o' : AO), S.sl[j]? = some (some (.own o')) → σ[j]? ≠ some (some (.ref p)) := by
  refine ⟨?_, ?_, fun hm => ?_, fun j o' e q => ?_⟩
  · cases e : F p with
    | none => rfl
    | some o =>
      rcases R.fro p o e with z | ⟨_, ob, z⟩
      · rw [h] at z; cases z
      · rw [h] at z; cases z
  · cases e : U p with
    | none => rfl
    | some o => have z := R.unt p o e; rw [h] at z; cases z
  · obtain ⟨o, e⟩ := R.rH hm
    rw [h] at e; cases e
  · obtain ⟨p', e1, e2, _⟩ := R.own j o' e
    rw [e1] at q
    cases q
    obtain ⟨u, e3⟩ := e2.some
    rw [h] at e3; cases e3
/-- an object that nobody knows yet -/
def Loose (K : PySem.W.Frag) (U F : Hp) (ρ : List Addr) (S : SS) (σ : St) (H : Hp) (p : Addr) (o : AO) : Prop :=
  EmbO K F ρ H p o ∧ F p = none ∧ U p = none ∧ p ∉ ρ ∧ ∀ (j : Nat) (o' : AO), S.sl[j]? = some (some (.own o')) → σ[j]? ≠ some (some (.ref p))
theorem same_new {p : Addr} {u : HO} (h : F p = none) : Same F (upd F p u) := fun b o e => by
  rw [upd_ne (ne_of_none e h)]; exact e
/-- the heap changed at p alone, which is not F's, not U's, no other's -/
theorem Rep.at_ {p : Addr} {u : HO} (R : Rep K U F ρ S σ H) (hF : F p = none) (hU : U p = none) (hρ : p ∉ ρ) (ho : ∀ (j : Nat) (o' : AO), S.sl[j]? = some (some (.own o')) → σ[j]? ≠ some (some (.ref p))) (hn : PlainAt H p) : Rep K U F ρ S σ (upd H p u) := by
  refine ⟨R.len, fun b o e => ?_, fun b o e => ?_, R.rln, R.rnd, R.rF, R.FU, fun i o q e1 e2 => ?_, R.val, fun i o e => ?_, R.tab.upd hn⟩
  · have ne := ne_of_none e hF
    unfold RdD; rw [upd_ne ne]; exact R.fro b o e
  · rw [upd_ne (ne_of_none e hU)]; exact R.unt b o e
  · have ne : q ≠ p := fun z => hρ (z ▸ List.mem_of_getElem? e2)
    exact (R.hp i o q e1 e2).mono (Same.refl _) (List.prefix_refl _) (upd_ne ne)
  · obtain ⟨q, e1, e2, e3⟩ := R.own i o e
    have ne : q ≠ p := fun z => ho i o e (z ▸ e1)
    exact ⟨q, e1, e2.mono (Same.refl _) (List.prefix_refl _) (upd_ne ne), e3⟩
theorem Rep.laid {p : Addr} {u : HO} (R : Rep K U F ρ S σ H) (h : H p = none) : Rep K U F ρ S σ (upd H p u) :=
  let ⟨a, b, c, d⟩ := R.new h
  R.at_ a b c d (plain_none h)
/-- a loose object is frozen -/
theorem Rep.freeze {p : Addr} {o : AO} {u : HO} (R : Rep K U F ρ S σ H) (L : Loose K U F ρ S σ H p o) (hu : H p = some u) : Rep K U (upd F p u) ρ S σ H ∧ Emb K (upd F p u) ρ o.frz (.ref p) ∧ Same F (upd F p u) := by
  obtain ⟨l1, l2, l3, l4, l5⟩ := L
  have sm : Same F (upd F p u) := same_new l2
  refine ⟨⟨R.len, fun b w e => ?_, R.unt, R.rln, R.rnd, fun q hq => ?_, fun b w e => ?_, fun i o q e1 e2 => (R.hp i o q e1 e2).mono sm (List.prefix_refl _) rfl, fun i a e => ?_, fun i o' e => ?_, R.tab.f (plain_u l1.plain hu)⟩, ?_, sm⟩
  · by_cases hb : b = p
    · subst hb; rw [upd_same] at e; cases e; exact .inl hu
    · rw [upd_ne hb] at e; exact R.fro b w e
  · have ne : q ≠ p := fun z => l4 (z ▸ hq)
    rw [upd_ne ne]; exact R.rF q hq
  · by_cases hb : b = p
    · subst hb; exact .inl l3
    · rw [upd_ne hb] at e; exact R.FU b w e
  · obtain ⟨v, e1, e2⟩ := R.val i a e
    exact ⟨v, e1, e2.mono sm (List.prefix_refl _)⟩
  · obtain ⟨q, e1, e2, e3, e4⟩ := R.own i o' e
    have ne : q ≠ p := fun z => l5 i o' e (z ▸ e1)
    exact ⟨q, e1, e2.mono sm (List.prefix_refl _) rfl, by rw [upd_ne ne]; exact e3, e4⟩
  · exact EmbO.frz (F := upd F p u) l4 (l1.mono (H' := upd F p u) sm (List.prefix_refl _) (by rw [upd_same, hu]))
theorem Loose.some {p : Addr} {o : AO} (L : Loose K U F ρ S σ H p o) : ∃ u, H p = some u := L.1.some
/-- a loose object comes to the heap -/
theorem Rep.toHeap {p : Addr} {o : AO} (R : Rep K U F ρ S σ H) (L : Loose K U F ρ S σ H p o) : Rep K U F (ρ ++ [p]) { S with hp := S.hp ++ [o] } σ H ∧ Emb K F (ρ ++ [p]) (.ref S.hp.length) (.ref p) ∧ ρ <+: ρ ++ [p] := by
  obtain ⟨l1, l2, l3, l4, l5⟩ := L
  have pr : ρ <+: ρ ++ [p] := List.prefix_append _ _
  have sm := Same.refl F
  refine ⟨⟨R.len, R.fro, R.unt, by simp [R.rln], ?_, fun q hq => ?_, R.FU, fun i o' q e1 e2 => ?_, fun i a e => ?_, fun i o' e => ?_, R.tab⟩, ?_, pr⟩
  · rw [List.nodup_append]
    refine ⟨R.rnd, by simp, fun a ha b hb => ?_⟩
    have : b = p := by simpa using hb
    subst this
    exact fun z => l4 (z ▸ ha)
  · rcases List.mem_append.mp hq with h | h
    · exact R.rF q h
    · have : q = p := by simpa using h
      subst this; exact ⟨l2, .inl l3⟩
  · by_cases hi : i < ρ.length
    · rw [List.getElem?_append_left hi] at e2
      rw [List.getElem?_append_left (by rw [← R.rln]; exact hi)] at e1
      exact (R.hp i o' q e1 e2).mono sm pr rfl
    · have hi2 : i = ρ.length := by
        have := (List.getElem?_eq_some_iff.mp e2).1
        simp at this; omega
      subst hi2
      rw [List.getElem?_append_right (Nat.le_refl _)] at e2
      rw [R.rln, List.getElem?_append_right (Nat.le_refl _)] at e1
      simp at e1 e2
      subst e1; subst e2
      exact l1.mono sm pr rfl
  · obtain ⟨v, e1, e2⟩ := R.val i a e
    exact ⟨v, e1, e2.mono sm pr⟩
  · obtain ⟨q, e1, e2, e3, e4, e5, e6⟩ := R.own i o' e
    refine ⟨q, e1, e2.mono sm pr rfl, e3, e4, fun hm => ?_, e6⟩
    rcases List.mem_append.mp hm with h | h
    · exact e5 h
    · have : q = p := by simpa using h
      subst this; exact l5 i o' e e1
  · simp only [Emb]
    refine ⟨p, rfl, ?_⟩
    rw [← R.rln, List.getElem?_append_right (Nat.le_refl _)]
    simp
/-- a slot gets a value -/
theorem Rep.set {i : Nat} {a : AV} {v : V} (R : Rep K U F ρ S σ H) (e : Emb K F ρ a v) : Rep K U F ρ { S with sl := S.sl.set i (some (.val a)) } (σ.set i (some v)) H := by
  have hl := R.len
  refine ⟨by simp [hl], R.fro, R.unt, R.rln, R.rnd, R.rF, R.FU, R.hp, fun j b q => ?_, fun j o q => ?_, R.tab⟩
  · by_cases hj : i = j
    · subst hj
      have hi : i < S.sl.length := by
        by_cases h : i < S.sl.length
        · exact h
        · rw [List.getElem?_eq_none (by simpa using h)] at q; cases q
      rw [List.getElem?_set_self hi] at q
      cases q
      exact ⟨v, by rw [List.getElem?_set_self (by rw [hl]; exact hi)], e⟩
    · rw [List.getElem?_set_ne hj] at q ⊢
      exact R.val j b q
  · by_cases hj : i = j
    · subst hj
      have hi : i < S.sl.length := by
        by_cases h : i < S.sl.length
        · exact h
        · rw [List.getElem?_eq_none (by simpa using h)] at q; cases q
      rw [List.getElem?_set_self hi] at q
      cases q
    · rw [List.getElem?_set_ne hj] at q ⊢
      obtain ⟨p, e1, e2, e3, e4, e5, e6⟩ := R.own j o q
      refine ⟨p, e1, e2, e3, e4, e5, fun k o' q' z => ?_⟩
      by_cases hk : i = k
      · subst hk
        have hi : i < S.sl.length := by
          by_cases h : i < S.sl.length
          · exact h
          · rw [List.getElem?_eq_none (by simpa using h)] at q'; cases q'
        rw [List.getElem?_set_self hi] at q'
        cases q'
      · rw [List.getElem?_set_ne hk] at q' z
        exact e6 k o' q' z
/-- a slot gets a loose object of its own -/
theorem Rep.setOwn {i : Nat} {o : AO} {p : Addr} (R : Rep K U F ρ S σ H) (L : Loose K U F ρ S σ H p o) : Rep K U F ρ { S with sl := S.sl.set i (some (.own o)) } (σ.set i (some (.ref p))) H := by
  obtain ⟨l1, l2, l3, l4, l5⟩ := L
  have hl := R.len
  refine ⟨by simp [hl], R.fro, R.unt, R.rln, R.rnd, R.rF, R.FU, R.hp, fun j b q => ?_, fun j o' q => ?_, R.tab⟩
  · by_cases hj : i = j
    · subst hj
      have hi : i < S.sl.length := by
        by_cases h : i < S.sl.length
        · exact h
        · rw [List.getElem?_eq_none (by simpa using h)] at q; cases q
      rw [List.getElem?_set_self hi] at q
      cases q
    · rw [List.getElem?_set_ne hj] at q ⊢
      exact R.val j b q
  · by_cases hj : i = j
    · subst hj
      have hi : i < S.sl.length := by
        by_cases h : i < S.sl.length
        · exact h
        · rw [List.getElem?_eq_none (by simpa using h)] at q; cases q
      rw [List.getElem?_set_self hi] at q
      cases q
      refine ⟨p, by rw [List.getElem?_set_self (by rw [hl]; exact hi)], l1, l2, l3, l4, fun k o' q' z => ?_⟩
      by_cases hk : i = k
      · exact hk.symm
      · rw [List.getElem?_set_ne hk] at q' z
        exact absurd z (l5 k o' q')
    · rw [List.getElem?_set_ne hj] at q ⊢
      obtain ⟨p', e1, e2, e3, e4, e5, e6⟩ := R.own j o' q
      refine ⟨p', e1, e2, e3, e4, e5, fun k o'' q' z => ?_⟩
      by_cases hk : i = k
      · subst hk
        have hi : i < S.sl.length := by
          by_cases h : i < S.sl.length
          · exact h
          · rw [List.getElem?_eq_none (by simpa using h)] at q'; cases q'
        rw [List.getElem?_set_self (by rw [hl]; exact hi)] at z
        cases z
        exact absurd e1 (l5 j o' q)
      · rw [List.getElem?_set_ne hk] at q' z
        exact e6 k o'' q' z
/-- a slot's own object as a loose one, the slot forgotten -/
theorem Rep.loosen {i : Nat} {o : AO} (R : Rep K U F ρ S σ H) (e : S.sl[i]? = some (some (.own o))) : ∃ p, σ[i]? = some (some (.ref p)) ∧ Rep K U F ρ { S with sl := S.sl.set i none } σ H ∧ Loose K U F ρ { S with sl := S.sl.set i none } σ H p o := by
  obtain ⟨p, e1, e2, e3, e4, e5, e6⟩ := R.own i o e
  have hi : i < S.sl.length := (List.getElem?_eq_some_iff.mp e).1
  have back : ∀ {j : Nat} {x : SV}, (S.sl.set i none)[j]? = some (some x) → S.sl[j]? = some (some x) ∧ i ≠ j := fun {j x} q => by
    by_cases hj : i = j
    · subst hj; rw [List.getElem?_set_self hi] at q; cases q
    · rw [List.getElem?_set_ne hj] at q; exact ⟨q, hj⟩
  refine ⟨p, e1, ⟨by simp [R.len], R.fro, R.unt, R.rln, R.rnd, R.rF, R.FU, R.hp, fun j b q => R.val j b (back q).1, fun j o' q => ?_, R.tab⟩, e2, e3, e4, e5, fun j o' q z => ?_⟩
  · obtain ⟨p', f1, f2, f3, f4, f5, f6⟩ := R.own j o' (back q).1
    exact ⟨p', f1, f2, f3, f4, f5, fun k o'' q' z => f6 k o'' (back q').1 z⟩
  · exact (back q).2 (e6 j o' (back q).1 z).symm
/-- forget a slot -/
theorem Rep.forget {i : Nat} (R : Rep K U F ρ S σ H) : Rep K U F ρ { S with sl := S.sl.set i none } σ H := by
  have back : ∀ {j : Nat} {x : SV}, (S.sl.set i none)[j]? = some (some x) → S.sl[j]? = some (some x) := fun {j x} q => by
    by_cases hj : i = j
    · subst hj
      by_cases hi : i < S.sl.length
      · rw [List.getElem?_set_self hi] at q; cases q
      · rw [List.getElem?_eq_none (by simpa using hi)] at q; cases q
    · rw [List.getElem?_set_ne hj] at q; exact q
  refine ⟨by simp [R.len], R.fro, R.unt, R.rln, R.rnd, R.rF, R.FU, R.hp, fun j b q => R.val j b (back q), fun j o' q => ?_, R.tab⟩
  obtain ⟨p', f1, f2, f3, f4, f5, f6⟩ := R.own j o' (back q)
  exact ⟨p', f1, f2, f3, f4, f5, fun k o'' q' z => f6 k o'' (back q') z⟩
/-- slots put back: σ the same at i -/
theorem Rep.reset {i : Nat} {a : AV} {v : V} (R : Rep K U F ρ S σ H) (e : Emb K F ρ a v) (hv : σ[i]? = some (some v)) : Rep K U F ρ { S with sl := S.sl.set i (some (.val a)) } σ H := by
  have h := R.set (i := i) e
  have : σ.set i (some v) = σ := by
    apply List.ext_getElem?
    intro j
    by_cases hj : i = j
    · subst hj
      have hi : i < σ.length := (List.getElem?_eq_some_iff.mp hv).1
      rw [List.getElem?_set_self hi, hv]
    · rw [List.getElem?_set_ne hj]
  rwa [this] at h
/-- an own slot is frozen where it stands -/
theorem Rep.frzSlot {i : Nat} {o : AO} (R : Rep K U F ρ S σ H) (e : S.sl[i]? = some (some (.own o))) : ∃ p u, σ[i]? = some (some (.ref p)) ∧ Same F (upd F p u) ∧ Rep K U (upd F p u) ρ { S with sl := S.sl.set i (some (.val o.frz)) } σ H ∧ Emb K (upd F p u) ρ o.frz (.ref p) := by
  obtain ⟨p, hσ, R1, L⟩ := R.loosen e
  obtain ⟨u, hu⟩ := L.some
  obtain ⟨R2, em, sm⟩ := R1.freeze L hu
  have R3 := R2.reset (i := i) em hσ
  refine ⟨p, u, hσ, sm, ?_, em⟩
  have : ({ S with sl := (S.sl.set i none).set i (some (.val o.frz)) } : SS) = { S with sl := S.sl.set i (some (.val o.frz)) } := by
    rw [List.set_set]
  rw [← this]
  exact R3
/-- an object of the heap is written -/
theorem Rep.write {i : Nat} {o o0 : AO} {p : Addr} {u : HO} (R : Rep K U F ρ S σ H) (hi : ρ[i]? = some p) (h : EmbO K F ρ (upd H p u) p o) (h0 : EmbO K F ρ H p o0) (hl : o0.isl = false) : Rep K U F ρ { S with hp := S.hp.set i o } σ (upd H p u) := by
  have hm : p ∈ ρ := List.mem_of_getElem? hi
  obtain ⟨hF, hU⟩ := R.rF p hm
  have hU : U p = none := by
    rcases hU with z | ⟨ob, w, z⟩
    · exact z
    · exact absurd (R.unt p _ z) (h0.noFrz hl)
  refine ⟨R.len, fun b w e => ?_, fun b w e => ?_, by simp [R.rln], R.rnd, R.rF, R.FU, fun j o' q e1 e2 => ?_, R.val, fun j o' e => ?_, R.tab.upd (by obtain ⟨o0, h0⟩ := R.idx hi; exact (R.hp i o0 p h0 hi).plain)⟩
  · have ne := ne_of_none e hF
    unfold RdD; rw [upd_ne ne]; exact R.fro b w e
  · rw [upd_ne (ne_of_none e hU)]; exact R.unt b w e
  · by_cases hj : i = j
    · subst hj
      rw [hi] at e2; cases e2
      have hlt : i < S.hp.length := by rw [← R.rln]; exact (List.getElem?_eq_some_iff.mp hi).1
      rw [List.getElem?_set_self hlt] at e1
      cases e1
      exact h
    · rw [List.getElem?_set_ne hj] at e1
      have ne : q ≠ p := fun z => by
        subst z
        have h1 := (List.getElem?_eq_some_iff.mp hi)
        have h2 := (List.getElem?_eq_some_iff.mp e2)
        exact hj (nodup_ixA R.rnd hi e2)
      exact (R.hp j o' q e1 e2).mono (Same.refl _) (List.prefix_refl _) (upd_ne ne)
  · obtain ⟨q, f1, f2, f3, f4, f5, f6⟩ := R.own j o' e
    have ne : q ≠ p := fun z => f5 (z ▸ hm)
    exact ⟨q, f1, f2.mono (Same.refl _) (List.prefix_refl _) (upd_ne ne), f3, f4, f5, f6⟩
/-- an own object is written -/
theorem Rep.writeOwn {i : Nat} {o o' : AO} {p : Addr} {u : HO} (R : Rep K U F ρ S σ H) (e : S.sl[i]? = some (some (.own o))) (hσ : σ[i]? = some (some (.ref p))) (h : EmbO K F ρ (upd H p u) p o') : Rep K U F ρ { S with sl := S.sl.set i (some (.own o')) } σ (upd H p u) := by
  obtain ⟨p', hσ', R1, l1, l2, l3, l4, l5⟩ := R.loosen e
  rw [hσ] at hσ'; cases hσ'
  have R2 := R1.at_ (u := u) l2 l3 l4 l5 l1.plain
  have R3 := R2.setOwn (i := i) (o := o') (p := p) ⟨h, l2, l3, l4, l5⟩
  have e1 : σ.set i (some (.ref p)) = σ := by
    apply List.ext_getElem?
    intro j
    by_cases hj : i = j
    · subst hj
      have hi : i < σ.length := (List.getElem?_eq_some_iff.mp hσ).1
      rw [List.getElem?_set_self hi, hσ]
    · rw [List.getElem?_set_ne hj]
  rw [e1] at R3
  have : ({ S with sl := (S.sl.set i none).set i (some (.own o')) } : SS) = { S with sl := S.sl.set i (some (.own o')) } := by
    rw [List.set_set]
  rw [← this]
  exact R3
/-- what a callee may not touch: the caller's and the own objects of its slots -/
noncomputable def callU (U : Hp) (S : SS) (σ : St) (H : Hp) : Hp := fun b => open Classical in if ∃ (i : Nat) (o : AO), S.sl[i]? = some (some (SV.own o)) ∧ σ[i]? = some (some (V.ref b)) then H b else U b
theorem Rep.call (R : Rep K U F ρ S σ H) : Rep K (callU U S σ H) F ρ ⟨[], S.hp⟩ [] H := by
  refine ⟨rfl, R.fro, fun b o e => ?_, R.rln, R.rnd, fun p hp => ?_, fun b o e => ?_, R.hp, fun i a e => by simp at e, fun i o e => by simp at e, ⟨R.tab.tb, fun b ps z => ?_, R.tab.nf⟩⟩
  · unfold callU at e
    split at e
    · exact e
    · exact R.unt b o e
  · refine ⟨(R.rF p hp).1, ?_⟩
    unfold callU
    split
    · rename_i h
      obtain ⟨i, o, e1, e2⟩ := h
      obtain ⟨q, f1, _, _, _, f5, _⟩ := R.own i o e1
      rw [e2] at f1; cases f1
      exact absurd hp f5
    · exact (R.rF p hp).2
  · unfold callU
    split
    · rename_i h
      obtain ⟨i, o', e1, e2⟩ := h
      obtain ⟨q, f1, _, f3, _⟩ := R.own i o' e1
      rw [e2] at f1; cases f1
      rw [e] at f3; cases f3
    · exact R.FU b o e
  · unfold callU at z
    split at z
    · rename_i h
      obtain ⟨i, o', e1, e2⟩ := h
      obtain ⟨q, f1, f2, _⟩ := R.own i o' e1
      rw [e2] at f1; cases f1
      exact (f2.plain _ z).1 ps rfl
    · exact R.tab.nu b ps z
theorem Rep.back {h' : AH} (R : Rep K U F ρ S σ H) (s : Same F F') (q : ρ <+: ρ') (R' : Rep K (callU U S σ H) F' ρ' ⟨[], h'⟩ [] H') : Rep K U F' ρ' { S with hp := h' } σ H' := by
  have own_at : ∀ {i : Nat} {o : AO} {p : Addr}, S.sl[i]? = some (some (.own o)) → σ[i]? = some (some (.ref p)) → callU U S σ H p = H p := fun {i o p} e1 e2 => by
    unfold callU; rw [if_pos ⟨i, o, e1, e2⟩]
  have un_at : ∀ b, callU U S σ H b ≠ U b → ∃ (i : Nat) (o : AO), S.sl[i]? = some (some (SV.own o)) ∧ σ[i]? = some (some (V.ref b)) := fun b h => by
    unfold callU at h
    split at h
    · assumption
    · exact absurd rfl h
  have uU : ∀ b o, U b = some o → callU U S σ H b = some o := fun b o e => by
    by_cases h : callU U S σ H b = U b
    · rw [h]; exact e
    · obtain ⟨i, o', e1, e2⟩ := un_at b h
      obtain ⟨p, f1, _, _, f4, _⟩ := R.own i o' e1
      rw [e2] at f1; cases f1
      rw [e] at f4; cases f4
  refine ⟨R.len, R'.fro, fun b o e => R'.unt b o (uU b o e), R'.rln, R'.rnd, fun p hp => ?_, fun b o e => ?_, R'.hp, fun i a e => ?_, fun i o e => ?_, ⟨R'.tab.tb, R.tab.nu, R'.tab.nf⟩⟩
  · refine ⟨(R'.rF p hp).1, ?_⟩
    cases z : U p with
    | none => exact .inl rfl
    | some o =>
      rcases (R'.rF p hp).2 with h | ⟨ob, u, h⟩
      · rw [uU p o z] at h; cases h
      · rw [uU p o z] at h; cases h; exact .inr ⟨ob, u, rfl⟩
  · rcases R'.FU b o e with h | ⟨ob, h⟩ | h
    · cases z : U b with
      | none => exact .inl rfl
      | some o' => rw [uU b o' z] at h; cases h
    · cases z : U b with
      | none => exact .inl rfl
      | some o' => rw [uU b o' z] at h; cases h; exact .inr (.inl ⟨ob, rfl⟩)
    · exact .inr (.inr h)
  · obtain ⟨v, e1, e2⟩ := R.val i a e
    exact ⟨v, e1, e2.mono s q⟩
  · obtain ⟨p, f1, f2, f3, f4, f5, f6⟩ := R.own i o e
    have hc := own_at e f1
    obtain ⟨u, hu⟩ := f2.some
    have hk : H' p = H p := by rw [hu]; exact R'.unt p u (by rw [hc, hu])
    refine ⟨p, f1, f2.mono s q hk, ?_, f4, fun hm => ?_, f6⟩
    · cases z : F' p with
      | none => rfl
      | some w =>
        rcases R'.FU p w z with h | ⟨ob, h⟩ | ⟨vs, rfl⟩
        · rw [hc, hu] at h; cases h
        rotate_left
        · exfalso
          rcases R'.fro p _ z with h | ⟨h, _⟩
          · rw [hk] at h; exact f2.noTup h
          · cases h
        · rw [hc] at h
          exfalso
          cases o with
          | lst xs => obtain ⟨vs, h1, _⟩ := f2; rw [h1] at h; cases h
          | dic t kvs => rcases f2 with ⟨_, kv, h1, _⟩ | ⟨_, kv, h1, _⟩ <;> (rw [h1] at h; cases h)
          | ins c fs => obtain ⟨dx, fs', h1, _⟩ := f2; rw [h1] at h; cases h
          | lck t kvs => exact f5 f2.1
    · rcases (R'.rF p hm).2 with h | ⟨ob, w, h⟩
      · rw [hc, hu] at h; cases h
      · rw [hc] at h; exact f2.noFrz (f2.nol f5) h
end
end LM

namespace LM
open PyProof.Rows hiding St frameOf passOn
open PySem PySem.Spec L2
variable [TabNames]
/-! ## what is wanted behind a piece of code -/
abbrev RR (α β : Type) := Hp → List Addr → SS → Hp → α → β → Prop
def Post {α β : Type} (K : PySem.W.Frag) (U F : Hp) (ρ : List Addr) (σ : St) (R : RR α β) (W : WX) (Q : β → Hp → Prop) : Res α → Prop
  | .ok a S' => ∀ F' ρ' H' b, Same F F' → ρ <+: ρ' → Rep K U F' ρ' S' σ H' → R F' ρ' S' H' a b → Q b H'
  | .exn c S' => ∀ F' ρ' H', Same F F' → ρ <+: ρ' → Rep K U F' ρ' S' σ H' → W (.ref (He.ga K c)) none σ H'
  | .stuck => False
def bindR {α β : Type} (r : Res α) (k : α → M β) : Res β := match r with
  | .ok a s => k a s
  | .exn c s => .exn c s
  | .stuck => .stuck
def bindM {α β : Type} (f : M α) (k : α → M β) : M β := fun s => bindR (f s) k
section
variable {K : PySem.W.Frag} {U F F1 H : Hp} {ρ ρ1 : List Addr} {σ : St} {W : WX}
theorem Post.up {α β : Type} {R : RR α β} {Q : β → Hp → Prop} {r : Res α} (s : Same F F1) (q : ρ <+: ρ1) (h : Post K U F ρ σ R W Q r) : Post K U F1 ρ1 σ R W Q r := by
  cases r with
  | ok a S' => exact fun F' ρ' H' b s' q' => h F' ρ' H' b (s.trans s') (q.trans q')
  | exn c S' => exact fun F' ρ' H' s' q' => h F' ρ' H' (s.trans s') (q.trans q')
  | stuck => exact h
theorem Post.imp {α β : Type} {R R' : RR α β} {Q Q' : β → Hp → Prop} {r : Res α} (h : Post K U F ρ σ R W Q r) (f : ∀ F' ρ' S' H' a b, Same F F' → ρ <+: ρ' → Rep K U F' ρ' S' σ H' → R' F' ρ' S' H' a b → (R F' ρ' S' H' a b → Q b H') → Q' b H') : Post K U F ρ σ R' W Q' r := by
  cases r with
  | ok a S' => exact fun F' ρ' H' b s' q' r' e => f F' ρ' S' H' a b s' q' r' e (h F' ρ' H' b s' q' r')
  | exn c S' => exact h
  | stuck => exact h
theorem Post.bind {α β γ δ : Type} {R1 : RR α β} {R3 : RR γ δ} {Q : δ → Hp → Prop} {r : Res α} {k : α → M γ} (h : Post K U F ρ σ R3 W Q (bindR r k)) :
    Post K U F ρ σ R1 W (fun b H1 => ∃ F1 ρ1 S1 a, Same F F1 ∧ ρ <+: ρ1 ∧ Rep K U F1 ρ1 S1 σ H1 ∧ R1 F1 ρ1 S1 H1 a b ∧ Post K U F1 ρ1 σ R3 W Q (k a S1)) r := by
  cases r with
  | ok a S' => exact fun F' ρ' H' b s' q' r' e => ⟨F', ρ', S', a, s', q', r', e, h.up s' q'⟩
  | exn c S' => exact h
  | stuck => exact h
end
theorem Post.seq {K : PySem.W.Frag} {U F : Hp} {ρ : List Addr} {σ : St} {W : WX} {α β γ δ : Type} {R1 : RR α β} {R3 : RR γ δ} {Q : δ → Hp → Prop} {Q' : β → Hp → Prop} {r : Res α} {k : α → M γ} (h : Post K U F ρ σ R3 W Q (bindR r k))
    (f : ∀ F1 ρ1 S1 H1 a b, Same F F1 → ρ <+: ρ1 → Rep K U F1 ρ1 S1 σ H1 → R1 F1 ρ1 S1 H1 a b → Post K U F1 ρ1 σ R3 W Q (k a S1) → Q' b H1) : Post K U F ρ σ R1 W Q' r := by
  cases r with
  | ok a S' => exact fun F' ρ' H' b s' q' r' e => f F' ρ' S' H' a b s' q' r' e (h.up s' q')
  | exn c S' => exact h
  | stuck => exact h
/-! ### the relations -/
inductive PV where
  | av (a : AV) | sl (i : Nat)
abbrev RS := PySem.W.Frag → Hp → St → RR AV V
def RE (K : PySem.W.Frag) (_ : Hp) (_ : St) : RR AV V := fun F ρ _ _ a v => Emb K F ρ a v
def RL (K : PySem.W.Frag) (_ : Hp) (_ : St) : RR (List AV) (List V) := fun F ρ _ _ a v => EmbL K F ρ a v
def RT (_ : PySem.W.Frag) (_ : Hp) (_ : St) : RR Bool Bool := fun _ _ _ _ a b => b = a
def EmbP (K : PySem.W.Frag) (F : Hp) (ρ : List Addr) (σ : St) : PV → V → Prop
  | .av a, v => Emb K F ρ a v
  | .sl i, v => σ[i]? = some (some v)
def RP (K : PySem.W.Frag) (_ : Hp) (σ : St) : RR PV V := fun F ρ _ _ a v => EmbP K F ρ σ a v
def RN (K : PySem.W.Frag) (U : Hp) (σ : St) : RR AO V := fun F ρ S H o v => ∃ p, v = .ref p ∧ Loose K U F ρ S σ H p o
theorem EmbP.mono {K : PySem.W.Frag} {F F' : Hp} {ρ ρ' : List Addr} {σ : St} (s : Same F F') (q : ρ <+: ρ') {a : PV} {v : V} (h : EmbP K F ρ σ a v) : EmbP K F' ρ' σ a v := by
  cases a with
  | av a => exact Emb.mono s q a v h
  | sl i => exact h
/-- the reading that a function on states gives -/
def tG {α β : Type} (K : PySem.W.Frag) (W : WX) (R : Hp → St → RR α β) (f : M α) (σ : St) (H : Hp) (Q : β → Hp → Prop) : Prop :=
  ∃ U F ρ S, Rep K U F ρ S σ H ∧ Post K U F ρ σ (R U σ) W Q (f S)
def PEm (X : Cx) (e : Expr) (f : M AV) : Prop := ∀ W, Takes X W → PE X e (tG X.K W (RE X.K) f)
def PPm (X : Cx) (e : Expr) (f : M PV) : Prop := ∀ W, Takes X W → PE X e (tG X.K W (RP X.K) f)
def PNm (X : Cx) (e : Expr) (f : M AO) : Prop := ∀ W, Takes X W → PE X e (tG X.K W (RN X.K) f)
def PTm (X : Cx) (e : Expr) (f : M Bool) : Prop := ∀ W, Takes X W → PT X e (tG X.K W (RT X.K) f)
def PWm (X : Cx) (e : Expr) (f : M Bool) : Prop := ∀ W, Takes X W → PW X e (tG X.K W (RT X.K) f)
def PAm (X : Cx) (es : List Expr) (f : M (List AV)) : Prop := ∀ W, Takes X W → PA X es (tG X.K W (RL X.K) f)
section
variable {X : Cx}
theorem PE.weak {e : Expr} {t t' : TE} (h : PE X e t) (w : ∀ σ H Q, t' σ H Q → t σ H Q) : PE X e t' := ⟨fun pins s σ H Q I q => h.run pins s σ H Q I (w σ H Q q)⟩
theorem PT.weak {e : Expr} {t t' : TT} (h : PT X e t) (w : ∀ σ H Q, t' σ H Q → t σ H Q) : PT X e t' := ⟨fun pins s σ H Q I q => h.run pins s σ H Q I (w σ H Q q)⟩
theorem PW.weak {e : Expr} {t t' : TT} (h : PW X e t) (w : ∀ σ H Q, t' σ H Q → t σ H Q) : PW X e t' := ⟨fun wh pins s σ H Q I q => h.run wh pins s σ H Q I (w σ H Q q)⟩
theorem PA.weak {e : List Expr} {t t' : TA} (h : PA X e t) (w : ∀ σ H Q, t' σ H Q → t σ H Q) : PA X e t' := ⟨fun pos pins s σ H Q I q => h.run pos pins s σ H Q I (w σ H Q q)⟩
theorem PS.weak {e : Stmt} {t t' : TS} (h : PS X e t) (w : ∀ σ H D, t' D σ H → t D σ H) : PS X e t' := ⟨fun pins s σ H D I q => h.run pins s σ H D I (w σ H D q)⟩
theorem PSs.weak {e : List Stmt} {t t' : TS} (h : PSs X e t) (w : ∀ σ H D, t' D σ H → t D σ H) : PSs X e t' := ⟨fun pins s σ H D I q => h.run pins s σ H D I (w σ H D q)⟩

/-! ## constants, names -/
variable {pos : Pos}
def cM (a : AV) : M AV := fun s => .ok a s
theorem pm_const {e : Expr} {v : V} {a : AV} (h : PE X e (tC v)) (ha : ∀ F ρ, Emb X.K F ρ a v) : PEm X e (cM a) := fun W tk =>
  PE.weak h fun σ H Q ⟨U, F, ρ, S, R, p⟩ => p F ρ H v (Same.refl _) (List.prefix_refl _) R (ha F ρ)
theorem pm_int {i j pos} : PEm X (.Constant (.int i) j pos) (cM (.int i)) := pm_const pe_int fun _ _ => by simp only [Emb]
theorem pm_bl {b j pos} : PEm X (.Constant (.bool b) j pos) (cM (.bl b)) := pm_const pe_bl fun _ _ => by simp only [Emb]
theorem pm_non {j pos} : PEm X (.Constant .none j pos) (cM .non) := pm_const pe_non fun _ _ => by simp only [Emb]
theorem pm_str {x j pos} : PEm X (.Constant (.str x) j pos) (cM (.str x)) := pm_const pe_str fun _ _ => by simp only [Emb]
/-- a local name, its own object frozen -/
def vM (i : Nat) : M AV := fun s => match s.sl[i]? with
  | some (some (.val a)) => .ok a s
  | some (some (.own o)) => .ok o.frz { s with sl := s.sl.set i (some (.val o.frz)) }
  | _ => .stuck
theorem pm_v (i : Nat) {x : Str} {pos : Pos} (hN : X.N[i]? = some x := by rfl) (hv : Vis X.env.scope x := by first | exact Or.inl rfl | exact Or.inr (Or.inl rfl) | exact Or.inr (Or.inr rfl)) (hd : (x == ("__debug__" : Str)) = false := by decide)
    (hcd : (x == ("__classdict__" : Str)) = false := by decide) : PEm X (.Name x pos) (vM i) := fun W tk =>
  PE.weak (pe_var hN hv hd hcd) fun σ H Q ⟨U, F, ρ, S, R, p⟩ => by
    unfold vM at p
    cases h : S.sl[i]? with
    | none => rw [h] at p; exact p.elim
    | some o =>
      rw [h] at p
      cases o with
      | none => exact p.elim
      | some sv =>
        cases sv with
        | val a =>
          obtain ⟨v, e1, e2⟩ := R.val i a h
          exact ⟨v, e1, p F ρ H v (Same.refl _) (List.prefix_refl _) R e2⟩
        | own o =>
          obtain ⟨q, u, e1, sm, R2, em⟩ := R.frzSlot h
          exact ⟨_, e1, p _ ρ H _ sm (List.prefix_refl _) R2 em⟩
/-- looked at, not frozen -/
def pkV (i : Nat) : M PV := fun s => match s.sl[i]? with
  | some (some _) => .ok (.sl i) s
  | _ => .stuck
theorem pp_v (i : Nat) {x : Str} {pos : Pos} (hN : X.N[i]? = some x := by rfl) (hv : Vis X.env.scope x := by first | exact Or.inl rfl | exact Or.inr (Or.inl rfl) | exact Or.inr (Or.inr rfl)) (hd : (x == ("__debug__" : Str)) = false := by decide)
    (hcd : (x == ("__classdict__" : Str)) = false := by decide) : PPm X (.Name x pos) (pkV i) := fun W tk =>
  PE.weak (pe_var hN hv hd hcd) fun σ H Q ⟨U, F, ρ, S, R, p⟩ => by
    unfold pkV at p
    cases h : S.sl[i]? with
    | none => rw [h] at p; exact p.elim
    | some o =>
      rw [h] at p
      cases o with
      | none => exact p.elim
      | some sv =>
        cases sv with
        | val a =>
          obtain ⟨v, e1, e2⟩ := R.val i a h
          exact ⟨v, e1, p F ρ H v (Same.refl _) (List.prefix_refl _) R e1⟩
        | own o =>
          obtain ⟨q, e1, _⟩ := R.own i o h
          exact ⟨_, e1, p F ρ H _ (Same.refl _) (List.prefix_refl _) R e1⟩
def pkE (f : M AV) : M PV := bindM f fun a s => .ok (.av a) s
theorem pp_e {e : Expr} {f : M AV} (h : PEm X e f) : PPm X e (pkE f) := fun W tk =>
  PE.weak (h W tk) fun σ H Q ⟨U, F, ρ, S, R, p⟩ => ⟨U, F, ρ, S, R, Post.seq p fun F1 ρ1 S1 H' a1 b s1 q1 r1 e1 p1 => by
    exact p1 F1 ρ1 H' b (Same.refl _) (List.prefix_refl _) r1 e1⟩
/-- a made object, frozen; laid on the heap -/
def frM (f : M AO) : M AV := bindM f fun o s => .ok o.frz s
theorem pm_fr {e : Expr} {f : M AO} (h : PNm X e f) : PEm X e (frM f) := fun W tk =>
  PE.weak (h W tk) fun σ H Q ⟨U, F, ρ, S, R, p⟩ => ⟨U, F, ρ, S, R, Post.seq p fun F1 ρ1 S1 H' a1 b s1 q1 r1 ⟨p', eb, L⟩ p1 => by
    subst eb
    obtain ⟨u, hu⟩ := L.some
    obtain ⟨R2, em, sm⟩ := r1.freeze L hu
    exact p1 _ ρ1 H' _ sm (List.prefix_refl _) R2 em⟩
def laM (f : M AO) : M AV := bindM f fun o s => .ok (.ref s.hp.length) { s with hp := s.hp ++ [o] }
theorem pm_la {e : Expr} {f : M AO} (h : PNm X e f) : PEm X e (laM f) := fun W tk =>
  PE.weak (h W tk) fun σ H Q ⟨U, F, ρ, S, R, p⟩ => ⟨U, F, ρ, S, R, Post.seq p fun F1 ρ1 S1 H' a1 b s1 q1 r1 ⟨p', eb, L⟩ p1 => by
    subst eb
    obtain ⟨R2, em, pr⟩ := r1.toHeap L
    exact p1 F1 _ H' _ (Same.refl _) pr R2 em⟩
/-! ## what stands there -/
inductive Co where
  | ob (o : AO) | tup (xs : List AV) | str (x : Str) | no
def coA (h : AH) : AV → Co
  | .tup xs => .tup xs
  | .ct xs => .tup xs
  | .vl xs => .ob (.lst xs)
  | .cl xs => .ob (.lst xs)
  | .vd t kvs => .ob (.dic t kvs)
  | .ob c fs => .ob (.ins c fs)
  | .str x => .str x
  | .ref i => match h[i]? with
    | some o => .ob o.rd
    | none => .no
  | _ => .no
def coP (pv : PV) (s : SS) : Co := match pv with
  | .av a => coA s.hp a
  | .sl i => match s.sl[i]? with
    | some (some (.own o)) => .ob o.rd
    | some (some (.val a)) => coA s.hp a
    | _ => .no
section
variable {K : PySem.W.Frag} {U F H : Hp} {ρ : List Addr} {S : SS} {σ : St}
theorem Rep.tupF (R : Rep K U F ρ S σ H) {p : Addr} {vs : List V} (h : F p = some (.tup vs)) : H p = some (.tup vs) := by
  rcases R.fro _ _ h with z | ⟨z, _⟩
  · exact z
  · cases z
theorem Rep.insF (R : Rep K U F ρ S σ H) {p C dx : Addr} {vs : List (Str × V)} (h : F p = some (.ins C dx vs)) : H p = some (.ins C dx vs) := by
  rcases R.fro _ _ h with z | ⟨z, _⟩
  · exact z
  · cases z
theorem Rep.lstF (R : Rep K U F ρ S σ H) {p : Addr} {vs : List V} (h : SqL K F p vs) : SqL K H p vs := by
  rcases h with (h | ⟨o, h⟩) | h
  · rcases R.fro _ _ h with z | ⟨z, _⟩
    · exact .inl (.inl z)
    · cases z
  · rcases R.fro _ _ h with z | ⟨z, _⟩
    · exact .inl (.inr ⟨o, z⟩)
    · cases z
  · exact .inr h
theorem Rep.dicF (R : Rep K U F ρ S σ H) {p : Addr} {u : HO} (h : F p = some u) : Rd H p u := by
  rcases R.fro _ _ h with z | ⟨_, ob, z⟩
  · exact .inl z
  · exact .inr ⟨ob, z⟩
theorem seqT0 {p : Addr} {vs : List V} {H : Hp} (h : SqT K (fun _ => none) p vs) : SqT K H p vs := by
  rcases h with (h | ⟨o, h⟩) | h
  · cases h
  · cases h
  · exact .inr h
/-- what the reading of a place tells -/
def CoV (K : PySem.W.Frag) (F : Hp) (ρ : List Addr) (H : Hp) (v : V) : Co → Prop
  | .ob (.lst xs) => ∃ p vs, v = .ref p ∧ SqL K H p vs ∧ EmbL K F ρ xs vs
  | .ob (.dic t kvs) => ∃ p, v = .ref p ∧ ((t = false ∧ ∃ kv, Rd H p (.dK kv) ∧ EmbK K F ρ kvs kv) ∨ (t = true ∧ ∃ kv, Rd H p (.dT kv) ∧ EmbT K F ρ kvs kv))
  | .ob (.ins c fs) => ∃ p dx fs', v = .ref p ∧ H p = some (.ins (He.ga K c) dx fs') ∧ EmbF K F ρ fs fs'
  | .ob (.lck _ _) => False
  | .tup xs => ∃ p vs, v = .ref p ∧ SqT K H p vs ∧ EmbL K F ρ xs vs
  | .str x => v = .str x
  | .no => True
theorem coO_ok {p : Addr} {o : AO} (h : EmbO K F ρ H p o) : CoV K F ρ H (.ref p) (.ob o.rd) := by
  cases o with
  | lst xs => obtain ⟨vs, h1, h2⟩ := h; exact ⟨p, vs, rfl, SqL.of h1, h2⟩
  | dic t kvs =>
    rcases h with ⟨e, kv, h1, h2⟩ | ⟨e, kv, h1, h2⟩
    · exact ⟨p, rfl, .inl ⟨e, kv, .inl h1, h2⟩⟩
    · exact ⟨p, rfl, .inr ⟨e, kv, .inl h1, h2⟩⟩
  | ins c fs => obtain ⟨dx, fs', h1, h2⟩ := h; exact ⟨p, dx, fs', rfl, h1, h2⟩
  | lck t kvs =>
    rcases h with ⟨_, ⟨e, ob, kv, h1, h2⟩ | ⟨e, ob, kv, h1, h2⟩⟩
    · exact ⟨p, rfl, .inl ⟨e, kv, .inr ⟨ob, h1⟩, h2⟩⟩
    · exact ⟨p, rfl, .inr ⟨e, kv, .inr ⟨ob, h1⟩, h2⟩⟩
theorem coA_ok (R : Rep K U F ρ S σ H) {a : AV} {v : V} (h : Emb K F ρ a v) : CoV K F ρ H v (coA S.hp a) := by
  cases a with
  | tup xs => simp only [Emb] at h; obtain ⟨p, vs, rfl, h1, h2⟩ := h; exact ⟨p, vs, rfl, SqT.of (R.tupF h1), h2⟩
  | ct xs => simp only [Emb] at h; obtain ⟨p, vs, rfl, h1, h2⟩ := h; exact ⟨p, vs, rfl, seqT0 h1, h2⟩
  | vl xs => simp only [Emb] at h; obtain ⟨p, vs, rfl, h1, h2⟩ := h; exact ⟨p, vs, rfl, R.lstF (SqL.of h1), h2⟩
  | cl xs => simp only [Emb] at h; obtain ⟨p, vs, rfl, h1, h2⟩ := h; exact ⟨p, vs, rfl, R.lstF h1, h2⟩
  | vd t kvs =>
    simp only [Emb] at h
    obtain ⟨p, rfl, ⟨e, kv, h1, h2⟩ | ⟨e, kv, h1, h2⟩⟩ := h
    · exact ⟨p, rfl, .inl ⟨e, kv, R.dicF h1, h2⟩⟩
    · exact ⟨p, rfl, .inr ⟨e, kv, R.dicF h1, h2⟩⟩
  | ob c fs => simp only [Emb] at h; obtain ⟨p, dx, fs', rfl, h1, h2⟩ := h; exact ⟨p, dx, fs', rfl, R.insF h1, h2⟩
  | str x => simp only [Emb] at h; exact h
  | ref i =>
    simp only [Emb] at h
    obtain ⟨p, rfl, h1⟩ := h
    obtain ⟨o, ho⟩ := R.idx h1
    show CoV K F ρ H (.ref p) (match S.hp[i]? with | some o => .ob o.rd | none => .no)
    rw [ho]
    exact coO_ok (R.hp i o p ho h1)
  | non => exact True.intro
  | bl b => exact True.intro
  | int i => exact True.intro
theorem coP_ok (R : Rep K U F ρ S σ H) {a : PV} {v : V} (h : EmbP K F ρ σ a v) : CoV K F ρ H v (coP a S) := by
  cases a with
  | av a => exact coA_ok R h
  | sl i =>
    show CoV K F ρ H v (match S.sl[i]? with | some (some (.own o)) => .ob o.rd | some (some (.val a)) => coA S.hp a | _ => .no)
    cases e : S.sl[i]? with
    | none => exact True.intro
    | some x =>
      cases x with
      | none => exact True.intro
      | some sv =>
        have hσ : σ[i]? = some (some v) := h
        cases sv with
        | val a =>
          obtain ⟨v', e1, e2⟩ := R.val i a e
          rw [hσ] at e1; cases e1
          exact coA_ok R e2
        | own o =>
          obtain ⟨p, e1, e2, _⟩ := R.own i o e
          rw [hσ] at e1; cases e1
          exact coO_ok e2
/-- the value of a looked-at place that is none -/
def avP (pv : PV) (s : SS) : Option AV := match pv with
  | .av a => some a
  | .sl i => match s.sl[i]? with
    | some (some (.val a)) => some a
    | _ => none
theorem avP_ok (R : Rep K U F ρ S σ H) {a : PV} {v : V} {x : AV} (h : EmbP K F ρ σ a v) (e : avP a S = some x) : Emb K F ρ x v := by
  cases a with
  | av a => cases e; exact h
  | sl i =>
    have e2 : (match S.sl[i]? with | some (some (.val a)) => some a | _ => none) = some x := e
    cases q : S.sl[i]? with
    | none => rw [q] at e2; cases e2
    | some y =>
      rw [q] at e2
      cases y with
      | none => cases e2
      | some sv =>
        cases sv with
        | own o => cases e2
        | val a =>
          cases e2
          obtain ⟨v', e1, e2⟩ := R.val i x q
          have hσ : σ[i]? = some (some v) := h
          rw [hσ] at e1; cases e1
          exact e2
end
end
end LM

namespace LM
open PyProof.Rows hiding St frameOf passOn
open PySem PySem.Spec L2
variable [TabNames]
section
variable {X : Cx} {pos : Pos}
abbrev optM {α : Type} (o : Option α) : M α := fun s => match o with
  | some a => .ok a s
  | none => .stuck
/-! ## operators on values -/
def op2 (op : AV → AV → Option AV) (f g : M AV) : M AV := bindM f fun a => bindM g fun b => optM (op a b)
def GoodOp (X : Cx) (op : AV → AV → Option AV) (r : R2) : Prop := ∀ U F ρ S σ H a b c x y Q, Rep X.K U F ρ S σ H → Emb X.K F ρ a x → Emb X.K F ρ b y → op a b = some c →
  (∀ F' H' z, Same F F' → Rep X.K U F' ρ S σ H' → Emb X.K F' ρ c z → Q z H') → r x y H Q
theorem pm_op {o : Operator} {op : AV → AV → Option AV} {r : R2} {a b : Expr} {f g : M AV} (ho : OpR X (binaryOp o) r) (hg : GoodOp X op r) (ha : PEm X a f) (hb : PEm X b g) : PEm X (.BinOp a o b pos) (op2 op f g) := fun W tk =>
  PE.weak (pe_op ho (ha W tk) (hb W tk)) fun σ H Q ⟨U, F, ρ, S, R, p⟩ => ⟨U, F, ρ, S, R, Post.seq p fun F1 ρ1 S1 H' a1 v s1 q1 r1 e1 p1 => by
    refine ⟨U, F1, ρ1, S1, r1, Post.seq p1 fun F2 ρ2 S2 H2' b1 w s2 q2 r2 e2 p2 => ?_⟩
    cases ec : op a1 b1 with
    | none => rw [ec] at p2; exact p2.elim
    | some c =>
      rw [ec] at p2
      exact hg U F2 ρ2 S2 σ H2' a1 b1 c v w Q r2 (Emb.mono s2 q2 _ _ e1) e2 ec fun F3 H3 z s3 r3 e3 => p2 F3 ρ2 H3 z s3 (List.prefix_refl _) r3 e3⟩
theorem GoodOp.or {op op' : AV → AV → Option AV} {r r' : R2} (h : GoodOp X op r) (h' : GoodOp X op' r') : GoodOp X (fun a b => (op a b).or (op' a b)) (fun x y H Q => r x y H Q ∨ r' x y H Q) := by
  intro U F ρ S σ H a b c x y Q R ea eb e q
  dsimp only at e
  cases z : op a b with
  | some c' =>
    rw [z] at e
    cases e
    exact .inl (h U F ρ S σ H a b c x y Q R ea eb z q)
  | none =>
    rw [z] at e
    exact .inr (h' U F ρ S σ H a b c x y Q R ea eb e q)
def addI : AV → AV → Option AV
  | .int i, .int j => some (.int (i + j))
  | _, _ => none
def addS : AV → AV → Option AV
  | .str i, .str j => if i.length + j.length ≤ 16777216 then some (.str (i ++ j)) else none
  | _, _ => none
def addT : AV → AV → Option AV
  | .tup xs, .tup ys => if xs.length + ys.length ≤ 16777216 then some (.tup (xs ++ ys)) else none
  | _, _ => none
def addA (a b : AV) : Option AV := (addI a b).or ((addS a b).or (addT a b))
theorem emb_int {K : PySem.W.Frag} {F : Hp} {ρ : List Addr} {i : Int} {v : V} (h : Emb K F ρ (.int i) v) : v = .int i := by simpa only [Emb] using h
theorem emb_str {K : PySem.W.Frag} {F : Hp} {ρ : List Addr} {i : Str} {v : V} (h : Emb K F ρ (.str i) v) : v = .str i := by simpa only [Emb] using h
theorem emb_bl {K : PySem.W.Frag} {F : Hp} {ρ : List Addr} {i : Bool} {v : V} (h : Emb K F ρ (.bl i) v) : v = .bl i := by simpa only [Emb] using h
theorem emb_non {K : PySem.W.Frag} {F : Hp} {ρ : List Addr} {v : V} (h : Emb K F ρ .non v) : v = .non := by simpa only [Emb] using h
theorem emb_int' {K : PySem.W.Frag} {F : Hp} {ρ : List Addr} {i : Int} : Emb K F ρ (.int i) (.int i) := by simp only [Emb]
theorem emb_str' {K : PySem.W.Frag} {F : Hp} {ρ : List Addr} {i : Str} : Emb K F ρ (.str i) (.str i) := by simp only [Emb]
theorem emb_bl' {K : PySem.W.Frag} {F : Hp} {ρ : List Addr} {i : Bool} : Emb K F ρ (.bl i) (.bl i) := by simp only [Emb]
theorem emb_non' {K : PySem.W.Frag} {F : Hp} {ρ : List Addr} : Emb K F ρ .non .non := by simp only [Emb]
theorem EmbL.length {K : PySem.W.Frag} {F : Hp} {ρ : List Addr} : ∀ {xs : List AV} {vs : List V}, EmbL K F ρ xs vs → vs.length = xs.length
  | [], _, h => by simp only [EmbL] at h; subst h; rfl
  | x :: xs, _, h => by
    simp only [EmbL] at h
    obtain ⟨v, r, rfl, _, h2⟩ := h
    simp [EmbL.length h2]
theorem EmbL.append {K : PySem.W.Frag} {F : Hp} {ρ : List Addr} : ∀ {xs ys : List AV} {vs ws : List V}, EmbL K F ρ xs vs → EmbL K F ρ ys ws → EmbL K F ρ (xs ++ ys) (vs ++ ws)
  | [], _, _, _, h, h' => by simp only [EmbL] at h; subst h; exact h'
  | x :: xs, _, _, _, h, h' => by
    simp only [EmbL] at h
    obtain ⟨v, r, rfl, h1, h2⟩ := h
    simp only [List.cons_append, EmbL]
    exact ⟨v, r ++ _, rfl, h1, EmbL.append h2 h'⟩
theorem EmbL.get {K : PySem.W.Frag} {F : Hp} {ρ : List Addr} : ∀ {xs : List AV} {vs : List V} {i : Nat} {x : AV}, EmbL K F ρ xs vs → xs[i]? = some x → ∃ v, vs[i]? = some v ∧ Emb K F ρ x v
  | [], _, _, _, _, e => by simp at e
  | a :: xs, _, i, x, h, e => by
    simp only [EmbL] at h
    obtain ⟨v, r, rfl, h1, h2⟩ := h
    cases i with
    | zero => simp at e; subst e; exact ⟨v, rfl, h1⟩
    | succ i =>
      obtain ⟨w, f1, f2⟩ := EmbL.get (i := i) h2 (by simpa using e)
      exact ⟨w, by simpa using f1, f2⟩
theorem EmbL.set {K : PySem.W.Frag} {F : Hp} {ρ : List Addr} {x : AV} {v : V} (hx : Emb K F ρ x v) : ∀ {xs : List AV} {vs : List V} (i : Nat), EmbL K F ρ xs vs → EmbL K F ρ (xs.set i x) (vs.set i v)
  | [], _, _, h => by simp only [EmbL] at h; subst h; simp [EmbL]
  | a :: xs, _, i, h => by
    simp only [EmbL] at h
    obtain ⟨w, r, rfl, h1, h2⟩ := h
    cases i with
    | zero => simp only [List.set_cons_zero, EmbL]; exact ⟨v, r, rfl, hx, h2⟩
    | succ i => simp only [List.set_cons_succ, EmbL]; exact ⟨w, _, rfl, h1, EmbL.set hx i h2⟩
theorem EmbL.take {K : PySem.W.Frag} {F : Hp} {ρ : List Addr} : ∀ {xs : List AV} {vs : List V} (n : Nat), EmbL K F ρ xs vs → EmbL K F ρ (xs.take n) (vs.take n)
  | [], _, n, h => by simp only [EmbL] at h; subst h; simp [EmbL]
  | a :: xs, _, n, h => by
    simp only [EmbL] at h
    obtain ⟨w, r, rfl, h1, h2⟩ := h
    cases n with
    | zero => simp [EmbL]
    | succ n => simp only [List.take_succ_cons, EmbL]; exact ⟨w, _, rfl, h1, EmbL.take n h2⟩
theorem EmbL.drop {K : PySem.W.Frag} {F : Hp} {ρ : List Addr} : ∀ {xs : List AV} {vs : List V} (n : Nat), EmbL K F ρ xs vs → EmbL K F ρ (xs.drop n) (vs.drop n)
  | [], _, n, h => by simp only [EmbL] at h; subst h; simp [EmbL]
  | a :: xs, _, n, h => by
    have h0 := h
    simp only [EmbL] at h
    obtain ⟨w, r, rfl, h1, h2⟩ := h
    cases n with
    | zero => simpa using h0
    | succ n => simpa using EmbL.drop n h2
theorem sz : (sizeLine : Nat) = 16777216 := sizeLine_eq
theorem ga_add : GoodOp X addI (rI0 fun i j => .int (i + j)) := by
  intro U F ρ S σ H a b c x y Q R ea eb e q
  unfold addI at e
  split at e
  · cases e
    exact ⟨_, _, emb_int ea, emb_int eb, q F H _ (Same.refl _) R emb_int'⟩
  · cases e
theorem ga_adds : GoodOp X addS (fun x y H Q => ∃ i j, x = .str i ∧ y = .str j ∧ i.length + j.length ≤ sizeLine ∧ Q (.str (i ++ j)) H) := by
  intro U F ρ S σ H a b c x y Q R ea eb e q
  unfold addS at e
  split at e
  · split at e
    · cases e
      exact ⟨_, _, emb_str ea, emb_str eb, by rw [sz]; assumption, q F H _ (Same.refl _) R emb_str'⟩
    · cases e
  · cases e
theorem Rep.newTup {K : PySem.W.Frag} {U F H : Hp} {ρ : List Addr} {S : SS} {σ : St} {p : Addr} {vs : List V} (R : Rep K U F ρ S σ H) (h : H p = none) : Rep K U (upd F p (.tup vs)) ρ S σ (upd H p (.tup vs)) ∧ Same F (upd F p (.tup vs)) := by
  obtain ⟨h1, h2, h3, h4⟩ := R.new h
  have R1 := R.laid (u := .tup vs) h
  have sm : Same F (upd F p (.tup vs)) := same_new h1
  refine ⟨⟨R1.len, fun b w e => ?_, R1.unt, R1.rln, R1.rnd, fun q hq => ?_, fun b w e => ?_, fun i o q e1 e2 => (R1.hp i o q e1 e2).mono sm (List.prefix_refl _) rfl, fun i a e => ?_, fun i o' e => ?_, R1.tab.f (fun _ z => by cases z)⟩, sm⟩
  · by_cases hb : b = p
    · subst hb; rw [upd_same] at e; cases e; exact .inl upd_same
    · rw [upd_ne hb] at e; exact R1.fro b w e
  · have ne : q ≠ p := fun z => h3 (z ▸ hq)
    rw [upd_ne ne]; exact R1.rF q hq
  · by_cases hb : b = p
    · subst hb; exact .inl h2
    · rw [upd_ne hb] at e; exact R1.FU b w e
  · obtain ⟨v, e1, e2⟩ := R1.val i a e
    exact ⟨v, e1, e2.mono sm (List.prefix_refl _)⟩
  · obtain ⟨q, e1, e2, e3, e4⟩ := R1.own i o' e
    have ne : q ≠ p := fun z => h4 i o' e (z ▸ e1)
    exact ⟨q, e1, e2.mono sm (List.prefix_refl _) rfl, by rw [upd_ne ne]; exact e3, e4⟩
theorem ga_addt : GoodOp X addT (rCatA X.K) := by
  intro U F ρ S σ H a b c x y Q R ea eb e q
  unfold addT at e
  split at e
  · split at e
    · rename_i xs ys hz
      cases e
      have ea0 := ea
      have eb0 := eb
      simp only [Emb] at ea eb
      obtain ⟨p, vs, rfl, f1, f2⟩ := ea
      obtain ⟨p', ws, rfl, g1, g2⟩ := eb
      refine ⟨p, p', vs, ws, rfl, rfl, SqT.of (R.tupF f1), SqT.of (R.tupF g1), by rw [sz, f2.length, g2.length]; exact hz, fun e => ?_, fun e1 e2 => ?_, fun _ _ n hn => ?_⟩
      · subst e
        have : xs = [] := List.eq_nil_of_length_eq_zero (by have := f2.length; simpa using this.symm)
        subst this
        exact q F H _ (Same.refl _) R (by simpa using eb0)
      · subst e2
        have : ys = [] := List.eq_nil_of_length_eq_zero (by have := g2.length; simpa using this.symm)
        subst this
        exact q F H _ (Same.refl _) R (by simpa using ea0)
      · obtain ⟨R2, sm⟩ := R.newTup (vs := vs ++ ws) hn
        refine q _ _ _ sm R2 ?_
        simp only [Emb]
        exact ⟨n, _, rfl, upd_same, (f2.mono sm (List.prefix_refl _)).append (g2.mono sm (List.prefix_refl _))⟩
    · cases e
  · cases e
theorem pm_add {a b : Expr} {f g : M AV} (ha : PEm X a f) (hb : PEm X b g) : PEm X (.BinOp a .Add b pos) (op2 addA f g) :=
  pm_op (OpR.or op_add (OpR.or op_add_str op_catA)) (ga_add.or (ga_adds.or ga_addt)) ha hb
/-- ints to an int -/
def intOp (c : Int → Int → Bool) (g : Int → Int → Int) : AV → AV → Option AV
  | .int i, .int j => if c i j then some (.int (g i j)) else none
  | _, _ => none
theorem ga_int {C : Int → Int → Prop} {c : Int → Int → Bool} {g : Int → Int → Int} (h : ∀ i j, c i j = true → C i j) : GoodOp X (intOp c g) (rI C fun i j => .int (g i j)) := by
  intro U F ρ S σ H a b k x y Q R ea eb e q
  unfold intOp at e
  split at e
  · split at e
    · cases e
      exact ⟨_, _, emb_int ea, emb_int eb, h _ _ (by assumption), q F H _ (Same.refl _) R emb_int'⟩
    · cases e
  · cases e
theorem ga_int0 {g : Int → Int → Int} : GoodOp X (intOp (fun _ _ => true) g) (rI0 fun i j => .int (g i j)) := by
  intro U F ρ S σ H a b k x y Q R ea eb e q
  unfold intOp at e
  split at e
  · split at e
    · cases e
      exact ⟨_, _, emb_int ea, emb_int eb, q F H _ (Same.refl _) R emb_int'⟩
    · cases e
  · cases e
abbrev subA := intOp (fun _ _ => true) fun i j => i - j
abbrev mulA := intOp (fun i j => (decide (-(2 ^ 64) < i) && decide (i < 2 ^ 64)) || (decide (-(2 ^ 64) < j) && decide (j < 2 ^ 64))) fun i j => i * j
abbrev modA := intOp (fun _ j => decide (0 < j)) fun i j => i % j
abbrev fdivA := intOp (fun _ j => decide (0 < j) && decide (j < 1073741824)) fun i j => i / j
abbrev powA := intOp (fun i j => decide (0 ≤ j) && decide (j ≤ 1000000) && decide (i.natAbs < 2 ^ 64)) fun i j => i ^ j.toNat
theorem pm_sub {a b : Expr} {f g : M AV} (ha : PEm X a f) (hb : PEm X b g) : PEm X (.BinOp a .Sub b pos) (op2 subA f g) := pm_op op_sub ga_int0 ha hb
theorem pm_mod {a b : Expr} {f g : M AV} (ha : PEm X a f) (hb : PEm X b g) : PEm X (.BinOp a .Mod b pos) (op2 modA f g) := pm_op op_mod (ga_int fun i j h => by simpa using h) ha hb
theorem pm_fdiv {a b : Expr} {f g : M AV} (ha : PEm X a f) (hb : PEm X b g) : PEm X (.BinOp a .FloorDiv b pos) (op2 fdivA f g) := pm_op op_fdiv (ga_int fun i j h => by simpa [CDiv] using h) ha hb
theorem pm_pow {a b : Expr} {f g : M AV} (ha : PEm X a f) (hb : PEm X b g) : PEm X (.BinOp a .Pow b pos) (op2 powA f g) := pm_op op_pow (ga_int fun i j h => by simpa [CPow, and_assoc] using h) ha hb
theorem pm_mulI {a b : Expr} {f g : M AV} (ha : PEm X a f) (hb : PEm X b g) : PEm X (.BinOp a .Mult b pos) (op2 mulA f g) := pm_op op_mul (ga_int fun i j h => by simpa [CMul] using h) ha hb
/-- lists: a new one -/
def op2N (op : AV → AV → Option AO) (f g : M AV) : M AO := bindM f fun a => bindM g fun b => optM (op a b)
def GoodN (X : Cx) (op : AV → AV → Option AO) (r : R2) : Prop := ∀ U F ρ S σ H a b c x y Q, Rep X.K U F ρ S σ H → Emb X.K F ρ a x → Emb X.K F ρ b y → op a b = some c →
  (∀ H' p, Rep X.K U F ρ S σ H' → Loose X.K U F ρ S σ H' p c → Q (.ref p) H') → r x y H Q
theorem pn_op {o : Operator} {op : AV → AV → Option AO} {r : R2} {a b : Expr} {f g : M AV} (ho : OpR X (binaryOp o) r) (hg : GoodN X op r) (ha : PEm X a f) (hb : PEm X b g) : PNm X (.BinOp a o b pos) (op2N op f g) := fun W tk =>
  PE.weak (pe_op ho (ha W tk) (hb W tk)) fun σ H Q ⟨U, F, ρ, S, R, p⟩ => ⟨U, F, ρ, S, R, Post.seq p fun F1 ρ1 S1 H' a1 v s1 q1 r1 e1 p1 => by
    refine ⟨U, F1, ρ1, S1, r1, Post.seq p1 fun F2 ρ2 S2 H2' b1 w s2 q2 r2 e2 p2 => ?_⟩
    cases ec : op a1 b1 with
    | none => rw [ec] at p2; exact p2.elim
    | some c =>
      rw [ec] at p2
      exact hg U F2 ρ2 S2 σ H2' a1 b1 c v w Q r2 (Emb.mono s2 q2 _ _ e1) e2 ec fun H3 z r3 e3 => p2 F2 ρ2 H3 _ (Same.refl _) (List.prefix_refl _) r3 ⟨z, rfl, e3⟩⟩
theorem Rep.newLoose {K : PySem.W.Frag} {U F H : Hp} {ρ : List Addr} {S : SS} {σ : St} {p : Addr} {u : HO} {o : AO} (R : Rep K U F ρ S σ H) (h : H p = none) (e : EmbO K F ρ (upd H p u) p o) : Rep K U F ρ S σ (upd H p u) ∧ Loose K U F ρ S σ (upd H p u) p o := by
  obtain ⟨h1, h2, h3, h4⟩ := R.new h
  exact ⟨R.laid h, e, h1, h2, h3, h4⟩
def catL : AV → AV → Option AO
  | .vl xs, .vl ys => if xs.length + ys.length ≤ 16777216 then some (.lst (xs ++ ys)) else none
  | _, _ => none
theorem gn_cat : GoodN X catL rCat := by
  intro U F ρ S σ H a b c x y Q R ea eb e q
  unfold catL at e
  split at e
  · split at e
    · rename_i xs ys hz
      cases e
      simp only [Emb] at ea eb
      obtain ⟨p, vs, rfl, f1, f2⟩ := ea
      obtain ⟨p', ws, rfl, g1, g2⟩ := eb
      have l1 : H p = some (.lst vs) := by
        rcases R.fro _ _ f1 with z | ⟨z, _⟩
        · exact z
        · cases z
      have l2 : H p' = some (.lst ws) := by
        rcases R.fro _ _ g1 with z | ⟨z, _⟩
        · exact z
        · cases z
      refine ⟨p, p', vs, ws, rfl, rfl, l1, l2, by rw [sz, f2.length, g2.length]; exact hz, fun n hn => ?_⟩
      obtain ⟨R2, L⟩ := R.newLoose (u := .lst (vs ++ ws)) (o := .lst (xs ++ ys)) hn ⟨vs ++ ws, upd_same, f2.append g2⟩
      exact q _ n R2 L
    · cases e
  · cases e
theorem pn_cat {a b : Expr} {f g : M AV} (ha : PEm X a f) (hb : PEm X b g) : PNm X (.BinOp a .Add b pos) (op2N catL f g) := pn_op op_cat gn_cat ha hb
def repL : AV → AV → Option AO
  | .vl xs, .int k => if decide (-(2 ^ 63) ≤ k) && decide (k < 2 ^ 63) && decide (xs.length * k.toNat ≤ 16777216) then some (.lst (List.replicate k.toNat xs).flatten) else none
  | _, _ => none
theorem EmbL.rep {K : PySem.W.Frag} {F : Hp} {ρ : List Addr} {xs : List AV} {vs : List V} (h : EmbL K F ρ xs vs) : ∀ k : Nat, EmbL K F ρ (List.replicate k xs).flatten (List.replicate k vs).flatten
  | 0 => by simp [EmbL]
  | k + 1 => by
    rw [List.replicate_succ, List.replicate_succ, List.flatten_cons, List.flatten_cons]
    exact h.append (EmbL.rep h k)
theorem gn_rep : GoodN X repL rRep := by
  intro U F ρ S σ H a b c x y Q R ea eb e q
  unfold repL at e
  split at e
  · split at e
    · rename_i xs k hz
      cases e
      simp only [Emb] at ea
      obtain ⟨p, vs, rfl, f1, f2⟩ := ea
      have l1 : H p = some (.lst vs) := by
        rcases R.fro _ _ f1 with z | ⟨z, _⟩
        · exact z
        · cases z
      simp only [Bool.and_eq_true, decide_eq_true_eq] at hz
      refine ⟨p, k, vs, rfl, emb_int eb, l1, hz.1.1, hz.1.2, by rw [sz, f2.length]; exact hz.2, fun n hn => ?_⟩
      obtain ⟨R2, L⟩ := R.newLoose (u := .lst (List.replicate k.toNat vs).flatten) (o := .lst (List.replicate k.toNat xs).flatten) hn ⟨_, upd_same, f2.rep _⟩
      exact q _ n R2 L
    · cases e
  · cases e
theorem pn_rep {a b : Expr} {f g : M AV} (ha : PEm X a f) (hb : PEm X b g) : PNm X (.BinOp a .Mult b pos) (op2N repL f g) := pn_op op_rep gn_rep ha hb
/-! ### one place -/
def op1 (op : AV → Option AV) (f : M AV) : M AV := bindM f fun a => optM (op a)
def negA : AV → Option AV
  | .int i => some (.int (-i))
  | _ => none
theorem pm_neg {a : Expr} {f : M AV} (ha : PEm X a f) : PEm X (.UnaryOp .USub a pos) (op1 negA f) := fun W tk =>
  PE.weak (pe_un un_neg (ha W tk)) fun σ H Q ⟨U, F, ρ, S, R, p⟩ => ⟨U, F, ρ, S, R, Post.seq p fun F1 ρ1 S1 H' a1 v s1 q1 r1 e1 p1 => by
    cases a1 with
    | int i => exact ⟨i, emb_int e1, p1 F1 ρ1 H' _ (Same.refl _) (List.prefix_refl _) r1 emb_int'⟩
    | _ => exact p1.elim⟩
/-! ## comparisons -/
def cmpM (op : SS → PV → PV → Option Bool) (f g : M PV) : M Bool := bindM f fun a => bindM g fun b s => match op s a b with
  | some k => .ok k s
  | none => .stuck
def bvM (f : M Bool) : M AV := bindM f fun k s => .ok (.bl k) s
def GoodC (X : Cx) (op : SS → PV → PV → Option Bool) (r : R2) : Prop := ∀ U F ρ S σ H a b k x y Q, Rep X.K U F ρ S σ H → EmbP X.K F ρ σ a x → EmbP X.K F ρ σ b y → op S a b = some k → Q (.bl k) H → r x y H Q
theorem GoodC.or {op op' : SS → PV → PV → Option Bool} {r r' : R2} (h : GoodC X op r) (h' : GoodC X op' r') : GoodC X (fun s a b => (op s a b).or (op' s a b)) (fun x y H Q => r x y H Q ∨ r' x y H Q) := by
  intro U F ρ S σ H a b k x y Q R ea eb e q
  dsimp only at e
  cases z : op S a b with
  | some c' =>
    rw [z] at e
    cases e
    exact .inl (h U F ρ S σ H a b k x y Q R ea eb z q)
  | none =>
    rw [z] at e
    exact .inr (h' U F ρ S σ H a b k x y Q R ea eb e q)
theorem cmp_core {op : SS → PV → PV → Option Bool} {r : R2} {f g : M PV} {W : WX} (hg : GoodC X op r) {σ : St} {H : Hp} {Q : Bool → Hp → Prop} (h : tG X.K W (RT X.K) (cmpM op f g) σ H Q) :
    tTest (tOp r (tG X.K W (RP X.K) f) (tG X.K W (RP X.K) g)) σ H Q := by
  obtain ⟨U, F, ρ, S, R, p⟩ := h
  refine ⟨U, F, ρ, S, R, Post.seq p fun F1 ρ1 S1 H' a1 v s1 q1 r1 e1 p1 => ?_⟩
  refine ⟨U, F1, ρ1, S1, r1, Post.seq p1 fun F2 ρ2 S2 H2' b1 w s2 q2 r2 e2 p2 => ?_⟩
  have p2 : Post X.K U F2 ρ2 σ (RT X.K U σ) W Q (match op S2 a1 b1 with | some k => .ok k S2 | none => .stuck) := p2
  cases ec : op S2 a1 b1 with
  | none => rw [ec] at p2; exact p2.elim
  | some c =>
    rw [ec] at p2
    exact hg U F2 ρ2 S2 σ H2' a1 b1 c v w _ r2 (e1.mono s2 q2) e2 ec ⟨c, rfl, p2 F2 ρ2 H2' c (Same.refl _) (List.prefix_refl _) r2 rfl⟩
theorem pt_cm {o : CmpOp} {op : SS → PV → PV → Option Bool} {r : R2} {a b : Expr} {f g : M PV} (ho : OpR X (compareOp o) r) (hg : GoodC X op r) (ha : PPm X a f) (hb : PPm X b g) (hm : behindInMarks o b = false) : PTm X (.Compare a [o] [b] pos) (cmpM op f g) := fun W tk =>
  PT.weak (pt_cmpR ho (ha W tk) (hb W tk) hm) fun σ H Q h => cmp_core hg h
theorem pm_cm {o : CmpOp} {op : SS → PV → PV → Option Bool} {r : R2} {a b : Expr} {f g : M PV} (ho : OpR X (compareOp o) r) (hg : GoodC X op r) (ha : PPm X a f) (hb : PPm X b g) (hm : behindInMarks o b = false) : PEm X (.Compare a [o] [b] pos) (bvM (cmpM op f g)) := fun W tk =>
  PE.weak (pe_cmpR ho (ha W tk) (hb W tk) hm) fun σ H Q ⟨U, F, ρ, S, R, p⟩ => by
    have h2 : tG X.K W (RT X.K) (cmpM op f g) σ H (fun c H' => Q (.bl c) H') := ⟨U, F, ρ, S, R, Post.seq p fun F1 ρ1 S1 H' a1 v s1 q1 r1 e1 p1 => by
      have e1 : v = a1 := e1
      subst e1
      exact p1 F1 ρ1 H' _ (Same.refl _) (List.prefix_refl _) r1 emb_bl'⟩
    have h3 := cmp_core (r := r) hg h2
    obtain ⟨U, F, ρ, S, R, p⟩ := h2
    refine ⟨U, F, ρ, S, R, Post.seq p fun F1 ρ1 S1 H' a1 v s1 q1 r1 e1 p1 => ?_⟩
    refine ⟨U, F1, ρ1, S1, r1, Post.seq p1 fun F2 ρ2 S2 H2' b1 w s2 q2 r2 e2 p2 => ?_⟩
    have p2 : Post X.K U F2 ρ2 σ (RT X.K U σ) W (fun c H' => Q (.bl c) H') (match op S2 a1 b1 with | some k => .ok k S2 | none => .stuck) := p2
    cases ec : op S2 a1 b1 with
    | none => rw [ec] at p2; exact p2.elim
    | some c =>
      rw [ec] at p2
      exact hg U F2 ρ2 S2 σ H2' a1 b1 c v w _ r2 (e1.mono s2 q2) e2 ec (p2 F2 ρ2 H2' c (Same.refl _) (List.prefix_refl _) r2 rfl)
def intC (c : Int → Int → Bool) (s : SS) (a b : PV) : Option Bool := match avP a s, avP b s with
  | some (.int i), some (.int j) => some (c i j)
  | _, _ => none
theorem gc_int {c : Int → Int → Bool} : GoodC X (intC c) (rI0 fun i j => .bl (c i j)) := by
  intro U F ρ S σ H a b k x y Q R ea eb e q
  unfold intC at e
  split at e
  · rename_i i j h1 h2
    cases e
    exact ⟨i, j, emb_int (avP_ok R ea h1), emb_int (avP_ok R eb h2), q⟩
  · cases e
def strC (c : Str → Str → Bool) (s : SS) (a b : PV) : Option Bool := match avP a s, avP b s with
  | some (.str i), some (.str j) => some (c i j)
  | _, _ => none
theorem gc_str {c : Str → Str → Bool} : GoodC X (strC c) (fun x y H Q => ∃ i j, x = .str i ∧ y = .str j ∧ Q (.bl (c i j)) H) := by
  intro U F ρ S σ H a b k x y Q R ea eb e q
  unfold strC at e
  split at e
  · rename_i i j h1 h2
    cases e
    exact ⟨i, j, emb_str (avP_ok R ea h1), emb_str (avP_ok R eb h2), q⟩
  · cases e
def ltC (s : SS) (a b : PV) : Option Bool := (intC (fun i j => decide (i < j)) s a b).or (strC (fun i j => decide (i.cps.toList < j.cps.toList)) s a b)
theorem gc_lt : OpR X (compareOp .Lt) (fun x y H Q => rI0 (fun i j => .bl (decide (i < j))) x y H Q ∨ ∃ i j, x = .str i ∧ y = .str j ∧ Q (.bl (decide (i.cps.toList < j.cps.toList))) H) := OpR.or op_lt op_lt_str
theorem pt_lt {a b : Expr} {f g : M PV} (ha : PPm X a f) (hb : PPm X b g) : PTm X (.Compare a [.Lt] [b] pos) (cmpM ltC f g) := pt_cm gc_lt (gc_int.or gc_str) ha hb (nomark _)
theorem pm_lt {a b : Expr} {f g : M PV} (ha : PPm X a f) (hb : PPm X b g) : PEm X (.Compare a [.Lt] [b] pos) (bvM (cmpM ltC f g)) := pm_cm gc_lt (gc_int.or gc_str) ha hb (nomark _)
def leC (s : SS) (a b : PV) : Option Bool := (intC (fun i j => decide (i ≤ j)) s a b).or (strC (fun i j => !decide (j.cps.toList < i.cps.toList)) s a b)
abbrev gtC := intC fun i j => decide (j < i)
abbrev geC := intC fun i j => decide (j ≤ i)
theorem pt_gt {a b : Expr} {f g : M PV} (ha : PPm X a f) (hb : PPm X b g) : PTm X (.Compare a [.Gt] [b] pos) (cmpM gtC f g) := pt_cm op_gt gc_int ha hb (nomark _)
theorem pm_gt {a b : Expr} {f g : M PV} (ha : PPm X a f) (hb : PPm X b g) : PEm X (.Compare a [.Gt] [b] pos) (bvM (cmpM gtC f g)) := pm_cm op_gt gc_int ha hb (nomark _)
theorem pt_ge {a b : Expr} {f g : M PV} (ha : PPm X a f) (hb : PPm X b g) : PTm X (.Compare a [.GtE] [b] pos) (cmpM geC f g) := pt_cm op_ge gc_int ha hb (nomark _)
theorem pm_ge {a b : Expr} {f g : M PV} (ha : PPm X a f) (hb : PPm X b g) : PEm X (.Compare a [.GtE] [b] pos) (bvM (cmpM geC f g)) := pm_cm op_ge gc_int ha hb (nomark _)
end
end LM

namespace LM
open PyProof.Rows hiding St frameOf passOn
open PySem PySem.Spec L2
variable [TabNames]
/-! ## dicts by their keys -/
def kk (t : Bool) (k : AV) : Option (Key ⊕ List Key) := if t then (tkOf k).map .inr else (kOf k).map .inl
def keq (t : Bool) (a b : AV) : Bool := decide (kk t a = kk t b)
def dGet (t : Bool) (kvs : List (AV × AV)) (k : AV) : Option AV := (kvs.find? fun p => keq t p.1 k).map (·.2)
def dPut (t : Bool) (kvs : List (AV × AV)) (k x : AV) : List (AV × AV) := if (kvs.any fun p => keq t p.1 k) = true then kvs.map (fun p => if keq t p.1 k = true then (p.1, x) else p) else kvs ++ [(k, x)]
def dDrop (t : Bool) (kvs : List (AV × AV)) (k : AV) : List (AV × AV) := kvs.filter fun p => !keq t p.1 k
section
variable {K : PySem.W.Frag} {F : Hp} {ρ : List Addr}
theorem keqK {a b : AV} {k j : Key} (ha : kOf a = some k) (hb : kOf b = some j) : keq false a b = decide (k = j) := by
  unfold keq kk
  rw [if_neg Bool.false_ne_true, if_neg Bool.false_ne_true, ha, hb]
  simp
theorem keqT {a b : AV} {k j : List Key} (ha : tkOf a = some k) (hb : tkOf b = some j) : keq true a b = decide (k = j) := by
  unfold keq kk
  rw [if_pos rfl, if_pos rfl, ha, hb]
  simp
theorem EmbK.get {k : AV} {k' : Key} (hk : kOf k = some k') : ∀ {kvs : List (AV × AV)} {kv : List (Key × V)}, EmbK K F ρ kvs kv →
    (∀ x, dGet false kvs k = some x → ∃ v, valV kv k' = some v ∧ Emb K F ρ x v) ∧ (dGet false kvs k = none → valV kv k' = none)
  | [], _, h => by simp only [EmbK] at h; subst h; simp [dGet, valV]
  | (j, x) :: r, _, h => by
    simp only [EmbK] at h
    obtain ⟨j', v, r', rfl, e1, e2, e3⟩ := h
    have q := keqK e1 hk
    obtain ⟨i1, i2⟩ := EmbK.get hk e3
    by_cases hj : j' = k'
    · have qq : keq false j k = true := by rw [q]; exact decide_eq_true hj
      have g : dGet false ((j, x) :: r) k = some x := by simp [dGet, List.find?_cons, qq]
      rw [g]
      exact ⟨fun y hy => by cases hy; exact ⟨v, valV_pos hj, e2⟩, fun z => by cases z⟩
    · have qq : keq false j k = false := by rw [q]; exact decide_eq_false hj
      have g : dGet false ((j, x) :: r) k = dGet false r k := by simp [dGet, List.find?_cons, qq]
      rw [g, valV_neg (p := (j', v)) (r := r') (k := k') hj]
      exact ⟨i1, i2⟩
theorem EmbT.get {k : AV} {k' : List Key} (hk : tkOf k = some k') : ∀ {kvs : List (AV × AV)} {kv : List (List Key × V)}, EmbT K F ρ kvs kv →
    (∀ x, dGet true kvs k = some x → ∃ v, valV kv k' = some v ∧ Emb K F ρ x v) ∧ (dGet true kvs k = none → valV kv k' = none)
  | [], _, h => by simp only [EmbT] at h; subst h; simp [dGet, valV]
  | (j, x) :: r, _, h => by
    simp only [EmbT] at h
    obtain ⟨j', v, r', rfl, e1, e2, e3⟩ := h
    have q := keqT e1 hk
    obtain ⟨i1, i2⟩ := EmbT.get hk e3
    by_cases hj : j' = k'
    · have qq : keq true j k = true := by rw [q]; exact decide_eq_true hj
      have g : dGet true ((j, x) :: r) k = some x := by simp [dGet, List.find?_cons, qq]
      rw [g]
      exact ⟨fun y hy => by cases hy; exact ⟨v, valV_pos hj, e2⟩, fun z => by cases z⟩
    · have qq : keq true j k = false := by rw [q]; exact decide_eq_false hj
      have g : dGet true ((j, x) :: r) k = dGet true r k := by simp [dGet, List.find?_cons, qq]
      rw [g, valV_neg (p := (j', v)) (r := r') (k := k') hj]
      exact ⟨i1, i2⟩
theorem EmbK.any {k : AV} {k' : Key} (hk : kOf k = some k') : ∀ {kvs : List (AV × AV)} {kv : List (Key × V)}, EmbK K F ρ kvs kv → (kvs.any fun p => keq false p.1 k) = kv.any fun p => decide (p.1 = k')
  | [], _, h => by simp only [EmbK] at h; subst h; rfl
  | (j, x) :: r, _, h => by
    simp only [EmbK] at h
    obtain ⟨j', v, r', rfl, e1, e2, e3⟩ := h
    rw [List.any_cons, List.any_cons, EmbK.any hk e3, keqK e1 hk]
theorem EmbT.any {k : AV} {k' : List Key} (hk : tkOf k = some k') : ∀ {kvs : List (AV × AV)} {kv : List (List Key × V)}, EmbT K F ρ kvs kv → (kvs.any fun p => keq true p.1 k) = kv.any fun p => decide (p.1 = k')
  | [], _, h => by simp only [EmbT] at h; subst h; rfl
  | (j, x) :: r, _, h => by
    simp only [EmbT] at h
    obtain ⟨j', v, r', rfl, e1, e2, e3⟩ := h
    rw [List.any_cons, List.any_cons, EmbT.any hk e3, keqT e1 hk]
theorem EmbK.snoc {k x : AV} {k' : Key} {v : V} (hk : kOf k = some k') (hx : Emb K F ρ x v) : ∀ {kvs : List (AV × AV)} {kv : List (Key × V)}, EmbK K F ρ kvs kv → EmbK K F ρ (kvs ++ [(k, x)]) (kv ++ [(k', v)])
  | [], _, h => by simp only [EmbK] at h; subst h; simp only [List.nil_append, EmbK]; exact ⟨k', v, [], rfl, hk, hx, rfl⟩
  | (j, y) :: r, _, h => by
    simp only [EmbK] at h
    obtain ⟨j', w, r', rfl, e1, e2, e3⟩ := h
    simp only [List.cons_append, EmbK]
    exact ⟨j', w, _, rfl, e1, e2, EmbK.snoc hk hx e3⟩
theorem EmbT.snoc {k x : AV} {k' : List Key} {v : V} (hk : tkOf k = some k') (hx : Emb K F ρ x v) : ∀ {kvs : List (AV × AV)} {kv : List (List Key × V)}, EmbT K F ρ kvs kv → EmbT K F ρ (kvs ++ [(k, x)]) (kv ++ [(k', v)])
  | [], _, h => by simp only [EmbT] at h; subst h; simp only [List.nil_append, EmbT]; exact ⟨k', v, [], rfl, hk, hx, rfl⟩
  | (j, y) :: r, _, h => by
    simp only [EmbT] at h
    obtain ⟨j', w, r', rfl, e1, e2, e3⟩ := h
    simp only [List.cons_append, EmbT]
    exact ⟨j', w, _, rfl, e1, e2, EmbT.snoc hk hx e3⟩
theorem EmbK.repl {k x : AV} {k' : Key} {v : V} (hk : kOf k = some k') (hx : Emb K F ρ x v) : ∀ {kvs : List (AV × AV)} {kv : List (Key × V)}, EmbK K F ρ kvs kv →
    EmbK K F ρ (kvs.map fun p => if keq false p.1 k = true then (p.1, x) else p) (kv.map fun p => if p.1 = k' then (p.1, v) else p)
  | [], _, h => by simp only [EmbK] at h; subst h; simp [EmbK]
  | (j, y) :: r, _, h => by
    simp only [EmbK] at h
    obtain ⟨j', w, r', rfl, e1, e2, e3⟩ := h
    have q := keqK e1 hk
    have ih := EmbK.repl hk hx e3
    rw [List.map_cons, List.map_cons]
    by_cases hj : j' = k'
    · have qq : keq false j k = true := by rw [q]; exact decide_eq_true hj
      simp only [qq, if_true, hj]
      simp only [EmbK]
      exact ⟨k', v, _, rfl, by rw [← hj]; exact e1, hx, ih⟩
    · have qq : keq false j k = false := by rw [q]; exact decide_eq_false hj
      simp only [qq, Bool.false_eq_true, if_false, hj]
      simp only [EmbK]
      exact ⟨j', w, _, rfl, e1, e2, ih⟩
theorem EmbT.repl {k x : AV} {k' : List Key} {v : V} (hk : tkOf k = some k') (hx : Emb K F ρ x v) : ∀ {kvs : List (AV × AV)} {kv : List (List Key × V)}, EmbT K F ρ kvs kv →
    EmbT K F ρ (kvs.map fun p => if keq true p.1 k = true then (p.1, x) else p) (kv.map fun p => if p.1 = k' then (p.1, v) else p)
  | [], _, h => by simp only [EmbT] at h; subst h; simp [EmbT]
  | (j, y) :: r, _, h => by
    simp only [EmbT] at h
    obtain ⟨j', w, r', rfl, e1, e2, e3⟩ := h
    have q := keqT e1 hk
    have ih := EmbT.repl hk hx e3
    rw [List.map_cons, List.map_cons]
    by_cases hj : j' = k'
    · have qq : keq true j k = true := by rw [q]; exact decide_eq_true hj
      simp only [qq, if_true, hj]
      simp only [EmbT]
      exact ⟨k', v, _, rfl, by rw [← hj]; exact e1, hx, ih⟩
    · have qq : keq true j k = false := by rw [q]; exact decide_eq_false hj
      simp only [qq, Bool.false_eq_true, if_false, hj]
      simp only [EmbT]
      exact ⟨j', w, _, rfl, e1, e2, ih⟩
theorem EmbK.put {k x : AV} {k' : Key} {v : V} (hk : kOf k = some k') (hx : Emb K F ρ x v) {kvs : List (AV × AV)} {kv : List (Key × V)} (h : EmbK K F ρ kvs kv) : EmbK K F ρ (dPut false kvs k x) (putK kv k' v) := by
  unfold dPut putK
  rw [EmbK.any hk h]
  split
  · exact EmbK.repl hk hx h
  · exact EmbK.snoc hk hx h
theorem EmbT.put {k x : AV} {k' : List Key} {v : V} (hk : tkOf k = some k') (hx : Emb K F ρ x v) {kvs : List (AV × AV)} {kv : List (List Key × V)} (h : EmbT K F ρ kvs kv) : EmbT K F ρ (dPut true kvs k x) (putK kv k' v) := by
  unfold dPut putK
  rw [EmbT.any hk h]
  split
  · exact EmbT.repl hk hx h
  · exact EmbT.snoc hk hx h
theorem EmbK.drop {k : AV} {k' : Key} (hk : kOf k = some k') : ∀ {kvs : List (AV × AV)} {kv : List (Key × V)}, EmbK K F ρ kvs kv → EmbK K F ρ (dDrop false kvs k) (dropK kv k')
  | [], _, h => by simp only [EmbK] at h; subst h; simp [dDrop, dropK, EmbK]
  | (j, y) :: r, _, h => by
    simp only [EmbK] at h
    obtain ⟨j', w, r', rfl, e1, e2, e3⟩ := h
    have q := keqK e1 hk
    have ih := EmbK.drop hk e3
    unfold dDrop dropK at ih ⊢
    rw [List.filter_cons, List.filter_cons]
    by_cases hj : j' = k'
    · have qq : keq false j k = true := by rw [q]; exact decide_eq_true hj
      simp only [qq, Bool.not_true, Bool.false_eq_true, if_false, hj, ne_eq, not_true_eq_false, decide_false]
      exact ih
    · have qq : keq false j k = false := by rw [q]; exact decide_eq_false hj
      simp only [qq, Bool.not_false, if_true, hj, ne_eq, not_false_eq_true, decide_true]
      simp only [EmbK]
      exact ⟨j', w, _, rfl, e1, e2, ih⟩
theorem EmbK.length : ∀ {kvs : List (AV × AV)} {kv : List (Key × V)}, EmbK K F ρ kvs kv → kv.length = kvs.length
  | [], _, h => by simp only [EmbK] at h; subst h; rfl
  | (j, y) :: r, _, h => by
    simp only [EmbK] at h
    obtain ⟨j', w, r', rfl, e1, e2, e3⟩ := h
    simp [EmbK.length e3]
theorem EmbT.length : ∀ {kvs : List (AV × AV)} {kv : List (List Key × V)}, EmbT K F ρ kvs kv → kv.length = kvs.length
  | [], _, h => by simp only [EmbT] at h; subst h; rfl
  | (j, y) :: r, _, h => by
    simp only [EmbT] at h
    obtain ⟨j', w, r', rfl, e1, e2, e3⟩ := h
    simp [EmbT.length e3]
theorem emb_kV {k : AV} {k' : Key} {v : V} (hk : kOf k = some k') (h : Emb K F ρ k v) : v = kV k' := by
  cases k with
  | int i => cases hk; exact emb_int h
  | str x => cases hk; exact emb_str h
  | _ => cases hk
theorem embL_kV : ∀ {xs : List AV} {ks : List Key} {vs : List V}, xs.mapM kOf = some ks → EmbL K F ρ xs vs → vs = ks.map kV
  | [], ks, vs, hk, h => by
    simp only [EmbL] at h
    subst h
    have : ([] : List Key) = ks := by simpa using hk
    subst this; rfl
  | x :: xs, ks, vs, hk, h => by
    simp only [EmbL] at h
    obtain ⟨v, r, rfl, h1, h2⟩ := h
    rw [List.mapM_cons] at hk
    cases e1 : kOf x with
    | none => rw [e1] at hk; cases hk
    | some k =>
      rw [e1] at hk
      cases e2 : xs.mapM kOf with
      | none => rw [e2] at hk; cases hk
      | some kr =>
        rw [e2] at hk
        have : k :: kr = ks := by simpa using hk
        subst this
        rw [List.map_cons, emb_kV e1 h1, embL_kV e2 h2]
theorem emb_tkV {U H : Hp} {S : SS} {σ : St} (R : Rep K U F ρ S σ H) {k : AV} {ks : List Key} {v : V} (hk : tkOf k = some ks) (h : Emb K F ρ k v) : ∃ b, v = .ref b ∧ H b = some (.tup (ks.map kV)) := by
  cases k with
  | tup xs =>
    simp only [Emb] at h
    obtain ⟨p, vs, rfl, h1, h2⟩ := h
    refine ⟨p, rfl, ?_⟩
    rw [← embL_kV (show xs.mapM kOf = some ks from hk) h2]
    exact R.tupF h1
  | _ => cases hk
/-- what a dict that is read tells at a key -/
theorem dget_ok {U H : Hp} {S : SS} {σ : St} (R : Rep K U F ρ S σ H) {t : Bool} {kvs : List (AV × AV)} {v y : V} {k : AV} (c : CoV K F ρ H v (.ob (.dic t kvs))) (hy : Emb K F ρ k y) (hk : (kk t k).isSome = true) :
    ∃ a o, v = .ref a ∧ DGet H a y o ∧ (∀ x, dGet t kvs k = some x → ∃ w, o = some w ∧ Emb K F ρ x w) ∧ (dGet t kvs k = none → o = none) := by
  obtain ⟨p, rfl, ⟨rfl, kv, rd, em⟩ | ⟨rfl, kv, rd, em⟩⟩ := c
  · cases e : kOf k with
    | none => simp [kk, e] at hk
    | some k' =>
      obtain ⟨g1, g2⟩ := EmbK.get e em
      exact ⟨p, valV kv k', rfl, .inl ⟨kv, k', rd, emb_kV e hy, rfl⟩, g1, g2⟩
  · cases e : tkOf k with
    | none => simp [kk, e] at hk
    | some k' =>
      obtain ⟨g1, g2⟩ := EmbT.get e em
      obtain ⟨b, rfl, hb⟩ := emb_tkV R e hy
      exact ⟨p, valV kv k', rfl, .inr ⟨kv, k', b, rd, rfl, hb, rfl⟩, g1, g2⟩
end
section
variable {X : Cx} {pos : Pos}
/-! ## equality of data -/
mutual
def eqA : AV → AV → Bool
  | .non, .non => true
  | .bl a, .bl b => a == b
  | .bl a, .int j => decide ((if a then 1 else 0) = j)
  | .int i, .bl b => decide (i = (if b then 1 else 0))
  | .int i, .int j => decide (i = j)
  | .str x, .str y => decide (x = y)
  | .vl xs, .vl ys => eqL xs ys
  | .vl xs, .cl ys => eqL xs ys
  | .cl xs, .vl ys => eqL xs ys
  | .cl xs, .cl ys => eqL xs ys
  | .tup xs, .tup ys => eqL xs ys
  | .tup xs, .ct ys => eqL xs ys
  | .ct xs, .tup ys => eqL xs ys
  | .ct xs, .ct ys => eqL xs ys
  | _, _ => false
def eqL : List AV → List AV → Bool
  | [], [] => true
  | x :: xs, y :: ys => eqA x y && eqL xs ys
  | _, _ => false
end
mutual
/-- plain data, not deeper than n, its texts' signs in bounds -/
def okA (n : Nat) : AV → Bool
  | .non => true
  | .bl _ => true
  | .int _ => true
  | .str x => x.cps.all (· < 0x110000)
  | .vl xs => match n with
    | 0 => false
    | n + 1 => okL n xs
  | .cl xs => match n with
    | 0 => false
    | n + 1 => okL n xs
  | .tup xs => match n with
    | 0 => false
    | n + 1 => okL n xs
  | .ct xs => match n with
    | 0 => false
    | n + 1 => okL n xs
  | _ => false
def okL (n : Nat) : List AV → Bool
  | [] => true
  | x :: xs => okA n x && okL n xs
end
mutual
def datA : AV → PyData
  | .bl b => .bool b
  | .int i => .int i
  | .str x => .str x
  | .vl xs => .list (datL xs)
  | .cl xs => .list (datL xs)
  | .tup xs => .tuple (datL xs)
  | .ct xs => .tuple (datL xs)
  | _ => .none
def datL : List AV → List PyData
  | [] => []
  | x :: xs => datA x :: datL xs
end
mutual
theorem ok_shape : ∀ (n : Nat) (a : AV), okA n a = true → (datA a).canLay0 = true ∧ (datA a).depth ≤ n
  | n, .non, _ => by simp [datA, PyData.canLay0, PyData.depth]
  | n, .bl _, _ => by simp [datA, PyData.canLay0, PyData.depth]
  | n, .int _, _ => by simp [datA, PyData.canLay0, PyData.depth]
  | n, .str x, h => by
    simp only [okA] at h
    simp only [datA, PyData.canLay0, PyData.depth]
    exact ⟨h, Nat.zero_le _⟩
  | 0, .vl xs, h => by simp [okA] at h
  | 0, .cl xs, h => by simp [okA] at h
  | 0, .tup xs, h => by simp [okA] at h
  | 0, .ct xs, h => by simp [okA] at h
  | n + 1, .vl xs, h => by
    simp only [okA] at h
    obtain ⟨h1, h2⟩ := ok_shapeL n xs h
    simp only [datA, PyData.canLay0, PyData.depth]
    exact ⟨h1, by omega⟩
  | n + 1, .cl xs, h => by
    simp only [okA] at h
    obtain ⟨h1, h2⟩ := ok_shapeL n xs h
    simp only [datA, PyData.canLay0, PyData.depth]
    exact ⟨h1, by omega⟩
  | n + 1, .tup xs, h => by
    simp only [okA] at h
    obtain ⟨h1, h2⟩ := ok_shapeL n xs h
    simp only [datA, PyData.canLay0, PyData.depth]
    exact ⟨h1, by omega⟩
  | n + 1, .ct xs, h => by
    simp only [okA] at h
    obtain ⟨h1, h2⟩ := ok_shapeL n xs h
    simp only [datA, PyData.canLay0, PyData.depth]
    exact ⟨h1, by omega⟩
  | n, .vd _ _, h => by simp [okA] at h
  | n, .ob _ _, h => by simp [okA] at h
  | n, .ref _, h => by simp [okA] at h
theorem ok_shapeL : ∀ (n : Nat) (a : List AV), okL n a = true → PyData.canLayAll0 (datL a) = true ∧ PyData.depthAll (datL a) ≤ n
  | n, [], _ => by simp [datL, PyData.canLayAll0, PyData.depthAll]
  | n, x :: xs, h => by
    simp only [okL, Bool.and_eq_true] at h
    obtain ⟨h1, h2⟩ := ok_shape n x h.1
    obtain ⟨h3, h4⟩ := ok_shapeL n xs h.2
    simp only [datL, PyData.canLayAll0, PyData.depthAll, h1, h3, Bool.and_self, true_and]
    omega
end
theorem ok_shaped {a : AV} (h : okA 60 a = true) : SeqAt.shaped (datA a) = true := by
  obtain ⟨h1, h2⟩ := ok_shape 60 a h
  unfold SeqAt.shaped
  rw [h1, Bool.true_and]
  exact decide_eq_true (by omega)
mutual
theorem dp_of {K : PySem.W.Frag} {U F H : Hp} {ρ : List Addr} {S : SS} {σ : St} (R : Rep K U F ρ S σ H) : ∀ (n : Nat) (a : AV) (v : V), okA n a = true → Emb K F ρ a v → Dp K H v (datA a)
  | n, .non, v, _, h => by rw [emb_non h]; simp only [datA]; exact .non
  | n, .bl b, v, _, h => by rw [emb_bl h]; simp only [datA]; exact .bl b
  | n, .int b, v, _, h => by rw [emb_int h]; simp only [datA]; exact .int b
  | n, .str b, v, _, h => by rw [emb_str h]; simp only [datA]; exact .str b
  | 0, .vl xs, v, o, h => by simp [okA] at o
  | 0, .cl xs, v, o, h => by simp [okA] at o
  | 0, .tup xs, v, o, h => by simp [okA] at o
  | 0, .ct xs, v, o, h => by simp [okA] at o
  | n + 1, .vl xs, v, o, h => by
    simp only [okA] at o
    simp only [Emb] at h
    obtain ⟨p, vs, rfl, h1, h2⟩ := h
    simp only [datA]
    exact .lst (R.lstF (SqL.of h1)) (dp_ofL R n xs vs o h2)
  | n + 1, .cl xs, v, o, h => by
    simp only [okA] at o
    simp only [Emb] at h
    obtain ⟨p, vs, rfl, h1, h2⟩ := h
    simp only [datA]
    exact .lst (R.lstF h1) (dp_ofL R n xs vs o h2)
  | n + 1, .tup xs, v, o, h => by
    simp only [okA] at o
    simp only [Emb] at h
    obtain ⟨p, vs, rfl, h1, h2⟩ := h
    simp only [datA]
    exact .tup (SqT.of (R.tupF h1)) (dp_ofL R n xs vs o h2)
  | n + 1, .ct xs, v, o, h => by
    simp only [okA] at o
    simp only [Emb] at h
    obtain ⟨p, vs, rfl, h1, h2⟩ := h
    simp only [datA]
    exact .tup (seqT0 h1) (dp_ofL R n xs vs o h2)
  | n, .vd _ _, _, o, _ => by simp [okA] at o
  | n, .ob _ _, _, o, _ => by simp [okA] at o
  | n, .ref _, _, o, _ => by simp [okA] at o
theorem dp_ofL {K : PySem.W.Frag} {U F H : Hp} {ρ : List Addr} {S : SS} {σ : St} (R : Rep K U F ρ S σ H) : ∀ (n : Nat) (a : List AV) (v : List V), okL n a = true → EmbL K F ρ a v → DpAll K H v (datL a)
  | n, [], v, _, h => by simp only [EmbL] at h; subst h; simp only [datL]; exact .nil
  | n, x :: xs, v, o, h => by
    simp only [EmbL] at h
    obtain ⟨w, r, rfl, h1, h2⟩ := h
    simp only [okL, Bool.and_eq_true] at o
    simp only [datL]
    exact .cons (dp_of R n x w o.1 h1) (dp_ofL R n xs r o.2 h2)
end
theorem beq_dec {α : Type} [BEq α] [LawfulBEq α] [DecidableEq α] (a b : α) : (a == b) = decide (a = b) := by
  by_cases h : a = b
  · rw [decide_eq_true h, h]; exact beq_self_eq_true b
  · rw [decide_eq_false h]; exact beq_eq_false_iff_ne.mpr h
mutual
theorem eqv_eq : ∀ (n : Nat) (a b : AV), okA n a = true → okA n b = true → PyData.eqv (datA a) (datA b) = eqA a b := by
  intro n a b ha hb
  cases a <;> cases b <;> first
    | (simp [okA] at ha; done)
    | (simp [okA] at hb; done)
    | (simp only [datA, PyData.eqv, eqA]; done)
    | (simp only [datA, PyData.eqv, eqA, beq_dec]; done)
    | (cases n with
        | zero => first | (simp [okA] at ha; done) | (simp [okA] at hb; done)
        | succ n =>
          simp only [okA] at ha hb
          simp only [datA, PyData.eqv, eqA]
          exact eqvL_eq n _ _ ha hb)
theorem eqvL_eq : ∀ (n : Nat) (a b : List AV), okL n a = true → okL n b = true → PyData.eqvAll (datL a) (datL b) = eqL a b
  | n, [], [], _, _ => by simp [datL, PyData.eqvAll, eqL]
  | n, [], _ :: _, _, _ => by simp [datL, PyData.eqvAll, eqL]
  | n, _ :: _, [], _, _ => by simp [datL, PyData.eqvAll, eqL]
  | n, x :: xs, y :: ys, ha, hb => by
    simp only [okL, Bool.and_eq_true] at ha hb
    simp only [datL, PyData.eqvAll, eqL, eqv_eq n x y ha.1 hb.1, eqvL_eq n xs ys ha.2 hb.2]
end
end
end LM

namespace LM
open PyProof.Rows hiding St frameOf passOn
open PySem PySem.Spec L2
variable [TabNames]
section
variable {X : Cx} {pos : Pos}
/-! ## == , in, is None -/
/-- a place as data -/
def plP (pv : PV) (s : SS) : Option AV := match coP pv s with
  | .ob (.lst xs) => some (.vl xs)
  | _ => avP pv s
theorem plP_dp {K : PySem.W.Frag} {U F H : Hp} {ρ : List Addr} {S : SS} {σ : St} (R : Rep K U F ρ S σ H) {p : PV} {v : V} {a : AV} (h : EmbP K F ρ σ p v) (e : plP p S = some a) (o : okA 60 a = true) : Dp K H v (datA a) := by
  unfold plP at e
  have c := coP_ok R h
  split at e
  · rename_i xs hc
    cases e
    rw [hc] at c
    obtain ⟨q, vs, rfl, h1, h2⟩ := c
    simp only [okA] at o
    simp only [datA]
    exact .lst h1 (dp_ofL R 59 xs vs o h2)
  · exact dp_of R 60 a v o (avP_ok R h e)
def eqC (s : SS) (a b : PV) : Option Bool := match plP a s, plP b s with
  | some x, some y => if okA 60 x && okA 60 y then some (eqA x y) else none
  | _, _ => none
def neC (s : SS) (a b : PV) : Option Bool := (eqC s a b).map (!·)
theorem gc_eq : GoodC X eqC (rEqD X.K) := by
  intro U F ρ S σ H a b k x y Q R ea eb e q
  unfold eqC at e
  split at e
  · rename_i u w h1 h2
    split at e
    · rename_i h3
      cases e
      obtain ⟨o1, o2⟩ := Bool.and_eq_true_iff.mp h3
      refine ⟨datA u, datA w, plP_dp R ea h1 o1, plP_dp R eb h2 o2, ok_shaped o1, ok_shaped o2, ?_⟩
      rw [eqv_eq 60 u w o1 o2]
      exact q
    · cases e
  · cases e
theorem gc_ne : GoodC X neC (rNeD X.K) := by
  intro U F ρ S σ H a b k x y Q R ea eb e q
  unfold neC eqC at e
  split at e
  · rename_i u w h1 h2
    split at e
    · rename_i h3
      cases e
      obtain ⟨o1, o2⟩ := Bool.and_eq_true_iff.mp h3
      refine ⟨datA u, datA w, plP_dp R ea h1 o1, plP_dp R eb h2 o2, ok_shaped o1, ok_shaped o2, ?_⟩
      rw [eqv_eq 60 u w o1 o2]
      exact q
    · cases e
  · cases e
theorem pt_eq {a b : Expr} {f g : M PV} (hu : X.A.units + 64 < cLine) (ha : PPm X a f) (hb : PPm X b g) : PTm X (.Compare a [.Eq] [b] pos) (cmpM eqC f g) := pt_cm (op_eqD hu) gc_eq ha hb (nomark _)
theorem pm_eq {a b : Expr} {f g : M PV} (hu : X.A.units + 64 < cLine) (ha : PPm X a f) (hb : PPm X b g) : PEm X (.Compare a [.Eq] [b] pos) (bvM (cmpM eqC f g)) := pm_cm (op_eqD hu) gc_eq ha hb (nomark _)
theorem pt_ne {a b : Expr} {f g : M PV} (hu : X.A.units + 64 < cLine) (ha : PPm X a f) (hb : PPm X b g) : PTm X (.Compare a [.NotEq] [b] pos) (cmpM neC f g) := pt_cm (op_neD hu) gc_ne ha hb (nomark _)
theorem pm_ne {a b : Expr} {f g : M PV} (hu : X.A.units + 64 < cLine) (ha : PPm X a f) (hb : PPm X b g) : PEm X (.Compare a [.NotEq] [b] pos) (bvM (cmpM neC f g)) := pm_cm (op_neD hu) gc_ne ha hb (nomark _)
/-- x in a dict, a list, a tuple, a text -/
def inL (x : AV) (xs : List AV) : Bool := xs.any fun y => eqA y x
theorem any_dat {x : AV} (ox : okA 60 x = true) : ∀ {xs : List AV}, okL 59 xs = true → ((datL xs).any fun z => PyData.eqv z (datA x)) = inL x xs
  | [], _ => rfl
  | y :: ys, h => by
    have h2 : okA 59 y = true ∧ okL 59 ys = true := by simpa [okL] using h
    have m : ∀ (n : Nat), (∀ a, okA n a = true → okA (n + 1) a = true) ∧ ∀ a, okL n a = true → okL (n + 1) a = true := by
      intro n
      induction n with
      | zero =>
        have h1 : ∀ a, okA 0 a = true → okA 1 a = true := fun a h => by cases a <;> simp_all [okA]
        refine ⟨h1, fun a => ?_⟩
        induction a with
        | nil => intro _; rfl
        | cons b bs ih => intro h; simp only [okL, Bool.and_eq_true] at h ⊢; exact ⟨h1 b h.1, ih h.2⟩
      | succ n ihn =>
        obtain ⟨i1, i2⟩ := ihn
        have h1 : ∀ a, okA (n + 1) a = true → okA (n + 1 + 1) a = true := fun a h => by
          cases a <;> first
            | exact h
            | (simp only [okA] at h ⊢; exact i2 _ h)
            | (simp [okA] at h)
        refine ⟨h1, fun a => ?_⟩
        induction a with
        | nil => intro _; rfl
        | cons b bs ih => intro h; simp only [okL, Bool.and_eq_true] at h ⊢; exact ⟨h1 b h.1, ih h.2⟩
    simp only [datL, List.any_cons, inL]
    rw [eqv_eq 60 y x ((m 59).1 y h2.1) ox, any_dat ox h2.2]
    rfl
def inCd (s : SS) (a b : PV) : Option Bool := match plP a s, coP b s with
  | some k, .ob (.dic t kvs) => if (kk t k).isSome then some (dGet t kvs k).isSome else none
  | some x, .ob (.lst xs) => if okA 60 x && okA 60 (.vl xs) then some (inL x xs) else none
  | some x, .tup xs => if okA 60 x && okA 60 (.tup xs) then some (inL x xs) else none
  | _, _ => none
def inCs (s : SS) (a b : PV) : Option Bool := match plP a s, coP b s with
  | some (.str i), .str j => some (!(Builtin.Str.occurrences j i 0 j.length 1).isEmpty)
  | _, _ => none
def ng : Bool → Bool → Bool
  | false, k => k
  | true, k => !k
def rInA (neg : Bool) (K : PySem.W.Frag) : R2 := fun x y H Q =>
  (∃ a o, y = .ref a ∧ DGet H a x o ∧ Q (.bl (ng neg o.isSome)) H) ∨
  (∃ d ds, Dp K H x d ∧ (Dp K H y (.list ds) ∨ Dp K H y (.tuple ds)) ∧ SeqAt.shaped d = true ∧ SeqAt.shaped (.list ds) = true ∧ Q (.bl (ng neg (ds.any fun z => PyData.eqv z d))) H)
theorem room_in (hu : X.A.units + 65 < cLine) {d : PyData} {ds : List PyData} (sd : SeqAt.shaped d = true) : X.A.units + 1 + min (PyData.depthAll ds) d.depth < cLine := by
  have h1 := SeqAt.depth_of_shaped sd
  have h2 : min (PyData.depthAll ds) d.depth ≤ d.depth := Nat.min_le_right _ _
  omega
theorem op_inA (hu : X.A.units + 65 < cLine) : OpR X (compareOp .In) (rInA false X.K) := by
  intro pins s σ H x y v u Q I rx ry h
  rcases h with ⟨a, o, rfl, g, q⟩ | ⟨d, ds, hd, he | he, sd, se, q⟩
  · obtain rfl : u = Value.ref a := ry
    exact d_in (by omega) I g rx fun s' I' => ⟨.bl _, H, I', rfl, q⟩
  · exact op_inD hu pins s σ H x y v u Q I rx ry ⟨d, ds, hd, he, sd, se, q⟩
  · obtain ⟨as, r1⟩ := Dp.reads I d x v hd rx
    obtain ⟨bs, r2⟩ := Dp.reads I (.tuple ds) y u he ry
    exact SeqAt.in_tuple_reads r2 r1 (SeqAt.canLay_of_shaped se) (SeqAt.canLay_of_shaped sd) (room_in hu sd) ⟨.bl _, H, I, rfl, q⟩
theorem op_notInA (hu : X.A.units + 65 < cLine) : OpR X (compareOp .NotIn) (rInA true X.K) := by
  intro pins s σ H x y v u Q I rx ry h
  rcases h with ⟨a, o, rfl, g, q⟩ | ⟨d, ds, hd, he | he, sd, se, q⟩
  · obtain rfl : u = Value.ref a := ry
    exact d_notIn (by omega) I g rx fun s' I' => ⟨.bl _, H, I', rfl, q⟩
  · exact op_notInD hu pins s σ H x y v u Q I rx ry ⟨d, ds, hd, he, sd, se, q⟩
  · obtain ⟨as, r1⟩ := Dp.reads I d x v hd rx
    obtain ⟨bs, r2⟩ := Dp.reads I (.tuple ds) y u he ry
    exact SeqAt.notIn_tuple_reads r2 r1 (SeqAt.canLay_of_shaped se) (SeqAt.canLay_of_shaped sd) (room_in hu sd) ⟨.bl _, H, I, rfl, q⟩
theorem shaped_vl {xs : List AV} (h : okL 59 xs = true) : SeqAt.shaped (.list (datL xs)) = true := by
  have := ok_shaped (a := .vl xs) (by simpa only [okA] using h)
  simpa only [datA] using this
theorem plP_emb {K : PySem.W.Frag} {U F H : Hp} {ρ : List Addr} {S : SS} {σ : St} (R : Rep K U F ρ S σ H) {p : PV} {v : V} {a : AV} {t : Bool} (h : EmbP K F ρ σ p v) (e : plP p S = some a) (hk : (kk t a).isSome = true) : Emb K F ρ a v := by
  unfold plP at e
  split at e
  · cases e
    cases t <;> simp [kk, kOf, tkOf] at hk
  · exact avP_ok R h e
theorem gc_inA (neg : Bool) : GoodC X (fun s a b => (inCd s a b).map fun k => ng neg k) (rInA neg X.K) := by
  intro U F ρ S σ H a b k x y Q R ea eb e q
  dsimp only at e
  have cb := coP_ok R eb
  unfold inCd at e
  split at e
  · rename_i ka t kvs h1 h2
    rw [h2] at cb
    split at e
    · rename_i hk
      cases e
      obtain ⟨p, o, rfl, g, g1, g2⟩ := dget_ok R cb (plP_emb R ea h1 hk) hk
      refine .inl ⟨p, o, rfl, g, ?_⟩
      have : o.isSome = (dGet t kvs ka).isSome := by
        cases z : dGet t kvs ka with
        | none => rw [g2 z]; rfl
        | some w => obtain ⟨w', e', _⟩ := g1 w z; rw [e']; rfl
      rw [this]
      exact q
    · cases e
  · rename_i xa xs h1 h2
    rw [h2] at cb
    split at e
    · rename_i hk
      cases e
      obtain ⟨o1, o2⟩ := Bool.and_eq_true_iff.mp hk
      obtain ⟨p, vs, rfl, c1, c2⟩ := cb
      have o2' : okL 59 xs = true := by simpa only [okA] using o2
      refine .inr ⟨datA xa, datL xs, plP_dp R ea h1 o1, .inl (.lst c1 (dp_ofL R 59 xs vs o2' c2)), ok_shaped o1, shaped_vl o2', ?_⟩
      rw [any_dat o1 o2']
      exact q
    · cases e
  · rename_i xa xs h1 h2
    rw [h2] at cb
    split at e
    · rename_i hk
      cases e
      obtain ⟨o1, o2⟩ := Bool.and_eq_true_iff.mp hk
      obtain ⟨p, vs, rfl, c1, c2⟩ := cb
      have o2' : okL 59 xs = true := by simpa only [okA] using o2
      refine .inr ⟨datA xa, datL xs, plP_dp R ea h1 o1, .inr (.tup c1 (dp_ofL R 59 xs vs o2' c2)), ok_shaped o1, shaped_vl o2', ?_⟩
      rw [any_dat o1 o2']
      exact q
    · cases e
  · cases e
theorem gc_inS (neg : Bool) : GoodC X (fun s a b => (inCs s a b).map fun k => ng neg k) (fun x y H Q => ∃ i j, x = .str i ∧ y = .str j ∧ Q (.bl (ng neg (!(Builtin.Str.occurrences j i 0 j.length 1).isEmpty))) H) := by
  intro U F ρ S σ H a b k x y Q R ea eb e q
  dsimp only at e
  have cb := coP_ok R eb
  unfold inCs at e
  split at e
  · rename_i i j h1 h2
    rw [h2] at cb
    cases e
    have h3 : avP a S = some (.str i) := by
      unfold plP at h1
      split at h1
      · cases h1
      · exact h1
    exact ⟨i, j, emb_str (avP_ok R ea h3), cb, q⟩
  · cases e
def inC (s : SS) (a b : PV) : Option Bool := ((inCd s a b).map fun k => ng false k).or ((inCs s a b).map fun k => ng false k)
def ninC (s : SS) (a b : PV) : Option Bool := ((inCd s a b).map fun k => ng true k).or ((inCs s a b).map fun k => ng true k)
theorem pt_in {a b : Expr} {f g : M PV} (hu : X.A.units + 65 < cLine) (ha : PPm X a f) (hb : PPm X b g) (hm : behindInMarks .In b = false := by rfl) : PTm X (.Compare a [.In] [b] pos) (cmpM inC f g) := pt_cm (OpR.or (op_inA hu) op_in_str) ((gc_inA false).or (gc_inS false)) ha hb hm
theorem pm_in {a b : Expr} {f g : M PV} (hu : X.A.units + 65 < cLine) (ha : PPm X a f) (hb : PPm X b g) (hm : behindInMarks .In b = false := by rfl) : PEm X (.Compare a [.In] [b] pos) (bvM (cmpM inC f g)) := pm_cm (OpR.or (op_inA hu) op_in_str) ((gc_inA false).or (gc_inS false)) ha hb hm
theorem pt_nin {a b : Expr} {f g : M PV} (hu : X.A.units + 65 < cLine) (ha : PPm X a f) (hb : PPm X b g) (hm : behindInMarks .NotIn b = false := by rfl) : PTm X (.Compare a [.NotIn] [b] pos) (cmpM ninC f g) := pt_cm (OpR.or (op_notInA hu) op_notin_str) ((gc_inA true).or (gc_inS true)) ha hb hm
theorem pm_nin {a b : Expr} {f g : M PV} (hu : X.A.units + 65 < cLine) (ha : PPm X a f) (hb : PPm X b g) (hm : behindInMarks .NotIn b = false := by rfl) : PEm X (.Compare a [.NotIn] [b] pos) (bvM (cmpM ninC f g)) := pm_cm (OpR.or (op_notInA hu) op_notin_str) ((gc_inA true).or (gc_inS true)) ha hb hm
/-- is None -/
def nonV : AV → Bool
  | .non => true
  | _ => false
def nonP (pv : PV) (s : SS) : Option Bool := match avP pv s with
  | some a => some (nonV a)
  | none => match coP pv s with
    | .ob _ => some false
    | _ => none
theorem nonV_ok {K : PySem.W.Frag} {F : Hp} {ρ : List Addr} {a : AV} {v : V} (h : Emb K F ρ a v) : decide (v = .non) = nonV a := by
  cases a with
  | non => rw [emb_non h]; rfl
  | bl b => rw [emb_bl h]; rfl
  | int b => rw [emb_int h]; rfl
  | str b => rw [emb_str h]; rfl
  | tup xs => simp only [Emb] at h; obtain ⟨p, vs, rfl, _⟩ := h; rfl
  | ct xs => simp only [Emb] at h; obtain ⟨p, vs, rfl, _⟩ := h; rfl
  | vl xs => simp only [Emb] at h; obtain ⟨p, vs, rfl, _⟩ := h; rfl
  | cl xs => simp only [Emb] at h; obtain ⟨p, vs, rfl, _⟩ := h; rfl
  | vd t kvs => simp only [Emb] at h; obtain ⟨p, rfl, _⟩ := h; rfl
  | ob c fs => simp only [Emb] at h; obtain ⟨p, _, _, rfl, _⟩ := h; rfl
  | ref i => simp only [Emb] at h; obtain ⟨p, rfl, _⟩ := h; rfl
theorem nonP_ok {K : PySem.W.Frag} {U F H : Hp} {ρ : List Addr} {S : SS} {σ : St} (R : Rep K U F ρ S σ H) {p : PV} {v : V} {k : Bool} (h : EmbP K F ρ σ p v) (e : nonP p S = some k) : decide (v = .non) = k := by
  unfold nonP at e
  split at e
  · rename_i a ha
    cases e
    exact nonV_ok (avP_ok R h ha)
  · have c := coP_ok R h
    split at e
    · rename_i o ho
      cases e
      rw [ho] at c
      cases o with
      | lst xs => obtain ⟨p, vs, rfl, _⟩ := c; rfl
      | dic t kvs => obtain ⟨p, rfl, _⟩ := c; rfl
      | ins c' fs => obtain ⟨p, _, _, rfl, _⟩ := c; rfl
      | lck t kvs => exact c.elim
    · cases e
def isNC (s : SS) (a b : PV) : Option Bool := match avP b s with
  | some .non => nonP a s
  | _ => none
theorem gc_isN : GoodC X isNC (fun x y H Q => y = .non ∧ Q (.bl (decide (x = .non))) H) := by
  intro U F ρ S σ H a b k x y Q R ea eb e q
  unfold isNC at e
  split at e
  · rename_i h1
    refine ⟨emb_non (avP_ok R eb h1), ?_⟩
    rw [nonP_ok R ea e]
    exact q
  · cases e
theorem gc_notN : GoodC X (fun s a b => (isNC s a b).map (!·)) (fun x y H Q => y = .non ∧ Q (.bl (!decide (x = .non))) H) := by
  intro U F ρ S σ H a b k x y Q R ea eb e q
  dsimp only at e
  unfold isNC at e
  split at e
  · rename_i h1
    cases z : nonP a S with
    | none => rw [z] at e; cases e
    | some k' =>
      rw [z] at e
      cases e
      refine ⟨emb_non (avP_ok R eb h1), ?_⟩
      rw [nonP_ok R ea z]
      exact q
  · cases e
abbrev notNC (s : SS) (a b : PV) : Option Bool := (isNC s a b).map (!·)
theorem pt_isN {a b : Expr} {f g : M PV} (ha : PPm X a f) (hb : PPm X b g) : PTm X (.Compare a [.Is] [b] pos) (cmpM isNC f g) := pt_cm op_isN gc_isN ha hb (nomark _)
theorem pm_isN {a b : Expr} {f g : M PV} (ha : PPm X a f) (hb : PPm X b g) : PEm X (.Compare a [.Is] [b] pos) (bvM (cmpM isNC f g)) := pm_cm op_isN gc_isN ha hb (nomark _)
theorem pt_notN {a b : Expr} {f g : M PV} (ha : PPm X a f) (hb : PPm X b g) : PTm X (.Compare a [.IsNot] [b] pos) (cmpM notNC f g) := pt_cm op_notN gc_notN ha hb (nomark _)
theorem pm_notN {a b : Expr} {f g : M PV} (ha : PPm X a f) (hb : PPm X b g) : PEm X (.Compare a [.IsNot] [b] pos) (bvM (cmpM notNC f g)) := pm_cm op_notN gc_notN ha hb (nomark _)
/-! ## and, or, not, if -/
def andM (f g : M Bool) : M Bool := bindM f fun k => if k = true then g else fun s => .ok false s
def orM (f g : M Bool) : M Bool := bindM f fun k => if k = true then fun s => .ok true s else g
def notM (f : M Bool) : M Bool := bindM f fun k s => .ok (!k) s
def ifM {α : Type} (c : M Bool) (f g : M α) : M α := bindM c fun k => if k = true then f else g
theorem rt_eq {K : PySem.W.Frag} {U : Hp} {σ : St} {F : Hp} {ρ : List Addr} {S : SS} {H : Hp} {a b : Bool} (h : RT K U σ F ρ S H a b) : b = a := h
theorem pw_a1 {a : Expr} {f : M Bool} (h : PTm X a f) : PWm X (.BoolOp .And [a] pos) f := fun W tk => pw_and1 (h W tk)
theorem pw_o1 {a : Expr} {f : M Bool} (h : PTm X a f) : PWm X (.BoolOp .Or [a] pos) f := fun W tk => pw_or1 (h W tk)
theorem pw_aM {a b : Expr} {rest : List Expr} {f g : M Bool} (h : PTm X a f) (h2 : PWm X (.BoolOp .And (b :: rest) pos) g) : PWm X (.BoolOp .And (a :: b :: rest) pos) (andM f g) := fun W tk =>
  PW.weak (pw_and (h W tk) (h2 W tk)) fun σ H Q ⟨U, F, ρ, S, R, p⟩ => ⟨U, F, ρ, S, R, Post.seq p fun F1 ρ1 S1 H1 a1 b1 s1 q1 r1 e1 p1 => by
    have e1 := rt_eq e1
    subst e1
    cases b1 with
    | true => rw [if_pos rfl] at p1 ⊢; exact ⟨U, F1, ρ1, S1, r1, p1⟩
    | false => rw [if_neg Bool.false_ne_true] at p1 ⊢; exact p1 F1 ρ1 H1 false (Same.refl _) (List.prefix_refl _) r1 rfl⟩
theorem pw_oM {a b : Expr} {rest : List Expr} {f g : M Bool} (h : PTm X a f) (h2 : PWm X (.BoolOp .Or (b :: rest) pos) g) : PWm X (.BoolOp .Or (a :: b :: rest) pos) (orM f g) := fun W tk =>
  PW.weak (pw_or (h W tk) (h2 W tk)) fun σ H Q ⟨U, F, ρ, S, R, p⟩ => ⟨U, F, ρ, S, R, Post.seq p fun F1 ρ1 S1 H1 a1 b1 s1 q1 r1 e1 p1 => by
    have e1 := rt_eq e1
    subst e1
    cases b1 with
    | true => rw [if_pos rfl] at p1 ⊢; exact p1 F1 ρ1 H1 true (Same.refl _) (List.prefix_refl _) r1 rfl
    | false => rw [if_neg Bool.false_ne_true] at p1 ⊢; exact ⟨U, F1, ρ1, S1, r1, p1⟩⟩
theorem pt_w {e : Expr} {f : M Bool} (h : PWm X e f) : PTm X e f := fun W tk => PW.pt (h W tk)
theorem pt_nt {a : Expr} {f : M Bool} (h : PTm X a f) : PTm X (.UnaryOp .Not a pos) (notM f) := fun W tk =>
  PT.weak (pt_not (h W tk)) fun σ H Q ⟨U, F, ρ, S, R, p⟩ => ⟨U, F, ρ, S, R, Post.seq p fun F1 ρ1 S1 H1 a1 b1 s1 q1 r1 e1 p1 => by
    have e1 := rt_eq e1
    subst e1
    exact p1 F1 ρ1 H1 _ (Same.refl _) (List.prefix_refl _) r1 rfl⟩
theorem pm_if {c a b : Expr} {t : M Bool} {f g : M AV} (hc : PTm X c t) (ha : PEm X a f) (hb : PEm X b g) : PEm X (.IfExp c a b pos) (ifM t f g) := fun W tk =>
  PE.weak (pe_ifExp (hc W tk) (ha W tk) (hb W tk)) fun σ H Q ⟨U, F, ρ, S, R, p⟩ => ⟨U, F, ρ, S, R, Post.seq p fun F1 ρ1 S1 H1 a1 b1 s1 q1 r1 e1 p1 => by
    have e1 := rt_eq e1
    subst e1
    cases b1 with
    | true => rw [if_pos rfl] at p1 ⊢; exact ⟨U, F1, ρ1, S1, r1, p1⟩
    | false => rw [if_neg Bool.false_ne_true] at p1 ⊢; exact ⟨U, F1, ρ1, S1, r1, p1⟩⟩
/-- an expression by its truth -/
def truP (pv : PV) (s : SS) : Option Bool := match coP pv s with
  | .ob (.lst xs) => some (!xs.isEmpty)
  | .tup xs => some (!xs.isEmpty)
  | .ob (.dic _ _) => none
  | .str x => if x.length ≤ 16777216 then some (x.length != 0) else none
  | _ => match avP pv s with
    | some .non => some false
    | some (.bl b) => some b
    | some (.int i) => some (i != 0)
    | _ => none
theorem embL_empty {K : PySem.W.Frag} {F : Hp} {ρ : List Addr} {xs : List AV} {vs : List V} (h : EmbL K F ρ xs vs) : xs.isEmpty = vs.isEmpty := by
  cases xs with
  | nil => simp only [EmbL] at h; subst h; rfl
  | cons x xs => simp only [EmbL] at h; obtain ⟨v, r, rfl, _⟩ := h; rfl
theorem truP_ok {K : PySem.W.Frag} {U F H : Hp} {ρ : List Addr} {S : SS} {σ : St} (R : Rep K U F ρ S σ H) {p : PV} {v : V} {k : Bool} (h : EmbP K F ρ σ p v) (e : truP p S = some k) : TruV K v H k := by
  have c := coP_ok R h
  unfold truP at e
  split at e
  · rename_i xs hc
    cases e; rw [hc] at c
    obtain ⟨q, vs, rfl, h1, h2⟩ := c
    exact .inl ⟨vs, h1, by rw [embL_empty h2]⟩
  · rename_i xs hc
    cases e; rw [hc] at c
    obtain ⟨q, vs, rfl, h1, h2⟩ := c
    exact .inr (.inl ⟨vs, h1, by rw [embL_empty h2]⟩)
  · cases e
  · rename_i x hc
    rw [hc] at c
    split at e
    · cases e
      have c : v = .str x := c
      subst c
      refine ⟨by rw [sz]; assumption, ?_⟩
      cases hx : x.length with
      | zero => rfl
      | succ n =>
        have h1 : ((n + 1 : Nat) : Int) ≠ 0 := by omega
        rw [bne_iff_ne.mpr h1]; rfl
    · cases e
  · split at e
    · rename_i ha; cases e; rw [emb_non (avP_ok R h ha)]; rfl
    · rename_i ha; cases e; rw [emb_bl (avP_ok R h ha)]; rfl
    · rename_i ha; cases e; rw [emb_int (avP_ok R h ha)]; rfl
    · cases e
def truM (f : M PV) : M Bool := bindM f fun p s => match truP p s with
  | some k => .ok k s
  | none => .stuck
theorem pt_tru {e : Expr} {f : M PV} (h : PPm X e f) (he : ∀ whole, isTrue e X.env whole = (do let v ← whole; standAt e.pos; holding [v] (truthy v)) := by intro _; rfl) : PTm X e (truM f) := fun W tk =>
  PT.weak (pt_truth (h W tk) he) fun σ H Q ⟨U, F, ρ, S, R, p⟩ => ⟨U, F, ρ, S, R, Post.seq p fun F1 ρ1 S1 H1 a1 b1 s1 q1 r1 e1 p1 => by
    have p1 : Post X.K U F1 ρ1 σ (RT X.K U σ) W Q (match truP a1 S1 with | some k => .ok k S1 | none => .stuck) := p1
    cases z : truP a1 S1 with
    | none => rw [z] at p1; exact p1.elim
    | some k =>
      rw [z] at p1
      exact ⟨k, truP_ok r1 e1 z, p1 F1 ρ1 H1 k (Same.refl _) (List.prefix_refl _) r1 rfl⟩⟩
/-- and, or as values (of truth values) -/
def andVM (f g : M AV) : M AV := bindM f fun a s => match a with
  | .bl true => g s
  | .bl false => .ok (.bl false) s
  | _ => .stuck
def orVM (f g : M AV) : M AV := bindM f fun a s => match a with
  | .bl false => g s
  | .bl true => .ok (.bl true) s
  | _ => .stuck
theorem pm_one {op} {a : Expr} {f : M AV} (h : PEm X a f) : PEm X (.BoolOp op [a] pos) f := fun W tk => pe_one (h W tk)
theorem pm_and {a b : Expr} {rest : List Expr} {f g : M AV} (h : PEm X a f) (h2 : PEm X (.BoolOp .And (b :: rest) pos) g) : PEm X (.BoolOp .And (a :: b :: rest) pos) (andVM f g) := fun W tk =>
  PE.weak (pe_and (h W tk) (h2 W tk)) fun σ H Q ⟨U, F, ρ, S, R, p⟩ => ⟨U, F, ρ, S, R, Post.seq p fun F1 ρ1 S1 H1 a1 b1 s1 q1 r1 e1 p1 => by
    cases a1 with
    | bl k =>
      refine ⟨k, emb_bl e1, ?_⟩
      cases k with
      | true => rw [if_pos rfl]; exact ⟨U, F1, ρ1, S1, r1, p1⟩
      | false => rw [if_neg Bool.false_ne_true]; exact p1 F1 ρ1 H1 _ (Same.refl _) (List.prefix_refl _) r1 emb_bl'
    | _ => exact p1.elim⟩
theorem pm_or {a b : Expr} {rest : List Expr} {f g : M AV} (h : PEm X a f) (h2 : PEm X (.BoolOp .Or (b :: rest) pos) g) : PEm X (.BoolOp .Or (a :: b :: rest) pos) (orVM f g) := fun W tk =>
  PE.weak (pe_or (h W tk) (h2 W tk)) fun σ H Q ⟨U, F, ρ, S, R, p⟩ => ⟨U, F, ρ, S, R, Post.seq p fun F1 ρ1 S1 H1 a1 b1 s1 q1 r1 e1 p1 => by
    cases a1 with
    | bl k =>
      refine ⟨k, emb_bl e1, ?_⟩
      cases k with
      | true => rw [if_pos rfl]; exact p1 F1 ρ1 H1 _ (Same.refl _) (List.prefix_refl _) r1 emb_bl'
      | false => rw [if_neg Bool.false_ne_true]; exact ⟨U, F1, ρ1, S1, r1, p1⟩
    | _ => exact p1.elim⟩
def notVM (f : M AV) : M AV := bindM f fun a s => match a with
  | .bl b => .ok (.bl (!b)) s
  | _ => .stuck
theorem pm_not {a : Expr} {f : M AV} (h : PEm X a f) : PEm X (.UnaryOp .Not a pos) (notVM f) := fun W tk =>
  PE.weak (pe_not (h W tk)) fun σ H Q ⟨U, F, ρ, S, R, p⟩ => ⟨U, F, ρ, S, R, Post.seq p fun F1 ρ1 S1 H1 a1 b1 s1 q1 r1 e1 p1 => by
    cases a1 with
    | bl k => exact ⟨k, emb_bl e1, p1 F1 ρ1 H1 _ (Same.refl _) (List.prefix_refl _) r1 emb_bl'⟩
    | _ => exact p1.elim⟩
/-- a < b < c of ints -/
def chainM (c1 c2 : SS → PV → PV → Option Bool) (f g h : M PV) : M Bool := bindM f fun a => bindM g fun b s => match c1 s a b with
  | some true => bindM h (fun c s => match c2 s b c with
    | some k => .ok k s
    | none => .stuck) s
  | some false => .ok false s
  | none => .stuck
theorem chain_core {c1 c2 : SS → PV → PV → Option Bool} {r r' : R2} {f g h : M PV} {W : WX} (g1 : GoodC X c1 r) (g2 : GoodC X c2 r') {σ : St} {H : Hp} {Q : Bool → Hp → Prop} (hh : tG X.K W (RT X.K) (chainM c1 c2 f g h) σ H Q) :
    (fun σ H Q => tChain r r' (tG X.K W (RP X.K) f) (tG X.K W (RP X.K) g) (tG X.K W (RP X.K) h) σ H fun z H4 => ∃ d, z = .bl d ∧ Q d H4) σ H Q := by
  obtain ⟨U, F, ρ, S, R, p⟩ := hh
  refine ⟨U, F, ρ, S, R, Post.seq p fun F1 ρ1 S1 H1 a1 x s1 q1 r1 e1 p1 => ?_⟩
  refine ⟨U, F1, ρ1, S1, r1, Post.seq p1 fun F2 ρ2 S2 H2 b1 y s2 q2 r2 e2 p2 => ?_⟩
  have p2 : Post X.K U F2 ρ2 σ (RT X.K U σ) W Q (match c1 S2 a1 b1 with
    | some true => bindM h (fun c s => match c2 s b1 c with
      | some k => .ok k s
      | none => .stuck) S2
    | some false => .ok false S2
    | none => .stuck) := p2
  cases z : c1 S2 a1 b1 with
  | none => rw [z] at p2; exact p2.elim
  | some k =>
    rw [z] at p2
    refine g1 U F2 ρ2 S2 σ H2 a1 b1 k x y _ r2 (e1.mono s2 q2) e2 z ⟨k, rfl, ?_⟩
    cases k with
    | true =>
      rw [if_pos rfl]
      refine ⟨U, F2, ρ2, S2, r2, Post.seq p2 fun F3 ρ3 S3 H3 c3 w s3 q3 r3 e3 p3 => ?_⟩
      have p3 : Post X.K U F3 ρ3 σ (RT X.K U σ) W Q (match c2 S3 b1 c3 with | some k => .ok k S3 | none => .stuck) := p3
      cases z2 : c2 S3 b1 c3 with
      | none => rw [z2] at p3; exact p3.elim
      | some k2 =>
        rw [z2] at p3
        exact g2 U F3 ρ3 S3 σ H3 b1 c3 k2 y w _ r3 (e2.mono s3 q3) e3 z2 ⟨k2, rfl, p3 F3 ρ3 H3 k2 (Same.refl _) (List.prefix_refl _) r3 rfl⟩
    | false =>
      rw [if_neg Bool.false_ne_true]
      exact ⟨false, rfl, p2 F2 ρ2 H2 false (Same.refl _) (List.prefix_refl _) r2 rfl⟩
end
end LM

namespace LM
open PyProof.Rows hiding St frameOf passOn
open PySem PySem.Spec L2
variable [TabNames]
section
variable {X : Cx} {pos : Pos}
/-! ## argument lists -/
def nilM {α : Type} : M (List α) := fun s => .ok [] s
def consM {α : Type} (f : M α) (g : M (List α)) : M (List α) := bindM f fun a => bindM g fun as s => .ok (a :: as) s
theorem pam_nil : PAm X [] nilM := fun W tk => PA.weak pa_nil fun σ H Q ⟨U, F, ρ, S, R, p⟩ => p F ρ H [] (Same.refl _) (List.prefix_refl _) R (by simp [RL, EmbL])
theorem pam_cons {e : Expr} {es : List Expr} {f : M AV} {g : M (List AV)} (h : PEm X e f) (hr : PAm X es g) (hs : starEach (e :: es) X.env = (false, eval e X.env) :: starEach es X.env := by rfl) : PAm X (e :: es) (consM f g) := fun W tk =>
  PA.weak (pa_cons (h W tk) (hr W tk) hs) fun σ H Q ⟨U, F, ρ, S, R, p⟩ => ⟨U, F, ρ, S, R, Post.seq p fun F1 ρ1 S1 H1 a1 b1 s1 q1 r1 e1 p1 =>
    ⟨U, F1, ρ1, S1, r1, Post.seq p1 fun F2 ρ2 S2 H2 a2 b2 s2 q2 r2 e2 p2 => p2 F2 ρ2 H2 _ (Same.refl _) (List.prefix_refl _) r2 (by
      show EmbL X.K F2 ρ2 (a1 :: a2) (b1 :: b2)
      simp only [EmbL]
      exact ⟨b1, b2, rfl, Emb.mono s2 q2 _ _ e1, e2⟩)⟩⟩
def EmbPL (K : PySem.W.Frag) (F : Hp) (ρ : List Addr) (σ : St) : List PV → List V → Prop
  | [], vs => vs = []
  | a :: as, vs => ∃ v r, vs = v :: r ∧ EmbP K F ρ σ a v ∧ EmbPL K F ρ σ as r
def RPL (K : PySem.W.Frag) (_ : Hp) (σ : St) : RR (List PV) (List V) := fun F ρ _ _ a v => EmbPL K F ρ σ a v
def PApm (X : Cx) (es : List Expr) (f : M (List PV)) : Prop := ∀ W, Takes X W → PA X es (tG X.K W (RPL X.K) f)
theorem pap_nil : PApm X [] nilM := fun W tk => PA.weak pa_nil fun σ H Q ⟨U, F, ρ, S, R, p⟩ => p F ρ H [] (Same.refl _) (List.prefix_refl _) R (by simp [RPL, EmbPL])
theorem pap_cons {e : Expr} {es : List Expr} {f : M PV} {g : M (List PV)} (h : PPm X e f) (hr : PApm X es g) (hs : starEach (e :: es) X.env = (false, eval e X.env) :: starEach es X.env := by rfl) : PApm X (e :: es) (consM f g) := fun W tk =>
  PA.weak (pa_cons (h W tk) (hr W tk) hs) fun σ H Q ⟨U, F, ρ, S, R, p⟩ => ⟨U, F, ρ, S, R, Post.seq p fun F1 ρ1 S1 H1 a1 b1 s1 q1 r1 e1 p1 =>
    ⟨U, F1, ρ1, S1, r1, Post.seq p1 fun F2 ρ2 S2 H2 a2 b2 s2 q2 r2 e2 p2 => p2 F2 ρ2 H2 _ (Same.refl _) (List.prefix_refl _) r2 ⟨b1, b2, rfl, EmbP.mono s2 q2 e1, e2⟩⟩⟩
theorem Rep.newF {K : PySem.W.Frag} {U F H : Hp} {ρ : List Addr} {S : SS} {σ : St} {p : Addr} {u : HO} (R : Rep K U F ρ S σ H) (h : H p = none) (hnt : ∀ ps, u ≠ .tbl ps := by intro ps z; cases z) : Rep K U (upd F p u) ρ S σ (upd H p u) ∧ Same F (upd F p u) := by
  obtain ⟨h1, h2, h3, h4⟩ := R.new h
  have R1 := R.laid (u := u) h
  have sm : Same F (upd F p u) := same_new h1
  refine ⟨⟨R1.len, fun b w e => ?_, R1.unt, R1.rln, R1.rnd, fun q hq => ?_, fun b w e => ?_, fun i o q e1 e2 => (R1.hp i o q e1 e2).mono sm (List.prefix_refl _) rfl, fun i a e => ?_, fun i o' e => ?_, R1.tab.f hnt⟩, sm⟩
  · by_cases hb : b = p
    · subst hb; rw [upd_same] at e; cases e; exact .inl upd_same
    · rw [upd_ne hb] at e; exact R1.fro b w e
  · have ne : q ≠ p := fun z => h3 (z ▸ hq)
    rw [upd_ne ne]; exact R1.rF q hq
  · by_cases hb : b = p
    · subst hb; exact .inl h2
    · rw [upd_ne hb] at e; exact R1.FU b w e
  · obtain ⟨v, e1, e2⟩ := R1.val i a e
    exact ⟨v, e1, e2.mono sm (List.prefix_refl _)⟩
  · obtain ⟨q, e1, e2, e3, e4⟩ := R1.own i o' e
    have ne : q ≠ p := fun z => h4 i o' e (z ▸ e1)
    exact ⟨q, e1, e2.mono sm (List.prefix_refl _) rfl, by rw [upd_ne ne]; exact e3, e4⟩
/-! ## displays -/
def tupM (f : M (List AV)) : M AV := bindM f fun xs s => if xs.length ≤ 16777216 then .ok (.tup xs) s else .stuck
def lstM (f : M (List AV)) : M AO := bindM f fun xs s => if xs.length ≤ 16777216 then .ok (.lst xs) s else .stuck
theorem pm_tup {es : List Expr} {k} {f : M (List AV)} (h : PAm X es f) : PEm X (.Tuple es k pos) (tupM f) := fun W tk =>
  PE.weak (pe_tup (h W tk)) fun σ H Q ⟨U, F, ρ, S, R, p⟩ => ⟨U, F, ρ, S, R, Post.seq p fun F1 ρ1 S1 H1 a1 b1 s1 q1 r1 e1 p1 => by
    have e1 : EmbL X.K F1 ρ1 a1 b1 := e1
    split at p1
    · refine ⟨by rw [sz, e1.length]; assumption, fun n hn => ?_⟩
      obtain ⟨R2, sm⟩ := r1.newF (u := .tup b1) hn
      refine p1 _ ρ1 _ _ sm (List.prefix_refl _) R2 ?_
      simp only [RE, Emb]
      exact ⟨n, b1, rfl, upd_same, e1.mono sm (List.prefix_refl _)⟩
    · exact p1.elim⟩
theorem pn_lst {es : List Expr} {f : M (List AV)} (h : PAm X es f) : PNm X (.List es pos) (lstM f) := fun W tk =>
  PE.weak (pe_lst (h W tk)) fun σ H Q ⟨U, F, ρ, S, R, p⟩ => ⟨U, F, ρ, S, R, Post.seq p fun F1 ρ1 S1 H1 a1 b1 s1 q1 r1 e1 p1 => by
    have e1 : EmbL X.K F1 ρ1 a1 b1 := e1
    split at p1
    · refine ⟨by rw [sz, e1.length]; assumption, fun n hn => ?_⟩
      obtain ⟨R2, L⟩ := r1.newLoose (u := .lst b1) (o := .lst a1) hn ⟨b1, upd_same, e1⟩
      exact p1 F1 ρ1 _ _ (Same.refl _) (List.prefix_refl _) R2 ⟨n, rfl, L⟩
    · exact p1.elim⟩
def dicM (t : Bool) : M AO := fun s => .ok (.dic t []) s
theorem pn_dK : PNm X (.Dict [] [] pos) (dicM false) := fun W tk =>
  PE.weak pe_dnewK fun σ H Q ⟨U, F, ρ, S, R, p⟩ n hn => by
    obtain ⟨R2, L⟩ := R.newLoose (u := .dK []) (o := .dic false []) hn (.inl ⟨rfl, [], upd_same, by simp [EmbK]⟩)
    exact p F ρ _ _ (Same.refl _) (List.prefix_refl _) R2 ⟨n, rfl, L⟩
theorem pn_dT : PNm X (.Dict [] [] pos) (dicM true) := fun W tk =>
  PE.weak pe_dnewT fun σ H Q ⟨U, F, ρ, S, R, p⟩ n hn => by
    obtain ⟨R2, L⟩ := R.newLoose (u := .dT []) (o := .dic true []) hn (.inr ⟨rfl, [], upd_same, by simp [EmbT]⟩)
    exact p F ρ _ _ (Same.refl _) (List.prefix_refl _) R2 ⟨n, rfl, L⟩
/-! ## calls of built-ins -/
def GoodB (X : Cx) (op : SS → List PV → Option AV) (r : List V → Hp → VK → Prop) : Prop := ∀ U F ρ S σ H as c vs Q, Rep X.K U F ρ S σ H → EmbPL X.K F ρ σ as vs → op S as = some c →
  (∀ F' H' z, Same F F' → Rep X.K U F' ρ S σ H' → Emb X.K F' ρ c z → Q z H') → r vs H Q
def GoodBN (X : Cx) (op : SS → List PV → Option AO) (r : List V → Hp → VK → Prop) : Prop := ∀ U F ρ S σ H as c vs Q, Rep X.K U F ρ S σ H → EmbPL X.K F ρ σ as vs → op S as = some c →
  (∀ H' p, Rep X.K U F ρ S σ H' → Loose X.K U F ρ S σ H' p c → Q (.ref p) H') → r vs H Q
def cbM {α : Type} (op : SS → List PV → Option α) (f : M (List PV)) : M α := bindM f fun as s => match op s as with
  | some c => .ok c s
  | none => .stuck
theorem cb_core {op : SS → List PV → Option AV} {r : List V → Hp → VK → Prop} {f : M (List PV)} {W : WX} (hg : GoodB X op r) {σ : St} {H : Hp} {Q : VK} (h : tG X.K W (RE X.K) (cbM op f) σ H Q) : tCB r (tG X.K W (RPL X.K) f) σ H Q := by
  obtain ⟨U, F, ρ, S, R, p⟩ := h
  refine ⟨U, F, ρ, S, R, Post.seq p fun F1 ρ1 S1 H1 a1 b1 s1 q1 r1 e1 p1 => ?_⟩
  cases z : op S1 a1 with
  | none => rw [z] at p1; exact p1.elim
  | some c =>
    rw [z] at p1
    exact hg U F1 ρ1 S1 σ H1 a1 c b1 Q r1 e1 z fun F3 H3 w s3 r3 e3 => p1 F3 ρ1 H3 w s3 (List.prefix_refl _) r3 e3
theorem cbn_core {op : SS → List PV → Option AO} {r : List V → Hp → VK → Prop} {f : M (List PV)} {W : WX} (hg : GoodBN X op r) {σ : St} {H : Hp} {Q : VK} (h : tG X.K W (RN X.K) (cbM op f) σ H Q) : tCB r (tG X.K W (RPL X.K) f) σ H Q := by
  obtain ⟨U, F, ρ, S, R, p⟩ := h
  refine ⟨U, F, ρ, S, R, Post.seq p fun F1 ρ1 S1 H1 a1 b1 s1 q1 r1 e1 p1 => ?_⟩
  cases z : op S1 a1 with
  | none => rw [z] at p1; exact p1.elim
  | some c =>
    rw [z] at p1
    exact hg U F1 ρ1 S1 σ H1 a1 c b1 Q r1 e1 z fun H3 w r3 e3 => p1 F1 ρ1 H3 _ (Same.refl _) (List.prefix_refl _) r3 ⟨w, rfl, e3⟩
section
variable {x : Str} {p : Pos} {e : Expr} {es : List Expr} {id T : String} {f : M (List PV)} {r : List V → Hp → VK → Prop}
theorem pm_cB {op : SS → List PV → Option AV} (hc : CallR X (.builtin id) r) (hg : GoodB X op r) (hgl : Gl X x) (hm : X.mg x = none) (hv : bootBuiltins x = some (.builtin id)) (ha : PApm X (e :: es) f) (hn : x ≠ "__name__" := by decide) (hdb : (x == ("__debug__" : Str)) = false := by decide)
    (he : starEach (e :: es) X.env = (false, eval e X.env) :: starEach es X.env := by rfl) (hpl : (backTo pos (starEach es X.env)).any (·.1) = false := by rfl) : PEm X (.Call (.Name x p) (e :: es) [] pos) (cbM op f) := fun W tk =>
  PE.weak (pe_callB hc hgl hm hv (ha W tk) hn hdb he hpl) fun σ H Q h => cb_core hg h
theorem pm_cT {op : SS → List PV → Option AV} (hc : CallR X (.type T) r) (hg : GoodB X op r) (hgl : Gl X x) (hm : X.mg x = none) (hv : bootBuiltins x = some (.type T)) (ha : PApm X (e :: es) f) (hn : x ≠ "__name__" := by decide) (hdb : (x == ("__debug__" : Str)) = false := by decide)
    (he : starEach (e :: es) X.env = (false, eval e X.env) :: starEach es X.env := by rfl) (hpl : (backTo pos (starEach es X.env)).any (·.1) = false := by rfl) : PEm X (.Call (.Name x p) (e :: es) [] pos) (cbM op f) := fun W tk =>
  PE.weak (pe_callTy hc hgl hm hv (ha W tk) hn hdb he hpl) fun σ H Q h => cb_core hg h
theorem pn_cB {op : SS → List PV → Option AO} (hc : CallR X (.builtin id) r) (hg : GoodBN X op r) (hgl : Gl X x) (hm : X.mg x = none) (hv : bootBuiltins x = some (.builtin id)) (ha : PApm X (e :: es) f) (hn : x ≠ "__name__" := by decide) (hdb : (x == ("__debug__" : Str)) = false := by decide)
    (he : starEach (e :: es) X.env = (false, eval e X.env) :: starEach es X.env := by rfl) (hpl : (backTo pos (starEach es X.env)).any (·.1) = false := by rfl) : PNm X (.Call (.Name x p) (e :: es) [] pos) (cbM op f) := fun W tk =>
  PE.weak (pe_callB hc hgl hm hv (ha W tk) hn hdb he hpl) fun σ H Q h => cbn_core hg h
theorem pn_cT {op : SS → List PV → Option AO} (hc : CallR X (.type T) r) (hg : GoodBN X op r) (hgl : Gl X x) (hm : X.mg x = none) (hv : bootBuiltins x = some (.type T)) (ha : PApm X (e :: es) f) (hn : x ≠ "__name__" := by decide) (hdb : (x == ("__debug__" : Str)) = false := by decide)
    (he : starEach (e :: es) X.env = (false, eval e X.env) :: starEach es X.env := by rfl) (hpl : (backTo pos (starEach es X.env)).any (·.1) = false := by rfl) : PNm X (.Call (.Name x p) (e :: es) [] pos) (cbM op f) := fun W tk =>
  PE.weak (pe_callTy hc hgl hm hv (ha W tk) hn hdb he hpl) fun σ H Q h => cbn_core hg h
end
theorem embPL1 {K : PySem.W.Frag} {F : Hp} {ρ : List Addr} {σ : St} {a : PV} {vs : List V} (h : EmbPL K F ρ σ [a] vs) : ∃ v, vs = [v] ∧ EmbP K F ρ σ a v := by
  obtain ⟨v, r, rfl, h1, h2⟩ := h
  have h2 : r = [] := h2
  subst h2
  exact ⟨v, rfl, h1⟩
theorem embPL2 {K : PySem.W.Frag} {F : Hp} {ρ : List Addr} {σ : St} {a b : PV} {vs : List V} (h : EmbPL K F ρ σ [a, b] vs) : ∃ v w, vs = [v, w] ∧ EmbP K F ρ σ a v ∧ EmbP K F ρ σ b w := by
  obtain ⟨v, r, rfl, h1, h2⟩ := h
  obtain ⟨w, rfl, h3⟩ := embPL1 h2
  exact ⟨v, w, rfl, h1, h3⟩
def lenA (s : SS) : List PV → Option AV
  | [a] => match coP a s with
    | .ob (.lst xs) => some (.int xs.length)
    | .tup xs => some (.int xs.length)
    | .ob (.dic _ kvs) => some (.int kvs.length)
    | .str x => if x.length ≤ 16777216 then some (.int x.length) else none
    | _ => none
  | _ => none
def rLenA (K : PySem.W.Frag) : List V → Hp → VK → Prop := fun xs H Q =>
  (∃ x n, xs = [x] ∧ LenV K x H n ∧ Q (.int n) H) ∨ (∃ p kvs, xs = [.ref p] ∧ Rd H p (.dK kvs) ∧ Q (.int (kvs.length : Nat)) H) ∨ (∃ (p : Addr) (kvs : List (List Key × V)), xs = [.ref p] ∧ Rd H p (.dT kvs) ∧ Q (.int (kvs.length : Nat)) H)
theorem call_lenA : CallR X (.builtin "len") (rLenA X.K) := by
  intro pins s σ H xs us Q I r h
  rcases h with h | ⟨p, kvs, rfl, e, q⟩ | ⟨p, kvs, rfl, e, q⟩
  · exact call_len pins s σ H xs us Q I r h
  · obtain ⟨u, rfl, rx⟩ := vals1 r
    obtain rfl : u = .ref p := rx
    exact d_len I e fun t s' I' => ⟨.int ((kvs.length : Nat) : Int), H, I', ⟨t, rfl⟩, q⟩
  · obtain ⟨u, rfl, rx⟩ := vals1 r
    obtain rfl : u = .ref p := rx
    obtain ⟨z, hd, ys, rel, dd⟩ := dt_rd I.hok e
    have hl : kvs.length = ys.length := Paired.length rel
    refine call_len_dictH hd dd (by rw [← hl]; rw [sizeLine_eq] at z; omega) ?_
    rw [← hl]
    exact ⟨.int ((kvs.length : Nat) : Int), H, I.tok _, ⟨_, rfl⟩, q⟩
theorem gb_len : GoodB X lenA (rLenA X.K) := by
  intro U F ρ S σ H as c vs Q R ea e q
  unfold lenA at e
  split at e
  · rename_i a
    obtain ⟨v, rfl, h⟩ := embPL1 ea
    have cc := coP_ok R h
    split at e
    · rename_i xs hc
      cases e; rw [hc] at cc
      obtain ⟨p, ws, rfl, h1, h2⟩ := cc
      exact .inl ⟨_, xs.length, rfl, .inl ⟨ws, h1, h2.length.symm⟩, q F H _ (Same.refl _) R emb_int'⟩
    · rename_i xs hc
      cases e; rw [hc] at cc
      obtain ⟨p, ws, rfl, h1, h2⟩ := cc
      exact .inl ⟨_, xs.length, rfl, .inr ⟨ws, h1, h2.length.symm⟩, q F H _ (Same.refl _) R emb_int'⟩
    · rename_i t kvs hc
      cases e; rw [hc] at cc
      obtain ⟨p, rfl, ⟨rfl, kv, h1, h2⟩ | ⟨rfl, kv, h1, h2⟩⟩ := cc
      · exact .inr (.inl ⟨p, kv, rfl, h1, by rw [h2.length]; exact q F H _ (Same.refl _) R emb_int'⟩)
      · exact .inr (.inr ⟨p, kv, rfl, h1, by rw [h2.length]; exact q F H _ (Same.refl _) R emb_int'⟩)
    · rename_i x hc
      rw [hc] at cc
      split at e
      · cases e
        have cc : v = .str x := cc
        subst cc
        exact .inl ⟨_, x.length, rfl, ⟨by rw [sz]; assumption, rfl⟩, q F H _ (Same.refl _) R emb_int'⟩
      · cases e
    · cases e
  · cases e
theorem pm_len {p : Pos} {e : Expr} {f : M PV} (hm : X.mg "len" = none) (ha : PPm X e f) (hgl : Gl X "len" := by rfl) (hs : starEach [e] X.env = (false, eval e X.env) :: starEach [] X.env := by rfl) : PEm X (.Call (.Name "len" p) [e] [] pos) (cbM lenA (consM f nilM)) := pm_cB call_lenA gb_len hgl hm PySem.boot_len (pap_cons ha pap_nil hs) (he := hs)
/-- tuple(x) -/
def tupA (s : SS) : List PV → Option AV
  | [a] => match coP a s with
    | .ob (.lst xs) => some (.tup xs)
    | .tup xs => (avP a s)
    | _ => none
  | _ => none
theorem gb_tup : GoodB X tupA (fun xs H Q => ∃ p ys, xs = [.ref p] ∧ ((SqL X.K H p ys ∧ ∀ l, H l = none → Q (.ref l) (upd H l (.tup ys))) ∨ (SqT X.K H p ys ∧ Q (.ref p) H))) := by
  intro U F ρ S σ H as c vs Q R ea e q
  unfold tupA at e
  split at e
  · rename_i a
    obtain ⟨v, rfl, h⟩ := embPL1 ea
    have cc := coP_ok R h
    split at e
    · rename_i xs hc
      cases e; rw [hc] at cc
      obtain ⟨p, ws, rfl, h1, h2⟩ := cc
      refine ⟨p, ws, rfl, .inl ⟨h1, fun n hn => ?_⟩⟩
      obtain ⟨R2, sm⟩ := R.newF (u := .tup ws) hn
      refine q _ _ _ sm R2 ?_
      simp only [Emb]
      exact ⟨n, ws, rfl, upd_same, h2.mono sm (List.prefix_refl _)⟩
    · rename_i xs hc
      rw [hc] at cc
      obtain ⟨p, ws, rfl, h1, h2⟩ := cc
      exact ⟨p, ws, rfl, .inr ⟨h1, q F H _ (Same.refl _) R (avP_ok R h e)⟩⟩
    · cases e
  · cases e
theorem pm_tuple {p : Pos} {e : Expr} {f : M PV} (hm : X.mg "tuple" = none) (ha : PPm X e f) (hgl : Gl X "tuple" := by rfl) (hs : starEach [e] X.env = (false, eval e X.env) :: starEach [] X.env := by rfl) : PEm X (.Call (.Name "tuple" p) [e] [] pos) (cbM tupA (consM f nilM)) := pm_cT call_tuple_of gb_tup hgl hm (by decide +kernel) (pap_cons ha pap_nil hs) (he := hs)
/-- list(x) -/
def lisA (s : SS) : List PV → Option AO
  | [a] => match coP a s with
    | .ob (.lst xs) => some (.lst xs)
    | .tup xs => some (.lst xs)
    | _ => none
  | _ => none
theorem gb_lis : GoodBN X lisA (fun xs H Q => ∃ p ys, xs = [.ref p] ∧ (SqL X.K H p ys ∨ SqT X.K H p ys) ∧ ∀ l, H l = none → Q (.ref l) (upd H l (.lst ys))) := by
  intro U F ρ S σ H as c vs Q R ea e q
  unfold lisA at e
  split at e
  · rename_i a
    obtain ⟨v, rfl, h⟩ := embPL1 ea
    have cc := coP_ok R h
    split at e
    · rename_i xs hc
      cases e; rw [hc] at cc
      obtain ⟨p, ws, rfl, h1, h2⟩ := cc
      refine ⟨p, ws, rfl, .inl h1, fun n hn => ?_⟩
      obtain ⟨R2, L⟩ := R.newLoose (u := .lst ws) (o := .lst xs) hn ⟨ws, upd_same, h2⟩
      exact q _ n R2 L
    · rename_i xs hc
      cases e; rw [hc] at cc
      obtain ⟨p, ws, rfl, h1, h2⟩ := cc
      refine ⟨p, ws, rfl, .inr h1, fun n hn => ?_⟩
      obtain ⟨R2, L⟩ := R.newLoose (u := .lst ws) (o := .lst xs) hn ⟨ws, upd_same, h2⟩
      exact q _ n R2 L
    · cases e
  · cases e
theorem pn_list {p : Pos} {e : Expr} {f : M PV} (hm : X.mg "list" = none) (ha : PPm X e f) (hgl : Gl X "list" := by rfl) (hs : starEach [e] X.env = (false, eval e X.env) :: starEach [] X.env := by rfl) : PNm X (.Call (.Name "list" p) [e] [] pos) (cbM lisA (consM f nilM)) := pn_cT call_list_of gb_lis hgl hm (by decide +kernel) (pap_cons ha pap_nil hs) (he := hs)
/-- abs(n), int(n) -/
def absA (s : SS) : List PV → Option AV
  | [a] => match avP a s with
    | some (.int i) => some (.int (if i < 0 then -i else i))
    | _ => none
  | _ => none
theorem gb_abs : GoodB X absA (fun xs H Q => ∃ i, xs = [.int i] ∧ Q (.int (if i < 0 then -i else i)) H) := by
  intro U F ρ S σ H as c vs Q R ea e q
  unfold absA at e
  split at e
  · rename_i a
    obtain ⟨v, rfl, h⟩ := embPL1 ea
    split at e
    · rename_i i hc
      cases e
      exact ⟨i, by rw [emb_int (avP_ok R h hc)], q F H _ (Same.refl _) R emb_int'⟩
    · cases e
  · cases e
theorem pm_abs {p : Pos} {e : Expr} {f : M PV} (hm : X.mg "abs" = none) (ha : PPm X e f) (hgl : Gl X "abs" := by rfl) (hs : starEach [e] X.env = (false, eval e X.env) :: starEach [] X.env := by rfl) : PEm X (.Call (.Name "abs" p) [e] [] pos) (cbM absA (consM f nilM)) := pm_cB call_abs gb_abs hgl hm (by decide +kernel) (pap_cons ha pap_nil hs) (he := hs)
def intA (s : SS) : List PV → Option AV
  | [a] => match avP a s with
    | some (.int i) => some (.int i)
    | some (.bl k) => some (.int (if k then 1 else 0))
    | _ => none
  | _ => none
theorem gb_intc : GoodB X intA (fun xs H Q => (∃ i, xs = [.int i] ∧ Q (.int i) H) ∨ ∃ k, xs = [.bl k] ∧ Q (.int (if k then 1 else 0)) H) := by
  intro U F ρ S σ H as c vs Q R ea e q
  unfold intA at e
  split at e
  · rename_i a
    obtain ⟨v, rfl, h⟩ := embPL1 ea
    split at e
    · rename_i i hc
      cases e
      exact .inl ⟨i, by rw [emb_int (avP_ok R h hc)], q F H _ (Same.refl _) R emb_int'⟩
    · rename_i i hc
      cases e
      exact .inr ⟨i, by rw [emb_bl (avP_ok R h hc)], q F H _ (Same.refl _) R emb_int'⟩
    · cases e
  · cases e
theorem pm_int1 {p : Pos} {e : Expr} {f : M PV} (hm : X.mg "int" = none) (ha : PPm X e f) (hgl : Gl X "int" := by rfl) (hs : starEach [e] X.env = (false, eval e X.env) :: starEach [] X.env := by rfl) : PEm X (.Call (.Name "int" p) [e] [] pos) (cbM intA (consM f nilM)) := pm_cT call_int1 gb_intc hgl hm (by decide +kernel) (pap_cons ha pap_nil hs) (he := hs)
/-! ## subscripts, slices -/
def ixM (f g : M PV) : M AV := bindM f fun a => bindM g fun b s => match coP a s, plP b s with
  | .ob (.lst xs), some (.int i) => match atI xs i with
    | some x => .ok x s
    | none => .stuck
  | .tup xs, some (.int i) => match atI xs i with
    | some x => .ok x s
    | none => .stuck
  | .str z, some (.int i) => if z.length ≤ 16777216 then (match atI z.cps.toList i with
    | some c => .ok (.str ⟨#[c]⟩) s
    | none => .stuck) else .stuck
  | .ob (.dic t kvs), some k => if (kk t k).isSome then (match dGet t kvs k with
    | some x => .ok x s
    | none => .stuck) else .stuck
  | _, _ => .stuck
theorem ix_dict (hu : X.A.units + 1 < cLine) : IxR X (fun x y H Q => ∃ a v, x = .ref a ∧ DGet H a y (some v) ∧ Q v H) := by
  intro value slice pins s σ H x y v u Q I rx ry h hs
  obtain ⟨a, w, rfl, g, q⟩ := h
  obtain rfl : v = Value.ref a := rx
  exact tail_any (dict_typeIs I g) PySem.F.slot_dict_getitem.lookup (d_getItem hu I g ry fun w' s' I' r => ⟨w, H, I', r, q⟩) hs
theorem EmbL.atI {K : PySem.W.Frag} {F : Hp} {ρ : List Addr} {xs : List AV} {vs : List V} {i : Int} {x : AV} (h : EmbL K F ρ xs vs) (e : atI xs i = some x) : ∃ v, atI vs i = some v ∧ Emb K F ρ x v := by
  unfold L2.atI at e ⊢
  rw [h.length]
  cases z : ixN xs.length i with
  | none => rw [z] at e; cases e
  | some j =>
    rw [z] at e
    exact EmbL.get h e
theorem plP_int {s : SS} {b : PV} {i : Int} (e : plP b s = some (.int i)) : avP b s = some (.int i) := by
  unfold plP at e
  split at e
  · cases e
  · exact e
theorem pm_ix {a b : Expr} {f g : M PV} (hu : X.A.units + 1 < cLine) (ha : PPm X a f) (hb : PPm X b g) (hs : PlainIx b := by intro _ _; rfl) : PEm X (.Subscript a b pos) (ixM f g) := fun W tk =>
  PE.weak (pe_ix (IxR.or ix_seq (ix_dict hu)) (ha W tk) (hb W tk) hs) fun σ H Q ⟨U, F, ρ, S, R, p⟩ => ⟨U, F, ρ, S, R, Post.seq p fun F1 ρ1 S1 H1 a1 x s1 q1 r1 e1 p1 =>
    ⟨U, F1, ρ1, S1, r1, Post.seq p1 fun F2 ρ2 S2 H2 b1 y s2 q2 r2 e2 p2 => by
      have e1 := EmbP.mono s2 q2 e1
      have c := coP_ok r2 e1
      split at p2
      · rename_i xs i h1 h2
        rw [h1] at c
        obtain ⟨n, vs, rfl, c1, c2⟩ := c
        split at p2
        · rename_i w hw
          obtain ⟨v, hv, ev⟩ := c2.atI hw
          exact .inl (.inl ⟨n, vs, i, v, rfl, emb_int (avP_ok r2 e2 (plP_int h2)), c1, hv, p2 F2 ρ2 H2 v (Same.refl _) (List.prefix_refl _) r2 ev⟩)
        · exact p2.elim
      · rename_i xs i h1 h2
        rw [h1] at c
        obtain ⟨n, vs, rfl, c1, c2⟩ := c
        split at p2
        · rename_i w hw
          obtain ⟨v, hv, ev⟩ := c2.atI hw
          exact .inl (.inr (.inl ⟨n, vs, i, v, rfl, emb_int (avP_ok r2 e2 (plP_int h2)), c1, hv, p2 F2 ρ2 H2 v (Same.refl _) (List.prefix_refl _) r2 ev⟩))
        · exact p2.elim
      · rename_i z i h1 h2
        rw [h1] at c
        split at p2
        · split at p2
          · rename_i hz _ w hw
            exact .inl (.inr (.inr ⟨z, i, w, c, emb_int (avP_ok r2 e2 (plP_int h2)), by rw [sz]; exact hz, hw, p2 F2 ρ2 H2 _ (Same.refl _) (List.prefix_refl _) r2 emb_str'⟩))
          · exact p2.elim
        · exact p2.elim
      · rename_i t kvs k h1 h2
        rw [h1] at c
        split at p2
        · rename_i hk
          obtain ⟨n, o, rfl, g, g1, g2⟩ := dget_ok r2 c (plP_emb r2 e2 h2 hk) hk
          split at p2
          · rename_i w hw
            obtain ⟨v, rfl, ev⟩ := g1 w hw
            exact .inr ⟨n, v, rfl, g, p2 F2 ρ2 H2 v (Same.refl _) (List.prefix_refl _) r2 ev⟩
          · exact p2.elim
        · exact p2.elim
      · exact p2.elim⟩⟩
end
end LM

namespace LM
open PyProof.Rows hiding St frameOf passOn
open PySem PySem.Spec L2
variable [TabNames]
section
variable {X : Cx} {pos : Pos}
/-! ## slices -/
def cutG {α : Type} (xs : List α) (lo hi : Option Int) : List α := (xs.drop (HT.sIx xs.length 0 lo)).take (HT.sIx xs.length xs.length hi - HT.sIx xs.length 0 lo)
def noPartM : M (Option Int) := fun s => .ok none s
def partM (f : M AV) : M (Option Int) := bindM f fun a s => match a with
  | .int i => .ok (some i) s
  | _ => .stuck
def ROp (_ : PySem.W.Frag) (_ : Hp) (_ : St) : RR (Option Int) (Option Int) := fun _ _ _ _ a b => b = a
def POm (X : Cx) (e : Option Expr) (f : M (Option Int)) : Prop := ∀ W, Takes X W → ∃ t, PO X e t ∧ ∀ σ H Q, tG X.K W (ROp X.K) f σ H Q → t σ H Q
theorem pom_none : POm X none noPartM := fun W tk => ⟨_, po_none, fun σ H Q ⟨U, F, ρ, S, R, p⟩ => p F ρ H none (Same.refl _) (List.prefix_refl _) R rfl⟩
theorem pom_some {e : Expr} {f : M AV} (h : PEm X e f) : POm X (some e) (partM f) := fun W tk => ⟨_, po_some (h W tk), fun σ H Q ⟨U, F, ρ, S, R, p⟩ => ⟨U, F, ρ, S, R, Post.seq p fun F1 ρ1 S1 H1 a1 v s1 q1 r1 e1 p1 => by
  cases a1 with
  | int i => exact ⟨i, emb_int e1, p1 F1 ρ1 H1 _ (Same.refl _) (List.prefix_refl _) r1 rfl⟩
  | _ => exact p1.elim⟩⟩
def slM (f : M PV) (lo hi : M (Option Int)) : M AV := bindM f fun a => bindM lo fun l => bindM hi fun h s => match coP a s with
  | .ob (.lst xs) => .ok (.vl (cutG xs l h)) s
  | .tup xs => if HT.sIx xs.length 0 l = 0 ∧ HT.sIx xs.length xs.length h = xs.length then (match avP a s with
    | some x => .ok x s
    | none => .stuck) else .ok (.tup (cutG xs l h)) s
  | .str z => if z.length ≤ 16777216 then .ok (.str (cutS z l h)) s else .stuck
  | _ => .stuck
theorem EmbL.cut {K : PySem.W.Frag} {F : Hp} {ρ : List Addr} {xs : List AV} {vs : List V} (h : EmbL K F ρ xs vs) (lo hi : Option Int) : EmbL K F ρ (cutG xs lo hi) (cutV vs lo hi) := by
  unfold cutG cutV
  rw [h.length]
  exact (h.drop _).take _
theorem pm_sl {e : Expr} {lo hi : Option Expr} {f : M PV} {l h : M (Option Int)} {p2 : Pos} (he : PPm X e f) (hl : POm X lo l) (hh : POm X hi h) : PEm X (.Subscript e (.Slice lo hi none p2) pos) (slM f l h) := fun W tk => by
  obtain ⟨tl, hl, wl⟩ := hl W tk
  obtain ⟨th, hh, wh⟩ := hh W tk
  refine PE.weak (pe_slice (SlR.or sl_list (SlR.or sl_tupA sl_str)) (he W tk) hl hh) fun σ H Q ⟨U, F, ρ, S, R, p⟩ => ⟨U, F, ρ, S, R, Post.seq p fun F1 ρ1 S1 H1 a1 x s1 q1 r1 e1 p1 => wl _ _ _
    ⟨U, F1, ρ1, S1, r1, Post.seq p1 fun F2 ρ2 S2 H2 b1 y s2 q2 r2 e2 p2 => wh _ _ _ ⟨U, F2, ρ2, S2, r2, Post.seq p2 fun F3 ρ3 S3 H3 c1 z s3 q3 r3 e3 p3 => ?_⟩⟩⟩
  have e2 : y = b1 := e2
  have e3 : z = c1 := e3
  subst e2 e3
  have e1 := EmbP.mono (s2.trans s3) (q2.trans q3) e1
  have c := coP_ok r3 e1
  split at p3
  · rename_i xs hc
    rw [hc] at c
    obtain ⟨n, vs, rfl, c1, c2⟩ := c
    refine .inl ⟨n, vs, rfl, c1, fun m hm => ?_⟩
    obtain ⟨R2, sm⟩ := r3.newF (u := .lst (cutV vs y z)) hm
    refine p3 _ ρ3 _ _ sm (List.prefix_refl _) R2 ?_
    simp only [RE, Emb]
    exact ⟨m, _, rfl, upd_same, (c2.cut _ _).mono sm (List.prefix_refl _)⟩
  · rename_i xs hc
    rw [hc] at c
    obtain ⟨n, vs, rfl, c1, c2⟩ := c
    have hl := c2.length
    refine .inr (.inl ⟨n, vs, rfl, c1, fun hw => ?_, fun hw m hm => ?_⟩)
    · rw [if_pos (by rw [← hl]; exact hw)] at p3
      split at p3
      · rename_i x hx
        exact p3 F3 ρ3 H3 _ (Same.refl _) (List.prefix_refl _) r3 (avP_ok r3 e1 hx)
      · exact p3.elim
    · rw [if_neg (by rw [← hl]; exact hw)] at p3
      obtain ⟨R2, sm⟩ := r3.newF (u := .tup (cutV vs y z)) hm
      refine p3 _ ρ3 _ _ sm (List.prefix_refl _) R2 ?_
      simp only [RE, Emb]
      exact ⟨m, _, rfl, upd_same, (c2.cut _ _).mono sm (List.prefix_refl _)⟩
  · rename_i x hc
    rw [hc] at c
    split at p3
    · exact .inr (.inr ⟨x, c, by rw [sz]; assumption, p3 F3 ρ3 H3 _ (Same.refl _) (List.prefix_refl _) r3 emb_str'⟩)
    · exact p3.elim
  · exact p3.elim
/-! ## fields -/
def FldOk (K : PySem.W.Frag) (cs : List Str) (f : Str) : Prop := ∀ c ∈ cs, Cls K (He.ga K c) ∧ NoAttr K (He.ga K c) f
def fldM (cs : List Str) (f : Str) (g : M PV) : M AV := bindM g fun p s => match coP p s with
  | .ob (.ins c fs) => if c ∈ cs then (match fs.lookup f with
    | some a => .ok a s
    | none => .stuck) else .stuck
  | _ => .stuck
theorem EmbF.lookup {K : PySem.W.Frag} {F : Hp} {ρ : List Addr} {f : Str} : ∀ {fs : List (Str × AV)} {fs' : List (Str × V)}, EmbF K F ρ fs fs' →
    (∀ a, fs.lookup f = some a → ∃ v, fs'.lookup f = some v ∧ Emb K F ρ a v) ∧ (fs.lookup f = none → fs'.lookup f = none)
  | [], _, h => by simp only [EmbF] at h; subst h; exact ⟨fun a h => by simp at h, fun _ => rfl⟩
  | (g, x) :: r, _, h => by
    simp only [EmbF] at h
    obtain ⟨v, r', rfl, h1, h2⟩ := h
    obtain ⟨i1, i2⟩ := EmbF.lookup (f := f) h2
    rw [List.lookup_cons, List.lookup_cons]
    cases e : f == g with
    | true => exact ⟨fun a h => by cases h; exact ⟨v, rfl, h1⟩, fun h => by cases h⟩
    | false => exact ⟨i1, i2⟩
theorem pm_fld {e : Expr} {cs : List Str} {f : Str} {g : M PV} (hc : FldOk X.K cs f) (he : PPm X e g) (hb : attributeBase e f X.env (eval e X.env) = eval e X.env := by rfl) : PEm X (.Attribute e f pos) (fldM cs f g) := fun W tk =>
  PE.weak (pe_fld (he W tk) hb) fun σ H Q ⟨U, F, ρ, S, R, p⟩ => ⟨U, F, ρ, S, R, Post.seq p fun F1 ρ1 S1 H1 a1 x s1 q1 r1 e1 p1 => by
    have c := coP_ok r1 e1
    split at p1
    · rename_i cn fs hco
      rw [hco] at c
      obtain ⟨n, dx, fs', rfl, c1, c2⟩ := c
      split at p1
      · rename_i hm
        split at p1
        · rename_i a ha
          obtain ⟨v, hv, ev⟩ := (c2.lookup).1 a ha
          obtain ⟨k1, k2⟩ := hc cn hm
          exact ⟨n, _, dx, fs', v, rfl, c1, k1, k2, hv, p1 F1 ρ1 H1 v (Same.refl _) (List.prefix_refl _) r1 ev⟩
        · exact p1.elim
      · exact p1.elim
    · exact p1.elim⟩
/-! ## calls of defs -/
def FPost (K : PySem.W.Frag) (U F : Hp) (ρ : List Addr) (Q : VK) (E : XK) : RF → Prop
  | .ok v h => ∀ F' ρ' H' u, Same F F' → ρ <+: ρ' → Rep K U F' ρ' ⟨[], h⟩ [] H' → Emb K F' ρ' v u → Q u H'
  | .exn c h => ∀ F' ρ' H', Same F F' → ρ <+: ρ' → Rep K U F' ρ' ⟨[], h⟩ [] H' → E (.ref (He.ga K c)) none H'
  | .stuck => False
/-- a def's promise: what the function on values says -/
def spM (K : PySem.W.Frag) (n : Nat) (m : MF) : Sp := fun vs H Q E => ∃ U F ρ as hp, as.length = n ∧ Rep K U F ρ ⟨[], hp⟩ [] H ∧ EmbL K F ρ as vs ∧ FPost K U F ρ Q E (m as hp)
def retR (s : SS) : RF → Res AV
  | .ok v h => .ok v { s with hp := h }
  | .exn c h => .exn c { s with hp := h }
  | .stuck => .stuck
def callM (n : Nat) (m : MF) (dv : List AV) (f : M (List AV)) : M AV := bindM f fun as s => if (as ++ dv).length = n then retR s (m (as ++ dv) s.hp) else .stuck
abbrev FnM (P : Program) (w : World) (K : PySem.W.Frag) (mg : Str → Option Value) (base : Heap) (k : Nat) (f : Addr) (fd : FuncData) (ps : List Str) (m : MF) : Prop := FnOk P w K mg base (L2.CX P w) k f fd ps (spM K ps.length m)
theorem call_core {K : PySem.W.Frag} {U F H : Hp} {ρ : List Addr} {S : SS} {σ : St} {W : WX} {Q : VK} {n : Nat} {m : MF} {as : List AV} {vs : List V} (R : Rep K U F ρ S σ H) (e : EmbL K F ρ as vs) (hn : as.length = n) (p : Post K U F ρ σ (RE K U σ) W Q (retR S (m as S.hp))) : spM K n m vs H Q (WE W σ) := by
  refine ⟨callU U S σ H, F, ρ, as, S.hp, hn, R.call, e, ?_⟩
  cases z : m as S.hp with
  | ok v h =>
    rw [z] at p
    exact fun F' ρ' H' u sm pr R' ev => p F' ρ' H' u sm pr (R.back sm pr R') ev
  | exn c h =>
    rw [z] at p
    exact fun F' ρ' H' sm pr R' => p F' ρ' H' sm pr (R.back sm pr R')
  | stuck => rw [z] at p; exact p.elim
section
variable {k : Nat} {f : Addr} {fd : FuncData} {ps : List Str} {m : MF} {dvs : List V} {ds : List Value} {dv : List AV} {x : Str} {p : Pos} {e : Expr} {es : List Expr} {g : M (List AV)}
theorem pm_call (F : FnM X.prog X.w X.K X.mg X.base k f fd ps m) (hr : Room k X.A) (hg : Gl X x) (hm : X.mg x = some (.ref f)) (hk : PySem.W.keepIn X.K (.ref f) = true) (hb : Binds X.K fd ps ds) (hd : Vals dvs ds) (hdv : ∀ F ρ, EmbL X.K F ρ dv dvs)
    (ha : PAm X (e :: es) g) (hdb : (x == ("__debug__" : Str)) = false := by decide) (he : starEach (e :: es) X.env = (false, eval e X.env) :: starEach es X.env := by rfl) (hpl : (backTo pos (starEach es X.env)).any (·.1) = false := by rfl) :
    PEm X (.Call (.Name x p) (e :: es) [] pos) (callM ps.length m dv g) := fun W tk =>
  PE.weak (pe_callSD (E := WE W) F hr hg hm hk hb hd (fun σ => passAt tk σ) (ha W tk) hdb he hpl) fun σ H Q ⟨U, F, ρ, S, R, p⟩ => ⟨U, F, ρ, S, R, Post.seq p fun F1 ρ1 S1 H1 as vs s1 q1 r1 e1 p1 => by
    split at p1
    · rename_i hl
      exact call_core r1 (EmbL.append e1 (hdv F1 ρ1)) hl p1
    · exact p1.elim⟩
/-- f() -/
theorem pe_callSD0 {CX : CXT} {sp : Sp} {E : St → XK} (F : FnOk X.prog X.w X.K X.mg X.base CX k f fd ps sp) (hr : Room k X.A) (hg : Gl X x) (hm : X.mg x = some (.ref f)) (hk : PySem.W.keepIn X.K (.ref f) = true) (hb : Binds X.K fd ps ds) (hd : Vals dvs ds) (hx : ∀ σ, PassesAt CX X σ (E σ))
    (hdb : (x == ("__debug__" : Str)) = false := by decide) : PE X (.Call (.Name x p) [] [] pos) (tCallSD sp dvs E tNil) := by
  refine ⟨fun pins s σ H Q I h => ?_⟩
  refine wpAny_Call_Name_kw (ld_glob I hg hm ?_ hdb)
  exact PySem.W.callWith_K0 I.kIn hk (run_fnSD (us := []) (vs := []) F hr hb hd (hx σ) I .nil h)
theorem pm_call0 (F : FnM X.prog X.w X.K X.mg X.base k f fd ps m) (hr : Room k X.A) (hg : Gl X x) (hm : X.mg x = some (.ref f)) (hk : PySem.W.keepIn X.K (.ref f) = true) (hb : Binds X.K fd ps ds) (hd : Vals dvs ds) (hdv : ∀ F ρ, EmbL X.K F ρ dv dvs)
    (hdb : (x == ("__debug__" : Str)) = false := by decide) : PEm X (.Call (.Name x p) [] [] pos) (callM ps.length m dv nilM) := fun W tk =>
  PE.weak (pe_callSD0 (E := WE W) F hr hg hm hk hb hd (fun σ => passAt tk σ) hdb) fun σ H Q ⟨U, F, ρ, S, R, p⟩ => by
    have p1 : Post X.K U F ρ σ (RE X.K U σ) W Q (if (([] : List AV) ++ dv).length = ps.length then retR S (m ([] ++ dv) S.hp) else .stuck) := p
    split at p1
    · rename_i hl
      exact call_core (as := [] ++ dv) R (hdv F ρ) hl p1
    · exact p1.elim
/-! ## methods of own classes -/
def clsOf (h : AH) : AV → Option (Str × List (Str × AV))
  | .ob c fs => some (c, fs)
  | .ref i => match h[i]? with
    | some (.ins c fs) => some (c, fs)
    | _ => none
  | _ => none
structure ME where
  c : Str
  n : Nat
  m : MF
  dv : List AV
def METOk (X : Cx) (name : Str) (t : ME) : Prop := ∃ g fd ps k dvs ds, Cls X.K (He.ga X.K t.c) ∧ Meth X.K (He.ga X.K t.c) name g ∧ ps.length = t.n ∧ FnM X.prog X.w X.K X.mg X.base k g fd ps t.m ∧ Room k X.A ∧ Binds X.K fd ps ds ∧ Vals dvs ds ∧ ∀ F ρ, EmbL X.K F ρ t.dv dvs
def methM (name : Str) (tb : List ME) (f : M AV) (g : M (List AV)) : M AV := bindM f fun a s => match clsOf s.hp a with
  | some (c, fs) => match tb.find? (fun t => decide (t.c = c)), fs.lookup name with
    | some t, none => bindM g (fun as s => if (a :: (as ++ t.dv)).length = t.n then retR s (t.m (a :: (as ++ t.dv)) s.hp) else .stuck) s
    | _, _ => .stuck
  | none => .stuck
def tMethS (X : Cx) (mn : Str) (W : WX) (ta : TE) (t : TA) : TE := fun σ H Q => ta σ H fun x H1 => ∃ a C dx fs g fd ps sp k ds dvs, x = .ref a ∧ H1 a = some (.ins C dx fs) ∧ fs.lookup mn = none ∧ Cls X.K C ∧ Meth X.K C mn g ∧
  FnOk X.prog X.w X.K X.mg X.base (L2.CX X.prog X.w) k g fd ps sp ∧ Room k X.A ∧ Binds X.K fd ps ds ∧ Vals dvs ds ∧ t σ H1 fun vs H2 => sp (x :: (vs ++ dvs)) H2 Q (WE W σ)
theorem pe_methS {o : Expr} {mn : Str} {apos : Pos} {W : WX} {ta : TE} {t : TA} (tk : Takes X W) {pl : Sem Bool} (he : PE X o ta) (ha : PA X (e :: es) t)
    (hst : starEach (e :: es) X.env = (false, eval e X.env) :: starEach es X.env := by rfl) (hpl : (backTo pos (starEach es X.env)).any (·.1) = false := by rfl)
    (ht : eval (.Call (.Attribute o mn apos) (e :: es) [] pos) X.env = (do
      let ov ← eval o X.env
      standAt apos.atName
      let (f, first) ← holding [ov] (getMethod ov mn pl)
      callWith pos f first (backTo pos (starEach (e :: es) X.env)) (backToKw pos (keywordEach [] X.env))) := by rfl) :
    PE X (.Call (.Attribute o mn apos) (e :: es) [] pos) (tMethS X mn W ta t) := by
  refine ⟨fun pins s σ H Q I h => ?_⟩
  refine PySem.W.methodCall_KW (pl := pl) (thn (he.run pins s σ H _ I h) fun u s1 ⟨x, H1, I1, rx, a, C, dx, fs, g, fd, ps, sp, k, ds, dvs, ex, ea, l, c, hm, F, hr, hb, hd, q⟩ => ?_) ht
  subst ex
  obtain rfl : u = Value.ref a := rx
  refine getmeth_ok I1 ea c hm l ?_
  refine PySem.W.callWith_K (first := [.ref a]) (h₀ := X.base) I.ok.mod.kin hm.kp (thn (ha.run pos pins s1 σ H1 _ I1 q) fun us s2 ⟨vs, H2, I2, r, q2⟩ => ⟨I2.kIn, ?_⟩) hst hpl
  exact run_fnSD (E := WE W) (us := .ref a :: us) (vs := .ref a :: vs) F hr hb hd (passAt tk σ) I2 (.cons rfl r) q2
theorem pe_methS0 {o : Expr} {mn : Str} {apos : Pos} {W : WX} {ta : TE} (tk : Takes X W) {pl : Sem Bool} (he : PE X o ta)
    (ht : eval (.Call (.Attribute o mn apos) [] [] pos) X.env = (do
      let ov ← eval o X.env
      standAt apos.atName
      let (f, first) ← holding [ov] (getMethod ov mn pl)
      callWith pos f first (backTo pos (starEach [] X.env)) (backToKw pos (keywordEach [] X.env))) := by rfl) :
    PE X (.Call (.Attribute o mn apos) [] [] pos) (tMethS X mn W ta tNil) := by
  refine ⟨fun pins s σ H Q I h => ?_⟩
  refine PySem.W.methodCall_KW (pl := pl) (thn (he.run pins s σ H _ I h) fun u s1 ⟨x, H1, I1, rx, a, C, dx, fs, g, fd, ps, sp, k, ds, dvs, ex, ea, l, c, hm, F, hr, hb, hd, q⟩ => ?_) ht
  subst ex
  obtain rfl : u = Value.ref a := rx
  refine getmeth_ok I1 ea c hm l ?_
  exact PySem.W.callWith_K0 (first := [.ref a]) I1.kIn hm.kp (run_fnSD (E := WE W) (us := [.ref a]) (vs := [.ref a]) F hr hb hd (passAt tk σ) I1 (.cons rfl .nil) q)
theorem clsOf_ok {K : PySem.W.Frag} {U F H : Hp} {ρ : List Addr} {S : SS} {σ : St} (R : Rep K U F ρ S σ H) {a : AV} {v : V} {c : Str} {fs : List (Str × AV)} (h : Emb K F ρ a v) (e : clsOf S.hp a = some (c, fs)) : ∃ p dx fs', v = .ref p ∧ H p = some (.ins (He.ga K c) dx fs') ∧ EmbF K F ρ fs fs' := by
  have q := coA_ok R h
  cases a with
  | ob c' fs' => cases e; exact q
  | ref i =>
    have e2 : (match S.hp[i]? with | some (.ins c fs) => some (c, fs) | _ => none) = some (c, fs) := e
    have q2 : CoV K F ρ H v (match S.hp[i]? with | some o => .ob o.rd | none => .no) := q
    cases z : S.hp[i]? with
    | none => rw [z] at e2; cases e2
    | some o =>
      rw [z] at e2 q2
      cases o with
      | ins c' fs' => cases e2; exact q2
      | lst _ => cases e2
      | dic _ _ => cases e2
      | lck _ _ => cases e2
  | _ => cases e
theorem pm_meth {o : Expr} {mn : Str} {apos : Pos} {tb : List ME} {f : M AV} {pl : Sem Bool} (htb : ∀ t ∈ tb, METOk X mn t) (he : PEm X o f) (ha : PAm X (e :: es) g)
    (hst : starEach (e :: es) X.env = (false, eval e X.env) :: starEach es X.env := by rfl) (hpl : (backTo pos (starEach es X.env)).any (·.1) = false := by rfl)
    (ht : eval (.Call (.Attribute o mn apos) (e :: es) [] pos) X.env = (do
      let ov ← eval o X.env
      standAt apos.atName
      let (f, first) ← holding [ov] (getMethod ov mn pl)
      callWith pos f first (backTo pos (starEach (e :: es) X.env)) (backToKw pos (keywordEach [] X.env))) := by rfl) :
    PEm X (.Call (.Attribute o mn apos) (e :: es) [] pos) (methM mn tb f g) := fun W tk =>
  PE.weak (pe_methS tk (pl := pl) (he W tk) (ha W tk) hst hpl ht) fun σ H Q ⟨U, F, ρ, S, R, p⟩ => ⟨U, F, ρ, S, R, Post.seq p fun F1 ρ1 S1 H1 a v s1 q1 r1 e1 p1 => by
    split at p1
    · rename_i c fs hc
      obtain ⟨n, dx, fs', rfl, c1, c2⟩ := clsOf_ok r1 e1 hc
      split at p1
      · rename_i t h1 h2
        obtain ⟨gg, fd, ps, k, dvs, ds, k1, k2, k3, k4, k5, k6, k7, k8⟩ := htb t (List.mem_of_find?_eq_some h1)
        have ec : t.c = c := by simpa using List.find?_some h1
        rw [ec] at k1 k2
        refine ⟨n, _, dx, fs', gg, fd, ps, _, k, ds, dvs, rfl, c1, c2.lookup.2 h2, k1, k2, k4, k5, k6, k7, U, F1, ρ1, S1, r1, Post.seq p1 fun F2 ρ2 S2 H2 as vs s2 q2 r2 e2 p2 => ?_⟩
        split at p2
        · rename_i hl
          refine call_core (as := a :: (as ++ t.dv)) r2 ?_ (by rw [k3]; exact hl) p2
          simp only [EmbL]
          exact ⟨_, _, rfl, Emb.mono s2 q2 _ _ e1, EmbL.append e2 (k8 F2 ρ2)⟩
        · exact p2.elim
      · exact p1.elim
    · exact p1.elim⟩
theorem pm_meth0 {o : Expr} {mn : Str} {apos : Pos} {tb : List ME} {f : M AV} {pl : Sem Bool} (htb : ∀ t ∈ tb, METOk X mn t) (he : PEm X o f)
    (ht : eval (.Call (.Attribute o mn apos) [] [] pos) X.env = (do
      let ov ← eval o X.env
      standAt apos.atName
      let (f, first) ← holding [ov] (getMethod ov mn pl)
      callWith pos f first (backTo pos (starEach [] X.env)) (backToKw pos (keywordEach [] X.env))) := by rfl) :
    PEm X (.Call (.Attribute o mn apos) [] [] pos) (methM mn tb f nilM) := fun W tk =>
  PE.weak (pe_methS0 tk (pl := pl) (he W tk) ht) fun σ H Q ⟨U, F, ρ, S, R, p⟩ => ⟨U, F, ρ, S, R, Post.seq p fun F1 ρ1 S1 H1 a v s1 q1 r1 e1 p1 => by
    split at p1
    · rename_i c fs hc
      obtain ⟨n, dx, fs', rfl, c1, c2⟩ := clsOf_ok r1 e1 hc
      split at p1
      · rename_i t h1 h2
        obtain ⟨gg, fd, ps, k, dvs, ds, k1, k2, k3, k4, k5, k6, k7, k8⟩ := htb t (List.mem_of_find?_eq_some h1)
        have ec : t.c = c := by simpa using List.find?_some h1
        rw [ec] at k1 k2
        refine ⟨n, _, dx, fs', gg, fd, ps, _, k, ds, dvs, rfl, c1, c2.lookup.2 h2, k1, k2, k4, k5, k6, k7, ?_⟩
        have p2 : Post X.K U F1 ρ1 σ (RE X.K U σ) W Q (if (a :: (([] : List AV) ++ t.dv)).length = t.n then retR S1 (t.m (a :: ([] ++ t.dv)) S1.hp) else .stuck) := p1
        split at p2
        · rename_i hl
          refine call_core (as := a :: ([] ++ t.dv)) r1 ?_ (by rw [k3]; exact hl) p2
          simp only [EmbL]
          exact ⟨_, _, rfl, e1, k8 F1 ρ1⟩
        · exact p2.elim
      · exact p1.elim
    · exact p1.elim⟩
end
end
end LM

namespace LM
open PyProof.Rows hiding St frameOf passOn
open PySem PySem.Spec L2
variable [TabNames]
/-! ## statements -/
def SPost (K : PySem.W.Frag) (U F : Hp) (ρ : List Addr) (σ₀ : St) (pn : Bool) (D : Ends) (W : WX) : Res Fl → Prop
  | .ok .nx S' => ∀ F' ρ' σ' H', Same F F' → ρ <+: ρ' → Rep K U F' ρ' S' σ' H' → (pn = true → σ'[0]? = σ₀[0]?) → D.nx σ' H'
  | .ok .bk S' => ∀ F' ρ' σ' H', Same F F' → ρ <+: ρ' → Rep K U F' ρ' S' σ' H' → (pn = true → σ'[0]? = σ₀[0]?) → D.bk σ' H'
  | .ok .ct S' => ∀ F' ρ' σ' H', Same F F' → ρ <+: ρ' → Rep K U F' ρ' S' σ' H' → (pn = true → σ'[0]? = σ₀[0]?) → D.ct σ' H'
  | .ok (.rt v) S' => ∀ F' ρ' σ' H' u, Same F F' → ρ <+: ρ' → Rep K U F' ρ' S' σ' H' → Emb K F' ρ' v u → D.rt u H'
  | .exn c S' => ∀ F' ρ' σ' H', Same F F' → ρ <+: ρ' → Rep K U F' ρ' S' σ' H' → W (.ref (He.ga K c)) none σ' H'
  | .stuck => False
def tS (K : PySem.W.Frag) (W : WX) (pn : Bool) (m : M Fl) : TS := fun D σ H => ∃ U F ρ S, Rep K U F ρ S σ H ∧ SPost K U F ρ σ pn D W (m S)
def PSm (X : Cx) (pn : Bool) (st : Stmt) (m : M Fl) : Prop := ∀ W, Takes X W → PS X st (tS X.K W pn m)
def PSsm (X : Cx) (pn : Bool) (st : List Stmt) (m : M Fl) : Prop := ∀ W, Takes X W → PSs X st (tS X.K W pn m)
section
variable {K : PySem.W.Frag} {U F F1 H : Hp} {ρ ρ1 : List Addr} {σ σ1 : St} {pn : Bool} {D : Ends} {W : WX} {r : Res Fl}
theorem SPost.up (s : Same F F1) (q : ρ <+: ρ1) (e : pn = true → σ1[0]? = σ[0]?) (h : SPost K U F ρ σ pn D W r) : SPost K U F1 ρ1 σ1 pn D W r := by
  cases r with
  | ok a S' =>
    cases a with
    | nx => exact fun F' ρ' σ' H' s' q' r' e' => h F' ρ' σ' H' (s.trans s') (q.trans q') r' fun z => (e' z).trans (e z)
    | bk => exact fun F' ρ' σ' H' s' q' r' e' => h F' ρ' σ' H' (s.trans s') (q.trans q') r' fun z => (e' z).trans (e z)
    | ct => exact fun F' ρ' σ' H' s' q' r' e' => h F' ρ' σ' H' (s.trans s') (q.trans q') r' fun z => (e' z).trans (e z)
    | rt v => exact fun F' ρ' σ' H' u s' q' r' e' => h F' ρ' σ' H' u (s.trans s') (q.trans q') r' e'
  | exn c S' => exact fun F' ρ' σ' H' s' q' r' => h F' ρ' σ' H' (s.trans s') (q.trans q') r'
  | stuck => exact h
def bindS {α : Type} (f : M α) (k : α → M Fl) : M Fl := fun s => bindR (f s) k
/-- behind an expression -/
theorem SPost.seq {α β : Type} {R1 : RR α β} {Q' : β → Hp → Prop} {r : Res α} {k : α → M Fl} (h : SPost K U F ρ σ pn D W (bindR r k))
    (f : ∀ F1 ρ1 S1 H1 a b, Same F F1 → ρ <+: ρ1 → Rep K U F1 ρ1 S1 σ H1 → R1 F1 ρ1 S1 H1 a b → SPost K U F1 ρ1 σ pn D W (k a S1) → Q' b H1) : Post K U F ρ σ R1 W Q' r := by
  cases r with
  | ok a S' => exact fun F' ρ' H' b s' q' r' e => f F' ρ' S' H' a b s' q' r' e (h.up s' q' fun _ => rfl)
  | exn c S' => exact fun F' ρ' H' s' q' r' => h F' ρ' σ H' s' q' r'
  | stuck => exact h
end
section
variable {X : Cx} {pn : Bool} {pos : Pos}
def nxM : M Fl := fun s => .ok .nx s
def seqM (m1 m2 : M Fl) : M Fl := fun s => match m1 s with
  | .ok .nx s' => m2 s'
  | r => r
theorem pssm_nil : PSsm X pn [] nxM := fun W tk => PSs.weak pss_nil fun σ H D ⟨U, F, ρ, S, R, p⟩ => p F ρ σ H (Same.refl _) (List.prefix_refl _) R fun _ => rfl
theorem pssm_one {st : Stmt} {m : M Fl} (h : PSm X pn st m) : PSsm X pn [st] m := fun W tk => pss_one (h W tk)
theorem pssm_cons {st : Stmt} {rest : List Stmt} {m1 m2 : M Fl} (h : PSm X pn st m1) (h2 : PSsm X pn rest m2) : PSsm X pn (st :: rest) (seqM m1 m2) := fun W tk =>
  PSs.weak (pss_cons (h W tk) (h2 W tk)) fun σ H D ⟨U, F, ρ, S, R, p⟩ => by
    refine ⟨U, F, ρ, S, R, ?_⟩
    have p : SPost X.K U F ρ σ pn D W (match m1 S with | .ok .nx s' => m2 s' | r => r) := p
    cases z : m1 S with
    | ok a S' =>
      rw [z] at p
      cases a with
      | nx => exact fun F' ρ' σ' H' s' q' r' e' => ⟨U, F', ρ', S', r', SPost.up s' q' e' p⟩
      | bk => exact p
      | ct => exact p
      | rt v => exact p
    | exn c S' => rw [z] at p; exact p
    | stuck => rw [z] at p; exact p
theorem psm_pass : PSm X pn (.Pass pos) nxM := fun W tk => PS.weak ps_pass fun σ H D ⟨U, F, ρ, S, R, p⟩ => p F ρ σ H (Same.refl _) (List.prefix_refl _) R fun _ => rfl
def bkM : M Fl := fun s => .ok .bk s
def ctM : M Fl := fun s => .ok .ct s
theorem psm_break : PSm X pn (.Break pos) bkM := fun W tk => PS.weak ps_break fun σ H D ⟨U, F, ρ, S, R, p⟩ => p F ρ σ H (Same.refl _) (List.prefix_refl _) R fun _ => rfl
theorem psm_continue : PSm X pn (.Continue pos) ctM := fun W tk => PS.weak ps_continue fun σ H D ⟨U, F, ρ, S, R, p⟩ => p F ρ σ H (Same.refl _) (List.prefix_refl _) R fun _ => rfl
def expM (f : M AV) : M Fl := bindM f fun _ s => .ok .nx s
theorem psm_expr {e : Expr} {f : M AV} (h : PEm X e f) (hs : swapsWith e none pos.line X.env = pure false := by rfl) : PSm X pn (.Expr e pos) (expM f) := fun W tk =>
  PS.weak (ps_expr (h W tk) hs) fun σ H D ⟨U, F, ρ, S, R, p⟩ => ⟨U, F, ρ, S, R, SPost.seq p fun F1 ρ1 S1 H1 a v s1 q1 r1 e1 p1 => p1 F1 ρ1 σ H1 (Same.refl _) (List.prefix_refl _) r1 fun _ => rfl⟩
def retM (f : M AV) : M Fl := bindM f fun a s => .ok (.rt a) s
theorem psm_ret {e : Expr} {f : M AV} (h : PEm X e f) : PSm X pn (.Return (some e) pos) (retM f) := fun W tk =>
  PS.weak (ps_ret (h W tk)) fun σ H D ⟨U, F, ρ, S, R, p⟩ => ⟨U, F, ρ, S, R, SPost.seq p fun F1 ρ1 S1 H1 a v s1 q1 r1 e1 p1 => p1 F1 ρ1 σ H1 v (Same.refl _) (List.prefix_refl _) r1 e1⟩
def retN : M Fl := fun s => .ok (.rt .non) s
theorem psm_retN : PSm X pn (.Return none pos) retN := fun W tk => PS.weak ps_retN fun σ H D ⟨U, F, ρ, S, R, p⟩ => p F ρ σ H .non (Same.refl _) (List.prefix_refl _) R emb_non'
theorem psm_if {c : Expr} {a b : List Stmt} {t : M Bool} {m1 m2 : M Fl} (hc : PTm X c t) (ha : PSsm X pn a m1) (hb : PSsm X pn b m2) : PSm X pn (.If c a b pos) (ifM t m1 m2) := fun W tk =>
  PS.weak (ps_if (hc W tk) (ha W tk) (hb W tk)) fun σ H D ⟨U, F, ρ, S, R, p⟩ => ⟨U, F, ρ, S, R, SPost.seq p fun F1 ρ1 S1 H1 a1 b1 s1 q1 r1 e1 p1 => by
    have e1 := rt_eq e1
    subst e1
    cases b1 with
    | true => rw [if_pos rfl] at p1 ⊢; exact ⟨U, F1, ρ1, S1, r1, p1⟩
    | false => rw [if_neg Bool.false_ne_true] at p1 ⊢; exact ⟨U, F1, ρ1, S1, r1, p1⟩⟩
/-! ## targets -/
structure ZOk (Z : St → St → Prop) : Prop where
  rf : ∀ a, Z a a
  tr : ∀ a b c, Z a b → Z b c → Z a c
def Zp (pn : Bool) (σ σ' : St) : Prop := pn = true → σ'[0]? = σ[0]?
def Zw (vs : List Nat) (σ σ' : St) : Prop := wipe σ' vs = wipe σ vs
theorem zp_ok {pn : Bool} : ZOk (Zp pn) := ⟨fun _ _ => rfl, fun _ _ _ h1 h2 z => (h2 z).trans (h1 z)⟩
theorem zw_ok {vs : List Nat} : ZOk (Zw vs) := ⟨fun _ => rfl, fun _ _ _ h1 h2 => Eq.trans (show wipe _ vs = wipe _ vs from h2) h1⟩
def tGt (K : PySem.W.Frag) (Z : St → St → Prop) (g : AV → M Unit) : TG := fun v σ H Q => ∃ U F ρ S a, Rep K U F ρ S σ H ∧ Emb K F ρ a v ∧ match g a S with
  | .ok _ S' => ∀ F' ρ' σ' H', Same F F' → ρ <+: ρ' → Rep K U F' ρ' S' σ' H' → Z σ σ' → Q σ' H'
  | _ => False
def PGm (X : Cx) (Z : St → St → Prop) (tg : Expr) (g : AV → M Unit) : Prop := ∃ t, PG X tg t ∧ ∀ v σ H Q, tGt X.K Z g v σ H Q → t v σ H Q
def setV (i : Nat) (a : AV) : M Unit := fun s => .ok () { s with sl := s.sl.set i (some (.val a)) }
theorem set_pin {σ : St} {i : Nat} {v : Option V} (h : pn = true → i ≠ 0) : pn = true → (σ.set i v)[0]? = σ[0]? := fun z => by rw [List.getElem?_set_ne (h z)]
theorem zp_set {i : Nat} (h : pn = true → i ≠ 0 := by decide) : ∀ (σ : St) v, Zp pn σ (σ.set i v) := fun σ v z => set_pin h z
theorem wipe_set {i : Nat} {v : Option V} : ∀ {vs : List Nat} {σ : St}, i ∈ vs → wipe (σ.set i v) vs = wipe σ vs
  | [], _, h => by simp at h
  | u :: vs, σ, h => by
    show (wipe (σ.set i v) vs).set u none = (wipe σ vs).set u none
    by_cases hi : i ∈ vs
    · rw [wipe_set hi]
    · have hu : i = u := by
        rcases List.mem_cons.mp h with q | q
        · exact q
        · exact absurd q hi
      subst hu
      have go : ∀ (ws : List Nat), i ∉ ws → wipe (σ.set i v) ws = (wipe σ ws).set i v := by
        intro ws
        induction ws with
        | nil => intro _; rfl
        | cons w ws ih =>
          intro hn
          show (wipe (σ.set i v) ws).set w none = ((wipe σ ws).set w none).set i v
          rw [ih (fun q => hn (List.mem_cons_of_mem _ q)), List.set_comm]
          exact fun q => hn (by rw [q]; exact List.mem_cons_self)
      rw [go vs hi, List.set_set]
theorem zw_set {i : Nat} {vs : List Nat} (h : i ∈ vs := by decide) : ∀ (σ : St) v, Zw vs σ (σ.set i v) := fun σ v => wipe_set h
theorem pgm_name {Z : St → St → Prop} {i : Nat} {x : Str} (hN : X.N.Nodup) (hi : X.N[i]? = some x) (hx : Loc X.env.scope x) (hz : ∀ (σ : St) v, Z σ (σ.set i v)) (hf : X.fn x = true ∨ X.env.scope.names.lookup x = some .local := by first | exact .inl rfl | exact .inr rfl | assumption) : PGm X Z (.Name x pos) (setV i) :=
  ⟨_, pg_name hN hi hx hf, fun v σ H Q ⟨U, F, ρ, S, a, R, e, p⟩ => p F ρ _ H (Same.refl _) (List.prefix_refl _) (R.set e) (hz _ _)⟩
/-- (a, b, ..) = a tuple -/
def unpM : List (AV → M Unit) → List AV → M Unit
  | [], [] => fun s => .ok () s
  | g :: gs, x :: xs => fun s => bindR (g x s) fun _ => unpM gs xs
  | _, _ => fun _ => .stuck
def PGsm (X : Cx) (Z : St → St → Prop) (ts : List Expr) (gs : List (AV → M Unit)) : Prop := ∃ t, PGs X ts t ∧ ∀ vs σ H Q U F ρ S as, Rep X.K U F ρ S σ H → EmbL X.K F ρ as vs → (match unpM gs as S with
  | .ok _ S' => ∀ F' ρ' σ' H', Same F F' → ρ <+: ρ' → Rep X.K U F' ρ' S' σ' H' → Z σ σ' → Q σ' H'
  | _ => False) → t vs σ H Q
theorem pgsm_nil {Z : St → St → Prop} (hZ : ZOk Z) : PGsm X Z [] [] := ⟨_, pgs_nil, fun vs σ H Q U F ρ S as R e p => by
  cases as with
  | nil => simp only [EmbL] at e; simp only [unpM] at p; exact ⟨e, p F ρ σ H (Same.refl _) (List.prefix_refl _) R (hZ.rf _)⟩
  | cons a as => simp [unpM] at p⟩
theorem pgsm_cons {Z : St → St → Prop} (hZ : ZOk Z) {e : Expr} {es : List Expr} {g : AV → M Unit} {gs : List (AV → M Unit)} (h1 : PGm X Z e g) (h2 : PGsm X Z es gs)
    (hs : (assignEach (e :: es) X.env).map (·.2) = assign e X.env :: (assignEach es X.env).map (·.2) := by rfl) : PGsm X Z (e :: es) (g :: gs) := by
  obtain ⟨t1, h1, w1⟩ := h1
  obtain ⟨t2, h2, w2⟩ := h2
  refine ⟨_, pgs_cons h1 h2 hs, fun vs σ H Q U F ρ S as R em p => ?_⟩
  cases as with
  | nil => simp [unpM] at p
  | cons a as =>
    simp only [EmbL] at em
    obtain ⟨v, r, rfl, e1, e2⟩ := em
    refine ⟨v, r, rfl, w1 _ _ _ _ ⟨U, F, ρ, S, a, R, e1, ?_⟩⟩
    have p : (match bindR (g a S) (fun _ => unpM gs as) with
      | .ok _ S' => ∀ F' ρ' σ' H', Same F F' → ρ <+: ρ' → Rep X.K U F' ρ' S' σ' H' → Z σ σ' → Q σ' H'
      | _ => False) := by unfold unpM at p; exact p
    cases z : g a S with
    | ok u S1 =>
      rw [z] at p
      have p : (match unpM gs as S1 with
        | .ok _ S' => ∀ F' ρ' σ' H', Same F F' → ρ <+: ρ' → Rep X.K U F' ρ' S' σ' H' → Z σ σ' → Q σ' H'
        | _ => False) := p
      intro F1 ρ1 σ1 H1 s1 q1 r1 k1
      refine w2 _ _ _ _ U F1 ρ1 S1 as r1 (e2.mono s1 q1) ?_
      cases z2 : unpM gs as S1 with
      | ok u S2 =>
        rw [z2] at p
        exact fun F' ρ' σ' H' s' q' r' k' => p F' ρ' σ' H' (s1.trans s') (q1.trans q') r' (hZ.tr _ _ _ k1 k')
      | exn c S2 => rw [z2] at p; exact p
      | stuck => rw [z2] at p; exact p
    | exn c S1 => rw [z] at p; exact p
    | stuck => rw [z] at p; exact p
def tupG (n : Nat) (gs : List (AV → M Unit)) (a : AV) : M Unit := fun s => match coA s.hp a with
  | .tup xs => if xs.length = n then unpM gs xs s else .stuck
  | _ => .stuck
theorem pgm_tup {Z : St → St → Prop} {es : List Expr} {k n : Nat} {gs : List (AV → M Unit)} (hc : X.calm = true) (h : PGsm X Z es gs)
    (hn : (assignEach es X.env).length = n := by rfl) (hst : (assignEach es X.env).findIdx? (·.1) = none := by rfl) : PGm X Z (.Tuple es k pos) (tupG n gs) := by
  obtain ⟨t, h, w⟩ := h
  refine ⟨_, pg_tup hc h hn hst, fun v σ H Q ⟨U, F, ρ, S, a, R, e, p⟩ => ?_⟩
  have c := coA_ok R e
  unfold tupG at p
  cases z : coA S.hp a with
  | tup xs =>
    simp only [z] at p
    rw [z] at c
    obtain ⟨q, vs, rfl, c1, c2⟩ := c
    by_cases hl : xs.length = n
    · rw [if_pos hl] at p
      exact ⟨q, vs, rfl, c1, by rw [c2.length]; exact hl, w _ _ _ _ U F ρ S xs R c2 p⟩
    · rw [if_neg hl] at p; exact p.elim
  | ob o => simp only [z] at p
  | str x => simp only [z] at p
  | no => simp only [z] at p
/-- target = e -/
def asgM (g : AV → M Unit) (f : M AV) : M Fl := bindM f fun a s => match g a s with
  | .ok _ s => .ok .nx s
  | _ => .stuck
theorem asg_core {F : Hp} {U : Hp} {ρ : List Addr} {σ : St} {S : SS} {H : Hp} {D : Ends} {W : WX} {g : AV → M Unit} {a : AV} {v : V} {t : TG} (R : Rep X.K U F ρ S σ H) (e : Emb X.K F ρ a v) (w : ∀ v σ H Q, tGt X.K (Zp pn) g v σ H Q → t v σ H Q)
    (p : SPost X.K U F ρ σ pn D W (match g a S with | .ok _ s => .ok .nx s | _ => .stuck)) : t v σ H D.nx := by
  refine w _ _ _ _ ⟨U, F, ρ, S, a, R, e, ?_⟩
  cases z : g a S with
  | ok u S' => rw [z] at p; exact p
  | exn c S' => rw [z] at p; exact p
  | stuck => rw [z] at p; exact p
theorem psm_asg {tg e : Expr} {g : AV → M Unit} {f : M AV} (he : PEm X e f) (hg : PGm X (Zp pn) tg g) (hs : swapsWithSole [tg] e pos.line X.env = pure false := by rfl) (hw : swappedStores [tg] e X.env = pure none := by rfl)
    (h1 : (assignEach [tg] X.env).map (·.2) = [assign tg X.env] := by rfl) : PSm X pn (.Assign [tg] e pos) (asgM g f) := fun W tk => by
  obtain ⟨t, hg, w⟩ := hg
  exact PS.weak (ps_asg (he W tk) hg hs hw h1) fun σ H D ⟨U, F, ρ, S, R, p⟩ => ⟨U, F, ρ, S, R, SPost.seq p fun F1 ρ1 S1 H1 a v s1 q1 r1 e1 p1 => asg_core r1 e1 w p1⟩
theorem psm_set {i : Nat} {x : Str} {e : Expr} {f : M AV} {pos' : Pos} (hN : X.N.Nodup) (hi : X.N[i]? = some x) (hx : Loc X.env.scope x) (he : PEm X e f) (hs : swapsWith e (some (.Name x pos')) pos.line X.env = pure false := by rfl)
    (hf : X.fn x = true ∨ X.env.scope.names.lookup x = some .local := by first | exact .inl rfl | exact .inr rfl | assumption) (hp : pn = true → i ≠ 0 := by decide) : PSm X pn (.Assign [.Name x pos'] e pos) (asgM (setV i) f) := fun W tk =>
  PS.weak (ps_set hN hi hx (he W tk) hs hf) fun σ H D ⟨U, F, ρ, S, R, p⟩ => ⟨U, F, ρ, S, R, SPost.seq p fun F1 ρ1 S1 H1 a v s1 q1 r1 e1 p1 => p1 F1 ρ1 _ H1 (Same.refl _) (List.prefix_refl _) (r1.set e1) (set_pin hp)⟩
/-- a new object of the slot's own -/
def asgO (i : Nat) (f : M AO) : M Fl := bindM f fun o s => .ok .nx { s with sl := s.sl.set i (some (.own o)) }
theorem psm_setO {i : Nat} {x : Str} {e : Expr} {f : M AO} {pos' : Pos} (hN : X.N.Nodup) (hi : X.N[i]? = some x) (hx : Loc X.env.scope x) (he : PNm X e f) (hs : swapsWith e (some (.Name x pos')) pos.line X.env = pure false := by rfl)
    (hf : X.fn x = true ∨ X.env.scope.names.lookup x = some .local := by first | exact .inl rfl | exact .inr rfl | assumption) (hp : pn = true → i ≠ 0 := by decide) : PSm X pn (.Assign [.Name x pos'] e pos) (asgO i f) := fun W tk =>
  PS.weak (ps_set hN hi hx (he W tk) hs hf) fun σ H D ⟨U, F, ρ, S, R, p⟩ => ⟨U, F, ρ, S, R, SPost.seq p fun F1 ρ1 S1 H1 a v s1 q1 r1 e1 p1 => by
    obtain ⟨n, rfl, L⟩ := e1
    exact p1 F1 ρ1 _ H1 (Same.refl _) (List.prefix_refl _) (r1.setOwn L) (set_pin hp)⟩
/-- a, b = e1, e2 -/
def parM (i j : Nat) (f : M (List AV)) : M Fl := bindM f fun as s => match as with
  | [a, b] => .ok .nx { s with sl := (s.sl.set i (some (.val a))).set j (some (.val b)) }
  | _ => .stuck
theorem psm_par {i j : Nat} {x y : Str} {a b : Expr} {f : M (List AV)} {px py pt : Pos} {kt k2 pt2} (hc : X.calm = true) (hN : X.N.Nodup) (hi : X.N[i]? = some x) (hj : X.N[j]? = some y) (hij : i ≠ j)
    (hx : X.env.scope.names.lookup x = some .local) (hy : X.env.scope.names.lookup y = some .local) (ha : PAm X [a, b] f)
    (hw : swappedStores [.Tuple [.Name x px, .Name y py] kt pt] (.Tuple [a, b] k2 pt2) X.env = pure (some [x, y]))
    (hs : swapsWithSole [.Tuple [.Name x px, .Name y py] kt pt] (.Tuple [a, b] k2 pt2) pos.line X.env = pure false := by rfl) (hp : pn = true → i ≠ 0 ∧ j ≠ 0 := by decide) :
    PSm X pn (.Assign [.Tuple [.Name x px, .Name y py] kt pt] (.Tuple [a, b] k2 pt2) pos) (parM i j f) := fun W tk =>
  PS.weak (ps_par hc hN hi hj hij hx hy (ha W tk) hw hs) fun σ H D ⟨U, F, ρ, S, R, p⟩ => ⟨U, F, ρ, S, R, SPost.seq p fun F1 ρ1 S1 H1 as vs s1 q1 r1 e1 p1 => by
    have e1 : EmbL X.K F1 ρ1 as vs := e1
    match as, e1, p1 with
    | [], _, p1 => exact p1.elim
    | [_], _, p1 => exact p1.elim
    | [a, b], e1, p1 =>
      simp only [EmbL] at e1
      obtain ⟨v, r, rfl, e2, v2, r2, rfl, e3, rfl⟩ := e1
      have R2 := (r1.set (i := i) e2).set (i := j) e3
      exact ⟨v, v2, rfl, p1 F1 ρ1 _ H1 (Same.refl _) (List.prefix_refl _) R2 fun z => by rw [List.getElem?_set_ne (hp z).2, List.getElem?_set_ne (hp z).1]⟩
    | _ :: _ :: _ :: _, _, p1 => exact p1.elim⟩
/-- x op= e -/
def augM (i : Nat) (op : AV → AV → Option AV) (f : M AV) : M Fl := fun s => match s.sl[i]? with
  | some (some (.val a)) => bindM f (fun b s => match op a b with
    | some c => .ok .nx { s with sl := s.sl.set i (some (.val c)) }
    | none => .stuck) s
  | _ => .stuck
theorem psm_aug {i : Nat} {x : Str} {e : Expr} {o : Operator} {op : AV → AV → Option AV} {r : R2} {f : M AV} {pos' : Pos} (ho : OpR X (inplaceOp o) r) (hgo : GoodOp X op r) (hN : X.N.Nodup) (hi : X.N[i]? = some x) (hx : Loc X.env.scope x) (he : PEm X e f)
    (hf : X.fn x = true ∨ X.env.scope.names.lookup x = some .local := by first | exact .inl rfl | exact .inr rfl | assumption) (hp : pn = true → i ≠ 0 := by decide) : PSm X pn (.AugAssign (.Name x pos') o e pos) (augM i op f) := fun W tk =>
  PS.weak (ps_aug (ti := r) hN hi hx (he W tk) ho hf) fun σ H D ⟨U, F, ρ, S, R, p⟩ => by
    unfold augM at p
    cases h : S.sl[i]? with
    | none => rw [h] at p; exact p.elim
    | some ov =>
      rw [h] at p
      cases ov with
      | none => exact p.elim
      | some sv =>
        cases sv with
        | own o => exact p.elim
        | val a =>
          obtain ⟨v, e1, e2⟩ := R.val i a h
          refine ⟨v, e1, U, F, ρ, S, R, SPost.seq p fun F1 ρ1 S1 H1 b y s1 q1 r1 e3 p1 => ?_⟩
          cases z : op a b with
          | none => rw [z] at p1; exact p1.elim
          | some c =>
            rw [z] at p1
            exact hgo U F1 ρ1 S1 σ H1 a b c v y _ r1 (Emb.mono s1 q1 _ _ e2) e3 z fun F2 H2 w s2 r2 e4 => p1 F2 ρ1 _ H2 s2 (List.prefix_refl _) (r2.set e4) (set_pin hp)
theorem psm_augadd {i : Nat} {x : Str} {e : Expr} {f : M AV} {pos' : Pos} (hN : X.N.Nodup) (hi : X.N[i]? = some x) (hx : Loc X.env.scope x) (he : PEm X e f)
    (hf : X.fn x = true ∨ X.env.scope.names.lookup x = some .local := by first | exact .inl rfl | exact .inr rfl | assumption) (hp : pn = true → i ≠ 0 := by decide) : PSm X pn (.AugAssign (.Name x pos') .Add e pos) (augM i (fun a b => (addI a b).or (addS a b)) f) :=
  psm_aug (OpR.or iop_add iop_add_str) (ga_add.or ga_adds) hN hi hx he hf hp
/-! ## while -/
def whileM (c : M Bool) (b : M Fl) : Nat → M Fl
  | 0 => fun _ => .stuck
  | n + 1 => fun s => match c s with
    | .ok true s => (match b s with
      | .ok .nx s => whileM c b n s
      | .ok .ct s => whileM c b n s
      | .ok .bk s => .ok .nx s
      | r => r)
    | .ok false s => .ok .nx s
    | .exn c s => .exn c s
    | .stuck => .stuck
theorem psm_while {c : Expr} {body : List Stmt} {t : M Bool} {m : M Fl} {n : Nat} (hpo : PassesOwn (model X.prog X.w) X.A X.env X.xe) (hc : PTm X c t) (hb : PSsm X pn body m) : PSm X pn (.While c body [] pos) (whileM t m n) := fun W tk =>
  PS.weak (ps_while hpo (hc W tk) (hb W tk)) fun σ₀ H₀ D ⟨U, F₀, ρ₀, S₀, R₀, p₀⟩ => by
    refine ⟨fun k σ H => ∃ F ρ S, Rep X.K U F ρ S σ H ∧ SPost X.K U F ρ σ pn D W (whileM t m k S), ⟨n, F₀, ρ₀, S₀, R₀, p₀⟩, ?_⟩
    rintro k σ H ⟨F, ρ, S, R, p⟩
    cases k with
    | zero => exact p.elim
    | succ k =>
      refine ⟨U, F, ρ, S, R, ?_⟩
      have p : SPost X.K U F ρ σ pn D W (match t S with
        | .ok true s => (match m s with
          | .ok .nx s => whileM t m k s
          | .ok .ct s => whileM t m k s
          | .ok .bk s => .ok .nx s
          | r => r)
        | .ok false s => .ok .nx s
        | .exn c s => .exn c s
        | .stuck => .stuck) := p
      cases z : t S with
      | stuck => rw [z] at p; exact p
      | exn c s => rw [z] at p; exact fun F' ρ' H' s' q' r' => p F' ρ' σ H' s' q' r'
      | ok b S1 =>
        rw [z] at p
        intro F1 ρ1 H1 b' s1 q1 r1 e1
        have e1 : b' = b := e1
        subst e1
        cases b' with
        | false => rw [if_neg Bool.false_ne_true]; exact p F1 ρ1 σ H1 s1 q1 r1 fun _ => rfl
        | true =>
          rw [if_pos rfl]
          refine ⟨fun σ' H' => ∃ F ρ S, Rep X.K U F ρ S σ' H' ∧ SPost X.K U F ρ σ' pn D W (whileM t m k S), fun σ' H' h => ⟨k, Nat.lt_succ_self _, h⟩, U, F1, ρ1, S1, r1, ?_⟩
          have p := SPost.up (σ1 := σ) s1 q1 (fun _ => rfl) p
          cases z2 : m S1 with
          | stuck => simp only [z2] at p; exact p
          | exn c s => simp only [z2] at p; exact p
          | ok a S2 =>
            simp only [z2] at p
            cases a with
            | nx => exact fun F2 ρ2 σ2 H2 s2 q2 r2 k2 => ⟨F2, ρ2, S2, r2, SPost.up s2 q2 k2 p⟩
            | ct => exact fun F2 ρ2 σ2 H2 s2 q2 r2 k2 => ⟨F2, ρ2, S2, r2, SPost.up s2 q2 k2 p⟩
            | bk => exact p
            | rt v => exact p
end
end LM

namespace LM
open PyProof.Rows hiding St frameOf passOn
open PySem PySem.Spec L2
variable [TabNames]
/-! ## what is walked -/
def ItOk (K : PySem.W.Frag) (F : Hp) (ρ : List Addr) (xs : List AV) (J : It) : Prop := ∀ U F' ρ' S' σ' H', Same F F' → ρ <+: ρ' → Rep K U F' ρ' S' σ' H' →
  (∀ (i : Nat) (a : AV), xs[i]? = some a → J.go i H' ∧ ∀ x H'', J.yld i H' x H'' → ∃ F'', Same F' F'' ∧ Rep K U F'' ρ' S' σ' H'' ∧ Emb K F'' ρ' a x) ∧ J.stop xs.length H'
def RI (K : PySem.W.Frag) (_ : Hp) (_ : St) : RR (List AV) It := fun F ρ _ _ xs J => ItOk K F ρ xs J
def PIm (X : Cx) (tg iter : Expr) (f : M (List AV)) : Prop := ∀ W, Takes X W → PI X tg iter (tG X.K W (RI X.K) f)
section
variable {K : PySem.W.Frag} {U F H : Hp} {ρ : List Addr} {S : SS} {σ : St}
theorem itok_list {p : Addr} {vs : List V} {xs : List AV} (h : SqL K F p vs) (e : EmbL K F ρ xs vs) : ItOk K F ρ xs (Itl K p) := by
  intro U F' ρ' S' σ' H' sm pr R
  have hs : SqL K H' p vs := R.lstF (sm.seq h)
  have e' := e.mono sm pr
  refine ⟨fun i a ha => ?_, vs, hs, by rw [e.length]; exact Nat.le_refl _⟩
  obtain ⟨v, hv, ev⟩ := e'.get ha
  refine ⟨⟨vs, v, hs, hv⟩, fun x H'' hy => ?_⟩
  obtain ⟨rfl, f⟩ := hy
  have q := f vs hs
  rw [hv] at q; cases q
  exact ⟨F', Same.refl _, R, ev⟩
theorem itok_tup {p : Addr} {vs : List V} {xs : List AV} (h : F p = some (.tup vs) ∨ SqT K (fun _ => none) p vs) (e : EmbL K F ρ xs vs) : ItOk K F ρ xs (Itt K p) := by
  intro U F' ρ' S' σ' H' sm pr R
  have hs : SqT K H' p vs := by
    rcases h with h | h
    · exact SqT.of (R.tupF (sm _ _ h))
    · exact seqT0 h
  have e' := e.mono sm pr
  refine ⟨fun i a ha => ?_, vs, hs, by rw [e.length]; exact Nat.le_refl _⟩
  obtain ⟨v, hv, ev⟩ := e'.get ha
  refine ⟨⟨vs, v, hs, hv⟩, fun x H'' hy => ?_⟩
  obtain ⟨rfl, f⟩ := hy
  have q := f vs hs
  rw [hv] at q; cases q
  exact ⟨F', Same.refl _, R, ev⟩
def sigs (z : Str) : List AV := z.cps.toList.map fun c => .str ⟨#[c]⟩
theorem itok_str {z : Str} : ItOk K F ρ (sigs z) (Its z) := by
  intro U F' ρ' S' σ' H' sm pr R
  refine ⟨fun i a ha => ?_, by unfold sigs; simp [Its]⟩
  unfold sigs at ha
  rw [List.getElem?_map] at ha
  cases hc : z.cps.toList[i]? with
  | none => rw [hc] at ha; cases ha
  | some c =>
    rw [hc] at ha
    cases ha
    have hc2 : z.cps[i]? = some c := by simpa using hc
    refine ⟨(Array.getElem?_eq_some_iff.mp hc2).1, fun x H'' hy => ?_⟩
    obtain ⟨rfl, c', e1, rfl⟩ := hy
    rw [hc2] at e1; cases e1
    exact ⟨F', Same.refl _, R, emb_str'⟩
def ixsR (lo : Int) (n : Nat) : List AV := (List.range n).map fun (i : Nat) => .int (lo + i)
theorem itok_range {lo : Int} {n : Nat} : ItOk K F ρ (ixsR lo n) (Itr lo n) := by
  intro U F' ρ' S' σ' H' sm pr R
  refine ⟨fun i a ha => ?_, by unfold ixsR; simp [Itr]⟩
  unfold ixsR at ha
  rw [List.getElem?_map] at ha
  cases hc : (List.range n)[i]? with
  | none => rw [hc] at ha; cases ha
  | some c =>
    rw [hc] at ha
    cases ha
    obtain ⟨h1, h2⟩ := List.getElem?_eq_some_iff.mp hc
    have h3 : i < n := by simpa using h1
    have h4 : c = i := by simpa using h2.symm
    subst h4
    refine ⟨h3, fun x H'' hy => ?_⟩
    obtain ⟨rfl, rfl⟩ := hy
    exact ⟨F', Same.refl _, R, emb_int'⟩
end
section
variable {X : Cx} {pn : Bool} {pos : Pos} {tg : Expr}
/-- a list, a tuple, a text -/
theorem pi_dyn {l : Expr} {tl : TE} (hl : PE X l tl) : PI X tg l (fun σ H R => tl σ H fun x H1 => (∃ a, x = .ref a ∧ (∃ xs, SqL X.K H1 a xs) ∧ R (Itl X.K a) H1) ∨ (∃ a, x = .ref a ∧ (∃ xs, SqT X.K H1 a xs) ∧ R (Itt X.K a) H1) ∨ ∃ z, x = .str z ∧ R (Its z) H1) := by
  refine ⟨fun pins s σ H R I h => ?_⟩
  refine thn (hl.run pins s σ H _ I h) fun v s1 ⟨x, H1, I1, r1, q1⟩ => ?_
  rcases q1 with ⟨a, rfl, ⟨xs, hq⟩, q⟩ | ⟨a, rfl, ⟨xs, hq⟩, q⟩ | ⟨z, rfl, q⟩
  · cases r1
    obtain ⟨its, rv, p, hz⟩ := I1.list hq
    refine wpAny_pyIter_list p.isList ?_
    refine ⟨s1.heap.objs.size, [s1.heap.objs.size], _, _, H1, rfl, I1.kept (t' := s1.toks) fun b o e => Heap.get?_push_of_some _ e, turn_list a _, ⟨_, Heap.get?_push_size _ rfl, rfl, rfl⟩, fun b hb => ?_, q⟩
    have e : b = s1.heap.objs.size := by simpa using hb
    subst e
    exact I1.fpOk (Nat.le_refl _) (I1.hok.fresh (Nat.le_refl _))
  · cases r1
    obtain ⟨its, rv, p, hz⟩ := I1.tuple hq
    refine wpAny_pyIter_tuple (show s1.heap.IsTuple a its.toArray from p) ?_
    refine ⟨s1.heap.objs.size, [s1.heap.objs.size], _, _, H1, rfl, I1.kept (t' := s1.toks) fun b o e => Heap.get?_push_of_some _ e, turn_tuple a _, ⟨_, Heap.get?_push_size _ rfl, rfl, rfl⟩, fun b hb => ?_, q⟩
    have e : b = s1.heap.objs.size := by simpa using hb
    subst e
    exact I1.fpOk (Nat.le_refl _) (I1.hok.fresh (Nat.le_refl _))
  · obtain ⟨t, rfl⟩ := r1
    cases ha : z.cps.all (· < 128)
    · exact wpAny_pyIter_wide ha (pi_one (tk := s1.toks) I1 _ (turn_str _ z t "str_iterator" (.inr rfl)) ⟨_, Heap.get?_push_size _ rfl, rfl, rfl⟩ q)
    · exact wpAny_pyIter_ascii ha (pi_one (tk := s1.toks) I1 _ (turn_str _ z t "str_ascii_iterator" (.inl rfl)) ⟨_, Heap.get?_push_size _ rfl, rfl, rfl⟩ q)
def itA : AV → Option (List AV)
  | .vl xs => some xs
  | .cl xs => some xs
  | .tup xs => some xs
  | .ct xs => some xs
  | .str z => some (sigs z)
  | _ => none
def itM (f : M AV) : M (List AV) := bindM f fun a => optM (itA a)
theorem PI.weak {e : Expr} {t t' : TI} (h : PI X tg e t) (w : ∀ σ H Q, t' σ H Q → t σ H Q) : PI X tg e t' := ⟨fun pins s σ H Q I q => h.run pins s σ H Q I (w σ H Q q)⟩
theorem pim_seq {e : Expr} {f : M AV} (h : PEm X e f) : PIm X tg e (itM f) := fun W tk =>
  PI.weak (pi_dyn (h W tk)) fun σ H Q ⟨U, F, ρ, S, R, p⟩ => ⟨U, F, ρ, S, R, Post.seq p fun F1 ρ1 S1 H1 a v s1 q1 r1 e1 p1 => by
    have e1 : Emb X.K F1 ρ1 a v := e1
    cases a with
    | vl xs =>
      simp only [Emb] at e1
      obtain ⟨q, vs, rfl, h1, h2⟩ := e1
      exact .inl ⟨q, rfl, ⟨vs, r1.lstF (SqL.of h1)⟩, p1 F1 ρ1 H1 _ (Same.refl _) (List.prefix_refl _) r1 (itok_list (SqL.of h1) h2)⟩
    | cl xs =>
      simp only [Emb] at e1
      obtain ⟨q, vs, rfl, h1, h2⟩ := e1
      exact .inl ⟨q, rfl, ⟨vs, r1.lstF h1⟩, p1 F1 ρ1 H1 _ (Same.refl _) (List.prefix_refl _) r1 (itok_list h1 h2)⟩
    | tup xs =>
      simp only [Emb] at e1
      obtain ⟨q, vs, rfl, h1, h2⟩ := e1
      exact .inr (.inl ⟨q, rfl, ⟨vs, SqT.of (r1.tupF h1)⟩, p1 F1 ρ1 H1 _ (Same.refl _) (List.prefix_refl _) r1 (itok_tup (.inl h1) h2)⟩)
    | ct xs =>
      simp only [Emb] at e1
      obtain ⟨q, vs, rfl, h1, h2⟩ := e1
      exact .inr (.inl ⟨q, rfl, ⟨vs, seqT0 h1⟩, p1 F1 ρ1 H1 _ (Same.refl _) (List.prefix_refl _) r1 (itok_tup (.inr h1) h2)⟩)
    | str z =>
      exact .inr (.inr ⟨z, emb_str e1, p1 F1 ρ1 H1 _ (Same.refl _) (List.prefix_refl _) r1 itok_str⟩)
    | _ => exact p1.elim⟩
def rng1 (f : M (List AV)) : M (List AV) := bindM f fun as s => match as with
  | [.int j] => if decide (-(2 ^ 62) ≤ j) && decide (j < 2 ^ 62) then .ok (ixsR 0 j.toNat) s else .stuck
  | _ => .stuck
def rng2 (f : M (List AV)) : M (List AV) := bindM f fun as s => match as with
  | [.int i, .int j] => if decide (-(2 ^ 62) ≤ i) && decide (i < 2 ^ 62) && decide (-(2 ^ 62) ≤ j) && decide (j < 2 ^ 62) then .ok (ixsR i (j - i).toNat) s else .stuck
  | _ => .stuck
theorem pim_range1 {a : Expr} {f : M (List AV)} {p : Pos} (hm : X.mg "range" = none) (ha : PAm X [a] f) (hg : Gl X "range" := by rfl) (hs : starEach [a] X.env = [(false, eval a X.env)] := by rfl) : PIm X tg (.Call (.Name "range" p) [a] [] pos) (rng1 f) := fun W tk =>
  PI.weak (pi_range1 hg hm (ha W tk) hs) fun σ H Q ⟨U, F, ρ, S, R, p⟩ => ⟨U, F, ρ, S, R, Post.seq p fun F1 ρ1 S1 H1 as vs s1 q1 r1 e1 p1 => by
    change EmbL X.K F1 ρ1 as vs at e1
    split at p1
    · rename_i j
      split at p1
      · rename_i hj
        simp only [EmbL] at e1
        obtain ⟨v, r, rfl, e2, rfl⟩ := e1
        simp only [Bool.and_eq_true, decide_eq_true_eq] at hj
        exact ⟨j, by rw [emb_int e2], hj.1, hj.2, p1 F1 ρ1 H1 _ (Same.refl _) (List.prefix_refl _) r1 itok_range⟩
      · exact p1.elim
    · exact p1.elim⟩
theorem pim_range2 {a b : Expr} {f : M (List AV)} {p : Pos} (hm : X.mg "range" = none) (ha : PAm X [a, b] f) (hg : Gl X "range" := by rfl) (hs : starEach [a, b] X.env = [(false, eval a X.env), (false, eval b X.env)] := by rfl) (hs2 : starEach [b] X.env = [(false, eval b X.env)] := by rfl) : PIm X tg (.Call (.Name "range" p) [a, b] [] pos) (rng2 f) := fun W tk =>
  PI.weak (pi_range2 hg hm (ha W tk) hs hs2) fun σ H Q ⟨U, F, ρ, S, R, p⟩ => ⟨U, F, ρ, S, R, Post.seq p fun F1 ρ1 S1 H1 as vs s1 q1 r1 e1 p1 => by
    change EmbL X.K F1 ρ1 as vs at e1
    split at p1
    · rename_i i j
      split at p1
      · rename_i hj
        simp only [EmbL] at e1
        obtain ⟨v, r, rfl, e2, w, r', rfl, e3, rfl⟩ := e1
        simp only [Bool.and_eq_true, decide_eq_true_eq] at hj
        exact ⟨i, j, by rw [emb_int e2, emb_int e3], ⟨hj.1.1.1, hj.1.1.2, hj.1.2, hj.2⟩, p1 F1 ρ1 H1 _ (Same.refl _) (List.prefix_refl _) r1 itok_range⟩
      · exact p1.elim
    · exact p1.elim⟩
/-! ## for -/
def forL (g : AV → M Unit) (b : M Fl) : List AV → M Fl
  | [] => nxM
  | x :: xs => fun s => match g x s with
    | .ok _ s => (match b s with
      | .ok .nx s => forL g b xs s
      | .ok .ct s => forL g b xs s
      | .ok .bk s => .ok .nx s
      | r => r)
    | _ => .stuck
def forM (it : M (List AV)) (g : AV → M Unit) (b : M Fl) : M Fl := bindM it fun xs => forL g b xs
theorem psm_for {iter : Expr} {body : List Stmt} {it : M (List AV)} {g : AV → M Unit} {m : M Fl} (hpo : PassesOwn (model X.prog X.w) X.A X.env X.xe) (hc : X.calm = true) (hi : PIm X tg iter it) (hg : PGm X (Zp pn) tg g) (hb : PSsm X pn body m)
    (hs : ∀ x, foldedSetIterable iter X.env x = pure x := by intro _; rfl) : PSm X pn (.For tg iter body [] pos) (forM it g m) := fun W tk => by
  obtain ⟨t, hg, w⟩ := hg
  refine PS.weak (ps_for hpo hc (hi W tk) hg (hb W tk) hs) fun σ₀ H₀ D ⟨U, F₀, ρ₀, S₀, R₀, p₀⟩ => ⟨U, F₀, ρ₀, S₀, R₀, SPost.seq p₀ fun F1 ρ1 S1 H1 xs J s1 q1 r1 e1 p1 => ?_⟩
  change ItOk X.K F1 ρ1 xs J at e1
  refine ⟨fun i k σ H => k = xs.length - i ∧ i ≤ xs.length ∧ ∃ F ρ S, Same F1 F ∧ ρ1 <+: ρ ∧ Rep X.K U F ρ S σ H ∧ SPost X.K U F ρ σ pn D W (forL g m (xs.drop i) S), ⟨xs.length, by simp, Nat.zero_le _, F1, ρ1, S1, Same.refl _, List.prefix_refl _, r1, by simpa using p1⟩, ?_⟩
  rintro i k σ H ⟨rfl, hi, F, ρ, S, sm, pr, R, p⟩
  obtain ⟨it1, it2⟩ := e1 U F ρ S σ H sm pr R
  by_cases hlt : i < xs.length
  · have hx : xs[i]? = some xs[i] := List.getElem?_eq_getElem hlt
    have hd : xs.drop i = xs[i] :: xs.drop (i + 1) := List.drop_eq_getElem_cons hlt
    rw [hd] at p
    obtain ⟨go, yld⟩ := it1 i xs[i] hx
    refine .inr ⟨go, fun σ' H' => ∃ F ρ S, Same F1 F ∧ ρ1 <+: ρ ∧ Rep X.K U F ρ S σ' H' ∧ SPost X.K U F ρ σ' pn D W (forL g m (xs.drop (i + 1)) S), fun σ' H' h => ⟨xs.length - (i + 1), by omega, rfl, hlt, h⟩, fun x H' hy => ?_⟩
    obtain ⟨F2, sm2, R2, em⟩ := yld x H' hy
    have p := SPost.up (σ1 := σ) sm2 (List.prefix_refl _) (fun _ => rfl) p
    have p : SPost X.K U F2 ρ σ pn D W (match g xs[i] S with
      | .ok _ s => (match m s with
        | .ok .nx s => forL g m (xs.drop (i + 1)) s
        | .ok .ct s => forL g m (xs.drop (i + 1)) s
        | .ok .bk s => .ok .nx s
        | r => r)
      | _ => .stuck) := p
    refine w _ _ _ _ ⟨U, F2, ρ, S, xs[i], R2, em, ?_⟩
    cases z : g xs[i] S with
    | stuck => rw [z] at p; exact p
    | exn c s => rw [z] at p; exact p
    | ok u S3 =>
      rw [z] at p
      intro F3 ρ3 σ3 H3 s3 q3 r3 k3
      refine ⟨U, F3, ρ3, S3, r3, ?_⟩
      have p := SPost.up s3 q3 k3 p
      cases z2 : m S3 with
      | stuck => simp only [z2] at p; exact p
      | exn c s => simp only [z2] at p; exact p
      | ok a S4 =>
        simp only [z2] at p
        cases a with
        | nx => exact fun F4 ρ4 σ4 H4 s4 q4 r4 k4 => ⟨F4, ρ4, S4, ((sm.trans sm2).trans s3).trans s4, (pr.trans q3).trans q4, r4, SPost.up s4 q4 k4 p⟩
        | ct => exact fun F4 ρ4 σ4 H4 s4 q4 r4 k4 => ⟨F4, ρ4, S4, ((sm.trans sm2).trans s3).trans s4, (pr.trans q3).trans q4, r4, SPost.up s4 q4 k4 p⟩
        | bk => exact p
        | rt v => exact p
  · have e : i = xs.length := by omega
    subst e
    rw [List.drop_length] at p
    exact .inl ⟨it2, p F ρ σ H (Same.refl _) (List.prefix_refl _) R fun _ => rfl⟩
/-! ## comprehensions -/
def wipeL (l : List (Option SV)) : List Nat → List (Option SV)
  | [] => l
  | v :: vs => (wipeL l vs).set v none
def wipeS (vs : List Nat) (s : SS) : SS := { s with sl := wipeL s.sl vs }
def putBack (old : List (Option SV)) (l : List (Option SV)) : List Nat → List (Option SV)
  | [] => l
  | v :: vs => (putBack old l vs).set v (match old[v]? with
    | some (some (.val a)) => some (.val a)
    | _ => none)
def compL (vs : List Nat) (g : AV → M Unit) (c : M Bool) (e : M AV) : List AV → List AV → M (List AV)
  | [], acc => fun s => .ok acc (wipeS vs s)
  | x :: xs, acc => fun s => match g x (wipeS vs s) with
    | .ok _ s => (match c s with
      | .ok true s => (match e s with
        | .ok a s => if acc.length < 16777216 then compL vs g c e xs (acc ++ [a]) s else .stuck
        | _ => .stuck)
      | .ok false s => compL vs g c e xs acc s
      | _ => .stuck)
    | _ => .stuck
def ownAt (l : List (Option SV)) (vs : List Nat) : Bool := vs.any fun v => match l[v]? with
  | some (some (.own _)) => true
  | _ => false
def compM (vs : List Nat) (it : M (List AV)) (g : AV → M Unit) (c : M Bool) (e : M AV) : M AO := bindM it fun xs s => if ownAt s.sl vs then .stuck else match compL vs g c e xs [] s with
  | .ok acc s' => .ok (.lst acc) { s' with sl := putBack s.sl s'.sl vs }
  | _ => .stuck
end
section
variable {K : PySem.W.Frag} {U F F1 H : Hp} {ρ : List Addr} {S S1 : SS} {σ : St}
theorem set_none_iff {α : Type} {l : List (Option α)} {i j : Nat} {x : α} (q : (l.set i none)[j]? = some (some x)) : l[j]? = some (some x) ∧ i ≠ j := by
  by_cases hj : i = j
  · subst hj
    by_cases hi : i < l.length
    · rw [List.getElem?_set_self hi] at q; cases q
    · rw [List.getElem?_eq_none (by simpa using hi)] at q; cases q
  · rw [List.getElem?_set_ne hj] at q; exact ⟨q, hj⟩
theorem Rep.wipe1 (R : Rep K U F ρ S σ H) (i : Nat) : Rep K U F ρ { S with sl := S.sl.set i none } (σ.set i none) H := by
  refine ⟨by simp [R.len], R.fro, R.unt, R.rln, R.rnd, R.rF, R.FU, R.hp, fun j b q => ?_, fun j o' q => ?_, R.tab⟩
  · obtain ⟨q, ne⟩ := set_none_iff q
    rw [List.getElem?_set_ne ne]
    exact R.val j b q
  · obtain ⟨q, ne⟩ := set_none_iff q
    rw [List.getElem?_set_ne ne]
    obtain ⟨p', f1, f2, f3, f4, f5, f6⟩ := R.own j o' q
    refine ⟨p', f1, f2, f3, f4, f5, fun k o'' q' z => ?_⟩
    obtain ⟨q', _⟩ := set_none_iff q'
    obtain ⟨z, _⟩ := set_none_iff z
    exact f6 k o'' q' z
theorem Rep.wipeN (R : Rep K U F ρ S σ H) : ∀ vs : List Nat, Rep K U F ρ (wipeS vs S) (wipe σ vs) H
  | [] => R
  | v :: vs => (Rep.wipeN R vs).wipe1 v
/-- an address of the caller's own is set aside -/
theorem Rep.shield {D : Addr} {u : HO} (R : Rep K U F ρ S σ H) (hD : H D = none) (hnt : ∀ ps, u ≠ .tbl ps := by intro ps z; cases z) : Rep K (upd U D u) F ρ S σ (upd H D u) := by
  obtain ⟨h1, h2, h3, h4⟩ := R.new hD
  have R1 := R.laid (u := u) hD
  refine ⟨R1.len, R1.fro, fun b o e => ?_, R1.rln, R1.rnd, fun q hq => ⟨(R1.rF q hq).1, ?_⟩, fun b w e => ?_, R1.hp, R1.val, fun i o e => ?_, R1.tab.u hnt⟩
  · by_cases hb : b = D
    · subst hb; rw [upd_same] at e ⊢; exact e
    · rw [upd_ne hb] at e; exact R1.unt b o e
  · rw [upd_ne (fun (z : q = D) => h3 (z ▸ hq))]; exact (R1.rF q hq).2
  · have ne := ne_of_none e h1
    rw [upd_ne ne]; exact R1.FU b w e
  · obtain ⟨q, e1, e2, e3, e4, e5⟩ := R1.own i o e
    have ne : q ≠ D := fun z => h4 i o e (z ▸ e1)
    exact ⟨q, e1, e2, e3, by rw [upd_ne ne]; exact e4, e5⟩
theorem Rep.shut {D : Addr} {u : HO} (R : Rep K (upd U D u) F ρ S σ H) (hU : U D = none) (hu : (∀ o x, u ≠ .frz o x) ∧ ∀ vs, u ≠ .tup vs) : F D = none ∧ D ∉ ρ ∧ ∀ (j : Nat) (o' : AO), S.sl[j]? = some (some (.own o')) → σ[j]? ≠ some (some (.ref D)) := by
  refine ⟨?_, fun hm => ?_, fun j o' e z => ?_⟩
  · cases e : F D with
    | none => rfl
    | some w =>
      rcases R.FU D w e with h | ⟨ob, h⟩ | ⟨vs, rfl⟩
      · rw [upd_same] at h; cases h
      · rw [upd_same] at h; cases h; exact absurd rfl (hu.1 _ _)
      · have hd := R.unt D u upd_same
        rcases R.fro D _ e with h | ⟨h, _⟩
        · rw [hd] at h; cases h; exact absurd rfl (hu.2 _)
        · cases h
  · rcases (R.rF D hm).2 with h | ⟨ob, w, h⟩
    · rw [upd_same] at h; cases h
    · rw [upd_same] at h; cases h; exact hu.1 _ _ rfl
  · obtain ⟨q, e1, _, _, e4, _⟩ := R.own j o' e
    rw [z] at e1; cases e1
    rw [upd_same] at e4; cases e4
theorem Rep.unshield {D : Addr} {u : HO} (R : Rep K (upd U D u) F ρ S σ H) (hU : U D = none) : Rep K U F ρ S σ H := by
  refine ⟨R.len, R.fro, fun b o e => R.unt b o (by rw [upd_ne (ne_of_none e hU)]; exact e), R.rln, R.rnd, fun q hq => ⟨(R.rF q hq).1, ?_⟩, fun b w e => ?_, R.hp, R.val, fun i o e => ?_, ⟨R.tab.tb, fun b ps z => R.tab.nu b ps (by rw [upd_ne (ne_of_none z hU)]; exact z), R.tab.nf⟩⟩
  · have h := (R.rF q hq).2
    by_cases hb : q = D
    · rw [hb]; exact .inl hU
    · rw [upd_ne hb] at h; exact h
  · by_cases hb : b = D
    · rw [hb]; exact .inl hU
    · have h := R.FU b w e; rw [upd_ne hb] at h; exact h
  · obtain ⟨q, e1, e2, e3, e4, e5⟩ := R.own i o e
    refine ⟨q, e1, e2, e3, ?_, e5⟩
    by_cases hb : q = D
    · rw [hb]; exact hU
    · rw [upd_ne hb] at e4; exact e4
theorem Rep.reshield {D : Addr} {u u' : HO} (R : Rep K (upd U D u) F ρ S σ H) (hU : U D = none) (hu : (∀ o x, u ≠ .frz o x) ∧ ∀ vs, u ≠ .tup vs) (hpl : PlainAt H D) (hnt : ∀ ps, u' ≠ .tbl ps := by intro ps z; cases z) : Rep K (upd U D u') F ρ S σ (upd H D u') := by
  obtain ⟨h1, h2, h3⟩ := R.shut hU hu
  have R2 := (R.unshield hU).at_ (u := u') h1 hU h2 h3 hpl
  refine ⟨R2.len, R2.fro, fun b o e => ?_, R2.rln, R2.rnd, fun q hq => ⟨(R2.rF q hq).1, ?_⟩, fun b w e => ?_, R2.hp, R2.val, fun i o e => ?_, R2.tab.u hnt⟩
  · by_cases hb : b = D
    · subst hb; rw [upd_same] at e ⊢; exact e
    · rw [upd_ne hb] at e; exact R2.unt b o e
  · rw [upd_ne (fun (z : q = D) => h2 (z ▸ hq))]; exact (R2.rF q hq).2
  · rw [upd_ne (ne_of_none e h1)]; exact R2.FU b w e
  · obtain ⟨q, e1, e2, e3, e4, e5⟩ := R2.own i o e
    have ne : q ≠ D := fun z => h3 i o e (z ▸ e1)
    exact ⟨q, e1, e2, e3, by rw [upd_ne ne]; exact e4, e5⟩
theorem Rep.shield0 {D : Addr} {u : HO} (R : Rep K (upd U D u) F ρ S σ H) : H D = some u := R.unt D u upd_same
/-- slots put back behind a block -/
theorem wipe_out' {σ : St} {i : Nat} : ∀ {vs : List Nat}, i ∉ vs → (wipe σ vs)[i]? = σ[i]? := wipe_out
theorem putBack_get {old l : List (Option SV)} {j : Nat} {x : SV} : ∀ {vs : List Nat}, (putBack old l vs)[j]? = some (some x) → (j ∉ vs ∧ l[j]? = some (some x)) ∨ (j ∈ vs ∧ ∃ a, x = .val a ∧ old[j]? = some (some (.val a)))
  | [], h => .inl ⟨by simp, h⟩
  | v :: vs, h => by
    unfold putBack at h
    by_cases hj : v = j
    · subst hj
      by_cases hi : v < (putBack old l vs).length
      · rw [List.getElem?_set_self hi] at h
        refine .inr ⟨by simp, ?_⟩
        cases e : old[v]? with
        | none => rw [e] at h; cases h
        | some o =>
          rw [e] at h
          cases o with
          | none => cases h
          | some sv =>
            cases sv with
            | val a => cases h; exact ⟨a, rfl, rfl⟩
            | own o => cases h
      · rw [List.getElem?_eq_none (by simpa using hi)] at h; cases h
    · rw [List.getElem?_set_ne hj] at h
      rcases putBack_get h with ⟨h1, h2⟩ | ⟨h1, h2⟩
      · exact .inl ⟨by simp [h1]; exact fun z => hj z.symm, h2⟩
      · exact .inr ⟨by simp [h1], h2⟩
theorem putBack_length {old l : List (Option SV)} : ∀ {vs : List Nat}, (putBack old l vs).length = l.length
  | [] => rfl
  | v :: vs => by unfold putBack; rw [List.length_set, putBack_length]
theorem wipeL_get {l : List (Option SV)} {j : Nat} {x : SV} : ∀ {vs : List Nat}, (wipeL l vs)[j]? = some (some x) → j ∉ vs ∧ l[j]? = some (some x)
  | [], h => ⟨by simp, h⟩
  | v :: vs, h => by
    obtain ⟨h1, h2⟩ := set_none_iff (l := wipeL l vs) h
    obtain ⟨h3, h4⟩ := wipeL_get h1
    exact ⟨by simp [h3]; exact fun z => h2 z.symm, h4⟩
theorem Rep.unwipe {F₁ : Hp} {ρ₁ : List Addr} {vs : List Nat} {old : List (Option SV)} (R : Rep K U F ρ S (L2.wipe σ vs) H) (h0 : ∀ (i : Nat) (a : AV), old[i]? = some (some (.val a)) → ∃ v, σ[i]? = some (some v) ∧ Emb K F₁ ρ₁ a v) (sm : Same F₁ F) (pr : ρ₁ <+: ρ)
    (hw : ∀ (j : Nat) (x : SV), S.sl[j]? = some (some x) → j ∉ vs) : Rep K U F ρ { S with sl := putBack old S.sl vs } σ H := by
  refine ⟨?_, R.fro, R.unt, R.rln, R.rnd, R.rF, R.FU, R.hp, fun j b q => ?_, fun j o' q => ?_, R.tab⟩
  · have := R.len
    rw [wipe_length] at this
    simp [putBack_length, this]
  · rcases putBack_get q with ⟨h1, h2⟩ | ⟨h1, a, e, h2⟩
    · obtain ⟨v, e1, e2⟩ := R.val j b h2
      rw [wipe_out h1] at e1
      exact ⟨v, e1, e2⟩
    · cases e
      obtain ⟨v, e1, e2⟩ := h0 j b h2
      exact ⟨v, e1, Emb.mono sm pr _ _ e2⟩
  · rcases putBack_get q with ⟨h1, h2⟩ | ⟨h1, a, e, h2⟩
    · obtain ⟨p, f1, f2, f3, f4, f5, f6⟩ := R.own j o' h2
      rw [wipe_out h1] at f1
      refine ⟨p, f1, f2, f3, f4, f5, fun k o'' q' z => ?_⟩
      rcases putBack_get q' with ⟨g1, g2⟩ | ⟨g1, a, e, g2⟩
      · exact f6 k o'' g2 (by rw [wipe_out g1]; exact z)
      · cases e
    · cases e
end
section
variable {X : Cx} {pn : Bool} {pos : Pos} {tg : Expr}
theorem comp_core {W : WX} {wi : TI} {g : TG} {tt : TT} {te : TE} {vs : List Nat} {it : M (List AV)} {gm : AV → M Unit} {c : M Bool} {e : M AV} {σ : St} {H : Hp} {Q : VK}
    (hwi : ∀ σ H R, tG X.K W (RI X.K) it σ H R → wi σ H R) (hg : ∀ v σ H Q, tGt X.K (Zw vs) gm v σ H Q → g v σ H Q) (htt : ∀ σ H Q, tG X.K (fun _ _ _ _ => False) (RT X.K) c σ H Q → tt σ H Q) (hte : ∀ σ H Q, tG X.K (fun _ _ _ _ => False) (RE X.K) e σ H Q → te σ H Q)
    (h : tG X.K W (RN X.K) (compM vs it gm c e) σ H Q) : tLc wi g tt te vs σ H Q := by
  obtain ⟨U, F₀, ρ₀, S₀, R₀, p₀⟩ := h
  refine hwi _ _ _ ⟨U, F₀, ρ₀, S₀, R₀, Post.seq p₀ fun F1 ρ1 S1 H1 xs J s1 q1 r1 e1 p1 => ?_⟩
  change ItOk X.K F1 ρ1 xs J at e1
  intro D hD
  by_cases how : ownAt S1.sl vs = true
  · rw [if_pos how] at p1; exact p1.elim
  rw [if_neg how] at p1
  obtain ⟨nF, nU, nρ, nO⟩ := r1.new hD
  have nfr : ∀ (l : List V), (∀ o x, HO.lst l ≠ .frz o x) ∧ ∀ vs, HO.lst l ≠ .tup vs := fun _ => ⟨fun _ _ z => (by cases z), fun _ z => (by cases z)⟩
  -- what is wanted of the rest of the list
  let Good : Res (List AV) → Hp → List Addr → Prop := fun r F ρ => ∃ acc s', r = .ok acc s' ∧ ∀ F' ρ' H' accv, Same F F' → ρ <+: ρ' → Rep X.K (upd U D (.lst accv)) F' ρ' s' (wipe σ vs) H' → (∀ (j : Nat) (x : SV), s'.sl[j]? = some (some x) → j ∉ vs) → EmbL X.K F' ρ' acc accv → Same F1 F' → ρ1 <+: ρ' → Q (.ref D) H'
  have start : Good (compL vs gm c e xs [] S1) F1 ρ1 := by
    cases z : compL vs gm c e xs [] S1 with
    | stuck => rw [z] at p1; exact p1.elim
    | exn c s => rw [z] at p1; exact p1.elim
    | ok acc s' =>
      rw [z] at p1
      refine ⟨acc, s', rfl, fun F' ρ' H' accv sm pr R hw em sm1 pr1 => ?_⟩
      obtain ⟨u1, u2, u3⟩ := R.shut nU (nfr accv)
      have R2 := R.unshield nU
      have R3 := R2.unwipe (old := S1.sl) r1.val sm pr hw
      refine p1 F' ρ' H' (.ref D) sm1 pr1 R3 ⟨D, rfl, ⟨accv, R.shield0, em⟩, u1, nU, u2, fun j o' q z => ?_⟩
      rcases putBack_get q with ⟨h1, h2⟩ | ⟨h1, a, e, h2⟩
      · exact u3 j o' h2 (by rw [wipe_out h1]; exact z)
      · cases e
  refine ⟨fun i k H => k = xs.length - i ∧ i ≤ xs.length ∧ ∃ F ρ S σ' acc accv, Same F1 F ∧ ρ1 <+: ρ ∧ wipe σ' vs = wipe σ vs ∧ Rep X.K (upd U D (.lst accv)) F ρ S σ' H ∧ EmbL X.K F ρ acc accv ∧ Good (compL vs gm c e (xs.drop i) acc S) F ρ,
    ⟨xs.length, by simp, Nat.zero_le _, F1, ρ1, S1, σ, [], [], Same.refl _, List.prefix_refl _, rfl, r1.shield hD, by simp [EmbL], by simpa using start⟩, ?_⟩
  rintro i k H ⟨rfl, hi, F, ρ, S, σ', acc, accv, sm, pr, hσ, R, em, gd⟩
  have Rw : Rep X.K (upd U D (.lst accv)) F ρ (wipeS vs S) (wipe σ vs) H := by
    have := R.wipeN vs
    rw [hσ] at this
    exact this
  obtain ⟨it1, it2⟩ := e1 _ F ρ _ _ H sm pr Rw
  by_cases hlt : i < xs.length
  · have hx : xs[i]? = some xs[i] := List.getElem?_eq_getElem hlt
    have hd : xs.drop i = xs[i] :: xs.drop (i + 1) := List.drop_eq_getElem_cons hlt
    rw [hd] at gd
    obtain ⟨go, yld⟩ := it1 i xs[i] hx
    refine .inr ⟨go, fun H => ∃ F ρ S σ' acc accv, Same F1 F ∧ ρ1 <+: ρ ∧ wipe σ' vs = wipe σ vs ∧ Rep X.K (upd U D (.lst accv)) F ρ S σ' H ∧ EmbL X.K F ρ acc accv ∧ Good (compL vs gm c e (xs.drop (i + 1)) acc S) F ρ, fun H' h => ⟨xs.length - (i + 1), by omega, rfl, hlt, h⟩, fun x H' hy => ?_⟩
    obtain ⟨F2, sm2, R2, emx⟩ := yld x H' hy
    obtain ⟨acc', s', hr, gd⟩ := gd
    have hr : (match gm xs[i] (wipeS vs S) with
      | .ok _ s => (match c s with
        | .ok true s => (match e s with
          | .ok a s => if acc.length < 16777216 then compL vs gm c e (xs.drop (i + 1)) (acc ++ [a]) s else .stuck
          | _ => .stuck)
        | .ok false s => compL vs gm c e (xs.drop (i + 1)) acc s
        | _ => .stuck)
      | _ => .stuck) = Res.ok acc' s' := hr
    have wt : wipe (wipe σ vs) vs = wipe σ vs := by
      have h1 : ∀ (l : List Nat) (τ : St), (∀ v ∈ l, τ[v]? = some none ∨ τ[v]? = none) → wipe τ l = τ := by
        intro l
        induction l with
        | nil => intro τ _; rfl
        | cons v l ih =>
          intro τ hτ
          show (wipe τ l).set v none = τ
          rw [ih τ fun u hu => hτ u (List.mem_cons_of_mem _ hu)]
          apply List.ext_getElem?
          intro j
          by_cases hj : v = j
          · subst hj
            rcases hτ v List.mem_cons_self with q | q
            · rw [List.getElem?_set_self (List.getElem?_eq_some_iff.mp q).1, q]
            · rw [List.getElem?_eq_none (by simpa using q), q]
          · rw [List.getElem?_set_ne hj]
      refine h1 vs _ fun v hv => ?_
      cases z : (wipe σ vs)[v]? with
      | none => exact .inr rfl
      | some o =>
        cases o with
        | none => exact .inl rfl
        | some w => exact absurd hv (wipe_some z).2
    refine hg _ _ _ _ ⟨_, F2, ρ, wipeS vs S, xs[i], R2, emx, ?_⟩
    cases z : gm xs[i] (wipeS vs S) with
    | stuck => rw [z] at hr; cases hr
    | exn cc s => rw [z] at hr; cases hr
    | ok u S3 =>
      simp only [z] at hr
      intro F3 ρ3 σ3 H3 s3 q3 r3 k3
      have k3 : wipe σ3 vs = wipe σ vs := (show wipe σ3 vs = wipe (wipe σ vs) vs from k3).trans wt
      refine ⟨k3.trans wt.symm |> fun q => by rw [k3], htt _ _ _ ⟨_, F3, ρ3, S3, r3, ?_⟩⟩
      cases z2 : c S3 with
      | stuck => rw [z2] at hr; cases hr
      | exn cc s => rw [z2] at hr; cases hr
      | ok b S4 =>
        simp only [z2] at hr
        intro F4 ρ4 H4 b' s4 q4 r4 e4
        have e4 : b' = b := e4
        subst e4
        have em4 : EmbL X.K F4 ρ4 acc accv := ((em.mono sm2 (List.prefix_refl _)).mono s3 q3).mono s4 q4
        have sm4 : Same F F4 := (sm2.trans s3).trans s4
        have pr4 : ρ <+: ρ4 := q3.trans q4
        cases b' with
        | false =>
          rw [if_neg Bool.false_ne_true]
          exact ⟨F4, ρ4, S4, σ3, acc, accv, sm.trans sm4, pr.trans pr4, k3, r4, em4, acc', s', hr, fun F' ρ' H' av' s q => gd F' ρ' H' av' (sm4.trans s) (pr4.trans q)⟩
        | true =>
          rw [if_pos rfl]
          refine hte _ _ _ ⟨_, F4, ρ4, S4, r4, ?_⟩
          simp only at hr
          cases z3 : e S4 with
          | stuck => rw [z3] at hr; cases hr
          | exn cc s => rw [z3] at hr; cases hr
          | ok a S5 =>
            simp only [z3] at hr
            by_cases hlen : acc.length < 16777216
            · rw [if_pos hlen] at hr
              intro F5 ρ5 H5 y s5 q5 r5 e5
              have em5 : EmbL X.K F5 ρ5 acc accv := em4.mono s5 q5
              refine ⟨accv, r5.shield0, by rw [sz, em5.length]; exact hlen, F5, ρ5, S5, σ3, acc ++ [a], accv ++ [y], sm.trans (sm4.trans s5), pr.trans (pr4.trans q5), k3, r5.reshield nU (nfr accv) (plain_of r5.shield0 (fun _ z => by cases z) (fun _ z => by cases z)), em5.append ?_, acc', s', hr, fun F' ρ' H' av' s q => gd F' ρ' H' av' ((sm4.trans s5).trans s) ((pr4.trans q5).trans q)⟩
              simp only [EmbL]
              exact ⟨y, [], rfl, e5, rfl⟩
            · rw [if_neg hlen] at hr; cases hr
  · have e : i = xs.length := by omega
    subst e
    rw [List.drop_length] at gd
    obtain ⟨acc', s', hr, gd⟩ := gd
    have hr : Res.ok acc (wipeS vs S) = Res.ok acc' s' := hr
    cases hr
    refine .inl ⟨it2, gd F ρ H accv (Same.refl _) (List.prefix_refl _) Rw (fun j x q => (wipeL_get q).1) em sm pr⟩
end
end LM

namespace LM
open PyProof.Rows hiding St frameOf passOn
open PySem PySem.Spec L2
variable [TabNames]
section
variable {X : Cx} {pn : Bool} {pos : Pos} {tg : Expr}
abbrev W0 : WX := fun _ _ _ _ => False
def PTsm (X : Cx) (ifs : List Expr) (c : M Bool) : Prop := PTs X ifs (tG X.K W0 (RT X.K) c)
def yesM : M Bool := fun s => .ok true s
theorem PTs.weak {ifs : List Expr} {t t' : TT} (h : PTs X ifs t) (w : ∀ σ H Q, t' σ H Q → t σ H Q) : PTs X ifs t' := ⟨fun pins s σ H Q I q => h.run pins s σ H Q I (w σ H Q q)⟩
theorem ptsm_nil : PTsm X [] yesM := PTs.weak pts_nil fun σ H Q ⟨U, F, ρ, S, R, p⟩ => p F ρ H true (Same.refl _) (List.prefix_refl _) R rfl
theorem ptsm_one {c : Expr} {f : M Bool} (h : PTm X c f) (tk : Takes X W0) : PTsm X [c] f := pts_one (h W0 tk)
/-- the context of a comprehension's block -/
abbrev Blk (X : Cx) (scope : Scope) (P : Cx → Prop) : Prop := ∀ (s : Shared) (H : Hp) (C : Addr) (cl : List (Str × Addr)) (fp : List Addr), P (X.blk s H scope (compEnvC scope cl C X.env) fp)
section
variable {elt iter : Expr} {ifs : List Expr} {scope : Scope} {own : List (Str × Nat)} {it : M (List AV)} {g : AV → M Unit} {c : M Bool} {e : M AV} {i : Nat} {y : Str} {py spos : Pos}
theorem pg_blk (hg : ∀ (s : Shared) (H : Hp) (C : Addr) (cl : List (Str × Addr)) (fp : List Addr), PGm (X.blk s H scope (compEnvC scope cl C X.env) fp) (Zw (own.map (·.2))) tg g) :
    ∀ (s : Shared) (H : Hp) (C : Addr) (cl : List (Str × Addr)) (fp : List Addr), PG (X.blk s H scope (compEnvC scope cl C X.env) fp) tg (tGt X.K (Zw (own.map (·.2))) g) := fun s H C cl fp => by
  obtain ⟨t, h, w⟩ := hg s H C cl fp
  exact ⟨fun pins s' σ H' v u Q I r q => h.run pins s' σ H' v u Q I r (w v σ H' Q q)⟩
theorem pn_lc (hc : X.calm = true) (hN : X.N.Nodup) (hi : PIm X tg iter it) (ok : BlkOk X.N X.env.scope scope own)
    (hg : ∀ (s : Shared) (H : Hp) (C : Addr) (cl : List (Str × Addr)) (fp : List Addr), PGm (X.blk s H scope (compEnvC scope cl C X.env) fp) (Zw (own.map (·.2))) tg g)
    (ht : ∀ (s : Shared) (H : Hp) (C : Addr) (cl : List (Str × Addr)) (fp : List Addr), PTsm (X.blk s H scope (compEnvC scope cl C X.env) fp) ifs c)
    (he : ∀ (s : Shared) (H : Hp) (C : Addr) (cl : List (Str × Addr)) (fp : List Addr), PEm (X.blk s H scope (compEnvC scope cl C X.env) fp) elt e) (hs : ∀ x, foldedSetIterable iter X.env x = pure x := by intro _; rfl) :
    PNm X (.ListComp elt [⟨tg, iter, ifs, 0⟩] scope pos) (compM (own.map (·.2)) it g c e) := fun W tk =>
  PE.weak (pe_lc (own := own) (tt := tG X.K W0 (RT X.K) c) (te := tG X.K W0 (RE X.K) e) hc hN (hi W tk) ok (pg_blk hg) ht (fun s H C cl fp => he s H C cl fp W0 takes0) hs) fun σ H Q h =>
    comp_core (fun _ _ _ h => h) (fun _ _ _ _ h => h) (fun _ _ _ h => h) (fun _ _ _ h => h) h
/-- y = [..] on one line -/
theorem psm_setLcO (hc : X.calm = true) (hN : X.N.Nodup) (hy : X.N[i]? = some y) (hyl : X.env.scope.names.lookup y = some .local)
    (hsw : swapsWith (.ListComp elt [⟨tg, iter, ifs, 0⟩] scope pos) (some (.Name y py)) spos.line X.env = pure true) (hi : PIm X tg iter it) (ok : BlkOk X.N X.env.scope scope own)
    (hg : ∀ (s : Shared) (H : Hp) (C : Addr) (cl : List (Str × Addr)) (fp : List Addr), PGm (X.blk s H scope (compEnvC scope cl C X.env) fp) (Zw (own.map (·.2))) tg g)
    (ht : ∀ (s : Shared) (H : Hp) (C : Addr) (cl : List (Str × Addr)) (fp : List Addr), PTsm (X.blk s H scope (compEnvC scope cl C X.env) fp) ifs c)
    (he : ∀ (s : Shared) (H : Hp) (C : Addr) (cl : List (Str × Addr)) (fp : List Addr), PEm (X.blk s H scope (compEnvC scope cl C X.env) fp) elt e) (hs : ∀ x, foldedSetIterable iter X.env x = pure x := by intro _; rfl) (hp : pn = true → i ≠ 0 := by decide) :
    PSm X pn (.Assign [.Name y py] (.ListComp elt [⟨tg, iter, ifs, 0⟩] scope pos) spos) (asgO i (compM (own.map (·.2)) it g c e)) := fun W tk =>
  PS.weak (ps_setLc (own := own) (tt := tG X.K W0 (RT X.K) c) (te := tG X.K W0 (RE X.K) e) hc hN hy hyl hsw (hi W tk) ok (pg_blk hg) ht (fun s H C cl fp => he s H C cl fp W0 takes0) hs) fun σ H D ⟨U, F, ρ, S, R, p⟩ =>
    comp_core (fun _ _ _ h => h) (fun _ _ _ _ h => h) (fun _ _ _ h => h) (fun _ _ _ h => h) ⟨U, F, ρ, S, R, SPost.seq p fun F1 ρ1 S1 H1 o v s1 q1 r1 e1 p1 => by
      obtain ⟨n, rfl, L⟩ := e1
      exact p1 F1 ρ1 _ H1 (Same.refl _) (List.prefix_refl _) (r1.setOwn L) (set_pin hp)⟩
theorem psm_setLc (hc : X.calm = true) (hN : X.N.Nodup) (hy : X.N[i]? = some y) (hyl : X.env.scope.names.lookup y = some .local)
    (hsw : swapsWith (.ListComp elt [⟨tg, iter, ifs, 0⟩] scope pos) (some (.Name y py)) spos.line X.env = pure true) (hi : PIm X tg iter it) (ok : BlkOk X.N X.env.scope scope own)
    (hg : ∀ (s : Shared) (H : Hp) (C : Addr) (cl : List (Str × Addr)) (fp : List Addr), PGm (X.blk s H scope (compEnvC scope cl C X.env) fp) (Zw (own.map (·.2))) tg g)
    (ht : ∀ (s : Shared) (H : Hp) (C : Addr) (cl : List (Str × Addr)) (fp : List Addr), PTsm (X.blk s H scope (compEnvC scope cl C X.env) fp) ifs c)
    (he : ∀ (s : Shared) (H : Hp) (C : Addr) (cl : List (Str × Addr)) (fp : List Addr), PEm (X.blk s H scope (compEnvC scope cl C X.env) fp) elt e) (hs : ∀ x, foldedSetIterable iter X.env x = pure x := by intro _; rfl) (hp : pn = true → i ≠ 0 := by decide) :
    PSm X pn (.Assign [.Name y py] (.ListComp elt [⟨tg, iter, ifs, 0⟩] scope pos) spos) (asgM (setV i) (frM (compM (own.map (·.2)) it g c e))) := fun W tk =>
  PS.weak (ps_setLc (own := own) (tt := tG X.K W0 (RT X.K) c) (te := tG X.K W0 (RE X.K) e) hc hN hy hyl hsw (hi W tk) ok (pg_blk hg) ht (fun s H C cl fp => he s H C cl fp W0 takes0) hs) fun σ H D ⟨U, F, ρ, S, R, p⟩ =>
    comp_core (fun _ _ _ h => h) (fun _ _ _ _ h => h) (fun _ _ _ h => h) (fun _ _ _ h => h) ⟨U, F, ρ, S, R, by
      have p : SPost X.K U F ρ σ pn D W (bindR (bindR (compM (own.map (·.2)) it g c e S) fun o s => .ok o.frz s) fun a s => match setV i a s with | .ok _ s => .ok .nx s | _ => .stuck) := p
      cases z : compM (own.map (·.2)) it g c e S with
      | stuck => rw [z] at p; exact p.elim
      | exn cc s => rw [z] at p; exact fun F' ρ' H' s' q' r' => p F' ρ' σ H' s' q' r'
      | ok o S1 =>
        rw [z] at p
        intro F1 ρ1 H1 v s1 q1 r1 e1
        obtain ⟨n, rfl, L⟩ := e1
        obtain ⟨u, hu⟩ := L.some
        obtain ⟨R2, em, sm⟩ := r1.freeze L hu
        exact p _ ρ1 _ H1 (s1.trans sm) q1 (R2.set em) (set_pin hp)⟩
end
/-! ## stores -/
def obP (pv : PV) (s : SS) : Option AO := match pv with
  | .av (.ref j) => s.hp[j]?
  | .sl i => match s.sl[i]? with
    | some (some (.own o)) => some o
    | some (some (.val (.ref j))) => s.hp[j]?
    | _ => none
  | _ => none
def wrP (pv : PV) (o : AO) (s : SS) : SS := match pv with
  | .av (.ref j) => { s with hp := s.hp.set j o }
  | .sl i => match s.sl[i]? with
    | some (some (.own _)) => { s with sl := s.sl.set i (some (.own o)) }
    | some (some (.val (.ref j))) => { s with hp := s.hp.set j o }
    | _ => s
  | _ => s
theorem wr_ok {K : PySem.W.Frag} {U F H : Hp} {ρ : List Addr} {S : SS} {σ : St} (R : Rep K U F ρ S σ H) {pv : PV} {v : V} {o : AO} (h : EmbP K F ρ σ pv v) (e : obP pv S = some o) :
    ∃ p, v = .ref p ∧ EmbO K F ρ H p o ∧ ∀ u o', EmbO K F ρ (upd H p u) p o' → o.isl = false → Rep K U F ρ (wrP pv o' S) σ (upd H p u) := by
  cases pv with
  | av a =>
    cases a with
    | ref j =>
      have h : Emb K F ρ (.ref j) v := h
      simp only [Emb] at h
      obtain ⟨p, rfl, hp⟩ := h
      exact ⟨p, rfl, R.hp j o p e hp, fun u o' eo hl => R.write hp eo (R.hp j o p e hp) hl⟩
    | _ => cases e
  | sl i =>
    have hσ : σ[i]? = some (some v) := h
    have e : (match S.sl[i]? with | some (some (.own o)) => some o | some (some (.val (.ref j))) => S.hp[j]? | _ => none) = some o := e
    cases z : S.sl[i]? with
    | none => rw [z] at e; cases e
    | some ov =>
      rw [z] at e
      cases ov with
      | none => cases e
      | some sv =>
        cases sv with
        | own o₂ =>
          cases e
          obtain ⟨p, e1, e2, _⟩ := R.own i o z
          rw [hσ] at e1; cases e1
          refine ⟨p, rfl, e2, fun u o' eo _ => ?_⟩
          have := R.writeOwn z hσ eo
          show Rep K U F ρ (match S.sl[i]? with | some (some (.own _)) => { S with sl := S.sl.set i (some (.own o')) } | some (some (.val (.ref j))) => { S with hp := S.hp.set j o' } | _ => S) σ _
          rw [z]
          exact this
        | val a =>
          cases a with
          | ref j =>
            obtain ⟨v', e1, e2⟩ := R.val i (.ref j) z
            rw [hσ] at e1; cases e1
            simp only [Emb] at e2
            obtain ⟨p, rfl, hp⟩ := e2
            refine ⟨p, rfl, R.hp j o p e hp, fun u o' eo hl => ?_⟩
            show Rep K U F ρ (match S.sl[i]? with | some (some (.own _)) => { S with sl := S.sl.set i (some (.own o')) } | some (some (.val (.ref j))) => { S with hp := S.hp.set j o' } | _ => S) σ _
            rw [z]
            exact R.write hp eo (R.hp j o p e hp) hl
          | _ => cases e
/-- x.append(e) -/
def appM (f : M PV) (g : M AV) : M AV := bindM f fun p => bindM g fun a s => match obP p s with
  | some (.lst xs) => if xs.length < 16777216 then .ok .non (wrP p (.lst (xs ++ [a])) s) else .stuck
  | _ => .stuck
theorem obP_lst_ty {K : PySem.W.Frag} {U F H : Hp} {ρ : List Addr} {S : SS} {σ : St} (R : Rep K U F ρ S σ H) {pv : PV} {v : V} {xs : List AV} (h : EmbP K F ρ σ pv v) (e : coP pv S = .ob (.lst xs)) : tyV K "list" v H := by
  have c := coP_ok R h
  rw [e] at c
  obtain ⟨p, vs, rfl, h1, h2⟩ := c
  exact .inl ⟨rfl, vs, h1⟩
/-- a place that holds a list, ahead of the arguments -/
def isLst (f : M PV) : M PV := bindM f fun p s => match coP p s with
  | .ob (.lst _) => .ok p s
  | _ => .stuck
theorem pm_append {o e : Expr} {apos cpos : Pos} {f : M PV} {g : M AV} (ho : PPm X o f) (he : PEm X e g) (hbase : attributeBase o "append" X.env (eval o X.env) = eval o X.env := by rfl)
    (hfew : ((backTo cpos (starEach (e :: []) X.env)).all (fun x => !x.1) && (backToKw cpos (keywordEach [] X.env)).all (fun x => x.1.isSome)
      && decide ((e :: []).length + ([] : List Keyword).length + (if ([] : List Keyword).isEmpty then 0 else 1) < 30)) = true := by rfl)
    (hline : (apos.endLine == cpos.line) = true := by rfl) (hs : starEach (e :: []) X.env = (false, eval e X.env) :: starEach [] X.env := by rfl) (hplain : (backTo cpos (starEach [] X.env)).any (·.1) = false := by rfl) :
    PEm X (.Call (.Attribute o "append" apos) [e] [] cpos) (appM (isLst f) g) := fun W tk =>
  PE.weak (pe_bm PySem.F.plainAttrs_list PySem.F.slot_list_append PySem.F.type_list_append mt_append (ho W tk) (pam_cons he pam_nil hs W tk) hbase hfew hline hs hplain) fun σ H Q ⟨U, F, ρ, S, R, p⟩ => by
    have p : Post X.K U F ρ σ (RE X.K U σ) W Q (bindR (bindR (f S) fun p s => match coP p s with | .ob (.lst _) => .ok p s | _ => .stuck) fun p => bindM g fun a s => match obP p s with
      | some (.lst xs) => if xs.length < 16777216 then .ok .non (wrP p (.lst (xs ++ [a])) s) else .stuck
      | _ => .stuck) := p
    refine ⟨U, F, ρ, S, R, ?_⟩
    cases z : f S with
    | stuck => rw [z] at p; exact p.elim
    | exn c s => rw [z] at p; exact p
    | ok pv S1 =>
      rw [z] at p
      intro F1 ρ1 H1 v s1 q1 r1 e1
      have p := Post.up s1 q1 p
      have p : Post X.K U F1 ρ1 σ (RE X.K U σ) W Q (bindR (match coP pv S1 with | .ob (.lst _) => .ok pv S1 | _ => .stuck) fun p => bindM g fun a s => match obP p s with
        | some (.lst xs) => if xs.length < 16777216 then .ok .non (wrP p (.lst (xs ++ [a])) s) else .stuck
        | _ => .stuck) := p
      split at p
      · rename_i xs hco
        refine ⟨obP_lst_ty r1 e1 hco, U, F1, ρ1, S1, r1, ?_⟩
        have p : Post X.K U F1 ρ1 σ (RE X.K U σ) W Q (bindR (g S1) fun a s => match obP pv s with
          | some (.lst xs) => if xs.length < 16777216 then .ok .non (wrP pv (.lst (xs ++ [a])) s) else .stuck
          | _ => .stuck) := p
        show Post X.K U F1 ρ1 σ (RL X.K U σ) W _ (bindR (g S1) fun a => bindM nilM fun as s => .ok (a :: as) s)
        cases z2 : g S1 with
        | stuck => rw [z2] at p; exact p.elim
        | exn c s => rw [z2] at p; exact p
        | ok a S2 =>
          rw [z2] at p
          intro F2 ρ2 H2 vs s2 q2 r2 e2
          change EmbL X.K F2 ρ2 [a] vs at e2
          simp only [EmbL] at e2
          obtain ⟨w, r', rfl, ea, rfl⟩ := e2
          have p := Post.up s2 q2 p
          have e1' := EmbP.mono s2 q2 e1
          have p : Post X.K U F2 ρ2 σ (RE X.K U σ) W Q (match obP pv S2 with
            | some (.lst xs) => if xs.length < 16777216 then .ok .non (wrP pv (.lst (xs ++ [a])) S2) else .stuck
            | _ => .stuck) := p
          split at p
          · rename_i ys hob
            split at p
            · rename_i hl
              obtain ⟨n, rfl, ⟨vs, c1, c2⟩, wr⟩ := wr_ok r2 e1' hob
              refine ⟨n, vs, w, rfl, rfl, c1, by rw [sz, c2.length]; exact hl, ?_⟩
              refine p F2 ρ2 _ _ (Same.refl _) (List.prefix_refl _) (wr _ _ ⟨vs ++ [w], upd_same, c2.append ?_⟩ rfl) emb_non'
              simp only [EmbL]
              exact ⟨w, [], rfl, ea, rfl⟩
            · exact p.elim
          · exact p.elim
      · exact p.elim
/-- o[i] = v : a list, a dict -/
def putG (fo fi : M PV) (a : AV) : M Unit := bindM fo fun p => bindM fi fun i s => match obP p s, plP i s with
  | some (.lst xs), some (.int k) => match ixN xs.length k with
    | some j => .ok () (wrP p (.lst (xs.set j a)) s)
    | none => .stuck
  | some (.dic t kvs), some k => if (kk t k).isSome && decide (kvs.length < 16777216) then .ok () (wrP p (.dic t (dPut t kvs k a)) s) else .stuck
  | _, _ => .stuck
theorem set_dict (hu : X.A.units + 1 < cLine) : PSet X (fun o i v H Q => ∃ a H', o = .ref a ∧ DPut H a i v H' ∧ Q H') := by
  intro pins s σ H o i v ov iv u Q I ro ri rv h
  obtain ⟨a, H', rfl, g, q⟩ := h
  obtain rfl : ov = Value.ref a := ro
  exact d_setItem hu I g ri rv fun s' I' => ⟨H', I', q⟩
theorem PSet.or {t t' : TSet} (h : PSet X t) (h' : PSet X t') : PSet X (fun o i v H Q => t o i v H Q ∨ t' o i v H Q) := by
  intro pins s σ H o i v ov iv u Q I ro ri rv q
  rcases q with q | q
  · exact h pins s σ H o i v ov iv u Q I ro ri rv q
  · exact h' pins s σ H o i v ov iv u Q I ro ri rv q
theorem pgm_sub {Z : St → St → Prop} (hZ : ∀ a, Z a a) {o i : Expr} {fo fi : M PV} (hu : X.A.units + 1 < cLine) (ho : PPm X o fo) (hi : PPm X i fi)
    (ha : ∀ v, assign (.Subscript o i pos) X.env v = (do
      let ov ← holding [v] (eval o X.env)
      let iv ← holding [v, ov] (eval i X.env)
      standAt pos
      holding [v, ov, iv] (setItem ov iv v)
      release [v, ov, iv] []) := by intro _; rfl) : PGm X Z (.Subscript o i pos) (putG fo fi) := by
  refine ⟨_, pg_sub (ho W0 takes0) (hi W0 takes0) (PSet.or set_list (set_dict hu)) ha, fun v σ H Q ⟨U, F, ρ, S, a, R, e, p⟩ => ?_⟩
  have p : (match bindR (fo S) (fun p => bindM fi fun i s => match obP p s, plP i s with
    | some (.lst xs), some (.int k) => match ixN xs.length k with
      | some j => .ok () (wrP p (.lst (xs.set j a)) s)
      | none => .stuck
    | some (.dic t kvs), some k => if (kk t k).isSome && decide (kvs.length < 16777216) then .ok () (wrP p (.dic t (dPut t kvs k a)) s) else .stuck
    | _, _ => .stuck) with
    | .ok _ S' => ∀ F' ρ' σ' H', Same F F' → ρ <+: ρ' → Rep X.K U F' ρ' S' σ' H' → Z σ σ' → Q σ' H'
    | _ => False) := p
  refine ⟨U, F, ρ, S, R, ?_⟩
  cases z : fo S with
  | stuck => rw [z] at p; exact p.elim
  | exn c s => rw [z] at p; exact p.elim
  | ok pv S1 =>
    rw [z] at p
    intro F1 ρ1 H1 ov s1 q1 r1 e1
    refine ⟨U, F1, ρ1, S1, r1, ?_⟩
    have p : (match bindR (fi S1) (fun i s => match obP pv s, plP i s with
      | some (.lst xs), some (.int k) => match ixN xs.length k with
        | some j => .ok () (wrP pv (.lst (xs.set j a)) s)
        | none => .stuck
      | some (.dic t kvs), some k => if (kk t k).isSome && decide (kvs.length < 16777216) then .ok () (wrP pv (.dic t (dPut t kvs k a)) s) else .stuck
      | _, _ => .stuck) with
      | .ok _ S' => ∀ F' ρ' σ' H', Same F F' → ρ <+: ρ' → Rep X.K U F' ρ' S' σ' H' → Z σ σ' → Q σ' H'
      | _ => False) := p
    cases z2 : fi S1 with
    | stuck => rw [z2] at p; exact p.elim
    | exn c s => rw [z2] at p; exact p.elim
    | ok iv S2 =>
      rw [z2] at p
      intro F2 ρ2 H2 iw s2 q2 r2 e2
      have e1' := EmbP.mono s2 q2 e1
      have ev := Emb.mono (s1.trans s2) (q1.trans q2) a v e
      have p : (match (match obP pv S2, plP iv S2 with
        | some (.lst xs), some (.int k) => match ixN xs.length k with
          | some j => .ok () (wrP pv (.lst (xs.set j a)) S2)
          | none => .stuck
        | some (.dic t kvs), some k => if (kk t k).isSome && decide (kvs.length < 16777216) then .ok () (wrP pv (.dic t (dPut t kvs k a)) S2) else .stuck
        | _, _ => .stuck : Res Unit) with
        | .ok _ S' => ∀ F' ρ' σ' H', Same F F' → ρ <+: ρ' → Rep X.K U F' ρ' S' σ' H' → Z σ σ' → Q σ' H'
        | _ => False) := p
      cases hob : obP pv S2 with
      | none => rw [hob] at p; exact p.elim
      | some ob =>
        obtain ⟨n, rfl, em, wr⟩ := wr_ok r2 e1' hob
        cases ob with
        | ins c fs => simp only [hob] at p
        | lck t kvs => simp only [hob] at p
        | lst xs =>
          obtain ⟨vs, c1, c2⟩ := em
          cases hpl : plP iv S2 with
          | none => simp only [hob, hpl] at p
          | some kv =>
            cases kv with
            | int k =>
              simp only [hob, hpl] at p
              cases hix : ixN xs.length k with
              | none => simp only [hix] at p
              | some j =>
                simp only [hix] at p
                refine .inl ⟨n, vs, k, j, rfl, emb_int (avP_ok r2 e2 (plP_int hpl)), c1, by rw [c2.length]; exact hix, ?_⟩
                exact p F2 ρ2 σ _ (s1.trans s2) (q1.trans q2) (wr _ _ ⟨_, upd_same, EmbL.set ev j c2⟩ rfl) (hZ _)
            | _ => simp only [hob, hpl] at p
        | dic t kvs =>
          cases hpl : plP iv S2 with
          | none => simp only [hob, hpl] at p
          | some k =>
            simp only [hob, hpl] at p
            by_cases hk : ((kk t k).isSome && decide (kvs.length < 16777216)) = true
            · rw [if_pos hk] at p
              simp only [Bool.and_eq_true, decide_eq_true_eq] at hk
              obtain ⟨hk1, hk2⟩ := hk
              have ek := plP_emb r2 e2 hpl hk1
              rcases em with ⟨rfl, kv, c1, c2⟩ | ⟨rfl, kv, c1, c2⟩
              · cases hko : kOf k with
                | none => simp [kk, hko] at hk1
                | some k' =>
                  have := emb_kV hko ek
                  subst this
                  refine .inr ⟨n, _, rfl, .inl ⟨kv, k', c1, rfl, by rw [sz, c2.length]; exact hk2, rfl⟩, ?_⟩
                  exact p F2 ρ2 σ _ (s1.trans s2) (q1.trans q2) (wr _ _ (.inl ⟨rfl, _, upd_same, EmbK.put hko ev c2⟩) rfl) (hZ _)
              · cases hko : tkOf k with
                | none => simp [kk, hko] at hk1
                | some k' =>
                  obtain ⟨b, rfl, hb⟩ := emb_tkV r2 hko ek
                  refine .inr ⟨n, _, rfl, .inr ⟨kv, k', b, c1, rfl, hb, by rw [sz, c2.length]; exact hk2, rfl⟩, ?_⟩
                  exact p F2 ρ2 σ _ (s1.trans s2) (q1.trans q2) (wr _ _ (.inr ⟨rfl, _, upd_same, EmbT.put hko ev c2⟩) rfl) (hZ _)
            · rw [if_neg hk] at p
              exact p.elim
end
end LM

namespace LM
open PyProof.Rows hiding St frameOf passOn
open PySem PySem.Spec L2
variable [TabNames]
/-! ## fields stored -/
def putFA (f : Str) (a : AV) : List (Str × AV) → List (Str × AV)
  | [] => [(f, a)]
  | (g, b) :: r => if g = f then (g, a) :: r else (g, b) :: putFA f a r
theorem EmbF.put {K : PySem.W.Frag} {F : Hp} {ρ : List Addr} {f : Str} {a : AV} {v : V} (ha : Emb K F ρ a v) : ∀ {fs : List (Str × AV)} {fs' : List (Str × V)}, EmbF K F ρ fs fs' → EmbF K F ρ (putFA f a fs) (putF f v fs')
  | [], _, h => by simp only [EmbF] at h; subst h; simp only [putFA, putF, EmbF]; exact ⟨v, [], rfl, ha, rfl⟩
  | (g, b) :: r, _, h => by
    simp only [EmbF] at h
    obtain ⟨w, r', rfl, h1, h2⟩ := h
    have ih := EmbF.put (f := f) ha h2
    unfold putFA putF
    split
    · simp only [EmbF]; exact ⟨v, r', rfl, ha, h2⟩
    · simp only [EmbF]; exact ⟨w, _, rfl, h1, ih⟩
theorem EmbF.length {K : PySem.W.Frag} {F : Hp} {ρ : List Addr} : ∀ {fs : List (Str × AV)} {fs' : List (Str × V)}, EmbF K F ρ fs fs' → fs'.length = fs.length
  | [], _, h => by simp only [EmbF] at h; subst h; rfl
  | (g, b) :: r, _, h => by
    simp only [EmbF] at h
    obtain ⟨w, r', rfl, h1, h2⟩ := h
    simp [EmbF.length h2]
section
variable {X : Cx} {pn : Bool} {pos : Pos}
def stM (cs : List Str) (f : Str) (fo : M PV) (fe : M AV) : M Fl := bindM fe fun a => bindM fo fun p s => match obP p s with
  | some (.ins c fs) => if decide (c ∈ cs) && decide (fs.length < 1000) then .ok .nx (wrP p (.ins c (putFA f a fs)) s) else .stuck
  | _ => .stuck
theorem psm_fld {o value : Expr} {pos' : Pos} {cs : List Str} {f : Str} {fo : M PV} {fe : M AV} (hc : FldOk X.K cs f) (ho : PPm X o fo) (hv : PEm X value fe) (hs : swapsWith value (some (.Attribute o f pos')) pos.line X.env = pure false := by rfl) :
    PSm X pn (.Assign [.Attribute o f pos'] value pos) (stM cs f fo fe) := fun W tk =>
  PS.weak (ps_fld (ho W tk) (hv W tk) hs) fun σ H D ⟨U, F, ρ, S, R, p⟩ => ⟨U, F, ρ, S, R, SPost.seq p fun F1 ρ1 S1 H1 a v s1 q1 r1 e1 p1 => ⟨U, F1, ρ1, S1, r1, SPost.seq p1 fun F2 ρ2 S2 H2 pv w s2 q2 r2 e2 p2 => by
    have e1' := Emb.mono s2 q2 _ _ e1
    split at p2
    · rename_i c fs hob
      split at p2
      · rename_i hk
        simp only [Bool.and_eq_true, decide_eq_true_eq] at hk
        obtain ⟨n, rfl, ⟨dx, fs', c1, c2⟩, wr⟩ := wr_ok r2 e2 hob
        obtain ⟨k1, k2⟩ := hc c hk.1
        exact ⟨n, _, dx, fs', rfl, c1, k1, k2, by rw [c2.length]; exact hk.2, p2 F2 ρ2 σ _ (Same.refl _) (List.prefix_refl _) (wr _ _ ⟨dx, _, upd_same, c2.put e1'⟩ rfl) fun _ => rfl⟩
      · exact p2.elim
    · exact p2.elim⟩⟩
/-- o.f += e -/
def augFM (cs : List Str) (f : Str) (op : AV → AV → Option AV) (fo : M PV) (fe : M AV) : M Fl := bindM fo fun p s => match obP p s with
  | some (.ins c fs) => if c ∈ cs then (match fs.lookup f with
    | some a => bindM fe (fun b s => match op a b, obP p s with
      | some v, some (.ins c' fs') => if decide (c' = c) && decide (fs'.length < 1000) then .ok .nx (wrP p (.ins c (putFA f v fs')) s) else .stuck
      | _, _ => .stuck) s
    | none => .stuck) else .stuck
  | _ => .stuck
theorem psm_fldaug {o value : Expr} {tpos : Pos} {cs : List Str} {f : Str} {oper : Operator} {op : AV → AV → Option AV} {rd : V → V → Hp → VK → Prop} {fo : M PV} {fe : M AV} (hop : InOp X oper rd)
    (hgo : ∀ F ρ H a b c x y Q, Emb X.K F ρ a x → Emb X.K F ρ b y → op a b = some c → (∀ z, Emb X.K F ρ c z → Q z H) → rd x y H Q) (hc : FldOk X.K cs f) (ho : PPm X o fo) (hv : PEm X value fe) : PSm X pn (.AugAssign (.Attribute o f tpos) oper value pos) (augFM cs f op fo fe) := fun W tk =>
  PS.weak (ps_fldaug (ho W tk) (hv W tk) hop) fun σ H D ⟨U, F, ρ, S, R, p⟩ => ⟨U, F, ρ, S, R, SPost.seq p fun F1 ρ1 S1 H1 pv v s1 q1 r1 e1 p1 => by
    split at p1
    · rename_i c fs hob
      split at p1
      · rename_i hm
        split at p1
        · rename_i a ha
          obtain ⟨n, rfl, ⟨dx, fs', c1, c2⟩, wr⟩ := wr_ok r1 e1 hob
          obtain ⟨k1, k2⟩ := hc c hm
          obtain ⟨w, hw, ew⟩ := c2.lookup.1 a ha
          refine ⟨n, _, dx, fs', w, rfl, c1, k1, k2, hw, U, F1, ρ1, S1, r1, SPost.seq p1 fun F2 ρ2 S2 H2 b y s2 q2 r2 e2 p2 => ?_⟩
          have e1' := EmbP.mono s2 q2 e1
          split at p2
          · rename_i v' c' fs2 ho1 ho2
            split at p2
            · rename_i hk
              simp only [Bool.and_eq_true, decide_eq_true_eq] at hk
              obtain ⟨hk1, hk2⟩ := hk
              subst hk1
              obtain ⟨n2, en, ⟨dx2, fs2', d1, d2⟩, wr2⟩ := wr_ok r2 e1' ho2
              cases en
              exact hgo F2 ρ2 H2 a b v' w y _ (Emb.mono s2 q2 _ _ ew) e2 ho1 fun z ez => ⟨dx2, fs2', d1, by rw [d2.length]; exact hk2, p2 F2 ρ2 σ _ (Same.refl _) (List.prefix_refl _) (wr2 _ _ ⟨dx2, _, upd_same, d2.put ez⟩ rfl) fun _ => rfl⟩
            · exact p2.elim
          · exact p2.elim
        · exact p1.elim
      · exact p1.elim
    · exact p1.elim⟩
theorem psm_fldadd {o value : Expr} {tpos : Pos} {cs : List Str} {f : Str} {fo : M PV} {fe : M AV} (hc : FldOk X.K cs f) (ho : PPm X o fo) (hv : PEm X value fe) : PSm X pn (.AugAssign (.Attribute o f tpos) .Add value pos) (augFM cs f addI fo fe) :=
  psm_fldaug in_add (fun F ρ H a b c x y Q ea eb e q => by
    unfold addI at e
    split at e
    · cases e
      exact ⟨_, _, emb_int ea, emb_int eb, q _ emb_int'⟩
    · cases e) hc ho hv
end
/-! ## defs -/
def slots0 (n : Nat) (as : List AV) : List (Option SV) := as.map (fun a => some (.val a)) ++ List.replicate (n - as.length) none
def fnM (n : Nat) (m : M Fl) : MF := fun as hp => match m ⟨slots0 n as, hp⟩ with
  | .ok (.rt v) s => .ok v s.hp
  | .ok .nx s => .ok .non s.hp
  | .exn c s => .exn c s.hp
  | _ => .stuck
section
variable {K : PySem.W.Frag} {U F H : Hp} {ρ : List Addr} {S : SS} {σ : St}
theorem slots0_get {n : Nat} {as : List AV} {i : Nat} {x : SV} (h : (slots0 n as)[i]? = some (some x)) : ∃ a, x = .val a ∧ as[i]? = some a := by
  unfold slots0 at h
  by_cases hi : i < as.length
  · rw [List.getElem?_append_left (by simpa using hi), List.getElem?_map, List.getElem?_eq_getElem hi] at h
    exact ⟨as[i], by simpa using h.symm, List.getElem?_eq_getElem hi⟩
  · rw [List.getElem?_append_right (by simpa using hi), List.getElem?_replicate] at h
    split at h <;> cases h
theorem start_get {N : List Str} {vs : List V} {i : Nat} {v : V} (h : vs[i]? = some v) : (L2.start N vs)[i]? = some (some v) := by
  unfold L2.start
  have hi := (List.getElem?_eq_some_iff.mp h).1
  rw [List.getElem?_append_left (by simpa using hi), List.getElem?_map, h]
  rfl
theorem Rep.start {N : List Str} {as : List AV} {vs : List V} {hp : AH} (R : Rep K U F ρ ⟨[], hp⟩ [] H) (e : EmbL K F ρ as vs) : Rep K U F ρ ⟨slots0 N.length as, hp⟩ (L2.start N vs) H := by
  refine ⟨?_, R.fro, R.unt, R.rln, R.rnd, R.rF, R.FU, R.hp, fun i a h => ?_, fun i o h => ?_, R.tab⟩
  · unfold L2.start slots0
    simp [e.length]
  · obtain ⟨b, eb, h2⟩ := slots0_get h
    cases eb
    obtain ⟨v, hv, ev⟩ := e.get h2
    exact ⟨v, start_get hv, ev⟩
  · obtain ⟨b, eb, h2⟩ := slots0_get h
    cases eb
theorem Rep.noslots (R : Rep K U F ρ S σ H) : Rep K U F ρ ⟨[], S.hp⟩ [] H :=
  ⟨rfl, R.fro, R.unt, R.rln, R.rnd, R.rF, R.FU, R.hp, fun i a e => by simp at e, fun i o e => by simp at e, R.tab⟩
end
section
variable {P : Program} {w : World} {K : PySem.W.Frag} {mg : Str → Option Value} {base : Heap} {x qual : Str} {params : Arguments} {body : List Stmt} {scope : Scope} {dvs : List V} {kws : List (Str × V)} {f : Addr} {fd : FuncData} {N ps : List Str} {k : Nat} {m : M Fl}
abbrev DX (P : Program) (w : World) (K : PySem.W.Frag) (mg : Str → Option Value) (base : Heap) (N : List Str) (qual : Str) (scope : Scope) (f : Addr) (cdv : Value) (A : Around) (outer : List Env) (s : Shared) (H : Hp) (E : XK) : Cx := cxOf (L2.CX P w) P w K mg base N qual scope f cdv A outer s H E
theorem spM_len {n : Nat} {mf : MF} (hn : ps.length = n) : ∀ vs H Q E, spM K n mf vs H Q E → vs.length = ps.length := fun vs H Q E h => by
  obtain ⟨U, F, ρ, as, hp, hl, _, e, _⟩ := h
  rw [e.length, hl, hn]
/-- THE RULE for a def: its body's function -/
theorem fn_ok (Fn : FunD K x qual params body scope dvs kws f fd) (Sc : FnScope N ps scope)
    (hb : ∀ (cdv : Value) (A : Around) (outer : List Env) (s : Shared) (H : Hp) (E : XK), Room k (A.deeper (envOfC qual scope s.heap.objs.size f cdv)) → PSsm (DX P w K mg base N qual scope f cdv A outer s H E) false body m) :
    FnM P w K mg base (k + 1) f fd ps (fnM N.length m) := by
  refine Fn.ok Sc (spM_len rfl) fun cdv A outer s H vs Q E hr h => ?_
  refine ⟨_, hb cdv A outer s H E hr (fun cls d _ H => E cls d H) (takes_of rfl rfl rfl rfl), ?_⟩
  obtain ⟨U, F, ρ, as, hp, hl, R, e, p⟩ := h
  refine ⟨U, F, ρ, _, R.start e, ?_⟩
  have p : FPost K U F ρ Q E (match m ⟨slots0 N.length as, hp⟩ with
    | .ok (.rt v) s => .ok v s.hp
    | .ok .nx s => .ok .non s.hp
    | .exn c s => .exn c s.hp
    | _ => .stuck) := p
  cases z : m ⟨slots0 N.length as, hp⟩ with
  | stuck => rw [z] at p; exact p
  | exn c S' => rw [z] at p; exact fun F' ρ' σ' H' s' q' r' => p F' ρ' H' s' q' r'.noslots
  | ok a S' =>
    rw [z] at p
    cases a with
    | nx => exact fun F' ρ' σ' H' s' q' r' _ => p F' ρ' H' .non s' q' r'.noslots emb_non'
    | rt v => exact fun F' ρ' σ' H' u s' q' r' e' => p F' ρ' H' u s' q' r'.noslots e'
    | bk => exact p.elim
    | ct => exact p.elim
theorem takes_dx {cdv : Value} {A : Around} {outer : List Env} {s : Shared} {H : Hp} {E : XK} : Takes (DX P w K mg base N qual scope f cdv A outer s H E) (fun cls d _ H => E cls d H) := takes_of rfl rfl rfl rfl
theorem passes_dx {cdv : Value} {A : Around} {outer : List Env} {s : Shared} {H : Hp} {E : XK} : PassesOwn (model (DX P w K mg base N qual scope f cdv A outer s H E).prog (DX P w K mg base N qual scope f cdv A outer s H E).w) (DX P w K mg base N qual scope f cdv A outer s H E).A (DX P w K mg base N qual scope f cdv A outer s H E).env (DX P w K mg base N qual scope f cdv A outer s H E).xe := passes_of rfl
/-! ## classes whose instances stay as __init__ leaves them -/
abbrev MI := List AV → AH → Option (AO × AH)
def initM (n : Nat) (c : Str) (m : M Fl) : MI := fun as hp => match m ⟨some (.own (.ins c [])) :: slots0 (n - 1) as, hp⟩ with
  | Res.ok Fl.nx s => match (s : SS).sl[0]? with
    | some (some (SV.own o)) => some (o, (s : SS).hp)
    | _ => none
  | _ => none
def spI (K : PySem.W.Frag) (n : Nat) (c : Str) (m : MI) : Sp := fun vs H Q E => ∃ U F ρ as hp x dx vs', vs = .ref x :: vs' ∧ as.length + 1 = n ∧ Rep K U F ρ ⟨[], hp⟩ [] H ∧ H x = some (.ins (He.ga K c) dx []) ∧ F x = none ∧ U x = none ∧ x ∉ ρ ∧ EmbL K F ρ as vs' ∧
  match m as hp with
  | some (o, h) => ∀ F' ρ' H', Same F F' → ρ <+: ρ' → Rep K U F' ρ' ⟨[], h⟩ [] H' → EmbO K F' ρ' H' x o → F' x = none → x ∉ ρ' → Q .non H'
  | none => False
abbrev FnI (P : Program) (w : World) (K : PySem.W.Frag) (mg : Str → Option Value) (base : Heap) (k : Nat) (f : Addr) (fd : FuncData) (ps : List Str) (c : Str) (m : MI) : Prop := FnOk P w K mg base (L2.CX P w) k f fd ps (spI K ps.length c m)
theorem init_ok {c : Str} (Fn : FunD K x qual params body scope dvs kws f fd) (Sc : FnScope N ps scope) (hps : 0 < ps.length) (hN : ps.length ≤ N.length)
    (hb : ∀ (cdv : Value) (A : Around) (outer : List Env) (s : Shared) (H : Hp) (E : XK), Room k (A.deeper (envOfC qual scope s.heap.objs.size f cdv)) → PSsm (DX P w K mg base N qual scope f cdv A outer s H E) true body m) :
    FnI P w K mg base (k + 1) f fd ps c (initM N.length c m) := by
  refine Fn.ok Sc (fun vs H Q E h => ?_) fun cdv A outer s H vs Q E hr h => ?_
  · obtain ⟨U, F, ρ, as, hp, y, dx, vs', rfl, hl, _, _, _, _, _, e, _⟩ := h
    rw [List.length_cons, e.length, hl]
  refine ⟨_, hb cdv A outer s H E hr (fun cls d _ H => E cls d H) (takes_of rfl rfl rfl rfl), ?_⟩
  obtain ⟨U, F, ρ, as, hp, y, dx, vs', rfl, hl, R, hy, hF, hU, hρ, e, p⟩ := h
  have hl' := e.length
  have hst : L2.start N (.ref y :: vs') = some (.ref y) :: L2.start (N.drop 1) vs' := by
    unfold L2.start
    rw [List.map_cons, List.cons_append, List.length_cons, List.length_drop]
    have : N.length - (vs'.length + 1) = N.length - 1 - vs'.length := by omega
    rw [this]
  have R0 : Rep K U F ρ ⟨some (.own (.ins c [])) :: slots0 (N.length - 1) as, hp⟩ (L2.start N (.ref y :: vs')) H := by
    rw [hst]
    refine ⟨?_, R.fro, R.unt, R.rln, R.rnd, R.rF, R.FU, R.hp, fun i a h => ?_, fun i o h => ?_, R.tab⟩
    · unfold L2.start slots0
      simp [e.length]
    · cases i with
      | zero => simp at h
      | succ i =>
        rw [List.getElem?_cons_succ] at h ⊢
        obtain ⟨b, eb, h2⟩ := slots0_get h
        cases eb
        obtain ⟨v, hv, ev⟩ := e.get h2
        exact ⟨v, start_get hv, ev⟩
    · cases i with
      | zero =>
        have : o = .ins c [] := by simpa using h.symm
        subst this
        refine ⟨y, rfl, ⟨dx, [], hy, by simp [EmbF]⟩, hF, hU, hρ, fun j o' h' _ => ?_⟩
        cases j with
        | zero => rfl
        | succ j =>
          rw [List.getElem?_cons_succ] at h'
          obtain ⟨b, eb, h2⟩ := slots0_get h'
          cases eb
      | succ i =>
        rw [List.getElem?_cons_succ] at h
        obtain ⟨b, eb, h2⟩ := slots0_get h
        cases eb
  refine ⟨U, F, ρ, _, R0, ?_⟩
  have p : (match (match m ⟨some (.own (.ins c [])) :: slots0 (N.length - 1) as, hp⟩ with
    | Res.ok Fl.nx s => match (s : SS).sl[0]? with
      | some (some (SV.own o)) => some (o, (s : SS).hp)
      | _ => none
    | _ => none) with
    | some (o, h) => ∀ F' ρ' H', Same F F' → ρ <+: ρ' → Rep K U F' ρ' ⟨[], h⟩ [] H' → EmbO K F' ρ' H' y o → F' y = none → y ∉ ρ' → Q .non H'
    | none => False) := p
  cases z : m ⟨some (.own (.ins c [])) :: slots0 (N.length - 1) as, hp⟩ with
  | stuck => rw [z] at p; exact p
  | exn cc S' => rw [z] at p; exact p.elim
  | ok a S' =>
    rw [z] at p
    cases a with
    | rt v => exact p.elim
    | bk => exact p.elim
    | ct => exact p.elim
    | nx =>
      intro F' ρ' σ' H' s' q' r' k'
      simp only at p
      cases z2 : S'.sl[0]? with
      | none => rw [z2] at p; exact p.elim
      | some ov =>
        rw [z2] at p
        cases ov with
        | none => exact p.elim
        | some sv =>
          cases sv with
          | val a => exact p.elim
          | own o =>
            obtain ⟨y', e1, e2, e3, _, e5, _⟩ := r'.own 0 o z2
            have k2 := k' rfl
            rw [hst, List.getElem?_cons_zero] at k2
            rw [k2] at e1
            cases e1
            exact p F' ρ' H' s' q' r'.noslots e2 e3 e5
end
section
variable {X : Cx} {pos p : Pos} {k : Nat} {f : Addr} {fd : FuncData} {ps : List Str} {mi : MI} {m : MF} {c : Str} {dvs : List V} {ds : List Value} {dv : List AV} {e : Expr} {es : List Expr} {g : M (List AV)}
def mkM (n : Nat) (mi : MI) (dv : List AV) (g : M (List AV)) : M AO := bindM g fun as s => if (as ++ dv).length + 1 = n then (match mi (as ++ dv) s.hp with
  | some (o, h) => .ok o { s with hp := h }
  | none => .stuck) else .stuck
theorem Rep.made {K : PySem.W.Frag} {U F H : Hp} {ρ : List Addr} {S : SS} {σ : St} {x dx C : Addr} (R : Rep K U F ρ S σ H) (h1 : H x = none) (h2 : H dx = none) (ne : dx ≠ x) : Rep K U F ρ S σ (upd (upd H dx (.own x)) x (.ins C dx [])) := by
  refine (R.laid (u := .own x) h2).laid ?_
  rw [upd_ne (Ne.symm ne)]; exact h1
theorem mk_core {K : PySem.W.Frag} {U F H : Hp} {ρ : List Addr} {S : SS} {σ : St} {W : WX} {Q : VK} {n : Nat} {as : List AV} {vs : List V} {x dx : Addr} (R : Rep K U F ρ S σ H) (e : EmbL K F ρ as vs) (hn : as.length + 1 = n)
    (p : Post K U F ρ σ (RN K U σ) W Q (match mi as S.hp with | some (o, h) => .ok o { S with hp := h } | none => .stuck)) (h1 : H x = none) (h2 : H dx = none) (ne : dx ≠ x) :
    spI K n c mi (.ref x :: vs) (upd (upd H dx (.own x)) x (.ins (He.ga K c) dx [])) (fun v H2 => v = .non ∧ Q (.ref x) H2) E0 := by
  have R2 := R.made (C := He.ga K c) h1 h2 ne
  obtain ⟨n1, n2, n3, n4⟩ := R.new h1
  have hcu : callU U S σ (upd (upd H dx (.own x)) x (.ins (He.ga K c) dx [])) x = none := by
    unfold callU
    rw [if_neg (fun ⟨i, o, e1, e2⟩ => n4 i o e1 e2)]
    exact n2
  refine ⟨callU U S σ (upd (upd H dx (.own x)) x (.ins (He.ga K c) dx [])), F, ρ, as, S.hp, x, dx, vs, rfl, hn, R2.call, upd_same, n1, hcu, n3, e, ?_⟩
  cases z : mi as S.hp with
  | none => rw [z] at p; exact p.elim
  | some oh =>
    obtain ⟨o, h⟩ := oh
    rw [z] at p
    exact fun F' ρ' H' sm pr R' eo f1 f2 => ⟨rfl, p F' ρ' H' (.ref x) sm pr (R2.back sm pr R') ⟨x, rfl, eo, f1, n2, f2, n4⟩⟩
theorem pn_make (M : Mk X.K (He.ga X.K c) f) (F : FnI X.prog X.w X.K X.mg X.base k f fd ps c mi) (hr : Room (k + 1) X.A) (hg : Gl X c) (hm : X.mg c = some (.ref (He.ga X.K c))) (hb : Binds X.K fd ps ds) (hd : Vals dvs ds) (hdv : ∀ F ρ, EmbL X.K F ρ dv dvs)
    (ha : PAm X (e :: es) g) (hdb : (c == ("__debug__" : Str)) = false := by decide) (he : starEach (e :: es) X.env = (false, eval e X.env) :: starEach es X.env := by rfl) (hpl : (backTo pos (starEach es X.env)).any (·.1) = false := by rfl) :
    PNm X (.Call (.Name c p) (e :: es) [] pos) (mkM ps.length mi dv g) := fun W tk =>
  PE.weak (pe_make M F hr hg hm hb hd passL (ha W tk) hdb he hpl) fun σ H Q ⟨U, F, ρ, S, R, p⟩ => ⟨U, F, ρ, S, R, Post.seq p fun F1 ρ1 S1 H1 as vs s1 q1 r1 e1 p1 => by
    split at p1
    · rename_i hl
      exact fun x dx h1 h2 ne => mk_core r1 (EmbL.append e1 (hdv F1 ρ1)) hl p1 h1 h2 ne
    · exact p1.elim⟩
theorem pn_make0 (M : Mk X.K (He.ga X.K c) f) (F : FnI X.prog X.w X.K X.mg X.base k f fd ps c mi) (hr : Room (k + 1) X.A) (hg : Gl X c) (hm : X.mg c = some (.ref (He.ga X.K c))) (hb : Binds X.K fd ps ds) (hd : Vals dvs ds) (hdv : ∀ F ρ, EmbL X.K F ρ dv dvs)
    (hdb : (c == ("__debug__" : Str)) = false := by decide) : PNm X (.Call (.Name c p) [] [] pos) (mkM ps.length mi dv nilM) := fun W tk =>
  PE.weak (pe_make0 M F hr hg hm hb hd passL hdb) fun σ H Q ⟨U, F, ρ, S, R, p⟩ => by
    have p1 : Post X.K U F ρ σ (RN X.K U σ) W Q (if (([] : List AV) ++ dv).length + 1 = ps.length then (match mi ([] ++ dv) S.hp with | some (o, h) => .ok o { S with hp := h } | none => .stuck) else .stuck) := p
    split at p1
    · rename_i hl
      exact fun x dx h1 h2 ne => mk_core (as := [] ++ dv) R (hdv F ρ) hl p1 h1 h2 ne
    · exact p1.elim
/-! ## classes whose instances change: laid on the heap -/
def mkHM (n : Nat) (c : Str) (m : MF) (dv : List AV) (g : M (List AV)) : M AV := bindM g fun as s => if (as ++ dv).length + 1 = n then (match m (.ref s.hp.length :: (as ++ dv)) (s.hp ++ [.ins c []]) with
  | .ok .non h => .ok (.ref s.hp.length) { s with hp := h }
  | _ => .stuck) else .stuck
theorem mkH_core {K : PySem.W.Frag} {U F H : Hp} {ρ : List Addr} {S : SS} {σ : St} {W : WX} {Q : VK} {n : Nat} {as : List AV} {vs : List V} {x dx : Addr} (R : Rep K U F ρ S σ H) (e : EmbL K F ρ as vs) (hn : as.length + 1 = n)
    (p : Post K U F ρ σ (RE K U σ) W Q (match m (.ref S.hp.length :: as) (S.hp ++ [.ins c []]) with | .ok .non h => .ok (.ref S.hp.length) { S with hp := h } | _ => .stuck)) (h1 : H x = none) (h2 : H dx = none) (ne : dx ≠ x) :
    spM K n m (.ref x :: vs) (upd (upd H dx (.own x)) x (.ins (He.ga K c) dx [])) (fun v H2 => v = .non ∧ Q (.ref x) H2) E0 := by
  have R2 := R.made (C := He.ga K c) h1 h2 ne
  obtain ⟨n1, n2, n3, n4⟩ := R.new h1
  obtain ⟨R3, em, pr⟩ := R2.toHeap (o := .ins c []) ⟨⟨dx, [], upd_same, by simp [EmbF]⟩, n1, n2, n3, n4⟩
  refine ⟨callU U { S with hp := S.hp ++ [.ins c []] } σ (upd (upd H dx (.own x)) x (.ins (He.ga K c) dx [])), F, ρ ++ [x], .ref S.hp.length :: as, S.hp ++ [.ins c []], by simp [← hn], R3.call, ?_, ?_⟩
  · simp only [EmbL]
    exact ⟨_, _, rfl, em, EmbL.mono (Same.refl _) pr _ _ e⟩
  · cases z : m (.ref S.hp.length :: as) (S.hp ++ [.ins c []]) with
    | stuck => rw [z] at p; exact p.elim
    | exn cc h => rw [z] at p; exact p.elim
    | ok v h =>
      rw [z] at p
      cases v with
      | non => exact fun F' ρ' H' u sm pr' R' eu => ⟨emb_non eu, p F' ρ' H' (.ref x) sm (pr.trans pr') (R3.back sm pr' R') (Emb.mono sm pr' _ _ em)⟩
      | _ => exact p.elim
theorem pm_makeH (M : Mk X.K (He.ga X.K c) f) (F : FnM X.prog X.w X.K X.mg X.base k f fd ps m) (hr : Room (k + 1) X.A) (hg : Gl X c) (hm : X.mg c = some (.ref (He.ga X.K c))) (hb : Binds X.K fd ps ds) (hd : Vals dvs ds) (hdv : ∀ F ρ, EmbL X.K F ρ dv dvs)
    (ha : PAm X (e :: es) g) (hdb : (c == ("__debug__" : Str)) = false := by decide) (he : starEach (e :: es) X.env = (false, eval e X.env) :: starEach es X.env := by rfl) (hpl : (backTo pos (starEach es X.env)).any (·.1) = false := by rfl) :
    PEm X (.Call (.Name c p) (e :: es) [] pos) (mkHM ps.length c m dv g) := fun W tk =>
  PE.weak (pe_make M F hr hg hm hb hd passL (ha W tk) hdb he hpl) fun σ H Q ⟨U, F, ρ, S, R, p⟩ => ⟨U, F, ρ, S, R, Post.seq p fun F1 ρ1 S1 H1 as vs s1 q1 r1 e1 p1 => by
    split at p1
    · rename_i hl
      exact fun x dx h1 h2 ne => mkH_core r1 (EmbL.append e1 (hdv F1 ρ1)) hl p1 h1 h2 ne
    · exact p1.elim⟩
theorem pm_makeH0 (M : Mk X.K (He.ga X.K c) f) (F : FnM X.prog X.w X.K X.mg X.base k f fd ps m) (hr : Room (k + 1) X.A) (hg : Gl X c) (hm : X.mg c = some (.ref (He.ga X.K c))) (hb : Binds X.K fd ps ds) (hd : Vals dvs ds) (hdv : ∀ F ρ, EmbL X.K F ρ dv dvs)
    (hdb : (c == ("__debug__" : Str)) = false := by decide) : PEm X (.Call (.Name c p) [] [] pos) (mkHM ps.length c m dv nilM) := fun W tk =>
  PE.weak (pe_make0 M F hr hg hm hb hd passL hdb) fun σ H Q ⟨U, F, ρ, S, R, p⟩ => by
    have p1 : Post X.K U F ρ σ (RE X.K U σ) W Q (if (([] : List AV) ++ dv).length + 1 = ps.length then (match m (.ref S.hp.length :: ([] ++ dv)) (S.hp ++ [.ins c []]) with | .ok .non h => .ok (.ref S.hp.length) { S with hp := h } | _ => .stuck) else .stuck) := p
    split at p1
    · rename_i hl
      exact fun x dx h1 h2 ne => mkH_core (as := [] ++ dv) R (hdv F ρ) hl p1 h1 h2 ne
    · exact p1.elim
end
end LM

namespace LM
open PyProof.Rows hiding St frameOf passOn
open PySem PySem.Spec L2
variable [TabNames]
section
variable {X : Cx} {pos : Pos}
/-! ## <= ; a < b < c -/
theorem gc_le : OpR X (compareOp .LtE) (fun x y H Q => rI0 (fun i j => .bl (decide (i ≤ j))) x y H Q ∨ ∃ i j, x = .str i ∧ y = .str j ∧ Q (.bl (!decide (j.cps.toList < i.cps.toList))) H) := OpR.or op_le op_le_str
theorem pt_le {a b : Expr} {f g : M PV} (ha : PPm X a f) (hb : PPm X b g) : PTm X (.Compare a [.LtE] [b] pos) (cmpM leC f g) := pt_cm gc_le (gc_int.or gc_str) ha hb (nomark _)
theorem pm_le {a b : Expr} {f g : M PV} (ha : PPm X a f) (hb : PPm X b g) : PEm X (.Compare a [.LtE] [b] pos) (bvM (cmpM leC f g)) := pm_cm gc_le (gc_int.or gc_str) ha hb (nomark _)
def CmpOk (X : Cx) (o : CmpOp) (c : SS → PV → PV → Option Bool) : Prop := ∃ r, OpR X (compareOp o) r ∧ GoodC X c r
theorem ck_lt : CmpOk X .Lt ltC := ⟨_, gc_lt, gc_int.or gc_str⟩
theorem ck_le : CmpOk X .LtE leC := ⟨_, gc_le, gc_int.or gc_str⟩
theorem ck_gt : CmpOk X .Gt gtC := ⟨_, op_gt, gc_int⟩
theorem ck_ge : CmpOk X .GtE geC := ⟨_, op_ge, gc_int⟩
theorem pt_chn {o1 o2 : CmpOp} {c1 c2 : SS → PV → PV → Option Bool} {a b c : Expr} {f g h : M PV} (h1 : CmpOk X o1 c1) (h2 : CmpOk X o2 c2) (ha : PPm X a f) (hb : PPm X b g) (hc : PPm X c h)
    (hm : lastMarks [o1, o2] [b, c] = false := by with_unfolding_all rfl) : PTm X (.Compare a [o1, o2] [b, c] pos) (chainM c1 c2 f g h) := fun W tk => by
  obtain ⟨r1, p1, g1⟩ := h1
  obtain ⟨r2, p2, g2⟩ := h2
  exact PT.weak (pt_chain p1 p2 (ha W tk) (hb W tk) (hc W tk) hm) fun σ H Q hh => chain_core g1 g2 hh
theorem pm_chn {o1 o2 : CmpOp} {c1 c2 : SS → PV → PV → Option Bool} {a b c : Expr} {f g h : M PV} (h1 : CmpOk X o1 c1) (h2 : CmpOk X o2 c2) (ha : PPm X a f) (hb : PPm X b g) (hc : PPm X c h)
    (hm : lastMarks [o1, o2] [b, c] = false := by with_unfolding_all rfl) : PEm X (.Compare a [o1, o2] [b, c] pos) (bvM (chainM c1 c2 f g h)) := fun W tk => by
  obtain ⟨r1, p1, g1⟩ := h1
  obtain ⟨r2, p2, g2⟩ := h2
  refine PE.weak (pe_chain p1 p2 (ha W tk) (hb W tk) (hc W tk) hm) fun σ H Q ⟨U, F, ρ, S, R, p⟩ => ?_
  have h3 : tG X.K W (RT X.K) (chainM c1 c2 f g h) σ H (fun c H' => Q (.bl c) H') := ⟨U, F, ρ, S, R, Post.seq p fun F1 ρ1 S1 H' a1 v s1 q1 r1 e1 p1 => by
    have e1 : v = a1 := e1
    subst e1
    exact p1 F1 ρ1 H' _ (Same.refl _) (List.prefix_refl _) r1 emb_bl'⟩
  obtain ⟨U, F, ρ, S, R, p⟩ := h3
  refine ⟨U, F, ρ, S, R, Post.seq p fun F1 ρ1 S1 H1 a1 x s1 q1 r1' e1 p1' => ?_⟩
  refine ⟨U, F1, ρ1, S1, r1', Post.seq p1' fun F2 ρ2 S2 H2 b1 y s2 q2 r2' e2 p2' => ?_⟩
  have p2' : Post X.K U F2 ρ2 σ (RT X.K U σ) W (fun c H' => Q (.bl c) H') (match c1 S2 a1 b1 with
    | some true => bindM h (fun c s => match c2 s b1 c with
      | some k => .ok k s
      | none => .stuck) S2
    | some false => .ok false S2
    | none => .stuck) := p2'
  cases z : c1 S2 a1 b1 with
  | none => rw [z] at p2'; exact p2'.elim
  | some k =>
    rw [z] at p2'
    refine g1 U F2 ρ2 S2 σ H2 a1 b1 k x y _ r2' (e1.mono s2 q2) e2 z ⟨k, rfl, ?_⟩
    cases k with
    | true =>
      rw [if_pos rfl]
      refine ⟨U, F2, ρ2, S2, r2', Post.seq p2' fun F3 ρ3 S3 H3 c3 w s3 q3 r3 e3 p3 => ?_⟩
      have p3 : Post X.K U F3 ρ3 σ (RT X.K U σ) W (fun c H' => Q (.bl c) H') (match c2 S3 b1 c3 with | some k => .ok k S3 | none => .stuck) := p3
      cases z2 : c2 S3 b1 c3 with
      | none => rw [z2] at p3; exact p3.elim
      | some k2 =>
        rw [z2] at p3
        exact g2 U F3 ρ3 S3 σ H3 b1 c3 k2 y w _ r3 (e2.mono s3 q3) e3 z2 (p3 F3 ρ3 H3 k2 (Same.refl _) (List.prefix_refl _) r3 rfl)
    | false =>
      rw [if_neg Bool.false_ne_true]
      exact p2' F2 ρ2 H2 false (Same.refl _) (List.prefix_refl _) r2' rfl
/-! ## {k: v, ..} -/
def EmbVV (K : PySem.W.Frag) (F : Hp) (ρ : List Addr) : List (AV × AV) → List (V × V) → Prop
  | [], vs => vs = []
  | (a, b) :: r, vs => ∃ v w r', vs = (v, w) :: r' ∧ Emb K F ρ a v ∧ Emb K F ρ b w ∧ EmbVV K F ρ r r'
theorem EmbVV.mono {K : PySem.W.Frag} {F F' : Hp} {ρ ρ' : List Addr} (s : Same F F') (q : ρ <+: ρ') : ∀ {a : List (AV × AV)} {v : List (V × V)}, EmbVV K F ρ a v → EmbVV K F' ρ' a v
  | [], _, h => h
  | (a, b) :: r, _, ⟨v, w, r', e, h1, h2, h3⟩ => ⟨v, w, r', e, Emb.mono s q _ _ h1, Emb.mono s q _ _ h2, EmbVV.mono s q h3⟩
def RVV (K : PySem.W.Frag) (_ : Hp) (_ : St) : RR (List (AV × AV)) (List (V × V)) := fun F ρ _ _ a v => EmbVV K F ρ a v
def prM (f g : M AV) (r : M (List (AV × AV))) : M (List (AV × AV)) := bindM f fun a => bindM g fun b => bindM r fun ps s => .ok ((a, b) :: ps) s
def PPsm (X : Cx) (pos : Pos) (keys : List (Option Expr)) (values : List Expr) (f : M (List (AV × AV))) : Prop := ∀ W, Takes X W → ∃ trs, PPs X pos keys values trs ∧ ∀ U F ρ S σ H Q, Rep X.K U F ρ S σ H → Post X.K U F ρ σ (RVV X.K U σ) W Q (f S) → tPairs trs σ H Q
theorem pps_n : PPsm X pos [] [] nilM := fun W tk => ⟨[], pps_nil, fun U F ρ S σ H Q R p => p F ρ H [] (Same.refl _) (List.prefix_refl _) R rfl⟩
theorem pps_c {k v : Expr} {ks : List (Option Expr)} {vs : List Expr} {f g : M AV} {r : M (List (AV × AV))} (hk : PEm X k f) (hv : PEm X v g) (hr : PPsm X pos ks vs r) : PPsm X pos (some k :: ks) (v :: vs) (prM f g r) := fun W tk => by
  obtain ⟨trs, h, w⟩ := hr W tk
  refine ⟨_, pps_cons (hk W tk) (hv W tk) h, fun U F ρ S σ H Q R p => ⟨U, F, ρ, S, R, Post.seq p fun F1 ρ1 S1 H1 a1 x s1 q1 r1 e1 p1 => ⟨U, F1, ρ1, S1, r1, Post.seq p1 fun F2 ρ2 S2 H2 b1 y s2 q2 r2 e2 p2 => ?_⟩⟩⟩
  refine w U F2 ρ2 S2 σ H2 _ r2 (Post.seq p2 fun F3 ρ3 S3 H3 ps zs s3 q3 r3 e3 p3 => ?_)
  exact p3 F3 ρ3 H3 _ (Same.refl _) (List.prefix_refl _) r3 ⟨x, y, zs, rfl, Emb.mono (s2.trans s3) (q2.trans q3) _ _ e1, Emb.mono s3 q3 _ _ e2, e3⟩
def dMrg (acc ps : List (AV × AV)) : List (AV × AV) := ps.foldl (fun acc p => dPut false acc p.1 p.2) acc
def disM (f : M (List (AV × AV))) : M AO := bindM f fun ps s => if (ps.all (fun p => (kOf p.1).isSome) && decide (ps.length ≤ 15)) = true then .ok (.dic false (dMrg [] ps)) s else .stuck
theorem EmbVV.keys {K : PySem.W.Frag} {F : Hp} {ρ : List Addr} : ∀ {ps : List (AV × AV)} {vs : List (V × V)}, EmbVV K F ρ ps vs → (∀ p ∈ ps, (kOf p.1).isSome = true) → ∃ kv : List (Key × V), vs = kv.map (fun kv => (kV kv.1, kv.2)) ∧ kv.length = ps.length ∧ ∀ acc av, EmbK K F ρ acc av → EmbK K F ρ (dMrg acc ps) (mergeK av kv)
  | [], _, h, _ => ⟨[], h, rfl, fun acc av e => e⟩
  | (a, b) :: r, _, ⟨v, w, r', e, h1, h2, h3⟩, hk => by
    subst e
    obtain ⟨kv, e1, e2, e3⟩ := EmbVV.keys h3 fun p hp => hk p (List.mem_cons_of_mem _ hp)
    have ha := hk (a, b) List.mem_cons_self
    cases z : kOf a with
    | none => rw [z] at ha; cases ha
    | some k =>
      have := emb_kV z h1
      subst this
      exact ⟨(k, w) :: kv, by rw [List.map_cons, ← e1], by simp [e2], fun acc av e => e3 _ _ (EmbK.put z h2 e)⟩
theorem pn_dis {keys : List (Option Expr)} {values : List Expr} {f : M (List (AV × AV))} (h : PPsm X pos keys values f) (hall : keys.all (·.isSome) = true := by rfl) (hl : keys.length = values.length := by rfl) (h0 : keys ≠ [] := by (intro h; cases h))
    (h15 : keys.length ≤ 15 := by decide) : PNm X (.Dict keys values pos) (disM f) := fun W tk => by
  obtain ⟨trs, h, w⟩ := h W tk
  refine PE.weak (pe_disp h hall hl h0 h15) fun σ H Q ⟨U, F, ρ, S, R, p⟩ x hx => ?_
  obtain ⟨nF, nU, nρ, nO⟩ := R.new hx
  have nfr : (∀ o y, HO.dK [] ≠ .frz o y) ∧ ∀ vs, HO.dK [] ≠ .tup vs := ⟨fun _ _ z => (by cases z), fun _ z => (by cases z)⟩
  have p : Post X.K U F ρ σ (RN X.K U σ) W Q (bindR (f S) fun ps s => if (ps.all (fun p => (kOf p.1).isSome) && decide (ps.length ≤ 15)) = true then .ok (.dic false (dMrg [] ps)) s else .stuck) := p
  refine w (upd U x (.dK [])) F ρ S σ _ _ (R.shield hx) ?_
  cases z : f S with
  | stuck => rw [z] at p; exact p.elim
  | exn c s => rw [z] at p; exact fun F' ρ' H' sm pr R' => p F' ρ' H' sm pr (R'.unshield nU)
  | ok ps s =>
    rw [z] at p
    intro F' ρ' H' vs sm pr R' e
    have e : EmbVV X.K F' ρ' ps vs := e
    simp only [bindR] at p
    split at p
    · rename_i hh
      simp only [Bool.and_eq_true, List.all_eq_true, decide_eq_true_eq] at hh
      obtain ⟨kv, e1, e2, e3⟩ := e.keys hh.1
      obtain ⟨u1, u2, u3⟩ := R'.shut nU nfr
      have R2 := R'.reshield (u' := .dK (mergeK [] kv)) nU nfr (plain_of R'.shield0 (fun _ z => by cases z) (fun _ z => by cases z))
      refine ⟨R'.shield0, kv, e1, by rw [e2]; exact hh.2, p F' ρ' _ _ sm pr (R2.unshield nU) ⟨x, rfl, .inl ⟨rfl, _, upd_same, e3 [] [] (by simp [EmbK])⟩, u1, nU, u2, u3⟩⟩
    · exact p.elim
/-! ## enumerate, zip -/
def enumF (k : Int) : List AV → List AV
  | [] => []
  | x :: xs => .tup [.int k, x] :: enumF (k + 1) xs
theorem enumF_get : ∀ {xs : List AV} {k : Int} {i : Nat}, (enumF k xs)[i]? = xs[i]?.map fun x => .tup [.int (k + i), x]
  | [], _, _ => by simp [enumF]
  | x :: xs, k, 0 => by simp [enumF]
  | x :: xs, k, i + 1 => by
    simp only [enumF, List.getElem?_cons_succ]
    rw [enumF_get]
    congr 1
    funext y
    congr 3
    push_cast
    omega
theorem enumF_length : ∀ {xs : List AV} {k : Int}, (enumF k xs).length = xs.length
  | [], _ => rfl
  | x :: xs, k => by simp [enumF, enumF_length]
def zipF : List AV → List AV → List AV
  | x :: xs, y :: ys => .tup [x, y] :: zipF xs ys
  | _, _ => []
theorem zipF_get : ∀ {xs ys : List AV} {i : Nat} {a : AV}, (zipF xs ys)[i]? = some a → ∃ x y, xs[i]? = some x ∧ ys[i]? = some y ∧ a = .tup [x, y]
  | [], _, _, _, h => by simp [zipF] at h
  | x :: xs, [], _, _, h => by simp [zipF] at h
  | x :: xs, y :: ys, 0, a, h => by simp [zipF] at h; exact ⟨x, y, rfl, rfl, h.symm⟩
  | x :: xs, y :: ys, i + 1, a, h => by
    simp only [zipF, List.getElem?_cons_succ] at h ⊢
    exact zipF_get h
theorem zipF_length : ∀ {xs ys : List AV}, xs.length ≤ (zipF xs ys).length ∨ ys.length ≤ (zipF xs ys).length
  | [], _ => .inl (by simp)
  | x :: xs, [] => .inr (by simp)
  | x :: xs, y :: ys => by
    rcases zipF_length (xs := xs) (ys := ys) with h | h
    · exact .inl (by simp [zipF, h])
    · exact .inr (by simp [zipF, h])
end
section
variable {K : PySem.W.Frag} {U F H : Hp} {ρ : List Addr} {S : SS} {σ : St}
theorem itok_enum {p : Addr} {vs : List V} {xs : List AV} (h : SqL K F p vs) (e : EmbL K F ρ xs vs) : ItOk K F ρ (enumF 0 xs) (Ite K p) := by
  intro U F' ρ' S' σ' H' sm pr R
  have hs : SqL K H' p vs := R.lstF (sm.seq h)
  have e' := e.mono sm pr
  refine ⟨fun i a ha => ?_, vs, hs, by rw [e.length, enumF_length]; exact Nat.le_refl _⟩
  rw [enumF_get] at ha
  cases hx : xs[i]? with
  | none => rw [hx] at ha; cases ha
  | some x =>
    rw [hx] at ha
    cases ha
    obtain ⟨v, hv, ev⟩ := e'.get hx
    refine ⟨⟨vs, v, hs, hv⟩, fun y H'' hy => ?_⟩
    obtain ⟨T, w, rfl, hT, rfl, f⟩ := hy
    have q := f vs hs
    rw [hv] at q; cases q
    obtain ⟨R2, s2⟩ := R.newF (u := .tup [.int (i : Nat), v]) hT
    refine ⟨_, s2, R2, ?_⟩
    simp only [Emb]
    refine ⟨T, _, rfl, upd_same, ?_⟩
    simp only [EmbL]
    exact ⟨_, _, rfl, by simp [Emb], v, [], rfl, Emb.mono s2 (List.prefix_refl _) _ _ ev, rfl⟩
theorem itok_zip {p p' : Addr} {vs ws : List V} {xs ys : List AV} (h : SqL K F p vs) (h' : SqL K F p' ws) (e : EmbL K F ρ xs vs) (e' : EmbL K F ρ ys ws) : ItOk K F ρ (zipF xs ys) (Itz K p p') := by
  intro U F' ρ' S' σ' H' sm pr R
  have hs : SqL K H' p vs := R.lstF (sm.seq h)
  have hs' : SqL K H' p' ws := R.lstF (sm.seq h')
  have e1 := e.mono sm pr
  have e2 := e'.mono sm pr
  refine ⟨fun i a ha => ?_, vs, ws, hs, hs', by rw [e.length, e'.length]; exact zipF_length⟩
  obtain ⟨x, y, hx, hy, rfl⟩ := zipF_get ha
  obtain ⟨v, hv, ev⟩ := e1.get hx
  obtain ⟨w, hw, ew⟩ := e2.get hy
  refine ⟨⟨vs, ws, v, w, hs, hs', hv, hw⟩, fun z H'' hz => ?_⟩
  obtain ⟨T, x2, y2, rfl, hT, rfl, f, g⟩ := hz
  have q := f vs hs
  rw [hv] at q; cases q
  have q := g ws hs'
  rw [hw] at q; cases q
  obtain ⟨R2, s2⟩ := R.newF (u := .tup [v, w]) hT
  refine ⟨_, s2, R2, ?_⟩
  simp only [Emb]
  refine ⟨T, _, rfl, upd_same, ?_⟩
  simp only [EmbL]
  exact ⟨_, _, rfl, Emb.mono s2 (List.prefix_refl _) _ _ ev, w, [], rfl, Emb.mono s2 (List.prefix_refl _) _ _ ew, rfl⟩
theorem itok_zipT {p p' : Addr} {vs ws : List V} {xs ys : List AV} (h : F p = some (.tup vs) ∨ SqT K (fun _ => none) p vs) (h' : F p' = some (.tup ws) ∨ SqT K (fun _ => none) p' ws) (e : EmbL K F ρ xs vs) (e' : EmbL K F ρ ys ws) : ItOk K F ρ (zipF xs ys) (RZ.ItzT K p p') := by
  intro U F' ρ' S' σ' H' sm pr R
  have hs : SqT K H' p vs := by
    rcases h with h | h
    · exact SqT.of (R.tupF (sm _ _ h))
    · exact seqT0 h
  have hs' : SqT K H' p' ws := by
    rcases h' with h | h
    · exact SqT.of (R.tupF (sm _ _ h))
    · exact seqT0 h
  have e1 := e.mono sm pr
  have e2 := e'.mono sm pr
  refine ⟨fun i a ha => ?_, vs, ws, hs, hs', by rw [e.length, e'.length]; exact zipF_length⟩
  obtain ⟨x, y, hx, hy, rfl⟩ := zipF_get ha
  obtain ⟨v, hv, ev⟩ := e1.get hx
  obtain ⟨w, hw, ew⟩ := e2.get hy
  refine ⟨⟨vs, ws, v, w, hs, hs', hv, hw⟩, fun z H'' hz => ?_⟩
  obtain ⟨T, x2, y2, rfl, hT, rfl, f, g⟩ := hz
  have q := f vs hs
  rw [hv] at q; cases q
  have q := g ws hs'
  rw [hw] at q; cases q
  obtain ⟨R2, s2⟩ := R.newF (u := .tup [v, w]) hT
  refine ⟨_, s2, R2, ?_⟩
  simp only [Emb]
  refine ⟨T, _, rfl, upd_same, ?_⟩
  simp only [EmbL]
  exact ⟨_, _, rfl, Emb.mono s2 (List.prefix_refl _) _ _ ev, w, [], rfl, Emb.mono s2 (List.prefix_refl _) _ _ ew, rfl⟩
end
section
variable {X : Cx} {pos : Pos}
def lsA : AV → Option (List AV)
  | .vl xs => some xs
  | .cl xs => some xs
  | _ => none
def tpA : AV → Option (List AV)
  | .tup xs => some xs
  | .ct xs => some xs
  | _ => none
theorem lsA_ok {K : PySem.W.Frag} {F : Hp} {ρ : List Addr} {a : AV} {v : V} {xs : List AV} (h : Emb K F ρ a v) (e : lsA a = some xs) : ∃ p vs, v = .ref p ∧ SqL K F p vs ∧ EmbL K F ρ xs vs := by
  cases a with
  | vl ys => cases e; simp only [Emb] at h; obtain ⟨p, vs, rfl, h1, h2⟩ := h; exact ⟨p, vs, rfl, SqL.of h1, h2⟩
  | cl ys => cases e; simp only [Emb] at h; obtain ⟨p, vs, rfl, h1, h2⟩ := h; exact ⟨p, vs, rfl, h1, h2⟩
  | _ => cases e
theorem tpA_ok {K : PySem.W.Frag} {F : Hp} {ρ : List Addr} {a : AV} {v : V} {xs : List AV} (h : Emb K F ρ a v) (e : tpA a = some xs) : ∃ p vs, v = .ref p ∧ (F p = some (.tup vs) ∨ SqT K (fun _ => none) p vs) ∧ EmbL K F ρ xs vs := by
  cases a with
  | tup ys => cases e; simp only [Emb] at h; obtain ⟨p, vs, rfl, h1, h2⟩ := h; exact ⟨p, vs, rfl, .inl h1, h2⟩
  | ct ys => cases e; simp only [Emb] at h; obtain ⟨p, vs, rfl, h1, h2⟩ := h; exact ⟨p, vs, rfl, .inr h1, h2⟩
  | _ => cases e
def enM (f : M (List AV)) : M (List AV) := bindM f fun as => match as with
  | [a] => optM ((lsA a).map (enumF 0))
  | _ => fun _ => .stuck
theorem pim_enum {e : Expr} {f : M (List AV)} {elts : List Expr} {kk : Nat} {tpos p : Pos} (hg : Gl X "enumerate") (hm : X.mg "enumerate" = none) (h : PAm X [e] f) (hs : starEach [e] X.env = [(false, eval e X.env)] := by rfl) :
    PIm X (.Tuple elts kk tpos) (.Call (.Name "enumerate" p) [e] [] pos) (enM f) := fun W tk =>
  PI.weak (pi_enum hg hm (h W tk) hs) fun σ H Q ⟨U, F, ρ, S, R, p⟩ => ⟨U, F, ρ, S, R, Post.seq p fun F1 ρ1 S1 H1 as vs s1 q1 r1 e1 p1 => by
    change EmbL X.K F1 ρ1 as vs at e1
    split at p1
    · rename_i a
      simp only [EmbL] at e1
      obtain ⟨v, r, rfl, e1, rfl⟩ := e1
      cases z : lsA a with
      | none => rw [z] at p1; exact p1.elim
      | some xs =>
        rw [z] at p1
        obtain ⟨q, vs, rfl, h1, h2⟩ := lsA_ok e1 z
        exact ⟨q, vs, rfl, r1.lstF h1, p1 F1 ρ1 H1 _ (Same.refl _) (List.prefix_refl _) r1 (itok_enum h1 h2)⟩
    · exact p1.elim⟩
def zpM (f : M (List AV)) : M (List AV) := bindM f fun as => match as with
  | [a, b] => optM ((match lsA a, lsA b with
    | some xs, some ys => some (zipF xs ys)
    | _, _ => none).or (match tpA a, tpA b with
    | some xs, some ys => some (zipF xs ys)
    | _, _ => none))
  | _ => fun _ => .stuck
theorem pim_zip {e e2 : Expr} {f : M (List AV)} {elts : List Expr} {kk : Nat} {tpos p : Pos} (hg : Gl X "zip") (hm : X.mg "zip" = none) (h : PAm X [e, e2] f)
    (hs : starEach [e, e2] X.env = (false, eval e X.env) :: starEach [e2] X.env := by rfl) (hpl : (backTo pos (starEach [e2] X.env)).any (·.1) = false := by rfl) :
    PIm X (.Tuple elts kk tpos) (.Call (.Name "zip" p) [e, e2] [] pos) (zpM f) := fun W tk =>
  PI.weak (RZ.pi_zipA hg hm (h W tk) hs hpl) fun σ H Q ⟨U, F, ρ, S, R, p⟩ => ⟨U, F, ρ, S, R, Post.seq p fun F1 ρ1 S1 H1 as vs s1 q1 r1 e1 p1 => by
    change EmbL X.K F1 ρ1 as vs at e1
    split at p1
    · rename_i a b
      simp only [EmbL] at e1
      obtain ⟨v, r, rfl, e1, w, r', rfl, e2, rfl⟩ := e1
      cases z1 : lsA a with
      | some xs =>
        cases z2 : lsA b with
        | some ys =>
          rw [z1, z2] at p1
          obtain ⟨q, vs, rfl, h1, h2⟩ := lsA_ok e1 z1
          obtain ⟨q', ws, rfl, h3, h4⟩ := lsA_ok e2 z2
          exact ⟨q, q', vs, ws, rfl, .inl ⟨r1.lstF h1, r1.lstF h3, p1 F1 ρ1 H1 _ (Same.refl _) (List.prefix_refl _) r1 (itok_zip h1 h3 h2 h4)⟩⟩
        | none =>
          have : tpA a = none := by cases a <;> first | rfl | cases z1
          rw [z1, z2, this] at p1; exact p1.elim
      | none =>
        rw [z1] at p1
        cases z3 : tpA a with
        | none => rw [z3] at p1; exact p1.elim
        | some xs =>
          cases z4 : tpA b with
          | none => rw [z3, z4] at p1; exact p1.elim
          | some ys =>
            rw [z3, z4] at p1
            obtain ⟨q, vs, rfl, h1, h2⟩ := tpA_ok e1 z3
            obtain ⟨q', ws, rfl, h3, h4⟩ := tpA_ok e2 z4
            have g1 : SqT X.K H1 q vs := by
              rcases h1 with h | h
              · exact SqT.of (r1.tupF h)
              · exact seqT0 h
            have g2 : SqT X.K H1 q' ws := by
              rcases h3 with h | h
              · exact SqT.of (r1.tupF h)
              · exact seqT0 h
            exact ⟨q, q', vs, ws, rfl, .inr ⟨g1, g2, p1 F1 ρ1 H1 _ (Same.refl _) (List.prefix_refl _) r1 (itok_zipT h1 h3 h2 h4)⟩⟩
    · exact p1.elim⟩
end
end LM

namespace LM
open PyProof.Rows hiding St frameOf passOn
open PySem PySem.Spec L2
variable [TabNames]
/-! ## what a row's head tells, by names -/
structure Fc (fa : List He.Fa) (fn : List He.DefD) (K : PySem.W.Frag) (mg : Str → Option Value) (base : Heap) : Prop where
  h : ∃ h : Heap, K.In h ∧ h.Ns mainGlobals mg
  c : He.SaysD fa fn K
  tb : ∀ e ∈ TabNames.names, LamX.TabB base mg (He.cT K e.1).1 (He.cT K e.1).2
  cs : cxB K = true
section
variable {fa : List He.Fa} {fn : List He.DefD} {K : PySem.W.Frag} {mg : Str → Option Value} {base : Heap}
theorem Fc.glo (e : Fc fa fn K mg base) (i : Nat) {x : Str} (h : fa[i]? = some (.glo x)) : mg x = some (.ref (He.ga K x)) := by
  obtain ⟨hh, h1, h2⟩ := e.h
  exact He.glo_ok h1 h2 (e.c.fact i h)
theorem Fc.free (e : Fc fa fn K mg base) (i : Nat) {x : Str} (h : fa[i]? = some (.free x)) : mg x = none := by
  obtain ⟨hh, h1, h2⟩ := e.h
  exact He.free_ok h1 h2 (e.c.fact i h)
theorem Fc.cls (e : Fc fa fn K mg base) (i : Nat) {x : Str} (h : fa[i]? = some (.cls x)) : Cls K (He.ga K x) := He.cls_ok (e.c.fact i h)
theorem Fc.noat (e : Fc fa fn K mg base) (i : Nat) {x f : Str} (h : fa[i]? = some (.noat x f)) : NoAttr K (He.ga K x) f := He.noat_ok (e.c.fact i h)
theorem Fc.meth (e : Fc fa fn K mg base) (i : Nat) {x f : Str} (h : fa[i]? = some (.meth x f)) : Meth K (He.ga K x) f (He.ma K (He.ga K x) f) := He.meth_ok (e.c.fact i h)
theorem Fc.mkr (e : Fc fa fn K mg base) (i : Nat) {x : Str} (h : fa[i]? = some (.mkr x)) : Mk K (He.ga K x) (He.ma K (He.ga K x) "__init__") := He.mkr_ok (e.c.fact i h)
theorem fo_n {f : Str} : FldOk K [] f := fun c h => by cases h
theorem fo_c {f c : Str} {cs : List Str} (h1 : Cls K (He.ga K c)) (h2 : NoAttr K (He.ga K c) f) (h : FldOk K cs f) : FldOk K (c :: cs) f := fun d hd => by
  rcases List.mem_cons.mp hd with rfl | hd
  · exact ⟨h1, h2⟩
  · exact h d hd
end
/-! ## defs that may be called -/
structure CallOk (P : Program) (w : World) (K : PySem.W.Frag) (mg : Str → Option Value) (base : Heap) (k : Nat) (a : Str × Option Str) (n : Nat) (m : MF) (dv : List AV) : Prop where
  ex : ∃ fd ps ds dvs, ps.length = n ∧ FnM P w K mg base k (He.fAd K a) fd ps m ∧ PySem.W.keepIn K (.ref (He.fAd K a)) = true ∧ Binds K fd ps ds ∧ Vals dvs ds ∧ ∀ F ρ, EmbL K F ρ dv dvs
structure MkOk (P : Program) (w : World) (K : PySem.W.Frag) (mg : Str → Option Value) (base : Heap) (k : Nat) (c : Str) (n : Nat) (m : MI) (dv : List AV) : Prop where
  ex : ∃ f fd ps ds dvs, Mk K (He.ga K c) f ∧ ps.length = n ∧ FnI P w K mg base k f fd ps c m ∧ Binds K fd ps ds ∧ Vals dvs ds ∧ ∀ F ρ, EmbL K F ρ dv dvs
structure MkHOk (P : Program) (w : World) (K : PySem.W.Frag) (mg : Str → Option Value) (base : Heap) (k : Nat) (c : Str) (n : Nat) (m : MF) (dv : List AV) : Prop where
  ex : ∃ f fd ps ds dvs, Mk K (He.ga K c) f ∧ ps.length = n ∧ FnM P w K mg base k f fd ps m ∧ Binds K fd ps ds ∧ Vals dvs ds ∧ ∀ F ρ, EmbL K F ρ dv dvs
section
variable {P : Program} {w : World} {K : PySem.W.Frag} {mg : Str → Option Value} {base : Heap} {qual : Str} {params : Arguments} {body : List Stmt} {scope : Scope} {dvs : List V} {kws : List (Str × V)} {fd : FuncData} {k n : Nat} {m : MF} {mi : MI} {dv : List AV} {a : Str × Option Str} {x c : Str} {ps : List Str} {ds : List Value} {f : Addr}
theorem CallOk.of (F : FunD K x qual params body scope dvs kws (He.fAd K a) fd) (h : FnM P w K mg base k (He.fAd K a) fd ps m) (hb : Binds K fd ps []) : CallOk P w K mg base k a ps.length m [] :=
  ⟨fd, ps, [], [], rfl, h, F.kp, hb, .nil, fun _ _ => by simp [EmbL]⟩
theorem CallOk.ofD {dvs' : List V} (F : FunD K x qual params body scope dvs kws (He.fAd K a) fd) (h : FnM P w K mg base k (He.fAd K a) fd ps m) (hb : ∃ ds, Vals dvs' ds ∧ Binds K fd ps ds) (hdv : ∀ F ρ, EmbL K F ρ dv dvs') : CallOk P w K mg base k a ps.length m dv := by
  obtain ⟨ds, h1, h2⟩ := hb
  exact ⟨fd, ps, ds, dvs', rfl, h, F.kp, h2, h1, hdv⟩
theorem MkOk.of (M : Mk K (He.ga K c) f) (h : FnI P w K mg base k f fd ps c mi) (hb : Binds K fd ps []) : MkOk P w K mg base k c ps.length mi [] :=
  ⟨f, fd, ps, [], [], M, rfl, h, hb, .nil, fun _ _ => by simp [EmbL]⟩
theorem MkOk.ofD {dvs' : List V} (M : Mk K (He.ga K c) f) (h : FnI P w K mg base k f fd ps c mi) (hb : ∃ ds, Vals dvs' ds ∧ Binds K fd ps ds) (hdv : ∀ F ρ, EmbL K F ρ dv dvs') : MkOk P w K mg base k c ps.length mi dv := by
  obtain ⟨ds, h1, h2⟩ := hb
  exact ⟨f, fd, ps, ds, dvs', M, rfl, h, h2, h1, hdv⟩
theorem MkHOk.of (M : Mk K (He.ga K c) f) (h : FnM P w K mg base k f fd ps m) (hb : Binds K fd ps []) : MkHOk P w K mg base k c ps.length m [] :=
  ⟨f, fd, ps, [], [], M, rfl, h, hb, .nil, fun _ _ => by simp [EmbL]⟩
theorem MkHOk.ofD {dvs' : List V} (M : Mk K (He.ga K c) f) (h : FnM P w K mg base k f fd ps m) (hb : ∃ ds, Vals dvs' ds ∧ Binds K fd ps ds) (hdv : ∀ F ρ, EmbL K F ρ dv dvs') : MkHOk P w K mg base k c ps.length m dv := by
  obtain ⟨ds, h1, h2⟩ := hb
  exact ⟨f, fd, ps, ds, dvs', M, rfl, h, h2, h1, hdv⟩
end
section
variable {X : Cx} {pos p : Pos} {k n : Nat} {m : MF} {mi : MI} {dv : List AV} {x c : Str} {e : Expr} {es : List Expr} {g : M (List AV)}
theorem pm_cl (C : CallOk X.prog X.w X.K X.mg X.base k (x, none) n m dv) (hr : Room k X.A) (hm : X.mg x = some (.ref (He.ga X.K x))) (ha : PAm X (e :: es) g) (hg : Gl X x := by rfl)
    (hdb : (x == ("__debug__" : Str)) = false := by decide) (he : starEach (e :: es) X.env = (false, eval e X.env) :: starEach es X.env := by rfl) (hpl : (backTo pos (starEach es X.env)).any (·.1) = false := by rfl) :
    PEm X (.Call (.Name x p) (e :: es) [] pos) (callM n m dv g) := by
  obtain ⟨fd, ps, ds, dvs, rfl, h1, h2, h3, h4, h5⟩ := C.ex
  exact pm_call h1 hr hg hm h2 h3 h4 h5 ha hdb he hpl
theorem pm_cl0 (C : CallOk X.prog X.w X.K X.mg X.base k (x, none) n m dv) (hr : Room k X.A) (hm : X.mg x = some (.ref (He.ga X.K x))) (hg : Gl X x := by rfl)
    (hdb : (x == ("__debug__" : Str)) = false := by decide) : PEm X (.Call (.Name x p) [] [] pos) (callM n m dv nilM) := by
  obtain ⟨fd, ps, ds, dvs, rfl, h1, h2, h3, h4, h5⟩ := C.ex
  exact pm_call0 h1 hr hg hm h2 h3 h4 h5 hdb
theorem pn_mk (C : MkOk X.prog X.w X.K X.mg X.base k c n mi dv) (hr : Room (k + 1) X.A) (hm : X.mg c = some (.ref (He.ga X.K c))) (ha : PAm X (e :: es) g) (hg : Gl X c := by rfl)
    (hdb : (c == ("__debug__" : Str)) = false := by decide) (he : starEach (e :: es) X.env = (false, eval e X.env) :: starEach es X.env := by rfl) (hpl : (backTo pos (starEach es X.env)).any (·.1) = false := by rfl) :
    PNm X (.Call (.Name c p) (e :: es) [] pos) (mkM n mi dv g) := by
  obtain ⟨f, fd, ps, ds, dvs, h0, rfl, h1, h3, h4, h5⟩ := C.ex
  exact pn_make h0 h1 hr hg hm h3 h4 h5 ha hdb he hpl
theorem pn_mk0 (C : MkOk X.prog X.w X.K X.mg X.base k c n mi dv) (hr : Room (k + 1) X.A) (hm : X.mg c = some (.ref (He.ga X.K c))) (hg : Gl X c := by rfl)
    (hdb : (c == ("__debug__" : Str)) = false := by decide) : PNm X (.Call (.Name c p) [] [] pos) (mkM n mi dv nilM) := by
  obtain ⟨f, fd, ps, ds, dvs, h0, rfl, h1, h3, h4, h5⟩ := C.ex
  exact pn_make0 h0 h1 hr hg hm h3 h4 h5 hdb
theorem pm_mkH (C : MkHOk X.prog X.w X.K X.mg X.base k c n m dv) (hr : Room (k + 1) X.A) (hm : X.mg c = some (.ref (He.ga X.K c))) (ha : PAm X (e :: es) g) (hg : Gl X c := by rfl)
    (hdb : (c == ("__debug__" : Str)) = false := by decide) (he : starEach (e :: es) X.env = (false, eval e X.env) :: starEach es X.env := by rfl) (hpl : (backTo pos (starEach es X.env)).any (·.1) = false := by rfl) :
    PEm X (.Call (.Name c p) (e :: es) [] pos) (mkHM n c m dv g) := by
  obtain ⟨f, fd, ps, ds, dvs, h0, rfl, h1, h3, h4, h5⟩ := C.ex
  exact pm_makeH h0 h1 hr hg hm h3 h4 h5 ha hdb he hpl
theorem pm_mkH0 (C : MkHOk X.prog X.w X.K X.mg X.base k c n m dv) (hr : Room (k + 1) X.A) (hm : X.mg c = some (.ref (He.ga X.K c))) (hg : Gl X c := by rfl)
    (hdb : (c == ("__debug__" : Str)) = false := by decide) : PEm X (.Call (.Name c p) [] [] pos) (mkHM n c m dv nilM) := by
  obtain ⟨f, fd, ps, ds, dvs, h0, rfl, h1, h3, h4, h5⟩ := C.ex
  exact pm_makeH0 h0 h1 hr hg hm h3 h4 h5 hdb
theorem mo_n {mn : Str} : ∀ t ∈ ([] : List ME), METOk X mn t := fun t h => by cases h
theorem mo_c {mn : Str} {t : ME} {ts : List ME} (hc : Cls X.K (He.ga X.K t.c)) (hm : Meth X.K (He.ga X.K t.c) mn (He.ma X.K (He.ga X.K t.c) mn)) (C : CallOk X.prog X.w X.K X.mg X.base k (t.c, some mn) t.n t.m t.dv) (hr : Room k X.A)
    (h : ∀ t ∈ ts, METOk X mn t) : ∀ u ∈ t :: ts, METOk X mn u := fun u hu => by
  rcases List.mem_cons.mp hu with rfl | hu
  · obtain ⟨fd, ps, ds, dvs, h0, h1, h2, h3, h4, h5⟩ := C.ex
    exact ⟨_, fd, ps, k, dvs, ds, hc, hm, h0, h1, hr, h3, h4, h5⟩
  · exact h u hu
/-! ## + with lists, frozen -/
def catF (a b : AV) : Option AV := (catL a b).map AO.frz
theorem ga_cat : GoodOp X catF rCat := by
  intro U F ρ S σ H a b c x y Q R ea eb e q
  unfold catF at e
  cases z : catL a b with
  | none => rw [z] at e; cases e
  | some o =>
    rw [z] at e
    cases e
    refine gn_cat U F ρ S σ H a b o x y Q R ea eb z fun H' p R' L => ?_
    obtain ⟨u, hu⟩ := L.some
    obtain ⟨R2, em, sm⟩ := R'.freeze L hu
    exact q _ H' _ sm R2 em
def addX (a b : AV) : Option AV := (((addI a b).or ((addS a b).or (addT a b)))).or (catF a b)
theorem pm_addX {a b : Expr} {f g : M AV} (ha : PEm X a f) (hb : PEm X b g) : PEm X (.BinOp a .Add b pos) (op2 addX f g) :=
  pm_op (OpR.or (OpR.or op_add (OpR.or op_add_str op_catA)) op_cat) ((ga_add.or (ga_adds.or ga_addt)).or ga_cat) ha hb
end
end LM
namespace LM
open PyProof.Rows hiding St frameOf passOn
open PySem PySem.Spec L2
variable [TabNames]
theorem embL_ints {K : PySem.W.Frag} {F : Hp} {ρ : List Addr} : ∀ ns : List Int, EmbL K F ρ (ns.map AV.int) (ns.map V.int)
  | [] => by simp [EmbL]
  | n :: ns => by simp only [List.map_cons, EmbL]; exact ⟨_, _, rfl, emb_int', embL_ints ns⟩
/-- H without its tables -/
def noTab (H : Hp) : Hp := fun b => match H b with
  | some (.tbl _) => none
  | o => o
theorem noTab_of {H : Hp} {b : Addr} {o : HO} (h : noTab H b = some o) : H b = some o := by
  unfold noTab at h
  split at h
  · cases h
  · exact h
theorem noTab_nt {H : Hp} {b : Addr} {ps : Array Value} (h : noTab H b = some (.tbl ps)) : False := by
  have e := noTab_of h
  unfold noTab at h
  rw [e] at h
  cases h
theorem noTab_at {H : Hp} {b : Addr} {o : HO} (h : H b = some o) (hn : ∀ ps, o ≠ .tbl ps) : noTab H b = some o := by
  unfold noTab
  rw [h]
  cases o with
  | tbl ps => exact absurd rfl (hn ps)
  | _ => rfl
theorem law_sp {K : PySem.W.Frag} {H : Hp} {a : Addr} {ns : List Int} {m : MF} (hT : Tbs K H) (hS : SqL K H a (ns.map V.int)) (h : ∃ hp, m [.cl (ns.map AV.int)] [] = .ok (.bl true) hp) :
    spM K 1 m [.ref a] H (fun v _ => v = .bl true) (fun _ _ _ => False) := by
  obtain ⟨hp, h⟩ := h
  have R : Rep K (fun _ => none) (noTab H) [] ⟨[], []⟩ [] H := ⟨rfl, fun b o e => .inl (noTab_of e), fun b o e => (by cases e), rfl, List.nodup_nil, fun p hp => (by simp at hp), fun b o _ => .inl rfl, fun i o p e => (by simp at e), fun i a e => (by simp at e), fun i o e => (by simp at e), ⟨hT, fun b ps z => (by cases z), fun b ps z => noTab_nt z⟩⟩
  have hS' : SqL K (noTab H) a (ns.map V.int) := by
    rcases hS with (h | ⟨o, h⟩) | h
    · exact .inl (.inl (noTab_at h fun ps z => by cases z))
    · exact .inl (.inr ⟨o, noTab_at h fun ps z => by cases z⟩)
    · exact .inr h
  refine ⟨fun _ => none, noTab H, [], [.cl (ns.map AV.int)], [], rfl, R, ?_, ?_⟩
  · simp only [EmbL, Emb]
    exact ⟨_, _, rfl, ⟨a, _, rfl, hS', embL_ints ns⟩, rfl⟩
  · rw [h]
    exact fun F' ρ' H' u _ _ _ e => emb_bl e
/-- the end of a law's head -/
theorem walk_m {l : PySem.W.OpenLaw} {n k : Nat} {q : Program} {loose : List Str} {XP : (Str → Option Value) → Heap → Prop} {YP : World → Heap → Prop} {d : DefRec} {x : Str} {m : MF}
    (hn : l.most = some n) (hn2 : n ≤ sizeLine) (hdf : d.params.defaults = []) (hr : Room k callerA)
    (F : ∀ (w : World) (mg : Str → Option Value) (fa : Addr) (h : Heap), YP w h → h.Ns mainGlobals mg → mg d.name = some (.ref fa) →
      ∃ (K : PySem.W.Frag) (fd : FuncData), K.In h ∧ (∀ e ∈ TabNames.names, h.get? (He.cT K e.1).2 = some { cls := .none, data := .fields #[] }) ∧ (∀ e ∈ TabNames.names, K.lookup (He.cT K e.1).2 = none) ∧ (∀ e ∈ TabNames.names, PySem.W.codeHdIn K (He.cT K e.1).1 (He.cT K e.1).2 = true) ∧
        (∀ (s : Shared) (u : Value), BindsTo s fd ⟨[u], []⟩ [(x, u)]) ∧ ∀ base : Heap, K.In base → base.Ns mainGlobals mg → (∀ e ∈ TabNames.names, LamX.TabB base mg (He.cT K e.1).1 (He.cT K e.1).2) → FnM l.prog w K mg base k fa fd [x] m)
    (hm : ∀ ns : List Int, ns.length ≤ n → (∀ z ∈ ns, Builtin.Int.intBits z ≤ 1048576) → ∃ hp, m [.cl (ns.map AV.int)] [] = .ok (.bl true) hp) :
    PySem.W.WalkO q loose XP YP l.row.toRowW d [] (fun f vs => PySem.call f vs) := by
  refine LamX.walk_ofTsE (CX := fun w => L2.CX l.prog w) (x := x) hn hn2 hdf hr (fun w mg fa h Y G hmg => ?_) (fun w H s e s' ⟨_, _, _, _, _, _, _, _, _, _, _, _, h⟩ => h)
  obtain ⟨K, fd, KX, t1, t2, t3, hb, hF⟩ := F w mg fa h Y G hmg
  refine ⟨K, KX, fd, TabNames.names.map (fun e => He.cT K e.1), spM K 1 m, fun p hp => ?_, fun p hp => ?_, fun p hp => ?_, hb, fun H a ns hl hz hT hS => law_sp (fun e he => ?_) hS (hm ns hl hz), fun base hK hN hT => hF base hK hN fun e he => hT _ (List.mem_map.mpr ⟨e, he, rfl⟩)⟩
  · obtain ⟨e, he, rfl⟩ := List.mem_map.mp hp; exact t1 e he
  · obtain ⟨e, he, rfl⟩ := List.mem_map.mp hp; exact t2 e he
  · obtain ⟨e, he, rfl⟩ := List.mem_map.mp hp; exact PySem.W.codeHd_of_K KX (t3 e he)
  · have z := hT (He.cT K e.1) (List.mem_map.mpr ⟨e, he, rfl⟩)
    exact LamX.TabS.nil z
end LM
namespace LM
open PyProof.Rows hiding St frameOf passOn
open PySem PySem.Spec L2
variable [TabNames]
theorem hu65 {k : Nat} {A : Around} (h : Room k A) : A.units + 65 < cLine := by have := h.un; omega
theorem hu1 {k : Nat} {A : Around} (h : Room k A) : A.units + 1 < cLine := by have := h.un; omega
end LM
namespace LM
open PyProof.Rows hiding St frameOf passOn
open PySem PySem.Spec L2
variable [TabNames]
/-! ## lists compared by their lengths alone -/
def lenEq (a b : Option AV) : Option Bool := match a, b with
  | some (.vl xs), some (.vl ys) => if xs.length ≠ ys.length then some false else if xs.length = 0 then some true else none
  | _, _ => none
def eqX (s : SS) (a b : PV) : Option Bool := (eqC s a b).or (lenEq (plP a s) (plP b s))
def rLenEq (K : PySem.W.Frag) : R2 := fun x y H Q => ∃ a b xs ys k, x = .ref a ∧ y = .ref b ∧ SqL K H a xs ∧ SqL K H b ys ∧ ((xs.length ≠ ys.length ∧ k = false) ∨ (xs = [] ∧ ys = [] ∧ k = true)) ∧ Q (.bl k) H
theorem op_lenEq {X : Cx} (hu : X.A.units < cLine) : OpR X (compareOp .Eq) (rLenEq X.K) := by
  intro pins s σ H x y v u Q I rx ry h
  obtain ⟨a, b, xs, ys, k, rfl, rfl, h1, h2, h3, q⟩ := h
  cases (show v = Value.ref a from rx)
  cases (show u = Value.ref b from ry)
  obtain ⟨its, r1, p1, _⟩ := I.list h1
  obtain ⟨its2, r2, p2, _⟩ := I.list h2
  rcases h3 with ⟨hne, rfl⟩ | ⟨rfl, rfl, rfl⟩
  · refine SeqAt.eq_list_lengthsAt p1.isList p2.isList ?_ hu ⟨.bl false, H, I, rfl, q⟩
    have l1 := r1.length
    have l2 := r2.length
    rw [bne_iff_ne, List.size_toArray, List.size_toArray, ← l1, ← l2]
    exact hne
  · cases r1
    cases r2
    exact SeqAt.eq_listAt (e := fun _ => true) p1.isList p2.isList rfl hu (fun j h _ => absurd h (Nat.not_lt_zero j)) ⟨.bl true, H, I, rfl, q⟩
theorem plP_lst {K : PySem.W.Frag} {U F H : Hp} {ρ : List Addr} {S : SS} {σ : St} (R : Rep K U F ρ S σ H) {p : PV} {v : V} {xs : List AV} (h : EmbP K F ρ σ p v) (e : plP p S = some (.vl xs)) : ∃ a vs, v = .ref a ∧ SqL K H a vs ∧ vs.length = xs.length := by
  have c := coP_ok R h
  unfold plP at e
  split at e
  · rename_i ys hc
    cases e
    rw [hc] at c
    obtain ⟨a, vs, rfl, c1, c2⟩ := c
    exact ⟨a, vs, rfl, c1, c2.length⟩
  · have ev := avP_ok R h e
    simp only [Emb] at ev
    obtain ⟨a, vs, rfl, h1, h2⟩ := ev
    exact ⟨a, vs, rfl, R.lstF (SqL.of h1), h2.length⟩
theorem gc_lenEq {X : Cx} : GoodC X (fun s a b => lenEq (plP a s) (plP b s)) (rLenEq X.K) := by
  intro U F ρ S σ H a b k x y Q R ea eb e q
  dsimp only at e
  unfold lenEq at e
  split at e
  · rename_i xs ys h1 h2
    obtain ⟨p, vs, rfl, c1, l1⟩ := plP_lst R ea h1
    obtain ⟨p', ws, rfl, c2, l2⟩ := plP_lst R eb h2
    by_cases hl : xs.length ≠ ys.length
    · rw [if_pos hl] at e
      cases e
      exact ⟨p, p', vs, ws, false, rfl, rfl, c1, c2, .inl ⟨by rw [l1, l2]; exact hl, rfl⟩, q⟩
    · rw [if_neg hl] at e
      by_cases h0 : xs.length = 0
      · rw [if_pos h0] at e
        cases e
        have h0' : ys.length = 0 := by omega
        exact ⟨p, p', vs, ws, true, rfl, rfl, c1, c2, .inr ⟨List.eq_nil_of_length_eq_zero (by omega), List.eq_nil_of_length_eq_zero (by omega), rfl⟩, q⟩
      · rw [if_neg h0] at e
        cases e
  · cases e
section
variable {X : Cx} {pos : Pos}
theorem pt_eqX {a b : Expr} {f g : M PV} (hu : X.A.units + 64 < cLine) (ha : PPm X a f) (hb : PPm X b g) : PTm X (.Compare a [.Eq] [b] pos) (cmpM eqX f g) := pt_cm (OpR.or (op_eqD hu) (op_lenEq (by omega))) (gc_eq.or gc_lenEq) ha hb (nomark _)
theorem pm_eqX {a b : Expr} {f g : M PV} (hu : X.A.units + 64 < cLine) (ha : PPm X a f) (hb : PPm X b g) : PEm X (.Compare a [.Eq] [b] pos) (bvM (cmpM eqX f g)) := pm_cm (OpR.or (op_eqD hu) (op_lenEq (by omega))) (gc_eq.or gc_lenEq) ha hb (nomark _)
end
end LM

/-! # plain reckoning with the functions: no program in sight -/
namespace LM
open PySem
/-! ## texts -/
theorem str_inj {a b : String} : (Str.ofString a = Str.ofString b) ↔ a = b := by
  constructor
  · intro h
    rw [Str.ofString_eq_toList, Str.ofString_eq_toList] at h
    have h1 := congrArg Str.cps h
    have h2 : a.toList.map Char.toNat = b.toList.map Char.toNat := by simpa using h1
    have h3 : ∀ (l m : List Char), l.map Char.toNat = m.map Char.toNat → l = m := by
      intro l
      induction l with
      | nil => intro m e; cases m <;> simp at e ⊢
      | cons c l ih =>
        intro m e
        cases m with
        | nil => simp at e
        | cons d m =>
          simp only [List.map_cons, List.cons.injEq] at e
          rw [ih m e.2]
          congr 1
          exact Char.ext (UInt32.toNat_inj.mp e.1)
    exact String.toList_inj.mp (h3 _ _ h2)
  · intro h; rw [h]
theorem str_len (a : String) : (Str.ofString a).length = a.length := by
  rw [Str.ofString_eq_toList]
  unfold Str.length
  simp [String.length_toList]
theorem str_ok (a : String) : (Str.ofString a).cps.all (fun x => decide (x < 0x110000)) = true := by
  rw [Str.ofString_eq_toList]
  rw [Array.all_eq_true']
  intro x hx
  simp only [List.mem_toArray, List.mem_map] at hx
  obtain ⟨c, _, rfl⟩ := hx
  have := c.valid
  simp only [decide_eq_true_eq]
  rcases this with h | h
  · have : c.toNat < 0xd800 := h
    omega
  · have : c.toNat < 0x110000 := h.2
    omega
end LM

namespace LM
open PySem L2
/-! ## steps -/
/-- what comes behind: a class, for simp leaves such arguments alone -/
class Cont (α β : Type) where
  run : α → M β
def bnd {α β : Type} (r : Res α) [c : Cont α β] : Res β := bindR r c.run
@[simp] theorem bindR_ok {α β : Type} {a : α} {s : SS} {c : Cont α β} : @bnd α β (.ok a s) c = c.run a s := Eq.trans rfl rfl
@[simp] theorem bindR_exn {α β : Type} {e : Str} {s : SS} {c : Cont α β} : @bnd α β (.exn e s) c = .exn e s := Eq.trans rfl rfl
@[simp] theorem bindR_stuck {α β : Type} {c : Cont α β} : @bnd α β .stuck c = .stuck := Eq.trans rfl rfl
theorem bnd_mk {α β : Type} {r : Res α} {k : α → M β} : @bnd α β r ⟨k⟩ = bindR r k := rfl
@[simp] theorem bindM_at {α β : Type} {f : M α} {k : α → M β} {s : SS} : LM.bindM f k s = @bnd α β (f s) ⟨k⟩ := Eq.trans rfl rfl
def seqR (r : Res Fl) (k : M Fl) : Res Fl := match r with
  | .ok .nx s' => k s'
  | r => r
@[simp] theorem seqR_nx {s : SS} {k : M Fl} : seqR (.ok .nx s) k = k s := Eq.trans rfl rfl
@[simp] theorem seqR_rt {v : AV} {s : SS} {k : M Fl} : seqR (.ok (.rt v) s) k = .ok (.rt v) s := Eq.trans rfl rfl
@[simp] theorem seqR_bk {s : SS} {k : M Fl} : seqR (.ok .bk s) k = .ok .bk s := Eq.trans rfl rfl
@[simp] theorem seqR_ct {s : SS} {k : M Fl} : seqR (.ok .ct s) k = .ok .ct s := Eq.trans rfl rfl
@[simp] theorem seqR_exn {c : Str} {s : SS} {k : M Fl} : seqR (.exn c s) k = .exn c s := Eq.trans rfl rfl
@[simp] theorem seqR_stuck {k : M Fl} : seqR .stuck k = .stuck := Eq.trans rfl rfl
@[simp] theorem seqM_at {a b : M Fl} {s : SS} : seqM a b s = seqR (a s) b := Eq.trans rfl rfl
def optR {α : Type} (o : Option α) (s : SS) : Res α := match o with
  | some a => .ok a s
  | none => .stuck
@[simp] theorem optR_some {α : Type} {a : α} {s : SS} : optR (some a) s = .ok a s := Eq.trans rfl rfl
@[simp] theorem optR_none {α : Type} {s : SS} : optR (none : Option α) s = .stuck := Eq.trans rfl rfl
@[simp] theorem optM_at {α : Type} {o : Option α} {s : SS} : optM o s = optR o s := Eq.trans rfl rfl
@[simp] theorem cM_at {a : AV} {s : SS} : cM a s = .ok a s := Eq.trans rfl rfl
@[simp] theorem nxM_at {s : SS} : nxM s = .ok .nx s := Eq.trans rfl rfl
@[simp] theorem bkM_at {s : SS} : bkM s = .ok .bk s := Eq.trans rfl rfl
@[simp] theorem ctM_at {s : SS} : ctM s = .ok .ct s := Eq.trans rfl rfl
@[simp] theorem retN_at {s : SS} : retN s = .ok (.rt .non) s := Eq.trans rfl rfl
@[simp] theorem retM_at {f : M AV} {s : SS} : retM f s = @bnd _ _ (f s) ⟨fun a s => .ok (.rt a) s⟩ := Eq.trans rfl rfl
@[simp] theorem expM_at {f : M AV} {s : SS} : expM f s = @bnd _ _ (f s) ⟨fun a s => .ok .nx s⟩ := Eq.trans rfl rfl
def slR (x : Option (Option SV)) (i : Nat) (s : SS) : Res AV := match x with
  | some (some (.val a)) => .ok a s
  | some (some (.own o)) => .ok o.frz { s with sl := s.sl.set i (some (.val o.frz)) }
  | _ => .stuck
@[simp] theorem slR_val {a : AV} {i : Nat} {s : SS} : slR (some (some (.val a))) i s = .ok a s := Eq.trans rfl rfl
@[simp] theorem slR_own {o : AO} {i : Nat} {s : SS} : slR (some (some (.own o))) i s = .ok o.frz { s with sl := s.sl.set i (some (.val o.frz)) } := Eq.trans rfl rfl
@[simp] theorem vM_at {i : Nat} {s : SS} : vM i s = slR s.sl[i]? i s := Eq.trans rfl rfl
def pkR (x : Option (Option SV)) (i : Nat) (s : SS) : Res PV := match x with
  | some (some _) => .ok (.sl i) s
  | _ => .stuck
@[simp] theorem pkR_some {a : SV} {i : Nat} {s : SS} : pkR (some (some a)) i s = .ok (.sl i) s := Eq.trans rfl rfl
@[simp] theorem pkV_at {i : Nat} {s : SS} : pkV i s = pkR s.sl[i]? i s := Eq.trans rfl rfl
@[simp] theorem pkE_at {f : M AV} {s : SS} : pkE f s = @bnd _ _ (f s) ⟨fun a s => .ok (.av a) s⟩ := Eq.trans rfl rfl
@[simp] theorem frM_at {f : M AO} {s : SS} : frM f s = @bnd _ _ (f s) ⟨fun o s => .ok o.frz s⟩ := Eq.trans rfl rfl
@[simp] theorem laM_at {f : M AO} {s : SS} : laM f s = @bnd _ _ (f s) ⟨fun o s => .ok (.ref s.hp.length) { s with hp := s.hp ++ [o] }⟩ := Eq.trans rfl rfl
@[simp] theorem op2_at {op : AV → AV → Option AV} {f g : M AV} {s : SS} : op2 op f g s = @bnd _ _ (f s) ⟨fun a s => @bnd _ _ (g s) ⟨fun b s => optR (op a b) s⟩⟩ := Eq.trans rfl rfl
@[simp] theorem op2N_at {op : AV → AV → Option AO} {f g : M AV} {s : SS} : op2N op f g s = @bnd _ _ (f s) ⟨fun a s => @bnd _ _ (g s) ⟨fun b s => optR (op a b) s⟩⟩ := Eq.trans rfl rfl
@[simp] theorem op1_at {op : AV → Option AV} {f : M AV} {s : SS} : op1 op f s = @bnd _ _ (f s) ⟨fun a s => optR (op a) s⟩ := Eq.trans rfl rfl
@[simp] theorem cmpM_at {op : SS → PV → PV → Option Bool} {f g : M PV} {s : SS} : cmpM op f g s = @bnd _ _ (f s) ⟨fun a s => @bnd _ _ (g s) ⟨fun b s => optR (op s a b) s⟩⟩ := by
  simp only [bnd_mk]
  show bindR (f s) _ = bindR (f s) _
  congr 1
  funext a s
  show bindR (g s) _ = bindR (g s) _
  congr 1
  funext b s
  show (match op s a b with | some k => Res.ok k s | none => .stuck) = _
  cases op s a b <;> rfl
@[simp] theorem bvM_at {f : M Bool} {s : SS} : bvM f s = @bnd _ _ (f s) ⟨fun k s => .ok (.bl k) s⟩ := Eq.trans rfl rfl
@[simp] theorem andM_at {f g : M Bool} {s : SS} : LM.andM f g s = @bnd _ _ (f s) ⟨fun k s => if k = true then g s else .ok false s⟩ := by
  simp only [bnd_mk]
  unfold LM.andM LM.bindM
  show bindR (f s) _ = bindR (f s) _
  congr 1
  funext k s
  cases k <;> rfl
@[simp] theorem orM_at {f g : M Bool} {s : SS} : LM.orM f g s = @bnd _ _ (f s) ⟨fun k s => if k = true then .ok true s else g s⟩ := by
  simp only [bnd_mk]
  unfold LM.orM LM.bindM
  show bindR (f s) _ = bindR (f s) _
  congr 1
  funext k s
  cases k <;> rfl
@[simp] theorem notM_at {f : M Bool} {s : SS} : LM.notM f s = @bnd _ _ (f s) ⟨fun k s => .ok (!k) s⟩ := Eq.trans rfl rfl
@[simp] theorem ifM_at {α : Type} {c : M Bool} {f g : M α} {s : SS} : ifM c f g s = @bnd _ _ (c s) ⟨fun k s => if k = true then f s else g s⟩ := by
  simp only [bnd_mk]
  unfold ifM LM.bindM
  show bindR (c s) _ = bindR (c s) _
  congr 1
  funext k s
  cases k <;> rfl
@[simp] theorem truM_at {f : M PV} {s : SS} : truM f s = @bnd _ _ (f s) ⟨fun p s => optR (truP p s) s⟩ := by
  simp only [bnd_mk]
  show bindR (f s) _ = bindR (f s) _
  congr 1
  funext p s
  show (match truP p s with | some k => Res.ok k s | none => .stuck) = _
  cases truP p s <;> rfl
@[simp] theorem chainM_at {c1 c2 : SS → PV → PV → Option Bool} {f g h : M PV} {s : SS} : chainM c1 c2 f g h s = @bnd _ _ (f s) ⟨fun a s => @bnd _ _ (g s) ⟨fun b s => @bnd _ _ (optR (c1 s a b) s) ⟨fun k s => if k = true then @bnd _ _ (h s) ⟨fun c s => optR (c2 s b c) s⟩ else .ok false s⟩⟩⟩ := by
  simp only [bnd_mk]
  show bindR (f s) _ = bindR (f s) _
  congr 1
  funext a s
  show bindR (g s) _ = bindR (g s) _
  congr 1
  funext b s
  show (match c1 s a b with
    | some true => LM.bindM h (fun c s => match c2 s b c with
      | some k => .ok k s
      | none => .stuck) s
    | some false => .ok false s
    | none => .stuck) = _
  cases z : c1 s a b with
  | none => rfl
  | some k =>
    cases k with
    | false => rfl
    | true =>
      show bindR (h s) _ = bindR (h s) _
      congr 1
      funext c s
      show (match c2 s b c with | some k => Res.ok k s | none => .stuck) = _
      cases c2 s b c <;> rfl
@[simp] theorem nilM_at {α : Type} {s : SS} : (nilM : M (List α)) s = .ok [] s := Eq.trans rfl rfl
@[simp] theorem consM_at {α : Type} {f : M α} {g : M (List α)} {s : SS} : consM f g s = @bnd _ _ (f s) ⟨fun a s => @bnd _ _ (g s) ⟨fun as s => .ok (a :: as) s⟩⟩ := Eq.trans rfl rfl
@[simp] theorem tupM_at {f : M (List AV)} {s : SS} : tupM f s = @bnd _ _ (f s) ⟨fun xs s => if xs.length ≤ 16777216 then .ok (.tup xs) s else .stuck⟩ := Eq.trans rfl rfl
@[simp] theorem lstM_at {f : M (List AV)} {s : SS} : lstM f s = @bnd _ _ (f s) ⟨fun xs s => if xs.length ≤ 16777216 then .ok (.lst xs) s else .stuck⟩ := Eq.trans rfl rfl
@[simp] theorem dicM_at {t : Bool} {s : SS} : dicM t s = .ok (.dic t []) s := Eq.trans rfl rfl
@[simp] theorem cbM_at {α : Type} {op : SS → List PV → Option α} {f : M (List PV)} {s : SS} : cbM op f s = @bnd _ _ (f s) ⟨fun as s => optR (op s as) s⟩ := by
  simp only [bnd_mk]
  unfold cbM LM.bindM optR
  rfl
@[simp] theorem noPartM_at {s : SS} : noPartM s = .ok none s := Eq.trans rfl rfl
def partR (a : AV) (s : SS) : Res (Option Int) := match a with
  | .int i => .ok (some i) s
  | _ => .stuck
@[simp] theorem partR_int {i : Int} {s : SS} : partR (.int i) s = .ok (some i) s := Eq.trans rfl rfl
@[simp] theorem partM_at {f : M AV} {s : SS} : partM f s = @bnd _ _ (f s) ⟨fun a s => partR a s⟩ := Eq.trans rfl rfl
def retX (s : SS) (r : RF) : Res AV := retR s r
@[simp] theorem retX_ok {s : SS} {v : AV} {h : AH} : retX s (.ok v h) = .ok v { s with hp := h } := Eq.trans rfl rfl
@[simp] theorem retX_exn {s : SS} {c : Str} {h : AH} : retX s (.exn c h) = .exn c { s with hp := h } := Eq.trans rfl rfl
@[simp] theorem callM_at {n : Nat} {m : MF} {dv : List AV} {f : M (List AV)} {s : SS} : callM n m dv f s = @bnd _ _ (f s) ⟨fun as s => if (as ++ dv).length = n then retX s (m (as ++ dv) s.hp) else .stuck⟩ := Eq.trans rfl rfl
def asgR (r : Res Unit) : Res Fl := match r with
  | .ok _ s => .ok .nx s
  | _ => .stuck
@[simp] theorem asgR_ok {u : Unit} {s : SS} : asgR (.ok u s) = .ok .nx s := Eq.trans rfl rfl
@[simp] theorem asgM_at {g : AV → M Unit} {f : M AV} {s : SS} : asgM g f s = @bnd _ _ (f s) ⟨fun a s => asgR (g a s)⟩ := by
  simp only [bnd_mk]
  unfold asgM LM.bindM asgR
  rfl
@[simp] theorem asgO_at {i : Nat} {f : M AO} {s : SS} : asgO i f s = @bnd _ _ (f s) ⟨fun o s => .ok .nx { s with sl := s.sl.set i (some (.own o)) }⟩ := Eq.trans rfl rfl
@[simp] theorem setV_at {i : Nat} {a : AV} {s : SS} : setV i a s = .ok () { s with sl := s.sl.set i (some (.val a)) } := Eq.trans rfl rfl
@[simp] theorem yesM_at {s : SS} : yesM s = .ok true s := Eq.trans rfl rfl
@[simp] theorem forM_at {it : M (List AV)} {g : AV → M Unit} {b : M Fl} {s : SS} : LM.forM it g b s = @bnd _ _ (it s) ⟨fun xs s => forL g b xs s⟩ := Eq.trans rfl rfl
@[simp] theorem itM_at {f : M AV} {s : SS} : itM f s = @bnd _ _ (f s) ⟨fun a s => optR (itA a) s⟩ := Eq.trans rfl rfl
def fnR (r : Res Fl) : RF := match r with
  | .ok (.rt v) s => .ok v s.hp
  | .ok .nx s => .ok .non s.hp
  | .exn c s => .exn c s.hp
  | _ => .stuck
@[simp] theorem fnR_rt {v : AV} {s : SS} : fnR (.ok (.rt v) s) = .ok v s.hp := Eq.trans rfl rfl
@[simp] theorem fnR_nx {s : SS} : fnR (.ok .nx s) = .ok .non s.hp := Eq.trans rfl rfl
@[simp] theorem fnR_exn {c : Str} {s : SS} : fnR (.exn c s) = .exn c s.hp := Eq.trans rfl rfl
@[simp] theorem fnM_at {n : Nat} {m : M Fl} {as : List AV} {hp : AH} : fnM n m as hp = fnR (m ⟨slots0 n as, hp⟩) := Eq.trans rfl rfl
/-- a loop's turn -/
def turnR (r : Res Fl) (k : M Fl) : Res Fl := match r with
  | .ok .nx s => k s
  | .ok .ct s => k s
  | .ok .bk s => .ok .nx s
  | r => r
@[simp] theorem turnR_nx {s : SS} {k : M Fl} : turnR (.ok .nx s) k = k s := Eq.trans rfl rfl
@[simp] theorem turnR_ct {s : SS} {k : M Fl} : turnR (.ok .ct s) k = k s := Eq.trans rfl rfl
@[simp] theorem turnR_bk {s : SS} {k : M Fl} : turnR (.ok .bk s) k = .ok .nx s := Eq.trans rfl rfl
@[simp] theorem turnR_rt {v : AV} {s : SS} {k : M Fl} : turnR (.ok (.rt v) s) k = .ok (.rt v) s := Eq.trans rfl rfl
theorem forL_nil {g : AV → M Unit} {b : M Fl} {s : SS} : forL g b [] s = .ok .nx s := rfl
theorem forL_cons {g : AV → M Unit} {b : M Fl} {x : AV} {xs : List AV} {s s' : SS} {u : Unit} (h : g x s = .ok u s') : forL g b (x :: xs) s = turnR (b s') (forL g b xs) := by
  show (match g x s with
    | .ok _ s => (match b s with
      | .ok .nx s => forL g b xs s
      | .ok .ct s => forL g b xs s
      | .ok .bk s => .ok .nx s
      | r => r)
    | _ => .stuck) = _
  rw [h]
  unfold turnR
  rfl
theorem forL_setV {i : Nat} {b : M Fl} {x : AV} {xs : List AV} {s : SS} : forL (setV i) b (x :: xs) s = turnR (b { s with sl := s.sl.set i (some (.val x)) }) (forL (setV i) b xs) := forL_cons (setV_at)
theorem whileM_at {c : M Bool} {b : M Fl} {n : Nat} {s : SS} : whileM c b (n + 1) s = @bnd _ _ (c s) ⟨fun k s => if k = true then turnR (b s) (whileM c b n) else .ok .nx s⟩ := by
  simp only [bnd_mk]
  show (match c s with
    | .ok true s => (match b s with
      | .ok .nx s => whileM c b n s
      | .ok .ct s => whileM c b n s
      | .ok .bk s => .ok .nx s
      | r => r)
    | .ok false s => .ok .nx s
    | .exn c s => .exn c s
    | .stuck => .stuck) = _
  cases z : c s with
  | ok k s' => cases k <;> rfl
  | exn cc s' => rfl
  | stuck => rfl
/-- a comprehension's turn -/
theorem compL_nil {vs : List Nat} {g : AV → M Unit} {c : M Bool} {e : M AV} {acc : List AV} {s : SS} : compL vs g c e [] acc s = .ok acc (wipeS vs s) := rfl
theorem compL_yes {vs : List Nat} {g : AV → M Unit} {c : M Bool} {e : M AV} {x a : AV} {xs acc : List AV} {s s1 s2 s3 : SS} {u : Unit} (h1 : g x (wipeS vs s) = .ok u s1) (h2 : c s1 = .ok true s2) (h3 : e s2 = .ok a s3) (hl : acc.length < 16777216) :
    compL vs g c e (x :: xs) acc s = compL vs g c e xs (acc ++ [a]) s3 := by
  show (match g x (wipeS vs s) with
    | .ok _ s => (match c s with
      | .ok true s => (match e s with
        | .ok a s => if acc.length < 16777216 then compL vs g c e xs (acc ++ [a]) s else .stuck
        | _ => .stuck)
      | .ok false s => compL vs g c e xs acc s
      | _ => .stuck)
    | _ => .stuck) = _
  simp only [h1, h2, h3, if_pos hl]
theorem compL_no {vs : List Nat} {g : AV → M Unit} {c : M Bool} {e : M AV} {x : AV} {xs acc : List AV} {s s1 s2 : SS} {u : Unit} (h1 : g x (wipeS vs s) = .ok u s1) (h2 : c s1 = .ok false s2) :
    compL vs g c e (x :: xs) acc s = compL vs g c e xs acc s2 := by
  show (match g x (wipeS vs s) with
    | .ok _ s => (match c s with
      | .ok true s => (match e s with
        | .ok a s => if acc.length < 16777216 then compL vs g c e xs (acc ++ [a]) s else .stuck
        | _ => .stuck)
      | .ok false s => compL vs g c e xs acc s
      | _ => .stuck)
    | _ => .stuck) = _
  simp only [h1, h2]
end LM
namespace LM
open PySem L2
/-! ## what stands there -/
@[simp] theorem coP_av {a : AV} {s : SS} : coP (.av a) s = coA s.hp a := Eq.trans rfl rfl
def coS (x : Option (Option SV)) (hp : AH) : Co := match x with
  | some (some (.own o)) => .ob o.rd
  | some (some (.val a)) => coA hp a
  | _ => .no
@[simp] theorem rd_lst {xs : List AV} : (AO.lst xs).rd = .lst xs := Eq.trans rfl rfl
@[simp] theorem rd_dic {t : Bool} {xs : List (AV × AV)} : (AO.dic t xs).rd = .dic t xs := Eq.trans rfl rfl
@[simp] theorem rd_lck {t : Bool} {xs : List (AV × AV)} : (AO.lck t xs).rd = .dic t xs := Eq.trans rfl rfl
@[simp] theorem rd_ins {c : Str} {xs : List (Str × AV)} : (AO.ins c xs).rd = .ins c xs := Eq.trans rfl rfl
@[simp] theorem coP_sl {i : Nat} {s : SS} : coP (.sl i) s = coS s.sl[i]? s.hp := Eq.trans rfl rfl
@[simp] theorem coS_val {a : AV} {hp : AH} : coS (some (some (.val a))) hp = coA hp a := Eq.trans rfl rfl
@[simp] theorem coS_own {o : AO} {hp : AH} : coS (some (some (.own o))) hp = .ob o.rd := Eq.trans rfl rfl
def coH (x : Option AO) : Co := match x with
  | some o => .ob o.rd
  | none => .no
@[simp] theorem coH_some {o : AO} : coH (some o) = .ob o.rd := Eq.trans rfl rfl
@[simp] theorem coA_tup {h : AH} {xs : List AV} : coA h (.tup xs) = .tup xs := Eq.trans rfl rfl
@[simp] theorem coA_ct {h : AH} {xs : List AV} : coA h (.ct xs) = .tup xs := Eq.trans rfl rfl
@[simp] theorem coA_vl {h : AH} {xs : List AV} : coA h (.vl xs) = .ob (.lst xs) := Eq.trans rfl rfl
@[simp] theorem coA_cl {h : AH} {xs : List AV} : coA h (.cl xs) = .ob (.lst xs) := Eq.trans rfl rfl
@[simp] theorem coA_vd {h : AH} {t : Bool} {kvs : List (AV × AV)} : coA h (.vd t kvs) = .ob (.dic t kvs) := Eq.trans rfl rfl
@[simp] theorem coA_ob {h : AH} {c : Str} {fs : List (Str × AV)} : coA h (.ob c fs) = .ob (.ins c fs) := Eq.trans rfl rfl
@[simp] theorem coA_str {h : AH} {x : Str} : coA h (.str x) = .str x := Eq.trans rfl rfl
@[simp] theorem coA_non {h : AH} : coA h .non = .no := Eq.trans rfl rfl
@[simp] theorem coA_bl {h : AH} {b : Bool} : coA h (.bl b) = .no := Eq.trans rfl rfl
@[simp] theorem coA_int {h : AH} {i : Int} : coA h (.int i) = .no := Eq.trans rfl rfl
@[simp] theorem coA_ref {h : AH} {i : Nat} : coA h (.ref i) = coH h[i]? := Eq.trans rfl rfl
@[simp] theorem avP_av {a : AV} {s : SS} : avP (.av a) s = some a := Eq.trans rfl rfl
def avS (x : Option (Option SV)) : Option AV := match x with
  | some (some (.val a)) => some a
  | _ => none
@[simp] theorem avP_sl {i : Nat} {s : SS} : avP (.sl i) s = avS s.sl[i]? := Eq.trans rfl rfl
@[simp] theorem avS_val {a : AV} : avS (some (some (.val a))) = some a := Eq.trans rfl rfl
@[simp] theorem avS_own {o : AO} : avS (some (some (.own o))) = none := Eq.trans rfl rfl
def plC (c : Co) (a : Option AV) : Option AV := match c with
  | .ob (.lst xs) => some (.vl xs)
  | _ => a
@[simp] theorem plP_at {p : PV} {s : SS} : plP p s = plC (coP p s) (avP p s) := Eq.trans rfl rfl
@[simp] theorem plC_lst {xs : List AV} {a : Option AV} : plC (.ob (.lst xs)) a = some (.vl xs) := Eq.trans rfl rfl
@[simp] theorem plC_dic {t : Bool} {xs : List (AV × AV)} {a : Option AV} : plC (.ob (.dic t xs)) a = a := Eq.trans rfl rfl
@[simp] theorem plC_ins {c : Str} {xs : List (Str × AV)} {a : Option AV} : plC (.ob (.ins c xs)) a = a := Eq.trans rfl rfl
@[simp] theorem plC_tup {xs : List AV} {a : Option AV} : plC (.tup xs) a = a := Eq.trans rfl rfl
@[simp] theorem plC_str {x : Str} {a : Option AV} : plC (.str x) a = a := Eq.trans rfl rfl
@[simp] theorem plC_no {a : Option AV} : plC .no a = a := Eq.trans rfl rfl
/-! ## comparing -/
def eqO (x y : Option AV) : Option Bool := match x, y with
  | some x, some y => if okA 60 x && okA 60 y then some (eqA x y) else none
  | _, _ => none
@[simp] theorem eqC_at {s : SS} {a b : PV} : eqC s a b = eqO (plP a s) (plP b s) := Eq.trans rfl rfl
@[simp] theorem neC_at {s : SS} {a b : PV} : neC s a b = (eqO (plP a s) (plP b s)).map (!·) := Eq.trans rfl rfl
@[simp] theorem eqO_some {x y : AV} : eqO (some x) (some y) = if okA 60 x && okA 60 y then some (eqA x y) else none := Eq.trans rfl rfl
@[simp] theorem okA_non {n : Nat} : okA n .non = true := by simp only [okA]
@[simp] theorem okA_bl {n : Nat} {b : Bool} : okA n (.bl b) = true := by simp only [okA]
@[simp] theorem okA_int {n : Nat} {i : Int} : okA n (.int i) = true := by simp only [okA]
@[simp] theorem okA_str {n : Nat} {x : String} : okA n (.str (Str.ofString x)) = true := by simp only [okA]; exact str_ok x
@[simp] theorem okA_vl {n : Nat} {xs : List AV} : okA (n + 1) (.vl xs) = okL n xs := by simp only [okA]
@[simp] theorem okA_cl {n : Nat} {xs : List AV} : okA (n + 1) (.cl xs) = okL n xs := by simp only [okA]
@[simp] theorem okA_tup {n : Nat} {xs : List AV} : okA (n + 1) (.tup xs) = okL n xs := by simp only [okA]
@[simp] theorem okA_ct {n : Nat} {xs : List AV} : okA (n + 1) (.ct xs) = okL n xs := by simp only [okA]
@[simp] theorem okL_nil {n : Nat} : okL n [] = true := by simp only [okL]
@[simp] theorem okL_cons {n : Nat} {x : AV} {xs : List AV} : okL n (x :: xs) = (okA n x && okL n xs) := by simp only [okL]
@[simp] theorem eqA_non : eqA .non .non = true := by simp only [eqA]
@[simp] theorem eqA_bl {a b : Bool} : eqA (.bl a) (.bl b) = (a == b) := by simp only [eqA]
@[simp] theorem eqA_int {a b : Int} : eqA (.int a) (.int b) = decide (a = b) := by simp only [eqA]
@[simp] theorem eqA_str {a b : Str} : eqA (.str a) (.str b) = decide (a = b) := by simp only [eqA]
@[simp] theorem eqA_vl {a b : List AV} : eqA (.vl a) (.vl b) = eqL a b := by simp only [eqA]
@[simp] theorem eqA_tup {a b : List AV} : eqA (.tup a) (.tup b) = eqL a b := by simp only [eqA]
@[simp] theorem eqA_int_str {a : Int} {b : Str} : eqA (.int a) (.str b) = false := by simp only [eqA]
@[simp] theorem eqA_str_int {a : Int} {b : Str} : eqA (.str b) (.int a) = false := by simp only [eqA]
@[simp] theorem eqL_nil : eqL [] [] = true := by simp only [eqL]
@[simp] theorem eqL_cons {x y : AV} {xs ys : List AV} : eqL (x :: xs) (y :: ys) = (eqA x y && eqL xs ys) := by simp only [eqL]
@[simp] theorem eqL_nc {y : AV} {ys : List AV} : eqL [] (y :: ys) = false := by simp only [eqL]
@[simp] theorem eqL_cn {y : AV} {ys : List AV} : eqL (y :: ys) [] = false := by simp only [eqL]
def intO (c : Int → Int → Bool) (x y : Option AV) : Option Bool := match x, y with
  | some (.int i), some (.int j) => some (c i j)
  | _, _ => none
def strO (c : Str → Str → Bool) (x y : Option AV) : Option Bool := match x, y with
  | some (.str i), some (.str j) => some (c i j)
  | _, _ => none
@[simp] theorem intC_at {c : Int → Int → Bool} {s : SS} {a b : PV} : intC c s a b = intO c (avP a s) (avP b s) := Eq.trans rfl rfl
@[simp] theorem strC_at {c : Str → Str → Bool} {s : SS} {a b : PV} : strC c s a b = strO c (avP a s) (avP b s) := Eq.trans rfl rfl
@[simp] theorem intO_int {c : Int → Int → Bool} {i j : Int} : intO c (some (.int i)) (some (.int j)) = some (c i j) := Eq.trans rfl rfl
@[simp] theorem intO_str {c : Int → Int → Bool} {i j : Str} : intO c (some (.str i)) (some (.str j)) = none := Eq.trans rfl rfl
@[simp] theorem strO_str {c : Str → Str → Bool} {i j : Str} : strO c (some (.str i)) (some (.str j)) = some (c i j) := Eq.trans rfl rfl
@[simp] theorem ltC_at {s : SS} {a b : PV} : ltC s a b = (intO (fun i j => decide (i < j)) (avP a s) (avP b s)).or (strO (fun i j => decide (i.cps.toList < j.cps.toList)) (avP a s) (avP b s)) := Eq.trans rfl rfl
@[simp] theorem leC_at {s : SS} {a b : PV} : leC s a b = (intO (fun i j => decide (i ≤ j)) (avP a s) (avP b s)).or (strO (fun i j => !decide (j.cps.toList < i.cps.toList)) (avP a s) (avP b s)) := Eq.trans rfl rfl
end LM
namespace LM
open PySem L2
/-! ## places, fields, calls of methods -/
def ixO (c : Co) (k : Option AV) : Option AV := match c, k with
  | .ob (.lst xs), some (.int i) => atI xs i
  | .tup xs, some (.int i) => atI xs i
  | .str z, some (.int i) => if z.length ≤ 16777216 then (atI z.cps.toList i).map (fun c => .str ⟨#[c]⟩) else none
  | .ob (.dic t kvs), some k => if (kk t k).isSome then dGet t kvs k else none
  | _, _ => none
@[simp] theorem ixO_lst {xs : List AV} {i : Int} : ixO (.ob (.lst xs)) (some (.int i)) = atI xs i := Eq.trans rfl rfl
@[simp] theorem ixO_tup {xs : List AV} {i : Int} : ixO (.tup xs) (some (.int i)) = atI xs i := Eq.trans rfl rfl
@[simp] theorem ixO_str {z : Str} {i : Int} : ixO (.str z) (some (.int i)) = if z.length ≤ 16777216 then (atI z.cps.toList i).map (fun c => .str ⟨#[c]⟩) else none := Eq.trans rfl rfl
@[simp] theorem ixO_dic {t : Bool} {kvs : List (AV × AV)} {k : AV} : ixO (.ob (.dic t kvs)) (some k) = if (kk t k).isSome then dGet t kvs k else none := Eq.trans rfl rfl
theorem ixO_eq (c : Co) (k : Option AV) (s : SS) : (match c, k with
  | .ob (.lst xs), some (.int i) => match atI xs i with
    | some x => Res.ok x s
    | none => .stuck
  | .tup xs, some (.int i) => match atI xs i with
    | some x => .ok x s
    | none => .stuck
  | .str z, some (.int i) => if z.length ≤ 16777216 then (match atI z.cps.toList i with
    | some c => .ok (.str ⟨#[c]⟩) s
    | none => .stuck) else .stuck
  | .ob (.dic t kvs), some k => if (kk t k).isSome then (match dGet t kvs k with
    | some x => .ok x s
    | none => .stuck) else .stuck
  | _, _ => .stuck) = optR (ixO c k) s := by
  unfold ixO
  split
  · rename_i xs i; cases atI xs i <;> rfl
  · rename_i xs i; cases atI xs i <;> rfl
  · rename_i z i
    split
    · cases atI z.cps.toList i <;> rfl
    · rfl
  · rename_i t kvs k
    split
    · cases dGet t kvs k <;> rfl
    · rfl
  · rfl
@[simp] theorem ixM_at {f g : M PV} {s : SS} : ixM f g s = @bnd _ _ (f s) ⟨fun a s => @bnd _ _ (g s) ⟨fun b s => optR (ixO (coP a s) (plP b s)) s⟩⟩ := by
  simp only [bnd_mk]
  show bindR (f s) _ = bindR (f s) _
  congr 1
  funext a s
  show bindR (g s) _ = bindR (g s) _
  congr 1
  funext b s
  exact ixO_eq _ _ _
def fldO (cs : List Str) (f : Str) (c : Co) : Option AV := match c with
  | .ob (.ins c fs) => if c ∈ cs then fs.lookup f else none
  | _ => none
@[simp] theorem fldO_ins {cs : List Str} {f c : Str} {fs : List (Str × AV)} : fldO cs f (.ob (.ins c fs)) = if c ∈ cs then fs.lookup f else none := Eq.trans rfl rfl
@[simp] theorem fldM_at {cs : List Str} {f : Str} {g : M PV} {s : SS} : fldM cs f g s = @bnd _ _ (g s) ⟨fun p s => optR (fldO cs f (coP p s)) s⟩ := by
  simp only [bnd_mk]
  show bindR (g s) _ = bindR (g s) _
  congr 1
  funext p s
  show (match coP p s with
    | .ob (.ins c fs) => if c ∈ cs then (match fs.lookup f with
      | some a => Res.ok a s
      | none => .stuck) else .stuck
    | _ => .stuck) = _
  unfold fldO
  split
  · rename_i c fs h
    split
    · cases fs.lookup f <;> rfl
    · rfl
  · rfl
def methR (name : Str) (tb : List ME) (a : AV) (g : M (List AV)) (c : Option (Str × List (Str × AV))) (s : SS) : Res AV := match c with
  | some (c, fs) => match tb.find? (fun t => decide (t.c = c)), fs.lookup name with
    | some t, none => @bnd _ _ (g s) ⟨fun as s => if (a :: (as ++ t.dv)).length = t.n then retX s (t.m (a :: (as ++ t.dv)) s.hp) else .stuck⟩
    | _, _ => .stuck
  | none => .stuck
@[simp] theorem methM_at {name : Str} {tb : List ME} {f : M AV} {g : M (List AV)} {s : SS} : methM name tb f g s = @bnd _ _ (f s) ⟨fun a s => methR name tb a g (clsOf s.hp a) s⟩ := Eq.trans rfl rfl
@[simp] theorem clsOf_ob {h : AH} {c : Str} {fs : List (Str × AV)} : clsOf h (.ob c fs) = some (c, fs) := Eq.trans rfl rfl
def clsH (x : Option AO) : Option (Str × List (Str × AV)) := match x with
  | some (.ins c fs) => some (c, fs)
  | _ => none
@[simp] theorem clsOf_ref {h : AH} {i : Nat} : clsOf h (.ref i) = clsH h[i]? := Eq.trans rfl rfl
@[simp] theorem clsH_ins {c : Str} {fs : List (Str × AV)} : clsH (some (.ins c fs)) = some (c, fs) := Eq.trans rfl rfl
def methQ (a : AV) (g : M (List AV)) (t : Option ME) (l : Option AV) (s : SS) : Res AV := match t, l with
  | some t, none => @bnd _ _ (g s) ⟨fun as s => if (a :: (as ++ t.dv)).length = t.n then retX s (t.m (a :: (as ++ t.dv)) s.hp) else .stuck⟩
  | _, _ => .stuck
@[simp] theorem methR_some {name : Str} {tb : List ME} {a : AV} {g : M (List AV)} {c : Str} {fs : List (Str × AV)} {s : SS} : methR name tb a g (some (c, fs)) s = methQ a g (tb.find? (fun t => decide (t.c = c))) (fs.lookup name) s := Eq.trans rfl rfl
@[simp] theorem methQ_ok {a : AV} {g : M (List AV)} {t : ME} {s : SS} : methQ a g (some t) none s = @bnd _ _ (g s) ⟨fun as s => if (a :: (as ++ t.dv)).length = t.n then retX s (t.m (a :: (as ++ t.dv)) s.hp) else .stuck⟩ := Eq.trans rfl rfl
/-! ## stores -/
def obS (x : Option (Option SV)) (hp : AH) : Option AO := match x with
  | some (some (.own o)) => some o
  | some (some (.val (.ref j))) => hp[j]?
  | _ => none
@[simp] theorem obP_ref {j : Nat} {s : SS} : obP (.av (.ref j)) s = s.hp[j]? := Eq.trans rfl rfl
@[simp] theorem obP_sl {i : Nat} {s : SS} : obP (.sl i) s = obS s.sl[i]? s.hp := Eq.trans rfl rfl
@[simp] theorem obS_own {o : AO} {hp : AH} : obS (some (some (.own o))) hp = some o := Eq.trans rfl rfl
@[simp] theorem obS_ref {j : Nat} {hp : AH} : obS (some (some (.val (.ref j)))) hp = hp[j]? := Eq.trans rfl rfl
def wrS (x : Option (Option SV)) (i : Nat) (o : AO) (s : SS) : SS := match x with
  | some (some (.own _)) => { s with sl := s.sl.set i (some (.own o)) }
  | some (some (.val (.ref j))) => { s with hp := s.hp.set j o }
  | _ => s
@[simp] theorem wrP_ref {j : Nat} {o : AO} {s : SS} : wrP (.av (.ref j)) o s = { s with hp := s.hp.set j o } := Eq.trans rfl rfl
@[simp] theorem wrP_sl {i : Nat} {o : AO} {s : SS} : wrP (.sl i) o s = wrS s.sl[i]? i o s := Eq.trans rfl rfl
@[simp] theorem wrS_own {i : Nat} {o o' : AO} {s : SS} : wrS (some (some (.own o'))) i o s = { s with sl := s.sl.set i (some (.own o)) } := Eq.trans rfl rfl
@[simp] theorem wrS_ref {i j : Nat} {o : AO} {s : SS} : wrS (some (some (.val (.ref j)))) i o s = { s with hp := s.hp.set j o } := Eq.trans rfl rfl
def putO (o : Option AO) (k : Option AV) (a : AV) : Option AO := match o, k with
  | some (.lst xs), some (.int k) => (ixN xs.length k).map fun j => .lst (xs.set j a)
  | some (.dic t kvs), some k => if (kk t k).isSome && decide (kvs.length < 16777216) then some (.dic t (dPut t kvs k a)) else none
  | _, _ => none
@[simp] theorem putO_lst {xs : List AV} {k : Int} {a : AV} : putO (some (.lst xs)) (some (.int k)) a = (ixN xs.length k).map fun j => .lst (xs.set j a) := Eq.trans rfl rfl
@[simp] theorem putO_dic {t : Bool} {kvs : List (AV × AV)} {k a : AV} : putO (some (.dic t kvs)) (some k) a = if (kk t k).isSome && decide (kvs.length < 16777216) then some (.dic t (dPut t kvs k a)) else none := Eq.trans rfl rfl
def wrR (p : PV) (o : Option AO) (s : SS) : Res Unit := match o with
  | some o => .ok () (wrP p o s)
  | none => .stuck
@[simp] theorem wrR_some {p : PV} {o : AO} {s : SS} : wrR p (some o) s = .ok () (wrP p o s) := Eq.trans rfl rfl
theorem putO_eq (p : PV) (o : Option AO) (k : Option AV) (a : AV) (s : SS) : (match o, k with
  | some (.lst xs), some (.int k) => match ixN xs.length k with
    | some j => Res.ok () (wrP p (.lst (xs.set j a)) s)
    | none => .stuck
  | some (.dic t kvs), some k => if (kk t k).isSome && decide (kvs.length < 16777216) then .ok () (wrP p (.dic t (dPut t kvs k a)) s) else .stuck
  | _, _ => .stuck) = wrR p (putO o k a) s := by
  unfold putO
  split
  · rename_i xs k; cases ixN xs.length k <;> rfl
  · split <;> rfl
  · rfl
@[simp] theorem putG_at {fo fi : M PV} {a : AV} {s : SS} : putG fo fi a s = @bnd _ _ (fo s) ⟨fun p s => @bnd _ _ (fi s) ⟨fun i s => wrR p (putO (obP p s) (plP i s) a) s⟩⟩ := by
  simp only [bnd_mk]
  show bindR (fo s) _ = bindR (fo s) _
  congr 1
  funext p s
  show bindR (fi s) _ = bindR (fi s) _
  congr 1
  funext i s
  exact putO_eq _ _ _ _ _
/-! ## ranges, slices, pairs -/
def rngO (as : List AV) : Option (List AV) := match as with
  | [.int j] => if decide (-(2 ^ 62) ≤ j) && decide (j < 2 ^ 62) then some (ixsR 0 j.toNat) else none
  | _ => none
theorem rngO_1 {j : Int} : rngO [.int j] = if decide (-(2 ^ 62) ≤ j) && decide (j < 2 ^ 62) then some (ixsR 0 j.toNat) else none := rfl
@[simp] theorem rng1_at {f : M (List AV)} {s : SS} : rng1 f s = @bnd _ _ (f s) ⟨fun as s => optR (rngO as) s⟩ := by
  simp only [bnd_mk]
  show bindR (f s) _ = bindR (f s) _
  congr 1
  funext as s
  show (match as with
    | [.int j] => if decide (-(2 ^ 62) ≤ j) && decide (j < 2 ^ 62) then Res.ok (ixsR 0 j.toNat) s else Res.stuck
    | _ => Res.stuck) = _
  unfold rngO
  split
  · split <;> rfl
  · rfl
def nats (i m : Nat) : List AV := (List.range' i m).map fun (j : Nat) => .int (j : Int)
theorem ixsR_nats (n : Nat) : ixsR 0 n = nats 0 n := by
  unfold ixsR nats
  rw [List.range_eq_range']
  apply List.map_congr_left
  intro j _
  simp
theorem nats_zero (i : Nat) : nats i 0 = [] := rfl
theorem nats_succ (i m : Nat) : nats i (m + 1) = .int (i : Int) :: nats (i + 1) m := by
  unfold nats
  rw [List.range'_succ, List.map_cons]
theorem nats_length (i m : Nat) : (nats i m).length = m := by simp [nats]
theorem rngO_int {j : Int} (h1 : 0 ≤ j) (h2 : j ≤ 1000000) : rngO [.int j] = some (nats 0 j.toNat) := by
  rw [rngO_1]
  have e1 : -(2 ^ 62) ≤ j := Int.le_trans (by decide) h1
  have e2 : j < 2 ^ 62 := Int.lt_of_le_of_lt h2 (by decide)
  rw [decide_eq_true e1, decide_eq_true e2]
  rw [ixsR_nats]
  rfl
theorem rngO_nat {n : Nat} (h : n ≤ 1000000) : rngO [.int (n : Int)] = some (nats 0 n) := by
  rw [rngO_int (by omega) (by omega)]
  rfl
def slO (c : Co) (x : Option AV) (l h : Option Int) : Option AV := match c with
  | .ob (.lst xs) => some (.vl (cutG xs l h))
  | .tup xs => if HT.sIx xs.length 0 l = 0 ∧ HT.sIx xs.length xs.length h = xs.length then x else some (.tup (cutG xs l h))
  | .str z => if z.length ≤ 16777216 then some (.str (cutS z l h)) else none
  | _ => none
@[simp] theorem slO_lst {xs : List AV} {x : Option AV} {l h : Option Int} : slO (.ob (.lst xs)) x l h = some (.vl (cutG xs l h)) := Eq.trans rfl rfl
@[simp] theorem slM_at {f : M PV} {l h : M (Option Int)} {s : SS} : slM f l h s = @bnd _ _ (f s) ⟨fun a s => @bnd _ _ (l s) ⟨fun l s => @bnd _ _ (h s) ⟨fun h s => optR (slO (coP a s) (avP a s) l h) s⟩⟩⟩ := by
  simp only [bnd_mk]
  show bindR (f s) _ = bindR (f s) _
  congr 1
  funext a s
  show bindR (l s) _ = bindR (l s) _
  congr 1
  funext l s
  show bindR (h s) _ = bindR (h s) _
  congr 1
  funext h s
  show (match coP a s with
    | .ob (.lst xs) => Res.ok (AV.vl (cutG xs l h)) s
    | .tup xs => if HT.sIx xs.length 0 l = 0 ∧ HT.sIx xs.length xs.length h = xs.length then (match avP a s with
      | some x => .ok x s
      | none => .stuck) else .ok (.tup (cutG xs l h)) s
    | .str z => if z.length ≤ 16777216 then .ok (.str (cutS z l h)) s else .stuck
    | _ => .stuck) = _
  cases coP a s with
  | ob o => cases o <;> rfl
  | tup xs =>
    simp only [slO]
    split
    · cases avP a s <;> rfl
    · rfl
  | str z => simp only [slO]; split <;> rfl
  | no => rfl
def parR (i j : Nat) (as : List AV) (s : SS) : Res Fl := match as with
  | [a, b] => .ok .nx { s with sl := (s.sl.set i (some (.val a))).set j (some (.val b)) }
  | _ => .stuck
@[simp] theorem parR_2 {i j : Nat} {a b : AV} {s : SS} : parR i j [a, b] s = .ok .nx { s with sl := (s.sl.set i (some (.val a))).set j (some (.val b)) } := Eq.trans rfl rfl
@[simp] theorem parM_at {i j : Nat} {f : M (List AV)} {s : SS} : parM i j f s = @bnd _ _ (f s) ⟨fun as s => parR i j as s⟩ := Eq.trans rfl rfl
def augR (i : Nat) (op : AV → AV → Option AV) (f : M AV) (x : Option (Option SV)) (s : SS) : Res Fl := match x with
  | some (some (.val a)) => @bnd _ _ (f s) ⟨fun b s => @bnd _ _ (optR (op a b) s) ⟨fun c s => .ok .nx { s with sl := s.sl.set i (some (.val c)) }⟩⟩
  | _ => .stuck
@[simp] theorem augR_val {i : Nat} {op : AV → AV → Option AV} {f : M AV} {a : AV} {s : SS} : augR i op f (some (some (.val a))) s = @bnd _ _ (f s) ⟨fun b s => @bnd _ _ (optR (op a b) s) ⟨fun c s => .ok .nx { s with sl := s.sl.set i (some (.val c)) }⟩⟩ := Eq.trans rfl rfl
@[simp] theorem augM_at {i : Nat} {op : AV → AV → Option AV} {f : M AV} {s : SS} : augM i op f s = augR i op f s.sl[i]? s := by
  show (match s.sl[i]? with
    | some (some (.val a)) => LM.bindM f (fun b s => match op a b with
      | some c => Res.ok Fl.nx { s with sl := s.sl.set i (some (.val c)) }
      | none => .stuck) s
    | _ => .stuck) = _
  cases s.sl[i]? with
  | none => rfl
  | some x =>
    cases x with
    | none => rfl
    | some sv =>
      cases sv with
      | own o => rfl
      | val a =>
        rw [augR_val, bnd_mk]
        show bindR (f s) _ = bindR (f s) _
        congr 1
        funext b s
        rw [bnd_mk]
        cases op a b <;> rfl
/-! ## values -/
@[simp] theorem addX_int {i j : Int} : addX (.int i) (.int j) = some (.int (i + j)) := Eq.trans rfl rfl
@[simp] theorem addX_vl {xs ys : List AV} : addX (.vl xs) (.vl ys) = if xs.length + ys.length ≤ 16777216 then some (.vl (xs ++ ys)) else none := by
  show (catL (.vl xs) (.vl ys)).map AO.frz = _
  unfold catL
  simp only
  split <;> rfl
@[simp] theorem addX_tup {xs ys : List AV} : addX (.tup xs) (.tup ys) = if xs.length + ys.length ≤ 16777216 then some (.tup (xs ++ ys)) else none := by
  show ((addT (.tup xs) (.tup ys)).or none) = _
  unfold addT
  simp only
  split <;> rfl
@[simp] theorem addX_str {xs ys : Str} : addX (.str xs) (.str ys) = if xs.length + ys.length ≤ 16777216 then some (.str (xs ++ ys)) else none := by
  show ((((addS (.str xs) (.str ys))).or none).or none) = _
  unfold addS
  simp only
  split <;> rfl
@[simp] theorem intOp_int {c : Int → Int → Bool} {g : Int → Int → Int} {i j : Int} : intOp c g (.int i) (.int j) = if c i j then some (.int (g i j)) else none := Eq.trans rfl rfl
@[simp] theorem negA_int {i : Int} : negA (.int i) = some (.int (-i)) := Eq.trans rfl rfl
@[simp] theorem itA_vl {xs : List AV} : itA (.vl xs) = some xs := Eq.trans rfl rfl
@[simp] theorem itA_cl {xs : List AV} : itA (.cl xs) = some xs := Eq.trans rfl rfl
@[simp] theorem itA_tup {xs : List AV} : itA (.tup xs) = some xs := Eq.trans rfl rfl
@[simp] theorem itA_ct {xs : List AV} : itA (.ct xs) = some xs := Eq.trans rfl rfl
@[simp] theorem frz_lst {xs : List AV} : (AO.lst xs).frz = .vl xs := Eq.trans rfl rfl
@[simp] theorem frz_dic {t : Bool} {xs : List (AV × AV)} : (AO.dic t xs).frz = .vd t xs := Eq.trans rfl rfl
@[simp] theorem frz_ins {c : Str} {fs : List (Str × AV)} : (AO.ins c fs).frz = .ob c fs := Eq.trans rfl rfl
def absO (x : Option AV) : Option AV := match x with
  | some (.int i) => some (.int (if i < 0 then -i else i))
  | _ => none
@[simp] theorem absO_int {i : Int} : absO (some (.int i)) = some (.int (if i < 0 then -i else i)) := Eq.trans rfl rfl
@[simp] theorem absA_at {s : SS} {a : PV} : absA s [a] = absO (avP a s) := Eq.trans rfl rfl
def intoO (x : Option AV) : Option AV := match x with
  | some (.int i) => some (.int i)
  | some (.bl k) => some (.int (if k then 1 else 0))
  | _ => none
@[simp] theorem intoO_int {i : Int} : intoO (some (.int i)) = some (.int i) := Eq.trans rfl rfl
@[simp] theorem intoO_bl {k : Bool} : intoO (some (.bl k)) = some (.int (if k then 1 else 0)) := Eq.trans rfl rfl
@[simp] theorem intA_at {s : SS} {a : PV} : intA s [a] = intoO (avP a s) := Eq.trans rfl rfl
def lenO (c : Co) : Option AV := match c with
  | .ob (.lst xs) => some (.int xs.length)
  | .tup xs => some (.int xs.length)
  | .ob (.dic _ kvs) => some (.int kvs.length)
  | .str x => if x.length ≤ 16777216 then some (.int x.length) else none
  | _ => none
@[simp] theorem lenA_at {s : SS} {a : PV} : lenA s [a] = lenO (coP a s) := Eq.trans rfl rfl
@[simp] theorem lenO_lst {xs : List AV} : lenO (.ob (.lst xs)) = some (.int xs.length) := Eq.trans rfl rfl
@[simp] theorem lenO_tup {xs : List AV} : lenO (.tup xs) = some (.int xs.length) := Eq.trans rfl rfl
@[simp] theorem lenO_dic {t : Bool} {xs : List (AV × AV)} : lenO (.ob (.dic t xs)) = some (.int xs.length) := Eq.trans rfl rfl
@[simp] theorem lenO_str {x : Str} : lenO (.str x) = if x.length ≤ 16777216 then some (.int x.length) else none := Eq.trans rfl rfl
def tupO (c : Co) (x : Option AV) : Option AV := match c with
  | .ob (.lst xs) => some (.tup xs)
  | .tup xs => x
  | _ => none
@[simp] theorem tupA_at {s : SS} {a : PV} : tupA s [a] = tupO (coP a s) (avP a s) := Eq.trans rfl rfl
@[simp] theorem tupO_lst {xs : List AV} {x : Option AV} : tupO (.ob (.lst xs)) x = some (.tup xs) := Eq.trans rfl rfl
@[simp] theorem tupO_tup {xs : List AV} {x : Option AV} : tupO (.tup xs) x = x := Eq.trans rfl rfl
def lisO (c : Co) : Option AO := match c with
  | .ob (.lst xs) => some (.lst xs)
  | .tup xs => some (.lst xs)
  | _ => none
@[simp] theorem lisA_at {s : SS} {a : PV} : lisA s [a] = lisO (coP a s) := Eq.trans rfl rfl
@[simp] theorem lisO_lst {xs : List AV} : lisO (.ob (.lst xs)) = some (.lst xs) := Eq.trans rfl rfl
@[simp] theorem lisO_tup {xs : List AV} : lisO (.tup xs) = some (.lst xs) := Eq.trans rfl rfl
end LM
namespace LM
open PySem L2
/-! ## comprehensions -/
def compR (old : List (Option SV)) (vs : List Nat) (r : Res (List AV)) : Res AO := match r with
  | .ok acc s' => .ok (.lst acc) { s' with sl := putBack old s'.sl vs }
  | _ => .stuck
@[simp] theorem compR_ok {old : List (Option SV)} {vs : List Nat} {acc : List AV} {s : SS} : compR old vs (.ok acc s) = .ok (.lst acc) { s with sl := putBack old s.sl vs } := Eq.trans rfl rfl
@[simp] theorem compM_at {vs : List Nat} {it : M (List AV)} {g : AV → M Unit} {c : M Bool} {e : M AV} {s : SS} : compM vs it g c e s = @bnd _ _ (it s) ⟨fun xs s => if ownAt s.sl vs = true then .stuck else compR s.sl vs (compL vs g c e xs [] s)⟩ := by
  rfl
theorem wipeL_idem (l : List (Option SV)) (vs : List Nat) : wipeL (wipeL l vs) vs = wipeL l vs := by
  apply List.ext_getElem?
  intro j
  have len : ∀ (l : List (Option SV)) (ws : List Nat), (wipeL l ws).length = l.length := by
    intro l ws
    induction ws with
    | nil => rfl
    | cons w ws ih => show ((wipeL l ws).set w none).length = _; rw [List.length_set, ih]
  have at_ : ∀ (l : List (Option SV)) (ws : List Nat) (j : Nat), (wipeL l ws)[j]? = if j ∈ ws then (l[j]?).map (fun _ => none) else l[j]? := by
    intro l ws j
    induction ws with
    | nil => simp [wipeL]
    | cons w ws ih =>
      show ((wipeL l ws).set w none)[j]? = _
      by_cases h : w = j
      · subst h
        by_cases hi : w < l.length
        · rw [List.getElem?_set_self (by rw [len]; exact hi)]
          simp [hi]
        · rw [List.getElem?_eq_none (by simpa [len] using hi), List.getElem?_eq_none (by simpa using hi)]
          simp
      · rw [List.getElem?_set_ne h, ih]
        have : (j ∈ w :: ws) ↔ j ∈ ws := by simp; intro e; exact absurd e.symm h
        simp only [this]
  rw [at_, at_]
  by_cases h : j ∈ vs
  · simp only [h, if_true]
    cases l[j]? <;> rfl
  · simp only [h, if_false]
/-- a map (and a sieve) that leaves the state -/
theorem compL_pure {vs : List Nat} {g : AV → M Unit} {c : M Bool} {e : M AV} {sl : List (Option SV)} {hp : AH} {f : AV → Option AV} : ∀ {xs acc : List AV}, acc.length + xs.length ≤ 16777216 →
    (∀ x ∈ xs, ∃ u s1 k s2, g x ⟨wipeL sl vs, hp⟩ = .ok u s1 ∧ c s1 = .ok k s2 ∧ (match f x with
      | some a => k = true ∧ ∃ s3, e s2 = .ok a s3 ∧ wipeS vs s3 = ⟨wipeL sl vs, hp⟩
      | none => k = false ∧ wipeS vs s2 = ⟨wipeL sl vs, hp⟩)) →
    ∀ s, wipeS vs s = ⟨wipeL sl vs, hp⟩ → compL vs g c e xs acc s = .ok (acc ++ xs.filterMap f) ⟨wipeL sl vs, hp⟩
  | [], acc, _, _, s, hs => by rw [compL_nil, hs]; simp
  | x :: xs, acc, hl, h, s, hs => by
    obtain ⟨u, s1, k, s2, h1, h2, h3⟩ := h x List.mem_cons_self
    rw [List.length_cons] at hl
    cases z : f x with
    | some a =>
      rw [z] at h3
      obtain ⟨rfl, s3, h4, h5⟩ := h3
      rw [compL_yes (by rw [hs]; exact h1) h2 h4 (by omega), compL_pure (by simp; omega) (fun y hy => h y (List.mem_cons_of_mem _ hy)) s3 h5]
      simp [z]
    | none =>
      rw [z] at h3
      obtain ⟨rfl, h5⟩ := h3
      rw [compL_no (by rw [hs]; exact h1) h2, compL_pure (by omega) (fun y hy => h y (List.mem_cons_of_mem _ hy)) s2 h5]
      simp [z]
/-- items made one by one, the heap changing under an invariant -/
theorem compL_inv {vs : List Nat} {g : AV → M Unit} {c : M Bool} {e : M AV} {sl : List (Option SV)} (I : AH → Prop) (P : AV → AV → Prop) : ∀ {xs acc : List AV}, acc.length + xs.length ≤ 16777216 →
    (∀ x ∈ xs, ∀ hp, I hp → ∃ u s1 s2 a s3 hp', g x ⟨wipeL sl vs, hp⟩ = .ok u s1 ∧ c s1 = .ok true s2 ∧ e s2 = .ok a s3 ∧ wipeS vs s3 = ⟨wipeL sl vs, hp'⟩ ∧ I hp' ∧ P x a) →
    ∀ s hp, wipeS vs s = ⟨wipeL sl vs, hp⟩ → I hp → ∃ as hp', compL vs g c e xs acc s = .ok (acc ++ as) ⟨wipeL sl vs, hp'⟩ ∧ I hp' ∧ as.length = xs.length ∧ ∀ (i : Nat) (x a : AV), xs[i]? = some x → as[i]? = some a → P x a
  | [], acc, _, _, s, hp, hs, hI => ⟨[], hp, by rw [compL_nil, hs]; simp, hI, rfl, fun i x a h => by simp at h⟩
  | x :: xs, acc, hl, h, s, hp, hs, hI => by
    obtain ⟨u, s1, s2, a, s3, hp', h1, h2, h3, h4, h5, h6⟩ := h x List.mem_cons_self hp hI
    rw [List.length_cons] at hl
    obtain ⟨as, hp2, k1, k2, k3, k4⟩ := compL_inv I P (acc := acc ++ [a]) (xs := xs) (by simp; omega) (fun y hy => h y (List.mem_cons_of_mem _ hy)) s3 hp' h4 h5
    refine ⟨a :: as, hp2, ?_, k2, by simp [k3], fun i y b e1 e2 => ?_⟩
    · rw [compL_yes (by rw [hs]; exact h1) h2 h3 (by omega), k1]
      simp
    · cases i with
      | zero => simp at e1 e2; subst e1 e2; exact h6
      | succ i => simp at e1 e2; exact k4 i y b e1 e2
end LM
namespace LM
open PySem L2
@[simp] theorem str_inj' {a b : String} : (Str.ofString a = Str.ofString b) ↔ a = b := str_inj
@[simp] theorem str_beq {a b : String} : (Str.ofString a == Str.ofString b) = decide (a = b) := by
  rw [Bool.eq_iff_iff]
  simp
@[simp] theorem look_nil {β : Type} {a : Str} : ([] : List (Str × β)).lookup a = none := Eq.trans rfl rfl
@[simp] theorem look_cons {β : Type} {a k : Str} {v : β} {r : List (Str × β)} : ((k, v) :: r).lookup a = if a = k then some v else r.lookup a := by
  rw [List.lookup_cons]
  by_cases h : a = k
  · subst h; simp
  · have : (a == k) = false := by simpa using h
    rw [this, if_neg h]
@[simp] theorem findM_cons {a : Str} {t : ME} {r : List ME} : (t :: r).find? (fun t => decide (t.c = a)) = if t.c = a then some t else r.find? (fun t => decide (t.c = a)) := by
  rw [List.find?_cons]
  by_cases h : t.c = a
  · simp [h]
  · simp [h]
/-! ## making -/
def mkX (s : SS) (r : Option (AO × AH)) : Res AO := match r with
  | some (o, h) => .ok o { s with hp := h }
  | none => .stuck
@[simp] theorem mkX_some {s : SS} {o : AO} {h : AH} : mkX s (some (o, h)) = .ok o { s with hp := h } := Eq.trans rfl rfl
@[simp] theorem mkM_at {n : Nat} {mi : MI} {dv : List AV} {g : M (List AV)} {s : SS} : mkM n mi dv g s = @bnd _ _ (g s) ⟨fun as s => if (as ++ dv).length + 1 = n then mkX s (mi (as ++ dv) s.hp) else .stuck⟩ := Eq.trans rfl rfl
def iniS (x : Option (Option SV)) (h : AH) : Option (AO × AH) := match x with
  | some (some (.own o)) => some (o, h)
  | _ => none
@[simp] theorem iniS_own {o : AO} {h : AH} : iniS (some (some (.own o))) h = some (o, h) := Eq.trans rfl rfl
def iniR (r : Res Fl) : Option (AO × AH) := match r with
  | .ok .nx s => iniS s.sl[0]? s.hp
  | _ => none
@[simp] theorem iniR_nx {s : SS} : iniR (.ok .nx s) = iniS s.sl[0]? s.hp := Eq.trans rfl rfl
@[simp] theorem initM_at {n : Nat} {c : Str} {m : M Fl} {as : List AV} {hp : AH} : initM n c m as hp = iniR (m ⟨some (.own (.ins c [])) :: slots0 (n - 1) as, hp⟩) := by
  unfold initM
  cases m ⟨some (.own (.ins c [])) :: slots0 (n - 1) as, hp⟩ with
  | ok a s => cases a <;> rfl
  | exn c s => rfl
  | stuck => rfl
def stR (cs : List Str) (f : Str) (a : AV) (p : PV) (o : Option AO) (s : SS) : Res Fl := match o with
  | some (.ins c fs) => if decide (c ∈ cs) && decide (fs.length < 1000) then .ok .nx (wrP p (.ins c (putFA f a fs)) s) else .stuck
  | _ => .stuck
@[simp] theorem stR_ins {cs : List Str} {f c : Str} {a : AV} {p : PV} {fs : List (Str × AV)} {s : SS} : stR cs f a p (some (.ins c fs)) s = if decide (c ∈ cs) && decide (fs.length < 1000) then .ok .nx (wrP p (.ins c (putFA f a fs)) s) else .stuck := Eq.trans rfl rfl
@[simp] theorem stM_at {cs : List Str} {f : Str} {fo : M PV} {fe : M AV} {s : SS} : LM.stM cs f fo fe s = @bnd _ _ (fe s) ⟨fun a s => @bnd _ _ (fo s) ⟨fun p s => stR cs f a p (obP p s) s⟩⟩ := Eq.trans rfl rfl
@[simp] theorem putFA_nil {f : Str} {a : AV} : putFA f a [] = [(f, a)] := Eq.trans rfl rfl
@[simp] theorem putFA_cons {f g : Str} {a b : AV} {r : List (Str × AV)} : putFA f a ((g, b) :: r) = if g = f then (g, a) :: r else (g, b) :: putFA f a r := Eq.trans rfl rfl
end LM
namespace LM
open PySem L2
/-! ## truth, in, is -/
def truO (c : Co) (a : Option AV) : Option Bool := match c with
  | .ob (.lst xs) => some (!xs.isEmpty)
  | .tup xs => some (!xs.isEmpty)
  | .ob (.dic _ _) => none
  | .str x => if x.length ≤ 16777216 then some (x.length != 0) else none
  | _ => match a with
    | some .non => some false
    | some (.bl b) => some b
    | some (.int i) => some (i != 0)
    | _ => none
@[simp] theorem truP_at {p : PV} {s : SS} : truP p s = truO (coP p s) (avP p s) := by
  unfold truP truO
  cases coP p s with
  | ob o => cases o <;> rfl
  | tup xs => rfl
  | str x => rfl
  | no => rfl
@[simp] theorem truO_lst {xs : List AV} {a : Option AV} : truO (.ob (.lst xs)) a = some (!xs.isEmpty) := Eq.trans rfl rfl
@[simp] theorem truO_tup {xs : List AV} {a : Option AV} : truO (.tup xs) a = some (!xs.isEmpty) := Eq.trans rfl rfl
@[simp] theorem truO_str {x : Str} {a : Option AV} : truO (.str x) a = if x.length ≤ 16777216 then some (x.length != 0) else none := Eq.trans rfl rfl
@[simp] theorem truO_non : truO .no (some .non) = some false := Eq.trans rfl rfl
@[simp] theorem truO_bl {b : Bool} : truO .no (some (.bl b)) = some b := Eq.trans rfl rfl
@[simp] theorem truO_int {i : Int} : truO .no (some (.int i)) = some (i != 0) := Eq.trans rfl rfl
def inO (a : Option AV) (c : Co) : Option Bool := match a, c with
  | some k, .ob (.dic t kvs) => if (kk t k).isSome then some (dGet t kvs k).isSome else none
  | some x, .ob (.lst xs) => if okA 60 x && okA 60 (.vl xs) then some (inL x xs) else none
  | some x, .tup xs => if okA 60 x && okA 60 (.tup xs) then some (inL x xs) else none
  | some (.str i), .str j => some (!(Builtin.Str.occurrences j i 0 j.length 1).isEmpty)
  | _, _ => none
theorem inC_eq {neg : Bool} {a : Option AV} {c : Co} : (((match a, c with
    | some k, .ob (.dic t kvs) => if (kk t k).isSome then some (dGet t kvs k).isSome else none
    | some x, .ob (.lst xs) => if okA 60 x && okA 60 (.vl xs) then some (inL x xs) else none
    | some x, .tup xs => if okA 60 x && okA 60 (.tup xs) then some (inL x xs) else none
    | _, _ => none : Option Bool).map fun k => ng neg k).or ((match a, c with
    | some (.str i), .str j => some (!(Builtin.Str.occurrences j i 0 j.length 1).isEmpty)
    | _, _ => none : Option Bool).map fun k => ng neg k)) = (inO a c).map (ng neg) := by
  cases a with
  | none => rfl
  | some a =>
    cases c with
    | ob o =>
      cases o with
      | lst xs => cases a <;> simp only [inO] <;> split <;> rfl
      | dic t xs => cases a <;> simp only [inO] <;> split <;> rfl
      | ins c xs => cases a <;> rfl
      | lck t xs => cases a <;> rfl
    | tup xs => cases a <;> simp only [inO] <;> split <;> rfl
    | str x => cases a <;> rfl
    | no => cases a <;> rfl
theorem map_ngf {o : Option Bool} : o.map (ng false) = o := by cases o <;> rfl
theorem map_ngt {o : Option Bool} : o.map (ng true) = o.map (!·) := by cases o <;> rfl
@[simp] theorem inC_at {s : SS} {a b : PV} : inC s a b = inO (plP a s) (coP b s) := by
  rw [← map_ngf (o := inO _ _)]
  exact inC_eq
@[simp] theorem ninC_at {s : SS} {a b : PV} : ninC s a b = (inO (plP a s) (coP b s)).map (!·) := by
  rw [← map_ngt (o := inO _ _)]
  exact inC_eq
@[simp] theorem inO_dic {k : AV} {t : Bool} {kvs : List (AV × AV)} : inO (some k) (.ob (.dic t kvs)) = if (kk t k).isSome then some (dGet t kvs k).isSome else none := by cases k <;> rfl
@[simp] theorem inO_lst {x : AV} {xs : List AV} : inO (some x) (.ob (.lst xs)) = if okA 60 x && okA 60 (.vl xs) then some (inL x xs) else none := by cases x <;> rfl
@[simp] theorem inO_tup {x : AV} {xs : List AV} : inO (some x) (.tup xs) = if okA 60 x && okA 60 (.tup xs) then some (inL x xs) else none := by cases x <;> rfl
@[simp] theorem inO_str {x z : Str} : inO (some (.str x)) (.str z) = some (!(Builtin.Str.occurrences z x 0 z.length 1).isEmpty) := Eq.trans rfl rfl
def nonO (a : Option AV) (c : Co) : Option Bool := match a with
  | some a => some (nonV a)
  | none => match c with
    | .ob _ => some false
    | _ => none
@[simp] theorem nonP_at {p : PV} {s : SS} : nonP p s = nonO (avP p s) (coP p s) := Eq.trans rfl rfl
@[simp] theorem nonO_some {a : AV} {c : Co} : nonO (some a) c = some (nonV a) := Eq.trans rfl rfl
@[simp] theorem nonO_none {o : AO} : nonO none (.ob o) = some false := Eq.trans rfl rfl
@[simp] theorem nonV_non : nonV .non = true := Eq.trans rfl rfl
@[simp] theorem nonV_ref {i : Nat} : nonV (.ref i) = false := Eq.trans rfl rfl
@[simp] theorem nonV_int {i : Int} : nonV (.int i) = false := Eq.trans rfl rfl
@[simp] theorem nonV_str {i : Str} : nonV (.str i) = false := Eq.trans rfl rfl
@[simp] theorem nonV_bl {i : Bool} : nonV (.bl i) = false := Eq.trans rfl rfl
@[simp] theorem nonV_tup {i : List AV} : nonV (.tup i) = false := Eq.trans rfl rfl
@[simp] theorem nonV_vl {i : List AV} : nonV (.vl i) = false := Eq.trans rfl rfl
@[simp] theorem nonV_vd {t : Bool} {i : List (AV × AV)} : nonV (.vd t i) = false := Eq.trans rfl rfl
@[simp] theorem nonV_ob {c : Str} {i : List (Str × AV)} : nonV (.ob c i) = false := Eq.trans rfl rfl
def isNO (b : Option AV) (r : Option Bool) : Option Bool := match b with
  | some .non => r
  | _ => none
@[simp] theorem isNC_at {s : SS} {a b : PV} : isNC s a b = isNO (avP b s) (nonP a s) := by
  unfold isNC isNO
  cases avP b s with
  | none => rfl
  | some x => cases x <;> rfl
@[simp] theorem isNO_non {r : Option Bool} : isNO (some .non) r = r := Eq.trans rfl rfl
theorem any_congr_mem {α : Type} {f g : α → Bool} : ∀ {l : List α}, (∀ x ∈ l, f x = g x) → l.any f = l.any g
  | [], _ => rfl
  | x :: l, h => by
    rw [List.any_cons, List.any_cons, h x List.mem_cons_self, any_congr_mem fun y hy => h y (List.mem_cons_of_mem _ hy)]
theorem all_congr_mem {α : Type} {f g : α → Bool} : ∀ {l : List α}, (∀ x ∈ l, f x = g x) → l.all f = l.all g
  | [], _ => rfl
  | x :: l, h => by
    rw [List.all_cons, List.all_cons, h x List.mem_cons_self, all_congr_mem fun y hy => h y (List.mem_cons_of_mem _ hy)]
end LM
namespace LM
open PySem L2
theorem compL_map {τ : Type} {enc : τ → AV} {vs : List Nat} {g : AV → M Unit} {c : M Bool} {e : M AV} {sl : List (Option SV)} {hp : AH} (f : τ → AV) : ∀ {ts : List τ} {acc : List AV}, acc.length + ts.length ≤ 16777216 →
    (∀ t ∈ ts, ∃ u s1 s2 s3, g (enc t) ⟨wipeL sl vs, hp⟩ = .ok u s1 ∧ c s1 = .ok true s2 ∧ e s2 = .ok (f t) s3 ∧ wipeS vs s3 = ⟨wipeL sl vs, hp⟩) →
    ∀ s, wipeS vs s = ⟨wipeL sl vs, hp⟩ → compL vs g c e (ts.map enc) acc s = .ok (acc ++ ts.map f) ⟨wipeL sl vs, hp⟩
  | [], acc, _, _, s, hs => by rw [List.map_nil, compL_nil, hs]; simp
  | t :: ts, acc, hl, h, s, hs => by
    obtain ⟨u, s1, s2, s3, h1, h2, h3, h4⟩ := h t List.mem_cons_self
    rw [List.length_cons] at hl
    rw [List.map_cons, compL_yes (by rw [hs]; exact h1) h2 h3 (by omega), compL_map f (by simp; omega) (fun y hy => h y (List.mem_cons_of_mem _ hy)) s3 h4]
    simp
theorem compL_sieve {τ : Type} {enc : τ → AV} {vs : List Nat} {g : AV → M Unit} {c : M Bool} {e : M AV} {sl : List (Option SV)} {hp : AH} (k : τ → Bool) (f : τ → AV) : ∀ {ts : List τ} {acc : List AV}, acc.length + ts.length ≤ 16777216 →
    (∀ t ∈ ts, ∃ u s1 s2, g (enc t) ⟨wipeL sl vs, hp⟩ = .ok u s1 ∧ c s1 = .ok (k t) s2 ∧ (k t = false → wipeS vs s2 = ⟨wipeL sl vs, hp⟩) ∧ (k t = true → ∃ s3, e s2 = .ok (f t) s3 ∧ wipeS vs s3 = ⟨wipeL sl vs, hp⟩)) →
    ∀ s, wipeS vs s = ⟨wipeL sl vs, hp⟩ → compL vs g c e (ts.map enc) acc s = .ok (acc ++ (ts.filter k).map f) ⟨wipeL sl vs, hp⟩
  | [], acc, _, _, s, hs => by rw [List.map_nil, compL_nil, hs]; simp
  | t :: ts, acc, hl, h, s, hs => by
    obtain ⟨u, s1, s2, h1, h2, h3, h4⟩ := h t List.mem_cons_self
    rw [List.length_cons] at hl
    cases z : k t with
    | true =>
      obtain ⟨s3, h5, h6⟩ := h4 z
      rw [List.map_cons, compL_yes (by rw [hs]; exact h1) (by rw [h2, z]) h5 (by omega), compL_sieve k f (by simp; omega) (fun y hy => h y (List.mem_cons_of_mem _ hy)) s3 h6]
      simp [z]
    | false =>
      rw [List.map_cons, compL_no (by rw [hs]; exact h1) (by rw [h2, z]), compL_sieve k f (by omega) (fun y hy => h y (List.mem_cons_of_mem _ hy)) s2 (h3 z)]
      simp [z]
theorem compL_draw {τ : Type} {enc : τ → AV} {vs : List Nat} {g : AV → M Unit} {c : M Bool} {e : M AV} {sl : List (Option SV)} (I : AH → Prop) : ∀ {xs acc : List AV}, acc.length + xs.length ≤ 16777216 →
    (∀ x ∈ xs, ∀ hp, I hp → ∃ u s1 s2 t s3 hp', g x ⟨wipeL sl vs, hp⟩ = .ok u s1 ∧ c s1 = .ok true s2 ∧ e s2 = .ok (enc t) s3 ∧ wipeS vs s3 = ⟨wipeL sl vs, hp'⟩ ∧ I hp') →
    ∀ s hp, wipeS vs s = ⟨wipeL sl vs, hp⟩ → I hp → ∃ (ts : List τ) (hp' : AH), compL vs g c e xs acc s = .ok (acc ++ ts.map enc) ⟨wipeL sl vs, hp'⟩ ∧ I hp' ∧ ts.length = xs.length
  | [], acc, _, _, s, hp, hs, hI => ⟨[], hp, by rw [compL_nil, hs]; simp, hI, rfl⟩
  | x :: xs, acc, hl, h, s, hp, hs, hI => by
    obtain ⟨u, s1, s2, t, s3, hp', h1, h2, h3, h4, h5⟩ := h x List.mem_cons_self hp hI
    rw [List.length_cons] at hl
    obtain ⟨ts, hp2, k1, k2, k3⟩ := compL_draw (enc := enc) I (acc := acc ++ [enc t]) (xs := xs) (by simp; omega) (fun y hy => h y (List.mem_cons_of_mem _ hy)) s3 hp' h4 h5
    refine ⟨t :: ts, hp2, ?_, k2, by simp [k3]⟩
    rw [compL_yes (by rw [hs]; exact h1) h2 h3 (by omega), k1]
    simp
/-- targets of two -/
def tupR (n : Nat) (gs : List (AV → M Unit)) (c : Co) (s : SS) : Res Unit := match c with
  | .tup xs => if xs.length = n then unpM gs xs s else .stuck
  | _ => .stuck
@[simp] theorem tupG_at {n : Nat} {gs : List (AV → M Unit)} {a : AV} {s : SS} : tupG n gs a s = tupR n gs (coA s.hp a) s := Eq.trans rfl rfl
@[simp] theorem tupR_tup {n : Nat} {gs : List (AV → M Unit)} {xs : List AV} {s : SS} : tupR n gs (.tup xs) s = if xs.length = n then unpM gs xs s else .stuck := Eq.trans rfl rfl
@[simp] theorem unpM_nil {s : SS} : unpM [] [] s = .ok () s := Eq.trans rfl rfl
@[simp] theorem unpM_cons {g : AV → M Unit} {gs : List (AV → M Unit)} {x : AV} {xs : List AV} {s : SS} : unpM (g :: gs) (x :: xs) s = @bnd _ _ (g x s) ⟨fun _ => unpM gs xs⟩ := Eq.trans rfl rfl
def appR (p : PV) (a : AV) (o : Option AO) (s : SS) : Res AV := match o with
  | some (.lst xs) => if xs.length < 16777216 then .ok .non (wrP p (.lst (xs ++ [a])) s) else .stuck
  | _ => .stuck
@[simp] theorem appR_lst {p : PV} {a : AV} {xs : List AV} {s : SS} : appR p a (some (.lst xs)) s = if xs.length < 16777216 then .ok .non (wrP p (.lst (xs ++ [a])) s) else .stuck := Eq.trans rfl rfl
@[simp] theorem appM_at {f : M PV} {g : M AV} {s : SS} : appM f g s = @bnd _ _ (f s) ⟨fun p s => @bnd _ _ (g s) ⟨fun a s => appR p a (obP p s) s⟩⟩ := Eq.trans rfl rfl
def isLR (c : Co) (p : PV) (s : SS) : Res PV := match c with
  | .ob (.lst _) => .ok p s
  | _ => .stuck
@[simp] theorem isLR_lst {xs : List AV} {p : PV} {s : SS} : isLR (.ob (.lst xs)) p s = .ok p s := Eq.trans rfl rfl
@[simp] theorem isLst_at {f : M PV} {s : SS} : isLst f s = @bnd _ _ (f s) ⟨fun p s => isLR (coP p s) p s⟩ := Eq.trans rfl rfl
@[simp] theorem prM_at {f g : M AV} {r : M (List (AV × AV))} {s : SS} : prM f g r s = @bnd _ _ (f s) ⟨fun a s => @bnd _ _ (g s) ⟨fun b s => @bnd _ _ (r s) ⟨fun ps s => .ok ((a, b) :: ps) s⟩⟩⟩ := Eq.trans rfl rfl
@[simp] theorem disM_at {f : M (List (AV × AV))} {s : SS} : disM f s = @bnd _ _ (f s) ⟨fun ps s => if (ps.all (fun p => (kOf p.1).isSome) && decide (ps.length ≤ 15)) = true then .ok (.dic false (dMrg [] ps)) s else .stuck⟩ := Eq.trans rfl rfl
@[simp] theorem kOf_int {i : Int} : kOf (.int i) = some (.inl i) := Eq.trans rfl rfl
@[simp] theorem kOf_str {i : Str} : kOf (.str i) = some (.inr i) := Eq.trans rfl rfl
@[simp] theorem kk_f {a : AV} : kk false a = (kOf a).map .inl := Eq.trans rfl rfl
@[simp] theorem kk_t {a : AV} : kk true a = (tkOf a).map .inr := Eq.trans rfl rfl
end LM
namespace LM
open PySem L2
@[simp] theorem eqX_at {s : SS} {a b : PV} : eqX s a b = (eqO (plP a s) (plP b s)).or (lenEq (plP a s) (plP b s)) := Eq.trans rfl rfl
@[simp] theorem lenEq_vl {xs ys : List AV} : lenEq (some (.vl xs)) (some (.vl ys)) = if xs.length ≠ ys.length then some false else if xs.length = 0 then some true else none := Eq.trans rfl rfl
end LM


namespace LM
open PyProof.Rows hiding St frameOf passOn
open PySem PySem.Spec L2
variable [TabNames]
/-! ## what is not read: stuck -/
def stkM {α : Type} : M α := fun _ => .stuck
section
variable {X : Cx} {pn : Bool}
theorem pm_stk {e : Expr} : PEm X e stkM := fun W tk => ⟨fun pins s σ H Q I h => by obtain ⟨U, F, ρ, S, R, p⟩ := h; exact p.elim⟩
theorem pt_stk {e : Expr} : PTm X e stkM := fun W tk => ⟨fun pins s σ H Q I h => by obtain ⟨U, F, ρ, S, R, p⟩ := h; exact p.elim⟩
theorem psm_stk {st : Stmt} : PSm X pn st stkM := fun W tk => ⟨fun pins s σ H D I h => by obtain ⟨U, F, ρ, S, R, p⟩ := h; exact p.elim⟩
theorem pssm_stk {st : List Stmt} : PSsm X pn st stkM := fun W tk => ⟨fun pins s σ H D I h => by obtain ⟨U, F, ρ, S, R, p⟩ := h; exact p.elim⟩
end
@[simp] theorem stkM_at {α : Type} {s : SS} : (stkM : M α) s = .stuck := Eq.trans rfl rfl
/-! ## objects left behind -/
mutual
def below (n : Nat) : AV → Bool
  | .ref i => decide (i < n)
  | .tup xs => belowL n xs
  | .ct xs => belowL n xs
  | .vl xs => belowL n xs
  | .cl xs => belowL n xs
  | .vd _ kvs => belowK n kvs
  | .ob _ fs => belowF n fs
  | _ => true
def belowL (n : Nat) : List AV → Bool
  | [] => true
  | x :: xs => below n x && belowL n xs
def belowK (n : Nat) : List (AV × AV) → Bool
  | [] => true
  | (_, x) :: r => below n x && belowK n r
def belowF (n : Nat) : List (Str × AV) → Bool
  | [] => true
  | (_, x) :: r => below n x && belowF n r
end
def belowO (n : Nat) : AO → Bool
  | .lst xs => belowL n xs
  | .dic _ kvs => belowK n kvs
  | .ins _ fs => belowF n fs
  | .lck _ kvs => belowK n kvs
def keepS (n : Nat) : Option SV → Option SV
  | some (.val a) => if below n a then some (.val a) else none
  | some (.own o) => if belowO n o then some (.own o) else none
  | none => none
section
variable {K : PySem.W.Frag} {U F H : Hp} {ρ : List Addr} {S : SS} {σ : St} {n : Nat}
mutual
theorem Emb.take : ∀ {a : AV} {v : V}, below n a = true → Emb K F ρ a v → Emb K F (ρ.take n) a v
  | .non, _, _, h => by simpa only [Emb] using h
  | .bl _, _, _, h => by simpa only [Emb] using h
  | .int _, _, _, h => by simpa only [Emb] using h
  | .str _, _, _, h => by simpa only [Emb] using h
  | .tup xs, v, b, h => by
    simp only [below] at b
    simp only [Emb] at h ⊢
    obtain ⟨p, vs, e, h1, h2⟩ := h
    exact ⟨p, vs, e, h1, EmbL.takeR b h2⟩
  | .ct xs, v, b, h => by
    simp only [below] at b
    simp only [Emb] at h ⊢
    obtain ⟨p, vs, e, h1, h2⟩ := h
    exact ⟨p, vs, e, h1, EmbL.takeR b h2⟩
  | .vl xs, v, b, h => by
    simp only [below] at b
    simp only [Emb] at h ⊢
    obtain ⟨p, vs, e, h1, h2⟩ := h
    exact ⟨p, vs, e, h1, EmbL.takeR b h2⟩
  | .cl xs, v, b, h => by
    simp only [below] at b
    simp only [Emb] at h ⊢
    obtain ⟨p, vs, e, h1, h2⟩ := h
    exact ⟨p, vs, e, h1, EmbL.takeR b h2⟩
  | .vd t kvs, v, b, h => by
    simp only [below] at b
    simp only [Emb] at h ⊢
    obtain ⟨p, e, ⟨e1, kv, h1, h2⟩ | ⟨e1, kv, h1, h2⟩⟩ := h
    · exact ⟨p, e, .inl ⟨e1, kv, h1, EmbK.takeR b h2⟩⟩
    · exact ⟨p, e, .inr ⟨e1, kv, h1, EmbT.takeR b h2⟩⟩
  | .ob c fs, v, b, h => by
    simp only [below] at b
    simp only [Emb] at h ⊢
    obtain ⟨p, dx, fs', e, h1, h2⟩ := h
    exact ⟨p, dx, fs', e, h1, EmbF.takeR b h2⟩
  | .ref i, v, b, h => by
    simp only [below, decide_eq_true_eq] at b
    simp only [Emb] at h ⊢
    obtain ⟨p, e, h1⟩ := h
    exact ⟨p, e, by rw [List.getElem?_take_of_lt b]; exact h1⟩
theorem EmbL.takeR : ∀ {a : List AV} {v : List V}, belowL n a = true → EmbL K F ρ a v → EmbL K F (ρ.take n) a v
  | [], _, _, h => by simpa only [EmbL] using h
  | x :: xs, _, b, h => by
    simp only [belowL, Bool.and_eq_true] at b
    simp only [EmbL] at h ⊢
    obtain ⟨v, r, e, h1, h2⟩ := h
    exact ⟨v, r, e, Emb.take b.1 h1, EmbL.takeR b.2 h2⟩
theorem EmbK.takeR : ∀ {a : List (AV × AV)} {v : List (Key × V)}, belowK n a = true → EmbK K F ρ a v → EmbK K F (ρ.take n) a v
  | [], _, _, h => by simpa only [EmbK] using h
  | (k, x) :: xs, _, b, h => by
    simp only [belowK, Bool.and_eq_true] at b
    simp only [EmbK] at h ⊢
    obtain ⟨k', v, r, e, e2, h1, h2⟩ := h
    exact ⟨k', v, r, e, e2, Emb.take b.1 h1, EmbK.takeR b.2 h2⟩
theorem EmbT.takeR : ∀ {a : List (AV × AV)} {v : List (List Key × V)}, belowK n a = true → EmbT K F ρ a v → EmbT K F (ρ.take n) a v
  | [], _, _, h => by simpa only [EmbT] using h
  | (k, x) :: xs, _, b, h => by
    simp only [belowK, Bool.and_eq_true] at b
    simp only [EmbT] at h ⊢
    obtain ⟨k', v, r, e, e2, h1, h2⟩ := h
    exact ⟨k', v, r, e, e2, Emb.take b.1 h1, EmbT.takeR b.2 h2⟩
theorem EmbF.takeR : ∀ {a : List (Str × AV)} {v : List (Str × V)}, belowF n a = true → EmbF K F ρ a v → EmbF K F (ρ.take n) a v
  | [], _, _, h => by simpa only [EmbF] using h
  | (k, x) :: xs, _, b, h => by
    simp only [belowF, Bool.and_eq_true] at b
    simp only [EmbF] at h ⊢
    obtain ⟨v, r, e, h1, h2⟩ := h
    exact ⟨v, r, e, Emb.take b.1 h1, EmbF.takeR b.2 h2⟩
end
theorem EmbO.takeR {p : Addr} {o : AO} (hm : p ∈ ρ → p ∈ ρ.take n) (b : belowO n o = true) (h : EmbO K F ρ H p o) : EmbO K F (ρ.take n) H p o := by
  cases o with
  | lst xs => obtain ⟨vs, h1, h2⟩ := h; exact ⟨vs, h1, h2.takeR b⟩
  | dic t kvs =>
    rcases h with ⟨e, kv, h1, h2⟩ | ⟨e, kv, h1, h2⟩
    · exact .inl ⟨e, kv, h1, h2.takeR b⟩
    · exact .inr ⟨e, kv, h1, h2.takeR b⟩
  | ins c fs => obtain ⟨dx, fs', h1, h2⟩ := h; exact ⟨dx, fs', h1, h2.takeR b⟩
  | lck t kvs =>
    rcases h with ⟨h0, ⟨e, ob, kv, h1, h2⟩ | ⟨e, ob, kv, h1, h2⟩⟩
    · exact ⟨hm h0, .inl ⟨e, ob, kv, h1, h2.takeR b⟩⟩
    · exact ⟨hm h0, .inr ⟨e, ob, kv, h1, h2.takeR b⟩⟩
/-- the objects from n on forgotten; the slots that hold them, too -/
def gcS (n : Nat) (s : SS) : SS := ⟨s.sl.map (keepS n), s.hp.take n⟩
theorem keep_get {l : List (Option SV)} {i : Nat} {x : SV} (h : (l.map (keepS n))[i]? = some (some x)) : l[i]? = some (some x) ∧ (match x with | .val a => below n a = true | .own o => belowO n o = true) := by
  rw [List.getElem?_map] at h
  cases e : l[i]? with
  | none => rw [e] at h; cases h
  | some o =>
    rw [e] at h
    cases o with
    | none => cases h
    | some sv =>
      cases sv with
      | val a =>
        simp only [Option.map_some, keepS] at h
        split at h
        · cases h; exact ⟨rfl, by assumption⟩
        · cases h
      | own o =>
        simp only [Option.map_some, keepS] at h
        split at h
        · cases h; exact ⟨rfl, by assumption⟩
        · cases h
theorem Rep.gc (R : Rep K U F ρ S σ H) (hn : ((S.hp.take n).all (belowO n)) = true) : Rep K U F (ρ.take n) (gcS n S) σ H := by
  refine ⟨by unfold gcS; simp [R.len], R.fro, R.unt, by unfold gcS; simp [R.rln], R.rnd.sublist (List.take_sublist _ _), fun p hp => R.rF p (List.mem_of_mem_take hp), R.FU, fun i o p e1 e2 => ?_, fun i a e => ?_, fun i o e => ?_, R.tab⟩
  · have e1 : (S.hp.take n)[i]? = some o := e1
    have hi : i < n := by
      have := (List.getElem?_eq_some_iff.mp e1).1
      rw [List.length_take] at this
      omega
    have hb := List.all_eq_true.mp hn o (List.mem_of_getElem? e1)
    have hm := List.mem_of_getElem? e2
    rw [List.getElem?_take_of_lt hi] at e1 e2
    exact (R.hp i o p e1 e2).takeR (fun _ => hm) hb
  · obtain ⟨e1, e2⟩ := keep_get e
    obtain ⟨v, h1, h2⟩ := R.val i a e1
    exact ⟨v, h1, Emb.take e2 h2⟩
  · obtain ⟨e1, e2⟩ := keep_get e
    obtain ⟨p, h1, h2, h3, h4, h5, h6⟩ := R.own i o e1
    exact ⟨p, h1, h2.takeR (fun z => absurd z h5) e2, h3, h4, fun h => h5 (List.mem_of_mem_take h), fun j o' e' z => h6 j o' (keep_get e').1 z⟩
theorem take_pre {ρ' : List Addr} (h : ρ <+: ρ') : ρ <+: ρ'.take ρ.length := by
  obtain ⟨t, rfl⟩ := h
  rw [List.take_left]
  exact List.prefix_refl _
end
/-- behind a piece of code, its own new objects are forgotten -/
def gcR {α : Type} (n : Nat) (ok : α → Bool) (r : Res α) : Res α := match r with
  | .ok a s => if (s.hp.take n).all (belowO n) && ok a then .ok a (gcS n s) else .stuck
  | .exn c s => if (s.hp.take n).all (belowO n) then .exn c (gcS n s) else .stuck
  | .stuck => .stuck
def okF (n : Nat) : Fl → Bool
  | .rt v => below n v
  | _ => true
def gcM (m : M Fl) : M Fl := fun s => gcR s.hp.length (okF s.hp.length) (m s)
def gcE (m : M AV) : M AV := fun s => gcR s.hp.length (below s.hp.length) (m s)
def gcT (m : M Bool) : M Bool := fun s => gcR s.hp.length (fun _ => true) (m s)
section
variable {X : Cx} {pn : Bool}
theorem gc_post {K : PySem.W.Frag} {U F H : Hp} {ρ : List Addr} {S : SS} {σ : St} {D : Ends} {W : WX} {r : Res Fl} (R : Rep K U F ρ S σ H) (h : SPost K U F ρ σ pn D W (gcR S.hp.length (okF S.hp.length) r)) : SPost K U F ρ σ pn D W r := by
  rw [← R.rln] at h
  cases r with
  | stuck => exact h
  | exn c s =>
    simp only [gcR] at h
    split at h
    · rename_i hb
      exact fun F' ρ' σ' H' sm pr R' => h F' _ σ' H' sm (take_pre pr) (R'.gc hb)
    · exact h.elim
  | ok a s =>
    simp only [gcR] at h
    split at h
    · rename_i hb
      simp only [Bool.and_eq_true] at hb
      cases a with
      | nx => exact fun F' ρ' σ' H' sm pr R' e => h F' _ σ' H' sm (take_pre pr) (R'.gc hb.1) e
      | bk => exact fun F' ρ' σ' H' sm pr R' e => h F' _ σ' H' sm (take_pre pr) (R'.gc hb.1) e
      | ct => exact fun F' ρ' σ' H' sm pr R' e => h F' _ σ' H' sm (take_pre pr) (R'.gc hb.1) e
      | rt v => exact fun F' ρ' σ' H' u sm pr R' e => h F' _ σ' H' u sm (take_pre pr) (R'.gc hb.1) (Emb.take hb.2 e)
    · exact h.elim
theorem pssm_gc {b : List Stmt} {m : M Fl} (h : PSsm X pn b m) : PSsm X pn b (gcM m) := fun W tk =>
  PSs.weak (h W tk) fun σ H D ⟨U, F, ρ, S, R, p⟩ => ⟨U, F, ρ, S, R, gc_post R p⟩
theorem psm_gc {b : Stmt} {m : M Fl} (h : PSm X pn b m) : PSm X pn b (gcM m) := fun W tk =>
  PS.weak (h W tk) fun σ H D ⟨U, F, ρ, S, R, p⟩ => ⟨U, F, ρ, S, R, gc_post R p⟩
theorem pm_gc {e : Expr} {m : M AV} (h : PEm X e m) : PEm X e (gcE m) := fun W tk =>
  PE.weak (h W tk) fun σ H Q ⟨U, F, ρ, S, R, p⟩ => ⟨U, F, ρ, S, R, by
    have p : Post X.K U F ρ σ (RE X.K U σ) W Q (gcR S.hp.length (below S.hp.length) (m S)) := p
    rw [← R.rln] at p
    cases z : m S with
    | stuck => rw [z] at p; exact p
    | exn c s =>
      rw [z] at p
      simp only [gcR] at p
      split at p
      · rename_i hb
        exact fun F' ρ' H' sm pr R' => p F' _ H' sm (take_pre pr) (R'.gc hb)
      · exact p.elim
    | ok a s =>
      rw [z] at p
      simp only [gcR] at p
      split at p
      · rename_i hb
        simp only [Bool.and_eq_true] at hb
        exact fun F' ρ' H' v sm pr R' e => p F' _ H' v sm (take_pre pr) (R'.gc hb.1) (Emb.take hb.2 e)
      · exact p.elim⟩
theorem pt_gc {e : Expr} {m : M Bool} (h : PTm X e m) : PTm X e (gcT m) := fun W tk =>
  PT.weak (h W tk) fun σ H Q ⟨U, F, ρ, S, R, p⟩ => ⟨U, F, ρ, S, R, by
    have p : Post X.K U F ρ σ (RT X.K U σ) W Q (gcR S.hp.length (fun _ => true) (m S)) := p
    rw [← R.rln] at p
    cases z : m S with
    | stuck => rw [z] at p; exact p
    | exn c s =>
      rw [z] at p
      simp only [gcR] at p
      split at p
      · rename_i hb
        exact fun F' ρ' H' sm pr R' => p F' _ H' sm (take_pre pr) (R'.gc hb)
      · exact p.elim
    | ok a s =>
      rw [z] at p
      simp only [gcR] at p
      split at p
      · rename_i hb
        simp only [Bool.and_eq_true] at hb
        exact fun F' ρ' H' v sm pr R' e => p F' _ H' v sm (take_pre pr) (R'.gc hb.1) e
      · exact p.elim⟩
end
end LM

namespace LM
open PyProof.Rows hiding St frameOf passOn
open PySem PySem.Spec L2
variable [TabNames]
section
variable {X : Cx} {pn : Bool} {pos : Pos}
/-! ## names of the module -/
theorem pm_gint {x : Str} {i : Int} (h : ∃ t, X.mg x = some (.int i t)) (hg : Gl X x := by rfl) (hd : (x == ("__debug__" : Str)) = false := by decide) : PEm X (.Name x pos) (cM (.int i)) := by
  obtain ⟨t, h⟩ := h
  exact pm_const (pe_glob (v := .int i) hg h ⟨t, rfl⟩ hd) fun _ _ => emb_int'
theorem pm_gstr {x z : Str} (h : ∃ t, X.mg x = some (.str z t)) (hg : Gl X x := by rfl) (hd : (x == ("__debug__" : Str)) = false := by decide) : PEm X (.Name x pos) (cM (.str z)) := by
  obtain ⟨t, h⟩ := h
  exact pm_const (pe_glob (v := .str z) hg h ⟨t, rfl⟩ hd) fun _ _ => emb_str'
/-- a tuple of the module -/
def CtOk (K : PySem.W.Frag) (a : Addr) (xs : List AV) : Prop := ∃ vs, SqT K (fun _ => none) a vs ∧ ∀ F ρ, EmbL K F ρ xs vs
theorem pm_gtup {x : Str} {a : Addr} {xs : List AV} (h : X.mg x = some (.ref a)) (hc : CtOk X.K a xs) (hg : Gl X x := by rfl) (hd : (x == ("__debug__" : Str)) = false := by decide) : PEm X (.Name x pos) (cM (.ct xs)) := by
  obtain ⟨vs, h1, h2⟩ := hc
  exact pm_const (pe_glob (v := .ref a) hg h rfl hd) fun F ρ => by simp only [Emb]; exact ⟨a, vs, rfl, h1, h2 F ρ⟩
/-! ## isinstance of int, of str -/
def tyN (a : AV) : Option String := match a with
  | .int _ => some "int"
  | .str _ => some "str"
  | .bl _ => some "bool"
  | .non => some "NoneType"
  | _ => none
def isiA (T : String) (a : AV) : Option Bool := match a with
  | .int _ => some (decide (T = "int"))
  | .str _ => some (decide (T = "str"))
  | .bl _ => some (decide (T = "int"))
  | .non => some false
  | _ => none
def isiM (T : String) (f : M PV) : M AV := bindM f fun p s => match (avP p s).bind (isiA T) with
  | some k => .ok (.bl k) s
  | none => .stuck
def IsTy (K : PySem.W.Frag) (T : String) : Prop := PySem.W.kitOne K (.type "int") (.type T) = some (decide (T = "int")) ∧ PySem.W.kitOne K (.type "str") (.type T) = some (decide (T = "str")) ∧ PySem.W.kitOne K (.type "bool") (.type T) = some (decide (T = "int")) ∧ PySem.W.kitOne K (.type "NoneType") (.type T) = some false
theorem isTy_int {K : PySem.W.Frag} : IsTy K "int" := ⟨by first | rfl | decide +kernel, by first | rfl | decide +kernel, by first | rfl | decide +kernel, by first | rfl | decide +kernel⟩
theorem isTy_str {K : PySem.W.Frag} : IsTy K "str" := ⟨by first | rfl | decide +kernel, by first | rfl | decide +kernel, by first | rfl | decide +kernel, by first | rfl | decide +kernel⟩
theorem pm_isi {T : String} {p p2 : Pos} {e : Expr} {f : M PV} (hT : IsTy X.K T) (hm : X.mg "isinstance" = none) (hm2 : X.mg (T : Str) = none) (ha : PPm X e f) (hv : bootBuiltins (T : Str) = some (.type T) := by decide +kernel) (hgl : Gl X "isinstance" := by rfl) (hgl2 : Gl X (T : Str) := by rfl)
    (hn2 : (T : Str) ≠ "__name__" := by decide) (hd2 : ((T : Str) == ("__debug__" : Str)) = false := by decide) (hs : starEach [e, .Name (T : Str) p2] X.env = (false, eval e X.env) :: starEach [.Name (T : Str) p2] X.env := by rfl) (hs2 : starEach [.Name (T : Str) p2] X.env = (false, eval (.Name (T : Str) p2) X.env) :: starEach [] X.env := by rfl)
    (hpl : (backTo pos (starEach [.Name (T : Str) p2] X.env)).any (·.1) = false := by rfl) : PEm X (.Call (.Name "isinstance" p) [e, .Name (T : Str) p2] [] pos) (isiM T f) := fun W tk =>
  PE.weak (pe_callB call_isi hgl hm (by decide +kernel) (pa_cons (ha W tk) (pa_cons (pe_bltn (v := .ty T) hgl2 hm2 hv rfl hn2 hd2) pa_nil hs2) hs) (he := hs) (hpl := hpl)) fun σ H Q ⟨U, F, ρ, S, R, p⟩ => ⟨U, F, ρ, S, R, Post.seq p fun F1 ρ1 S1 H1 a1 x s1 q1 r1 e1 p1 => by
    show rIsi X.K [x, .ty T] H1 Q
    change EmbP X.K F1 ρ1 σ a1 x at e1
    cases ha : avP a1 S1 with
    | none => rw [ha] at p1; exact p1.elim
    | some a =>
      rw [ha] at p1
      have ev := avP_ok r1 e1 ha
      have fin : ∀ b, isiA T a = some b → Q (.bl b) H1 := fun b h => by
        rw [show (some a).bind (isiA T) = isiA T a from rfl, h] at p1
        exact p1 F1 ρ1 H1 _ (Same.refl _) (List.prefix_refl _) r1 emb_bl'
      cases a with
      | int i => exact ⟨x, _, _, _, _, rfl, .ty T, .base (by rw [emb_int ev]; exact .int i), hT.1, fin _ rfl⟩
      | str i => exact ⟨x, _, _, _, _, rfl, .ty T, .base (by rw [emb_str ev]; exact .str i), hT.2.1, fin _ rfl⟩
      | bl i => exact ⟨x, _, _, _, _, rfl, .ty T, .base (by rw [emb_bl ev]; exact .bl i), hT.2.2.1, fin _ rfl⟩
      | non => exact ⟨x, _, _, _, _, rfl, .ty T, .base (by rw [emb_non ev]; exact .non), hT.2.2.2, fin _ rfl⟩
      | _ => exact p1.elim⟩
/-! ## not -/
theorem pm_notT {a : Expr} {f : M PV} (h : PPm X a f) : PEm X (.UnaryOp .Not a pos) (bvM (notM (truM f))) := fun W tk =>
  PE.weak (pe_notT (h W tk)) fun σ H Q ⟨U, F, ρ, S, R, p⟩ => ⟨U, F, ρ, S, R, by
    have p : Post X.K U F ρ σ (RE X.K U σ) W Q (bindR (bindR (bindR (f S) fun p s => match truP p s with | some k => .ok k s | none => .stuck) fun k s => .ok (!k) s) fun k s => .ok (.bl k) s) := p
    cases z : f S with
    | stuck => rw [z] at p; exact p
    | exn c s => rw [z] at p; exact p
    | ok a1 S1 =>
      rw [z] at p
      intro F1 ρ1 H1 x s1 q1 r1 e1
      simp only [bindR] at p
      cases z2 : truP a1 S1 with
      | none => rw [z2] at p; exact p.elim
      | some k =>
        rw [z2] at p
        exact ⟨k, truP_ok r1 e1 z2, p F1 ρ1 H1 _ s1 q1 r1 emb_bl'⟩⟩
/-! ## d.get -/
def isDiM (f : M PV) : M PV := bindM f fun p s => match coP p s with
  | .ob (.dic _ _) => .ok p s
  | _ => .stuck
theorem isD_of {K : PySem.W.Frag} {U F H : Hp} {ρ : List Addr} {S : SS} {σ : St} (R : Rep K U F ρ S σ H) {p : PV} {x : V} {t : Bool} {kvs : List (AV × AV)} (e : EmbP K F ρ σ p x) (h : coP p S = .ob (.dic t kvs)) : ∃ a, x = .ref a ∧ IsD H a := by
  have c := coP_ok R e
  rw [h] at c
  obtain ⟨a, rfl, ⟨_, kv, c1, _⟩ | ⟨_, kv, c1, _⟩⟩ := c
  · exact ⟨a, rfl, .inl ⟨kv, c1⟩⟩
  · exact ⟨a, rfl, .inr ⟨kv, c1⟩⟩
def getO (c : Co) (k d : AV) : Option AV := match c with
  | .ob (.dic t kvs) => if (kk t k).isSome then some ((dGet t kvs k).getD d) else none
  | _ => none
def get1M (f : M PV) (g : M AV) : M AV := bindM (isDiM f) fun p => bindM g fun k s => match getO (coP p s) k .non with
  | some x => .ok x s
  | none => .stuck
def get2M (f : M PV) (g h : M AV) : M AV := bindM (isDiM f) fun p => bindM g fun k => bindM h fun d s => match getO (coP p s) k d with
  | some x => .ok x s
  | none => .stuck
theorem getO_ok {K : PySem.W.Frag} {U F H : Hp} {ρ : List Addr} {S : SS} {σ : St} (R : Rep K U F ρ S σ H) {p : PV} {x y z : V} {k d r : AV} (e : EmbP K F ρ σ p x) (ek : Emb K F ρ k y) (ed : Emb K F ρ d z) (h : getO (coP p S) k d = some r) :
    ∃ a o, x = .ref a ∧ DGet H a y o ∧ Emb K F ρ r (o.getD z) := by
  have c := coP_ok R e
  unfold getO at h
  split at h
  · rename_i t kvs hc
    rw [hc] at c
    split at h
    · rename_i hk
      cases h
      obtain ⟨a, o, rfl, g, g1, g2⟩ := dget_ok R c ek hk
      refine ⟨a, o, rfl, g, ?_⟩
      cases z2 : dGet t kvs k with
      | none => rw [g2 z2]; exact ed
      | some w => obtain ⟨w', e', e2⟩ := g1 w z2; rw [e']; exact e2
    · cases h
  · cases h
theorem pm_get1 {o e : Expr} {apos cpos : Pos} {f : M PV} {g : M AV} (hu : X.A.units + 1 < cLine) (ho : PPm X o f) (he : PEm X e g) (m : M1 X o "get" apos e cpos := by exact ⟨rfl, rfl, rfl, rfl⟩) : PEm X (.Call (.Attribute o "get" apos) [e] [] cpos) (get1M f g) := fun W tk =>
  PE.weak (pe_dget1 hu (ho W tk) (he W tk) m) fun σ H Q ⟨U, F, ρ, S, R, p⟩ => ⟨U, F, ρ, S, R, by
    have p : Post X.K U F ρ σ (RE X.K U σ) W Q (bindR (bindR (f S) fun p s => match coP p s with | .ob (.dic _ _) => .ok p s | _ => .stuck) fun p => bindM g fun k s => match getO (coP p s) k .non with
      | some x => .ok x s
      | none => .stuck) := p
    cases z : f S with
    | stuck => rw [z] at p; exact p
    | exn c s => rw [z] at p; exact p
    | ok a1 S1 =>
      rw [z] at p
      intro F1 ρ1 H1 x s1 q1 r1 e1
      simp only [bindR] at p
      split at p
      · rename_i p2 S2 hs
        split at hs
        · rename_i t kvs hc
          cases hs
          obtain ⟨a, rfl, hd⟩ := isD_of r1 e1 hc
          refine ⟨a, rfl, hd, U, F1, ρ1, S1, r1, Post.seq (p.up s1 q1) fun F2 ρ2 S2 H2 k y s2 q2 r2 e2 p2 => ?_⟩
          cases zz : getO (coP a1 S2) k .non with
          | none => rw [zz] at p2; exact p2.elim
          | some r =>
            rw [zz] at p2
            obtain ⟨a', o, ex, g, er⟩ := getO_ok r2 (EmbP.mono s2 q2 e1) e2 (show Emb X.K F2 ρ2 .non .non from emb_non') zz
            cases ex
            exact ⟨o, g, p2 F2 ρ2 H2 _ (Same.refl _) (List.prefix_refl _) r2 er⟩
        · cases hs
      · rename_i hs; split at hs <;> cases hs
      · exact p.elim⟩
theorem pm_get2 {o e d : Expr} {apos cpos : Pos} {f : M PV} {g h : M AV} (hu : X.A.units + 1 < cLine) (ho : PPm X o f) (he : PEm X e g) (hd : PEm X d h) (m : M2 X o "get" apos e d cpos := by exact ⟨rfl, rfl, rfl, rfl⟩) : PEm X (.Call (.Attribute o "get" apos) [e, d] [] cpos) (get2M f g h) := fun W tk =>
  PE.weak (pe_dget2 hu (ho W tk) (he W tk) (hd W tk) m) fun σ H Q ⟨U, F, ρ, S, R, p⟩ => ⟨U, F, ρ, S, R, by
    have p : Post X.K U F ρ σ (RE X.K U σ) W Q (bindR (bindR (f S) fun p s => match coP p s with | .ob (.dic _ _) => .ok p s | _ => .stuck) fun p => bindM g fun k => bindM h fun d s => match getO (coP p s) k d with
      | some x => .ok x s
      | none => .stuck) := p
    cases z : f S with
    | stuck => rw [z] at p; exact p
    | exn c s => rw [z] at p; exact p
    | ok a1 S1 =>
      rw [z] at p
      intro F1 ρ1 H1 x s1 q1 r1 e1
      simp only [bindR] at p
      split at p
      · rename_i p2 S2 hs
        split at hs
        · rename_i t kvs hc
          cases hs
          obtain ⟨a, rfl, hd⟩ := isD_of r1 e1 hc
          refine ⟨a, rfl, hd, U, F1, ρ1, S1, r1, Post.seq (p.up s1 q1) fun F2 ρ2 S2 H2 k y s2 q2 r2 e2 p2 => ⟨U, F2, ρ2, S2, r2, Post.seq p2 fun F3 ρ3 S3 H3 dd w s3 q3 r3 e3 p3 => ?_⟩⟩
          cases zz : getO (coP a1 S3) k dd with
          | none => rw [zz] at p3; exact p3.elim
          | some r =>
            rw [zz] at p3
            obtain ⟨a', o, ex, g, er⟩ := getO_ok r3 (EmbP.mono (s2.trans s3) (q2.trans q3) e1) (Emb.mono s3 q3 _ _ e2) e3 zz
            cases ex
            exact ⟨o, g, p3 F3 ρ3 H3 _ (Same.refl _) (List.prefix_refl _) r3 er⟩
        · cases hs
      · rename_i hs; split at hs <;> cases hs
      · exact p.elim⟩
end
end LM

namespace LM
open PyProof.Rows hiding St frameOf passOn
open PySem PySem.Spec L2
variable [TabNames]
section
variable {X : Cx} {pos : Pos} {pn : Bool}
/-! ## raise -/
def raiM (c : Str) : M Fl := fun s => .exn c s
def ExcF (K : PySem.W.Frag) (c : Str) : Prop := (He.Fa.exc c).ok K = true
theorem psm_raise {c m : Str} {j : Nat} {p p2 p3 : Pos} (hx : ExcF X.K c) (hm : X.mg c = some (.ref (He.ga X.K c))) (hg : Gl X c := by rfl) (hd : (c == ("__debug__" : Str)) = false := by decide) (hc : X.calm = true := by rfl) :
    PSm X pn (.Raise (some (.Call (.Name c p) [.Constant (.str m) j p2] [] p3)) none pos) (raiM c) := fun W tk => by
  obtain ⟨x1, x2, x3, x4⟩ := He.exc_ok hx
  exact PS.weak (ps_raise hc tk (pmk_own F.excBase_ValueError x1 hm x2 (raises_own x3 x4) hg hd)) fun σ H D ⟨U, F, ρ, S, R, p⟩ => p F ρ σ H (Same.refl _) (List.prefix_refl _) R
end
section
variable {fa : List He.Fa} {fn : List He.DefD} {K : PySem.W.Frag} {mg : Str → Option Value} {base : Heap}
theorem Fc.exc (e : Fc fa fn K mg base) (i : Nat) {x : Str} (h : fa[i]? = some (.exc x)) : ExcF K x := e.c.fact i h
theorem Fc.exm (e : Fc fa fn K mg base) (i : Nat) {x y : Str} {b : Bool} (h : fa[i]? = some (.exm x y b)) : PySem.W.exmOne K (.ref (He.ga K x)) (.ref (He.ga K y)) = some b := He.exm_ok (e.c.fact i h)
theorem Fc.int (e : Fc fa fn K mg base) (i : Nat) {x : Str} {z : Int} (h : fa[i]? = some (.int x z)) : ∃ t, mg x = some (.int z t) := by
  obtain ⟨hh, h1, h2⟩ := e.h
  exact He.int_ok h1 h2 (e.c.fact i h)
theorem Fc.str (e : Fc fa fn K mg base) (i : Nat) {x z : Str} (h : fa[i]? = some (.str x z)) : ∃ t, mg x = some (.str z t) := by
  obtain ⟨hh, h1, h2⟩ := e.h
  exact He.str_ok h1 h2 (e.c.fact i h)
theorem embL_strs {F : Hp} {ρ : List Addr} : ∀ ns : List Str, EmbL K F ρ (ns.map AV.str) (ns.map V.str)
  | [] => rfl
  | _ :: r => ⟨_, _, rfl, rfl, embL_strs r⟩
theorem ctB_ok {a : Addr} {xs : List Str} (h : ctB K a xs = true) : CtOk K a (xs.map AV.str) := by
  unfold ctB at h
  split at h
  · rename_i c d its n sl hq
    obtain ⟨h1, h2⟩ := He.ba h
    obtain ⟨h2, h3⟩ := He.ba h2
    have e1 : c = "tuple" := of_decide_eq_true h1
    subst e1
    refine ⟨xs.map V.str, .inr ⟨_, its, n, hq, rfl, rfl, of_decide_eq_true h2, He.relAll_ok h3⟩, fun F ρ => ?_⟩
    exact embL_strs xs
  · cases h
theorem emL_nil {F : Hp} {ρ : List Addr} : EmbL K F ρ [] [] := rfl
theorem emL_c {F : Hp} {ρ : List Addr} {a : AV} {v : V} {as : List AV} {vs : List V} (h : Emb K F ρ a v) (r : EmbL K F ρ as vs) : EmbL K F ρ (a :: as) (v :: vs) := ⟨_, _, rfl, h, r⟩
theorem emL_ct {F : Hp} {ρ : List Addr} {a : Addr} {as : List AV} {vs : List V} (h : CtOk K a []) (r : EmbL K F ρ as vs) : EmbL K F ρ (.ct [] :: as) (.ref a :: vs) := by
  obtain ⟨ws, h1, h2⟩ := h
  exact ⟨_, _, rfl, ⟨a, ws, rfl, h1, h2 F ρ⟩, r⟩
theorem Fc.ct (e : Fc fa fn K mg base) (i : Nat) {p : PySem.W.Frag → Addr} {xs : List Str} (h : TabNames.cts[i]? = some (p, xs)) : CtOk K (p K) (xs.map AV.str) := 
  ctB_ok (List.all_eq_true.mp (Bool.and_eq_true_iff.mp e.cs).1 (p, xs) (List.mem_of_getElem? h))
end
end LM

namespace LM
open PyProof.Rows hiding St frameOf passOn
open PySem PySem.Spec L2
variable [TabNames]
/-! ## a dict is walked: it is locked while it is -/
section
variable {X : Cx} {tg e : Expr} {te : TE}
def NoFz (X : Cx) (d : Addr) : Prop := ∀ o' u', X.H_0 d ≠ some (.frz o' u')
def iLock (X : Cx) (te : TE) : TI := fun σ H R => te σ H fun x H1 => ∃ d, x = .ref d ∧
  ((∃ kvs, H1 d = some (.dK kvs) ∧ (NoFz X d → ∀ od, R (Itk d od kvs) (upd H1 d (.frz od (.dK kvs))))) ∨
   (∃ kvs, H1 d = some (.dT kvs) ∧ (NoFz X d → ∀ od, R (Itkt d od kvs) (upd H1 d (.frz od (.dT kvs))))) ∨
   (∃ o kvs, H1 d = some (.frz o (.dK kvs)) ∧ R (Itk d o kvs) H1) ∨
   (∃ o kvs, H1 d = some (.frz o (.dT kvs)) ∧ R (Itkt d o kvs) H1))
theorem keys_go {pins : List (Addr × Obj)} {σ : St} {H1 : Hp} {s1 : Shared} {R : It → Hp → Prop} {d : Addr} {o : Obj} {kvs : List (Key × V)} (I1 : Inv X pins σ H1 s1) (hd : H1 d = some (.frz o (.dK kvs))) (q : R (Itk d o kvs) H1) :
    wpAny (model X.prog X.w) X.A (pyIter (.ref d)) (PIE X pins σ tg R) X.xe s1 := by
  obtain ⟨hs, hgd, hx, es, ep, vs, hdt, hsz, kv, hm⟩ := I1.frzK hd
  refine iter_keys hs hgd hx hdt (pi_one (tk := s1.toks) I1 _ (turn_keys _ hdt) ⟨_, Heap.get?_push_size _ rfl, rfl, ?_⟩ q)
  rw [hsz] <;> rfl
theorem keys_goT {pins : List (Addr × Obj)} {σ : St} {H1 : Hp} {s1 : Shared} {R : It → Hp → Prop} {d : Addr} {o : Obj} {kvs : List (List Key × V)} (I1 : Inv X pins σ H1 s1) (hd : H1 d = some (.frz o (.dT kvs))) (q : R (Itkt d o kvs) H1) :
    wpAny (model X.prog X.w) X.A (pyIter (.ref d)) (PIE X pins σ tg R) X.xe s1 := by
  obtain ⟨hs, hgd, hx, es, ep, hdt, hsz, ent⟩ := I1.frzT hd
  refine iter_keys hs hgd hx hdt (pi_one (tk := s1.toks) I1 _ (turn_keysT _ hdt) ⟨_, Heap.get?_push_size _ rfl, rfl, ?_⟩ q)
  rw [hsz] <;> rfl
theorem pi_lock (he : PE X e te) : PI X tg e (iLock X te) := by
  refine ⟨fun pins s σ H R I h => ?_⟩
  refine thn (he.run pins s σ H _ I h) fun u s1 ⟨x, H1, I1, rx, d, ex, q⟩ => ?_
  subst ex
  obtain rfl : u = Value.ref d := rx
  rcases q with ⟨kvs, hd, q⟩ | ⟨kvs, hd, q⟩ | ⟨o, kvs, hd, q⟩ | ⟨o, kvs, hd, q⟩
  · obtain ⟨od, I2⟩ := I1.lock hd True.intro
    exact keys_go I2 upd_same (q (I1.nofrz hd True.intro) od)
  · obtain ⟨od, I2⟩ := I1.lock hd True.intro
    exact keys_goT I2 upd_same (q (I1.nofrz hd True.intro) od)
  · exact keys_go I1 hd q
  · exact keys_goT I1 hd q
/-- what is locked may be unlocked at the end -/
def UnH (X : Cx) (H H' : Hp) : Prop := H' = H ∨ ∃ d od u, H d = some (.frz od u) ∧ NoFz X d ∧ H' = upd H d u
def unlE (X : Cx) (D : Ends) : Ends := ⟨fun σ H => ∃ H', UnH X H H' ∧ D.nx σ H', fun v H => ∃ H', UnH X H H' ∧ D.rt v H', fun σ H => ∃ H', UnH X H H' ∧ D.bk σ H', fun σ H => ∃ H', UnH X H H' ∧ D.ct σ H'⟩
theorem UnH.inv {pins : List (Addr × Obj)} {σ : St} {H H' : Hp} {s : Shared} (I : Inv X pins σ H s) (h : UnH X H H') : Inv X pins σ H' s := by
  rcases h with rfl | ⟨d, od, u, hd, hn, rfl⟩
  · exact I
  · exact I.unlock hd hn
theorem ps_unl {st : Stmt} {t : TS} (h : PS X st t) : PS X st (fun D σ H => t (unlE X D) σ H) := by
  refine ⟨fun pins s σ H D I hw => ?_⟩
  refine thn (h.run pins s σ _ _ I hw) fun f s1 q => ?_
  cases f with
  | next => obtain ⟨σ', H', I2, H2, e, q⟩ := q; exact ⟨σ', _, e.inv I2, q⟩
  | brk => obtain ⟨σ', H', I2, H2, e, q⟩ := q; exact ⟨σ', _, e.inv I2, q⟩
  | cont => obtain ⟨σ', H', I2, H2, e, q⟩ := q; exact ⟨σ', _, e.inv I2, q⟩
  | ret v => obtain ⟨x, σ', H', I2, r, H2, e, q⟩ := q; exact ⟨x, σ', _, e.inv I2, r, q⟩
theorem pe_unl {te : TE} (h : PE X e te) : PE X e (fun σ H Q => te σ H fun v H1 => ∃ H2, UnH X H1 H2 ∧ Q v H2) := by
  refine ⟨fun pins s σ H Q I hw => ?_⟩
  refine thn (h.run pins s σ _ _ I hw) fun v s1 ⟨x, H1, I2, r, H2, e2, q⟩ => ?_
  exact ⟨x, _, e2.inv I2, r, q⟩
end
end LM

namespace LM
open PyProof.Rows hiding St frameOf passOn
open PySem PySem.Spec L2
variable [TabNames]
/-! ## locks on values, on objects of the heap, on own ones -/
/-- the dict at a place, and the state in which it is locked -/
def dicA (s : SS) : AV → Option (Bool × List (AV × AV) × Option Nat × SS)
  | .vd t kvs => some (t, kvs, none, s)
  | .ref j => match s.hp[j]? with
    | some (.dic t kvs) => some (t, kvs, some j, { s with hp := s.hp.set j (.lck t kvs) })
    | some (.lck t kvs) => some (t, kvs, none, s)
    | _ => none
  | _ => none
def dicL (p : PV) (s : SS) : Option (Bool × List (AV × AV) × Option Nat × SS) := match p with
  | .av a => dicA s a
  | .sl i => match s.sl[i]? with
    | some (some (.val a)) => dicA s a
    | some (some (.own (.dic t kvs))) => some (t, kvs, some s.hp.length, ⟨s.sl.set i (some (.val (.ref s.hp.length))), s.hp ++ [.lck t kvs]⟩)
    | _ => none
def unlk (j : Option Nat) (s : SS) : Option SS := match j with
  | none => some s
  | some j => match s.hp[j]? with
    | some (.lck t kvs) => some { s with hp := s.hp.set j (.dic t kvs) }
    | _ => none
def EmbKT (K : PySem.W.Frag) (F : Hp) (ρ : List Addr) (t : Bool) (kvs : List (AV × AV)) (u : HO) : Prop := (t = false ∧ ∃ kv, u = .dK kv ∧ EmbK K F ρ kvs kv) ∨ (t = true ∧ ∃ kv, u = .dT kv ∧ EmbT K F ρ kvs kv)
theorem EmbKT.mono {K : PySem.W.Frag} {F F' : Hp} {ρ ρ' : List Addr} {t : Bool} {kvs : List (AV × AV)} {u : HO} (s : Same F F') (q : ρ <+: ρ') (h : EmbKT K F ρ t kvs u) : EmbKT K F' ρ' t kvs u := by
  rcases h with ⟨e, kv, e2, h⟩ | ⟨e, kv, e2, h⟩
  · exact .inl ⟨e, kv, e2, h.mono s q⟩
  · exact .inr ⟨e, kv, e2, h.mono s q⟩
section
variable {K : PySem.W.Frag} {U F H F' H' : Hp} {ρ ρ' : List Addr} {S S' : SS} {σ σ' : St}
theorem embVd {t : Bool} {kvs : List (AV × AV)} {v : V} (h : Emb K F ρ (.vd t kvs) v) : ∃ d u, v = .ref d ∧ F d = some u ∧ EmbKT K F ρ t kvs u := by
  simp only [Emb] at h
  obtain ⟨d, e, ⟨e1, kv, h1, h2⟩ | ⟨e1, kv, h1, h2⟩⟩ := h
  · exact ⟨d, _, e, h1, .inl ⟨e1, kv, rfl, h2⟩⟩
  · exact ⟨d, _, e, h1, .inr ⟨e1, kv, rfl, h2⟩⟩
theorem embO_dic {p : Addr} {t : Bool} {kvs : List (AV × AV)} (h : EmbO K F ρ H p (.dic t kvs)) : ∃ u, H p = some u ∧ EmbKT K F ρ t kvs u := by
  rcases h with ⟨e, kv, h1, h2⟩ | ⟨e, kv, h1, h2⟩
  · exact ⟨_, h1, .inl ⟨e, kv, rfl, h2⟩⟩
  · exact ⟨_, h1, .inr ⟨e, kv, rfl, h2⟩⟩
theorem embO_lck {p : Addr} {t : Bool} {kvs : List (AV × AV)} (h : EmbO K F ρ H p (.lck t kvs)) : p ∈ ρ ∧ ∃ ob u, H p = some (.frz ob u) ∧ EmbKT K F ρ t kvs u := by
  rcases h with ⟨h0, ⟨e, ob, kv, h1, h2⟩ | ⟨e, ob, kv, h1, h2⟩⟩
  · exact ⟨h0, ob, _, h1, .inl ⟨e, kv, rfl, h2⟩⟩
  · exact ⟨h0, ob, _, h1, .inr ⟨e, kv, rfl, h2⟩⟩
theorem to_dic {p : Addr} {t : Bool} {kvs : List (AV × AV)} {u : HO} (h : H p = some u) (e : EmbKT K F ρ t kvs u) : EmbO K F ρ H p (.dic t kvs) := by
  rcases e with ⟨e, kv, rfl, h2⟩ | ⟨e, kv, rfl, h2⟩
  · exact .inl ⟨e, kv, h, h2⟩
  · exact .inr ⟨e, kv, h, h2⟩
theorem to_lck {p : Addr} {t : Bool} {kvs : List (AV × AV)} {u : HO} {ob : Obj} (hp : p ∈ ρ) (h : H p = some (.frz ob u)) (e : EmbKT K F ρ t kvs u) : EmbO K F ρ H p (.lck t kvs) := by
  refine ⟨hp, ?_⟩
  rcases e with ⟨e, kv, rfl, h2⟩ | ⟨e, kv, rfl, h2⟩
  · exact .inl ⟨e, ob, kv, h, h2⟩
  · exact .inr ⟨e, ob, kv, h, h2⟩
theorem EmbKT.isD {t : Bool} {kvs : List (AV × AV)} {u : HO} (e : EmbKT K F ρ t kvs u) : isDic u = true ∧ (∀ ob x, u ≠ .frz ob x) ∧ ∀ vs, u ≠ .tup vs := by
  rcases e with ⟨_, kv, rfl, _⟩ | ⟨_, kv, rfl, _⟩ <;> exact ⟨rfl, fun _ _ z => (by cases z), fun _ z => (by cases z)⟩
/-- the lock is told to be untouchable -/
theorem Rep.tellLock {d : Addr} {ob : Obj} {u : HO} (R : Rep K U F ρ S σ H) (hd : H d = some (.frz ob u)) (hF : ∀ w, F d = some w → w = u ∨ ∃ vs, w = .tup vs) (ho : ∀ (j : Nat) (o' : AO), S.sl[j]? = some (some (.own o')) → σ[j]? ≠ some (some (.ref d))) : Rep K (upd U d (.frz ob u)) F ρ S σ H := by
  refine ⟨R.len, R.fro, fun b o e => ?_, R.rln, R.rnd, fun q hq => ⟨(R.rF q hq).1, ?_⟩, fun b w e => ?_, R.hp, R.val, fun i o e => ?_, R.tab.u (fun _ z => by cases z)⟩
  · by_cases hb : b = d
    · subst hb; rw [upd_same] at e; cases e; exact hd
    · rw [upd_ne hb] at e; exact R.unt b o e
  · by_cases hb : q = d
    · subst hb; rw [upd_same]; exact .inr ⟨ob, u, rfl⟩
    · rw [upd_ne hb]; exact (R.rF q hq).2
  · by_cases hb : b = d
    · subst hb
      rw [upd_same]
      rcases hF w e with rfl | z
      · exact .inr (.inl ⟨ob, rfl⟩)
      · exact .inr (.inr z)
    · rw [upd_ne hb]; exact R.FU b w e
  · obtain ⟨q, e1, e2, e3, e4, e5⟩ := R.own i o e
    have ne : q ≠ d := fun z => ho i o e (z ▸ e1)
    exact ⟨q, e1, e2, e3, by rw [upd_ne ne]; exact e4, e5⟩
/-- .. and may be touched again -/
theorem Rep.dropLock {d : Addr} {ob : Obj} {u : HO} (R : Rep K (upd U d (.frz ob u)) F ρ S σ H) (hU : U d = none ∨ U d = some (.frz ob u)) : Rep K U F ρ S σ H := by
  have hd : H d = some (.frz ob u) := R.unt d _ upd_same
  refine ⟨R.len, R.fro, fun b o e => ?_, R.rln, R.rnd, fun q hq => ⟨(R.rF q hq).1, ?_⟩, fun b w e => ?_, R.hp, R.val, fun i o e => ?_, ⟨R.tab.tb, fun b ps z => ?_, R.tab.nf⟩⟩
  · by_cases hb : b = d
    · subst hb
      rcases hU with z | z
      · rw [z] at e; cases e
      · rw [z] at e; cases e; exact hd
    · exact R.unt b o (by rw [upd_ne hb]; exact e)
  · by_cases hb : q = d
    · subst hb
      rcases hU with z | z
      · exact .inl z
      · exact .inr ⟨ob, u, z⟩
    · have h := (R.rF q hq).2; rw [upd_ne hb] at h; exact h
  · by_cases hb : b = d
    · subst hb
      have h := R.FU b w e
      rw [upd_same] at h
      rcases h with h | ⟨ob', h⟩ | h
      · cases h
      · cases h
        rcases hU with z | z
        · exact .inl z
        · exact .inr (.inl ⟨ob, z⟩)
      · exact .inr (.inr h)
    · have h := R.FU b w e; rw [upd_ne hb] at h; exact h
  · obtain ⟨q, e1, e2, e3, e4, e5⟩ := R.own i o e
    refine ⟨q, e1, e2, e3, ?_, e5⟩
    by_cases hb : q = d
    · subst hb; rw [upd_same] at e4; cases e4
    · rw [upd_ne hb] at e4; exact e4

  · by_cases hb : b = d
    · subst hb
      rcases hU with q | q
      · rw [q] at z; cases z
      · rw [q] at z; cases z
    · exact R.tab.nu b ps (by rw [upd_ne hb]; exact z)
/-- a lock of our own / one that stood already -/
def LkA (K : PySem.W.Frag) (U F : Hp) (ρ : List Addr) (j : Option Nat) (S2 : SS) (σ : St) (H : Hp) (d : Addr) (u : HO) : Prop :=
  H d = some u ∧ U d = none ∧ ∀ ob, ∃ ρ2, ρ <+: ρ2 ∧ Rep K (upd U d (.frz ob u)) F ρ2 S2 σ (upd H d (.frz ob u)) ∧ (j = none → F d = some u) ∧ ∀ j', j = some j' → ρ2[j']? = some d
def LkB (K : PySem.W.Frag) (U F : Hp) (ρ : List Addr) (j : Option Nat) (S2 : SS) (σ : St) (H : Hp) (d : Addr) (u : HO) : Prop :=
  j = none ∧ ∃ ob, H d = some (.frz ob u) ∧ (U d = none ∨ U d = some (.frz ob u)) ∧ Rep K (upd U d (.frz ob u)) F ρ S2 σ H
theorem Rep.unlockV {d : Addr} {ob : Obj} {u : HO} (R : Rep K U F ρ S σ H) (hU : U d = none) (hF : F d = some u) (hd : H d = some (.frz ob u)) : Rep K U F ρ S σ (upd H d u) := by
  refine ⟨R.len, fun b o e => ?_, fun b o e => ?_, R.rln, R.rnd, R.rF, R.FU, fun i o q e1 e2 => ?_, R.val, fun i o e => ?_, R.tab.upd (plain_of hd (fun _ z => by cases z) (fun _ z => by cases z))⟩
  · by_cases hb : b = d
    · subst hb; rw [hF] at e; cases e; exact .inl upd_same
    · unfold RdD; rw [upd_ne hb]; exact R.fro b o e
  · rw [upd_ne (ne_of_none e hU)]; exact R.unt b o e
  · have ne : q ≠ d := fun z => by
      have := (R.rF q (List.mem_of_getElem? e2)).1
      rw [z, hF] at this; cases this
    exact (R.hp i o q e1 e2).mono (Same.refl _) (List.prefix_refl _) (upd_ne ne)
  · obtain ⟨q, e1, e2, e3, e4⟩ := R.own i o e
    have ne : q ≠ d := fun z => by rw [z, hF] at e3; cases e3
    exact ⟨q, e1, e2.mono (Same.refl _) (List.prefix_refl _) (upd_ne ne), e3, e4⟩
theorem Rep.unlockH {d : Addr} {ob : Obj} {u : HO} {j : Nat} {t : Bool} {kvs : List (AV × AV)} (R : Rep K U F ρ S σ H) (hU : U d = none) (hj : ρ[j]? = some d) (hd : H d = some (.frz ob u)) (hc : S.hp[j]? = some (.lck t kvs)) : Rep K U F ρ { S with hp := S.hp.set j (.dic t kvs) } σ (upd H d u) := by
  have hm := List.mem_of_getElem? hj
  obtain ⟨_, ob', u', h1, h2⟩ := embO_lck (R.hp j _ d hc hj)
  rw [hd] at h1; cases h1
  refine ⟨R.len, fun b o e => ?_, fun b o e => ?_, by simp [R.rln], R.rnd, R.rF, R.FU, fun i o q e1 e2 => ?_, R.val, fun i o e => ?_, R.tab.upd (plain_of hd (fun _ z => by cases z) (fun _ z => by cases z))⟩
  · have ne := ne_of_none e (R.rF d hm).1
    unfold RdD; rw [upd_ne ne]; exact R.fro b o e
  · rw [upd_ne (ne_of_none e hU)]; exact R.unt b o e
  · by_cases hi : j = i
    · subst hi
      rw [hj] at e2; cases e2
      have hlt : j < S.hp.length := (List.getElem?_eq_some_iff.mp hc).1
      rw [List.getElem?_set_self hlt] at e1
      cases e1
      exact to_dic upd_same h2
    · rw [List.getElem?_set_ne hi] at e1
      have ne : q ≠ d := fun z => by
        subst z
        exact hi (nodup_ixA R.rnd hj e2)
      exact (R.hp i o q e1 e2).mono (Same.refl _) (List.prefix_refl _) (upd_ne ne)
  · obtain ⟨q, e1, e2, e3, e4, e5, e6⟩ := R.own i o e
    have ne : q ≠ d := fun z => e5 (z ▸ hm)
    exact ⟨q, e1, e2.mono (Same.refl _) (List.prefix_refl _) (upd_ne ne), e3, e4, e5, e6⟩
theorem Rep.unlk {d : Addr} {ob : Obj} {u : HO} {j : Option Nat} {S3 : SS} (R : Rep K (upd U d (.frz ob u)) F ρ S σ H) (hU : U d = none) (hF : j = none → F d = some u) (hj : ∀ j', j = some j' → ρ[j']? = some d) (e : LM.unlk j S = some S3) : Rep K U F ρ S3 σ (upd H d u) := by
  have hd : H d = some (.frz ob u) := R.unt d _ upd_same
  have R1 := R.dropLock (.inl hU)
  cases j with
  | none => cases e; exact R1.unlockV hU (hF rfl) hd
  | some j' =>
    have e : (match S.hp[j']? with | some (.lck t kvs) => some ({ S with hp := S.hp.set j' (.dic t kvs) } : SS) | _ => none) = some S3 := e
    split at e
    · rename_i t kvs hc
      cases e
      exact R1.unlockH hU (hj j' rfl) hd hc
    · cases e
theorem lockH {j : Nat} {t : Bool} {kvs : List (AV × AV)} {d : Addr} (R : Rep K U F ρ S σ H) (hj : ρ[j]? = some d) (hc : S.hp[j]? = some (.dic t kvs)) :
    ∃ u, EmbKT K F ρ t kvs u ∧ LkA K U F ρ (some j) { S with hp := S.hp.set j (.lck t kvs) } σ H d u := by
  have hm := List.mem_of_getElem? hj
  have h0 := R.hp j _ d hc hj
  obtain ⟨u, h1, h2⟩ := embO_dic h0
  have hU : U d = none := by
    rcases (R.rF d hm).2 with z | ⟨ob, w, z⟩
    · exact z
    · exact absurd (R.unt d _ z) (h0.noFrz rfl)
  refine ⟨u, h2, h1, hU, fun ob => ⟨ρ, List.prefix_refl _, ?_, fun z => (by cases z), fun j' z => by cases z; exact hj⟩⟩
  have R1 := R.write (u := .frz ob u) (o := .lck t kvs) hj (to_lck hm upd_same h2) h0 rfl
  refine R1.tellLock upd_same (fun w e => by rw [(R.rF d hm).1] at e; cases e) fun i o' e z => ?_
  obtain ⟨q, e1, _, _, _, e5, _⟩ := R.own i o' e
  rw [z] at e1; cases e1
  exact e5 hm
theorem lockHB {j : Nat} {t : Bool} {kvs : List (AV × AV)} {d : Addr} (R : Rep K U F ρ S σ H) (hj : ρ[j]? = some d) (hc : S.hp[j]? = some (.lck t kvs)) :
    ∃ u, EmbKT K F ρ t kvs u ∧ LkB K U F ρ none S σ H d u := by
  have hm := List.mem_of_getElem? hj
  have h0 := R.hp j _ d hc hj
  obtain ⟨_, ob, u, h1, h2⟩ := embO_lck h0
  refine ⟨u, h2, rfl, ob, h1, ?_, R.tellLock h1 (fun w e => by rw [(R.rF d hm).1] at e; cases e) fun i o' e z => ?_⟩
  · rcases (R.rF d hm).2 with z | ⟨ob', w, z⟩
    · exact .inl z
    · have z2 := R.unt d _ z
      rw [h1] at z2; cases z2
      exact .inr z
  · obtain ⟨q, e1, _, _, _, e5, _⟩ := R.own i o' e
    rw [z] at e1; cases e1
    exact e5 hm
theorem lockV {t : Bool} {kvs : List (AV × AV)} {d : Addr} {u : HO} (R : Rep K U F ρ S σ H) (hF : F d = some u) (h2 : EmbKT K F ρ t kvs u) : LkA K U F ρ none S σ H d u ∨ LkB K U F ρ none S σ H d u := by
  obtain ⟨i1, i2, i3⟩ := h2.isD
  have ho : ∀ (j : Nat) (o' : AO), S.sl[j]? = some (some (.own o')) → σ[j]? ≠ some (some (.ref d)) := fun i o' e z => by
    obtain ⟨q, e1, _, e3, _⟩ := R.own i o' e
    rw [z] at e1; cases e1
    rw [hF] at e3; cases e3
  rcases R.fro d u hF with hd | ⟨_, ob, hd⟩
  · left
    have hU : U d = none := by
      rcases R.FU d u hF with z | ⟨ob, z⟩ | ⟨vs, z⟩
      · exact z
      · have := R.unt d _ z; rw [hd] at this; exact absurd (Option.some.inj this) (i2 _ _)
      · exact absurd z (i3 vs)
    have hpl : PlainAt H d := plain_of hd (fun _ z => by subst z; simp [isDic] at i1) (fun _ z => by subst z; simp [isDic] at i1)
    refine ⟨hd, hU, fun ob => ⟨ρ, List.prefix_refl _, ?_, fun _ => hF, fun j' z => by cases z⟩⟩
    refine Rep.tellLock (H := upd H d (.frz ob u)) ⟨R.len, fun b o e => ?_, fun b o e => ?_, R.rln, R.rnd, R.rF, R.FU, fun i o q e1 e2 => ?_, R.val, fun i o e => ?_, R.tab.upd hpl⟩ upd_same (fun w e => by rw [hF] at e; cases e; exact .inl rfl) ho
    · by_cases hb : b = d
      · subst hb; rw [hF] at e; cases e; exact .inr ⟨i1, ob, upd_same⟩
      · unfold RdD; rw [upd_ne hb]; exact R.fro b o e
    · rw [upd_ne (ne_of_none e hU)]; exact R.unt b o e
    · have ne : q ≠ d := fun z => by
        have := (R.rF q (List.mem_of_getElem? e2)).1
        rw [z, hF] at this; cases this
      exact (R.hp i o q e1 e2).mono (Same.refl _) (List.prefix_refl _) (upd_ne ne)
    · obtain ⟨q, e1, e2, e3, e4⟩ := R.own i o e
      have ne : q ≠ d := fun z => by rw [z, hF] at e3; cases e3
      exact ⟨q, e1, e2.mono (Same.refl _) (List.prefix_refl _) (upd_ne ne), e3, e4⟩
  · right
    refine ⟨rfl, ob, hd, ?_, R.tellLock hd (fun w e => by rw [hF] at e; cases e; exact .inl rfl) ho⟩
    rcases R.FU d u hF with z | ⟨ob', z⟩ | ⟨vs, z⟩
    · exact .inl z
    · have := R.unt d _ z; rw [hd] at this; cases this; exact .inr z
    · exact absurd z (i3 vs)
theorem dicA_ok {a : AV} {v : V} {t : Bool} {kvs : List (AV × AV)} {j : Option Nat} {S2 : SS} (R : Rep K U F ρ S σ H) (h : Emb K F ρ a v) (e : dicA S a = some (t, kvs, j, S2)) :
    ∃ d u, v = .ref d ∧ EmbKT K F ρ t kvs u ∧ (LkA K U F ρ j S2 σ H d u ∨ LkB K U F ρ j S2 σ H d u) := by
  cases a with
  | vd t' kvs' =>
    cases e
    obtain ⟨d, u, rfl, h1, h2⟩ := embVd h
    exact ⟨d, u, rfl, h2, lockV R h1 h2⟩
  | ref i =>
    simp only [Emb] at h
    obtain ⟨d, rfl, hj⟩ := h
    have e : (match S.hp[i]? with
      | some (.dic t kvs) => some (t, kvs, some i, ({ S with hp := S.hp.set i (.lck t kvs) } : SS))
      | some (.lck t kvs) => some (t, kvs, none, S)
      | _ => none) = some (t, kvs, j, S2) := e
    split at e
    · rename_i hc
      cases e
      obtain ⟨u, h1, h2⟩ := lockH R hj hc
      exact ⟨d, u, rfl, h1, .inl h2⟩
    · rename_i hc
      cases e
      obtain ⟨u, h1, h2⟩ := lockHB R hj hc
      exact ⟨d, u, rfl, h1, .inr h2⟩
    · cases e
  | _ => cases e
theorem dicL_ok {p : PV} {v : V} {t : Bool} {kvs : List (AV × AV)} {j : Option Nat} {S2 : SS} (R : Rep K U F ρ S σ H) (h : EmbP K F ρ σ p v) (e : dicL p S = some (t, kvs, j, S2)) :
    ∃ d u, v = .ref d ∧ EmbKT K F ρ t kvs u ∧ (LkA K U F ρ j S2 σ H d u ∨ LkB K U F ρ j S2 σ H d u) := by
  cases p with
  | av a => exact dicA_ok R h e
  | sl i =>
    have hσ : σ[i]? = some (some v) := h
    have e : (match S.sl[i]? with
      | some (some (.val a)) => dicA S a
      | some (some (.own (.dic t kvs))) => some (t, kvs, some S.hp.length, (⟨S.sl.set i (some (.val (.ref S.hp.length))), S.hp ++ [.lck t kvs]⟩ : SS))
      | _ => none) = some (t, kvs, j, S2) := e
    split at e
    · rename_i a ha
      obtain ⟨v', e1, e2⟩ := R.val i a ha
      rw [hσ] at e1; cases e1
      exact dicA_ok R e2 e
    · rename_i t' kvs' ha
      cases e
      obtain ⟨d, h1, R1, L⟩ := R.loosen ha
      rw [hσ] at h1; cases h1
      obtain ⟨R2, em, pr⟩ := R1.toHeap L
      have R3 := R2.reset (i := i) em hσ
      have e0 : ({ ({ S with sl := S.sl.set i none, hp := S.hp ++ [.dic t kvs] } : SS) with sl := (S.sl.set i none).set i (some (.val (.ref S.hp.length))) } : SS) = ⟨S.sl.set i (some (.val (.ref S.hp.length))), S.hp ++ [.dic t kvs]⟩ := by
        rw [List.set_set]
      have R3 : Rep K U F (ρ ++ [d]) ⟨S.sl.set i (some (.val (.ref S.hp.length))), S.hp ++ [.dic t kvs]⟩ σ H := by
        rw [← e0]; exact R3
      have hj : (ρ ++ [d])[S.hp.length]? = some d := by rw [← R.rln]; simp
      obtain ⟨u, h2, h3, h4, h5⟩ := lockH (t := t) (kvs := kvs) R3 hj (by simp)
      obtain ⟨u', w1, w2⟩ := embO_dic L.1
      have : u' = u := by rw [h3] at w1; cases w1; rfl
      subst this
      refine ⟨d, u', rfl, w2, .inl ⟨h3, h4, fun ob => ?_⟩⟩
      obtain ⟨ρ2, p2, r2, x1, x2⟩ := h5 ob
      refine ⟨ρ2, pr.trans p2, ?_, fun z => (by cases z), x2⟩
      have e3 : (S.hp ++ [AO.dic t kvs]).set S.hp.length (.lck t kvs) = S.hp ++ [.lck t kvs] := by rw [List.set_append_right _ _ (Nat.le_refl _), Nat.sub_self]; rfl
      rw [← e3]
      exact r2
    · cases e
end
end LM

namespace LM
open PyProof.Rows hiding St frameOf passOn
open PySem PySem.Spec L2
variable [TabNames]
section
variable {K : PySem.W.Frag} {U F H F' H' : Hp} {ρ ρ' : List Addr} {S S' : SS} {σ σ' : St}
/-- a tuple that stands is known -/
theorem Rep.adopt {q : Addr} {vs : List V} (R : Rep K U F ρ S σ H) (h : H q = some (.tup vs)) : ∃ F2, Same F F2 ∧ Rep K U F2 ρ S σ H ∧ F2 q = some (.tup vs) := by
  cases e : F q with
  | some w =>
    rcases R.fro q w e with z | ⟨i1, ob, z⟩
    · rw [h] at z; cases z; exact ⟨F, Same.refl _, R, e⟩
    · rw [h] at z; cases z
  | none =>
    have sm : Same F (upd F q (.tup vs)) := same_new e
    have nq : ∀ {p : Addr} {o : AO}, EmbO K F ρ H p o → p ≠ q := fun {p o} x z => by subst z; exact x.noTup h
    refine ⟨upd F q (.tup vs), sm, ⟨R.len, fun b o e => ?_, R.unt, R.rln, R.rnd, fun p hp => ?_, fun b o e => ?_, fun i o p e1 e2 => (R.hp i o p e1 e2).mono sm (List.prefix_refl _) rfl, fun i a e => ?_, fun i o e => ?_, R.tab.f (fun _ z => by cases z)⟩, upd_same⟩
    · by_cases hb : b = q
      · subst hb; rw [upd_same] at e; cases e; exact .inl h
      · rw [upd_ne hb] at e; exact R.fro b o e
    · have ne : p ≠ q := by
        obtain ⟨i, hi, e2⟩ := List.mem_iff_getElem.mp hp
        have e2 : ρ[i]? = some p := by rw [List.getElem?_eq_getElem hi, e2]
        obtain ⟨o, e1⟩ := R.idx e2
        exact nq (R.hp i o p e1 e2)
      rw [upd_ne ne]; exact R.rF p hp
    · by_cases hb : b = q
      · subst hb; rw [upd_same] at e; cases e; exact .inr (.inr ⟨vs, rfl⟩)
      · rw [upd_ne hb] at e; exact R.FU b o e
    · obtain ⟨v, e1, e2⟩ := R.val i a e
      exact ⟨v, e1, e2.mono sm (List.prefix_refl _)⟩
    · obtain ⟨p, e1, e2, e3, e4⟩ := R.own i o e
      exact ⟨p, e1, e2.mono sm (List.prefix_refl _) rfl, by rw [upd_ne (nq e2)]; exact e3, e4⟩
/-! ## what is walked, under one U -/
def ItU (K : PySem.W.Frag) (U F : Hp) (ρ : List Addr) (xs : List AV) (J : It) : Prop := ∀ F' ρ' S' σ' H', Same F F' → ρ <+: ρ' → Rep K U F' ρ' S' σ' H' →
  (∀ (i : Nat) (a : AV), xs[i]? = some a → J.go i H' ∧ ∀ x H'', J.yld i H' x H'' → ∃ F'', Same F' F'' ∧ Rep K U F'' ρ' S' σ' H'' ∧ Emb K F'' ρ' a x) ∧ J.stop xs.length H'
theorem embK_key {kvs : List (AV × AV)} {kv : List (Key × V)} (e : EmbK K F ρ kvs kv) : (kvs.map (·.1)).length = kv.length ∧ ∀ (i : Nat) (a : AV), (kvs.map (·.1))[i]? = some a → ∃ (k : Key) (v : V), kv[i]? = some (k, v) ∧ kOf a = some k := by
  induction kvs generalizing kv with
  | nil => simp only [EmbK] at e; subst e; exact ⟨rfl, fun i a h => by simp at h⟩
  | cons p r ih =>
    obtain ⟨k, x⟩ := p
    simp only [EmbK] at e
    obtain ⟨k', v, r', rfl, h1, _, h3⟩ := e
    obtain ⟨i1, i2⟩ := ih h3
    refine ⟨by simpa using i1, fun i a h => ?_⟩
    cases i with
    | zero => simp at h; subst h; exact ⟨k', v, rfl, h1⟩
    | succ i => exact i2 i a (by simpa using h)
theorem embT_key {kvs : List (AV × AV)} {kv : List (List Key × V)} (e : EmbT K F ρ kvs kv) : (kvs.map (·.1)).length = kv.length ∧ ∀ (i : Nat) (a : AV), (kvs.map (·.1))[i]? = some a → ∃ (k : List Key) (v : V), kv[i]? = some (k, v) ∧ tkOf a = some k := by
  induction kvs generalizing kv with
  | nil => simp only [EmbT] at e; subst e; exact ⟨rfl, fun i a h => by simp at h⟩
  | cons p r ih =>
    obtain ⟨k, x⟩ := p
    simp only [EmbT] at e
    obtain ⟨k', v, r', rfl, h1, _, h3⟩ := e
    obtain ⟨i1, i2⟩ := ih h3
    refine ⟨by simpa using i1, fun i a h => ?_⟩
    cases i with
    | zero => simp at h; subst h; exact ⟨k', v, rfl, h1⟩
    | succ i => exact i2 i a (by simpa using h)
theorem emb_key {a : AV} {k : Key} (h : kOf a = some k) : Emb K F ρ a (kV k) := by
  cases a with
  | int i => cases h; simp [Emb, kV]
  | str x => cases h; simp [Emb, kV]
  | _ => cases h
theorem emb_keys : ∀ {xs : List AV} {ks : List Key}, xs.mapM kOf = some ks → EmbL K F ρ xs (ks.map kV)
  | [], ks, h => by cases h; rfl
  | x :: xs, ks, h => by
    rw [List.mapM_cons] at h
    cases e1 : kOf x with
    | none => rw [e1] at h; cases h
    | some k =>
      rw [e1] at h
      cases e2 : xs.mapM kOf with
      | none => rw [e2] at h; cases h
      | some r =>
        rw [e2] at h
        cases h
        exact ⟨_, _, rfl, emb_key e1, emb_keys e2⟩
theorem itU_K {d : Addr} {ob : Obj} {kvs : List (AV × AV)} {kv : List (Key × V)} (e : EmbK K F ρ kvs kv) : ItU K (upd U d (.frz ob (.dK kv))) F ρ (kvs.map (·.1)) (Itk d ob kv) := by
  intro F' ρ' S' σ' H' sm pr R
  have hd : H' d = some (.frz ob (.dK kv)) := R.unt d _ upd_same
  obtain ⟨hl, hk⟩ := embK_key e
  refine ⟨fun i a ha => ?_, hd, by rw [hl]; exact Nat.le_refl _⟩
  obtain ⟨k, v, h1, h2⟩ := hk i a ha
  refine ⟨⟨hd, (List.getElem?_eq_some_iff.mp h1).1⟩, fun x H'' hy => ?_⟩
  obtain ⟨rfl, k', v', h3, rfl⟩ := hy
  rw [h1] at h3; cases h3
  exact ⟨F', Same.refl _, R, emb_key h2⟩
theorem itU_T {d : Addr} {ob : Obj} {kvs : List (AV × AV)} {kv : List (List Key × V)} (e : EmbT K F ρ kvs kv) : ItU K (upd U d (.frz ob (.dT kv))) F ρ (kvs.map (·.1)) (Itkt d ob kv) := by
  intro F' ρ' S' σ' H' sm pr R
  have hd : H' d = some (.frz ob (.dT kv)) := R.unt d _ upd_same
  obtain ⟨hl, hk⟩ := embT_key e
  refine ⟨fun i a ha => ?_, hd, by rw [hl]; exact Nat.le_refl _⟩
  obtain ⟨k, v, h1, h2⟩ := hk i a ha
  refine ⟨⟨hd, (List.getElem?_eq_some_iff.mp h1).1⟩, fun x H'' hy => ?_⟩
  obtain ⟨rfl, k', v', q, h3, rfl, hq⟩ := hy
  rw [h1] at h3; cases h3
  obtain ⟨F2, s2, R2, f2⟩ := R.adopt hq
  refine ⟨F2, s2, R2, ?_⟩
  cases a with
  | tup xs =>
    simp only [Emb]
    exact ⟨q, _, rfl, f2, emb_keys h2⟩
  | _ => cases h2
end
section
variable {X : Cx} {pn : Bool} {pos : Pos} {tg : Expr}
theorem forL_core {W : WX} {D : Ends} {g : AV → M Unit} {m : M Fl} {t : TG} (w : ∀ v σ H Q, tGt X.K (Zp pn) g v σ H Q → t v σ H Q) {U F1 H1 : Hp} {ρ1 : List Addr} {S1 : SS} {σ₁ : St} {xs : List AV} {J : It}
    (e1 : ItU X.K U F1 ρ1 xs J) (r1 : Rep X.K U F1 ρ1 S1 σ₁ H1) (p1 : SPost X.K U F1 ρ1 σ₁ pn D W (forL g m xs S1)) :
    ∃ W' : Nat → Nat → St → Hp → Prop, (∃ m, W' 0 m σ₁ H1) ∧ ∀ i k σ H, W' i k σ H → (J.stop i H ∧ D.nx σ H) ∨ (J.go i H ∧ ∃ N : St → Hp → Prop, (∀ σ' H', N σ' H' → ∃ m', m' < k ∧ W' (i + 1) m' σ' H') ∧ ∀ x H', J.yld i H x H' → t x σ H' fun σ2 H2 => tS X.K W pn m { D with nx := N, ct := N, bk := D.nx } σ2 H2) := by
  refine ⟨fun i k σ H => k = xs.length - i ∧ i ≤ xs.length ∧ ∃ F ρ S, Same F1 F ∧ ρ1 <+: ρ ∧ Rep X.K U F ρ S σ H ∧ SPost X.K U F ρ σ pn D W (forL g m (xs.drop i) S), ⟨xs.length, by simp, Nat.zero_le _, F1, ρ1, S1, Same.refl _, List.prefix_refl _, r1, by simpa using p1⟩, ?_⟩
  rintro i k σ H ⟨rfl, hi, F, ρ, S, sm, pr, R, p⟩
  obtain ⟨it1, it2⟩ := e1 F ρ S σ H sm pr R
  by_cases hlt : i < xs.length
  · have hx : xs[i]? = some xs[i] := List.getElem?_eq_getElem hlt
    have hd : xs.drop i = xs[i] :: xs.drop (i + 1) := List.drop_eq_getElem_cons hlt
    rw [hd] at p
    obtain ⟨go, yld⟩ := it1 i xs[i] hx
    refine .inr ⟨go, fun σ' H' => ∃ F ρ S, Same F1 F ∧ ρ1 <+: ρ ∧ Rep X.K U F ρ S σ' H' ∧ SPost X.K U F ρ σ' pn D W (forL g m (xs.drop (i + 1)) S), fun σ' H' h => ⟨xs.length - (i + 1), by omega, rfl, hlt, h⟩, fun x H' hy => ?_⟩
    obtain ⟨F2, sm2, R2, em⟩ := yld x H' hy
    have p := SPost.up (σ1 := σ) sm2 (List.prefix_refl _) (fun _ => rfl) p
    have p : SPost X.K U F2 ρ σ pn D W (match g xs[i] S with
      | .ok _ s => (match m s with
        | .ok .nx s => forL g m (xs.drop (i + 1)) s
        | .ok .ct s => forL g m (xs.drop (i + 1)) s
        | .ok .bk s => .ok .nx s
        | r => r)
      | _ => .stuck) := p
    refine w _ _ _ _ ⟨U, F2, ρ, S, xs[i], R2, em, ?_⟩
    cases z : g xs[i] S with
    | stuck => rw [z] at p; exact p
    | exn c s => rw [z] at p; exact p
    | ok u S3 =>
      rw [z] at p
      intro F3 ρ3 σ3 H3 s3 q3 r3 k3
      refine ⟨U, F3, ρ3, S3, r3, ?_⟩
      have p := SPost.up s3 q3 k3 p
      cases z2 : m S3 with
      | stuck => simp only [z2] at p; exact p
      | exn c s => simp only [z2] at p; exact p
      | ok a S4 =>
        simp only [z2] at p
        cases a with
        | nx => exact fun F4 ρ4 σ4 H4 s4 q4 r4 k4 => ⟨F4, ρ4, S4, ((sm.trans sm2).trans s3).trans s4, (pr.trans q3).trans q4, r4, SPost.up s4 q4 k4 p⟩
        | ct => exact fun F4 ρ4 σ4 H4 s4 q4 r4 k4 => ⟨F4, ρ4, S4, ((sm.trans sm2).trans s3).trans s4, (pr.trans q3).trans q4, r4, SPost.up s4 q4 k4 p⟩
        | bk => exact p
        | rt v => exact p
  · have e : i = xs.length := by omega
    subst e
    rw [List.drop_length] at p
    exact .inl ⟨it2, p F ρ σ H (Same.refl _) (List.prefix_refl _) R fun _ => rfl⟩
/-! ## for over whatever stands there -/
def unlF (j : Option Nat) (r : Res Fl) : Res Fl := match r with
  | .ok a s => match unlk j s with
    | some s => .ok a s
    | none => .stuck
  | r => r
def forDM (f : M PV) (g : AV → M Unit) (b : M Fl) : M Fl := bindM f fun p s => match dicL p s with
  | some (_, kvs, j, s1) => unlF j (forL g b (kvs.map (·.1)) s1)
  | none => .stuck
theorem SPost.unlA {W : WX} {D : Ends} {U F1 : Hp} {ρ1 ρ2 : List Addr} {σ₁ : St} {d : Addr} {u : HO} {ob : Obj} {j : Option Nat} {r : Res Fl} (hU : U d = none) (hF : j = none → F1 d = some u) (pr2 : ρ1 <+: ρ2) (hj : ∀ j', j = some j' → ρ2[j']? = some d) (hn : NoFz X d)
    (p : SPost X.K U F1 ρ1 σ₁ pn D W (unlF j r)) : SPost X.K (upd U d (.frz ob u)) F1 ρ2 σ₁ pn (unlE X D) W r := by
  cases r with
  | stuck => exact p
  | exn c s => exact fun F' ρ' σ' H' s' q' R' => p F' ρ' σ' H' s' (pr2.trans q') (R'.dropLock (.inl hU))
  | ok a s =>
    have p : SPost X.K U F1 ρ1 σ₁ pn D W (match unlk j s with | some s => .ok a s | none => .stuck) := p
    cases z : unlk j s with
    | none => rw [z] at p; exact p.elim
    | some s3 =>
      rw [z] at p
      have un : ∀ {F' ρ' σ' H'}, Same F1 F' → ρ2 <+: ρ' → Rep X.K (upd U d (.frz ob u)) F' ρ' s σ' H' → Rep X.K U F' ρ' s3 σ' (upd H' d u) ∧ UnH X H' (upd H' d u) := fun {F' ρ' σ' H'} s' q' R' =>
        ⟨R'.unlk hU (fun e => s' _ _ (hF e)) (fun j' e => pre_get q' (hj j' e)) z, .inr ⟨d, ob, u, R'.unt d _ upd_same, hn, rfl⟩⟩
      cases a with
      | nx => exact fun F' ρ' σ' H' s' q' R' k => ⟨_, (un s' q' R').2, p F' ρ' σ' _ s' (pr2.trans q') (un s' q' R').1 k⟩
      | bk => exact fun F' ρ' σ' H' s' q' R' k => ⟨_, (un s' q' R').2, p F' ρ' σ' _ s' (pr2.trans q') (un s' q' R').1 k⟩
      | ct => exact fun F' ρ' σ' H' s' q' R' k => ⟨_, (un s' q' R').2, p F' ρ' σ' _ s' (pr2.trans q') (un s' q' R').1 k⟩
      | rt v => exact fun F' ρ' σ' H' w s' q' R' k => ⟨_, (un s' q' R').2, p F' ρ' σ' _ w s' (pr2.trans q') (un s' q' R').1 k⟩
theorem SPost.unlB {W : WX} {D : Ends} {U F1 : Hp} {ρ1 : List Addr} {σ₁ : St} {d : Addr} {u : HO} {ob : Obj} {r : Res Fl} (hU : U d = none ∨ U d = some (.frz ob u))
    (p : SPost X.K U F1 ρ1 σ₁ pn D W (unlF none r)) : SPost X.K (upd U d (.frz ob u)) F1 ρ1 σ₁ pn (unlE X D) W r := by
  cases r with
  | stuck => exact p
  | exn c s => exact fun F' ρ' σ' H' s' q' R' => p F' ρ' σ' H' s' q' (R'.dropLock hU)
  | ok a s =>
    have p : SPost X.K U F1 ρ1 σ₁ pn D W (.ok a s) := p
    cases a with
    | nx => exact fun F' ρ' σ' H' s' q' R' k => ⟨_, .inl rfl, p F' ρ' σ' _ s' q' (R'.dropLock hU) k⟩
    | bk => exact fun F' ρ' σ' H' s' q' R' k => ⟨_, .inl rfl, p F' ρ' σ' _ s' q' (R'.dropLock hU) k⟩
    | ct => exact fun F' ρ' σ' H' s' q' R' k => ⟨_, .inl rfl, p F' ρ' σ' _ s' q' (R'.dropLock hU) k⟩
    | rt v => exact fun F' ρ' σ' H' w s' q' R' k => ⟨_, .inl rfl, p F' ρ' σ' _ w s' q' (R'.dropLock hU) k⟩
theorem psm_forD {iter : Expr} {body : List Stmt} {f : M PV} {g : AV → M Unit} {m : M Fl} (hpo : PassesOwn (model X.prog X.w) X.A X.env X.xe) (hc : X.calm = true) (hf : PPm X iter f) (hg : PGm X (Zp pn) tg g) (hb : PSsm X pn body m)
    (hs : ∀ x, foldedSetIterable iter X.env x = pure x := by intro _; rfl) : PSm X pn (.For tg iter body [] pos) (forDM f g m) := fun W tk => by
  obtain ⟨t, hg, w⟩ := hg
  refine PS.weak (ps_unl (ps_for hpo hc (pi_lock (hf W tk)) hg (hb W tk) hs)) fun σ₀ H₀ D ⟨U, F₀, ρ₀, S₀, R₀, p₀⟩ => ⟨U, F₀, ρ₀, S₀, R₀, SPost.seq p₀ fun F1 ρ1 S1 H1 pv v s1 q1 r1 e1 p1 => ?_⟩
  change EmbP X.K F1 ρ1 σ₀ pv v at e1
  cases z : dicL pv S1 with
  | none => rw [z] at p1; exact p1.elim
  | some r =>
    obtain ⟨tt, kvs, j, S2⟩ := r
    rw [z] at p1
    have p1 : SPost X.K U F1 ρ1 σ₀ pn D W (unlF j (forL g m (kvs.map (·.1)) S2)) := p1
    obtain ⟨d, u, rfl, ek, lk⟩ := dicL_ok r1 e1 z
    refine ⟨d, rfl, ?_⟩
    rcases lk with ⟨hd, hU, lk⟩ | ⟨rfl, ob, hd, hU, R2⟩
    · rcases ek with ⟨_, kv, rfl, ek⟩ | ⟨_, kv, rfl, ek⟩
      · refine .inl ⟨kv, hd, fun hn od => ?_⟩
        obtain ⟨ρ2, pr2, R2, x1, x2⟩ := lk od
        exact forL_core w (itU_K (ek.mono (Same.refl _) pr2)) R2 (p1.unlA hU x1 pr2 x2 hn)
      · refine .inr (.inl ⟨kv, hd, fun hn od => ?_⟩)
        obtain ⟨ρ2, pr2, R2, x1, x2⟩ := lk od
        exact forL_core w (itU_T (ek.mono (Same.refl _) pr2)) R2 (p1.unlA hU x1 pr2 x2 hn)
    · rcases ek with ⟨_, kv, rfl, ek⟩ | ⟨_, kv, rfl, ek⟩
      · exact .inr (.inr (.inl ⟨ob, kv, hd, forL_core w (itU_K ek) R2 (p1.unlB hU)⟩))
      · exact .inr (.inr (.inr ⟨ob, kv, hd, forL_core w (itU_T ek) R2 (p1.unlB hU)⟩))
/-- by what stands there -/
def pickM {α : Type} (c : SS → Bool) (m1 m2 : M α) : M α := fun s => bif c s then m1 s else m2 s
theorem psm_pick {st : Stmt} {c : SS → Bool} {m1 m2 : M Fl} (h1 : PSm X pn st m1) (h2 : PSm X pn st m2) : PSm X pn st (pickM c m1 m2) := fun W tk =>
  ⟨fun pins s σ H D I ⟨U, F, ρ, S, R, p⟩ => by
    unfold pickM at p
    cases z : c S with
    | true => rw [z] at p; exact (h1 W tk).run pins s σ H D I ⟨U, F, ρ, S, R, p⟩
    | false => rw [z] at p; exact (h2 W tk).run pins s σ H D I ⟨U, F, ρ, S, R, p⟩⟩
theorem pm_pick {e : Expr} {c : SS → Bool} {m1 m2 : M AV} (h1 : PEm X e m1) (h2 : PEm X e m2) : PEm X e (pickM c m1 m2) := fun W tk =>
  ⟨fun pins s σ H Q I ⟨U, F, ρ, S, R, p⟩ => by
    unfold pickM at p
    cases z : c S with
    | true => rw [z] at p; exact (h1 W tk).run pins s σ H Q I ⟨U, F, ρ, S, R, p⟩
    | false => rw [z] at p; exact (h2 W tk).run pins s σ H Q I ⟨U, F, ρ, S, R, p⟩⟩
theorem pn_pick {e : Expr} {c : SS → Bool} {m1 m2 : M AO} (h1 : PNm X e m1) (h2 : PNm X e m2) : PNm X e (pickM c m1 m2) := fun W tk =>
  ⟨fun pins s σ H Q I ⟨U, F, ρ, S, R, p⟩ => by
    unfold pickM at p
    cases z : c S with
    | true => rw [z] at p; exact (h1 W tk).run pins s σ H Q I ⟨U, F, ρ, S, R, p⟩
    | false => rw [z] at p; exact (h2 W tk).run pins s σ H Q I ⟨U, F, ρ, S, R, p⟩⟩
theorem pt_pick {e : Expr} {c : SS → Bool} {m1 m2 : M Bool} (h1 : PTm X e m1) (h2 : PTm X e m2) : PTm X e (pickM c m1 m2) := fun W tk =>
  ⟨fun pins s σ H Q I ⟨U, F, ρ, S, R, p⟩ => by
    unfold pickM at p
    cases z : c S with
    | true => rw [z] at p; exact (h1 W tk).run pins s σ H Q I ⟨U, F, ρ, S, R, p⟩
    | false => rw [z] at p; exact (h2 W tk).run pins s σ H Q I ⟨U, F, ρ, S, R, p⟩⟩
def isDict (f : M PV) : SS → Bool := fun s => match f s with
  | .ok p s1 => (match coP p s1 with | .ob (.dic _ _) => true | _ => false)
  | _ => false
def forXM (f : M PV) (it : M (List AV)) (g : AV → M Unit) (b : M Fl) : M Fl := pickM (isDict f) (forDM f g b) (forM it g b)
theorem psm_forX {iter : Expr} {body : List Stmt} {f : M PV} {it : M (List AV)} {g : AV → M Unit} {m : M Fl} (hpo : PassesOwn (model X.prog X.w) X.A X.env X.xe) (hc : X.calm = true) (hf : PPm X iter f) (hi : PIm X tg iter it) (hg : PGm X (Zp pn) tg g) (hb : PSsm X pn body m)
    (hs : ∀ x, foldedSetIterable iter X.env x = pure x := by intro _; rfl) : PSm X pn (.For tg iter body [] pos) (forXM f it g m) := psm_pick (psm_forD hpo hc hf hg hb hs) (psm_for hpo hc hi hg hb hs)
end
end LM

namespace LMQ
open PySem PySem.SeqAt PySem.Spec PyProof.Rows
open PySem.AutoSeq1 (wpAny_loadPart')
open PySem.MeetsSeq PySem.MeetsSeq2 PySem.MeetsSeq3 PySem.SeqRoads2
/-! ## != of lists whose items are told equal within one model -/
section
variable {prog : Program} {w : World}
theorem ne_run (p q : Addr) (us vs : Array Value) (n m : Nat) (dp dq : Option Addr) (sp sq : Array (Option Value)) (hz : us.size = vs.size) (e : Nat → Bool) (k : Nat) :
    ∀ i : Nat, us.size - i = k → MeetsIn prog w (Builtin.«list.__eq__.loop» ⟨[.ref p, .ref q, rawInt i, rawInt 3], []⟩)
      (fun A R s => s.heap.get? p = some { cls := .type "list", dict := dp, data := .seq us n, slots := sp } ∧ s.heap.get? q = some { cls := .type "list", dict := dq, data := .seq vs m, slots := sq } ∧
        (∀ j (h1 : j < us.size) (h2 : j < vs.size), EqP prog w A.in1 s us[j] vs[j] (e j)) ∧ R (.ok (.ret (.bool (!((List.range us.size).drop i).all e)))) s) := by
  induction k with
  | zero =>
    intro i hk A R s h
    obtain ⟨hp, g, d, tk, os⟩ := s; obtain ⟨h1, h2, he, h⟩ := h
    wp_walk using wpAny_loadPart' h1, wpAny_loadPart' h2
    have i1 : us[((i : Nat) : Int).toNat]? = none := by simp; omega
    have i2 : vs[((i : Nat) : Int).toNat]? = none := by simp; omega
    have z : (List.range us.size).drop i = [] := by simp; omega
    rw [z] at h
    rw [i1, i2]
    wp_walk using wpAny_loadPart' h1, wpAny_loadPart' h2
    show R (.ok (.ret (.bool (us.size != vs.size)))) _
    rw [hz]
    simpa using h
  | succ k ih =>
    intro i hk A R s h
    obtain ⟨hp, g, d, tk, os⟩ := s; obtain ⟨h1, h2, he, h⟩ := h
    wp_walk using wpAny_loadPart' h1, wpAny_loadPart' h2
    have l1 : i < us.size := by omega
    have l2 : i < vs.size := by omega
    have i1 : us[((i : Nat) : Int).toNat]? = some us[i] := by simp [l1]
    have i2 : vs[((i : Nat) : Int).toNat]? = some vs[i] := by simp [l2]
    have z : (List.range us.size).drop i = i :: (List.range us.size).drop (i + 1) := by simp [List.drop_eq_getElem_cons, l1]
    have c : ((i : Int) + 1) = ((i + 1 : Nat) : Int) := by push_cast; rfl
    rw [z, List.all_cons] at h
    rw [i1, i2]
    refine wpAny_bind (he i l1 l2 _ _ ?_)
    cases ei : e i with
    | true =>
      rw [ei] at h
      wp_walk
      rw [c]
      exact ⟨plainId_quiet plain_eq_loop _, codeAny_builtin entry_eq_loop (by
        rw [Around.under_plainId plain_eq_loop _]
        exact ih (i + 1) (by omega) A R _ ⟨h1, h2, he, by simpa using h⟩)⟩
    | false =>
      rw [ei] at h
      wp_walk using wpAny_loadPart' h1, wpAny_loadPart' h2
      rw [i1, i2]
      wp_walk
      simpa using h
theorem ne_in (p q : Addr) (us vs : Array Value) (n m : Nat) (dp dq : Option Addr) (sp sq : Array (Option Value)) (hz : us.size = vs.size) (e : Nat → Bool) :
    MeetsIn prog w (Builtin.«list.__ne__» ⟨[.ref p, .ref q], []⟩)
      (fun A R s => s.heap.get? p = some { cls := .type "list", dict := dp, data := .seq us n, slots := sp } ∧ s.heap.get? q = some { cls := .type "list", dict := dq, data := .seq vs m, slots := sq } ∧
        (∀ j (h1 : j < us.size) (h2 : j < vs.size), EqP prog w A.in1 s us[j] vs[j] (e j)) ∧ R (.ok (.ret (.bool (!(List.range us.size).all e)))) s) := by
  intro A R s h
  obtain ⟨hp, g, d, tk, os⟩ := s; obtain ⟨h1, h2, he, h⟩ := h
  have f3 := AutoSeq1.sub_list_list
  have hne : ¬ (us.size != vs.size) = true := by simp [hz]
  wp_walk using wpAny_loadPart' h1, wpAny_loadPart' h2
  exact ⟨plainId_quiet plain_eq_loop _, codeAny_builtin entry_eq_loop (by
    rw [Around.under_plainId plain_eq_loop _]
    exact ne_run p q us vs n m dp dq sp sq hz e _ 0 rfl A R _ ⟨h1, h2, he, by simpa using h⟩)⟩
def opv (neg : Bool) : CmpOp := if neg then .NotEq else .Eq
def ngv : Bool → Bool → Bool
  | false, b => b
  | true, b => !b
theorem rc_lists {neg : Bool} {A : Around} {s : Shared} {p q : Addr} {us vs : Array Value} {e : Nat → Bool} (h1 : s.heap.IsList p us) (h2 : s.heap.IsList q vs) (hz : us.size = vs.size) (hu : A.units < cLine)
    (he : ∀ j (h1 : j < us.size) (h2 : j < vs.size), EqP prog w A.in1 s us[j] vs[j] (e j)) (E Q : Value → Shared → Prop) (h : Q (.bool (ngv neg ((List.range us.size).all e))) s) : wpAny (model prog w) A (richCompare (opv neg) (.ref p) (.ref q)) Q E s := by
  cases neg with
  | false => exact rcP_lists h1 h2 hz hu he E Q h
  | true =>
    obtain ⟨⟨cl, dp, data, sp⟩, ho, hc, n, hd⟩ := id h1
    obtain ⟨⟨cl2, dq, data2, sq⟩, ho2, hc2, m, hd2⟩ := id h2
    simp only at hc hd hc2 hd2
    subst hc hd hc2 hd2
    have ta : s.TypeIs (.ref p) "list" := ⟨_, ho, rfl⟩
    have tb : s.TypeIs (.ref q) "list" := ⟨_, ho2, rfl⟩
    exact wpAny_richCompare_same_room (op := .NotEq) ta tb F.slot_list_ne (call_meetsIn F.slot_list_ne ta F.entry_list_ne (F.args_list_ne_2 _ _) (ne_in p q us vs n m dp dq sp sq hz e)
      ⟨ho, ho2, he, show Value.bool (!(List.range us.size).all e) ≠ Value.notImplemented ∧ Q (.bool (!(List.range us.size).all e)) s from ⟨(fun x => nomatch x), h⟩⟩) hu
theorem rc_lens {neg : Bool} {A : Around} {s : Shared} {p q : Addr} {us vs : Array Value} (h1 : s.heap.IsList p us) (h2 : s.heap.IsList q vs) (hz : (us.size != vs.size) = true) (hu : A.units < cLine)
    (E Q : Value → Shared → Prop) (h : Q (.bool (ngv neg false)) s) : wpAny (model prog w) A (richCompare (opv neg) (.ref p) (.ref q)) Q E s := by
  cases neg with
  | false => exact RcAt.lists_lengths h1 h2 hz hu prog w E Q h
  | true => exact RcNeAt.lists_lengths h1 h2 hz hu prog w E Q h
end
end LMQ
namespace LMQ
open PySem PySem.W PySem.Calls PyProof.Rows PyProof.V PySem.Spec
section
variable {prog : Program} {w : World} {K : Type} [DecidableEq K] {knd : KeyKind prog w K} {A : Around} {s : Shared}
def dslot (neg : Bool) : String := if neg then "__ne__" else "__eq__"
theorem rc_dicts {neg : Bool} {p q : Addr} {ka kb : List (K × Value)} {r : Bool} (hp : (p == sysModules) = false) (hq : (q == sysModules) = false)
    (da : s.heap.DictOf knd p ka) (db : s.heap.DictOf knd q kb) (hu : A.units < cLine) (hits : ka.length = kb.length → KeqHitsP prog w A.in1 s kb ka r) (E Q : Value → Shared → Prop) (h : Q (.bool (ngv neg (ka.length == kb.length && r))) s) : wpAny (model prog w) A (richCompare (opv neg) (.ref p) (.ref q)) Q E s := by
  cases neg with
  | false => exact rcP_dicts hp hq da db hu hits E Q h
  | true =>
    refine wpAny_richCompare_same_room (op := .NotEq) da.typeIs db.typeIs PySem.F.slot_dict_ne (wpAny_call_entry PySem.F.slot_dict_ne da.typeIs PySem.F.entry_dict_ne ?_ (PySem.F.args_dict_ne_2 _ _)) hu
    show wpAny _ _ (Builtin.Dict.dictSlotArgs "__ne__" ⟨[.ref p, .ref q], []⟩ >>= _) _ _ s
    refine wpAny_bind ?_
    unfold Builtin.Dict.dictSlotArgs
    refine wpAny_bind (wpAny_notOrdered_dict da.typeIs ?_)
    show wpAny _ _ (pure (Value.ref p, Value.ref q)) _ _ s
    refine wpAny_pure ?_
    refine wpAny_bind (wpAny_isInstance (T := "dict") db.typeIs PySem.F.sub_dict_dict ?_)
    simp only [Bool.not_true, Bool.false_eq_true, if_false]
    refine wpAny_bind (wpAny_pure (wpAny_bind (wpAny_pure ?_)))
    refine wpAny_bind (samePairsP hp hq da db hits ?_)
    refine wpAny_pure ⟨_, rfl, ?_, ?_⟩
    · exact fun x => nomatch x
    · simpa [ngv] using h
end
section
variable {prog : Program} {w : World} {A : Around} {s : Shared}
/-- a dict by its entries -/
def RawD (h : Heap) (a : Addr) (n : Nat) : Prop := (a == sysModules) = false ∧ ∃ o es ep, h.get? a = some o ∧ o.ExactDict ∧ o.data = .dict es ep ∧ es.size = n
theorem RawD.ty {a : Addr} {n : Nat} (h : RawD s.heap a n) : s.TypeIs (.ref a) "dict" := let ⟨_, o, _, _, e, x, _⟩ := h; ⟨o, e, x.1⟩
theorem rc_sizes {neg : Bool} {p q : Addr} {n m : Nat} {r : Bool} (da : RawD s.heap p n) (db : RawD s.heap q m) (hu : A.units < cLine) (hr : (n ≠ m ∧ r = false) ∨ (n = 0 ∧ m = 0 ∧ r = true)) (E Q : Value → Shared → Prop) (h : Q (.bool (ngv neg r)) s) :
    wpAny (model prog w) A (richCompare (opv neg) (.ref p) (.ref q)) Q E s := by
  have ta := da.ty
  have tb := db.ty
  obtain ⟨hp, oa, es, ep, hoa, xa, hda, za⟩ := da
  obtain ⟨hq, ob, es', ep', hob, xb, hdb, zb⟩ := db
  have run : ∀ (nm : String) (R : Bool → Shared → Prop), R r s → wpAny (model prog w) A.in1 (Builtin.Dict.samePairs nm p q) R E s := by
    intro nm R hR
    unfold Builtin.Dict.samePairs Builtin.Dict.showsAll
    rw [if_neg (show ¬ (p == sysModules) = true by rw [hp]; exact Bool.false_ne_true), if_neg (show ¬ (q == sysModules) = true by rw [hq]; exact Bool.false_ne_true)]
    refine wpAny_bind (wpAny_pure (wpAny_bind (wpAny_pure ?_)))
    refine wpAny_bind (wpAny_dictEntries hoa hda ?_)
    dsimp only
    refine wpAny_bind (wpAny_dictEntries hob hdb ?_)
    rcases hr with ⟨hne, rfl⟩ | ⟨rfl, rfl, rfl⟩
    · rw [if_pos (by rw [za, zb]; simpa using hne)]
      exact wpAny_bind (wpAny_rule (wpAny_pure hR))
    · rw [if_neg (by rw [za, zb]; simp)]
      refine wpAny_bind (wpAny_dictEpoch hoa hda ?_)
      refine wpAny_bind ?_
      rw [Std.Legacy.Range.forIn_eq_forIn_range']
      simp only [Std.Legacy.Range.size, Nat.sub_zero, Nat.add_sub_cancel, Nat.div_one, za]
      exact wpAny_pure (wpAny_pure hR)
  cases neg with
  | false =>
    refine wpAny_richCompare_same_room (op := .Eq) ta tb PySem.F.slot_dict_eq (wpAny_call_entry PySem.F.slot_dict_eq ta PySem.F.entry_dict_eq ?_ (PySem.F.args_dict_eq_2 _ _)) hu
    show wpAny _ _ (Builtin.Dict.dictSlotArgs "__eq__" ⟨[.ref p, .ref q], []⟩ >>= _) _ _ s
    refine wpAny_bind ?_
    unfold Builtin.Dict.dictSlotArgs
    refine wpAny_bind (wpAny_notOrdered_dict ta ?_)
    show wpAny _ _ (pure (Value.ref p, Value.ref q)) _ _ s
    refine wpAny_pure ?_
    refine wpAny_bind (wpAny_isInstance (T := "dict") tb PySem.F.sub_dict_dict ?_)
    simp only [Bool.not_true, Bool.false_eq_true, if_false]
    refine wpAny_bind (wpAny_pure (wpAny_bind (wpAny_pure ?_)))
    refine wpAny_bind (run _ _ ?_)
    refine wpAny_pure ⟨_, rfl, ?_, ?_⟩
    · exact fun x => nomatch x
    · simpa [ngv] using h
  | true =>
    refine wpAny_richCompare_same_room (op := .NotEq) ta tb PySem.F.slot_dict_ne (wpAny_call_entry PySem.F.slot_dict_ne ta PySem.F.entry_dict_ne ?_ (PySem.F.args_dict_ne_2 _ _)) hu
    show wpAny _ _ (Builtin.Dict.dictSlotArgs "__ne__" ⟨[.ref p, .ref q], []⟩ >>= _) _ _ s
    refine wpAny_bind ?_
    unfold Builtin.Dict.dictSlotArgs
    refine wpAny_bind (wpAny_notOrdered_dict ta ?_)
    show wpAny _ _ (pure (Value.ref p, Value.ref q)) _ _ s
    refine wpAny_pure ?_
    refine wpAny_bind (wpAny_isInstance (T := "dict") tb PySem.F.sub_dict_dict ?_)
    simp only [Bool.not_true, Bool.false_eq_true, if_false]
    refine wpAny_bind (wpAny_pure (wpAny_bind (wpAny_pure ?_)))
    refine wpAny_bind (run _ _ ?_)
    refine wpAny_pure ⟨_, rfl, ?_, ?_⟩
    · exact fun x => nomatch x
    · simpa [ngv] using h
end
end LMQ

namespace LM
open PyProof.Rows hiding St frameOf passOn
open PySem PySem.Spec L2
/-! ## == of anything: lists and dicts within lists and dicts -/
inductive HitV (E : V → V → Bool → Prop) (ls : List (Key × V)) : List (Key × V) → Bool → Prop
  | nil : HitV E ls [] true
  | miss {k : Key} {v : V} {r : List (Key × V)} : valV ls k = none → HitV E ls ((k, v) :: r) false
  | hit {k : Key} {v u : V} {r : List (Key × V)} {e b : Bool} : valV ls k = some u → E v u e → HitV E ls r b → HitV E ls ((k, v) :: r) (e && b)
inductive Z3 (E : V → V → Bool → Prop) : List V → List V → Bool → Prop
  | nil : Z3 E [] [] true
  | cons {x y : V} {xs ys : List V} {e b : Bool} : E x y e → Z3 E xs ys b → Z3 E (x :: xs) (y :: ys) (e && b)
def DSz (H : Hp) (a : Addr) (n : Nat) : Prop := (∃ ks, Rd H a (.dK ks) ∧ ks.length = n) ∨ ∃ ks, Rd H a (.dT ks) ∧ ks.length = n
def EqVB (K : PySem.W.Frag) (H : Hp) : Nat → V → V → Bool → Prop
  | 0 => fun _ _ _ => False
  | n + 1 => fun x y b => (∃ d e, Dp K H x d ∧ Dp K H y e ∧ SeqAt.shaped d = true ∧ SeqAt.shaped e = true ∧ b = PyData.eqv d e) ∨
    (∃ p q xs ys, x = .ref p ∧ y = .ref q ∧ SqL K H p xs ∧ SqL K H q ys ∧ Z3 (EqVB K H n) xs ys b) ∨
    (∃ p q xs ys, x = .ref p ∧ y = .ref q ∧ SqL K H p xs ∧ SqL K H q ys ∧ xs.length ≠ ys.length ∧ b = false) ∨
    (∃ p q ks ls, x = .ref p ∧ y = .ref q ∧ Rd H p (.dK ks) ∧ Rd H q (.dK ls) ∧ ks.length = ls.length ∧ HitV (EqVB K H n) ls ks b) ∨
    ∃ p q n m, x = .ref p ∧ y = .ref q ∧ DSz H p n ∧ DSz H q m ∧ ((n ≠ m ∧ b = false) ∨ (n = 0 ∧ m = 0 ∧ b = true))
theorem Z3.len {E : V → V → Bool → Prop} {xs ys : List V} {b : Bool} (h : Z3 E xs ys b) : xs.length = ys.length := by
  induction h with
  | nil => rfl
  | cons _ _ ih => simp [ih]
theorem z3_run {P : Program} {w : World} {A : Around} {s : Shared} {E : V → V → Bool → Prop} (ih : ∀ x y b v u, E x y b → RelV x v → RelV y u → SeqAt.EqP P w A s v u b) {xs ys : List V} {b : Bool} (h : Z3 E xs ys b) :
    ∀ {us ws : List Value}, Vals xs us → Vals ys ws → ∃ e : Nat → Bool, (∀ j (h1 : j < us.length) (h2 : j < ws.length), SeqAt.EqP P w A s us[j] ws[j] (e j)) ∧ (List.range us.length).all e = b := by
  induction h with
  | nil =>
    intro us ws r1 r2
    cases r1
    exact ⟨fun _ => true, fun j h => absurd h (Nat.not_lt_zero j), rfl⟩
  | @cons x y xs ys e b h _ k =>
    intro us ws r1 r2
    cases r1 with
    | cons a1 b1 =>
      cases r2 with
      | cons a2 b2 =>
        obtain ⟨f, f1, f2⟩ := k b1 b2
        refine ⟨fun j => match j with | 0 => e | j + 1 => f j, fun j h1 h2 => ?_, ?_⟩
        · cases j with
          | zero => exact ih _ _ _ _ _ h a1 a2
          | succ j => exact f1 j (Nat.lt_of_succ_lt_succ h1) (Nat.lt_of_succ_lt_succ h2)
        · rw [List.length_cons, List.range_succ_eq_map, List.all_cons, List.all_map]
          exact congrArg (e && ·) f2
theorem hit_run {P : Program} {w : World} {A : Around} {s : Shared} {E : V → V → Bool → Prop} (ih : ∀ x y b v u, E x y b → RelV x v → RelV y u → SeqAt.EqP P w A s v u b) {ls : List (Key × V)} {vb : List (Key × Value)} (rb : KV ls vb) {ks : List (Key × V)} {b : Bool} (h : HitV E ls ks b) :
    ∀ {va : List (Key × Value)}, KV ks va → PySem.W.KeqHitsP P w A s vb va b := by
  unfold KV
  induction h with
  | nil => intro va r; cases r; exact .nil
  | @miss k v r hn =>
    intro va rr
    cases rr with
    | @cons _ q _ qs h t =>
      obtain ⟨key, u⟩ := q
      have hk : k = key := h.1
      subst hk
      have z := rb.val k
      rw [hn] at z
      refine .miss ?_
      cases hv : valueAt vb k with
      | none => rfl
      | some y => rw [hv] at z; exact z.elim
  | @hit k v u r e b hv he _ kk =>
    intro va rr
    cases rr with
    | @cons _ q _ qs h t =>
      obtain ⟨key, w'⟩ := q
      have hk : k = key := h.1
      subst hk
      have z := rb.val k
      rw [hv] at z
      obtain ⟨y, hy, ry⟩ := z.some_of
      exact .hit hy (ih _ _ _ _ _ he h.2 ry) (kk t)
section
variable {X : Cx} {pins : List (Addr × Obj)} {σ : St} {H : Hp} {s : Shared}
theorem dp_inj (I : Inv X pins σ H s) : ∀ (d : PyData) (x : V) (e : PyData), Dp X.K H x d → Dp X.K H x e → d = e := by
  intro d x e h
  revert e
  refine Dp.rec (motive_1 := fun x d _ => ∀ e, Dp X.K H x e → d = e) (motive_2 := fun xs ds _ => ∀ es, DpAll X.K H xs es → ds = es) ?_ ?_ ?_ ?_ ?_ ?_ ?_ ?_ h
  · intro e q; cases q; rfl
  · intro b e q; cases q; rfl
  · intro b e q; cases q; rfl
  · intro b e q; cases q; rfl
  · intro a xs ds h1 _ ih e q
    cases q with
    | lst h2 h3 => rw [← I.list_inj h1 h2] at h3; rw [ih _ h3]
    | tup h2 h3 =>
      obtain ⟨its, _, p1, _⟩ := I.list h1
      obtain ⟨its2, _, p2, _⟩ := I.tuple h2
      exact absurd rfl (SeqAt.ne_of_list_tuple p1.isList p2)
  · intro a xs ds h1 _ ih e q
    cases q with
    | tup h2 h3 => rw [← I.tuple_inj h1 h2] at h3; rw [ih _ h3]
    | lst h2 h3 =>
      obtain ⟨its, _, p1, _⟩ := I.list h2
      obtain ⟨its2, _, p2, _⟩ := I.tuple h1
      exact absurd rfl (SeqAt.ne_of_list_tuple p1.isList p2)
  · intro es q; cases q; rfl
  · intro v vs d ds _ _ i1 i2 es q
    cases q with
    | cons q1 q2 => rw [i1 _ q1, i2 _ q2]
theorem rd_obj (I : Inv X pins σ H s) {a : Addr} {o u : HO} (h1 : Rd H a o) (h2 : Rd H a u) : o = u ∨ (∃ ob x, H a = some (.frz ob x)) := by
  rcases h1 with h1 | ⟨ob, h1⟩
  · rcases h2 with h2 | ⟨ob, h2⟩
    · rw [h1] at h2; exact .inl (Option.some.inj h2)
    · exact .inr ⟨_, _, h2⟩
  · exact .inr ⟨_, _, h1⟩
theorem dsz_raw (I : Inv X pins σ H s) {a : Addr} {n : Nat} (h : DSz H a n) : LMQ.RawD s.heap a n := by
  rcases h with ⟨ks, h, l⟩ | ⟨ks, h, l⟩
  · obtain ⟨_, y, vs, r, o, es, ep, e1, e2, e3, _, e5, _⟩ := h.ok I.hok
    exact ⟨y, o, es, ep, e1, e2, e3, by have := e5.length; have := r.length; simp at *; omega⟩
  · obtain ⟨_, y, xs, r, o, es, ep, e1, e2, e3, e4, _⟩ := h.ok I.hok
    refine ⟨y, o, es, ep, e1, e2, e3, ?_⟩
    have z := congrArg List.length e4
    have := Paired.length r
    simp at z
    omega
theorem dsz_inj (I : Inv X pins σ H s) {a : Addr} {n m : Nat} (h1 : DSz H a n) (h2 : DSz H a m) : n = m := by
  obtain ⟨_, o, es, ep, e1, _, e3, rfl⟩ := dsz_raw I h1
  obtain ⟨_, o', es', ep', e1', _, e3', rfl⟩ := dsz_raw I h2
  rw [e1] at e1'; cases e1'
  rw [e3] at e3'; cases e3'; rfl
theorem seq_noD (I : Inv X pins σ H s) {a : Addr} {n : Nat} {xs : List V} (h : DSz H a n) (q : SqL X.K H a xs) : False := by
  obtain ⟨_, o, es, ep, e1, e2, _, _⟩ := dsz_raw I h
  obtain ⟨its, _, p1, _⟩ := I.list q
  obtain ⟨o', hh, hc, _⟩ := p1.isList
  rw [e1] at hh; cases hh
  have z := e2.1
  rw [hc] at z; injection z with z; exact absurd z (by decide)
theorem tup_noD (I : Inv X pins σ H s) {a : Addr} {n : Nat} {xs : List V} (h : DSz H a n) (q : SqT X.K H a xs) : False := by
  obtain ⟨_, o, es, ep, e1, e2, _, _⟩ := dsz_raw I h
  obtain ⟨its, _, p1, _⟩ := I.tuple q
  obtain ⟨o', hh, hc, _⟩ := p1
  rw [e1] at hh; cases hh
  have z := e2.1
  rw [hc] at z; injection z with z; exact absurd z (by decide)
theorem rdK_inj {a : Addr} {ks ls : List (Key × V)} (h1 : Rd H a (.dK ks)) (h2 : Rd H a (.dK ls)) : ks = ls := by
  rcases h1 with h1 | ⟨o, h1⟩ <;> rcases h2 with h2 | ⟨o', h2⟩ <;> (rw [h1] at h2; first | (cases h2; rfl) | cases h2)
theorem KV.keys {ks : List (Key × V)} {vs : List (Key × Value)} (r : KV ks vs) : ks.map (·.1) = vs.map (·.1) := by
  unfold KV at r
  induction r with
  | nil => rfl
  | cons h _ ih => simp only [List.map_cons]; rw [ih, h.1]
theorem rdK_nodup (I : Inv X pins σ H s) {a : Addr} {ks : List (Key × V)} (h : Rd H a (.dK ks)) : (ks.map (·.1)).Nodup := by
  obtain ⟨_, y, vs, r, o, es, ep, e1, e2, e3, _, e5, e6⟩ := h.ok I.hok
  rw [KV.keys r]; exact e6
theorem valV_mem {ks : List (Key × V)} (nd : (ks.map (·.1)).Nodup) {k : Key} {v : V} (h : (k, v) ∈ ks) : valV ks k = some v := by
  induction ks with
  | nil => simp at h
  | cons p r ih =>
    simp only [List.map_cons, List.nodup_cons] at nd
    unfold valV
    rw [List.find?_cons]
    rcases List.mem_cons.mp h with e | e
    · subst e; simp
    · have ne : ¬ p.1 = k := fun z => nd.1 (z ▸ List.mem_map.mpr ⟨(k, v), e, rfl⟩)
      rw [decide_eq_false ne]
      exact ih nd.2 e
theorem z3_same {E : V → V → Bool → Prop} (ih : ∀ x b, E x x b → b = true) : ∀ {xs : List V} {b : Bool}, Z3 E xs xs b → b = true
  | [], _, h => by cases h; rfl
  | _ :: _, _, h => by cases h with | cons h1 h2 => rw [ih _ _ h1, z3_same ih h2]; rfl
theorem hit_same {E : V → V → Bool → Prop} (ih : ∀ x b, E x x b → b = true) {ls : List (Key × V)} (nd : (ls.map (·.1)).Nodup) {ks : List (Key × V)} {b : Bool} (h : HitV E ls ks b) : (∀ p ∈ ks, p ∈ ls) → b = true := by
  induction h with
  | nil => intro _; rfl
  | @miss k v r hn => intro hm; rw [valV_mem nd (hm _ List.mem_cons_self)] at hn; cases hn
  | @hit k v u r e b hv he _ kk =>
    intro hm
    rw [valV_mem nd (hm _ List.mem_cons_self)] at hv
    cases hv
    rw [ih _ _ he, kk fun p hp => hm p (List.mem_cons_of_mem _ hp)]; rfl
theorem eqVB_same (I : Inv X pins σ H s) : ∀ (n : Nat) (x : V) (b : Bool), EqVB X.K H n x x b → b = true
  | 0, _, _, h => (show False from h).elim
  | n + 1, x, b, h => by
    rcases h with ⟨d, e, h1, h2, h3, h4, rfl⟩ | ⟨p, q, xs, ys, e1, e2, h1, h2, h3⟩ | ⟨p, q, xs, ys, e1, e2, h1, h2, h3, _⟩ | ⟨p, q, ks, ls, e1, e2, h1, h2, h3, h4⟩ | ⟨p, q, m, k, e1, e2, h1, h2, h3⟩
    · rw [dp_inj I d x e h1 h2]
      exact SeqAt.eqv_refl _ (SeqAt.canLay_of_shaped h4)
    · subst e1; cases e2
      rw [I.list_inj h1 h2] at h3
      exact z3_same (eqVB_same I n) h3
    · subst e1; cases e2
      rw [I.list_inj h1 h2] at h3
      exact absurd rfl h3
    · subst e1; cases e2
      have z := rdK_inj h1 h2
      subst z
      exact hit_same (eqVB_same I n) (rdK_nodup I h1) h4 fun _ q => q
    · subst e1; cases e2
      rcases h3 with ⟨h3, _⟩ | ⟨_, _, rfl⟩
      · exact absurd (dsz_inj I h1 h2) h3
      · rfl
/-- what is told of two objects -/
def EqR2 (K : PySem.W.Frag) (H : Hp) (n : Nat) (x y : V) (b : Bool) : Prop := (∃ p q xs ys, x = .ref p ∧ y = .ref q ∧ SqL K H p xs ∧ SqL K H q ys ∧ Z3 (EqVB K H n) xs ys b) ∨
    (∃ p q xs ys, x = .ref p ∧ y = .ref q ∧ SqL K H p xs ∧ SqL K H q ys ∧ xs.length ≠ ys.length ∧ b = false) ∨
    (∃ p q ks ls, x = .ref p ∧ y = .ref q ∧ Rd H p (.dK ks) ∧ Rd H q (.dK ls) ∧ ks.length = ls.length ∧ HitV (EqVB K H n) ls ks b) ∨
    ∃ p q n m, x = .ref p ∧ y = .ref q ∧ DSz H p n ∧ DSz H q m ∧ ((n ≠ m ∧ b = false) ∨ (n = 0 ∧ m = 0 ∧ b = true))
theorem eqVB_rc2 (I : Inv X pins σ H s) {neg : Bool} {n : Nat} {A : Around} (hu : A.units < cLine) (ih : ∀ x y b v u, EqVB X.K H n x y b → RelV x v → RelV y u → SeqAt.EqP X.prog X.w A.in1 s v u b) {p q : Addr} {b : Bool}
    (h : EqR2 X.K H n (.ref p) (.ref q) b) (E Q : Value → Shared → Prop) (hq : Q (.bool (LMQ.ngv neg b)) s) : wpAny (model X.prog X.w) A (richCompare (LMQ.opv neg) (.ref p) (.ref q)) Q E s := by
  rcases h with ⟨p, q, xs, ys, e1, e2, h1, h2, h3⟩ | ⟨p, q, xs, ys, e1, e2, h1, h2, h3, rfl⟩ | ⟨p, q, ks, ls, e1, e2, h1, h2, h3, h4⟩ | ⟨p, q, m, k, e1, e2, h1, h2, h3⟩
  · cases e1; cases e2
    obtain ⟨us, r1, p1, _⟩ := I.list h1
    obtain ⟨ws, r2, p2, _⟩ := I.list h2
    obtain ⟨e, f1, f2⟩ := z3_run ih h3 r1 r2
    have hz : us.toArray.size = ws.toArray.size := by
      rw [List.size_toArray, List.size_toArray, ← r1.length, ← r2.length]
      exact h3.len
    refine LMQ.rc_lists (e := e) p1.isList p2.isList hz hu (fun j h1 h2 => ?_) E Q ?_
    · have k := f1 j (by simpa using h1) (by simpa using h2)
      simpa using k
    · rw [List.size_toArray, f2]; exact hq
  · cases e1; cases e2
    obtain ⟨us, r1, p1, _⟩ := I.list h1
    obtain ⟨ws, r2, p2, _⟩ := I.list h2
    have l1 := r1.length
    have l2 := r2.length
    exact LMQ.rc_lens p1.isList p2.isList (by rw [bne_iff_ne, List.size_toArray, List.size_toArray, ← l1, ← l2]; exact h3) hu E Q hq
  · cases e1; cases e2
    obtain ⟨_, ya, va, ra, da⟩ := h1.ok I.hok
    obtain ⟨_, yb, vb, rb, db⟩ := h2.ok I.hok
    refine LMQ.rc_dicts (knd := mixKind X.prog X.w) (r := b) ya yb da db hu (fun _ => hit_run ih rb h4 ra) E Q ?_
    have e : va.length = vb.length := by rw [← ra.length, ← rb.length]; exact h3
    rw [show (va.length == vb.length && b) = b from by rw [e]; simp]
    exact hq
  · cases e1; cases e2
    exact LMQ.rc_sizes (dsz_raw I h1) (dsz_raw I h2) hu h3 E Q hq
theorem eqVB_run (I : Inv X pins σ H s) : ∀ (n : Nat) (A : Around), A.units + n + 64 < cLine → ∀ (x y : V) (b : Bool) (v u : Value), EqVB X.K H n x y b → RelV x v → RelV y u → SeqAt.EqP X.prog X.w A s v u b
  | 0, _, _, _, _, _, _, _, h, _, _ => (show False from h).elim
  | n + 1, A, hu, x, y, b, v, u, h, rx, ry => by
    by_cases hd : ∃ d e, Dp X.K H x d ∧ Dp X.K H y e ∧ SeqAt.shaped d = true ∧ SeqAt.shaped e = true ∧ b = PyData.eqv d e
    · obtain ⟨d, e, h1, h2, s1, s2, rfl⟩ := hd
      obtain ⟨as, r1⟩ := Dp.reads I d x v h1 rx
      obtain ⟨bs, r2⟩ := Dp.reads I e y u h2 ry
      exact (SeqAt.eqAt_reads d e A s v u as bs r1 r2 (SeqAt.canLay_of_shaped s1) (SeqAt.canLay_of_shaped s2) (SeqAt.room_of_shaped s1 (by omega))).eqP
    · obtain ⟨p, q, rfl, rfl⟩ : ∃ p q, x = .ref p ∧ y = .ref q := by
        rcases h with ⟨d, e, h⟩ | ⟨p, q, _, _, e1, e2, _⟩ | ⟨p, q, _, _, e1, e2, _⟩ | ⟨p, q, _, _, e1, e2, _⟩ | ⟨p, q, _, _, e1, e2, _⟩
        · exact absurd ⟨d, e, h⟩ hd
        all_goals exact ⟨p, q, e1, e2⟩
      cases (show v = Value.ref p from rx)
      cases (show u = Value.ref q from ry)
      by_cases e : p = q
      · subst e
        rw [eqVB_same I _ _ _ h]
        exact (SeqAt.EqAt.same _).eqP
      · refine SeqAt.eqP_refs e fun E Q hq => ?_
        rcases h with h | h
        · exact absurd (show ∃ d e, _ from by obtain ⟨d, e, h⟩ := h; exact ⟨d, e, h⟩) hd
        · have go : ∀ (neg : Bool) (E Q : Value → Shared → Prop), Q (.bool (LMQ.ngv neg b)) s → wpAny (model X.prog X.w) A (richCompare (LMQ.opv neg) (.ref p) (.ref q)) Q E s := fun neg E Q hq =>
            eqVB_rc2 I (by omega) (eqVB_run I n A.in1 (by show A.units + 1 + n + 64 < cLine; omega)) h E Q hq
          exact go false E Q hq
end
end LM

namespace LM
open PyProof.Rows hiding St frameOf passOn
open PySem PySem.Spec L2
variable [TabNames]
def eqZ (rec : AV → AV → Option Bool) : List AV → List AV → Option Bool
  | [], [] => some true
  | x :: xs, y :: ys => match rec x y, eqZ rec xs ys with
    | some a, some b => some (a && b)
    | _, _ => none
  | _, _ => none
def eqHit (rec : AV → AV → Option Bool) (ky : List (AV × AV)) : List (AV × AV) → Option Bool
  | [] => some true
  | (k, x) :: r => match dGet false ky k with
    | none => some false
    | some y => match rec x y, eqHit rec ky r with
      | some a, some b => some (a && b)
      | _, _ => none
def eqB (rec : AV → AV → Option Bool) : Co → Co → Option Bool
  | .ob (.lst xs), .ob (.lst ys) => if xs.length = ys.length then eqZ rec xs ys else some false
  | .ob (.dic t kx), .ob (.dic u ky) => if kx.length = ky.length then (if kx.length = 0 then some true else if t || u then none else eqHit rec ky kx) else some false
  | _, _ => none
def eqN (h : AH) : Nat → AV → AV → Option Bool
  | 0, _, _ => none
  | n + 1, a, b => (if okA 60 a && okA 60 b then some (eqA a b) else none).or (eqB (eqN h n) (coA h a) (coA h b))
def eqOb (s : SS) (a b : PV) : Option Bool := eqB (eqN s.hp 20) (coP a s) (coP b s)
def eqW (s : SS) (a b : PV) : Option Bool := (eqX s a b).or (eqOb s a b)
def neW (s : SS) (a b : PV) : Option Bool := (neC s a b).or ((eqOb s a b).map (!·))
section
variable {K : PySem.W.Frag} {U F H : Hp} {ρ : List Addr} {S : SS} {σ : St}
theorem eqZ_ok {rec : AV → AV → Option Bool} {E : V → V → Bool → Prop} (hr : ∀ a b x y k, Emb K F ρ a x → Emb K F ρ b y → rec a b = some k → E x y k) :
    ∀ {xs ys : List AV} {vs ws : List V} {k : Bool}, EmbL K F ρ xs vs → EmbL K F ρ ys ws → eqZ rec xs ys = some k → Z3 E vs ws k
  | [], [], _, _, _, h1, h2, e => by simp only [EmbL] at h1 h2; subst h1; subst h2; cases e; exact .nil
  | x :: xs, y :: ys, _, _, _, h1, h2, e => by
    simp only [EmbL] at h1 h2
    obtain ⟨v, r, rfl, a1, a2⟩ := h1
    obtain ⟨v', r', rfl, b1, b2⟩ := h2
    simp only [eqZ] at e
    split at e
    · rename_i p q e1 e2
      cases e
      exact .cons (hr _ _ _ _ _ a1 b1 e1) (eqZ_ok hr a2 b2 e2)
    · cases e
  | [], _ :: _, _, _, _, _, _, e => by simp [eqZ] at e
  | _ :: _, [], _, _, _, _, _, e => by simp [eqZ] at e
theorem eqHit_ok {rec : AV → AV → Option Bool} {E : V → V → Bool → Prop} (hr : ∀ a b x y k, Emb K F ρ a x → Emb K F ρ b y → rec a b = some k → E x y k) {ky : List (AV × AV)} {ls : List (Key × V)} (hy : EmbK K F ρ ky ls) :
    ∀ {kx : List (AV × AV)} {ks : List (Key × V)} {k : Bool}, EmbK K F ρ kx ks → eqHit rec ky kx = some k → HitV E ls ks k
  | [], _, _, h, e => by simp only [EmbK] at h; subst h; cases e; exact .nil
  | (k, x) :: r, _, _, h, e => by
    simp only [EmbK] at h
    obtain ⟨k', v, r', rfl, hk, a1, a2⟩ := h
    have g := EmbK.get hk hy
    simp only [eqHit] at e
    split at e
    · rename_i e1
      cases e
      exact .miss (g.2 e1)
    · rename_i y e1
      obtain ⟨u, e2, e3⟩ := g.1 y e1
      split at e
      · rename_i p q f1 f2
        cases e
        exact .hit e2 (hr _ _ _ _ _ a1 e3 f1) (eqHit_ok hr hy a2 f2)
      · cases e
theorem dsz_of {t : Bool} {kvs : List (AV × AV)} {p : Addr} (h : (t = false ∧ ∃ kv, Rd H p (.dK kv) ∧ EmbK K F ρ kvs kv) ∨ (t = true ∧ ∃ kv, Rd H p (.dT kv) ∧ EmbT K F ρ kvs kv)) : DSz H p kvs.length := by
  rcases h with ⟨_, kv, h1, h2⟩ | ⟨_, kv, h1, h2⟩
  · exact .inl ⟨kv, h1, h2.length⟩
  · exact .inr ⟨kv, h1, h2.length⟩
theorem eqB_ok {n : Nat} {rec : AV → AV → Option Bool} (hr : ∀ a b x y k, Emb K F ρ a x → Emb K F ρ b y → rec a b = some k → EqVB K H n x y k) {c d : Co} {x y : V} {k : Bool} (h1 : CoV K F ρ H x c) (h2 : CoV K F ρ H y d) (e : eqB rec c d = some k) : EqR2 K H n x y k := by
  unfold eqB at e
  split at e
  · rename_i xs ys
    obtain ⟨p, vs, rfl, a1, a2⟩ := h1
    obtain ⟨q, ws, rfl, b1, b2⟩ := h2
    split at e
    · exact .inl ⟨p, q, vs, ws, rfl, rfl, a1, b1, eqZ_ok hr a2 b2 e⟩
    · rename_i hl
      cases e
      exact .inr (.inl ⟨p, q, vs, ws, rfl, rfl, a1, b1, by rw [a2.length, b2.length]; exact hl, rfl⟩)
  · rename_i t kx u ky
    obtain ⟨p, rfl, a1⟩ := h1
    obtain ⟨q, rfl, b1⟩ := h2
    split at e
    · rename_i hl
      split at e
      · rename_i h0
        cases e
        exact .inr (.inr (.inr ⟨p, q, _, _, rfl, rfl, dsz_of a1, dsz_of b1, .inr ⟨h0, hl ▸ h0, rfl⟩⟩))
      · split at e
        · cases e
        · rename_i ht
          have ht' : t = false ∧ u = false := by cases t <;> cases u <;> simp_all
          obtain ⟨rfl, rfl⟩ := ht'
          rcases a1 with ⟨_, ks, a1, a2⟩ | ⟨z, _⟩
          · rcases b1 with ⟨_, ls, b1, b2⟩ | ⟨z, _⟩
            · exact .inr (.inr (.inl ⟨p, q, ks, ls, rfl, rfl, a1, b1, by rw [a2.length, b2.length]; exact hl, eqHit_ok hr b2 a2 e⟩))
            · cases z
          · cases z
    · rename_i hl
      cases e
      exact .inr (.inr (.inr ⟨p, q, _, _, rfl, rfl, dsz_of a1, dsz_of b1, .inl ⟨hl, rfl⟩⟩))
  · cases e
theorem eqN_ok (R : Rep K U F ρ S σ H) : ∀ (n : Nat) (a b : AV) (x y : V) (k : Bool), Emb K F ρ a x → Emb K F ρ b y → eqN S.hp n a b = some k → EqVB K H n x y k
  | 0, _, _, _, _, _, _, _, e => by simp [eqN] at e
  | n + 1, a, b, x, y, k, ha, hb, e => by
    simp only [eqN] at e
    by_cases h3 : (okA 60 a && okA 60 b) = true
    · rw [if_pos h3] at e
      cases e
      obtain ⟨o1, o2⟩ := Bool.and_eq_true_iff.mp h3
      exact .inl ⟨datA a, datA b, dp_of R 60 a x o1 ha, dp_of R 60 b y o2 hb, ok_shaped o1, ok_shaped o2, (eqv_eq 60 a b o1 o2).symm⟩
    · rw [if_neg h3] at e
      exact .inr (eqB_ok (eqN_ok R n) (coA_ok R ha) (coA_ok R hb) e)
end
def rEqO (neg : Bool) (K : PySem.W.Frag) : R2 := fun x y H Q => ∃ n b, n ≤ 30 ∧ EqR2 K H n x y b ∧ Q (.bl (LMQ.ngv neg b)) H
theorem op_eqO {X : Cx} (neg : Bool) (hu : X.A.units + 100 < cLine) : OpR X (compareOp (LMQ.opv neg)) (rEqO neg X.K) := by
  intro pins s σ H x y v u Q I rx ry h
  obtain ⟨n, b, hn, h, q⟩ := h
  obtain ⟨p, r, rfl, rfl⟩ : ∃ p q, x = .ref p ∧ y = .ref q := by
    rcases h with ⟨p, q, _, _, e1, e2, _⟩ | ⟨p, q, _, _, e1, e2, _⟩ | ⟨p, q, _, _, e1, e2, _⟩ | ⟨p, q, _, _, e1, e2, _⟩
    all_goals exact ⟨p, q, e1, e2⟩
  cases (show v = Value.ref p from rx)
  cases (show u = Value.ref r from ry)
  have go := eqVB_rc2 I (neg := neg) (A := X.A) (by omega) (eqVB_run I n X.A.in1 (by show X.A.units + 1 + n + 64 < cLine; omega)) h X.xe (EP X pins σ Q) ⟨.bl _, H, I, rfl, q⟩
  cases neg <;> exact go
theorem gc_eqO {X : Cx} (neg : Bool) : GoodC X (fun s a b => (eqOb s a b).map (LMQ.ngv neg)) (rEqO neg X.K) := by
  intro U F ρ S σ H a b k x y Q R ea eb e q
  dsimp only at e
  cases h : eqOb S a b with
  | none => rw [h] at e; cases e
  | some c =>
    rw [h] at e
    cases e
    exact ⟨20, c, by decide, eqB_ok (eqN_ok R 20) (coP_ok R ea) (coP_ok R eb) h, q⟩
theorem gc_eqO0 {X : Cx} : GoodC X eqOb (rEqO false X.K) := fun U F ρ S σ H a b k x y Q R ea eb e q => gc_eqO false U F ρ S σ H a b k x y Q R ea eb (by dsimp only; rw [e]; rfl) q
theorem hu100 {k : Nat} {A : Around} (h : Room k A) : A.units + 100 < cLine := by have := h.un; omega
section
variable {X : Cx} {pos : Pos}
theorem pt_eqW {a b : Expr} {f g : M PV} (hu : X.A.units + 100 < cLine) (ha : PPm X a f) (hb : PPm X b g) : PTm X (.Compare a [.Eq] [b] pos) (cmpM eqW f g) :=
  pt_cm (OpR.or (OpR.or (op_eqD (by omega)) (op_lenEq (by omega))) (op_eqO false hu)) ((gc_eq.or gc_lenEq).or gc_eqO0) ha hb (nomark _)
theorem pm_eqW {a b : Expr} {f g : M PV} (hu : X.A.units + 100 < cLine) (ha : PPm X a f) (hb : PPm X b g) : PEm X (.Compare a [.Eq] [b] pos) (bvM (cmpM eqW f g)) :=
  pm_cm (OpR.or (OpR.or (op_eqD (by omega)) (op_lenEq (by omega))) (op_eqO false hu)) ((gc_eq.or gc_lenEq).or gc_eqO0) ha hb (nomark _)
theorem pt_neW {a b : Expr} {f g : M PV} (hu : X.A.units + 100 < cLine) (ha : PPm X a f) (hb : PPm X b g) : PTm X (.Compare a [.NotEq] [b] pos) (cmpM neW f g) :=
  pt_cm (OpR.or (op_neD (by omega)) (op_eqO true hu)) (gc_ne.or (gc_eqO true)) ha hb (nomark _)
theorem pm_neW {a b : Expr} {f g : M PV} (hu : X.A.units + 100 < cLine) (ha : PPm X a f) (hb : PPm X b g) : PEm X (.Compare a [.NotEq] [b] pos) (bvM (cmpM neW f g)) :=
  pm_cm (OpR.or (op_neD (by omega)) (op_eqO true hu)) (gc_ne.or (gc_eqO true)) ha hb (nomark _)
end
end LM

namespace LM
open PyProof.Rows hiding St frameOf passOn
open PySem PySem.Spec L2
variable [TabNames]
/-! ## list(d), dict(d) -/
theorem CallR.or {X : Cx} {f : Value} {r r' : List V → Hp → VK → Prop} (h : CallR X f r) (h' : CallR X f r') : CallR X f (fun xs H Q => r xs H Q ∨ r' xs H Q) := by
  intro pins s σ H xs us Q I r q
  rcases q with q | q
  · exact h pins s σ H xs us Q I r q
  · exact h' pins s σ H xs us Q I r q
def GoodBF (X : Cx) (op : SS → List PV → Option AO) (r : List V → Hp → VK → Prop) : Prop := ∀ U F ρ S σ H as c vs Q, Rep X.K U F ρ S σ H → EmbPL X.K F ρ σ as vs → op S as = some c →
  (∀ F' H' p, Same F F' → Rep X.K U F' ρ S σ H' → Loose X.K U F' ρ S σ H' p c → Q (.ref p) H') → r vs H Q
theorem GoodBN.f {X : Cx} {op : SS → List PV → Option AO} {r : List V → Hp → VK → Prop} (h : GoodBN X op r) : GoodBF X op r := fun U F ρ S σ H as c vs Q R ea e q =>
  h U F ρ S σ H as c vs Q R ea e fun H' p r' l => q F H' p (Same.refl _) r' l
theorem GoodBF.or {X : Cx} {op op' : SS → List PV → Option AO} {r r' : List V → Hp → VK → Prop} (h : GoodBF X op r) (h' : GoodBF X op' r') : GoodBF X (fun s as => (op s as).or (op' s as)) (fun xs H Q => r xs H Q ∨ r' xs H Q) := fun U F ρ S σ H as c vs Q R ea e q => by
  dsimp only at e
  cases z : op S as with
  | some k => rw [z] at e; cases e; exact .inl (h U F ρ S σ H as _ vs Q R ea z q)
  | none => rw [z] at e; exact .inr (h' U F ρ S σ H as _ vs Q R ea e q)
theorem cbf_core {X : Cx} {op : SS → List PV → Option AO} {r : List V → Hp → VK → Prop} {f : M (List PV)} {W : WX} (hg : GoodBF X op r) {σ : St} {H : Hp} {Q : VK} (h : tG X.K W (RN X.K) (cbM op f) σ H Q) : tCB r (tG X.K W (RPL X.K) f) σ H Q := by
  obtain ⟨U, F, ρ, S, R, p⟩ := h
  refine ⟨U, F, ρ, S, R, Post.seq p fun F1 ρ1 S1 H1 a1 b1 s1 q1 r1 e1 p1 => ?_⟩
  cases z : op S1 a1 with
  | none => rw [z] at p1; exact p1.elim
  | some c =>
    rw [z] at p1
    exact hg U F1 ρ1 S1 σ H1 a1 c b1 Q r1 e1 z fun F3 H3 w s3 r3 e3 => p1 F3 ρ1 H3 _ s3 (List.prefix_refl _) r3 ⟨w, rfl, e3⟩
section
variable {X : Cx} {pos : Pos} {x : Str} {p : Pos} {e : Expr} {es : List Expr} {id T : String} {f : M (List PV)} {r : List V → Hp → VK → Prop}
theorem pn_cBf {op : SS → List PV → Option AO} (hc : CallR X (.builtin id) r) (hg : GoodBF X op r) (hgl : Gl X x) (hm : X.mg x = none) (hv : bootBuiltins x = some (.builtin id)) (ha : PApm X (e :: es) f) (hn : x ≠ "__name__" := by decide) (hdb : (x == ("__debug__" : Str)) = false := by decide)
    (he : starEach (e :: es) X.env = (false, eval e X.env) :: starEach es X.env := by rfl) (hpl : (backTo pos (starEach es X.env)).any (·.1) = false := by rfl) : PNm X (.Call (.Name x p) (e :: es) [] pos) (cbM op f) := fun W tk =>
  PE.weak (pe_callB hc hgl hm hv (ha W tk) hn hdb he hpl) fun σ H Q h => cbf_core hg h
theorem pn_cTf {op : SS → List PV → Option AO} (hc : CallR X (.type T) r) (hg : GoodBF X op r) (hgl : Gl X x) (hm : X.mg x = none) (hv : bootBuiltins x = some (.type T)) (ha : PApm X (e :: es) f) (hn : x ≠ "__name__" := by decide) (hdb : (x == ("__debug__" : Str)) = false := by decide)
    (he : starEach (e :: es) X.env = (false, eval e X.env) :: starEach es X.env := by rfl) (hpl : (backTo pos (starEach es X.env)).any (·.1) = false := by rfl) : PNm X (.Call (.Name x p) (e :: es) [] pos) (cbM op f) := fun W tk =>
  PE.weak (pe_callTy hc hgl hm hv (ha W tk) hn hdb he hpl) fun σ H Q h => cbf_core hg h
end
def rLisK : List V → Hp → VK → Prop := fun xs H Q => ∃ d kvs, xs = [V.ref d] ∧ Rd H d (.dK kvs) ∧ ∀ q, H q = none → Q (.ref q) (upd H q (.lst (kvs.map fun kv => kV kv.1)))
theorem call_lisK {X : Cx} (hc : X.calm = true) : CallR X (.type "list") rLisK := by
  intro pins s σ H xs us Q I r h
  obtain ⟨d, kvs, rfl, hd, q⟩ := h
  obtain ⟨u, rfl, rx⟩ := r.one
  cases rx
  obtain ⟨z, hs, vs, kv, o, es, ep, ho, hx, hdt, hk, pr, nd⟩ := hd.ok I.hok
  have l1 : es.size = vs.length := by rw [← pr.length]; exact Array.length_toList.symm
  have l2 : kvs.length = vs.length := kv.length
  refine PySem.W.kdl_call (kdl_raw hs hx hdt) (I.ok.hd hc) ho (by omega) fun h' tk acc' c' kp e it => ?_
  have hl : acc'.toList.length = es.size := by rw [Array.length_toList]; exact it.1
  have rv : Vals (kvs.map fun p => kV p.1) acc'.toList := by
    refine vals_of_at (by rw [List.length_map]; omega) fun j y w h1 h2 => ?_
    obtain ⟨en, hen, hv⟩ := it.2 j w (by rw [← Array.getElem?_toList]; exact h2)
    rw [List.getElem?_map] at h1
    cases hj : kvs[j]? with
    | none => rw [hj] at h1; cases h1
    | some kp =>
      rw [hj] at h1
      cases h1
      have hjv : j < vs.length := by rw [← l2]; exact (List.getElem?_eq_some_iff.mp hj).1
      have e2 : es.toList[j]? = some en := by rw [Array.getElem?_toList]; exact hen
      obtain ⟨hkey, _⟩ := pr.get? (i := j) (e := en) (k := vs[j].1) (v := vs[j].2) e2 (by rw [List.getElem?_eq_getElem hjv])
      have hkk : kp.1 = vs[j].1 := by
        have z := congrArg (fun l => l[j]?) (KV.keys kv)
        simp only [List.getElem?_map, hj, List.getElem?_eq_getElem hjv] at z
        simpa using z
      rw [hv]
      show RelV (kV kp.1) en.key
      rw [hkk]
      exact keyIs_rel hkey
  have hz : (kvs.map fun p => kV p.1).length ≤ sizeLine := by rw [List.length_map]; omega
  refine ⟨.ref s.heap.objs.size, _, I.laid (t' := tk) (o := .lst (kvs.map fun p => kV p.1)) kp (Nat.le_refl _) ?_, rfl, q _ (I.hok.fresh (Nat.le_refl _))⟩
  exact ⟨hz, acc'.toList, c', rv, by rw [Array.toArray_toList]; exact e⟩
def lisDA (s : SS) : List PV → Option AO
  | [a] => match coP a s with
    | .ob (.dic _ kvs) => some (.lst (kvs.map (·.1)))
    | _ => none
  | _ => none
def lisX (s : SS) (as : List PV) : Option AO := (lisA s as).or (lisDA s as)
def dicDA (s : SS) : List PV → Option AO
  | [a] => match coP a s with
    | .ob (.dic false kvs) => some (.dic false kvs)
    | _ => none
  | _ => none
section
variable {K : PySem.W.Frag} {U F H : Hp} {ρ : List Addr} {S : SS} {σ : St}
theorem emb_keysK : ∀ {kvs : List (AV × AV)} {kv : List (Key × V)}, EmbK K F ρ kvs kv → EmbL K F ρ (kvs.map (·.1)) (kv.map fun p => kV p.1)
  | [], _, h => by simp only [EmbK] at h; subst h; simp [EmbL]
  | (k, x) :: r, _, h => by
    simp only [EmbK] at h
    obtain ⟨k', v, r', rfl, hk, _, a2⟩ := h
    simp only [List.map_cons, EmbL]
    exact ⟨_, _, rfl, emb_key hk, emb_keysK a2⟩
theorem Rep.adoptAll (R : Rep K U F ρ S σ H) : ∀ {kvs : List (AV × AV)} {kv : List (List Key × V)} {bs : List Addr}, EmbT K F ρ kvs kv → IsKeys H kv bs →
    ∃ F2, Same F F2 ∧ Rep K U F2 ρ S σ H ∧ EmbL K F2 ρ (kvs.map (·.1)) (bs.map V.ref)
  | [], _, bs, h, q => by
    simp only [EmbT] at h; subst h
    cases q
    exact ⟨F, Same.refl _, R, by simp [EmbL]⟩
  | (k, x) :: r, _, bs, h, q => by
    simp only [EmbT] at h
    obtain ⟨k', v, r', rfl, hk, _, a2⟩ := h
    cases q with
    | cons q1 q2 =>
      obtain ⟨F2, s2, R2, e2⟩ := Rep.adoptAll R a2 q2
      obtain ⟨F3, s3, R3, e3⟩ := R2.adopt q1
      refine ⟨F3, s2.trans s3, R3, ?_⟩
      simp only [List.map_cons, EmbL]
      refine ⟨_, _, rfl, ?_, EmbL.mono s3 (List.prefix_refl _) _ _ e2⟩
      cases k with
      | tup xs => simp only [Emb]; exact ⟨_, _, rfl, e3, emb_keys hk⟩
      | _ => cases hk
end
section
variable {X : Cx} {pos : Pos}
theorem gb_lisK : GoodBF X (fun s as => match as with | [a] => (match coP a s with | .ob (.dic false kvs) => some (.lst (kvs.map (·.1))) | _ => none) | _ => none) rLisK := by
  intro U F ρ S σ H as c vs Q R ea e q
  dsimp only at e
  split at e
  · rename_i a
    obtain ⟨v, rfl, h⟩ := embPL1 ea
    have cc := coP_ok R h
    split at e
    · rename_i kvs hc
      cases e; rw [hc] at cc
      obtain ⟨p, rfl, ⟨_, kv, h1, h2⟩ | ⟨z, _⟩⟩ := cc
      · refine ⟨p, kv, rfl, h1, fun n hn => ?_⟩
        obtain ⟨R2, L⟩ := R.newLoose (u := .lst (kv.map fun p => kV p.1)) (o := .lst (kvs.map (·.1))) hn ⟨_, upd_same, emb_keysK h2⟩
        exact q F _ n (Same.refl _) R2 L
      · cases z
    · cases e
  · cases e
def rLisT (K : PySem.W.Frag) : List V → Hp → VK → Prop := fun xs H Q => ∃ d kvs, xs = [V.ref d] ∧ Rd H d (.dT kvs) ∧ ∀ p bs, H p = none → IsKeys H kvs bs → Q (.ref p) (upd H p (.lst (bs.map V.ref)))
theorem gb_lisT : GoodBF X (fun s as => match as with | [a] => (match coP a s with | .ob (.dic true kvs) => some (.lst (kvs.map (·.1))) | _ => none) | _ => none) (rLisT X.K) := by
  intro U F ρ S σ H as c vs Q R ea e q
  dsimp only at e
  split at e
  · rename_i a
    obtain ⟨v, rfl, h⟩ := embPL1 ea
    have cc := coP_ok R h
    split at e
    · rename_i kvs hc
      cases e; rw [hc] at cc
      obtain ⟨p, rfl, ⟨z, _⟩ | ⟨_, kv, h1, h2⟩⟩ := cc
      · cases z
      · refine ⟨p, kv, rfl, h1, fun n bs hn hb => ?_⟩
        obtain ⟨F2, s2, R2, e2⟩ := R.adoptAll h2 hb
        obtain ⟨R3, L⟩ := R2.newLoose (u := .lst (bs.map V.ref)) (o := .lst (kvs.map (·.1))) hn ⟨_, upd_same, e2⟩
        exact q F2 _ n s2 R3 L
    · cases e
  · cases e
theorem pn_listX {p : Pos} {e : Expr} {f : M PV} (hc : X.calm = true) (hm : X.mg "list" = none) (ha : PPm X e f) (hgl : Gl X "list" := by rfl) (hs : starEach [e] X.env = (false, eval e X.env) :: starEach [] X.env := by rfl) : PNm X (.Call (.Name "list" p) [e] [] pos) (cbM lisX (consM f nilM)) := by
  have h := pn_cTf (pos := pos) (p := p) (CallR.or call_list_of (CallR.or (call_lisK hc) (call_list_dT hc))) (GoodBF.or gb_lis.f (GoodBF.or gb_lisK gb_lisT)) hgl hm (by decide +kernel) (pap_cons ha pap_nil hs) (he := hs)
  have e : (fun s as => (lisA s as).or (((match as with | [a] => (match coP a s with | .ob (.dic false kvs) => some (.lst (kvs.map (·.1))) | _ => none) | _ => none : Option AO)).or (match as with | [a] => (match coP a s with | .ob (.dic true kvs) => some (.lst (kvs.map (·.1))) | _ => none) | _ => none))) = lisX := by
    funext s as
    unfold lisX lisDA
    congr 1
    match as with
    | [] => rfl
    | _ :: _ :: _ => rfl
    | [a] =>
      dsimp only
      cases coP a s with
      | ob o => cases o with
        | dic t kvs => cases t <;> rfl
        | _ => rfl
      | _ => rfl
  rw [← e]; exact h
theorem gb_dicD : GoodBN X dicDA (fun xs H Q => ∃ (a : Addr) (kvs : List (Key × V)), xs = [.ref a] ∧ Rd H a (.dK kvs) ∧ ∀ p, H p = none → Q (.ref p) (upd H p (.dK kvs))) := by
  intro U F ρ S σ H as c vs Q R ea e q
  unfold dicDA at e
  split at e
  · rename_i a
    obtain ⟨v, rfl, h⟩ := embPL1 ea
    have cc := coP_ok R h
    split at e
    · rename_i kvs hc
      cases e; rw [hc] at cc
      obtain ⟨p, rfl, ⟨_, kv, h1, h2⟩ | ⟨z, _⟩⟩ := cc
      · refine ⟨p, kv, rfl, h1, fun n hn => ?_⟩
        obtain ⟨R2, L⟩ := R.newLoose (u := .dK kv) (o := .dic false kvs) hn (.inl ⟨rfl, _, upd_same, h2⟩)
        exact q _ n R2 L
      · cases z
    · cases e
  · cases e
theorem pn_dictD {p : Pos} {e : Expr} {f : M PV} (hm : X.mg "dict" = none) (ha : PPm X e f) (hgl : Gl X "dict" := by rfl) (hs : starEach [e] X.env = (false, eval e X.env) :: starEach [] X.env := by rfl) : PNm X (.Call (.Name "dict" p) [e] [] pos) (cbM dicDA (consM f nilM)) :=
  pn_cT call_dictD gb_dicD hgl hm (by decide +kernel) (pap_cons ha pap_nil hs) (he := hs)
end
end LM

namespace LM
open PyProof.Rows hiding St frameOf passOn
open PySem PySem.Spec L2
variable [TabNames]
/-! ## a < b, a <= b of tuples -/
def nonA : AV → Bool
  | .non => true
  | _ => false
def ltDA (s : SS) (a b : PV) : Option Bool := match plP a s, plP b s with
  | some x, some y => if okA 60 x && okA 60 y && (PySem.W.alike (datA x) (datA y) && !nonA x) then some (PySem.W.dataLt (datA x) (datA y)) else none
  | _, _ => none
def ltX (s : SS) (a b : PV) : Option Bool := (ltC s a b).or (ltDA s a b)
def rLtD (K : PySem.W.Frag) : R2 := fun x y H Q => ∃ d e, Dp K H x d ∧ Dp K H y e ∧ PySem.W.alike d e = true ∧ d ≠ .none ∧ d.depth ≤ 60 ∧ Q (.bl (PySem.W.dataLt d e)) H
theorem op_ltD {X : Cx} (hu : X.A.units + 64 < cLine) : OpR X (compareOp .Lt) (rLtD X.K) := by
  intro pins s σ H x y v u Q I rx ry h
  obtain ⟨d, e, hd, he, h1, h2, h3, q⟩ := h
  obtain ⟨as, r1⟩ := Dp.reads I d x v hd rx
  obtain ⟨bs, r2⟩ := Dp.reads I e y u he ry
  exact PySem.W.rcLt_alike d e X.A s v u as bs r1 r2 h1 h2 (by omega) X.prog X.w X.xe (EP X pins σ Q) ⟨.bl _, H, I, rfl, q⟩
theorem gc_ltD {X : Cx} : GoodC X ltDA (rLtD X.K) := by
  intro U F ρ S σ H a b k x y Q R ea eb e q
  unfold ltDA at e
  split at e
  · rename_i u w h1 h2
    split at e
    · rename_i h3
      cases e
      obtain ⟨o12, o3⟩ := Bool.and_eq_true_iff.mp h3
      obtain ⟨o1, o2⟩ := Bool.and_eq_true_iff.mp o12
      obtain ⟨o3, o4⟩ := Bool.and_eq_true_iff.mp o3
      have sh := ok_shape 60 u o1
      refine ⟨datA u, datA w, plP_dp R ea h1 o1, plP_dp R eb h2 o2, o3, fun z => ?_, sh.2, q⟩
      cases u with
      | non => simp [nonA] at o4
      | bl b => simp [datA] at z
      | int b => simp [datA] at z
      | str b => simp [datA] at z
      | tup b => simp [datA] at z
      | ct b => simp [datA] at z
      | vl b => simp [datA] at z
      | cl b => simp [datA] at z
      | vd b c => simp [okA] at o1
      | ob b c => simp [okA] at o1
      | ref b => simp [okA] at o1
    · cases e
  · cases e
/-! ### <= -/
def leF : AV → AV → Bool
  | .int i, .int j => decide (i ≤ j)
  | .str x, .str y => !decide (y.cps.toList < x.cps.toList)
  | _, _ => false
def flat2 : List AV → List AV → Bool
  | .int _ :: xs, .int _ :: ys => flat2 xs ys
  | .str _ :: xs, .str _ :: ys => flat2 xs ys
  | [], _ => true
  | _, [] => true
  | _, _ => false
def leTL : List AV → List AV → Bool
  | [], _ => true
  | _ :: _, [] => false
  | x :: xs, y :: ys => if eqA x y = true then leTL xs ys else leF x y
def leTA (s : SS) (a b : PV) : Option Bool := match coP a s, coP b s with
  | .tup xs, .tup ys => if flat2 xs ys then some (leTL xs ys) else none
  | _, _ => none
def leX (s : SS) (a b : PV) : Option Bool := (leC s a b).or (leTA s a b)
theorem lexAt_shift {e r : Nat → Bool} {z : Bool} : ∀ (k i : Nat), Ob.lexAt (fun j => e (j + 1)) (fun j => r (j + 1)) z i k = Ob.lexAt e r z (i + 1) k
  | 0, _ => rfl
  | k + 1, i => by rw [Ob.lexAt_succ, Ob.lexAt_succ, lexAt_shift k]
theorem leTL_lex : ∀ (xs ys : List AV), Ob.lexAt (fun j => eqA (xs.getD j .non) (ys.getD j .non)) (fun j => leF (xs.getD j .non) (ys.getD j .non)) (decide (xs.length ≤ ys.length)) 0 (min xs.length ys.length) = leTL xs ys
  | [], ys => by simp [leTL, Ob.lexAt_zero]
  | x :: xs, [] => by simp [leTL, Ob.lexAt_zero]
  | x :: xs, y :: ys => by
    have ih := leTL_lex xs ys
    have e1 : min (x :: xs).length (y :: ys).length = min xs.length ys.length + 1 := by simp only [List.length_cons]; omega
    have e2 : decide ((x :: xs).length ≤ (y :: ys).length) = decide (xs.length ≤ ys.length) := by simp
    rw [e1, e2, Ob.lexAt_succ, leTL, ← ih]
    rw [← lexAt_shift (e := fun j => eqA ((x :: xs).getD j .non) ((y :: ys).getD j .non)) (r := fun j => leF ((x :: xs).getD j .non) ((y :: ys).getD j .non))]
    rfl
def rLeF (K : PySem.W.Frag) : R2 := fun v u H Q => ∃ (a b : Addr) (xs ys : List AV) (vs ws : List V) (F : Hp) (ρ : List Addr), v = .ref a ∧ u = .ref b ∧ SqT K H a vs ∧ SqT K H b ws ∧ EmbL K F ρ xs vs ∧ EmbL K F ρ ys ws ∧ flat2 xs ys = true ∧ Q (.bl (leTL xs ys)) H
theorem flat2_at : ∀ {xs ys : List AV} (j : Nat), flat2 xs ys = true → j < xs.length → j < ys.length →
    (∃ a b, xs[j]? = some (.int a) ∧ ys[j]? = some (.int b)) ∨ ∃ a b, xs[j]? = some (.str a) ∧ ys[j]? = some (.str b) := by
  intro xs ys j
  fun_induction flat2 xs ys generalizing j with
  | case1 a xs b ys ih =>
    intro h h1 h2
    cases j with
    | zero => exact .inl ⟨_, _, rfl, rfl⟩
    | succ j => simpa using ih j h (by simpa using h1) (by simpa using h2)
  | case2 a xs b ys ih =>
    intro h h1 h2
    cases j with
    | zero => exact .inr ⟨_, _, rfl, rfl⟩
    | succ j => simpa using ih j h (by simpa using h1) (by simpa using h2)
  | case3 => intro h h1 _; simp at h1
  | case4 => intro h _ h2; simp at h2
  | case5 => intro h; cases h
theorem embL_at {K : PySem.W.Frag} {F : Hp} {ρ : List Addr} : ∀ {xs : List AV} {vs : List V} {j : Nat} {a : AV}, EmbL K F ρ xs vs → xs[j]? = some a → ∃ v, vs[j]? = some v ∧ Emb K F ρ a v
  | [], _, _, _, _, e => by simp at e
  | x :: xs, vs, j, a, h, e => by
    simp only [EmbL] at h
    obtain ⟨v, r, rfl, h1, h2⟩ := h
    cases j with
    | zero => simp at e; subst e; exact ⟨v, rfl, h1⟩
    | succ j => simpa using embL_at (j := j) h2 (by simpa using e)
theorem op_leF {X : Cx} (hu : X.A.units < cLine) : OpR X (compareOp .LtE) (rLeF X.K) := by
  intro pins s σ H x y v u Q I rx ry h
  obtain ⟨a, b, xs, ys, vs, ws, F, ρ, rfl, rfl, h1, h2, e1, e2, hf, q⟩ := h
  cases rx
  cases ry
  obtain ⟨its, r1, p1, _⟩ := I.tuple h1
  obtain ⟨its2, r2, p2, _⟩ := I.tuple h2
  have l1 : its.toArray.size = xs.length := by rw [List.size_toArray, ← r1.length]; exact e1.length
  have l2 : its2.toArray.size = ys.length := by rw [List.size_toArray, ← r2.length]; exact e2.length
  have at_ : ∀ j (h1 : j < its.toArray.size) (h2 : j < its2.toArray.size), (∃ i k t t', its.toArray[j] = .int i t ∧ its2.toArray[j] = .int k t' ∧ xs.getD j .non = .int i ∧ ys.getD j .non = .int k) ∨
      ∃ i k t t', its.toArray[j] = .str i t ∧ its2.toArray[j] = .str k t' ∧ xs.getD j .non = .str i ∧ ys.getD j .non = .str k := by
    intro j g1 g2
    have look : ∀ {zs : List AV} {us : List V} {it : List Value} {c : AV}, EmbL X.K F ρ zs us → Vals us it → zs[j]? = some c → (hj : j < it.toArray.size) → ∃ v, Emb X.K F ρ c v ∧ RelV v it.toArray[j] := by
      intro zs us it c hz hu hc hj
      obtain ⟨w, w1, w2⟩ := embL_at hz hc
      obtain ⟨u, u1, u2⟩ := hu.get w1
      refine ⟨w, w2, ?_⟩
      have : it.toArray[j] = u := by
        have := List.getElem?_eq_some_iff.mp u1
        obtain ⟨_, z⟩ := this
        simpa using z
      rw [this]; exact u2
    rcases flat2_at j hf (by omega) (by omega) with ⟨c, d, f1, f2⟩ | ⟨c, d, f1, f2⟩
    · obtain ⟨v1, m1, m2⟩ := look e1 r1 f1 g1
      obtain ⟨v2, n1, n2⟩ := look e2 r2 f2 g2
      rw [emb_int m1] at m2
      rw [emb_int n1] at n2
      obtain ⟨t, ht⟩ := m2
      obtain ⟨t', ht'⟩ := n2
      exact .inl ⟨c, d, t, t', ht, ht', by simp [f1], by simp [f2]⟩
    · obtain ⟨v1, m1, m2⟩ := look e1 r1 f1 g1
      obtain ⟨v2, n1, n2⟩ := look e2 r2 f2 g2
      rw [emb_str m1] at m2
      rw [emb_str n1] at n2
      obtain ⟨t, ht⟩ := m2
      obtain ⟨t', ht'⟩ := n2
      exact .inr ⟨c, d, t, t', ht, ht', by simp [f1], by simp [f2]⟩
  have Rr := Ob.RcOp.tuples_le (A := X.A) (s := s) (e := fun j => eqA (xs.getD j .non) (ys.getD j .non)) (r := fun j => leF (xs.getD j .non) (ys.getD j .non)) p1 p2 hu (fun j g1 g2 => by
    rcases at_ j g1 g2 with ⟨i, k, t, t', z1, z2, z3, z4⟩ | ⟨i, k, t, t', z1, z2, z3, z4⟩
    · rw [z1, z2, z3, z4]
      have w : (i == k) = eqA (.int i) (.int k) := by simp only [eqA]; by_cases q : i = k <;> simp [q]
      rw [← w]; exact SeqAt.EqAt.int_int _ _ _ _
    · rw [z1, z2, z3, z4]
      have w : (i == k) = eqA (.str i) (.str k) := by simp only [eqA]; by_cases q : i = k <;> simp [q]
      rw [← w]; exact SeqAt.EqAt.str_str _ _ _ _) (fun j g1 g2 _ => by
    rcases at_ j g1 g2 with ⟨i, k, t, t', z1, z2, z3, z4⟩ | ⟨i, k, t, t', z1, z2, z3, z4⟩
    · rw [z1, z2, z3, z4]; exact Ob.RcOp.le_int _ _ _ _
    · rw [z1, z2, z3, z4]; exact fun _ _ _ _ h => PySem.P.le_str h)
  rw [l1, l2, leTL_lex] at Rr
  exact Rr X.prog X.w X.xe (EP X pins σ Q) ⟨.bl _, H, I, rfl, q⟩
theorem gc_leF {X : Cx} : GoodC X leTA (rLeF X.K) := by
  intro U F ρ S σ H a b k x y Q R ea eb e q
  unfold leTA at e
  have c1 := coP_ok R ea
  have c2 := coP_ok R eb
  split at e
  · rename_i xs ys h1 h2
    split at e
    · rename_i h3
      cases e
      rw [h1] at c1; rw [h2] at c2
      obtain ⟨p, vs, rfl, a1, a2⟩ := c1
      obtain ⟨r, ws, rfl, b1, b2⟩ := c2
      exact ⟨p, r, xs, ys, vs, ws, F, ρ, rfl, rfl, a1, b1, a2, b2, h3, q⟩
    · cases e
  · cases e
section
variable {X : Cx} {pos : Pos}
theorem pt_ltX {a b : Expr} {f g : M PV} (hu : X.A.units + 64 < cLine) (ha : PPm X a f) (hb : PPm X b g) : PTm X (.Compare a [.Lt] [b] pos) (cmpM ltX f g) := pt_cm (OpR.or gc_lt (op_ltD hu)) ((gc_int.or gc_str).or gc_ltD) ha hb (nomark _)
theorem pm_ltX {a b : Expr} {f g : M PV} (hu : X.A.units + 64 < cLine) (ha : PPm X a f) (hb : PPm X b g) : PEm X (.Compare a [.Lt] [b] pos) (bvM (cmpM ltX f g)) := pm_cm (OpR.or gc_lt (op_ltD hu)) ((gc_int.or gc_str).or gc_ltD) ha hb (nomark _)
theorem op_le0 {X : Cx} : OpR X (compareOp .LtE) (fun x y H Q => rI0 (fun i j => .bl (decide (i ≤ j))) x y H Q ∨ ∃ i j, x = .str i ∧ y = .str j ∧ Q (.bl (!decide (j.cps.toList < i.cps.toList))) H) := OpR.or op_le op_le_str
theorem pt_leX {a b : Expr} {f g : M PV} (hu : X.A.units + 64 < cLine) (ha : PPm X a f) (hb : PPm X b g) : PTm X (.Compare a [.LtE] [b] pos) (cmpM leX f g) := pt_cm (OpR.or op_le0 (op_leF (by omega))) ((gc_int.or gc_str).or gc_leF) ha hb (nomark _)
theorem pm_leX {a b : Expr} {f g : M PV} (hu : X.A.units + 64 < cLine) (ha : PPm X a f) (hb : PPm X b g) : PEm X (.Compare a [.LtE] [b] pos) (bvM (cmpM leX f g)) := pm_cm (OpR.or op_le0 (op_leF (by omega))) ((gc_int.or gc_str).or gc_leF) ha hb (nomark _)
end
end LM

namespace LM
open PyProof.Rows hiding St frameOf passOn
open PySem PySem.Spec L2
variable [TabNames]
/-! ## x += list -/
def lsV (h : AH) : AV → Option (List AV)
  | .vl xs => some xs
  | .ref j => match h[j]? with
    | some (.lst xs) => some xs
    | _ => none
  | _ => none
def augL (i : Nat) (f : M AV) : M Fl := fun s => match s.sl[i]? with
  | some (some _) => bindM f (fun b s => match obP (.sl i) s, lsV s.hp b with
    | some (.lst xs), some zs => if xs.length + zs.length ≤ 16777216 then .ok .nx (wrP (.sl i) (.lst (xs ++ zs)) s) else .stuck
    | _, _ => .stuck) s
  | _ => .stuck
def isLs (i : Nat) (s : SS) : Bool := match obP (.sl i) s with
  | some (.lst _) => true
  | _ => false
def augX (i : Nat) (op : AV → AV → Option AV) (f : M AV) : M Fl := pickM (isLs i) (augL i f) (augM i op f)
theorem lsV_ok {K : PySem.W.Frag} {U F H : Hp} {ρ : List Addr} {S : SS} {σ : St} (R : Rep K U F ρ S σ H) {a : AV} {v : V} {zs : List AV} (h : Emb K F ρ a v) (e : lsV S.hp a = some zs) : ∃ p vs, v = .ref p ∧ H p = some (.lst vs) ∧ EmbL K F ρ zs vs := by
  cases a with
  | vl xs =>
    cases e
    simp only [Emb] at h
    obtain ⟨p, vs, rfl, h1, h2⟩ := h
    refine ⟨p, vs, rfl, ?_, h2⟩
    rcases R.fro _ _ h1 with z | ⟨z, _⟩
    · exact z
    · cases z
  | ref j =>
    simp only [Emb] at h
    obtain ⟨p, rfl, hp⟩ := h
    simp only [lsV] at e
    split at e
    · rename_i xs hj
      cases e
      obtain ⟨vs, h1, h2⟩ := R.hp j _ p hj hp
      exact ⟨p, vs, rfl, h1, h2⟩
    · cases e
  | _ => cases e
theorem set_same_slot {σ : St} {i : Nat} {v : V} (h : σ[i]? = some (some v)) : σ.set i (some v) = σ := by
  apply List.ext_getElem?
  intro j
  by_cases hj : i = j
  · subst hj
    rw [List.getElem?_set_self (List.getElem?_eq_some_iff.mp h).1, h]
  · rw [List.getElem?_set_ne hj]
section
variable {X : Cx} {pos : Pos} {pn : Bool}
theorem psm_augL {i : Nat} {x : Str} {e : Expr} {f : M AV} {pos' : Pos} (hN : X.N.Nodup) (hi : X.N[i]? = some x) (hx : Loc X.env.scope x) (he : PEm X e f)
    (hf : X.fn x = true ∨ X.env.scope.names.lookup x = some .local := by first | exact .inl rfl | exact .inr rfl | assumption) (hp : pn = true → i ≠ 0 := by decide) : PSm X pn (.AugAssign (.Name x pos') .Add e pos) (augL i f) := fun W tk =>
  PS.weak (ps_aug (ti := rExt2) hN hi hx (he W tk) iop_ext hf) fun σ H D ⟨U, F, ρ, S, R, p⟩ => by
    unfold augL at p
    split at p
    · rename_i sv hsv
      have hv : ∃ v, σ[i]? = some (some v) := by
        cases sv with
        | val a => obtain ⟨v, e1, _⟩ := R.val i a hsv; exact ⟨v, e1⟩
        | own o => obtain ⟨q, e1, _⟩ := R.own i o hsv; exact ⟨_, e1⟩
      obtain ⟨v, hv⟩ := hv
      refine ⟨v, hv, U, F, ρ, S, R, SPost.seq p fun F1 ρ1 S1 H1 b y s1 q1 r1 e3 p1 => ?_⟩
      split at p1
      · rename_i xs zs h1 h2
        split at p1
        · rename_i hl
          obtain ⟨b', ws, rfl, w1, w2⟩ := lsV_ok r1 e3 h2
          obtain ⟨l, rfl, w3, w4⟩ := wr_ok r1 (pv := .sl i) hv h1
          obtain ⟨us, w5, w6⟩ := w3
          refine ⟨l, b', us, ws, rfl, rfl, w5, w1, by rw [w6.length, w2.length]; exact hl, ?_⟩
          have r2 := w4 (.lst (us ++ ws)) (.lst (xs ++ zs)) ⟨_, upd_same, EmbL.append w6 w2⟩ rfl
          have z := p1 F1 ρ1 σ _ (Same.refl _) (List.prefix_refl _) r2 (fun _ => rfl)
          show D.nx (σ.set i (some (.ref l))) _
          rw [set_same_slot hv]
          exact z
        · exact p1.elim
      · exact p1.elim
    · exact p.elim
theorem psm_augX {i : Nat} {x : Str} {e : Expr} {f : M AV} {pos' : Pos} (hN : X.N.Nodup) (hi : X.N[i]? = some x) (hx : Loc X.env.scope x) (he : PEm X e f)
    (hf : X.fn x = true ∨ X.env.scope.names.lookup x = some .local := by first | exact .inl rfl | exact .inr rfl | assumption) (hp : pn = true → i ≠ 0 := by decide) : PSm X pn (.AugAssign (.Name x pos') .Add e pos) (augX i (fun a b => (addI a b).or (addS a b)) f) :=
  psm_pick (psm_augL hN hi hx he hf hp) (psm_augadd hN hi hx he hf hp)
end
end LM

namespace LM
open PyProof.Rows hiding St frameOf passOn
open PySem PySem.Spec L2
variable [TabNames]
/-! ## what a def made is frozen when it hands it back -/
def rs (r : Nat → Option AV) : AV → Option AV
  | .ref i => r i
  | .tup xs => (rsL r xs).map .tup
  | .ct xs => (rsL r xs).map .ct
  | .vl xs => (rsL r xs).map .vl
  | .cl xs => (rsL r xs).map .cl
  | .vd t kvs => (rsK r kvs).map (.vd t)
  | .ob c fs => (rsF r fs).map (.ob c)
  | .non => some .non
  | .bl b => some (.bl b)
  | .int i => some (.int i)
  | .str x => some (.str x)
where
  rsL (r : Nat → Option AV) : List AV → Option (List AV)
    | [] => some []
    | x :: xs => match rs r x, rsL r xs with
      | some y, some ys => some (y :: ys)
      | _, _ => none
  rsK (r : Nat → Option AV) : List (AV × AV) → Option (List (AV × AV))
    | [] => some []
    | (k, x) :: xs => match rs r x, rsK r xs with
      | some y, some ys => some ((k, y) :: ys)
      | _, _ => none
  rsF (r : Nat → Option AV) : List (Str × AV) → Option (List (Str × AV))
    | [] => some []
    | (k, x) :: xs => match rs r x, rsF r xs with
      | some y, some ys => some ((k, y) :: ys)
      | _, _ => none
def rsO (r : Nat → Option AV) : AO → Option AV
  | .lst xs => (rs.rsL r xs).map .vl
  | .dic t kvs => (rs.rsK r kvs).map (.vd t)
  | .ins c fs => (rs.rsF r fs).map (.ob c)
  | .lck _ _ => none
def resI (h : AH) (n : Nat) : Nat → Nat → Option AV
  | 0, _ => none
  | f + 1, i => if i < n then some (.ref i) else match h[i]? with
    | some o => rsO (resI h n f) o
    | none => none
/-- what stands from n on, none of it locked, becomes values -/
def fzV (h : AH) (n : Nat) (a : AV) : Option AV := if (h.drop n).all (fun o => !o.isl) then rs (resI h n (h.length - n + 1)) a else none
/-- what a slot held stays; its own object if it lies below -/
def kpS (n : Nat) (a b : Option SV) : Option SV := match a with
  | some (.val v) => some (.val v)
  | _ => keepS n b
def gcZ (n : Nat) (s0 s : SS) : SS := ⟨List.zipWith (kpS n) s0.sl s.sl, s.hp.take n⟩
def fzR (n : Nat) (s0 : SS) (r : Res AV) : Res AV := match r with
  | .ok a s => if (s.hp.take n).all (belowO n) then (match fzV s.hp n a with
    | some b => .ok b (gcZ n s0 s)
    | none => .stuck) else .stuck
  | .exn c s => if (s.hp.take n).all (belowO n) then .exn c (gcZ n s0 s) else .stuck
  | .stuck => .stuck
def fzE (m : M AV) : M AV := fun s => fzR s.hp.length s (m s)
def fzRF (n : Nat) (r : Res Fl) : Res Fl := match r with
  | .ok (.rt a) s => if (s.hp.take n).all (belowO n) then (match fzV s.hp n a with
    | some b => .ok (.rt b) (gcS n s)
    | none => .stuck) else .stuck
  | r => gcR n (okF n) r
def fzM (m : M Fl) : M Fl := fun s => fzRF s.hp.length (m s)
section
variable {K : PySem.W.Frag} {U F F' H : Hp} {ρ ρ0 : List Addr} {S : SS} {σ : St}
mutual
theorem rs_ok {r : Nat → Option AV} (sm : Same F F') (hr : ∀ (i : Nat) (p : Addr) (b : AV), ρ[i]? = some p → r i = some b → Emb K F' ρ0 b (.ref p)) : ∀ (a : AV) (u : V) (b : AV), Emb K F ρ a u → rs r a = some b → Emb K F' ρ0 b u
  | .non, u, b, h, e => by cases e; simpa only [Emb] using h
  | .bl _, u, b, h, e => by cases e; simpa only [Emb] using h
  | .int _, u, b, h, e => by cases e; simpa only [Emb] using h
  | .str _, u, b, h, e => by cases e; simpa only [Emb] using h
  | .ref i, u, b, h, e => by
    simp only [Emb] at h
    obtain ⟨p, rfl, hp⟩ := h
    exact hr i p b hp e
  | .tup xs, u, b, h, e => by
    simp only [rs] at e
    cases z : rs.rsL r xs with
    | none => rw [z] at e; cases e
    | some ys =>
      rw [z] at e; cases e
      simp only [Emb] at h ⊢
      obtain ⟨p, vs, rfl, h1, h2⟩ := h
      exact ⟨p, vs, rfl, sm _ _ h1, rsL_ok sm hr xs vs ys h2 z⟩
  | .ct xs, u, b, h, e => by
    simp only [rs] at e
    cases z : rs.rsL r xs with
    | none => rw [z] at e; cases e
    | some ys =>
      rw [z] at e; cases e
      simp only [Emb] at h ⊢
      obtain ⟨p, vs, rfl, h1, h2⟩ := h
      exact ⟨p, vs, rfl, h1, rsL_ok sm hr xs vs ys h2 z⟩
  | .vl xs, u, b, h, e => by
    simp only [rs] at e
    cases z : rs.rsL r xs with
    | none => rw [z] at e; cases e
    | some ys =>
      rw [z] at e; cases e
      simp only [Emb] at h ⊢
      obtain ⟨p, vs, rfl, h1, h2⟩ := h
      exact ⟨p, vs, rfl, sm _ _ h1, rsL_ok sm hr xs vs ys h2 z⟩
  | .cl xs, u, b, h, e => by
    simp only [rs] at e
    cases z : rs.rsL r xs with
    | none => rw [z] at e; cases e
    | some ys =>
      rw [z] at e; cases e
      simp only [Emb] at h ⊢
      obtain ⟨p, vs, rfl, h1, h2⟩ := h
      exact ⟨p, vs, rfl, sm.seq h1, rsL_ok sm hr xs vs ys h2 z⟩
  | .vd t kvs, u, b, h, e => by
    simp only [rs] at e
    cases z : rs.rsK r kvs with
    | none => rw [z] at e; cases e
    | some ys =>
      rw [z] at e; cases e
      simp only [Emb] at h ⊢
      obtain ⟨p, rfl, ⟨e1, kv, h1, h2⟩ | ⟨e1, kv, h1, h2⟩⟩ := h
      · exact ⟨p, rfl, .inl ⟨e1, kv, sm _ _ h1, rsK_ok sm hr kvs kv ys h2 z⟩⟩
      · exact ⟨p, rfl, .inr ⟨e1, kv, sm _ _ h1, rsT_ok sm hr kvs kv ys h2 z⟩⟩
  | .ob c fs, u, b, h, e => by
    simp only [rs] at e
    cases z : rs.rsF r fs with
    | none => rw [z] at e; cases e
    | some ys =>
      rw [z] at e; cases e
      simp only [Emb] at h ⊢
      obtain ⟨p, dx, fs', rfl, h1, h2⟩ := h
      exact ⟨p, dx, fs', rfl, sm _ _ h1, rsF_ok sm hr fs fs' ys h2 z⟩
theorem rsL_ok {r : Nat → Option AV} (sm : Same F F') (hr : ∀ (i : Nat) (p : Addr) (b : AV), ρ[i]? = some p → r i = some b → Emb K F' ρ0 b (.ref p)) : ∀ (a : List AV) (u : List V) (b : List AV), EmbL K F ρ a u → rs.rsL r a = some b → EmbL K F' ρ0 b u
  | [], u, b, h, e => by simp only [rs.rsL] at e; cases e; simpa only [EmbL] using h
  | x :: xs, u, b, h, e => by
    simp only [EmbL] at h
    obtain ⟨v, w, rfl, h1, h2⟩ := h
    simp only [rs.rsL] at e
    split at e
    · rename_i y ys e1 e2
      cases e
      simp only [EmbL]
      exact ⟨v, w, rfl, rs_ok sm hr x v y h1 e1, rsL_ok sm hr xs w ys h2 e2⟩
    · cases e
theorem rsK_ok {r : Nat → Option AV} (sm : Same F F') (hr : ∀ (i : Nat) (p : Addr) (b : AV), ρ[i]? = some p → r i = some b → Emb K F' ρ0 b (.ref p)) : ∀ (a : List (AV × AV)) (u : List (Key × V)) (b : List (AV × AV)), EmbK K F ρ a u → rs.rsK r a = some b → EmbK K F' ρ0 b u
  | [], u, b, h, e => by simp only [rs.rsK] at e; cases e; simpa only [EmbK] using h
  | (k, x) :: xs, u, b, h, e => by
    simp only [EmbK] at h
    obtain ⟨k', v, w, rfl, hk, h1, h2⟩ := h
    simp only [rs.rsK] at e
    split at e
    · rename_i y ys e1 e2
      cases e
      simp only [EmbK]
      exact ⟨k', v, w, rfl, hk, rs_ok sm hr x v y h1 e1, rsK_ok sm hr xs w ys h2 e2⟩
    · cases e
theorem rsT_ok {r : Nat → Option AV} (sm : Same F F') (hr : ∀ (i : Nat) (p : Addr) (b : AV), ρ[i]? = some p → r i = some b → Emb K F' ρ0 b (.ref p)) : ∀ (a : List (AV × AV)) (u : List (List Key × V)) (b : List (AV × AV)), EmbT K F ρ a u → rs.rsK r a = some b → EmbT K F' ρ0 b u
  | [], u, b, h, e => by simp only [rs.rsK] at e; cases e; simpa only [EmbT] using h
  | (k, x) :: xs, u, b, h, e => by
    simp only [EmbT] at h
    obtain ⟨k', v, w, rfl, hk, h1, h2⟩ := h
    simp only [rs.rsK] at e
    split at e
    · rename_i y ys e1 e2
      cases e
      simp only [EmbT]
      exact ⟨k', v, w, rfl, hk, rs_ok sm hr x v y h1 e1, rsT_ok sm hr xs w ys h2 e2⟩
    · cases e
theorem rsF_ok {r : Nat → Option AV} (sm : Same F F') (hr : ∀ (i : Nat) (p : Addr) (b : AV), ρ[i]? = some p → r i = some b → Emb K F' ρ0 b (.ref p)) : ∀ (a : List (Str × AV)) (u : List (Str × V)) (b : List (Str × AV)), EmbF K F ρ a u → rs.rsF r a = some b → EmbF K F' ρ0 b u
  | [], u, b, h, e => by simp only [rs.rsF] at e; cases e; simpa only [EmbF] using h
  | (k, x) :: xs, u, b, h, e => by
    simp only [EmbF] at h
    obtain ⟨v, w, rfl, h1, h2⟩ := h
    simp only [rs.rsF] at e
    split at e
    · rename_i y ys e1 e2
      cases e
      simp only [EmbF]
      exact ⟨v, w, rfl, rs_ok sm hr x v y h1 e1, rsF_ok sm hr xs w ys h2 e2⟩
    · cases e
end
/-- F, and what stands at ps -/
def addF (F H : Hp) (ps : List Addr) : Hp := fun b => match F b with
  | some o => some o
  | none => if b ∈ ps then H b else none
theorem addF_same {ps : List Addr} : Same F (addF F H ps) := fun b o e => by unfold addF; rw [e]
theorem addF_in {ps : List Addr} {p : Addr} (h : F p = none) (hp : p ∈ ps) : addF F H ps p = H p := by unfold addF; rw [h]; exact if_pos hp
theorem addF_out {ps : List Addr} {p : Addr} (h : F p = none) (hp : p ∉ ps) : addF F H ps p = none := by unfold addF; rw [h]; exact if_neg hp
theorem Rep.addF (R : Rep K U F ρ S σ H) (ps : List Addr) (hnt : ∀ p ∈ ps, ∀ pt, H p ≠ some (.tbl pt)) (h1 : ∀ p ∈ ps, F p = none ∧ p ∉ ρ ∧ U p = none ∧ ∀ (j : Nat) (o' : AO), S.sl[j]? = some (some (.own o')) → σ[j]? ≠ some (some (.ref p))) : Rep K U (LM.addF F H ps) ρ S σ H := by
  have sm : Same F (LM.addF F H ps) := addF_same
  refine ⟨R.len, fun b o e => ?_, R.unt, R.rln, R.rnd, fun p hp => ?_, fun b o e => ?_, fun i o p e1 e2 => (R.hp i o p e1 e2).mono sm (List.prefix_refl _) rfl, fun i a e => ?_, fun i o e => ?_, ⟨R.tab.tb, R.tab.nu, fun b pt z => ?_⟩⟩
  · cases z : F b with
    | some w => have : LM.addF F H ps b = some w := sm _ _ z; rw [this] at e; cases e; exact R.fro b o z
    | none =>
      by_cases hb : b ∈ ps
      · rw [addF_in z hb] at e; exact .inl e
      · rw [addF_out z hb] at e; cases e
  · obtain ⟨a, b⟩ := R.rF p hp
    exact ⟨addF_out a fun z => (h1 p z).2.1 hp, b⟩
  · cases z : F b with
    | some w => have : LM.addF F H ps b = some w := sm _ _ z; rw [this] at e; cases e; exact R.FU b o z
    | none =>
      by_cases hb : b ∈ ps
      · exact .inl (h1 b hb).2.2.1
      · rw [addF_out z hb] at e; cases e
  · obtain ⟨v, e1, e2⟩ := R.val i a e
    exact ⟨v, e1, e2.mono sm (List.prefix_refl _)⟩
  · obtain ⟨p, e1, e2, e3, e4⟩ := R.own i o e
    exact ⟨p, e1, e2.mono sm (List.prefix_refl _) rfl, addF_out e3 fun z => (h1 p z).2.2.2 i o e e1, e4⟩
  · cases w : F b with
    | some o => have : LM.addF F H ps b = some o := sm _ _ w; rw [this] at z; cases z; exact R.tab.nf b pt w
    | none =>
      by_cases hb : b ∈ ps
      · rw [addF_in w hb] at z; exact hnt b hb pt z
      · rw [addF_out w hb] at z; cases z
theorem rsO_ok {r : Nat → Option AV} (sm : Same F F') (hr : ∀ (i : Nat) (p : Addr) (b : AV), ρ[i]? = some p → r i = some b → Emb K F' ρ0 b (.ref p)) {p : Addr} {o : AO} {b : AV} (hF : ∀ u, H p = some u → F' p = some u) (h : EmbO K F ρ H p o) (e : rsO r o = some b) : Emb K F' ρ0 b (.ref p) := by
  cases o with
  | lst xs =>
    obtain ⟨vs, h1, h2⟩ := h
    simp only [rsO] at e
    cases z : rs.rsL r xs with
    | none => rw [z] at e; cases e
    | some ys => rw [z] at e; cases e; simp only [Emb]; exact ⟨p, vs, rfl, hF _ h1, rsL_ok sm hr xs vs ys h2 z⟩
  | dic t kvs =>
    simp only [rsO] at e
    cases z : rs.rsK r kvs with
    | none => rw [z] at e; cases e
    | some ys =>
      rw [z] at e; cases e; simp only [Emb]
      rcases h with ⟨e1, kv, h1, h2⟩ | ⟨e1, kv, h1, h2⟩
      · exact ⟨p, rfl, .inl ⟨e1, kv, hF _ h1, rsK_ok sm hr kvs kv ys h2 z⟩⟩
      · exact ⟨p, rfl, .inr ⟨e1, kv, hF _ h1, rsT_ok sm hr kvs kv ys h2 z⟩⟩
  | ins c fs =>
    obtain ⟨dx, fs', h1, h2⟩ := h
    simp only [rsO] at e
    cases z : rs.rsF r fs with
    | none => rw [z] at e; cases e
    | some ys => rw [z] at e; cases e; simp only [Emb]; exact ⟨p, dx, fs', rfl, hF _ h1, rsF_ok sm hr fs fs' ys h2 z⟩
  | lck t kvs => cases e
theorem kp_get {n : Nat} {l l' : List (Option SV)} {i : Nat} {x : SV} (h : (List.zipWith (kpS n) l l')[i]? = some (some x)) : (∃ a, x = .val a ∧ l[i]? = some (some (.val a))) ∨ (l'.map (keepS n))[i]? = some (some x) := by
  rw [List.getElem?_zipWith] at h
  cases e1 : l[i]? with
  | none => rw [e1] at h; cases h
  | some a =>
    cases e2 : l'[i]? with
    | none => rw [e1, e2] at h; cases h
    | some b =>
      rw [e1, e2] at h
      have h : some (kpS n a b) = some (some x) := h
      injection h with h
      unfold kpS at h
      cases a with
      | none => exact .inr (by rw [List.getElem?_map, e2]; exact congrArg some h)
      | some sv =>
        cases sv with
        | own o => exact .inr (by rw [List.getElem?_map, e2]; exact congrArg some h)
        | val v => cases h; exact .inl ⟨v, rfl, rfl⟩
theorem Rep.gcZ {F0 H0 : Hp} {S0 : SS} {n : Nat} (R0 : Rep K U F0 ρ0 S0 σ H0) (R : Rep K U F ρ S σ H) (sm : Same F0 F) (pr : ρ0 <+: ρ.take n) (hn : (S.hp.take n).all (belowO n) = true) : Rep K U F (ρ.take n) (LM.gcZ n S0 S) σ H := by
  have R1 := R.gc hn
  have l0 := R0.len
  have l1 := R.len
  refine ⟨?_, R1.fro, R1.unt, R1.rln, R1.rnd, R1.rF, R1.FU, R1.hp, fun i a e => ?_, fun i o e => ?_, R1.tab⟩
  · show σ.length = (List.zipWith _ _ _).length
    rw [List.length_zipWith]; omega
  · rcases kp_get e with ⟨b, e1, e2⟩ | e
    · cases e1
      obtain ⟨v, f1, f2⟩ := R0.val i a e2
      exact ⟨v, f1, f2.mono sm pr⟩
    · exact R1.val i a e
  · rcases kp_get e with ⟨b, e1, _⟩ | e
    · cases e1
    · obtain ⟨p, f1, f2, f3, f4, f5, f6⟩ := R1.own i o e
      refine ⟨p, f1, f2, f3, f4, f5, fun j o' q => ?_⟩
      rcases kp_get q with ⟨b, e1, _⟩ | q
      · cases e1
      · exact f6 j o' q
theorem Rep.fz {a b : AV} {u : V} {n : Nat} {S1 : SS} (R : Rep K U F ρ S σ H) (R1 : Rep K U F (ρ.take n) S1 σ H) (ho : ∀ (j : Nat) (o' : AO), S1.sl[j]? = some (some (.own o')) → S.sl[j]? = some (some (.own o'))) (h : Emb K F ρ a u) (e : fzV S.hp n a = some b) : ∃ F', Same F F' ∧ Rep K U F' (ρ.take n) S1 σ H ∧ Emb K F' (ρ.take n) b u := by
  unfold fzV at e
  split at e
  case isFalse => cases e
  rename_i hk
  have inn : ∀ p, p ∈ ρ.drop n → ∃ (i : Nat) (o : AO), n ≤ i ∧ ρ[i]? = some p ∧ S.hp[i]? = some o ∧ EmbO K F ρ H p o ∧ o.isl = false := by
    intro p hp
    obtain ⟨j, hj, ej⟩ := List.mem_iff_getElem.mp hp
    rw [List.getElem_drop] at ej
    have hl : n + j < ρ.length := by rw [List.length_drop] at hj; omega
    have e2 : ρ[n + j]? = some p := by rw [List.getElem?_eq_getElem hl, ej]
    obtain ⟨o, ho⟩ := R.idx e2
    refine ⟨n + j, o, by omega, e2, ho, R.hp _ _ _ ho e2, ?_⟩
    have hm : o ∈ S.hp.drop n := List.mem_iff_getElem?.mpr ⟨j, by rw [List.getElem?_drop]; exact ho⟩
    have := List.all_eq_true.mp hk o hm
    simpa using this
  have nin : ∀ p, p ∈ ρ.drop n → p ∉ ρ.take n := by
    intro p hp hq
    have nd := R.rnd
    rw [← List.take_append_drop n ρ, List.nodup_append] at nd
    exact nd.2.2 p hq p hp rfl
  have sm : Same F (LM.addF F H (ρ.drop n)) := addF_same
  have R2 := R1.addF (ρ.drop n) (fun p hp pt z => by
    obtain ⟨i, o, hi, e1, e2, e3, e4⟩ := inn p hp
    exact (e3.plain _ z).1 pt rfl) fun p hp => by
    obtain ⟨i, o, hi, e1, e2, e3, e4⟩ := inn p hp
    have hm : p ∈ ρ := List.mem_of_mem_drop hp
    obtain ⟨f1, f2⟩ := R.rF p hm
    refine ⟨f1, nin p hp, ?_, fun j o' q => ?_⟩
    · rcases f2 with z | ⟨ob, w, z⟩
      · exact z
      · exact absurd (R.unt p _ z) (e3.noFrz e4)
    · obtain ⟨p', g1, _, _, _, g5, _⟩ := R.own j o' (ho j o' q)
      intro z
      rw [g1] at z; cases z
      exact g5 hm
  refine ⟨_, sm, R2, ?_⟩
  have step : ∀ (f i : Nat) (p : Addr) (b : AV), ρ[i]? = some p → resI S.hp n f i = some b → Emb K (LM.addF F H (ρ.drop n)) (ρ.take n) b (.ref p) := by
    intro f
    induction f with
    | zero => intro i p b _ e; cases e
    | succ f ih =>
      intro i p b hi e
      simp only [resI] at e
      split at e
      · rename_i hlt
        cases e
        simp only [Emb]
        exact ⟨p, rfl, by rw [List.getElem?_take, if_pos hlt]; exact hi⟩
      · rename_i hlt
        split at e
        · rename_i o ho
          have hm : p ∈ ρ.drop n := List.mem_iff_getElem?.mpr ⟨i - n, by rw [List.getElem?_drop]; rw [show n + (i - n) = i from by omega]; exact hi⟩
          have f1 := (R.rF p (List.mem_of_getElem? hi)).1
          exact rsO_ok (ρ := ρ) sm ih (fun u hu => by rw [addF_in f1 hm]; exact hu) (R.hp i o p ho hi) e
        · cases e
  exact rs_ok sm (step _) a u b h e
end
section
variable {X : Cx} {pos : Pos} {pn : Bool}
theorem pm_fz {e : Expr} {m : M AV} (h : PEm X e m) : PEm X e (fzE m) := fun W tk =>
  PE.weak (h W tk) fun σ H Q ⟨U, F, ρ, S, R, p⟩ => ⟨U, F, ρ, S, R, by
    have p : Post X.K U F ρ σ (RE X.K U σ) W Q (fzR S.hp.length S (m S)) := p
    rw [← R.rln] at p
    have own : ∀ {s : SS} {n : Nat} (j : Nat) (o' : AO), (LM.gcZ n S s).sl[j]? = some (some (.own o')) → s.sl[j]? = some (some (.own o')) := fun j o' q => by
      rcases kp_get q with ⟨b, e1, _⟩ | q
      · cases e1
      · exact (keep_get q).1
    cases z : m S with
    | stuck => rw [z] at p; exact p
    | exn c s =>
      rw [z] at p
      simp only [fzR] at p
      split at p
      · rename_i hb
        exact fun F' ρ' H' sm pr R' => p F' _ H' sm (take_pre pr) (R.gcZ R' sm (take_pre pr) hb)
      · exact p.elim
    | ok a s =>
      rw [z] at p
      simp only [fzR] at p
      split at p
      · rename_i hb
        split at p
        · rename_i b hv
          intro F' ρ' H' v sm pr R' e
          obtain ⟨F2, s2, R2, e2⟩ := R'.fz (R.gcZ R' sm (take_pre pr) hb) own e hv
          exact p F2 _ H' v (sm.trans s2) (take_pre pr) R2 e2
        · exact p.elim
      · exact p.elim⟩
theorem fz_post {U F : Hp} {ρ : List Addr} {S : SS} {σ : St} {H : Hp} {K : PySem.W.Frag} {W : WX} {D : Ends} {m : M Fl} (R : Rep K U F ρ S σ H) (p : SPost K U F ρ σ pn D W (fzM m S)) : SPost K U F ρ σ pn D W (m S) := by
  have gp := fun (q : SPost K U F ρ σ pn D W (gcM m S)) => gc_post R q
  have p : SPost K U F ρ σ pn D W (fzRF S.hp.length (m S)) := p
  have gp : SPost K U F ρ σ pn D W (gcR S.hp.length (okF S.hp.length) (m S)) → SPost K U F ρ σ pn D W (m S) := gp
  cases z : m S with
  | stuck => rw [z] at p gp; exact gp p
  | exn c s => rw [z] at p gp; exact gp p
  | ok a s =>
    rw [z] at p gp
    cases a with
    | nx => exact gp p
    | bk => exact gp p
    | ct => exact gp p
    | rt a =>
      clear gp
      rw [← R.rln] at p
      simp only [fzRF] at p
      split at p
      · rename_i hb
        split at p
        · rename_i b hv
          intro F' ρ' σ' H' u sm pr R' e
          obtain ⟨F2, s2, R2, e2⟩ := R'.fz (R'.gc hb) (fun j o' q => (keep_get q).1) e hv
          exact p F2 _ σ' H' u (sm.trans s2) (take_pre pr) R2 e2
        · exact p.elim
      · exact p.elim
theorem pssm_fz {b : List Stmt} {m : M Fl} (h : PSsm X pn b m) : PSsm X pn b (fzM m) := fun W tk =>
  PSs.weak (h W tk) fun σ H D ⟨U, F, ρ, S, R, p⟩ => ⟨U, F, ρ, S, R, fz_post R p⟩
end
end LM

/-! # plain reckoning: what LM17 to LM29 brought -/
namespace LM
open PySem L2
@[simp] theorem eqW_at {s : SS} {a b : PV} : eqW s a b = (eqX s a b).or (eqOb s a b) := Eq.trans rfl rfl
@[simp] theorem neW_at {s : SS} {a b : PV} : neW s a b = (neC s a b).or ((eqOb s a b).map (!·)) := Eq.trans rfl rfl
@[simp] theorem eqOb_at {s : SS} {a b : PV} : eqOb s a b = eqB (eqN s.hp 20) (coP a s) (coP b s) := Eq.trans rfl rfl
@[simp] theorem eqB_lst {r : AV → AV → Option Bool} {xs ys : List AV} : eqB r (.ob (.lst xs)) (.ob (.lst ys)) = if xs.length = ys.length then eqZ r xs ys else some false := Eq.trans rfl rfl
@[simp] theorem eqB_dic {r : AV → AV → Option Bool} {t u : Bool} {xs ys : List (AV × AV)} : eqB r (.ob (.dic t xs)) (.ob (.dic u ys)) = if xs.length = ys.length then (if xs.length = 0 then some true else if t || u then none else eqHit r ys xs) else some false := Eq.trans rfl rfl
@[simp] theorem ltX_at {s : SS} {a b : PV} : ltX s a b = (ltC s a b).or (ltDA s a b) := Eq.trans rfl rfl
@[simp] theorem leX_at {s : SS} {a b : PV} : leX s a b = (leC s a b).or (leTA s a b) := Eq.trans rfl rfl
@[simp] theorem fzE_at {m : M AV} {s : SS} : fzE m s = fzR s.hp.length s (m s) := Eq.trans rfl rfl
theorem augX_at {i : Nat} {op : AV → AV → Option AV} {f : M AV} {s : SS} : augX i op f s = bif isLs i s then augL i f s else augM i op f s := Eq.trans rfl rfl
end LM

/-! # what every law starts with: dice -/
namespace LM
open PySem L2
def b__law_dice : M Fl := (seqM
 (ifM (chainM ltC ltC (pkE (op2 subA (cM (.int 0)) (cM (.int 10)))) (pkV 0) (pkE (cM (.int 10)))) (retM (laM (lstM (consM (cbM absA (consM (pkV 0) nilM)) (consM (cM (.int 0)) (consM (cM (.int 2)) nilM)))))) nxM)
 (retM (laM (lstM (consM (vM 0) (consM (op2 addX (cM (.int 1)) (op2 modA (cbM intA (consM (pkV 0) nilM)) (cM (.int 1009)))) (consM (cbM intA (consM (pkE (bvM (cmpM geC (pkV 0) (pkE (op2 powA (cM (.int 10)) (cM (.int 18))))))) nilM)) nilM)))))))
def m__law_dice : MF := fnM 1 b__law_dice
def b__law_rounds : M Fl := (seqM
 (asgM (setV 2) (slM (pkV 0) noPartM (partM (vM 1))))
 (seqM
 (ifM (cmpM eqW (pkV 2) (pkE (frM (lstM nilM)))) (asgM (setV 2) (frM (lstM (consM (cM (.int 0)) nilM)))) nxM)
 (retM (frM (compM [3] (itM (vM 2)) (setV 3) yesM (callM 1 m__law_dice [] (consM (vM 3) nilM)))))))
def m__law_rounds : MF := fnM 4 b__law_rounds
def b__law_roll : M Fl := (seqM
 (ifM (orM (cmpM eqW (pkE (ixM (pkV 0) (pkE (cM (.int 2))))) (pkE (cM (.int 2)))) (andM (cmpM eqW (pkE (ixM (pkV 0) (pkE (cM (.int 2))))) (pkE (cM (.int 1)))) (cmpM gtC (pkE (ixM (pkV 0) (pkE (cM (.int 0))))) (pkE (cM (.int 0)))))) (seqM
 (asgM (setV 2) (op2 modA (cbM intA (consM (pkE (ixM (pkV 0) (pkE (cM (.int 0))))) nilM)) (vM 1)))
 (seqM
 (asgM (putG (pkV 0) (pkE (cM (.int 0)))) (op2 fdivA (ixM (pkV 0) (pkE (cM (.int 0)))) (vM 1)))
 (retM (vM 2)))) nxM)
 (seqM
 (asgM (putG (pkV 0) (pkE (cM (.int 2)))) (cM (.int 0)))
 (seqM
 (asgM (putG (pkV 0) (pkE (cM (.int 0)))) (op2 modA (cbM intA (consM (pkE (op2 addX (op2 addX (op2 mulA (ixM (pkV 0) (pkE (cM (.int 0)))) (cM (.int 48271))) (op2 mulA (ixM (pkV 0) (pkE (cM (.int 1)))) (cM (.int 69621)))) (cM (.int 11)))) nilM)) (cM (.int 2147483647))))
 (seqM
 (asgM (putG (pkV 0) (pkE (cM (.int 1)))) (op2 addX (ixM (pkV 0) (pkE (cM (.int 1)))) (cM (.int 1))))
 (retM (op2 modA (cbM intA (consM (pkE (op2 addX (op2 fdivA (ixM (pkV 0) (pkE (cM (.int 0)))) (cM (.int 7))) (ixM (pkV 0) (pkE (cM (.int 0)))))) nilM)) (vM 1)))))))
def m__law_roll : MF := fnM 3 b__law_roll
def isD (o : AO) : Prop := ∃ a b c : Int, o = .lst [.int a, .int b, .int c]
theorem roll_ok {d : AO} (hd : isD d) (t : AH) (n : Int) (hn : 0 < n) (hn2 : n < 1073741824) : ∃ v d', 0 ≤ v ∧ v < n ∧ isD d' ∧ m__law_roll [.ref 0, .int n] (d :: t) = .ok (.int v) (d' :: t) := by
  obtain ⟨a, b, c, rfl⟩ := hd
  have e1 : (0 : Int) ≤ a % n := Int.emod_nonneg _ (by omega)
  have e2 : a % n < n := Int.emod_lt_of_pos _ hn
  by_cases h1 : c = 2 ∨ (c = 1 ∧ 0 < a)
  · refine ⟨a % n, .lst [.int (a / n), .int b, .int c], e1, e2, ⟨_, _, _, rfl⟩, ?_⟩
    rcases h1 with rfl | ⟨rfl, h2⟩
    · simp [m__law_roll, b__law_roll, slots0, atI, ixN, hn, hn2]
    · simp [m__law_roll, b__law_roll, slots0, atI, ixN, hn, hn2, h2]
  · refine ⟨((a * 48271 + b * 69621 + 11) % 2147483647 / 7 + (a * 48271 + b * 69621 + 11) % 2147483647) % n, .lst [.int ((a * 48271 + b * 69621 + 11) % 2147483647), .int (b + 1), .int 0], Int.emod_nonneg _ (by omega), Int.emod_lt_of_pos _ hn, ⟨_, _, _, rfl⟩, ?_⟩
    have h2 : ¬ c = 2 := fun z => h1 (.inl z)
    by_cases h3 : c = 1
    · have h4 : ¬ 0 < a := fun z => h1 (.inr ⟨h3, z⟩)
      subst h3
      simp [m__law_roll, b__law_roll, slots0, atI, ixN, hn, hn2, h2, h4]
    · simp [m__law_roll, b__law_roll, slots0, atI, ixN, hn, hn2, h2, h3]
theorem dice_ok (i : Int) (t : AH) : ∃ d, isD d ∧ m__law_dice [.int i] t = .ok (.ref t.length) (t ++ [d]) := by
  by_cases h1 : -10 < i ∧ i < 10
  · obtain ⟨h2, h3⟩ := h1
    exact ⟨.lst [.int (if i < 0 then -i else i), .int 0, .int 2], ⟨_, _, _, rfl⟩, by simp [m__law_dice, b__law_dice, slots0, h2, h3]⟩
  · refine ⟨.lst [.int i, .int (1 + i % 1009), .int (if decide (10 ^ 18 ≤ i) then 1 else 0)], ⟨_, _, _, rfl⟩, ?_⟩
    by_cases h2 : -10 < i
    · have h3 : ¬ i < 10 := fun z => h1 ⟨h2, z⟩
      simp [m__law_dice, b__law_dice, slots0, h2, h3]
    · simp [m__law_dice, b__law_dice, slots0, h2]
theorem rounds_ok (ns : List Int) : ∃ d, isD d ∧ m__law_rounds [.cl (ns.map AV.int), .int 1] [] = .ok (.vl [.ref 0]) [d] := by
  have go : ∀ (i : Int) (d : AO) (sl : List (Option SV)), m__law_dice [.int i] [] = .ok (.ref 0) [d] → compL [3] (setV 3) yesM (callM 1 m__law_dice [] (consM (vM 3) nilM)) [.int i] [] ⟨[sl.getD 0 none, sl.getD 1 none, sl.getD 2 none, none], []⟩ = .ok [.ref 0] ⟨[sl.getD 0 none, sl.getD 1 none, sl.getD 2 none, none], [d]⟩ := by
    intro i d sl h
    rw [compL_yes (setV_at) (yesM_at) (by simp [wipeS, wipeL, h]; exact ⟨rfl, rfl⟩) (by decide), compL_nil]
    rfl
  cases ns with
  | nil =>
    obtain ⟨d, h1, h2⟩ := dice_ok 0 []
    refine ⟨d, h1, ?_⟩
    have := go 0 d [some (.val (.cl [])), some (.val (.int 1)), some (.val (.vl [.int 0]))] h2
    simp [m__law_rounds, b__law_rounds, slots0, cutG, HT.sIx, ownAt]
    simp at this
    rw [this]
    simp [putBack]
  | cons n ns =>
    obtain ⟨d, h1, h2⟩ := dice_ok n []
    refine ⟨d, h1, ?_⟩
    have := go n d [some (.val (.cl ((n :: ns).map AV.int))), some (.val (.int 1)), some (.val (.vl [.int n]))] h2
    simp [m__law_rounds, b__law_rounds, slots0, cutG, HT.sIx, ownAt]
    simp at this
    rw [this]
    simp [putBack]
end LM
namespace LM
open PySem L2
/-- a law's turn: it goes through, or says True -/
def DoneOk (r : Res Fl) : Prop := match r with
  | .ok .nx _ => True
  | .ok (.rt (.bl true)) _ => True
  | _ => False
theorem done_nx {s : SS} : DoneOk (.ok .nx s) = True := rfl
theorem done_rt {s : SS} : DoneOk (.ok (.rt (.bl true)) s) = True := rfl
theorem law_run {k : Nat} {b body : M Fl} (hb : b = seqM (LM.forM (itM (callM 2 m__law_rounds [] (consM (vM 0) (consM (cM (.int 1)) nilM)))) (setV 1) body) (retM (cM (.bl true)))) (ns : List Int)
    (h : ∀ d, isD d → DoneOk (body ⟨some (.val (.cl (ns.map AV.int))) :: some (.val (.ref 0)) :: List.replicate k none, [d]⟩)) : ∃ hp, fnM (k + 2) b [.cl (ns.map AV.int)] [] = .ok (.bl true) hp := by
  obtain ⟨d, hd, e0⟩ := rounds_ok ns
  have h := h d hd
  subst hb
  have e1 : slots0 (k + 2) [.cl (ns.map AV.int)] = some (.val (.cl (ns.map AV.int))) :: none :: List.replicate k none := by
    unfold slots0
    simp [List.replicate_succ]
  rw [fnM_at, e1, seqM_at]
  have e2 : (LM.forM (itM (callM 2 m__law_rounds [] (consM (vM 0) (consM (cM (.int 1)) nilM)))) (setV 1) body) ⟨some (.val (.cl (ns.map AV.int))) :: none :: List.replicate k none, []⟩ = turnR (body ⟨some (.val (.cl (ns.map AV.int))) :: some (.val (.ref 0)) :: List.replicate k none, [d]⟩) (forL (setV 1) body []) := by
    simp only [forM_at, itM_at, callM_at, consM_at, vM_at, cM_at, nilM_at, List.getElem?_cons_zero, slR_val, bindR_ok]
    simp [e0, forL_setV]
  rw [e2]
  revert h
  cases body ⟨some (.val (.cl (ns.map AV.int))) :: some (.val (.ref 0)) :: List.replicate k none, [d]⟩ with
  | exn c s => intro h; exact h.elim
  | stuck => intro h; exact h.elim
  | ok a s =>
    cases a with
    | nx => intro _; exact ⟨s.hp, rfl⟩
    | bk => intro h; exact h.elim
    | ct => intro h; exact h.elim
    | rt v =>
      cases v with
      | bl b =>
        cases b with
        | true => intro _; exact ⟨s.hp, rfl⟩
        | false => intro h; exact h.elim
      | _ => intro h; exact h.elim
end LM

namespace LM
open PyProof.Rows hiding St frameOf passOn
open PySem PySem.Spec L2
variable [TabNames]
/-! ## slots forgotten; what an expression left behind forgotten -/
def wipM {α : Type} (vs : List Nat) (m : M α) : M α := fun s => m (wipeS vs s)
def gczR {α : Type} (n : Nat) (s0 : SS) (ok : α → Bool) (r : Res α) : Res α := match r with
  | .ok a s => if (s.hp.take n).all (belowO n) && ok a then .ok a (gcZ n s0 s) else .stuck
  | .exn c s => if (s.hp.take n).all (belowO n) then .exn c (gcZ n s0 s) else .stuck
  | .stuck => .stuck
def gcEz (m : M AV) : M AV := fun s => gczR s.hp.length s (below s.hp.length) (m s)
def gcTz (m : M Bool) : M Bool := fun s => gczR s.hp.length s (fun _ => true) (m s)
section
variable {X : Cx} {pos : Pos} {pn : Bool} {K : PySem.W.Frag} {U F H : Hp} {ρ : List Addr} {S : SS} {σ : St}
theorem Rep.wipe (R : Rep K U F ρ S σ H) : ∀ vs : List Nat, Rep K U F ρ (wipeS vs S) σ H
  | [] => R
  | v :: vs => (Rep.wipe R vs).forget
theorem pssm_wip {b : List Stmt} {vs : List Nat} {m : M Fl} (h : PSsm X pn b m) : PSsm X pn b (wipM vs m) := fun W tk =>
  PSs.weak (h W tk) fun σ H D ⟨U, F, ρ, S, R, p⟩ => ⟨U, F, ρ, wipeS vs S, R.wipe vs, p⟩
theorem psm_wip {b : Stmt} {vs : List Nat} {m : M Fl} (h : PSm X pn b m) : PSm X pn b (wipM vs m) := fun W tk =>
  PS.weak (h W tk) fun σ H D ⟨U, F, ρ, S, R, p⟩ => ⟨U, F, ρ, wipeS vs S, R.wipe vs, p⟩
theorem pm_gcz {e : Expr} {m : M AV} (h : PEm X e m) : PEm X e (gcEz m) := fun W tk =>
  PE.weak (h W tk) fun σ H Q ⟨U, F, ρ, S, R, p⟩ => ⟨U, F, ρ, S, R, by
    have p : Post X.K U F ρ σ (RE X.K U σ) W Q (gczR S.hp.length S (below S.hp.length) (m S)) := p
    rw [← R.rln] at p
    cases z : m S with
    | stuck => rw [z] at p; exact p
    | exn c s =>
      rw [z] at p
      simp only [gczR] at p
      split at p
      · rename_i hb
        exact fun F' ρ' H' sm pr R' => p F' _ H' sm (take_pre pr) (R.gcZ R' sm (take_pre pr) hb)
      · exact p.elim
    | ok a s =>
      rw [z] at p
      simp only [gczR] at p
      split at p
      · rename_i hb
        simp only [Bool.and_eq_true] at hb
        exact fun F' ρ' H' v sm pr R' e => p F' _ H' v sm (take_pre pr) (R.gcZ R' sm (take_pre pr) hb.1) (Emb.take hb.2 e)
      · exact p.elim⟩
theorem pt_gcz {e : Expr} {m : M Bool} (h : PTm X e m) : PTm X e (gcTz m) := fun W tk =>
  PT.weak (h W tk) fun σ H Q ⟨U, F, ρ, S, R, p⟩ => ⟨U, F, ρ, S, R, by
    have p : Post X.K U F ρ σ (RT X.K U σ) W Q (gczR S.hp.length S (fun _ => true) (m S)) := p
    rw [← R.rln] at p
    cases z : m S with
    | stuck => rw [z] at p; exact p
    | exn c s =>
      rw [z] at p
      simp only [gczR] at p
      split at p
      · rename_i hb
        exact fun F' ρ' H' sm pr R' => p F' _ H' sm (take_pre pr) (R.gcZ R' sm (take_pre pr) hb)
      · exact p.elim
    | ok a s =>
      rw [z] at p
      simp only [gczR] at p
      split at p
      · rename_i hb
        simp only [Bool.and_eq_true] at hb
        exact fun F' ρ' H' v sm pr R' e => p F' _ H' v sm (take_pre pr) (R.gcZ R' sm (take_pre pr) hb.1) e
      · exact p.elim⟩
end
end LM

/-! # plain reckoning: LM17 to LM32, second part -/
namespace LM
open PySem L2
@[simp] theorem wipM_at {α : Type} {vs : List Nat} {m : M α} {s : SS} : wipM vs m s = m (wipeS vs s) := Eq.trans rfl rfl
@[simp] theorem gcEz_at {m : M AV} {s : SS} : gcEz m s = gczR s.hp.length s (below s.hp.length) (m s) := Eq.trans rfl rfl
@[simp] theorem gcTz_at {m : M Bool} {s : SS} : gcTz m s = gczR s.hp.length s (fun _ => true) (m s) := Eq.trans rfl rfl
def isiR (o : Option Bool) (s : SS) : Res AV := match o with
  | some k => .ok (.bl k) s
  | none => .stuck
@[simp] theorem isiR_some {k : Bool} {s : SS} : isiR (some k) s = .ok (.bl k) s := Eq.trans rfl rfl
@[simp] theorem isiM_at {T : String} {f : M PV} {s : SS} : isiM T f s = @bnd _ _ (f s) ⟨fun p s => isiR ((avP p s).bind (isiA T)) s⟩ := Eq.trans rfl rfl
@[simp] theorem isiA_int {T : String} {i : Int} : isiA T (.int i) = some (decide (T = "int")) := Eq.trans rfl rfl
@[simp] theorem isiA_str {T : String} {i : Str} : isiA T (.str i) = some (decide (T = "str")) := Eq.trans rfl rfl
@[simp] theorem isiA_bl {T : String} {i : Bool} : isiA T (.bl i) = some (decide (T = "int")) := Eq.trans rfl rfl
@[simp] theorem isiA_non {T : String} : isiA T .non = some false := Eq.trans rfl rfl
def isDR (c : Co) (p : PV) (s : SS) : Res PV := match c with
  | .ob (.dic _ _) => .ok p s
  | _ => .stuck
@[simp] theorem isDR_dic {t : Bool} {kvs : List (AV × AV)} {p : PV} {s : SS} : isDR (.ob (.dic t kvs)) p s = .ok p s := Eq.trans rfl rfl
@[simp] theorem isDiM_at {f : M PV} {s : SS} : isDiM f s = @bnd _ _ (f s) ⟨fun p s => isDR (coP p s) p s⟩ := Eq.trans rfl rfl
@[simp] theorem getO_dic {t : Bool} {kvs : List (AV × AV)} {k d : AV} : getO (.ob (.dic t kvs)) k d = if (kk t k).isSome then some ((dGet t kvs k).getD d) else none := Eq.trans rfl rfl
@[simp] theorem get1M_at {f : M PV} {g : M AV} {s : SS} : get1M f g s = @bnd _ _ (isDiM f s) ⟨fun p s => @bnd _ _ (g s) ⟨fun k s => optR (getO (coP p s) k .non) s⟩⟩ := by
  simp only [bnd_mk]
  unfold get1M LM.bindM
  congr 1
  funext p s
  congr 1
  funext k s
  cases getO (coP p s) k .non <;> rfl
@[simp] theorem get2M_at {f : M PV} {g h : M AV} {s : SS} : get2M f g h s = @bnd _ _ (isDiM f s) ⟨fun p s => @bnd _ _ (g s) ⟨fun k s => @bnd _ _ (h s) ⟨fun d s => optR (getO (coP p s) k d) s⟩⟩⟩ := by
  simp only [bnd_mk]
  unfold get2M LM.bindM
  congr 1
  funext p s
  congr 1
  funext k s
  congr 1
  funext d s
  cases getO (coP p s) k d <;> rfl
@[simp] theorem raiM_at {c : Str} {s : SS} : raiM c s = .exn c s := Eq.trans rfl rfl
/-! ## for over a dict or a list -/
def isDC : Co → Bool
  | .ob (.dic _ _) => true
  | _ => false
@[simp] theorem isDC_dic {t : Bool} {kvs : List (AV × AV)} : isDC (.ob (.dic t kvs)) = true := Eq.trans rfl rfl
@[simp] theorem isDC_lst {xs : List AV} : isDC (.ob (.lst xs)) = false := Eq.trans rfl rfl
@[simp] theorem isDC_tup {xs : List AV} : isDC (.tup xs) = false := Eq.trans rfl rfl
@[simp] theorem isDC_str {x : Str} : isDC (.str x) = false := Eq.trans rfl rfl
def isDictR : Res PV → Bool
  | .ok p s => isDC (coP p s)
  | _ => false
@[simp] theorem isDictR_ok {p : PV} {s : SS} : isDictR (.ok p s) = isDC (coP p s) := Eq.trans rfl rfl
@[simp] theorem isDict_at {f : M PV} {s : SS} : isDict f s = isDictR (f s) := by
  unfold isDict isDictR
  cases f s with
  | ok p s1 =>
    show (match coP p s1 with | .ob (.dic _ _) => true | _ => false) = isDC (coP p s1)
    cases coP p s1 with
    | ob o => cases o <;> rfl
    | _ => rfl
  | exn c s => rfl
  | stuck => rfl
@[simp] theorem pickM_at {α : Type} {c : SS → Bool} {m1 m2 : M α} {s : SS} : pickM c m1 m2 s = bif c s then m1 s else m2 s := Eq.trans rfl rfl
@[simp] theorem forXM_at {f : M PV} {it : M (List AV)} {g : AV → M Unit} {b : M Fl} {s : SS} : forXM f it g b s = bif isDict f s then forDM f g b s else LM.forM it g b s := Eq.trans rfl rfl
def forDR (g : AV → M Unit) (b : M Fl) : Option (Bool × List (AV × AV) × Option Nat × SS) → Res Fl
  | some (_, kvs, j, s1) => unlF j (forL g b (kvs.map (·.1)) s1)
  | none => .stuck
@[simp] theorem forDR_some {g : AV → M Unit} {b : M Fl} {t : Bool} {kvs : List (AV × AV)} {j : Option Nat} {s : SS} : forDR g b (some (t, kvs, j, s)) = unlF j (forL g b (kvs.map (·.1)) s) := Eq.trans rfl rfl
@[simp] theorem forDM_at {f : M PV} {g : AV → M Unit} {b : M Fl} {s : SS} : forDM f g b s = @bnd _ _ (f s) ⟨fun p s => forDR g b (dicL p s)⟩ := by
  simp only [bnd_mk]
  unfold forDM LM.bindM
  congr 1
@[simp] theorem unlF_none {r : Res Fl} : unlF none r = r := by cases r <;> rfl
@[simp] theorem dicL_av {a : AV} {s : SS} : dicL (.av a) s = dicA s a := Eq.trans rfl rfl
@[simp] theorem dicA_vd {t : Bool} {kvs : List (AV × AV)} {s : SS} : dicA s (.vd t kvs) = some (t, kvs, none, s) := Eq.trans rfl rfl
def dicAR (s : SS) (j : Nat) : Option AO → Option (Bool × List (AV × AV) × Option Nat × SS)
  | some (.dic t kvs) => some (t, kvs, some j, { s with hp := s.hp.set j (.lck t kvs) })
  | some (.lck t kvs) => some (t, kvs, none, s)
  | _ => none
@[simp] theorem dicAR_dic {s : SS} {j : Nat} {t : Bool} {kvs : List (AV × AV)} : dicAR s j (some (.dic t kvs)) = some (t, kvs, some j, { s with hp := s.hp.set j (.lck t kvs) }) := Eq.trans rfl rfl
@[simp] theorem dicAR_lck {s : SS} {j : Nat} {t : Bool} {kvs : List (AV × AV)} : dicAR s j (some (.lck t kvs)) = some (t, kvs, none, s) := Eq.trans rfl rfl
@[simp] theorem dicA_ref {j : Nat} {s : SS} : dicA s (.ref j) = dicAR s j s.hp[j]? := by
  show (match s.hp[j]? with | some (.dic t kvs) => _ | some (.lck t kvs) => _ | _ => _) = _
  unfold dicAR
  cases s.hp[j]? with
  | none => rfl
  | some o => cases o <;> rfl
def dicSR (s : SS) (i : Nat) : Option (Option SV) → Option (Bool × List (AV × AV) × Option Nat × SS)
  | some (some (.val a)) => dicA s a
  | some (some (.own (.dic t kvs))) => some (t, kvs, some s.hp.length, ⟨s.sl.set i (some (.val (.ref s.hp.length))), s.hp ++ [.lck t kvs]⟩)
  | _ => none
@[simp] theorem dicSR_val {s : SS} {i : Nat} {a : AV} : dicSR s i (some (some (.val a))) = dicA s a := Eq.trans rfl rfl
@[simp] theorem dicSR_own {s : SS} {i : Nat} {t : Bool} {kvs : List (AV × AV)} : dicSR s i (some (some (.own (.dic t kvs)))) = some (t, kvs, some s.hp.length, ⟨s.sl.set i (some (.val (.ref s.hp.length))), s.hp ++ [.lck t kvs]⟩) := Eq.trans rfl rfl
@[simp] theorem dicL_sl {i : Nat} {s : SS} : dicL (.sl i) s = dicSR s i s.sl[i]? := by
  show (match s.sl[i]? with | some (some (.val a)) => _ | some (some (.own (.dic t kvs))) => _ | _ => _) = _
  unfold dicSR
  cases s.sl[i]? with
  | none => rfl
  | some o => cases o with
    | none => rfl
    | some sv => cases sv with
      | val a => rfl
      | own o => cases o <;> rfl
def unlR (j : Nat) (s : SS) : Option AO → Option SS
  | some (.lck t kvs) => some { s with hp := s.hp.set j (.dic t kvs) }
  | _ => none
@[simp] theorem unlR_lck {j : Nat} {s : SS} {t : Bool} {kvs : List (AV × AV)} : unlR j s (some (.lck t kvs)) = some { s with hp := s.hp.set j (.dic t kvs) } := Eq.trans rfl rfl
@[simp] theorem unlk_some {j : Nat} {s : SS} : unlk (some j) s = unlR j s s.hp[j]? := by
  show (match s.hp[j]? with | some (.lck t kvs) => _ | _ => _) = _
  unfold unlR
  cases s.hp[j]? with
  | none => rfl
  | some o => cases o <;> rfl
def unlO (a : Fl) : Option SS → Res Fl
  | some s => .ok a s
  | none => .stuck
@[simp] theorem unlO_some {a : Fl} {s : SS} : unlO a (some s) = .ok a s := Eq.trans rfl rfl
@[simp] theorem unlF_some {j : Nat} {a : Fl} {s : SS} : unlF (some j) (.ok a s) = unlO a (unlk (some j) s) := by
  show (match unlk (some j) s with | some s => Res.ok a s | none => Res.stuck) = _
  cases unlk (some j) s <;> rfl
@[simp] theorem unlF_exn {j : Option Nat} {c : Str} {s : SS} : unlF j (.exn c s) = .exn c s := Eq.trans rfl rfl
/-! ## x += list -/
def lsB : Option AO → Bool
  | some (.lst _) => true
  | _ => false
@[simp] theorem lsB_lst {xs : List AV} : lsB (some (.lst xs)) = true := Eq.trans rfl rfl
@[simp] theorem lsB_none : lsB none = false := Eq.trans rfl rfl
@[simp] theorem isLs_at {i : Nat} {s : SS} : isLs i s = lsB (obP (.sl i) s) := by
  show (match obP (.sl i) s with | some (.lst _) => true | _ => false) = _
  cases obP (.sl i) s with
  | none => rfl
  | some o => cases o <;> rfl
@[simp] theorem augX_a {i : Nat} {op : AV → AV → Option AV} {f : M AV} {s : SS} : augX i op f s = bif isLs i s then augL i f s else augM i op f s := Eq.trans rfl rfl
def augLR (i : Nat) (s : SS) : Option AO → Option (List AV) → Res Fl
  | some (.lst xs), some zs => if xs.length + zs.length ≤ 16777216 then .ok .nx (wrP (.sl i) (.lst (xs ++ zs)) s) else .stuck
  | _, _ => .stuck
@[simp] theorem augLR_ok {i : Nat} {s : SS} {xs zs : List AV} : augLR i s (some (.lst xs)) (some zs) = if xs.length + zs.length ≤ 16777216 then .ok .nx (wrP (.sl i) (.lst (xs ++ zs)) s) else .stuck := Eq.trans rfl rfl
theorem augL_at {i : Nat} {f : M AV} {s : SS} {sv : SV} (h : s.sl[i]? = some (some sv)) : augL i f s = @bnd _ _ (f s) ⟨fun b s => augLR i s (obP (.sl i) s) (lsV s.hp b)⟩ := by
  simp only [bnd_mk]
  unfold augL
  rw [h]
  show bindR (f s) _ = bindR (f s) _
  congr 1
def augLS (i : Nat) (f : M AV) (s : SS) : Option (Option SV) → Res Fl
  | some (some _) => @bnd _ _ (f s) ⟨fun b s => augLR i s (obP (.sl i) s) (lsV s.hp b)⟩
  | _ => .stuck
@[simp] theorem augLS_some {i : Nat} {f : M AV} {s : SS} {sv : SV} : augLS i f s (some (some sv)) = @bnd _ _ (f s) ⟨fun b s => augLR i s (obP (.sl i) s) (lsV s.hp b)⟩ := Eq.trans rfl rfl
@[simp] theorem augL_a {i : Nat} {f : M AV} {s : SS} : augL i f s = augLS i f s s.sl[i]? := by
  cases h : s.sl[i]? with
  | none => unfold augL augLS; rw [h]
  | some o => cases o with
    | none => unfold augL augLS; rw [h]
    | some sv => exact augL_at h
@[simp] theorem lsV_vl {h : AH} {xs : List AV} : lsV h (.vl xs) = some xs := Eq.trans rfl rfl
def lsVO : Option AO → Option (List AV)
  | some (.lst xs) => some xs
  | _ => none
@[simp] theorem lsVO_lst {xs : List AV} : lsVO (some (.lst xs)) = some xs := Eq.trans rfl rfl
@[simp] theorem lsV_ref {h : AH} {j : Nat} : lsV h (.ref j) = lsVO h[j]? := by
  show (match h[j]? with | some (.lst xs) => _ | _ => _) = _
  unfold lsVO
  cases h[j]? with
  | none => rfl
  | some o => cases o <;> rfl
/-! ## list(x), dict(x) -/
def lisC : Co → Option AO
  | .ob (.lst xs) => some (.lst xs)
  | .tup xs => some (.lst xs)
  | .ob (.dic _ kvs) => some (.lst (kvs.map (·.1)))
  | _ => none
@[simp] theorem lisC_lst {xs : List AV} : lisC (.ob (.lst xs)) = some (.lst xs) := Eq.trans rfl rfl
@[simp] theorem lisC_tup {xs : List AV} : lisC (.tup xs) = some (.lst xs) := Eq.trans rfl rfl
@[simp] theorem lisC_dic {t : Bool} {kvs : List (AV × AV)} : lisC (.ob (.dic t kvs)) = some (.lst (kvs.map (·.1))) := Eq.trans rfl rfl
@[simp] theorem lisX_at {s : SS} {a : PV} : lisX s [a] = lisC (coP a s) := by
  show (match coP a s with | .ob (.lst xs) => _ | .tup xs => _ | _ => _ : Option AO).or (match coP a s with | .ob (.dic _ kvs) => _ | _ => _ : Option AO) = _
  cases coP a s with
  | ob o => cases o <;> rfl
  | _ => rfl
def dicC : Co → Option AO
  | .ob (.dic false kvs) => some (.dic false kvs)
  | _ => none
@[simp] theorem dicC_dic {kvs : List (AV × AV)} : dicC (.ob (.dic false kvs)) = some (.dic false kvs) := Eq.trans rfl rfl
@[simp] theorem dicDA_at {s : SS} {a : PV} : dicDA s [a] = dicC (coP a s) := by
  show (match coP a s with | .ob (.dic false kvs) => _ | _ => _ : Option AO) = _
  cases coP a s with
  | ob o => cases o with
    | dic t kvs => cases t <;> rfl
    | _ => rfl
  | _ => rfl
@[simp] theorem slO_tup {xs : List AV} {a : AV} {l h : Option Int} : slO (.tup xs) (some a) l h = if HT.sIx xs.length 0 l = 0 ∧ HT.sIx xs.length xs.length h = xs.length then some a else some (.tup (cutG xs l h)) := Eq.trans rfl rfl
@[simp] theorem slO_str {z : Str} {a : Option AV} {l h : Option Int} : slO (.str z) a l h = if z.length ≤ 16777216 then some (.str (cutS z l h)) else none := Eq.trans rfl rfl
/-! ## what is forgotten -/
@[simp] theorem gcM_at {m : M Fl} {s : SS} : gcM m s = gcR s.hp.length (okF s.hp.length) (m s) := Eq.trans rfl rfl
@[simp] theorem gcR_ok {α : Type} {n : Nat} {ok : α → Bool} {a : α} {s : SS} : gcR n ok (.ok a s) = if ((s.hp.take n).all (belowO n) && ok a) = true then .ok a (gcS n s) else .stuck := Eq.trans rfl rfl
@[simp] theorem gcR_exn {α : Type} {n : Nat} {ok : α → Bool} {c : Str} {s : SS} : gcR n ok (.exn c s : Res α) = if (s.hp.take n).all (belowO n) = true then .exn c (gcS n s) else .stuck := Eq.trans rfl rfl
@[simp] theorem gczR_ok {α : Type} {n : Nat} {s0 : SS} {ok : α → Bool} {a : α} {s : SS} : gczR n s0 ok (.ok a s) = if ((s.hp.take n).all (belowO n) && ok a) = true then .ok a (gcZ n s0 s) else .stuck := Eq.trans rfl rfl
@[simp] theorem gczR_exn {α : Type} {n : Nat} {s0 : SS} {ok : α → Bool} {c : Str} {s : SS} : gczR n s0 ok (.exn c s : Res α) = if (s.hp.take n).all (belowO n) = true then .exn c (gcZ n s0 s) else .stuck := Eq.trans rfl rfl
@[simp] theorem fzM_at {m : M Fl} {s : SS} : fzM m s = fzRF s.hp.length (m s) := Eq.trans rfl rfl
def fzO (o : Option AV) (s : SS) : Res AV := match o with
  | some b => .ok b s
  | none => .stuck
@[simp] theorem fzO_some {b : AV} {s : SS} : fzO (some b) s = .ok b s := Eq.trans rfl rfl
def fzOF (o : Option AV) (s : SS) : Res Fl := match o with
  | some b => .ok (.rt b) s
  | none => .stuck
@[simp] theorem fzOF_some {b : AV} {s : SS} : fzOF (some b) s = .ok (.rt b) s := Eq.trans rfl rfl
@[simp] theorem fzR_ok {n : Nat} {s0 : SS} {a : AV} {s : SS} : fzR n s0 (.ok a s) = if (s.hp.take n).all (belowO n) = true then fzO (fzV s.hp n a) (gcZ n s0 s) else .stuck := by
  show (if (s.hp.take n).all (belowO n) then (match fzV s.hp n a with | some b => Res.ok b (gcZ n s0 s) | none => Res.stuck) else Res.stuck) = _
  cases fzV s.hp n a <;> rfl
@[simp] theorem fzR_exn {n : Nat} {s0 : SS} {c : Str} {s : SS} : fzR n s0 (.exn c s) = if (s.hp.take n).all (belowO n) = true then .exn c (gcZ n s0 s) else .stuck := Eq.trans rfl rfl
@[simp] theorem fzRF_rt {n : Nat} {a : AV} {s : SS} : fzRF n (.ok (.rt a) s) = if (s.hp.take n).all (belowO n) = true then fzOF (fzV s.hp n a) (gcS n s) else .stuck := by
  show (if (s.hp.take n).all (belowO n) then (match fzV s.hp n a with | some b => Res.ok (Fl.rt b) (gcS n s) | none => Res.stuck) else Res.stuck) = _
  cases fzV s.hp n a <;> rfl
@[simp] theorem fzRF_nx {n : Nat} {s : SS} : fzRF n (.ok .nx s) = gcR n (okF n) (.ok .nx s) := Eq.trans rfl rfl
@[simp] theorem fzRF_exn {n : Nat} {c : Str} {s : SS} : fzRF n (.exn c s) = gcR n (okF n) (.exn c s) := Eq.trans rfl rfl
@[simp] theorem fzV_at {h : AH} {n : Nat} {a : AV} : fzV h n a = if (h.drop n).all (fun o => !o.isl) = true then rs (resI h n (h.length - n + 1)) a else none := Eq.trans rfl rfl
@[simp] theorem rs_ref {r : Nat → Option AV} {i : Nat} : rs r (.ref i) = r i := Eq.trans rfl rfl
@[simp] theorem rs_non {r : Nat → Option AV} : rs r .non = some .non := Eq.trans rfl rfl
@[simp] theorem rs_bl {r : Nat → Option AV} {b : Bool} : rs r (.bl b) = some (.bl b) := Eq.trans rfl rfl
@[simp] theorem rs_int {r : Nat → Option AV} {b : Int} : rs r (.int b) = some (.int b) := Eq.trans rfl rfl
@[simp] theorem rs_str {r : Nat → Option AV} {b : Str} : rs r (.str b) = some (.str b) := Eq.trans rfl rfl
@[simp] theorem rs_tup {r : Nat → Option AV} {xs : List AV} : rs r (.tup xs) = (rs.rsL r xs).map .tup := Eq.trans rfl rfl
@[simp] theorem rs_ct {r : Nat → Option AV} {xs : List AV} : rs r (.ct xs) = (rs.rsL r xs).map .ct := Eq.trans rfl rfl
@[simp] theorem rs_vl {r : Nat → Option AV} {xs : List AV} : rs r (.vl xs) = (rs.rsL r xs).map .vl := Eq.trans rfl rfl
@[simp] theorem rs_vd {r : Nat → Option AV} {t : Bool} {xs : List (AV × AV)} : rs r (.vd t xs) = (rs.rsK r xs).map (.vd t) := Eq.trans rfl rfl
@[simp] theorem rs_ob {r : Nat → Option AV} {c : Str} {xs : List (Str × AV)} : rs r (.ob c xs) = (rs.rsF r xs).map (.ob c) := Eq.trans rfl rfl
def opt2 {α β γ : Type} (f : α → β → γ) : Option α → Option β → Option γ
  | some a, some b => some (f a b)
  | _, _ => none
@[simp] theorem opt2_some {α β γ : Type} {f : α → β → γ} {a : α} {b : β} : opt2 f (some a) (some b) = some (f a b) := Eq.trans rfl rfl
@[simp] theorem eqAx_nb  {b : Bool} : eqA (.non) (.bl b) = false := Eq.trans (by simp only [eqA]) rfl
@[simp] theorem eqAx_ni  {i : Int} : eqA (.non) (.int i) = false := Eq.trans (by simp only [eqA]) rfl
@[simp] theorem eqAx_ns  {s : Str} : eqA (.non) (.str s) = false := Eq.trans (by simp only [eqA]) rfl
@[simp] theorem eqAx_nt  {t : List AV} : eqA (.non) (.tup t) = false := Eq.trans (by simp only [eqA]) rfl
@[simp] theorem eqAx_nl  {l : List AV} : eqA (.non) (.vl l) = false := Eq.trans (by simp only [eqA]) rfl
@[simp] theorem eqAx_nd  {d : Bool} {d2 : List (AV × AV)} : eqA (.non) (.vd d d2) = false := Eq.trans (by simp only [eqA]) rfl
@[simp] theorem eqAx_bn {b : Bool}  : eqA (.bl b) (.non) = false := Eq.trans (by simp only [eqA]) rfl
@[simp] theorem eqAx_bs {b : Bool} {s : Str} : eqA (.bl b) (.str s) = false := Eq.trans (by simp only [eqA]) rfl
@[simp] theorem eqAx_bt {b : Bool} {t : List AV} : eqA (.bl b) (.tup t) = false := Eq.trans (by simp only [eqA]) rfl
@[simp] theorem eqAx_bl {b : Bool} {l : List AV} : eqA (.bl b) (.vl l) = false := Eq.trans (by simp only [eqA]) rfl
@[simp] theorem eqAx_bd {b : Bool} {d : Bool} {d2 : List (AV × AV)} : eqA (.bl b) (.vd d d2) = false := Eq.trans (by simp only [eqA]) rfl
@[simp] theorem eqAx_in {i : Int}  : eqA (.int i) (.non) = false := Eq.trans (by simp only [eqA]) rfl
@[simp] theorem eqAx_is {i : Int} {s : Str} : eqA (.int i) (.str s) = false := Eq.trans (by simp only [eqA]) rfl
@[simp] theorem eqAx_it {i : Int} {t : List AV} : eqA (.int i) (.tup t) = false := Eq.trans (by simp only [eqA]) rfl
@[simp] theorem eqAx_il {i : Int} {l : List AV} : eqA (.int i) (.vl l) = false := Eq.trans (by simp only [eqA]) rfl
@[simp] theorem eqAx_id {i : Int} {d : Bool} {d2 : List (AV × AV)} : eqA (.int i) (.vd d d2) = false := Eq.trans (by simp only [eqA]) rfl
@[simp] theorem eqAx_sn {s : Str}  : eqA (.str s) (.non) = false := Eq.trans (by simp only [eqA]) rfl
@[simp] theorem eqAx_sb {s : Str} {b : Bool} : eqA (.str s) (.bl b) = false := Eq.trans (by simp only [eqA]) rfl
@[simp] theorem eqAx_si {s : Str} {i : Int} : eqA (.str s) (.int i) = false := Eq.trans (by simp only [eqA]) rfl
@[simp] theorem eqAx_st {s : Str} {t : List AV} : eqA (.str s) (.tup t) = false := Eq.trans (by simp only [eqA]) rfl
@[simp] theorem eqAx_sl {s : Str} {l : List AV} : eqA (.str s) (.vl l) = false := Eq.trans (by simp only [eqA]) rfl
@[simp] theorem eqAx_sd {s : Str} {d : Bool} {d2 : List (AV × AV)} : eqA (.str s) (.vd d d2) = false := Eq.trans (by simp only [eqA]) rfl
@[simp] theorem eqAx_tn {t : List AV}  : eqA (.tup t) (.non) = false := Eq.trans (by simp only [eqA]) rfl
@[simp] theorem eqAx_tb {t : List AV} {b : Bool} : eqA (.tup t) (.bl b) = false := Eq.trans (by simp only [eqA]) rfl
@[simp] theorem eqAx_ti {t : List AV} {i : Int} : eqA (.tup t) (.int i) = false := Eq.trans (by simp only [eqA]) rfl
@[simp] theorem eqAx_ts {t : List AV} {s : Str} : eqA (.tup t) (.str s) = false := Eq.trans (by simp only [eqA]) rfl
@[simp] theorem eqAx_tl {t : List AV} {l : List AV} : eqA (.tup t) (.vl l) = false := Eq.trans (by simp only [eqA]) rfl
@[simp] theorem eqAx_td {t : List AV} {d : Bool} {d2 : List (AV × AV)} : eqA (.tup t) (.vd d d2) = false := Eq.trans (by simp only [eqA]) rfl
@[simp] theorem eqAx_ln {l : List AV}  : eqA (.vl l) (.non) = false := Eq.trans (by simp only [eqA]) rfl
@[simp] theorem eqAx_lb {l : List AV} {b : Bool} : eqA (.vl l) (.bl b) = false := Eq.trans (by simp only [eqA]) rfl
@[simp] theorem eqAx_li {l : List AV} {i : Int} : eqA (.vl l) (.int i) = false := Eq.trans (by simp only [eqA]) rfl
@[simp] theorem eqAx_ls {l : List AV} {s : Str} : eqA (.vl l) (.str s) = false := Eq.trans (by simp only [eqA]) rfl
@[simp] theorem eqAx_lt {l : List AV} {t : List AV} : eqA (.vl l) (.tup t) = false := Eq.trans (by simp only [eqA]) rfl
@[simp] theorem eqAx_ld {l : List AV} {d : Bool} {d2 : List (AV × AV)} : eqA (.vl l) (.vd d d2) = false := Eq.trans (by simp only [eqA]) rfl
@[simp] theorem eqAx_dn {d : Bool} {d2 : List (AV × AV)}  : eqA (.vd d d2) (.non) = false := Eq.trans (by simp only [eqA]) rfl
@[simp] theorem eqAx_db {d : Bool} {d2 : List (AV × AV)} {b : Bool} : eqA (.vd d d2) (.bl b) = false := Eq.trans (by simp only [eqA]) rfl
@[simp] theorem eqAx_di {d : Bool} {d2 : List (AV × AV)} {i : Int} : eqA (.vd d d2) (.int i) = false := Eq.trans (by simp only [eqA]) rfl
@[simp] theorem eqAx_ds {d : Bool} {d2 : List (AV × AV)} {s : Str} : eqA (.vd d d2) (.str s) = false := Eq.trans (by simp only [eqA]) rfl
@[simp] theorem eqAx_dt {d : Bool} {d2 : List (AV × AV)} {t : List AV} : eqA (.vd d d2) (.tup t) = false := Eq.trans (by simp only [eqA]) rfl
@[simp] theorem eqAx_dl {d : Bool} {d2 : List (AV × AV)} {l : List AV} : eqA (.vd d d2) (.vl l) = false := Eq.trans (by simp only [eqA]) rfl
@[simp] theorem okA_vd {n : Nat} {t : Bool} {k : List (AV × AV)} : okA n (.vd t k) = false := by cases n <;> rfl
@[simp] theorem okA_ob {n : Nat} {c : Str} {k : List (Str × AV)} : okA n (.ob c k) = false := by cases n <;> rfl
@[simp] theorem okA_ref {n i : Nat} : okA n (.ref i) = false := by cases n <;> rfl
@[simp] theorem eqZ_nil {r : AV → AV → Option Bool} : eqZ r [] [] = some true := Eq.trans rfl rfl
@[simp] theorem eqZ_cons {r : AV → AV → Option Bool} {x y : AV} {xs ys : List AV} : eqZ r (x :: xs) (y :: ys) = opt2 (· && ·) (r x y) (eqZ r xs ys) := by
  show (match r x y, eqZ r xs ys with | some a, some b => some (a && b) | _, _ => none) = _
  cases r x y <;> cases eqZ r xs ys <;> rfl
def hitO (r : AV → AV → Option Bool) (x : AV) (z : Option Bool) : Option AV → Option Bool
  | none => some false
  | some y => opt2 (· && ·) (r x y) z
@[simp] theorem hitO_none {r : AV → AV → Option Bool} {x : AV} {z : Option Bool} : hitO r x z none = some false := Eq.trans rfl rfl
@[simp] theorem hitO_some {r : AV → AV → Option Bool} {x y : AV} {z : Option Bool} : hitO r x z (some y) = opt2 (· && ·) (r x y) z := Eq.trans rfl rfl
@[simp] theorem eqHit_nil {r : AV → AV → Option Bool} {ky : List (AV × AV)} : eqHit r ky [] = some true := Eq.trans rfl rfl
@[simp] theorem eqHit_cons {r : AV → AV → Option Bool} {ky kx : List (AV × AV)} {k x : AV} : eqHit r ky ((k, x) :: kx) = hitO r x (eqHit r ky kx) (dGet false ky k) := by
  show (match dGet false ky k with | none => some false | some y => match r x y, eqHit r ky kx with | some a, some b => some (a && b) | _, _ => none) = _
  cases dGet false ky k with
  | none => rfl
  | some y => show (match r x y, eqHit r ky kx with | some a, some b => some (a && b) | _, _ => none) = _; cases hh : r x y <;> cases hg : eqHit r ky kx <;> simp [hitO, opt2, hh, hg]
@[simp] theorem eqN_succ {h : AH} {n : Nat} {a b : AV} : eqN h (n + 1) a b = (if okA 60 a && okA 60 b then some (eqA a b) else none).or (eqB (eqN h n) (coA h a) (coA h b)) := Eq.trans rfl rfl
@[simp] theorem rsL_nil {r : Nat → Option AV} : rs.rsL r [] = some [] := Eq.trans rfl rfl
@[simp] theorem rsL_cons {r : Nat → Option AV} {x : AV} {xs : List AV} : rs.rsL r (x :: xs) = opt2 (· :: ·) (rs r x) (rs.rsL r xs) := by
  show (match rs r x, rs.rsL r xs with | some y, some ys => some (y :: ys) | _, _ => none) = _
  cases rs r x <;> cases rs.rsL r xs <;> rfl
@[simp] theorem rsK_nil {r : Nat → Option AV} : rs.rsK r [] = some [] := Eq.trans rfl rfl
@[simp] theorem rsK_cons {r : Nat → Option AV} {k x : AV} {xs : List (AV × AV)} : rs.rsK r ((k, x) :: xs) = opt2 (fun y ys => (k, y) :: ys) (rs r x) (rs.rsK r xs) := by
  show (match rs r x, rs.rsK r xs with | some y, some ys => some ((k, y) :: ys) | _, _ => none) = _
  cases rs r x <;> cases rs.rsK r xs <;> rfl
@[simp] theorem rsF_nil {r : Nat → Option AV} : rs.rsF r [] = some [] := Eq.trans rfl rfl
@[simp] theorem rsF_cons {r : Nat → Option AV} {k : Str} {x : AV} {xs : List (Str × AV)} : rs.rsF r ((k, x) :: xs) = opt2 (fun y ys => (k, y) :: ys) (rs r x) (rs.rsF r xs) := by
  show (match rs r x, rs.rsF r xs with | some y, some ys => some ((k, y) :: ys) | _, _ => none) = _
  cases rs r x <;> cases rs.rsF r xs <;> rfl
@[simp] theorem rsO_lst {r : Nat → Option AV} {xs : List AV} : rsO r (.lst xs) = (rs.rsL r xs).map .vl := Eq.trans rfl rfl
@[simp] theorem rsO_dic {r : Nat → Option AV} {t : Bool} {xs : List (AV × AV)} : rsO r (.dic t xs) = (rs.rsK r xs).map (.vd t) := Eq.trans rfl rfl
@[simp] theorem rsO_ins {r : Nat → Option AV} {c : Str} {xs : List (Str × AV)} : rsO r (.ins c xs) = (rs.rsF r xs).map (.ob c) := Eq.trans rfl rfl
def resO (h : AH) (n f : Nat) : Option AO → Option AV
  | some o => rsO (resI h n f) o
  | none => none
@[simp] theorem resO_some {h : AH} {n f : Nat} {o : AO} : resO h n f (some o) = rsO (resI h n f) o := Eq.trans rfl rfl
theorem resI_at {h : AH} {n f i : Nat} : resI h n (f + 1) i = if i < n then some (.ref i) else resO h n f h[i]? := by
  show (if i < n then some (.ref i) else match h[i]? with | some o => rsO (resI h n f) o | none => none) = _
  unfold resO
  rfl
@[simp] theorem isl_lst {xs : List AV} : (AO.lst xs).isl = false := Eq.trans rfl rfl
@[simp] theorem isl_dic {t : Bool} {xs : List (AV × AV)} : (AO.dic t xs).isl = false := Eq.trans rfl rfl
@[simp] theorem isl_ins {c : Str} {xs : List (Str × AV)} : (AO.ins c xs).isl = false := Eq.trans rfl rfl
end LM

namespace LM
open PyProof.Rows hiding St frameOf passOn
open PySem PySem.Spec L2
variable [TabNames]
/-! ## a def whose code object is known -/
section
variable {P : Program} {w : World} {K : PySem.W.Frag} {mg : Str → Option Value} {base : Heap} {N ps : List Str} {x qual : Str} {params : Arguments} {body : List Stmt} {scope : Scope} {dvs : List V} {kws : List (Str × V)} {f : Addr} {fd : FuncData}
theorem fnD_code (p : He.Defn) (Fn : FunD K x qual params body scope dvs kws (He.fAd K p) fd) :
    ∃ (oc : Value) (od : Option Addr) (dV kV doc pm : Value) (an : Option Addr) (ct : Value) (osl : Array (Option Value)),
      fd = PySem.W.fnOf x qual params body scope dV kV doc pm an (.ref (He.codeOf K p)) ct ∧ K.lookup (He.fAd K p) = some ⟨oc, od, .func fd, osl⟩ ∧ PySem.W.codeIn K (.ref (He.codeOf K p)) qual = true := by
  obtain ⟨oc, od, dV, kV, doc, pm, an, cdv, ct, osl, rfl, lk, hcd, _, _⟩ := Fn.ex
  obtain ⟨c, rfl⟩ := He.codeIn_ref hcd
  have e := He.codeOf_eq (c := c) lk rfl
  rw [e]
  exact ⟨oc, od, dV, kV, doc, pm, an, ct, osl, rfl, lk, hcd⟩
theorem fn_okC {k : Nat} {m : M Fl} (p : He.Defn) (Fn : FunD K x qual params body scope dvs kws (He.fAd K p) fd) (Sc : FnScope N ps scope)
    (hb : ∀ (A : Around) (outer : List Env) (s : Shared) (H : Hp) (E : XK), Room k (A.deeper (envOfC qual scope s.heap.objs.size (He.fAd K p) (.ref (He.codeOf K p)))) → PSsm (DX P w K mg base N qual scope (He.fAd K p) (.ref (He.codeOf K p)) A outer s H E) false body m) :
    FnM P w K mg base (k + 1) (He.fAd K p) fd ps (fnM N.length m) := by
  obtain ⟨oc, od, dV, kV, doc, pm, an, ct, osl, rfl, lk, hcd⟩ := fnD_code p Fn
  refine fn_of lk hcd Sc (spM_len rfl) fun A outer s H vs Q E hr h => ?_
  refine ⟨_, hb A outer s H E hr (fun cls d _ H => E cls d H) (takes_of rfl rfl rfl rfl), ?_⟩
  obtain ⟨U, F, ρ, as, hp, hl, R, e, p⟩ := h
  refine ⟨U, F, ρ, _, R.start e, ?_⟩
  have p : FPost K U F ρ Q E (match m ⟨slots0 N.length as, hp⟩ with
    | .ok (.rt v) s => .ok v s.hp
    | .ok .nx s => .ok .non s.hp
    | .exn c s => .exn c s.hp
    | _ => .stuck) := p
  cases z : m ⟨slots0 N.length as, hp⟩ with
  | stuck => rw [z] at p; exact p
  | exn c S' => rw [z] at p; exact fun F' ρ' σ' H' s' q' r' => p F' ρ' H' s' q' r'.noslots
  | ok a S' =>
    rw [z] at p
    cases a with
    | nx => exact fun F' ρ' σ' H' s' q' r' _ => p F' ρ' H' .non s' q' r'.noslots emb_non'
    | rt v => exact fun F' ρ' σ' H' u s' q' r' e' => p F' ρ' H' u s' q' r'.noslots e'
    | bk => exact p.elim
    | ct => exact p.elim
end
/-! ## tables grow -/
theorem RdD.ext {H H1 : Hp} {b : Addr} {o : HO} (h : RdD H b o) (e : LamX.ExtN H H1) (hn : ∀ ps, o ≠ .tbl ps) : RdD H1 b o := by
  rcases h with h | ⟨i, ob, h⟩
  · exact .inl (e _ _ h hn)
  · exact .inr ⟨i, ob, e _ _ h fun ps z => by cases z⟩
theorem EmbO.ext {K : PySem.W.Frag} {F H H1 : Hp} {ρ : List Addr} {p : Addr} {o : AO} (h : EmbO K F ρ H p o) (e : LamX.ExtN H H1) : EmbO K F ρ H1 p o := by
  obtain ⟨u, hu⟩ := h.some
  have hk := e _ _ hu (h.plain _ hu).1
  exact h.mono (Same.refl F) (List.prefix_refl ρ) (hk.trans hu.symm)
theorem Rep.ext {K : PySem.W.Frag} {U F H H1 : Hp} {ρ : List Addr} {S : SS} {σ : St} (R : Rep K U F ρ S σ H) (e : LamX.ExtN H H1) (t : Tbs K H1) : Rep K U F ρ S σ H1 :=
  ⟨R.len, fun b o h => (R.fro b o h).ext e fun ps z => R.tab.nf b ps (z ▸ h), fun b o h => e _ _ (R.unt b o h) fun ps z => R.tab.nu b ps (z ▸ h), R.rln, R.rnd, R.rF, R.FU,
    fun i o p e1 e2 => (R.hp i o p e1 e2).ext e, R.val, fun i o h => by
      obtain ⟨p, f1, f2, f3⟩ := R.own i o h
      exact ⟨p, f1, f2.ext e, f3⟩, ⟨t, R.tab.nu, R.tab.nf⟩⟩
/-! ## told(lambda: body) -/
def wT (K : PySem.W.Frag) (Q : VK) : List (Str × Str) → Value → Hp → Prop
  | [], _, _ => False
  | (y, r) :: hl, cls, H' => ∃ b, PySem.W.exmOne K cls (.ref (He.ga K y)) = some b ∧ (b = true → Q (.str r) H') ∧ (b = false → wT K Q hl cls H')
def TTN (K : PySem.W.Frag) (hl : List (Str × Str)) : (XK → Hp → VK → Prop) → Hp → VK → Prop := fun tl H Q => tl (fun cls _ H' => wT K Q hl cls H') H Q
/-- except clauses, each of which hands back a text -/
inductive HdT (K : PySem.W.Frag) : List ExceptHandler → List (Str × Str) → Prop
  | nil : HdT K [] []
  | cons {x r : Str} {j : Nat} {p1 p2 p3 p4 : Pos} {hds : List ExceptHandler} {hl : List (Str × Str)} (h : HdT K hds hl) :
    HdT K (.ExceptHandler (some (.Name x p1)) none [.Return (some (.Constant (.str r) j p2)) p3] p4 :: hds) ((x, r) :: hl)
def tsT (r : Str) : Addr → Value → Option Addr → TS := fun _ _ _ D _ H => D.rt (.str r) H
def hlW (K : PySem.W.Frag) (hl : List (Str × Str)) : List (Value × (Addr → Value → Option Addr → TS)) := hl.map fun e => (.ref (He.ga K e.1), tsT e.2)
theorem hdsT {X : Cx} (hn : ∀ e : Str × Str, ∀ hl : List (Str × Str), e ∈ hl → Names X e.1 (.ref (He.ga X.K e.1)) → True) {hds : List ExceptHandler} {hl : List (Str × Str)} (h : HdT X.K hds hl) (nm : ∀ e ∈ hl, Names X e.1 (.ref (He.ga X.K e.1))) : HdsOk X hds (hlW X.K hl) := by
  induction h with
  | nil => exact .nil
  | cons h ih =>
    refine .cons (nm _ List.mem_cons_self) (fun a oe cls d pn _ _ => ?_) (ih fun e he => nm e (List.mem_cons_of_mem _ he))
    exact PSs.weak (pss_one (ps_ret pe_str)) fun σ H D q => q
theorem wMany_of {K : PySem.W.Frag} {Q : VK} {D : Ends} (hD : D.rt = Q) {cls : Value} {d : Option Addr} {σ : St} {H : Hp} : ∀ {hl : List (Str × Str)}, wT K Q hl cls H → wMany K (fun _ _ _ _ => False) D (hlW K hl) cls d σ H
  | [], h => h
  | (y, r) :: hl, ⟨b, e1, e2, e3⟩ => ⟨b, e1, fun hb a _ => by show D.rt _ _; rw [hD]; exact e2 hb, fun hb => wMany_of hD (e3 hb)⟩
theorem gives_N {X : Cx} {Ng : List Str} {x a q : Str} {sg : Scope} {g : Addr} {cdg : Value} {p1 p2 p3 p8 : Pos} {h₀ : ExceptHandler} {hds : List ExceptHandler} {hl : List (Str × Str)} (hT : HdT X.K (h₀ :: hds) hl)
    (nm : ∀ e ∈ hl, sg.names.lookup e.1 = some .globalImplicit ∧ X.mg e.1 = some (.ref (He.ga X.K e.1)) ∧ (e.1 == ("__debug__" : Str)) = false) (h0 : ∀ f : Addr, (L2.start Ng [V.ref f])[0]? = some (some (V.ref f))) :
    LamX.GivesTo X Ng x sg g cdg [.Try [.Return (some (.Call (.Name a p1) [] [] p2)) p3] (h₀ :: hds) [] [] p8] a q (TTN X.K hl) := by
  intro f c' s H Q tl act hc h
  refine ⟨_, pss_one (ps_try_many (X := (cxOf C8.CX0 X.prog X.w X.K X.mg X.base Ng x sg g cdg X.A X.stack s H C8.E0).nox) (l := hlW X.K hl) (Wout := fun _ _ _ _ => False)
      (tb := fun W D σ H => ∃ Ech : XK, (∀ cls d σ' H', Ech cls d H' → W cls d σ' H') ∧ σ[0]? = some (some (.ref f)) ∧ H c' = some (LamX.CodeO c' q) ∧ tl Ech H D.rt)
      rfl rfl LamX.takes0 (fun W pn xe tk _ => ?_) (hdsT (fun _ _ _ _ => True.intro) hT fun e he => ?_)), ?_⟩
  · refine ⟨fun pins s' σ H' D I h' => ?_⟩
    obtain ⟨Ech, hW, h1, h2, h3⟩ := h'
    have hp := act W pn xe Ech p1 p2 tk hW
    have hq := pss_one (ps_ret (pos := p3) hp)
    exact hq.run pins s' σ H' D I ⟨h1, h2, h3⟩
  · obtain ⟨a1, a2, a3⟩ := nm e he
    exact ⟨a1, a3, .inl a2⟩
  · exact ⟨fun cls _ H' => wT X.K Q hl cls H', fun cls d σ' H' q => wMany_of rfl q, h0 f, hc, h⟩
def toldM (tb : List (Str × Str)) (m : M AV) : M AV := fun s => match m s with
  | .exn c s' => (match tb.lookup c with
    | some r => .ok (.str r) s'
    | none => .stuck)
  | r => r
/-- what the clauses make of the classes in tb -/
def ToldTb (K : PySem.W.Frag) (hl tb : List (Str × Str)) : Prop := ∀ c r, tb.lookup c = some r → ∀ (Q : VK) (H' : Hp), Q (.str r) H' → wT K Q hl (.ref (He.ga K c)) H'
theorem toldTb_nil {K : PySem.W.Frag} {hl : List (Str × Str)} : ToldTb K hl [] := fun c r e => by cases e
theorem toldTb_cons {K : PySem.W.Frag} {hl tb : List (Str × Str)} {c r : Str} (h1 : ∀ (Q : VK) (H' : Hp), Q (.str r) H' → wT K Q hl (.ref (He.ga K c)) H') (h2 : ToldTb K hl tb) : ToldTb K hl ((c, r) :: tb) := fun c' r' e => by
  rw [List.lookup_cons] at e
  split at e
  · rename_i hq
    have hq : c' = c := by simpa using hq
    subst hq
    cases e
    exact h1
  · exact h2 c' r' e
theorem wT_yes {K : PySem.W.Frag} {c y r : Str} {hl : List (Str × Str)} (h : PySem.W.exmOne K (.ref (He.ga K c)) (.ref (He.ga K y)) = some true) : ∀ (Q : VK) (H' : Hp), Q (.str r) H' → wT K Q ((y, r) :: hl) (.ref (He.ga K c)) H' :=
  fun Q H' q => ⟨true, h, fun _ => q, fun z => by cases z⟩
theorem wT_no {K : PySem.W.Frag} {c y r r' : Str} {hl : List (Str × Str)} (h : PySem.W.exmOne K (.ref (He.ga K c)) (.ref (He.ga K y)) = some false) (ih : ∀ (Q : VK) (H' : Hp), Q (.str r) H' → wT K Q hl (.ref (He.ga K c)) H') : ∀ (Q : VK) (H' : Hp), Q (.str r) H' → wT K Q ((y, r') :: hl) (.ref (He.ga K c)) H' :=
  fun Q H' q => ⟨false, h, (fun z => by cases z), fun _ => ih Q H' q⟩
theorem Fc.nd {fa : List He.Fa} {fn : List He.DefD} {K : PySem.W.Frag} {mg : Str → Option Value} {base : Heap} (e : Fc fa fn K mg base) : tabNd K = true := (Bool.and_eq_true_iff.mp e.cs).2
def TabT (K : PySem.W.Frag) : List (Addr × Str) := TabNames.names.map fun e => ((He.cT K e.1).2, e.2)
theorem tab_uniq {K : PySem.W.Frag} (h : tabNd K = true) {e : He.Defn × Str} (he : e ∈ TabNames.names) : ∀ p ∈ TabT K, p.1 = (He.cT K e.1).2 → p.2 = e.2 := by
  intro p hp hq
  obtain ⟨e', he', rfl⟩ := List.mem_map.mp hp
  have nd := of_decide_eq_true h
  obtain ⟨i, hi, ei⟩ := List.mem_iff_getElem.mp he
  obtain ⟨j, hj, ej⟩ := List.mem_iff_getElem.mp he'
  have hij : i = j := by
    refine nodup_ixA nd (x := (He.cT K e.1).2) ?_ ?_
    · rw [List.getElem?_map, List.getElem?_eq_getElem hi, ei]; rfl
    · rw [List.getElem?_map, List.getElem?_eq_getElem hj, ej]
      exact congrArg some hq
  subst hij
  rw [ei] at ej
  rw [ej]
theorem tabs_of {K : PySem.W.Frag} {H : Hp} (h : Tbs K H) : LamX.Tabs (TabT K) H := fun p hp => by
  obtain ⟨e, he, rfl⟩ := List.mem_map.mp hp
  exact h e he
theorem of_tabs {K : PySem.W.Frag} {H : Hp} (h : LamX.Tabs (TabT K) H) : Tbs K H := fun e he => h _ (List.mem_map.mpr ⟨e, he, rfl⟩)
section
variable {X : Cx}
theorem pm_told {x a : Str} {pg : Arguments} {bg : List Stmt} {sg : Scope} {dvs : List V} {kws : List (Str × V)} {fd : FuncData} {k : Nat} {Ng : List Str} {hl tb : List (Str × Str)} {h₀ : ExceptHandler} {hds : List ExceptHandler} {p1 p2 p3 p8 : Pos}
    {params : Arguments} {body : Expr} {scope : Scope} {m : M AV} {p lpos pos : Pos} (d : He.Defn)
    (Fg : FunD X.K x x pg bg sg dvs kws (He.fAd X.K (x, none)) fd) (hg : Gl X x) (hm : X.mg x = some (.ref (He.fAd X.K (x, none)))) (hk : PySem.W.keepIn X.K (.ref (He.fAd X.K (x, none))) = true)
    (hb : L2.Binds X.K fd [a] []) (hbg : bg = [.Try [.Return (some (.Call (.Name a p1) [] [] p2)) p3] (h₀ :: hds) [] [] p8]) (Sg : FnScope Ng [a] sg) (hNg : Ng[0]? = some a) (hva : Vis sg a) (h0 : ∀ f : Addr, (L2.start Ng [V.ref f])[0]? = some (some (V.ref f)))
    (hT : HdT X.K (h₀ :: hds) hl) (nm : ∀ e ∈ hl, sg.names.lookup e.1 = some .globalImplicit ∧ X.mg e.1 = some (.ref (He.ga X.K e.1)) ∧ (e.1 == ("__debug__" : Str)) = false) (htb : ToldTb X.K hl tb)
    (TB : LamX.TabB X.base X.mg (He.cT X.K d).1 (He.cT X.K d).2) (hcode : X.env.code = .ref (He.cT X.K d).1) (hmT : (d, X.env.qual ++ "<lambda>") ∈ TabNames.names) (nd : tabNd X.K = true) (hr : Room (k + 2) X.A) (L : LamX.LamS X.env.scope scope) (hdef : defaultsOf params X.env = ([], []))
    (hbind : ∀ (q : Str) (cl : List (Str × Addr)) (pm cv ctv : Value), bindArgs (PySem.W.kla_fn "<lambda>" q params body scope cl pm cv ctv) ⟨[], []⟩ = pure [])
    (hbody : ∀ (A : Around) (outer : List Env) (s : Shared) (H : Hp) (E : XK) (f c' : Addr), Room k (A.deeper (LamX.lamEnv X scope s.heap.objs.size f c')) → PEm (LamX.lamCx X A outer s H E scope f c') body m)
    (hdb : (x == ("__debug__" : Str)) = false := by decide) (hd : (a == ("__debug__" : Str)) = false := by decide) (hcd : (a == ("__classdict__" : Str)) = false := by decide) :
    PEm X (.Call (.Name x p) [.Lambda params body scope lpos] [] pos) (toldM tb m) := fun W tk => by
  obtain ⟨oc, od, dV, kV, doc, pm, an, ct, osl, rfl, lk, hcd0⟩ := fnD_code (x, none) Fg
  subst hbg
  have main := LamX.pe_lamcall (X := X) (T := TabT X.K) (TT := TTN X.K hl) (t := fun E => tG X.K (fun cls d _ H => E cls d H) (RE X.K) m) (p := p) (pos := pos) (lpos := lpos) hg hm hk lk hcd0 hb Sg hNg hva
    (gives_N hT nm h0) TB hcode (List.mem_map.mpr ⟨_, hmT, rfl⟩) (tab_uniq nd hmT) hr L hdef hbind
    (fun A outer s H E f c' hr' => hbody A outer s H E f c' hr' _ (takes_of rfl rfl rfl rfl)) hdb hd hcd
  refine PE.weak main fun σ H Q ⟨U, F, ρ, S, R, p⟩ => ⟨tabs_of R.tab.tb, fun H1 e t1 => ?_⟩
  refine ⟨U, F, ρ, S, R.ext e (of_tabs t1), ?_⟩
  unfold toldM at p
  cases z : m S with
  | stuck => rw [z] at p; exact p.elim
  | ok a S' => rw [z] at p; exact p
  | exn c S' =>
    rw [z] at p
    dsimp only at p
    cases zz : tb.lookup c with
    | none => rw [zz] at p; exact p.elim
    | some r =>
      rw [zz] at p
      intro F' ρ' H' sm pr R'
      exact htb c r zz Q H' (p F' ρ' H' (.str r) sm pr R' (by simp only [RE, Emb]))
end
/-- the def that tells what a lambda makes, or which error it raises -/
structure TdOk (K : PySem.W.Frag) (mg : Str → Option Value) (x : Str) (hl : List (Str × Str)) : Prop where
  ex : ∃ (pg : Arguments) (bg : List Stmt) (sg : Scope) (dvs : List V) (kws : List (Str × V)) (fd : FuncData) (Ng : List Str) (a : Str) (p1 p2 p3 p8 : Pos) (h₀ : ExceptHandler) (hds : List ExceptHandler),
    FunD K x x pg bg sg dvs kws (He.fAd K (x, none)) fd ∧ L2.Binds K fd [a] [] ∧ bg = [.Try [.Return (some (.Call (.Name a p1) [] [] p2)) p3] (h₀ :: hds) [] [] p8] ∧ FnScope Ng [a] sg ∧ Ng[0]? = some a ∧ Vis sg a ∧
    (∀ f : Addr, (L2.start Ng [V.ref f])[0]? = some (some (V.ref f))) ∧ HdT K (h₀ :: hds) hl ∧ (∀ e ∈ hl, sg.names.lookup e.1 = some .globalImplicit ∧ mg e.1 = some (.ref (He.ga K e.1)) ∧ (e.1 == ("__debug__" : Str)) = false) ∧
    (a == ("__debug__" : Str)) = false ∧ (a == ("__classdict__" : Str)) = false
theorem nm_n {sg : Scope} {mg : Str → Option Value} {K : PySem.W.Frag} : ∀ e ∈ ([] : List (Str × Str)), sg.names.lookup e.1 = some .globalImplicit ∧ mg e.1 = some (.ref (He.ga K e.1)) ∧ (e.1 == ("__debug__" : Str)) = false := fun e h => by cases h
theorem nm_c {sg : Scope} {mg : Str → Option Value} {K : PySem.W.Frag} {y r : Str} {hl : List (Str × Str)} (h1 : mg y = some (.ref (He.ga K y))) (h2 : ∀ e ∈ hl, sg.names.lookup e.1 = some .globalImplicit ∧ mg e.1 = some (.ref (He.ga K e.1)) ∧ (e.1 == ("__debug__" : Str)) = false)
    (h0 : sg.names.lookup y = some .globalImplicit := by rfl) (hd : (y == ("__debug__" : Str)) = false := by decide) :
    ∀ e ∈ (y, r) :: hl, sg.names.lookup e.1 = some .globalImplicit ∧ mg e.1 = some (.ref (He.ga K e.1)) ∧ (e.1 == ("__debug__" : Str)) = false := fun e h => by
  rcases List.mem_cons.mp h with rfl | h
  · exact ⟨h0, h1, hd⟩
  · exact h2 e h
section
variable {X : Cx}
theorem pm_tl {x : Str} {k : Nat} {hl tb : List (Str × Str)} {params : Arguments} {body : Expr} {scope : Scope} {m : M AV} {p lpos pos : Pos} (d : He.Defn) (T : TdOk X.K X.mg x hl) (hm : X.mg x = some (.ref (He.ga X.K x))) (htb : ToldTb X.K hl tb)
    (TB : LamX.TabB X.base X.mg (He.cT X.K d).1 (He.cT X.K d).2) (hmT : (d, X.env.qual ++ "<lambda>") ∈ TabNames.names) (nd : tabNd X.K = true) (hr : Room (k + 2) X.A)
    (hbody : ∀ (A : Around) (outer : List Env) (s : Shared) (H : Hp) (E : XK) (f c' : Addr), Room k (A.deeper (LamX.lamEnv X scope s.heap.objs.size f c')) → PEm (LamX.lamCx X A outer s H E scope f c') body m)
    (hcode : X.env.code = .ref (He.cT X.K d).1 := by rfl) (L : LamX.LamS X.env.scope scope := by exact LamX.lamS_by (by kernel_rfl)) (hdef : defaultsOf params X.env = ([], []) := by rfl)
    (hbind : ∀ (q : Str) (cl : List (Str × Addr)) (pm cv ctv : Value), bindArgs (PySem.W.kla_fn "<lambda>" q params body scope cl pm cv ctv) ⟨[], []⟩ = pure [] := by intro _ _ _ _ _; rfl) (hg : Gl X x := by rfl) (hdb : (x == ("__debug__" : Str)) = false := by decide) :
    PEm X (.Call (.Name x p) [.Lambda params body scope lpos] [] pos) (toldM tb m) := by
  obtain ⟨pg, bg, sg, dvs, kws, fd, Ng, a, p1, p2, p3, p8, h₀, hds, F, hb, hbg, Sg, hNg, hva, h0, hT, nm, hd, hcd⟩ := T.ex
  exact pm_told d F hg hm F.kp hb hbg Sg hNg hva h0 hT nm htb TB hcode hmT nd hr L hdef hbind hbody hdb hd hcd
end
end LM

/-! alike data, tuples without items too, can be sorted -/
namespace LMS
open PySem PySem.W PySem.Calls PySem.SeqAt PyProof.Rows

section
variable {prog : Program} {w : World} {A : Around} {E : Value → Shared → Prop} {s : Shared}
theorem call_tuple_lt {Q : Value → Shared → Prop} {l b : Addr} {items items2 : Array Value} {e r : Nat → Bool} (hl : s.heap.IsTuple l items) (hb : s.heap.IsTuple b items2)
    (he : ∀ j (h1 : j < items.size) (h2 : j < items2.size), EqAt A.in1 s items[j] items2[j] (e j)) (hr : ∀ j (h1 : j < items.size) (h2 : j < items2.size), e j = false → RcLt A.in1 s items[j] items2[j] (r j))
    (h : Q (.bool (firstLt e r (decide (items.size < items2.size)) (List.range (min items.size items2.size)))) s) : wpAny (model prog w) A (call (.builtin "tuple.__lt__") [.ref l, .ref b]) Q E s := by
  obtain ⟨⟨cls, dd, data, sl⟩, ho, hc, n, hd⟩ := id hl
  obtain ⟨⟨cls2, dd2, data2, sl2⟩, ho2, hc2, n2, hd2⟩ := id hb
  simp only at hc hd hc2 hd2
  subst hc hd hc2 hd2
  exact call_meets F.slot_tuple_lt ⟨_, ho, rfl⟩ F.entry_tuple_lt (F.args_tuple_lt_2 _ _) (tuple_ltAt l b items items2 n n2 dd dd2 sl sl2 e r) ⟨ho, ho2, he, hr, h⟩

theorem oneLt_tup {xs ys : List PyData} {a b : Value} {as bs : List Addr} {Q : Bool → Shared → Prop} (ra : Reads s.heap a (.tuple xs) as) (rb : Reads s.heap b (.tuple ys) bs) (h : alike (.tuple xs) (.tuple ys) = true)
    (hu : A.units + min (PyData.tuple xs).depth (PyData.tuple ys).depth < cLine) (hq : Q (dataLt (.tuple xs) (.tuple ys)) s) : wpAny (model prog w) A (oneLt' true a b) Q E s := by
  have hal : alikeAll xs ys = true := by simpa [alike] using h
  cases ra with
  | @tuple l o vs n _ as₁ h1 h2 h3 h4 =>
    cases rb with
    | @tuple l' o' vs' n' _ bs₁ k1 k2 k3 k4 =>
      have n1 : vs.size = xs.length := by simpa using ReadsAll.length _ _ _ h4
      have n2 : vs'.size = ys.length := by simpa using ReadsAll.length _ _ _ k4
      rw [dataLt_tuple, ← firstLt_toks xs ys hal, ← n1, ← n2] at hq
      rw [oneLt'_eq]
      simp only [if_true]
      refine wpAny_bind (wpAny_cRoomFor (room_here hu) ?_)
      refine wpAny_bind (wpAny_callSpecialIfBound?_slot (T := "tuple") ⟨_, h1, h2⟩ F.slot_tuple_lt (call_tuple_lt (e := pairEq xs ys) (r := fun j => dataLt (xs.getD j .none) (ys.getD j .none)) ⟨_, h1, h2, _, h3⟩ ⟨_, k1, k2, _, k3⟩ (fun j j1 j2 => ?_) (fun j j1 j2 hj => ?_) ?_))
      · have := eqAt_alikeAll xs ys A.in1 s vs.toList vs'.toList _ _ h4 k4 hal (room_in hu) j (by simpa using j1) (by simpa using j2)
        simpa using this
      · have := rcLt_alikeAll xs ys A.in1 s vs.toList vs'.toList _ _ h4 k4 hal (room_in hu) j (by simpa using j1) (by simpa using j2) hj
        simpa using this
      · exact wpAny_truthy_bool hq
end

def nonE : PyData → Bool
  | .tuple (_ :: _) => true
  | _ => false
def R1 (h : Heap) (v : Value) (f : Option Value) : Prop := ∃ (a : Addr) (o : Obj) (xs : Array Value) (n : Nat), v = .ref a ∧ h.get? a = some o ∧ o.cls = .type "tuple" ∧ o.data = .seq xs n ∧ xs[0]? = f
theorem each_firsts {h : Heap} : ∀ {vs : List Value} {ds : List PyData}, EachIs (fun v d => ∃ as, Reads h v d as) vs ds → (∀ d ∈ ds, ∃ xs, d = .tuple xs) → ∃ fs, EachIs (R1 h) vs fs ∧ fs.map Option.isSome = ds.map nonE
  | _, _, .nil, _ => ⟨[], .nil, rfl⟩
  | _, _, .cons (b := d) ⟨as, r⟩ t, ht => by
    obtain ⟨fs, h1, h2⟩ := each_firsts t fun d hd => ht d (List.mem_cons_of_mem _ hd)
    obtain ⟨xs, rfl⟩ := ht d (List.mem_cons_self ..)
    cases r with
    | @tuple a o vs n _ _ ho hc hd hr =>
      refine ⟨vs[0]? :: fs, .cons ⟨a, o, vs, n, rfl, ho, hc, hd, rfl⟩ h1, ?_⟩
      have e : (vs[0]?).isSome = nonE (.tuple xs) := by
        have l := SeqAt.ReadsAll.length _ _ _ hr
        cases xs with
        | nil =>
          have : vs.size = 0 := by simpa using l
          simp [nonE, this]
        | cons x xs =>
          have : vs.size = xs.length + 1 := by simpa using l
          simp [nonE, this]
      rw [List.map_cons, List.map_cons, e, h2]

section
variable {M : Model} {A : Around} {E : Value → Shared → Prop} {s : Shared}
theorem kx_firsts {vs : List Value} {fs : List (Option Value)} (t : EachIs (R1 s.heap) vs fs) : ∀ {Q : List (Option Value) → Shared → Prop}, Q fs s → wpAny M A (vs.mapM firstOfTuple') Q E s := by
  induction t with
  | nil => intro Q h; rw [List.mapM_nil]; exact wpAny_pure h
  | cons h1 t ih =>
    intro Q h
    obtain ⟨a, o, xs, n, rfl, ho, hc, hd, hf⟩ := h1
    rw [List.mapM_cons]
    refine wpAny_bind ?_
    rw [kas_first_eq]
    refine wpAny_bind (Looks.here (show Looks M s.heap (typeOf (.ref a)) o.cls from (Looks.ld ho).andThen .now) ?_)
    rw [hc, if_neg (by first | decide | simp)]
    refine wpAny_bind (listItems_at ho hd (wpAny_pure ?_))
    rw [hf]
    exact wpAny_bind (ih (wpAny_pure h))
theorem kx_general {vs : List Value} {f : Value} {fs : List (Option Value)} {Q : SortKind → Shared → Prop} (t : EachIs (R1 s.heap) vs (some f :: fs)) (hn : ((some f :: fs).all fun x => x.isSome) = false) (h : Q general' s) :
    wpAny M A (keyKind' vs.toArray) Q E s := by
  rw [kat_kind_eq, List.mapM_toArray, map_eq_pure_bind]
  refine wpAny_bind (wpAny_bind (kx_firsts t (wpAny_pure ?_)))
  rw [if_neg (by rw [List.all_toArray, hn]; exact Bool.false_ne_true)]
  exact wpAny_pure h
theorem kx_one {vs : List Value} {fs : List (Option Value)} {Q : SortKind → Shared → Prop} (t : EachIs (R1 s.heap) vs (none :: fs)) (hT : ∀ v ∈ vs, Looks M s.heap (typeOf v) (.type "tuple")) (h : Q oneType' s) :
    wpAny M A (keyKind' vs.toArray) Q E s := by
  rw [kat_kind_eq, List.mapM_toArray, map_eq_pure_bind]
  refine wpAny_bind (wpAny_bind (kx_firsts t (wpAny_pure ?_)))
  rw [if_neg (by simp)]
  cases t with
  | @cons v _ vs _ _ _ =>
  rw [oneTypeOnly'_eq, List.mapM_toArray, map_eq_pure_bind]
  refine wpAny_bind (wpAny_bind (wpAny_bind (kas_mapM (r := Value.type "tuple") _ (fun v hv Q' hq => (hT v hv).here hq) (wpAny_pure ?_))))
  have hall : ((List.map (fun _ => Value.type "tuple") (v :: vs)).toArray.all fun x => x == Value.type "tuple") = true := by
    simp only [List.all_toArray, List.all_map, List.all_eq_true]
    intro _ _
    exact beq_self_eq_true _
  have h0 : (List.map (fun _ => Value.type "tuple") (v :: vs)).toArray[0]? = some (Value.type "tuple") := by simp
  rw [h0]
  simp only [hall, if_true]
  exact wpAny_pure (wpAny_pure h)
end

/-- all are tuples (without items, too), or none is a tuple or None -/
def SortableX (ds : List PyData) : Prop := (∀ d, d ∈ ds → ∃ xs, d = .tuple xs) ∨ ∀ d, d ∈ ds → d ≠ .none ∧ ∀ xs, d ≠ .tuple xs

section
variable {prog : Program} {w : World} {A : Around} {s : Shared}
theorem sortsX {vs : List Value} {ds : List PyData} (e : EachIs (fun v d => ∃ as, Reads s.heap v d as) vs ds) (hal : AllAlike ds) (hk : SortableX ds) (hu : ∀ d, d ∈ ds → A.units + d.depth < cLine) : SortsAt prog w A s (dataKind s.heap ds) vs := by
  rcases hk with ht | hn
  · by_cases hz : ∀ d, d ∈ ds → ∃ x r, d = PyData.tuple (x :: r)
    · exact SortsAt.data e hal (.inl hz) hu
    · have hne : ∃ d ∈ ds, nonE d = false := by
        apply Classical.byContradiction
        intro hq
        refine hz fun d hd => ?_
        obtain ⟨xs, rfl⟩ := ht d hd
        cases xs with
        | nil => exact absurd ⟨_, hd, rfl⟩ hq
        | cons x r => exact ⟨x, r, rfl⟩
      have room : ∀ {d d' : PyData}, d ∈ ds → A.units + min d.depth d'.depth < cLine := fun {d d'} hd => Nat.lt_of_le_of_lt (Nat.add_le_add_left (Nat.min_le_left _ _) _) (hu d hd)
      obtain ⟨fs, t1, t2⟩ := each_firsts e ht
      have hfs : (fs.all fun x => x.isSome) = false := by
        obtain ⟨d, hd, hnd⟩ := hne
        have hm : false ∈ fs.map Option.isSome := by rw [t2]; exact List.mem_map.mpr ⟨d, hd, hnd⟩
        obtain ⟨x, hx, ex⟩ := List.mem_map.mp hm
        rw [List.all_eq_false]
        exact ⟨x, hx, by rw [ex]; exact Bool.false_ne_true⟩
      have hkeys : ∀ v, v ∈ vs → ∃ a, (dataKind s.heap ds).keyOf v = some a := fun v hv => by
        obtain ⟨d, hd, as, r⟩ := e.left v hv
        exact ⟨_, dataKind_some hal hd r⟩
      have hTup : ∀ v ∈ vs, Looks (model prog w) s.heap (typeOf v) (.type "tuple") := fun v hv => by
        obtain ⟨d, hd, as, r⟩ := e.left v hv
        obtain ⟨xs, rfl⟩ := ht d hd
        exact looks_reads r
      cases fs with
      | nil => exact absurd hfs (by simp)
      | cons f fs =>
        cases f with
        | some f =>
          refine ⟨hkeys, general', fun E x y a b Q ha hb hq => ?_, fun _ E Q hq => kx_general t1 hfs hq⟩
          obtain ⟨d, as, hd, ra, rfl⟩ := dataKind_inv ha
          obtain ⟨d', as', hd', rb, rfl⟩ := dataKind_inv hb
          show wpAny (model prog w) A (oneLt' false x y) Q E s
          exact oneLt_alike (fun z => absurd z Bool.false_ne_true) ra rb (hal d hd d' hd') (fun z => by obtain ⟨xs, rfl⟩ := ht d hd; cases z) (room hd) hq
        | none =>
          refine ⟨hkeys, oneType', fun E x y a b Q ha hb hq => ?_, fun _ E Q hq => kx_one t1 hTup hq⟩
          obtain ⟨d, as, hd, ra, rfl⟩ := dataKind_inv ha
          obtain ⟨d', as', hd', rb, rfl⟩ := dataKind_inv hb
          obtain ⟨xs, rfl⟩ := ht d hd
          obtain ⟨ys, rfl⟩ := ht d' hd'
          rw [keyLt'_oneType]
          exact oneLt_tup ra rb (hal _ hd _ hd') (room hd) hq
  · exact SortsAt.data e hal (.inr hn) hu
end
end LMS

/-! sorted(xs) of alike data -/
namespace LM
open PyProof.Rows hiding St frameOf passOn
open PySem PySem.Spec L2
open PySem.W (TotalLe sameRank EachIs alike dataLt dataLe AllAlike dataKind SortsAt sortVals keyToks)
/-! ## sorting by putting in -/
section
variable {α : Type}
def insS (le : α → α → Bool) (x : α) : List α → List α
  | [] => [x]
  | y :: l => if le x y then x :: y :: l else y :: insS le x l
def srtS (le : α → α → Bool) : List α → List α
  | [] => []
  | x :: l => insS le x (srtS le l)
theorem insS_mem {le : α → α → Bool} {x z : α} : ∀ {l : List α}, z ∈ insS le x l ↔ z = x ∨ z ∈ l
  | [] => by simp [insS]
  | y :: l => by
    unfold insS
    split
    · simp
    · simp only [List.mem_cons, insS_mem (l := l)]
      constructor
      · rintro (h | h | h) <;> simp [h]
      · rintro (h | h | h) <;> simp [h]
theorem insS_filter {le : α → α → Bool} (h : TotalLe le) (x c : α) : ∀ l : List α, (insS le x l).filter (sameRank le c) = (x :: l).filter (sameRank le c)
  | [] => rfl
  | y :: l => by
    unfold insS
    split
    · rfl
    · rename_i hq
      have ih := insS_filter h x c l
      rw [List.filter_cons, ih]
      simp only [List.filter_cons]
      by_cases h1 : sameRank le c x = true
      · by_cases h2 : sameRank le c y = true
        · refine absurd ?_ hq
          unfold sameRank at h1 h2
          rw [Bool.and_eq_true] at h1 h2
          exact h.trans _ c _ h1.2 h2.1
        · simp [h1, h2]
      · by_cases h2 : sameRank le c y = true
        · simp [h1, h2]
        · simp [h1, h2]
theorem insS_pw {le : α → α → Bool} (h : TotalLe le) (x : α) : ∀ l : List α, l.Pairwise (fun a b => le a b = true) → (insS le x l).Pairwise (fun a b => le a b = true)
  | [], _ => by simp [insS]
  | y :: l, hp => by
    obtain ⟨h1, h2⟩ := List.pairwise_cons.mp hp
    unfold insS
    split
    · rename_i hq
      refine List.pairwise_cons.mpr ⟨fun z hz => ?_, hp⟩
      rcases List.mem_cons.mp hz with rfl | hz
      · exact hq
      · exact h.trans _ _ _ hq (h1 z hz)
    · rename_i hq
      refine List.pairwise_cons.mpr ⟨fun z hz => ?_, insS_pw h x l h2⟩
      rcases insS_mem.mp hz with rfl | hz
      · exact (h.total y z).resolve_right hq
      · exact h1 z hz
theorem srtS_pw {le : α → α → Bool} (h : TotalLe le) : ∀ l : List α, (srtS le l).Pairwise (fun a b => le a b = true)
  | [] => .nil
  | x :: l => insS_pw h x _ (srtS_pw h l)
theorem srtS_filter {le : α → α → Bool} (h : TotalLe le) (c : α) : ∀ l : List α, (srtS le l).filter (sameRank le c) = l.filter (sameRank le c)
  | [] => rfl
  | x :: l => by
    show (insS le x (srtS le l)).filter _ = _
    rw [insS_filter h, List.filter_cons, List.filter_cons, srtS_filter h c l]
theorem srtS_eq {le : α → α → Bool} (h : TotalLe le) (l : List α) : l.mergeSort le = srtS le l := (PySem.W.sort_unique h (srtS_pw h l) fun c => srtS_filter h c l).symm
end
/-! ## values by their data -/
def srtV (xs : List V) (ds : List PyData) : List V := ((xs.zip ds).mergeSort (dataLe false Prod.snd)).map Prod.fst
def leD (a b : AV) : Bool := !dataLt (datA b) (datA a)
def leP (p q : AV × AV) : Bool := leD p.2 q.2
theorem leP_tot : TotalLe leP := PySem.W.sortLe_total (PyProof.Rows.listOrd itemOrd) false fun p : AV × AV => keyToks (datA p.2)
theorem leD_tot : TotalLe leD := PySem.W.sortLe_total (PyProof.Rows.listOrd itemOrd) false fun p : AV => keyToks (datA p)
def srtA (as ks : List AV) : List AV := (srtS leP (as.zip ks)).map Prod.fst
def isTupA : AV → Bool
  | .tup _ => true
  | .ct _ => true
  | _ => false
def isPlA : AV → Bool
  | .bl _ => true
  | .int _ => true
  | .str _ => true
  | .vl _ => true
  | .cl _ => true
  | _ => false
def okSrt (ks : List AV) : Bool := okL 60 ks && ks.all (fun a => ks.all fun b => alike (datA a) (datA b)) && (ks.all isTupA || ks.all isPlA)
theorem datL_map : ∀ l : List AV, datL l = l.map datA
  | [] => rfl
  | x :: l => by simp [datL, datL_map l]
theorem okL_mem {n : Nat} : ∀ {l : List AV} {a : AV}, okL n l = true → a ∈ l → okA n a = true
  | x :: l, a, h, hm => by
    simp only [okL, Bool.and_eq_true] at h
    rcases List.mem_cons.mp hm with rfl | hm
    · exact h.1
    · exact okL_mem h.2 hm
theorem okSrt_ok [TabNames] {ks : List AV} (h : okSrt ks = true) : okL 60 ks = true ∧ AllAlike (datL ks) ∧ LMS.SortableX (datL ks) ∧ ∀ d ∈ datL ks, d.depth ≤ 60 := by
  unfold okSrt at h
  simp only [Bool.and_eq_true, Bool.or_eq_true, List.all_eq_true] at h
  obtain ⟨⟨h1, h2⟩, h3⟩ := h
  refine ⟨h1, fun d hd d' hd' => ?_, ?_, fun d hd => ?_⟩
  · rw [datL_map] at hd hd'
    obtain ⟨a, ha, rfl⟩ := List.mem_map.mp hd
    obtain ⟨b, hb, rfl⟩ := List.mem_map.mp hd'
    exact h2 a ha b hb
  · rcases h3 with h3 | h3
    · refine .inl fun d hd => ?_
      rw [datL_map] at hd
      obtain ⟨a, ha, rfl⟩ := List.mem_map.mp hd
      have q := h3 a ha
      cases a <;> first | exact ⟨_, rfl⟩ | cases q
    · refine .inr fun d hd => ?_
      rw [datL_map] at hd
      obtain ⟨a, ha, rfl⟩ := List.mem_map.mp hd
      have q := h3 a ha
      cases a <;> first | (exfalso; simp [isPlA] at q; done) | (exact ⟨(fun z => by simp [datA] at z), fun xs z => by simp [datA] at z⟩)
  · rw [datL_map] at hd
    obtain ⟨a, ha, rfl⟩ := List.mem_map.mp hd
    exact (ok_shape 60 a (okL_mem h1 ha)).2
section
variable {K : PySem.W.Frag} {F H : Hp} {ρ : List Addr}
theorem embL_each : ∀ {as : List AV} {xs : List V}, EmbL K F ρ as xs → EachIs (fun v a => Emb K F ρ a v) xs as
  | [], _, h => by simp only [EmbL] at h; subst h; exact .nil
  | a :: as, _, h => by
    simp only [EmbL] at h
    obtain ⟨v, r, rfl, h1, h2⟩ := h
    exact .cons h1 (embL_each h2)
theorem each_embL : ∀ {as : List AV} {xs : List V}, EachIs (fun v a => Emb K F ρ a v) xs as → EmbL K F ρ as xs
  | _, _, .nil => by simp [EmbL]
  | _, _, .cons h t => by simp only [EmbL]; exact ⟨_, _, rfl, h, each_embL t⟩
theorem each_zip {as ks : List AV} : ∀ {xs : List V}, EachIs (fun v a => Emb K F ρ a v) xs as → as.length = ks.length → EachIs (fun (p : V × PyData) (q : AV × AV) => Emb K F ρ q.1 p.1 ∧ p.2 = datA q.2) (xs.zip (datL ks)) (as.zip ks) := by
  intro xs h
  induction h generalizing ks with
  | nil => intro _; simp only [List.zip_nil_left]; exact .nil
  | cons h t ih =>
    intro e
    cases ks with
    | nil => simp at e
    | cons k ks =>
      simp only [datL, List.zip_cons_cons]
      exact .cons ⟨h, rfl⟩ (ih (by simpa using e))
theorem each_fst : ∀ {ps : List (V × PyData)} {qs : List (AV × AV)}, EachIs (fun (p : V × PyData) (q : AV × AV) => Emb K F ρ q.1 p.1 ∧ p.2 = datA q.2) ps qs → EachIs (fun v a => Emb K F ρ a v) (ps.map Prod.fst) (qs.map Prod.fst)
  | _, _, .nil => .nil
  | _, _, .cons h t => .cons h.1 (each_fst t)
theorem emb_srt {as ks : List AV} {xs : List V} (h : EmbL K F ρ as xs) (e : as.length = ks.length) : EmbL K F ρ (srtA as ks) (srtV xs (datL ks)) := by
  have z := each_zip (ks := ks) (embL_each h) e
  have s := PySem.W.sort_each (r := dataLe false Prod.snd) (s := leP) z fun p hp q hq => by
    have h1 := (z.zip p hp).2
    have h2 := (z.zip q hq).2
    show (!dataLt q.1.2 p.1.2) = (!dataLt (datA q.2.2) (datA p.2.2))
    rw [h1, h2]
  rw [srtS_eq leP_tot] at s
  exact each_embL (each_fst s)
end
theorem insS_diag {α : Type} {le : α → α → Bool} (x : α) : ∀ l : List α, insS (fun p q : α × α => le p.2 q.2) (x, x) (l.map fun a => (a, a)) = (insS le x l).map fun a => (a, a)
  | [] => rfl
  | y :: l => by
    simp only [List.map_cons, insS]
    split
    · rfl
    · rw [insS_diag x l, List.map_cons]
theorem srtS_diag {α : Type} {le : α → α → Bool} : ∀ l : List α, srtS (fun p q : α × α => le p.2 q.2) (l.map fun a => (a, a)) = (srtS le l).map fun a => (a, a)
  | [] => rfl
  | x :: l => by
    simp only [List.map_cons, srtS]
    rw [srtS_diag l, insS_diag]
theorem srtA_self (as : List AV) : srtA as as = srtS leD as := by
  unfold srtA
  have e : as.zip as = as.map fun a => (a, a) := by
    induction as with
    | nil => rfl
    | cons a as ih => simp [ih]
  rw [e]
  have := srtS_diag (le := leD) as
  rw [show leP = fun p q : AV × AV => leD p.2 q.2 from rfl, this, List.map_map]
  exact List.map_id _
/-! ## the call -/
theorem each_reads {h : Heap} : ∀ {vs : List Value} {ds : List PyData} {as : List Addr}, ReadsAll h vs ds as → EachIs (fun v d => ∃ as, Reads h v d as) vs ds
  | _, [], _, r => by cases r; exact .nil
  | _, d :: ds, _, r => by
    cases r with
    | cons h1 h2 => exact .cons ⟨_, h1⟩ (each_reads h2)
theorem each_vals : ∀ {xs : List V} {us : List Value} {ds : List PyData}, Vals xs us → ds.length = us.length → EachIs (fun u (b : V × PyData) => RelV b.1 u) us (xs.zip ds)
  | _, _, ds, .nil, _ => by simp only [List.zip_nil_left]; exact .nil
  | _, _, [], .cons _ _, e => by simp at e
  | _, _, d :: ds, .cons r t, e => by
    simp only [List.zip_cons_cons]
    exact .cons r (each_vals t (by simpa using e))
theorem vals_each : ∀ {us : List Value} {bs : List (V × PyData)}, EachIs (fun u (b : V × PyData) => RelV b.1 u) us bs → Vals (bs.map Prod.fst) us
  | _, _, .nil => .nil
  | _, _, .cons r t => .cons r (vals_each t)
theorem each_keysZ {κ : PyProof.Rows.KeyKind} {tk : PyData → κ.α} {ks : List Value} {ds : List PyData} (h : EachIs (fun v d => κ.keyOf v = some (tk d)) ks ds) : ∀ {xs : List V}, xs.length = ds.length → EachIs (fun v (b : V × PyData) => κ.keyOf v = some (tk b.2)) ks (xs.zip ds) := by
  induction h with
  | nil => intro xs e; cases xs <;> first | (simp only [List.zip_nil_right]; exact .nil)
  | cons h t ih =>
    intro xs e
    cases xs with
    | nil => simp at e
    | cons x xs =>
      simp only [List.zip_cons_cons]
      exact .cons h (ih (by simpa using e))
/-- the values us sorted by the keys ks: they stand for xs sorted by the data ds -/
theorem vals_srt {h : Heap} {xs : List V} {us ks : List Value} {ds : List PyData} (rv : Vals xs us) (hal : AllAlike ds) (hk : EachIs (fun v d => ∃ as, Reads h v d as) ks ds) (hl : ks.length = us.length) : Vals (srtV xs ds) (sortVals (dataKind h ds) false ks us) := by
  have l1 := hk.length
  have l2 := rv.length
  have s := PySem.W.sortVals_each (κ := dataKind h ds) (rev := false) (ks := ks) (vs := us) (bs := xs.zip ds) (fun b => keyToks b.2) (each_vals rv (by omega)) (each_keysZ (κ := dataKind h ds) (tk := keyToks) (PySem.W.each_keys hal hk) (by omega))
  exact vals_each s
section
variable {prog : Program} {w : World} {A : Around} {E : Value → Shared → Prop} {s : Shared}
theorem collect_kdl {T : String} {r d : Addr} {n : Nat} {P : Nat → Value → Prop} {OK : Heap → Prop} {Q : List Value → Shared → Prop} (KS : PySem.W.KdlSrc prog w T r d n P OK) (hh : A.handled = none) (hok : OK s.heap) (hn : n ≤ sizeLine)
    (hQ : ∀ h' tk (acc : Array Value), (∀ b o, s.heap.get? b = some o → h'.get? b = some o) → ItemsOf P acc n → Q acc.toList { s with heap := h', toks := tk }) : wpAny (model prog w) A (collect (.ref r)) Q E s := by
  unfold collect
  refine wpAny_bind (wpAny_runValue (codeAny_builtin entry_proto_collect' ?_))
  show wpAny _ _ (do again (.builtin "list.__iadd__" ⟨[← newList [], .ref r], []⟩)) _ _ s
  refine wpAny_bind (wpAny_newList (wpAny_pure ⟨Code.quiet_builtin _ (by decide +kernel), codeAny_builtin entry_list_iadd' ?_⟩))
  show wpAny _ A.in1 (Builtin.List.listExtendWith (.ref s.heap.objs.size) (.ref r) (.ref s.heap.objs.size)) _ _ { s with heap := s.heap.push (seqObj "list" #[] 0) }
  have hlt := KS.there _ hok
  refine PySem.W.kdl_extend (A := A) (R := fun r s' => match r with
    | .ok (.ret v) => wpAny (model prog w) A (match v with
      | .ref a => do
        let o ← load a
        match o.data with
          | .seq xs _ => pure xs.toList
          | _ => unsupported "internal:collect"
      | _ => unsupported "internal:collect") Q E s'
    | .ok _ => False
    | .error e => E e s') (s := { s with heap := s.heap.push (seqObj "list" #[] 0) }) KS hh (KS.keep _ _ hok fun b _ o e => Heap.get?_push_of_some _ e) s.heap.objs.size (Nat.ne_of_gt hlt.1) (Nat.ne_of_gt hlt.2) (.ref s.heap.objs.size) 0 (Heap.get?_push_size _ rfl) (fun h' tk acc' c' hk hS' hacc => ?_) hn
  show wpAny (model prog w) A (do
      let o ← load s.heap.objs.size
      match o.data with
      | .seq xs _ => pure xs.toList
      | _ => unsupported "internal:collect") Q E { s with heap := h', toks := tk }
  refine wpAny_bind (wpAny_load hS' ?_)
  exact wpAny_pure (hQ h' tk acc' (fun b o e => hk b o (Nat.ne_of_lt (Heap.lt_size e)) (Heap.get?_push_of_some _ e)) hacc)
theorem sorted_of_any {r : Addr} {P : List Value → Prop} {kw : List (Str × Value)} {Q : Value → Shared → Prop}
    (hcol : ∀ (E' : Value → Shared → Prop) (Q' : List Value → Shared → Prop), (∀ h' tk vs, (∀ b o, s.heap.get? b = some o → h'.get? b = some o) → P vs → vs.length ≤ sizeLine → Q' vs { s with heap := h', toks := tk }) → wpAny (model prog w) A.in1 (collect (.ref r)) Q' E' s)
    (ha1 : argsOk "sorted" ⟨[.ref r], kw⟩) (ha2 : ∀ x, argsOk "list.sort" ⟨[.ref x], kw⟩)
    (body : ∀ (h' : Heap) (tk : Nat) (vs : List Value) (E' : Value → Shared → Prop), (∀ b o, s.heap.get? b = some o → h'.get? b = some o) → P vs → vs.length ≤ sizeLine →
      wpAny (model prog w) A.in1.in1 (Builtin.«list.sort» ⟨[.ref h'.objs.size], kw⟩) (fun f s' => f = .done (.ret .none) ∧ Q (.ref h'.objs.size) s') E' { s with heap := h'.push (seqObj "list" vs.toArray 0), toks := tk }) :
    wpAny (model prog w) A (call (.builtin "sorted") [.ref r] kw) Q E s := by
  refine call_function_entry_kw kind_sorted plain_sorted entry_sorted ha1 ?_
  unfold Builtin.«sorted»
  refine wpAny_bind (m := checkCount "sorted" 1 1 _) (wpAny_pure ?_)
  refine wpAny_bind (hcol _ _ fun h' tk vs kp hp hL => ?_)
  refine wpAny_bind (wpAny_newList ?_ hL)
  refine wpAny_bind (wpAny_holding (wpAny_call_entry_kw slot_list_sort ⟨_, Heap.get?_push_size _ rfl, rfl⟩ entry_list_sort ?body (ha2 _)))
  case body =>
    refine wpAny_mono (body h' tk vs _ kp hp hL) (fun f s' hf => ?_) fun _ _ e => e
    obtain ⟨rfl, hq⟩ := hf
    exact ⟨_, rfl, wpAny_pure ⟨_, rfl, hq⟩⟩
end
/-- what can be sorted: a list, a tuple, a dict with plain keys -/
def Src (K : PySem.W.Frag) (H : Hp) (r : Addr) (xs : List V) : Prop := SqL K H r xs ∨ ∃ kvs, Rd H r (.dK kvs) ∧ xs = kvs.map fun p => kV p.1
theorem src_col {X : Cx} {pins : List (Addr × Obj)} {σ : St} {H : Hp} {s : Shared} {r : Addr} {xs : List V} {A : Around} {E : Value → Shared → Prop} {Q : List Value → Shared → Prop} (I : Inv X pins σ H s) (hh : A.handled = none) (h : Src X.K H r xs)
    (hQ : ∀ h' tk vs, (∀ b o, s.heap.get? b = some o → h'.get? b = some o) → Vals xs vs → vs.length ≤ sizeLine → Q vs { s with heap := h', toks := tk }) : wpAny (model X.prog X.w) A (collect (.ref r)) Q E s := by
  rcases h with h | ⟨kvs, hd, rfl⟩
  · obtain ⟨its, rv, hl, hz⟩ := I.list h
    have hz' : its.length ≤ sizeLine := by rw [← rv.length]; exact hz
    refine collect_list hl.isList ?_ hz'
    exact hQ _ s.toks its (fun b o e => by
      rw [Heap.get?_update_ne _ _ _ _ (Nat.ne_of_lt (Heap.lt_size e)), Heap.get?_push_ne _ _ _ (Nat.ne_of_lt (Heap.lt_size e))]; exact e) rv hz'
  · obtain ⟨z, hs, vs, kv, o, es, ep, ho, hx, hdt, hk, pr, nd⟩ := hd.ok I.hok
    have l1 : es.size = vs.length := by rw [← pr.length]; exact Array.length_toList.symm
    have l2 : kvs.length = vs.length := kv.length
    refine collect_kdl (kdl_raw hs hx hdt) hh ho (by omega) fun h' tk acc' kp it => ?_
    have hl : acc'.toList.length = es.size := by rw [Array.length_toList]; exact it.1
    have rv : Vals (kvs.map fun p => kV p.1) acc'.toList := by
      refine vals_of_at (by rw [List.length_map]; omega) fun j y w h1 h2 => ?_
      obtain ⟨en, hen, hv⟩ := it.2 j w (by rw [← Array.getElem?_toList]; exact h2)
      rw [List.getElem?_map] at h1
      cases hj : kvs[j]? with
      | none => rw [hj] at h1; cases h1
      | some kp =>
        rw [hj] at h1
        cases h1
        have hjv : j < vs.length := by rw [← l2]; exact (List.getElem?_eq_some_iff.mp hj).1
        have e2 : es.toList[j]? = some en := by rw [Array.getElem?_toList]; exact hen
        obtain ⟨hkey, _⟩ := pr.get? (i := j) (e := en) (k := vs[j].1) (v := vs[j].2) e2 (by rw [List.getElem?_eq_getElem hjv])
        have hkk : kp.1 = vs[j].1 := by
          have z := congrArg (fun l => l[j]?) (KV.keys kv)
          simp only [List.getElem?_map, hj, List.getElem?_eq_getElem hjv] at z
          simpa using z
        rw [hv]
        show RelV (kV kp.1) en.key
        rw [hkk]
        exact keyIs_rel hkey
    exact hQ h' tk _ kp rv (by omega)
def rSrt (K : PySem.W.Frag) : List V → Hp → VK → Prop := fun vs H Q => ∃ (r : Addr) (xs : List V) (ds : List PyData), vs = [V.ref r] ∧ Src K H r xs ∧ DpAll K H xs ds ∧ AllAlike ds ∧ LMS.SortableX ds ∧ (∀ d ∈ ds, d.depth ≤ 60) ∧
  ∀ p, H p = none → Q (.ref p) (upd H p (.lst (srtV xs ds)))
theorem srtV_len {xs : List V} {ds : List PyData} (h : xs.length = ds.length) : (srtV xs ds).length = xs.length := by
  unfold srtV
  rw [List.length_map, List.length_mergeSort, List.length_zip, ← h, Nat.min_self]
theorem cr_srt {X : Cx} (hc : X.calm = true) (hu : X.A.units + 64 < cLine) : CallR X (.builtin "sorted") (rSrt X.K) := by
  intro pins s σ H vs us Q I r h
  obtain ⟨r0, xs, ds, rfl, hs, hd, hal, hk, hdp, q⟩ := h
  obtain rfl := Vals.ref1 r
  refine sorted_of_any (P := fun us => Vals xs us) (fun E' Q' hq => src_col I (I.ok.hd hc) hs hq) (args_sorted1 _) (fun _ => args_list_sort _) fun h' tk us E' kp rv hL => ?_
  have I' : Inv X pins σ H { s with heap := h', toks := tk } := I.kept kp
  obtain ⟨as, hr⟩ := Dp.readsAll I' ds xs us hd rv
  have old : ∀ b o, h'.get? b = some o → (PySem.W.sortingHeap (h'.push (seqObj "list" us.toArray 0)) h'.objs.size us).get? b = some o := fun b o e => PySem.W.sortingHeap_old (Nat.ne_of_lt (Heap.lt_size e)) (Heap.get?_push_of_some _ e)
  have er : EachIs (fun v d => ∃ as, Reads (PySem.W.sortingHeap (h'.push (seqObj "list" us.toArray 0)) h'.objs.size us) v d as) us ds := (each_reads hr).mono fun _ _ ⟨as, r⟩ => ⟨as, PyProof.Rows.Reads.keeps old r⟩
  refine PySem.W.list_sort_vals (κ := dataKind (PySem.W.sortingHeap (h'.push (seqObj "list" us.toArray 0)) h'.objs.size us) ds) (Heap.get?_push_size _ rfl)
    (LMS.sortsX (s := { s with heap := PySem.W.sortingHeap (h'.push (seqObj "list" us.toArray 0)) h'.objs.size us, toks := tk }) er hal hk fun d hd => ?_) hL ⟨rfl, ?_⟩
  · have := hdp d hd
    show X.A.units + 1 + 1 + d.depth < cLine
    rw [show cLine = cLine from rfl]
    have : X.A.units + 64 < cLine := hu
    omega
  · obtain ⟨ep, he⟩ := sortedHeap_at (vs := us) (out := (sortVals (dataKind (PySem.W.sortingHeap (h'.push (seqObj "list" us.toArray 0)) h'.objs.size us) ds) false us us).toArray) (Heap.get?_push_size h' (o := seqObj "list" us.toArray 0) rfl)
    have lx : xs.length = ds.length := by rw [rv.length]; exact er.length
    refine ⟨.ref h'.objs.size, upd H h'.objs.size (.lst (srtV xs ds)), I'.laid (t' := tk) (fun b u e => ?_) (Nat.le_refl _) ⟨?_, _, ep, vals_srt rv hal er rfl, he⟩, rfl, q _ (I'.hok.fresh (Nat.le_refl _))⟩
    · rw [sortedHeap_old (Nat.ne_of_lt (Heap.lt_size e)) (Heap.lt_size (Heap.get?_push_of_some _ e))]
      exact Heap.get?_push_of_some _ e
    · rw [srtV_len lx, rv.length]; exact hL
/-! ## sorted(e) -/
def srcP (a : PV) (s : SS) : Option (List AV) := match coP a s with
  | .ob (.lst xs) => some xs
  | .ob (.dic false kvs) => some (kvs.map (·.1))
  | _ => none
def srtF (s : SS) : List PV → Option AO
  | [a] => match srcP a s with
    | some xs => if okSrt xs then some (.lst (srtA xs xs)) else none
    | none => none
  | _ => none
variable [TabNames]
section
variable {K : PySem.W.Frag} {U F H : Hp} {ρ : List Addr} {S : SS} {σ : St}
theorem srcP_ok (R : Rep K U F ρ S σ H) {a : PV} {v : V} {xs : List AV} (h : EmbP K F ρ σ a v) (e : srcP a S = some xs) : ∃ r vs, v = .ref r ∧ Src K H r vs ∧ EmbL K F ρ xs vs := by
  have cc := coP_ok R h
  unfold srcP at e
  split at e
  · rename_i ys hc
    cases e; rw [hc] at cc
    obtain ⟨p, ws, rfl, h1, h2⟩ := cc
    exact ⟨p, ws, rfl, .inl h1, h2⟩
  · rename_i kvs hc
    cases e; rw [hc] at cc
    obtain ⟨p, rfl, ⟨_, kv, h1, h2⟩ | ⟨z, _⟩⟩ := cc
    · exact ⟨p, _, rfl, .inr ⟨kv, h1, rfl⟩, emb_keysK h2⟩
    · cases z
  · cases e
end
theorem gb_srt {X : Cx} : GoodBN X srtF (rSrt X.K) := by
  intro U F ρ S σ H as c vs Q R ea e q
  unfold srtF at e
  split at e
  · rename_i a
    obtain ⟨v, rfl, h⟩ := embPL1 ea
    split at e
    · rename_i xs hc
      split at e
      · rename_i ho
        cases e
        obtain ⟨r, ws, rfl, h1, h2⟩ := srcP_ok R h hc
        obtain ⟨o1, o2, o3, o4⟩ := okSrt_ok ho
        refine ⟨r, ws, datL xs, rfl, h1, dp_ofL R 60 xs ws o1 h2, o2, o3, o4, fun p hp => ?_⟩
        obtain ⟨R2, L⟩ := R.newLoose (u := .lst (srtV ws (datL xs))) (o := .lst (srtA xs xs)) hp ⟨_, upd_same, emb_srt h2 rfl⟩
        exact q _ p R2 L
      · cases e
    · cases e
  · cases e
theorem pn_srt {X : Cx} {pos p : Pos} {e : Expr} {f : M PV} (hc : X.calm = true) (hu : X.A.units + 65 < cLine) (hm : X.mg "sorted" = none) (ha : PPm X e f) (hgl : Gl X "sorted" := by rfl) (hs : starEach [e] X.env = (false, eval e X.env) :: starEach [] X.env := by rfl) :
    PNm X (.Call (.Name "sorted" p) [e] [] pos) (cbM srtF (consM f nilM)) :=
  pn_cB (cr_srt hc (by omega)) gb_srt hgl hm (by decide +kernel) (pap_cons ha pap_nil hs) (he := hs)
end LM

/-! sorted(xs, key=lambda x: body) -/
namespace LM
open PyProof.Rows hiding St frameOf passOn
open PySem PySem.Spec L2
open PySem.W (TotalLe sameRank EachIs alike dataLt dataLe AllAlike dataKind SortsAt sortVals keyToks)
/-! ## tables: what a lambda's place tells stays -/
theorem among_mono {pos : Pos} {cv : Value} {m : List Value} (l : List Value) (h : TriplesOk l) (hc : codeAmong pos l = some cv) : codeAmong pos (l ++ m) = some cv := by
  fun_induction TriplesOk l with
  | case1 => simp [codeAmong] at hc
  | case2 a t b u x rest ih =>
    simp only [List.cons_append, codeAmong] at hc ⊢
    split at hc
    · rename_i q
      rw [if_pos q]
      exact hc
    · rename_i q
      rw [if_neg q]
      exact ih h hc
  | case3 l h1 h2 => exact h.elim
def TabP (H : Hp) (P : Addr) (pos : Pos) (c' : Addr) : Prop := ∃ (ps : Array Value) (l m : List Value), H P = some (.tbl ps) ∧ ps.toList = l ++ m ∧ TriplesOk l ∧ codeAmong pos l = some (.ref c')
def Grows (H H' : Hp) : Prop := ∀ b ps, H b = some (.tbl ps) → ∃ more, H' b = some (.tbl (ps ++ more))
theorem TabP.grows {H H' : Hp} {P : Addr} {pos : Pos} {c' : Addr} (h : TabP H P pos c') (g : Grows H H') : TabP H' P pos c' := by
  obtain ⟨ps, l, m, h1, h2, h3, h4⟩ := h
  obtain ⟨more, e⟩ := g _ _ h1
  exact ⟨_, l, m ++ more.toList, e, by rw [Array.toList_append, h2, List.append_assoc], h3, h4⟩
theorem TabP.code {H : Hp} {P : Addr} {pos : Pos} {c' : Addr} {q : Str} (h : TabP H P pos c') (t : LamX.TabS H P q) : H c' = some (LamX.CodeO c' q) := by
  obtain ⟨ps, l, m, h1, h2, h3, h4⟩ := h
  obtain ⟨ps', e1, e2, e3⟩ := t
  rw [h1] at e1
  cases e1
  obtain ⟨c, e4, e5⟩ := e3 pos (.ref c') (by rw [h2]; exact among_mono l h3 h4)
  cases e4
  exact e5
section
variable {X : Cx} {pins : List (Addr × Obj)} {σ : L2.St} {H : Hp} {s : Shared}
/-- the lambda is made: its code object is new, or found in the table; its place in the table tells it from now on -/
theorem lam_make3 {T : List (Addr × Str)} {c P : Addr} {params : Arguments} {body : Expr} {scope : Scope} {pos : Pos} {E : Value → Shared → Prop} {Q : Value → Shared → Prop} (I : Inv X pins σ H s) (TB : LamX.TabB X.base X.mg c P) (hcode : X.env.code = .ref c)
    (hm : (P, X.env.qual ++ "<lambda>") ∈ T) (hu : ∀ p ∈ T, p.1 = P → p.2 = X.env.qual ++ "<lambda>") (hT : LamX.Tabs T H) (hdef : defaultsOf params X.env = ([], [])) (hfree : ∀ y ∈ scope.names, y.2 = .free → ∃ c, X.env.cells.lookup y.1 = some c)
    (h : ∀ (f c' : Addr) (pm ctv : Value) (H1 : Hp) (s' : Shared), Inv X pins σ H1 s' → LamX.ExtN H H1 → LamX.Tabs T H1 → TabP H1 P pos c' → s.heap.objs.size ≤ f →
      s'.heap.get? f = some (PySem.W.kla_obj "<lambda>" (X.env.qual ++ "<lambda>") params body scope (cloFrom X.env.cells scope.names []) pm c' ctv) → H1 f = none → Q (.ref f) s') :
    wpAny (model X.prog X.w) X.A (eval (.Lambda params body scope pos) X.env) Q E s := by
  obtain ⟨ps, hP, ht, ha⟩ := hT _ hm
  refine PySem.W.kla_eval hdef ?_
  have bP : s.heap.BuiltinsAt X.mg P := TB.bm.keeps I.bk
  have hP' : s.heap.get? P = some { cls := .none, data := .fields ps } := I.hok P _ hP
  cases hc : codeAmong pos ps.toList with
  | none =>
    refine PySem.W.kla_makeFunction (mg := X.mg) (c := c) (P := P) (ps := ps) (closure_ok hfree) I.ok.glob (I.mod.glob.keeps I.bk) hcode (TB.code.keeps I.bk) hP' ht hc TB.gP bP fun c' ctv h' tk hx hge hlt hrec htb => ?_
    obtain ⟨c2, oc, vs, t, e2, hoc, hd, hv⟩ := hrec
    cases e2
    have hsz : s.heap.objs.size ≤ h'.objs.size := Nat.le_trans hge (Nat.le_of_lt hlt)
    have nC : H c' = none := I.hok.fresh hge
    have I1 := LamX.inv_table (t' := tk) (more := #[rawInt pos.line, rawInt pos.col, .ref c']) (h' := h'.push (PySem.W.kla_obj "<lambda>" (X.env.qual ++ "<lambda>") params body scope (cloFrom X.env.cells scope.names []) ((X.mg "__name__").getD .none) c' ctv)) I hP
      (fun b o hb e => Heap.get?_push_of_some _ (hx b o hb e)) (Heap.get?_push_of_some _ htb) hge ⟨oc, vs, t, Heap.get?_push_of_some _ hoc, hd, hv⟩
    have hE : LamX.ExtN H (upd (upd H P (.tbl (ps ++ #[rawInt pos.line, rawInt pos.col, .ref c']))) c' (LamX.CodeO c' (X.env.qual ++ "<lambda>"))) := fun b o e n => by
      rw [upd_ne (ne_of_none e nC), upd_ne (fun z => n ps (Option.some.inj (e.symm.trans (by rw [z]; exact hP))))]
      exact e
    have eL : (ps ++ #[rawInt pos.line, rawInt pos.col, .ref c']).toList = ps.toList ++ [rawInt pos.line, rawInt pos.col, .ref c'] := by simp
    refine h h'.objs.size c' ((X.mg "__name__").getD .none) ctv _ _ I1 hE (fun p hp => ?_) ⟨ps ++ #[rawInt pos.line, rawInt pos.col, .ref c'], _, [], ?_, (List.append_nil _).symm, ?_, ?_⟩ hsz (Heap.get?_push_size _ rfl) ?_
    · by_cases hb : p.1 = P
      · rw [hu p hp hb, hb]
        refine ⟨_, by rw [upd_ne (ne_of_none hP nC), upd_same], by rw [eL]; exact PySem.TriplesOk_snoc _ _ _ _ ht, fun p' cv hcv => ?_⟩
        rw [eL] at hcv
        rcases LamX.among_app _ ht hcv with z | z
        · obtain ⟨c0, e1, e2⟩ := ha p' cv z
          exact ⟨c0, e1, hE _ _ e2 LamX.codeO_ne⟩
        · exact ⟨c', z, upd_same⟩
      · obtain ⟨ps', a1, a2, a3⟩ := hT p hp
        refine ⟨ps', by rw [upd_ne (ne_of_none a1 nC), upd_ne hb]; exact a1, a2, fun p' cv hcv => ?_⟩
        obtain ⟨c0, e1, e2⟩ := a3 p' cv hcv
        exact ⟨c0, e1, hE _ _ e2 LamX.codeO_ne⟩
    · rw [upd_ne (ne_of_none hP nC), upd_same]
    · rw [eL]; exact PySem.TriplesOk_snoc _ _ _ _ ht
    · rw [eL]; exact PySem.codeAmong_snoc _ ht hc
    · have n1 : h'.objs.size ≠ c' := Nat.ne_of_gt hlt
      have n2 : h'.objs.size ≠ P := Nat.ne_of_gt (Nat.lt_of_lt_of_le (Heap.lt_size hP') hsz)
      rw [upd_ne n1, upd_ne n2]
      exact I.hok.fresh hsz
  | some cv =>
    obtain ⟨c', e, hco⟩ := ha pos cv hc
    subst e
    refine PySem.W.kla_makeFunctionHit (mg := X.mg) (c := c) (P := P) (ps := ps) (closure_ok hfree) I.ok.glob (I.mod.glob.keeps I.bk) hcode (TB.code.keeps I.bk) hP' ht hc bP fun ctv h' tk hx hsz => ?_
    have I1 : Inv X pins σ H { s with heap := h'.push (PySem.W.kla_obj "<lambda>" (X.env.qual ++ "<lambda>") params body scope (cloFrom X.env.cells scope.names []) ((X.mg "__name__").getD .none) c' ctv), toks := tk } := I.kept fun b o e => Heap.get?_push_of_some _ (hx b o e)
    exact h h'.objs.size c' ((X.mg "__name__").getD .none) ctv H _ I1 (LamX.ExtN.refl H) hT ⟨ps, ps.toList, [], hP, (List.append_nil _).symm, ht, hc⟩ hsz (Heap.get?_push_size _ rfl) (I.hok.fresh hsz)
end
/-! ## the names of a lambda with one parameter -/
structure LamS1 (sc scope : Scope) (a : Str) : Prop where
  kind : scope.kind = .function
  co : scope.isCoroutine = false
  gen : scope.isGenerator = false
  par : scope.names.lookup a = some .local
  own : ∀ y ∈ scope.names, (y.2 = .local → y.1 = a) ∧ y.2 ≠ .cell
  free : ∀ y ∈ scope.names, y.2 = .free → sc.names.lookup y.1 = some .cell ∨ sc.names.lookup y.1 = some .free
def lamS1B (sc scope : Scope) (a : Str) : Bool :=
  decide (scope.kind = .function) && !scope.isCoroutine && !scope.isGenerator && decide (scope.names.lookup a = some .local) &&
    scope.names.all fun y => (!decide (y.2 = .local) || decide (y.1 = a)) && !decide (y.2 = .cell) && (!decide (y.2 = .free) || decide (sc.names.lookup y.1 = some .cell) || decide (sc.names.lookup y.1 = some .free))
theorem lamS1_by {sc scope : Scope} {a : Str} (h : lamS1B sc scope a = true) : LamS1 sc scope a := by
  unfold lamS1B at h
  simp only [Bool.and_eq_true, Bool.or_eq_true, Bool.not_eq_true', decide_eq_true_eq, decide_eq_false_iff_not, List.all_eq_true] at h
  obtain ⟨⟨⟨⟨h1, h2⟩, h3⟩, hp⟩, h4⟩ := h
  refine ⟨h1, h2, h3, hp, fun y hy => ⟨fun e => (h4 y hy).1.1.resolve_left fun z => z e, (h4 y hy).1.2⟩, fun y hy e => ?_⟩
  rcases (h4 y hy).2 with (z | z) | z
  · exact absurd e z
  · exact .inl z
  · exact .inr z
theorem LamS1.has {X : Cx} {scope : Scope} {a : Str} (L : LamS1 X.env.scope scope a) (ok : X.Ok) : ∀ y ∈ scope.names, y.2 = .free → ∃ c, X.env.cells.lookup y.1 = some c := fun y hy e => by
  rcases L.free y hy e with k | k
  · exact ok.has _ (.inl k)
  · exact ok.has _ (.inr k)
/-- slots of one name forgotten -/
def blkL {α : Type} (a : Str) : List Str → List (Option α) → List (Option α)
  | n :: N, x :: σ => (if n = a then none else x) :: blkL a N σ
  | _, σ => σ
theorem blkL_len {α : Type} (a : Str) : ∀ (N : List Str) (σ : List (Option α)), (blkL a N σ).length = σ.length
  | _ :: N, _ :: σ => by simp [blkL, blkL_len a N σ]
  | [], σ => by cases σ <;> rfl
  | _ :: _, [] => rfl
theorem blkL_get {α : Type} (a : Str) : ∀ (N : List Str) (σ : List (Option α)) (i : Nat) (v : α), (blkL a N σ)[i]? = some (some v) → σ[i]? = some (some v) ∧ N[i]? ≠ some a
  | n :: N, x :: σ, 0, v, h => by
    simp only [blkL, List.getElem?_cons_zero] at h ⊢
    split at h
    · cases h
    · rename_i hn
      exact ⟨h, fun z => hn (by simpa using z)⟩
  | n :: N, x :: σ, i + 1, v, h => by
    simp only [blkL, List.getElem?_cons_succ] at h ⊢
    exact blkL_get a N σ i v h
  | [], σ, i, v, h => by
    have e : blkL a [] σ = σ := by cases σ <;> rfl
    rw [e] at h
    exact ⟨h, by simp⟩
  | n :: N, [], i, v, h => by simp [blkL] at h
def lamCx1 (X : Cx) (A : Around) (outer : List Env) (s : Shared) (H : Hp) (E : XK) (scope : Scope) (f c' : Addr) (a : Str) : Cx := { LamX.lamCx X A outer s H E scope f c' with N := X.N ++ [a] }
section
variable {X : Cx} {pins : List (Addr × Obj)} {σ : L2.St} {H : Hp} {s : Shared}
theorem lam_start1 {A : Around} {outer : List Env} {E : XK} {scope : Scope} {f c' : Addr} {a : Str} {v : V} {u : Value} {h₁ : Heap} {tk : Nat} (I : Inv X pins σ H s) (L : LamS1 X.env.scope scope a) (e0 : Env0 X.prog X.w X.K X.mg X.base A outer s H) (hd : A.handled = none)
    (rv : RelV v u) (hns : h₁.Ns s.heap.objs.size fun y => ([(a, u)] : List (Str × Value)).reverse.lookup y) (kp : ∀ b o, s.heap.get? b = some o → h₁.get? b = some o) :
    Inv (lamCx1 X A outer s H E scope f c' a) [] (blkL a X.N σ ++ [some v]) H { s with heap := h₁, toks := tk } := by
  have hfree := L.has I.ok
  have cm : ∀ {y c}, (cloFrom X.env.cells scope.names []).lookup y = some c → X.env.cells.lookup y = some c := fun {y c} e => by
    rcases cloFrom_mem (PySem.mem_of_lookup e) with hm | ⟨h1, h2⟩
    · cases hm
    · obtain ⟨c1, hc⟩ := hfree _ h1 rfl
      have hc : X.env.cells.lookup y = some c1 := hc
      have e2 : c = c1 := by
        rw [h2, hc] <;> rfl
      rw [e2]
      exact hc
  have look : ∀ {y}, scope.names.lookup y = some .free → ∃ c, (cloFrom X.env.cells scope.names []).lookup y = some c := fun {y} hl => by
    have hy : (y, NameKind.free) ∈ scope.names := PySem.mem_of_lookup hl
    exact mem_lookup (cloFrom_has (cells := X.env.cells) (acc := []) hy)
  have cellK : ∀ {c : Addr} {v : Option Value}, s.heap.IsCell c v → h₁.IsCell c v := fun {c v} ⟨o, ho, hd⟩ => ⟨o, kp _ _ ho, hd⟩
  have noA : ∀ b : Addr, b ∉ (lamCx1 X A outer s H E scope f c' a).ex := fun b z => absurd (show b ∈ ([] : List Addr) from z) (by simp)
  have hlen : (blkL a X.N σ).length = X.N.length := by rw [blkL_len]; exact I.len
  refine ⟨⟨e0.mod, L.kind, rfl, rfl, Nat.le_refl _, fun y z c e1 e2 => I.ok.inj y z c (cm e1) (cm e2), fun y hy => ?_, fun y c z _ => ?_, fun _ => hd, Around.frames_deeper e0.frames, .inr ⟨rfl, rfl⟩, fun b z => absurd z (noA b), e0.bs, e0.bsz, fun b _ _ => noA b,
      fun b z => absurd z (noA b), e0.funs, e0.frf⟩,
    rfl, e0.bare, Un.kept kp, ⟨_, hns, fun i y w e1 e2 e3 => ?_⟩, fun y c e => ?_, e0.hok.fresh (Nat.le_refl _), fun y c e => I.freeC y c (cm e), fun q hq => absurd (show q ∈ ([] : List (Addr × Obj)) ++ [] from hq) (by simp), e0.hok.kept kp, ?_⟩
  · have hy : scope.names.lookup y = some .cell ∨ scope.names.lookup y = some .free := hy
    rcases hy with hy | hy
    · exact absurd rfl (L.own _ (PySem.mem_of_lookup hy)).2
    · exact look hy
  · have z : false = true := z
    cases z
  · have e3 : Vis scope y := e3
    have e1 : (X.N ++ [a])[i]? = some y := e1
    by_cases hi : i < X.N.length
    · rw [List.getElem?_append_left hi] at e1
      rw [List.getElem?_append_left (by omega)] at e2
      obtain ⟨e2, hna⟩ := blkL_get _ _ _ _ _ e2
      rcases e3 with k | k | k
      · have := (L.own _ (PySem.mem_of_lookup k)).1 rfl
        exact absurd (by rw [e1]; exact congrArg some this) hna
      · exact absurd rfl (L.own _ (PySem.mem_of_lookup k)).2
      · obtain ⟨m, hn, hl⟩ := I.loc
        have hvis : Vis X.env.scope y := (L.free _ (PySem.mem_of_lookup k) rfl).elim (fun k => .inr (.inl k)) (fun k => .inr (.inr k))
        obtain ⟨w', r, q⟩ := hl i y w e1 e2 hvis
        obtain ⟨c2, h2⟩ := look k
        refine ⟨w', r, .inr ⟨.inr k, c2, h2, ?_⟩⟩
        have c1 := cm h2
        rcases q with ⟨k', _⟩ | ⟨_, c3, e', z⟩
        · have k' : X.env.scope.names.lookup y = some .local := k'
          rcases L.free _ (PySem.mem_of_lookup k) rfl with k2 | k2 <;> rw [show X.env.scope.names.lookup y = _ from k2] at k' <;> cases k'
        · rw [c1] at e'
          cases e'
          exact cellK z
    · rw [List.getElem?_append_right (by omega)] at e1 e2
      rw [hlen] at e2
      have hi0 : i - X.N.length = 0 := by
        have := (List.getElem?_eq_some_iff.mp e1).1
        simp at this
        omega
      rw [hi0] at e1 e2
      simp at e1 e2
      subst e1 e2
      refine ⟨u, rv, .inl ⟨L.par, ?_⟩⟩
      simp
  · obtain ⟨w', z⟩ := I.cell y c (cm e)
    exact ⟨w', cellK z⟩
  · show (blkL a X.N σ ++ [some v]).length = (X.N ++ [a]).length
    simp [hlen]
def EPU (X : Cx) (pins : List (Addr × Obj)) (σ : St) (H : Hp) (Q : VK) (u : Value) (s' : Shared) : Prop := ∃ v H', Inv X pins σ H' s' ∧ RelV v u ∧ Grows H H' ∧ Q v H'
theorem Inv.afterU {Q : VK} {u : Value} {s' : Shared} (I : Inv X pins σ H s) (h : CE X.stack X.prog X.w H s Q u s') : EPU X pins σ H Q u s' := by
  obtain ⟨v, H', os, bare, un, hok, r, q⟩ := h
  obtain ⟨hh, g, d, t, os'⟩ := s'
  obtain rfl : os' = s.os := os
  exact ⟨v, H', I.call (h' := hh) (g' := g) (d' := d) (t' := t) (ch := []) un hok bare (fun b z => absurd z (by simp)), r, un.tbls, q⟩
/-- the lambda called with one value, inside a built-in that the def has called -/
theorem lam_call1 {A : Around} {k : Nat} {f c' : Addr} {a : Str} {pm ctv : Value} {params : Arguments} {body : Expr} {scope : Scope} {tb : TE} {v : V} {u : Value} {Q : VK} (I : Inv X pins σ H s) (L : LamS1 X.env.scope scope a)
    (e0 : Env0 X.prog X.w X.K X.mg X.base A X.stack s H) (hr : Room (k + 1) A)
    (hf : s.heap.get? f = some (PySem.W.kla_obj "<lambda>" (X.env.qual ++ "<lambda>") params body scope (cloFrom X.env.cells scope.names []) pm c' ctv)) (hc : H c' = some (LamX.CodeO c' (X.env.qual ++ "<lambda>")))
    (hbind : ∀ u : Value, bindArgs (PySem.W.kla_fn "<lambda>" (X.env.qual ++ "<lambda>") params body scope (cloFrom X.env.cells scope.names []) pm (.ref c') ctv) ⟨[u], []⟩ = pure [(a, u)])
    (hbody : ∀ (A : Around) (outer : List Env) (s : Shared) (H : Hp), Room k (A.deeper (LamX.lamEnv X scope s.heap.objs.size f c')) → PE (lamCx1 X A outer s H (fun _ _ _ => False) scope f c' a) body tb)
    (rv : RelV v u) (ht : tb (blkL a X.N σ ++ [some v]) H Q) : wpAny (model X.prog X.w) A (call (.ref f) [u]) (EPU X pins σ H Q) (fun _ _ => False) s := by
  obtain ⟨⟨oc, vs, t, hoc, hdc, hvc⟩, _, _⟩ := I.hok c' _ hc
  have rc : codeAny (model X.prog X.w) A (.call (.ref f) ⟨[u], []⟩) (CR (L2.CX X.prog X.w) X.stack X.prog X.w H s Q (fun _ _ _ => False)) s := by
    refine PySem.W.kla_callFunE hr.depth hf rfl L.co L.gen rfl ⟨c', oc, vs, t, rfl, hoc, hdc, hvc⟩ ?_
    rw [hbind]
    refine wpAny_pure (wpAny_newFunctionEnv (fun y hy => (L.own y hy).2) (fun y hy => ?_) (fun h₁ hns hsb => ⟨I.nolimit.fresh _ hsb, ?_⟩) L.kind)
    · have : y = (a, u) := by simpa using hy
      subst this
      exact L.par
    show codeAny _ _ (.expr body (LamX.lamEnv X scope s.heap.objs.size f c')) _ _
    have kp : ∀ b o, s.heap.get? b = some o → h₁.get? b = some o := fun b o e => hsb.extBut b o (Nat.ne_of_lt (Heap.lt_size e)) (Heap.get?_push_of_some _ e)
    have J : Inv (lamCx1 X A X.stack s H (fun _ _ _ => False) scope f c' a) [] (blkL a X.N σ ++ [some v]) H { s with heap := h₁, toks := s.toks + ([(a, u)] : List (Str × Value)).length } :=
      lam_start1 I L e0 hr.hd rv hns kp
    refine PySem.W.kla_codeExpr (wpAny_mono ((hbody _ _ s H (hr.deeper _)).run [] _ _ H Q J ht) (fun w s' hq => ?_) fun e s' hq => hq)
    obtain ⟨w', H', J', rw', q⟩ := hq
    exact ⟨w', H', J'.os, J'.bare, J'.base, J'.hok, rw', q⟩
  refine wpAny_call (codeAny_mono rc fun r s' hq => ?_)
  cases r with
  | error e =>
    obtain ⟨_, _, _, _, _, _, _, _, _, _, _, _, z⟩ := hq
    exact z.elim
  | ok fl =>
    cases fl with
    | ret u => exact Inv.afterU I hq
    | next => exact False.elim hq
    | brk => exact False.elim hq
    | cont => exact False.elim hq
/-! ## the sort -/
/-- an object that is the sort's own -/
structure Fsh (X : Cx) (pins : List (Addr × Obj)) (b : Addr) : Prop where
  ge : X.s_0.heap.objs.size ≤ b
  nl : b ≠ X.env.locals
  nc : ∀ x c, X.env.cells.lookup x = some c → c ≠ b
  np : ∀ p ∈ X.pn ++ pins, p.1 ≠ b
  nf : b ∉ X.fs
theorem Inv.fsh (I : Inv X pins σ H s) {b : Addr} (h : s.heap.objs.size ≤ b) : Fsh X pins b where
  ge := Nat.le_trans I.sz h
  nl := Nat.ne_of_gt (Nat.lt_of_lt_of_le I.lt h)
  nc x c e := by
    obtain ⟨v, o, ho, _⟩ := I.cell x c e
    exact Nat.ne_of_lt (Nat.lt_of_lt_of_le (Heap.lt_size ho) h)
  np p hp := Nat.ne_of_lt (Nat.lt_of_lt_of_le (Heap.lt_size (I.pin p hp).1) h)
  nf := I.nofs h
theorem Inv.turn {t' : Nat} {b : Addr} {h' : Heap} (I : Inv X pins σ H s) (F : Fsh X pins b) (hn : H b = none) (k : ∀ c o, c ≠ b → s.heap.get? c = some o → h'.get? c = some o) : Inv X pins σ H { s with heap := h', toks := t' } :=
  I.turned k hn F.nl (.inr F.ge) F.nc F.np
theorem Inv.turnNew {t' : Nat} {it : Addr} {o : HO} {h' : Heap} (I : Inv X pins σ H s) (F : Fsh X pins it) (hn : H it = none) (k : ∀ b o, b ≠ it → s.heap.get? b = some o → h'.get? b = some o) (new : ObjOk X.prog X.w (upd H it o) h' it o) :
    Inv X pins σ (upd H it o) { s with heap := h', toks := t' } := by
  have nit : ∀ b u, H b = some u → b ≠ it := fun b u e z => by rw [z, hn] at e; cases e
  have at_ : ∀ b u, H b = some u → upd H it o b = some u := fun b u e => by rw [upd_ne (nit b u e)]; exact e
  refine I.step (g' := s.gens) (d' := s.drawn) (ch := [it]) (fun b hb => ?_) (fun b o _ _ hc e _ => k b o (fun z => hc (by simp [z])) e) (fun b o _ _ hc e _ => ⟨o.slots, k b o (fun z => hc (by simp [z])) e⟩) (fun b o hc _ n => ?_)
    (fun b o hc e => ⟨o, k b o (fun z => hc (by simp [z])) e⟩) (fun b xs e => at_ _ _ e) (fun b ob u e => at_ _ _ e) (fun b ps e => ⟨#[], by rw [at_ _ _ e]; simp⟩) (fun m hm => ?_) (fun b u e => ?_) I.bare
  · have e : b = it := by simpa using hb
    subst e
    exact ⟨.inr F.ge, F.nl, F.nc, F.np⟩
  · rw [upd_ne (fun z => hc (by simp [z]))]; exact n
  · obtain ⟨ob, es, ep, ho, r⟩ := hm
    exact ⟨ob, es, ep, k _ ob (Ne.symm F.nl) ho, r⟩
  · by_cases hb : b = it
    · subst hb
      rw [upd_same] at e
      cases e
      exact new
    · rw [upd_ne hb] at e
      refine (I.hok b u e).stay (fun c v hc q => k c v ?_ q) (fun c q => at_ _ _ q) fun c xs q => at_ _ _ q
      rcases hc with z | z
      · rw [z]; exact hb
      · exact nit c _ z
end
section
variable {prog : Program} {w : World} {A : Around} {E : Value → Shared → Prop} {s : Shared} {a kS : Addr} {b : Bool} {vs : List Value} {keys : Array Value} {e e1 : Nat} {P : PySem.Fin → Shared → Prop}
def endHeap (h : Heap) (kS a : Addr) (out : List Value) : Heap := (h.update kS (Obj.mapSeq fun _ => (#[] : Array Value))).update a (Obj.mapSeq fun _ => out.toArray)
theorem keyX_tail {st : SortSt} {out : List Value} (nk : s.heap.get? kS = some (seqObj "list" keys e)) (na : s.heap.get? a = some (seqObj "list" #[] e1)) (hka : kS ≠ a)
    (hsz : keys.size ≤ sizeLine) (hz : out.length ≤ sizeLine) (hfl : failedOf st = none) (ho : (if b = true then ((arrOf st).map (·.2)).reverse else (arrOf st).map (·.2)) = out.toArray)
    (h : P (.done (.ret .none)) { s with heap := endHeap s.heap kS a out }) : wpAny (model prog w) A (ksk_tail a b e1 (.ref kS) st) P E s := by
  have s1 := Heap.SameBut.update s.heap kS (Obj.mapSeq fun _ => (#[] : Array Value))
  have na1 : (s.heap.update kS (Obj.mapSeq fun _ => (#[] : Array Value))).get? a = some (seqObj "list" #[] e1) := (s1.2 a hka.symm).trans na
  have hz2 : out.toArray.size ≤ sizeLine + 1 := by
    rw [List.size_toArray]
    exact Nat.le_succ_of_le hz
  unfold ksk_tail
  try dsimp only
  rw [ho]
  refine wpAny_bind (listUpdate_at nk rfl ?_ hsz (Nat.zero_le _))
  refine wpAny_bind (wpAny_letGo ?_)
  refine wpAny_bind (seqEpoch_at na1 rfl ?_)
  refine wpAny_bind (listUpdate_at na1 rfl ?_ (Nat.zero_le _) hz2)
  rw [hfl]
  simp only [bne_self_eq_false, Bool.false_eq_true, if_false]
  exact wpAny_pure h
theorem keyX_end {κ : PyProof.Rows.KeyKind} (nk : s.heap.get? kS = some (seqObj "list" keys e)) (na : s.heap.get? a = some (seqObj "list" #[] e1)) (hka : kS ≠ a)
    (S : SortsAt prog w A s κ keys.toList) (hsz : keys.size = vs.length) (hZ : vs.length ≤ sizeLine)
    (h : P (.done (.ret .none)) { s with heap := endHeap s.heap kS a (sortVals κ b keys.toList vs) }) :
    wpAny (model prog w) A (ksk_end a b vs.toArray e1 (.ref kS) keys) P E s := by
  obtain ⟨kd, h1, h2⟩ := S.kind
  have hkl : keys.toList.length = vs.length := by
    rw [Array.length_toList]
    exact hsz
  have hK : PyProof.Rows.KeysOf κ (keys.zip vs.toArray) := PySem.W.keysOf_zip S.keys
  have hol : (sortVals κ b keys.toList vs).length = vs.length := PySem.W.sortVals_length b hkl
  have hstart : (if b = true then (keys.zip vs.toArray).reverse else keys.zip vs.toArray).Perm (keys.zip vs.toArray) := by
    cases b with
    | false => exact Array.Perm.refl _
    | true => exact Array.perm_iff_toList_perm.mpr (by rw [if_pos rfl, Array.toList_reverse]; exact List.reverse_perm _)
  have hss : (if b = true then (keys.zip vs.toArray).reverse else keys.zip vs.toArray).size = vs.length := by rw [hstart.size_eq, Array.size_zip, hsz, List.size_toArray, Nat.min_self]
  have fin : ∀ st' : SortSt, (arrOf st').Perm (if b = true then (keys.zip vs.toArray).reverse else keys.zip vs.toArray) → SortedToK κ (arrOf st') (if b = true then (keys.zip vs.toArray).reverse else keys.zip vs.toArray).size →
      Stable κ (arrOf st') (if b = true then (keys.zip vs.toArray).reverse else keys.zip vs.toArray) → (if b = true then ((arrOf st').map (·.2)).reverse else (arrOf st').map (·.2)) = (sortVals κ b keys.toList vs).toArray := by
    intro st' hp hs ht
    have e := PySem.W.sort_out (rev := b) (keys := keys) (items := vs.toArray) (xs := arrOf st') (κ := κ) hK hp hs ht
    have e' := congrArg List.toArray e
    rw [Array.toArray_toList] at e'
    exact e'
  have step : ∀ t : Sem PySem.Fin, wpAny (model prog w) A t P E s → wpAny (model prog w) A (if b = true then (do let _ ← rule "list.sort.reverse"; t) else t) P E s := by
    intro t ht
    split
    · exact wpAny_bind (wpAny_rule ht)
    · exact ht
  unfold ksk_end
  try dsimp only
  refine step _ ?_
  by_cases hl2 : vs.toArray.size < 2
  · rw [if_pos hl2, if_pos hl2]
    refine wpAny_bind (wpAny_pure ?_)
    rw [StateT.run_pure]
    refine wpAny_bind (wpAny_pure ?_)
    try dsimp only
    refine keyX_tail (st := SortSt.mk' general' (if b = true then (keys.zip vs.toArray).reverse else keys.zip vs.toArray) #[] 7 none) nk na hka (by rw [hsz]; exact hZ) (by rw [hol]; exact hZ) rfl (fin _ (Array.Perm.refl _) ?_ (Stable.refl _)) h
    intro i j hij hj
    rw [hss] at hj
    rw [List.size_toArray] at hl2
    have : i = j := by omega
    subst this
    exact KeyOrd.kle_refl _
  · rw [if_neg hl2, if_neg hl2]
    rw [List.size_toArray] at hl2
    refine wpAny_bind (h2 (by omega) _ ?_)
    refine wpAny_bind (wpAny_mono (H.wpS_sortRunsSt (κ := κ) (kd := kd) (a₀ := if b = true then (keys.zip vs.toArray).reverse else keys.zip vs.toArray)
      (st := SortSt.mk' kd (if b = true then (keys.zip vs.toArray).reverse else keys.zip vs.toArray) #[] 7 none)
      (Q := fun _ st' => failedOf st' = none ∧ (if b = true then ((arrOf st').map (·.2)).reverse else (arrOf st').map (·.2)) = (sortVals κ b keys.toList vs).toArray)
      h1 (hK.perm hstart) ⟨Array.Perm.refl _, rfl, rfl⟩ rfl (Stable.refl _) (by rw [hss]; omega) fun st' a1 a2 a3 a4 => ⟨a2, fin st' a1 a3 a4⟩) ?_ fun _ _ e => e)
    rintro ⟨⟨⟩, st'⟩ s' ⟨rfl, hf, ho⟩
    try dsimp only at ho ⊢
    exact keyX_tail nk na hka (by rw [hsz]; exact hZ) (by rw [hol]; exact hZ) hf ho h
end
/-- the keys, one by one -/
def tKeys (tk : V → St → Hp → VK → Prop) : List V → List V → St → Hp → (List V → Hp → Prop) → Prop
  | [], ks, _, H, R => R ks H
  | x :: xs, ks, σ, H, R => tk x σ H fun k H' => tKeys tk xs (ks ++ [k]) σ H' R
theorem vals_snoc {xs : List V} {us : List Value} {x : V} {u : Value} (h : Vals xs us) (r : RelV x u) : Vals (xs ++ [x]) (us ++ [u]) := by
  induction h with
  | nil => exact .cons r .nil
  | cons r' _ ih => exact .cons r' ih
theorem vals_drop {xs : List V} {us : List Value} (h : Vals xs us) : ∀ {j : Nat} {u : Value}, us[j]? = some u → ∃ v, xs.drop j = v :: xs.drop (j + 1) ∧ RelV v u := by
  induction h with
  | nil => intro j u e; simp at e
  | cons r t ih =>
    intro j u e
    cases j with
    | zero => simp at e; subst e; exact ⟨_, rfl, r⟩
    | succ j => simpa using ih (j := j) (by simpa using e)
section
variable {X : Cx} {pins : List (Addr × Obj)} {σ : L2.St} {H : Hp} {s : Shared}
def rKeyed (K : PySem.W.Frag) (xs : List V) (Q : VK) (ks : List V) (H : Hp) : Prop := ∃ ds, ds.length = xs.length ∧ DpAll K H ks ds ∧ AllAlike ds ∧ LMS.SortableX ds ∧ (∀ d ∈ ds, d.depth ≤ 60) ∧ ∀ p, H p = none → Q (.ref p) (upd H p (.lst (srtV xs ds)))
theorem sortk_rest {A : Around} {a kS f P c' : Addr} {pos : Pos} {fo : Obj} {us : List Value} {xs : List V} {e1 : Nat} {tk : V → St → Hp → VK → Prop} {Q : VK} {Pf : PySem.Fin → Shared → Prop} {E : Value → Shared → Prop} (hu : A.units + 60 < cLine)
    (I : Inv X pins σ H s) (rv : Vals xs us) (hL : us.length ≤ sizeLine) (fa : Fsh X pins a) (fk : Fsh X pins kS) (ff : Fsh X pins f) (hka : kS ≠ a) (hkf : kS ≠ f) (hfd : ∀ v, fo.data ≠ .cell v)
    (ha : s.heap.get? a = some (seqObj "list" #[] e1)) (hk : s.heap.get? kS = some (seqObj "list" #[] 0)) (hf : s.heap.get? f = some fo) (na : H a = none) (nk : H kS = none) (nf : H f = none) (tp : TabP H P pos c')
    (turn : ∀ (s : Shared) (H : Hp) (pins : List (Addr × Obj)) (v : V) (u : Value) (Q : VK), Inv X pins σ H s → s.heap.get? f = some fo → TabP H P pos c' → RelV v u → tk v σ H Q → wpAny (model X.prog X.w) A (call (.ref f) [u]) (EPU X pins σ H Q) (fun _ _ => False) s)
    (h : tKeys tk xs [] σ H (rKeyed X.K xs Q)) (fin : ∀ s', EP X pins σ Q (.ref a) s' → Pf (.done (.ret .none)) s') :
    wpAny (model X.prog X.w) A (ksk_rest a (.ref f) false us.toArray e1 (.ref kS)) Pf E s := by
  unfold ksk_rest
  refine wpAny_bind (wpAny_rule ?_)
  first
    | rw [List.forIn_toArray]
    | (rw [← Array.forIn_toList]; simp only [List.toList_toArray])
    | rw [← Array.forIn_toList]
  refine wpAny_bind (ksk_fold (fun i s' => ∃ (Hi : Hp) (kA : Array Value) (e : Nat) (ks : List V), Inv X pins σ Hi s' ∧ s'.heap.get? kS = some (seqObj "list" kA e) ∧ s'.heap.get? a = some (seqObj "list" #[] e1) ∧ s'.heap.get? f = some fo ∧ Hi a = none ∧ Hi kS = none ∧ Hi f = none ∧
      TabP Hi P pos c' ∧ Vals ks kA.toList ∧ ks.length = i ∧ tKeys tk (xs.drop i) ks σ Hi (rKeyed X.K xs Q)) us 0 s
    ⟨H, #[], 0, [], I, hk, ha, hf, na, nk, nf, tp, .nil, rfl, h⟩ ?step ?done)
  case step =>
    rintro j x s' hx ⟨Hi, kA, e, ks, I', hk', ha', hf', na', nk', nf', tp', rk, hl, ht⟩
    simp only [Nat.zero_add] at hl ht ⊢
    have hj : j < us.length := (List.getElem?_eq_some_iff.mp hx).1
    obtain ⟨v, ev, rx⟩ := vals_drop rv hx
    rw [ev] at ht
    have hz : kA.size ≤ us.length := by
      have h1 : ks.length = kA.size := by have := rk.length; rw [this]; simp
      omega
    have Ip : Inv X (pins ++ [(kS, seqObj "list" kA e), (a, seqObj "list" #[] e1), (f, fo)]) σ Hi s' := I'.pins_of fun p hp => by
      rcases List.mem_append.mp hp with hp | hp
      · exact I'.pin p (List.mem_append_right _ hp)
      · rcases List.mem_cons.mp hp with rfl | hp
        · exact ⟨hk', nk', fk.nl, fk.nf, fun v z => by cases z⟩
        · rcases List.mem_cons.mp hp with rfl | hp
          · exact ⟨ha', na', fa.nl, fa.nf, fun v z => by cases z⟩
          · rw [List.mem_singleton.mp hp]
            exact ⟨hf', nf', ff.nl, ff.nf, hfd⟩
    refine wpAny_bind (wpAny_attempt (wpAny_mono (turn s' Hi _ v x _ Ip hf' tp' rx ht) (fun w s'' he => ?_) fun _ _ hF => hF.elim))
    obtain ⟨kv, H2, I2, rw2, gr, ht2⟩ := he
    try dsimp only
    have pk := I2.pin (kS, seqObj "list" kA e) (List.mem_append_right _ (List.mem_append_right _ (.head _)))
    have pa := I2.pin (a, seqObj "list" #[] e1) (List.mem_append_right _ (List.mem_append_right _ (.tail _ (.head _))))
    have pf := I2.pin (f, fo) (List.mem_append_right _ (List.mem_append_right _ (.tail _ (.tail _ (.head _)))))
    have I3 : Inv X pins σ H2 s'' := I2.unpinned
    have s1 := Heap.SameBut.update s''.heap kS (Obj.mapSeq (·.push w))
    obtain ⟨c2, hc2⟩ : ∃ c2, (s''.heap.update kS (Obj.mapSeq (·.push w))).get? kS = some (seqObj "list" (kA.push w) c2) := ⟨_, get?_update_seq pk.1 (·.push w)⟩
    refine wpAny_bind (listUpdate_at pk.1 rfl ?_ (Nat.le_trans hz hL) (Nat.le_trans (Nat.le_of_eq (Array.size_push ..)) (Nat.succ_le_succ (Nat.le_trans hz hL))))
    refine wpAny_pure ⟨rfl, H2, kA.push w, c2, ks ++ [kv], Inv.turn (t' := s''.toks) I3 fk pk.2.1 (fun c o hc q => (s1.2 c hc).trans q), hc2, (s1.2 a hka.symm).trans pa.1, (s1.2 f hkf.symm).trans pf.1, pa.2.1, pk.2.1, pf.2.1, tp'.grows gr, ?_, by simp [hl], ht2⟩
    rw [show (kA.push w).toList = kA.toList ++ [w] by simp]
    exact vals_snoc rk rw2
  case done =>
    rintro s' ⟨Hi, kA, e, ks, I', hk', ha', hf', na', nk', nf', tp', rk, hl, ht⟩
    rw [Nat.zero_add] at hl ht
    rw [List.drop_of_length_le (by rw [rv.length]; exact Nat.le_refl _)] at ht
    obtain ⟨ds, hdl, hd, hal, hsk, hdp, q⟩ := ht
    obtain ⟨as, hr⟩ := Dp.readsAll I' ds ks kA.toList hd rk
    have er := each_reads hr
    have hsz : kA.size = us.length := by
      have h1 : ks.length = kA.size := by have := rk.length; rw [this]; simp
      omega
    try dsimp only
    refine wpAny_bind (listItems_at hk' rfl ?_)
    refine keyX_end (κ := dataKind s'.heap ds) hk' ha' hka (LMS.sortsX er hal hsk fun d hd => by have := hdp d hd; omega) hsz hL ?_
    have s1 := Heap.SameBut.update s'.heap kS (Obj.mapSeq fun _ => (#[] : Array Value))
    have na1 : (s'.heap.update kS (Obj.mapSeq fun _ => (#[] : Array Value))).get? a = some (seqObj "list" #[] e1) := (s1.2 a hka.symm).trans ha'
    have I3 : Inv X pins σ Hi { s' with heap := s'.heap.update kS (Obj.mapSeq fun _ => (#[] : Array Value)) } := Inv.turn (t' := s'.toks) I' fk nk' (fun c o hc q => (s1.2 c hc).trans q)
    have s2 := Heap.SameBut.update (s'.heap.update kS (Obj.mapSeq fun _ => (#[] : Array Value))) a (Obj.mapSeq fun _ => (sortVals (dataKind s'.heap ds) false kA.toList us).toArray)
    obtain ⟨c2, hc2⟩ : ∃ c2, (endHeap s'.heap kS a (sortVals (dataKind s'.heap ds) false kA.toList us)).get? a = some (seqObj "list" (sortVals (dataKind s'.heap ds) false kA.toList us).toArray c2) :=
      ⟨_, get?_update_seq na1 fun _ => _⟩
    refine fin _ ⟨.ref a, upd Hi a (.lst (srtV xs ds)), Inv.turnNew (s := { s' with heap := s'.heap.update kS (Obj.mapSeq fun _ => (#[] : Array Value)) }) (t' := s'.toks) I3 fa na' (fun c o hc q => (s2.2 c hc).trans q) ⟨?_, _, c2, vals_srt rv hal er (by rw [Array.length_toList]; exact hsz), hc2⟩, rfl, q a na'⟩
    rw [srtV_len hdl.symm, rv.length]; exact hL
theorem sortk_tree {A : Around} {a f P c' : Addr} {pos : Pos} {fo : Obj} {us : List Value} {xs : List V} {tk : V → St → Hp → VK → Prop} {Q : VK} {Pf : PySem.Fin → Shared → Prop} {E : Value → Shared → Prop} (hu : A.units + 60 < cLine)
    (I : Inv X pins σ H s) (rv : Vals xs us) (hL : us.length ≤ sizeLine) (fa : Fsh X pins a) (ff : Fsh X pins f) (hfd : ∀ v, fo.data ≠ .cell v) (haf : a ≠ f)
    (ha : s.heap.get? a = some (seqObj "list" us.toArray 0)) (hf : s.heap.get? f = some fo) (na : H a = none) (nf : H f = none) (tp : TabP H P pos c')
    (turn : ∀ (s : Shared) (H : Hp) (pins : List (Addr × Obj)) (v : V) (u : Value) (Q : VK), Inv X pins σ H s → s.heap.get? f = some fo → TabP H P pos c' → RelV v u → tk v σ H Q → wpAny (model X.prog X.w) A (call (.ref f) [u]) (EPU X pins σ H Q) (fun _ _ => False) s)
    (h : tKeys tk xs [] σ H (rKeyed X.K xs Q)) (fin : ∀ s', EP X pins σ Q (.ref a) s' → Pf (.done (.ret .none)) s') :
    wpAny (model X.prog X.w) A (ksk_tree a (.ref f) false) Pf E s := by
  have hlt : a < s.heap.objs.size := Heap.lt_size ha
  obtain ⟨e1, ho1⟩ : ∃ e1, (s.heap.update a (Obj.mapSeq fun _ => (#[] : Array Value))).get? a = some (seqObj "list" #[] e1) := ⟨_, get?_update_seq ha fun _ => #[]⟩
  have hkS : ((s.heap.update a (Obj.mapSeq fun _ => (#[] : Array Value))).push (seqObj "tuple" us.toArray 0)).objs.size = s.heap.objs.size + 1 := by rw [size_push', Heap.size_update]
  unfold ksk_tree
  refine wpAny_bind (listItems_at ha rfl ?_)
  refine wpAny_bind (listUpdate_at ha rfl ?_ (by rw [List.size_toArray]; exact hL) (Nat.zero_le _))
  refine wpAny_bind (seqEpoch_at ho1 rfl ?_)
  refine wpAny_bind (wpAny_newTuple ?_ (by show us.length ≤ _; exact hL))
  refine wpAny_bind (wpAny_newList ?_ (Nat.zero_le _))
  refine wpAny_holding ?_
  have old : ∀ b o, b ≠ a → s.heap.get? b = some o → (((s.heap.update a (Obj.mapSeq fun _ => (#[] : Array Value))).push (seqObj "tuple" us.toArray 0)).push (seqObj "list" #[] 0)).get? b = some o := fun b o hb q => PySem.W.sortingHeap_old (vs := us) hb q
  have I1 : Inv X pins σ H { s with heap := ((s.heap.update a (Obj.mapSeq fun _ => (#[] : Array Value))).push (seqObj "tuple" us.toArray 0)).push (seqObj "list" #[] 0) } := Inv.turn (t' := s.toks) I fa na old
  have fk : Fsh X pins (s.heap.objs.size + 1) := Inv.fsh I (Nat.le_succ _)
  have nkS : H (s.heap.objs.size + 1) = none := I.hok.fresh (Nat.le_succ _)
  have ne1 : s.heap.objs.size + 1 ≠ a := Nat.ne_of_gt (Nat.lt_succ_of_lt hlt)
  have ne2 : s.heap.objs.size + 1 ≠ f := Nat.ne_of_gt (Nat.lt_succ_of_lt (Heap.lt_size hf))
  have g1 := Heap.get?_push_size ((s.heap.update a (Obj.mapSeq fun _ => (#[] : Array Value))).push (seqObj "tuple" us.toArray 0)) (o := seqObj "list" #[] 0) rfl
  rw [hkS] at g1
  show wpAny (model X.prog X.w) A (ksk_rest a (.ref f) false us.toArray e1 (.ref ((s.heap.update a (Obj.mapSeq fun _ => (#[] : Array Value))).push (seqObj "tuple" us.toArray 0)).objs.size)) Pf E _
  rw [hkS]
  exact sortk_rest hu I1 rv hL fa fk ff ne1 ne2 hfd (Heap.get?_push_of_some _ (Heap.get?_push_of_some _ ho1)) g1 (old f _ haf.symm hf) na nkS nf tp turn h fin
end
end LM

/-! sorted(xs, key=lambda x: body), on states -/
namespace LM
open PyProof.Rows hiding St frameOf passOn
open PySem PySem.Spec L2
open PySem.W (TotalLe sameRank EachIs alike dataLt dataLe AllAlike dataKind SortsAt sortVals keyToks)
variable [TabNames]
theorem Src.ext {K : PySem.W.Frag} {H H1 : Hp} {r : Addr} {xs : List V} (h : Src K H r xs) (e : LamX.ExtN H H1) : Src K H1 r xs := by
  rcases h with ((h | ⟨o, h⟩) | h) | ⟨kvs, h | ⟨ob, h⟩, rfl⟩
  · exact .inl (.inl (.inl (e _ _ h fun ps z => by cases z)))
  · exact .inl (.inl (.inr ⟨o, e _ _ h fun ps z => by cases z⟩))
  · exact .inl (.inr h)
  · exact .inr ⟨kvs, .inl (e _ _ h fun ps z => by cases z), rfl⟩
  · exact .inr ⟨kvs, .inr ⟨ob, e _ _ h fun ps z => by cases z⟩, rfl⟩
def tSortK (K : PySem.W.Frag) (T : List (Addr × Str)) (te : TE) (tk : V → St → Hp → VK → Prop) : TE := fun σ H Q => te σ H fun v H1 => ∃ r xs, v = .ref r ∧ Src K H1 r xs ∧ LamX.Tabs T H1 ∧
  ∀ H2, LamX.ExtN H1 H2 → LamX.Tabs T H2 → tKeys (fun v σ H Q => LamX.Tabs T H ∧ tk v σ H Q) xs [] σ H2 (rKeyed K xs Q)
theorem pe_sortk {X : Cx} {k : Nat} {T : List (Addr × Str)} {te tb : TE} {a : Str} {c P : Addr} {params : Arguments} {e body : Expr} {scope : Scope} {p kpos lpos pos : Pos} (hc : X.calm = true) (hm : X.mg "sorted" = none) (ha : PE X e te)
    (TB : LamX.TabB X.base X.mg c P) (hmT : (P, X.env.qual ++ "<lambda>") ∈ T) (hu : ∀ p ∈ T, p.1 = P → p.2 = X.env.qual ++ "<lambda>") (hr : Room (k + 3) X.A)
    (hbody : ∀ (A : Around) (outer : List Env) (s : Shared) (H : Hp) (f c' : Addr), Room k (A.deeper (LamX.lamEnv X scope s.heap.objs.size f c')) → PE (lamCx1 X A outer s H (fun _ _ _ => False) scope f c' a) body tb)
    (hcode : X.env.code = .ref c) (L : LamS1 X.env.scope scope a) (hdef : defaultsOf params X.env = ([], []))
    (hbind : ∀ (q : Str) (cl : List (Str × Addr)) (pm cv ctv u : Value), bindArgs (PySem.W.kla_fn "<lambda>" q params body scope cl pm cv ctv) ⟨[u], []⟩ = pure [(a, u)])
    (hg : Gl X "sorted") (hs : starEach [e] X.env = (false, eval e X.env) :: starEach [] X.env) :
    PE X (.Call (.Name "sorted" p) [e] [⟨some "key", .Lambda params body scope lpos, kpos⟩] pos) (tSortK X.K T te fun v σ H Q => tb (blkL a X.N σ ++ [some v]) H Q) := by
  refine ⟨fun pins s σ H Q I h => ?_⟩
  refine wpAny_Call_Name_kw (ld_blt I hg hm (show bootBuiltins "sorted" = some (.builtin "sorted") by decide +kernel) ?_ (by decide) (by decide))
  refine PyProof.Rows.callWith_kw (thn ((pa_cons ha pa_nil hs).run pos pins s σ H (fun vs H1 => match vs with
    | [v] => ∃ r xs, v = .ref r ∧ Src X.K H1 r xs ∧ LamX.Tabs T H1 ∧ ∀ H2, LamX.ExtN H1 H2 → LamX.Tabs T H2 → tKeys (fun v σ H Q => LamX.Tabs T H ∧ tb (blkL a X.N σ ++ [some v]) H Q) xs [] σ H2 (rKeyed X.K xs Q)
    | _ => False) I h) fun us s1 ⟨vs, H1, I1, r1, q1⟩ => ?_) (by rw [hs]; rfl) (by rw [hs]; rfl) rfl rfl
  match vs, r1, q1 with
  | [v], r1, ⟨r, xs, ev, hsrc, hT, q⟩ =>
  subst ev
  obtain rfl := Vals.ref1 r1
  show wpAny _ _ (evalAll ((do let v ← eval (.Lambda params body scope lpos) X.env; standAt pos; pure v) :: [])) _ _ s1
  refine wpAny_evalAll_cons (wpAny_bind (lam_make3 I1 TB hcode hmT hu hT hdef (L.has I1.ok) fun f c' pm ctv H2 s2 I2 eN T2 tp hge hf hfn => ?_))
  refine wpAny_bind (wpAny_standAt (wpAny_pure ?_))
  refine wpAny_evalAll_nil ?_
  show wpAny (model X.prog X.w) X.A (call (.builtin "sorted") [.ref r] [(Str.ofString "key", .ref f)]) (EP X pins σ Q) X.xe s2
  refine sorted_of_any (P := fun us => Vals xs us) (fun E' Q' hq => src_col I2 (I2.ok.hd hc) (hsrc.ext eN) hq) (ksk_s1 _ _) (fun _ => ksk_l1 _ _) fun h' tkk us E' kp rv hL => ?_
  rw [ksk_t1]
  have I3 : L2.Inv X pins σ H2 { s2 with heap := h', toks := tkk } := I2.kept kp
  have I4 : L2.Inv X pins σ H2 { s2 with heap := h'.push (seqObj "list" us.toArray 0), toks := tkk } := I2.kept fun b o e => Heap.get?_push_of_some _ (kp b o e)
  have r2 : Room (k + 1) X.A.in1.in1 := (show Room ((k + 1) + 2) X.A from hr).in1.in1
  refine sortk_tree (by have := r2.un; omega) I4 rv hL (Inv.fsh I3 (Nat.le_refl _)) (Inv.fsh I1 hge) (fun v z => by cases z) (Nat.ne_of_gt (Heap.lt_size (kp _ _ hf))) (Heap.get?_push_size _ rfl) (Heap.get?_push_of_some _ (kp _ _ hf)) (I3.hok.fresh (Nat.le_refl _)) hfn tp
    (fun s H pins v u Q I hf tp rv ⟨T', ht⟩ => ?_) (q H2 eN T2) fun s' h => ⟨rfl, h⟩
  exact lam_call1 (k := k) I L I.env0.in1.in1 r2 hf (tp.code (T' _ hmT)) (fun u => hbind _ _ _ _ _ u) (fun A outer s H hr => hbody A outer s H f c' hr) rv ht
/-! ## on states -/
theorem blkL_keep {α : Type} (a : Str) : ∀ (N : List Str) (σ : List (Option α)) (i : Nat), N[i]? ≠ some a → (blkL a N σ)[i]? = σ[i]?
  | n :: N, x :: σ, 0, h => by
    simp only [blkL, List.getElem?_cons_zero] at h ⊢
    rw [if_neg (fun z => h (congrArg some z))]
  | n :: N, x :: σ, i + 1, h => by
    simp only [blkL, List.getElem?_cons_succ] at h ⊢
    exact blkL_keep a N σ i h
  | [], σ, i, h => by cases σ <;> rfl
  | n :: N, [], i, h => rfl
section
variable {K : PySem.W.Frag} {U F H : Hp} {ρ : List Addr} {S : SS} {σ : St}
theorem Rep.lamIn (R : Rep K U F ρ S σ H) {x : AV} {v : V} (h : Emb K F ρ x v) (a : Str) (N : List Str) : Rep K U F ρ ⟨blkL a N S.sl ++ [some (.val x)], S.hp⟩ (blkL a N σ ++ [some v]) H := by
  have hl := R.len
  have cut : ∀ (i : Nat) (w : SV), (blkL a N S.sl ++ [some (.val x)])[i]? = some (some w) → (i < S.sl.length ∧ S.sl[i]? = some (some w) ∧ N[i]? ≠ some a ∧ (blkL a N σ ++ [some v])[i]? = σ[i]?) ∨ (i = S.sl.length ∧ w = .val x) := fun i w e => by
    by_cases hi : i < S.sl.length
    · rw [List.getElem?_append_left (by rw [blkL_len]; exact hi)] at e
      obtain ⟨e1, e2⟩ := blkL_get _ _ _ _ _ e
      exact .inl ⟨hi, e1, e2, by rw [List.getElem?_append_left (by rw [blkL_len, hl]; exact hi), blkL_keep _ _ _ _ e2]⟩
    · rw [List.getElem?_append_right (by rw [blkL_len]; omega), blkL_len] at e
      have hi0 : i - S.sl.length = 0 := by
        have := (List.getElem?_eq_some_iff.mp e).1
        simp at this
        omega
      rw [hi0] at e
      simp at e
      exact .inr ⟨by omega, e.symm⟩
  refine ⟨by simp [blkL_len, hl], R.fro, R.unt, R.rln, R.rnd, R.rF, R.FU, R.hp, fun i y e => ?_, fun i o e => ?_, R.tab⟩
  · rcases cut i _ e with ⟨_, e1, e2, e3⟩ | ⟨rfl, e1⟩
    · obtain ⟨w, f1, f2⟩ := R.val i y e1
      exact ⟨w, by rw [e3]; exact f1, f2⟩
    · cases e1
      refine ⟨v, ?_, h⟩
      rw [List.getElem?_append_right (by rw [blkL_len]; omega), blkL_len, hl]
      simp
  · rcases cut i _ e with ⟨_, e1, e2, e3⟩ | ⟨_, e1⟩
    · obtain ⟨p, f1, f2, f3, f4, f5, f6⟩ := R.own i o e1
      refine ⟨p, by rw [e3]; exact f1, f2, f3, f4, f5, fun j o' g1 g2 => ?_⟩
      rcases cut j _ g1 with ⟨_, h1, h2, h3⟩ | ⟨_, h1⟩
      · exact f6 j o' h1 (by rw [← h3]; exact g2)
      · cases h1
    · cases e1
theorem Rep.lamOut {S' : SS} {v : V} {a : Str} {N : List Str} (R : Rep K U F ρ S' (blkL a N σ ++ [some v]) H) {n : Nat} (hl : σ.length = n) : Rep K U F ρ ⟨S'.sl.take n, S'.hp⟩ σ H := by
  have hl' := R.len
  rw [List.length_append, blkL_len, hl] at hl'
  have cut : ∀ (i : Nat) (w : SV), (S'.sl.take n)[i]? = some (some w) → S'.sl[i]? = some (some w) ∧ i < n := fun i w e => by
    have hi : i < n := by
      have := (List.getElem?_eq_some_iff.mp e).1
      rw [List.length_take] at this
      omega
    rw [List.getElem?_take_of_lt hi] at e
    exact ⟨e, hi⟩
  have back : ∀ (i : Nat) (w : V), i < n → (blkL a N σ ++ [some v])[i]? = some (some w) → σ[i]? = some (some w) := fun i w hi e => by
    rw [List.getElem?_append_left (by rw [blkL_len, hl]; exact hi)] at e
    exact (blkL_get _ _ _ _ _ e).1
  refine ⟨by simp only [List.length_take]; simp at hl'; omega, R.fro, R.unt, R.rln, R.rnd, R.rF, R.FU, R.hp, fun i y e => ?_, fun i o e => ?_, R.tab⟩
  · obtain ⟨e1, hi⟩ := cut i _ e
    obtain ⟨w, f1, f2⟩ := R.val i y e1
    exact ⟨w, back i w hi f1, f2⟩
  · obtain ⟨e1, hi⟩ := cut i _ e
    obtain ⟨p, f1, f2, f3, f4, f5, f6⟩ := R.own i o e1
    refine ⟨p, back i _ hi f1, f2, f3, f4, f5, fun j o' g1 g2 => ?_⟩
    obtain ⟨h1, hj⟩ := cut j _ g1
    obtain ⟨q, k1, _⟩ := R.own j o' h1
    have k2 := back j _ hj k1
    rw [g2] at k2
    cases k2
    exact f6 j o' h1 k1
end
/-- a lambda with one parameter, at one value -/
def keyM (N : List Str) (a : Str) (g : M AV) (x : AV) : M AV := fun s => match g ⟨blkL a N s.sl ++ [some (.val x)], s.hp⟩ with
  | .ok k s' => .ok k ⟨s'.sl.take s.sl.length, s'.hp⟩
  | _ => .stuck
def keysM (g : AV → M AV) : List AV → List AV → M (List AV)
  | [], acc => fun s => .ok acc s
  | x :: xs, acc => fun s => bindR (g x s) fun k s' => keysM g xs (acc ++ [k]) s'
def srtkM (N : List Str) (a : Str) (g : M AV) (f : M PV) : M AO := bindM f fun p s => match srcP p s with
  | some xs => bindR (keysM (keyM N a g) xs [] s) fun ks s' => if okSrt ks then .ok (.lst (srtA xs ks)) s' else .stuck
  | none => .stuck
theorem embL_snoc {K : PySem.W.Frag} {F : Hp} {ρ : List Addr} {x : AV} {v : V} : ∀ {as : List AV} {vs : List V}, EmbL K F ρ as vs → Emb K F ρ x v → EmbL K F ρ (as ++ [x]) (vs ++ [v])
  | [], _, h, e => by simp only [EmbL] at h; subst h; simp only [List.nil_append, EmbL]; exact ⟨v, [], rfl, e, rfl⟩
  | a :: as, _, h, e => by
    simp only [EmbL] at h
    obtain ⟨w, r, rfl, h1, h2⟩ := h
    simp only [List.cons_append, EmbL]
    exact ⟨w, _, rfl, h1, embL_snoc h2 e⟩
theorem keys_ok {K : PySem.W.Frag} {U : Hp} {σ : St} {W : WX} {γ δ : Type} {R3 : RR γ δ} {Q : δ → Hp → Prop} {N : List Str} {a : Str} {g : M AV} {kk : List AV → M γ} {R' : List V → Hp → Prop} : ∀ {as : List AV} {vs : List V} {acc : List AV} {accV : List V} {F H : Hp} {ρ : List Addr} {S : SS},
    Rep K U F ρ S σ H → EmbL K F ρ as vs → EmbL K F ρ acc accV → acc.length = accV.length → Post K U F ρ σ R3 W Q (bindR (keysM (keyM N a g) as acc S) kk) →
    (∀ F1 ρ1 S1 H1 ks kvs, Same F F1 → ρ <+: ρ1 → Rep K U F1 ρ1 S1 σ H1 → EmbL K F1 ρ1 ks kvs → ks.length = acc.length + as.length → Post K U F1 ρ1 σ R3 W Q (kk ks S1) → R' kvs H1) →
    tKeys (fun v σ H Q => LamX.Tabs (TabT K) H ∧ tG K (fun _ _ _ _ => False) (RE K) g (blkL a N σ ++ [some v]) H Q) vs accV σ H R'
  | [], vs, acc, accV, F, H, ρ, S, R, h, ha, hl, p, fin => by
    simp only [EmbL] at h
    subst h
    exact fin F ρ S H acc accV (Same.refl _) (List.prefix_refl _) R ha (by simp) p
  | x :: as, vs, acc, accV, F, H, ρ, S, R, h, ha, hl, p, fin => by
    simp only [EmbL] at h
    obtain ⟨v, r, rfl, h1, h2⟩ := h
    refine ⟨tabs_of R.tab.tb, U, F, ρ, _, R.lamIn h1 a N, ?_⟩
    simp only [keysM] at p
    unfold keyM at p
    cases z : g ⟨blkL a N S.sl ++ [some (.val x)], S.hp⟩ with
    | stuck => rw [z] at p; exact p.elim
    | exn c S' => rw [z] at p; exact p.elim
    | ok k S' =>
      rw [z] at p
      intro F' ρ' H' b sm pr R2 e
      refine keys_ok (R2.lamOut R.len) (h2.mono sm pr) (embL_snoc (ha.mono sm pr) e) (by simp [hl]) (Post.up sm pr p) fun F1 ρ1 S1 H1 ks kvs s1 p1 r1 e1 el q => fin F1 ρ1 S1 H1 ks kvs (sm.trans s1) (pr.trans p1) r1 e1 (by simp at el ⊢; omega) q
theorem pn_srtk {X : Cx} {k : Nat} {g : M AV} {f : M PV} (a : Str) {params : Arguments} {e body : Expr} {scope : Scope} {p kpos lpos pos : Pos} (d : He.Defn) (hc : X.calm = true) (hm : X.mg "sorted" = none) (ha : PPm X e f)
    (TB : LamX.TabB X.base X.mg (He.cT X.K d).1 (He.cT X.K d).2) (hmT : (d, X.env.qual ++ "<lambda>") ∈ TabNames.names) (nd : tabNd X.K = true) (hr : Room (k + 3) X.A)
    (hbody : ∀ (A : Around) (outer : List Env) (s : Shared) (H : Hp) (f c' : Addr), Room k (A.deeper (LamX.lamEnv X scope s.heap.objs.size f c')) → PEm (lamCx1 X A outer s H (fun _ _ _ => False) scope f c' a) body g)
    (hcode : X.env.code = .ref (He.cT X.K d).1 := by rfl) (L : LamS1 X.env.scope scope a := by exact lamS1_by (by kernel_rfl)) (hdef : defaultsOf params X.env = ([], []) := by rfl)
    (hbind : ∀ (q : Str) (cl : List (Str × Addr)) (pm cv ctv u : Value), bindArgs (PySem.W.kla_fn "<lambda>" q params body scope cl pm cv ctv) ⟨[u], []⟩ = pure [(a, u)] := by intro _ _ _ _ _ _; rfl)
    (hg : Gl X "sorted" := by rfl) (hs : starEach [e] X.env = (false, eval e X.env) :: starEach [] X.env := by rfl) :
    PNm X (.Call (.Name "sorted" p) [e] [⟨some "key", .Lambda params body scope lpos, kpos⟩] pos) (srtkM X.N a g f) := fun W tk => by
  refine PE.weak (pe_sortk (T := TabT X.K) (tb := tG X.K (fun _ _ _ _ => False) (RE X.K) g) hc hm (ha W tk) TB (List.mem_map.mpr ⟨_, hmT, rfl⟩) (tab_uniq nd hmT) hr
    (fun A outer s H f c' hr' => hbody A outer s H f c' hr' _ (takes_of (E := fun _ _ _ => False) rfl rfl rfl rfl)) hcode L hdef hbind hg hs) fun σ H Q ⟨U, F, ρ, S, R, p⟩ => ?_
  refine ⟨U, F, ρ, S, R, Post.seq p fun F1 ρ1 S1 H1 a1 b1 s1 q1 r1 e1 p1 => ?_⟩
  cases z : srcP a1 S1 with
  | none => rw [z] at p1; exact p1.elim
  | some as =>
    rw [z] at p1
    obtain ⟨r, vs, rfl, hsrc, hemb⟩ := srcP_ok r1 e1 z
    refine ⟨r, vs, rfl, hsrc, tabs_of r1.tab.tb, fun H2 eN T2 => ?_⟩
    refine keys_ok (r1.ext eN (of_tabs T2)) hemb (by simp [EmbL]) rfl p1 fun F3 ρ3 S3 H3 ks kvs s3 q3 r3 e3 el p3 => ?_

    split at p3
    · rename_i ho
      obtain ⟨o1, o2, o3, o4⟩ := okSrt_ok ho
      have hl : as.length = ks.length := by rw [el]; simp
      refine ⟨datL ks, by rw [datL_map, List.length_map, ← hl]; exact hemb.length.symm, dp_ofL r3 60 ks kvs o1 e3, o2, o3, o4, fun p hp => ?_⟩
      obtain ⟨R2, Lo⟩ := r3.newLoose (u := .lst (srtV vs (datL ks))) (o := .lst (srtA as ks)) hp ⟨_, upd_same, emb_srt (hemb.mono s3 q3) hl⟩
      exact p3 F3 ρ3 _ (.ref p) (Same.refl _) (List.prefix_refl _) R2 ⟨p, rfl, Lo⟩
    · exact p3.elim
end LM

/-! min, max of two ints; dict(pairs) -/
namespace LM
open PyProof.Rows hiding St frameOf passOn
open PySem PySem.Spec L2
def min2A (s : SS) : List PV → Option AV
  | [a, b] => match avP a s, avP b s with
    | some (.int i), some (.int j) => some (.int (if j < i then j else i))
    | _, _ => none
  | _ => none
def max2A (s : SS) : List PV → Option AV
  | [a, b] => match avP a s, avP b s with
    | some (.int i), some (.int j) => some (.int (if j > i then j else i))
    | _, _ => none
  | _ => none
/-- pairs of a plain key and a value -/
def prsA : List AV → Option (List (AV × AV))
  | [] => some []
  | .tup [k, v] :: r => match kOf k, prsA r with
    | some _, some ps => some ((k, v) :: ps)
    | _, _ => none
  | _ => none
def dicPA (s : SS) : List PV → Option AO
  | [a] => match coP a s with
    | .ob (.lst xs) => (match prsA xs with
      | some ps => some (.dic false (dMrg [] ps))
      | none => none)
    | _ => none
  | _ => none
variable [TabNames]
section
variable {X : Cx} {pos : Pos}
theorem gb_min2 : GoodB X min2A (fun xs H Q => ∃ i j, xs = [.int i, .int j] ∧ Q (.int (if j < i then j else i)) H) := by
  intro U F ρ S σ H as c vs Q R ea e q
  unfold min2A at e
  split at e
  · rename_i a b
    obtain ⟨v, w, rfl, h1, h2⟩ := embPL2 ea
    split at e
    · rename_i i j hc hd
      cases e
      exact ⟨i, j, by rw [emb_int (avP_ok R h1 hc), emb_int (avP_ok R h2 hd)], q F H _ (Same.refl _) R emb_int'⟩
    · cases e
  · cases e
theorem gb_max2 : GoodB X max2A (fun xs H Q => ∃ i j, xs = [.int i, .int j] ∧ Q (.int (if j > i then j else i)) H) := by
  intro U F ρ S σ H as c vs Q R ea e q
  unfold max2A at e
  split at e
  · rename_i a b
    obtain ⟨v, w, rfl, h1, h2⟩ := embPL2 ea
    split at e
    · rename_i i j hc hd
      cases e
      exact ⟨i, j, by rw [emb_int (avP_ok R h1 hc), emb_int (avP_ok R h2 hd)], q F H _ (Same.refl _) R emb_int'⟩
    · cases e
  · cases e
theorem pm_min2 {p : Pos} {a b : Expr} {f g : M PV} (hc : X.calm = true) (hm : X.mg "min" = none) (ha : PPm X a f) (hb : PPm X b g) (hgl : Gl X "min" := by rfl) (hs : starEach [a, b] X.env = (false, eval a X.env) :: starEach [b] X.env := by rfl) (hs2 : starEach [b] X.env = (false, eval b X.env) :: starEach [] X.env := by rfl) :
    PEm X (.Call (.Name "min" p) [a, b] [] pos) (cbM min2A (consM f (consM g nilM))) := pm_cB (call_min2 hc) gb_min2 hgl hm (by decide +kernel) (pap_cons ha (pap_cons hb pap_nil hs2) hs) (he := hs) (hpl := by rw [hs2]; rfl)
theorem pm_max2 {p : Pos} {a b : Expr} {f g : M PV} (hc : X.calm = true) (hm : X.mg "max" = none) (ha : PPm X a f) (hb : PPm X b g) (hgl : Gl X "max" := by rfl) (hs : starEach [a, b] X.env = (false, eval a X.env) :: starEach [b] X.env := by rfl) (hs2 : starEach [b] X.env = (false, eval b X.env) :: starEach [] X.env := by rfl) :
    PEm X (.Call (.Name "max" p) [a, b] [] pos) (cbM max2A (consM f (consM g nilM))) := pm_cB (call_max2 hc) gb_max2 hgl hm (by decide +kernel) (pap_cons ha (pap_cons hb pap_nil hs2) hs) (he := hs) (hpl := by rw [hs2]; rfl)
end
section
variable {K : PySem.W.Frag} {U F H : Hp} {ρ : List Addr} {S : SS} {σ : St}
theorem prs_ok (R : Rep K U F ρ S σ H) : ∀ {xs : List AV} {vs : List V} {ps : List (AV × AV)}, EmbL K F ρ xs vs → prsA xs = some ps →
    ∃ (qs : List Addr) (kv : List (Key × V)), vs = qs.map V.ref ∧ Paired (fun p kv => SqT K H p [kV kv.1, kv.2]) qs kv ∧ ∀ acc av, EmbK K F ρ acc av → EmbK K F ρ (dMrg acc ps) (mergeK av kv)
  | [], _, ps, h, e => by
    simp only [EmbL] at h; subst h
    simp only [prsA] at e; cases e
    exact ⟨[], [], rfl, .nil, fun acc av z => z⟩
  | x :: xs, _, ps, h, e => by
    simp only [EmbL] at h
    obtain ⟨v, r, rfl, h1, h2⟩ := h
    unfold prsA at e
    split at e
    · rename_i heq; cases heq
    · rename_i k w r' heq
      cases heq
      split at e
      · rename_i kk ps' hk hp
        cases e
        obtain ⟨qs, kv, rfl, e2, e3⟩ := prs_ok R h2 hp
        simp only [Emb] at h1
        obtain ⟨p, ws, rfl, f1, f2⟩ := h1
        simp only [EmbL] at f2
        obtain ⟨a, _, rfl, g1, b, _, rfl, g2, rfl⟩ := f2
        have := emb_kV hk g1
        subst this
        exact ⟨p :: qs, (kk, b) :: kv, rfl, .cons (SqT.of (R.tupF f1)) e2, fun acc av z => e3 _ _ (EmbK.put hk g2 z)⟩
      · cases e
    · cases e
end
theorem gb_dicP {X : Cx} : GoodBN X dicPA (fun xs H Q => ∃ (a : Addr) (ps : List Addr) (kvs : List (Key × V)), xs = [.ref a] ∧ SqL X.K H a (ps.map V.ref) ∧ Paired (fun p kv => SqT X.K H p [kV kv.1, kv.2]) ps kvs ∧ ∀ p, H p = none → Q (.ref p) (upd H p (.dK (mergeK [] kvs)))) := by
  intro U F ρ S σ H as c vs Q R ea e q
  unfold dicPA at e
  split at e
  · rename_i a
    obtain ⟨v, rfl, h⟩ := embPL1 ea
    have cc := coP_ok R h
    split at e
    · rename_i xs hc
      rw [hc] at cc
      obtain ⟨p, ws, rfl, h1, h2⟩ := cc
      split at e
      · rename_i ps hp
        cases e
        obtain ⟨qs, kv, rfl, e2, e3⟩ := prs_ok R h2 hp
        refine ⟨p, qs, kv, rfl, h1, e2, fun n hn => ?_⟩
        obtain ⟨R2, L⟩ := R.newLoose (u := .dK (mergeK [] kv)) (o := .dic false (dMrg [] ps)) hn (.inl ⟨rfl, _, upd_same, e3 [] [] (by simp [EmbK])⟩)
        exact q _ n R2 L
      · cases e
    · cases e
  · cases e
theorem pn_dictP {X : Cx} {pos p : Pos} {e : Expr} {f : M PV} (hc : X.calm = true) (hm : X.mg "dict" = none) (ha : PPm X e f) (hgl : Gl X "dict" := by rfl) (hs : starEach [e] X.env = (false, eval e X.env) :: starEach [] X.env := by rfl) : PNm X (.Call (.Name "dict" p) [e] [] pos) (cbM dicPA (consM f nilM)) :=
  pn_cT (call_dictP hc) gb_dicP hgl hm (by decide +kernel) (pap_cons ha pap_nil hs) (he := hs)
end LM

/-! d.setdefault(k, v), plain keys -/
namespace LM
open PyProof.Rows hiding St frameOf passOn
open PySem PySem.Spec L2
def setdM (f : M PV) (g h : M AV) : M AV := bindM (isDiM f) fun p => bindM g fun k => bindM h fun d s => match obP p s with
  | some (.dic false kvs) => if ((kOf k).isSome && decide (kvs.length < 16777216)) = true then (match dGet false kvs k with
    | some w => .ok w s
    | none => .ok d (wrP p (.dic false (dPut false kvs k d)) s)) else .stuck
  | _ => .stuck
variable [TabNames]
theorem pm_setd {X : Cx} {o e d : Expr} {apos cpos : Pos} {f : M PV} {g h : M AV} (ho : PPm X o f) (he : PEm X e g) (hd : PEm X d h) (m : M2 X o "setdefault" apos e d cpos := by exact ⟨rfl, rfl, rfl, rfl⟩) : PEm X (.Call (.Attribute o "setdefault" apos) [e, d] [] cpos) (setdM f g h) := fun W tk =>
  PE.weak (pe_dsetd (ho W tk) (he W tk) (hd W tk) m) fun σ H Q ⟨U, F, ρ, S, R, p⟩ => ⟨U, F, ρ, S, R, by
    have p : Post X.K U F ρ σ (RE X.K U σ) W Q (bindR (bindR (f S) fun p s => match coP p s with | .ob (.dic _ _) => .ok p s | _ => .stuck) fun p => bindM g fun k => bindM h fun d s => match obP p s with
      | some (.dic false kvs) => if ((kOf k).isSome && decide (kvs.length < 16777216)) = true then (match dGet false kvs k with
        | some w => .ok w s
        | none => .ok d (wrP p (.dic false (dPut false kvs k d)) s)) else .stuck
      | _ => .stuck) := p
    cases z : f S with
    | stuck => rw [z] at p; exact p
    | exn c s => rw [z] at p; exact p
    | ok a1 S1 =>
      rw [z] at p
      intro F1 ρ1 H1 x s1 q1 r1 e1
      simp only [bindR] at p
      split at p
      · rename_i p2 S2 hs
        split at hs
        · rename_i t kvs hc
          cases hs
          obtain ⟨a, rfl, hd⟩ := isD_of r1 e1 hc
          refine ⟨a, rfl, hd, U, F1, ρ1, S1, r1, Post.seq (p.up s1 q1) fun F2 ρ2 S2 H2 k y s2 q2 r2 e2 p2 => ⟨U, F2, ρ2, S2, r2, Post.seq p2 fun F3 ρ3 S3 H3 dd w s3 q3 r3 e3 p3 => ?_⟩⟩
          split at p3
          · rename_i kvs2 hob
            split at p3
            · rename_i hk
              rw [Bool.and_eq_true, decide_eq_true_eq] at hk
              obtain ⟨hk, hl⟩ := hk
              obtain ⟨n, en, eo, wr⟩ := wr_ok r3 (EmbP.mono (s2.trans s3) (q2.trans q3) e1) hob
              cases en
              rcases eo with ⟨_, kv, c1, c2⟩ | ⟨z, _⟩
              · cases zk : kOf k with
                | none => rw [zk] at hk; cases hk
                | some kk =>
                  have ey := emb_kV zk e2
                  subst ey
                  obtain ⟨g1, g2⟩ := EmbK.get zk c2
                  refine ⟨kv, kk, c1, rfl, by rw [sz, c2.length]; exact hl, fun v hv => ?_, fun hv => ?_⟩
                  · cases zg : dGet false kvs2 k with
                    | none => rw [g2 zg] at hv; cases hv
                    | some u =>
                      rw [zg] at p3
                      obtain ⟨v', hv', ev⟩ := g1 u zg
                      rw [hv] at hv'
                      cases hv'
                      exact p3 F3 ρ3 H3 v (Same.refl _) (List.prefix_refl _) r3 ev
                  · cases zg : dGet false kvs2 k with
                    | some u =>
                      obtain ⟨v', hv', ev⟩ := g1 u zg
                      rw [hv] at hv'
                      cases hv'
                    | none =>
                      rw [zg] at p3
                      exact p3 F3 ρ3 _ w (Same.refl _) (List.prefix_refl _) (wr _ _ (.inl ⟨rfl, _, upd_same, EmbK.put zk e3 c2⟩) rfl) e3
              · cases z
            · exact p3.elim
          · exact p3.elim
        · cases hs
      · rename_i c S2 hs
        split at hs <;> cases hs
      · exact p.elim⟩
end LM

/-! x or y, x and y, tests: of data, dicts too -/
namespace LM
open PyProof.Rows hiding St frameOf passOn
open PySem PySem.Spec L2
def TruX (K : PySem.W.Frag) (x : V) (H : Hp) (k : Bool) : Prop := TruV K x H k ∨ ∃ a kvs, x = .ref a ∧ Rd H a (.dK kvs) ∧ k = !kvs.isEmpty
theorem tru_okX {X : Cx} : TruR X (fun x H Q => ∃ k, TruX X.K x H k ∧ Q k H) := by
  intro pins s σ H x v Q I rx h
  obtain ⟨k, e, q⟩ := h
  rcases e with e | ⟨a, kvs, rfl, hd, rfl⟩
  · exact tru_ok pins s σ H x v Q I rx ⟨k, e, q⟩
  · cases rx
    exact d_truth I hd fun s' I' => ⟨H, I', q⟩
def truQ (pv : PV) (s : SS) : Option Bool := match truP pv s with
  | some k => some k
  | none => match coP pv s with
    | .ob (.dic false kvs) => some (!kvs.isEmpty)
    | _ => none
def truXM (f : M PV) : M Bool := bindM f fun p s => match truQ p s with
  | some k => .ok k s
  | none => .stuck
def orXM (f : M PV) (g : M AV) : M AV := bindM f fun p s => match truQ p s, avP p s with
  | some true, some a => .ok a s
  | some false, _ => g s
  | _, _ => .stuck
def andXM (f : M PV) (g : M AV) : M AV := bindM f fun p s => match truQ p s, avP p s with
  | some false, some a => .ok a s
  | some true, _ => g s
  | _, _ => .stuck
variable [TabNames]
theorem truQ_ok {K : PySem.W.Frag} {U F H : Hp} {ρ : List Addr} {S : SS} {σ : St} (R : Rep K U F ρ S σ H) {p : PV} {v : V} {k : Bool} (h : EmbP K F ρ σ p v) (e : truQ p S = some k) : TruX K v H k := by
  unfold truQ at e
  split at e
  · rename_i j hj
    cases e
    exact .inl (truP_ok R h hj)
  · split at e
    · rename_i kvs hc
      cases e
      have c := coP_ok R h
      rw [hc] at c
      obtain ⟨a, rfl, ⟨_, kv, c1, c2⟩ | ⟨z, _⟩⟩ := c
      · exact .inr ⟨a, kv, rfl, c1, by
          have h1 := c2.length
          cases kvs <;> cases kv <;> first | rfl | cases h1⟩
      · cases z
    · cases e
section
variable {X : Cx} {a b : Expr} {ta tb : TE} {rest : List Expr} {pos : Pos}
def tOrX (K : PySem.W.Frag) (ta tb : TE) : TE := fun σ H Q => ta σ H fun x H1 => ∃ k, TruX K x H1 k ∧ if k = true then Q x H1 else tb σ H1 Q
def tAndX (K : PySem.W.Frag) (ta tb : TE) : TE := fun σ H Q => ta σ H fun x H1 => ∃ k, TruX K x H1 k ∧ if k = true then tb σ H1 Q else Q x H1
theorem pe_orX (ha : PE X a ta) (hb : PE X (.BoolOp .Or (b :: rest) pos) tb) : PE X (.BoolOp .Or (a :: b :: rest) pos) (tOrX X.K ta tb) := by
  refine ⟨fun pins s σ H Q I h => ?_⟩
  refine BoolOp_or (thn (ha.run pins s σ H _ I h) fun v s1 ⟨x, H1, I1, r1, q1⟩ => ?_)
  obtain ⟨k, e, q1⟩ := q1
  refine thn (tru_okX pins s1 σ H1 x v (fun c H2 => c = k ∧ H2 = H1) I1 r1 ⟨k, e, rfl, rfl⟩) fun c s2 hc => ?_
  obtain ⟨H2, I2, e1, e2⟩ := hc
  rw [e2] at I2
  rw [← e1] at q1
  cases c with
  | true => exact ⟨x, H1, I2, r1, q1⟩
  | false => exact hb.run pins s2 σ H1 Q I2 q1
theorem pe_andX (ha : PE X a ta) (hb : PE X (.BoolOp .And (b :: rest) pos) tb) : PE X (.BoolOp .And (a :: b :: rest) pos) (tAndX X.K ta tb) := by
  refine ⟨fun pins s σ H Q I h => ?_⟩
  refine BoolOp_and (thn (ha.run pins s σ H _ I h) fun v s1 ⟨x, H1, I1, r1, q1⟩ => ?_)
  obtain ⟨k, e, q1⟩ := q1
  refine thn (tru_okX pins s1 σ H1 x v (fun c H2 => c = k ∧ H2 = H1) I1 r1 ⟨k, e, rfl, rfl⟩) fun c s2 hc => ?_
  obtain ⟨H2, I2, e1, e2⟩ := hc
  rw [e2] at I2
  rw [← e1] at q1
  cases c with
  | true => exact hb.run pins s2 σ H1 Q I2 q1
  | false => exact ⟨x, H1, I2, r1, q1⟩
theorem pm_orX {f : M PV} {g : M AV} (h : PPm X a f) (h2 : PEm X (.BoolOp .Or (b :: rest) pos) g) : PEm X (.BoolOp .Or (a :: b :: rest) pos) (orXM f g) := fun W tk =>
  PE.weak (pe_orX (h W tk) (h2 W tk)) fun σ H Q ⟨U, F, ρ, S, R, p⟩ => ⟨U, F, ρ, S, R, Post.seq p fun F1 ρ1 S1 H1 a1 b1 s1 q1 r1 e1 p1 => by
    have p1 : Post X.K U F1 ρ1 σ (RE X.K U σ) W Q (match truQ a1 S1, avP a1 S1 with | some true, some a => .ok a S1 | some false, _ => g S1 | _, _ => .stuck) := p1
    split at p1
    · rename_i a h1 h2
      exact ⟨true, truQ_ok r1 e1 h1, by rw [if_pos rfl]; exact p1 F1 ρ1 H1 _ (Same.refl _) (List.prefix_refl _) r1 (avP_ok r1 e1 h2)⟩
    · rename_i h1
      exact ⟨false, truQ_ok r1 e1 h1, by rw [if_neg Bool.false_ne_true]; exact ⟨U, F1, ρ1, S1, r1, p1⟩⟩
    · exact p1.elim⟩
theorem pm_andX {f : M PV} {g : M AV} (h : PPm X a f) (h2 : PEm X (.BoolOp .And (b :: rest) pos) g) : PEm X (.BoolOp .And (a :: b :: rest) pos) (andXM f g) := fun W tk =>
  PE.weak (pe_andX (h W tk) (h2 W tk)) fun σ H Q ⟨U, F, ρ, S, R, p⟩ => ⟨U, F, ρ, S, R, Post.seq p fun F1 ρ1 S1 H1 a1 b1 s1 q1 r1 e1 p1 => by
    have p1 : Post X.K U F1 ρ1 σ (RE X.K U σ) W Q (match truQ a1 S1, avP a1 S1 with | some false, some a => .ok a S1 | some true, _ => g S1 | _, _ => .stuck) := p1
    split at p1
    · rename_i a h1 h2
      exact ⟨false, truQ_ok r1 e1 h1, by rw [if_neg Bool.false_ne_true]; exact p1 F1 ρ1 H1 _ (Same.refl _) (List.prefix_refl _) r1 (avP_ok r1 e1 h2)⟩
    · rename_i h1
      exact ⟨true, truQ_ok r1 e1 h1, by rw [if_pos rfl]; exact ⟨U, F1, ρ1, S1, r1, p1⟩⟩
    · exact p1.elim⟩
theorem pt_truX {f : M PV} (h : PPm X a f) (he : ∀ whole, isTrue a X.env whole = (do let v ← whole; standAt a.pos; holding [v] (truthy v)) := by intro _; rfl) : PTm X a (truXM f) := fun W tk =>
  PT.weak (pt_truthR (h W tk) tru_okX he) fun σ H Q ⟨U, F, ρ, S, R, p⟩ => ⟨U, F, ρ, S, R, Post.seq p fun F1 ρ1 S1 H1 a1 b1 s1 q1 r1 e1 p1 => by
    have p1 : Post X.K U F1 ρ1 σ (RT X.K U σ) W Q (match truQ a1 S1 with | some k => .ok k S1 | none => .stuck) := p1
    cases z : truQ a1 S1 with
    | none => rw [z] at p1; exact p1.elim
    | some k =>
      rw [z] at p1
      exact ⟨k, truQ_ok r1 e1 z, p1 F1 ρ1 H1 k (Same.refl _) (List.prefix_refl _) r1 rfl⟩⟩
end
end LM

/-! exceptions that leave a list comprehension (of a def's own frame) -/
namespace LMC
open PySem PySem.Spec L2
open PyProof.Rows hiding St frameOf

/-! ### noted by another frame before -/
section
variable {M : Model} {A : Around} {E : Value → Shared → Prop} {s : Shared} {Z : Obj → Prop} {base : Heap} {env : Env} {outer : List Env} {L C e : Addr}
theorem looks_heldZ {Q : Unit → Shared → Prop} (hZ : HandSPX.Steady Z) (fr : A.frames = some (env :: outer)) (at_ : env.frame = some L) (held : HandSPX.HeldZ base (env :: outer) e Z C s.heap) (ne : C ≠ L)
    (k : ∀ h', HandSPX.HeldZ base (env :: outer) e Z L h' → s.heap.UpToSlots h' → Q () { s with heap := h' }) : wpAny M A (noteFrame (.ref e) env) Q E s := by
  obtain ⟨stay, new, funs, oe, fs, T, oT, gs, ge, ze, de, i1, newT, neT, gT, dT, i3⟩ := held
  -- all but the traceback's record stays when its flight is cleared
  have rest : ∀ b o, s.heap.get? b = some o → b ≠ T → (s.heap.update T (Obj.mapFields fun a => a.setIfInBounds 3 Value.none)).get? b = some o := fun b o e1 n => (Heap.get?_update_other _ _ n.symm).trans e1
  have plain : ∀ b o, s.heap.get? b = some o → (∀ ws, o.data ≠ .fields ws) → (s.heap.update T (Obj.mapFields fun a => a.setIfInBounds 3 Value.none)).get? b = some o := fun b o e1 no => rest b o e1 (by
    rintro rfl
    exact no gs (Option.some.inj (e1.symm.trans gT) ▸ dT))
  have other : (rawInt C == rawInt L) = false := by
    have q : rawInt C ≠ rawInt L := fun q => ne (Int.ofNat.inj (by simpa [rawInt] using q))
    simpa using q
  have some1 : (Value.ref T != Value.none) = true := by simp
  unfold noteFrame
  simp only [at_]
  refine wpAny_bind (wpAny_field ge de i1 ?_)
  simp only [some1, if_true]
  refine wpAny_bind (wpAny_field gT dT i3 ?_)
  simp only [other, Bool.false_eq_true, if_false]
  refine wpAny_bind (wpAny_setField gT dT (Array.getElem?_eq_some_iff.mp i3).1 ?_)
  refine HandSPX.wpAny_entryZ hZ fr (funs.of_keeps fun b o e1 no => ⟨o, plain b o e1 no, rfl⟩) at_ (rest e oe ge neT.symm) (fun b o e1 => rest b o (stay b o e1) (by rintro rfl; rw [newT] at e1; cases e1)) new de (Array.getElem?_eq_some_iff.mp i1).1 ze fun h' noted => ?_
  obtain ⟨n1, n2, n3, n4⟩ := noted
  exact k h' ⟨n1, new, n2, n3⟩ fun b o e1 no => n4 b o (plain b o e1 no) no
/-- noted here, whatever it was -/
theorem sky_note {B : Heap} {Q : Unit → Shared → Prop} (hZ : HandSPX.Steady Z) (hfr : A.frames = some (env :: outer)) (hf : env.frame = some L) (x : Sky B (env :: outer) e Z C s.heap) (hne : C ≠ L)
    (hQ : ∀ h', HandSPX.HeldZ B (env :: outer) e Z L h' → s.heap.UpToSlots h' → Q () { s with heap := h' }) : wpAny M A (noteFrame (.ref e) env) Q E s := by
  rcases x with ⟨hB, hn, hl, oe, vs, he, hz, hd, h1⟩ | fl | hh
  · exact HandSPX.look_newZ hZ hfr hl hf he hB hn hd h1 hz hQ
  · exact HandSPX.looks_onZ hZ hfr hf fl hQ
  · exact looks_heldZ hZ hfr hf hh hne hQ
theorem noteFrame_env {env env' : Env} (h : env'.frame = env.frame) (x : Value) : noteFrame x env' = noteFrame x env := by
  unfold noteFrame frameOf
  rw [h]
theorem funFrames_but {h h' base : Heap} {C : Addr} (k : ∀ b, b ≠ C → h'.get? b = h.get? b) : ∀ {l : List Env}, (∀ b ∈ frs l, b ≠ C) → h.FunFrames base l → h'.FunFrames base l
  | [], _, _ => trivial
  | env :: l, n, ⟨hk, ⟨L, o, hf, hn, ho, hd⟩, hr⟩ => by
    refine ⟨hk, ⟨L, o, hf, hn, (k L (n L (List.mem_filterMap.mpr ⟨env, List.mem_cons_self, hf⟩))).trans ho, hd⟩, funFrames_but k (fun b hb => ?_) hr⟩
    obtain ⟨e, he, q⟩ := List.mem_filterMap.mp hb
    exact n b (List.mem_filterMap.mpr ⟨e, List.mem_cons_of_mem _ he, q⟩)
theorem funFrames_hide {h B : Heap} {C : Addr} : ∀ {l : List Env}, h.FunFrames B l → h.FunFrames (PySem.W.hideAll B [C]) l
  | [], _ => trivial
  | env :: l, ⟨hk, ⟨L, o, hf, hn, ho, hd⟩, hr⟩ => by
    refine ⟨hk, ⟨L, o, hf, ?_, ho, hd⟩, funFrames_hide hr⟩
    cases q : (PySem.W.hideAll B [C]).get? L with
    | none => rfl
    | some o =>
      have z := PySem.W.of_hideAll _ q
      rw [hn] at z; cases z
theorem hide_none {B : Heap} {C b : Addr} (h : B.get? b = none) : (PySem.W.hideAll B [C]).get? b = none := by
  cases q : (PySem.W.hideAll B [C]).get? b with
  | none => rfl
  | some o =>
    have z := PySem.W.of_hideAll _ q
    rw [h] at z; cases z
theorem hide_some {B : Heap} {C b : Addr} {o : Obj} (h : (PySem.W.hideAll B [C]).get? b = some o) : B.get? b = some o ∧ b ≠ C := by
  refine ⟨PySem.W.of_hideAll _ h, fun q => ?_⟩
  subst q
  rw [PySem.W.hideAll_none [b] (List.mem_singleton.mpr rfl)] at h
  cases h
/-- the block of names at C is let go -/
theorem held_but {B h h' : Heap} {l : List Env} {m : Str → Option Value} (hh : HandSPX.HeldZ B l e Z L h) (hC : h.Ns C m) (k : ∀ b, b ≠ C → h'.get? b = h.get? b) (n : ∀ b ∈ frs l, b ≠ C) : HandSPX.HeldZ (PySem.W.hideAll B [C]) l e Z L h' := by
  obtain ⟨hkb, hen, hl, oe, vs, T, oT, ts, he, hz, hd, h1, hnT, hTe, hT, hdT, h3⟩ := hh
  obtain ⟨oc, es, ep, hoc, hdc, _⟩ := hC
  have ne : ∀ b o (ws : Array Value), h.get? b = some o → o.data = .fields ws → b ≠ C := fun b o ws e1 e2 q => by
    subst q
    rw [hoc] at e1; cases e1
    rw [hdc] at e2; cases e2
  refine ⟨fun b o e => ?_, hide_none hen, funFrames_hide (funFrames_but k n hl), oe, vs, T, oT, ts, (k _ (ne _ _ _ he hd)).trans he, hz, hd, h1, hide_none hnT, hTe, (k _ (ne _ _ _ hT hdT)).trans hT, hdT, h3⟩
  obtain ⟨e1, e2⟩ := hide_some e
  exact (k b e2).trans (hkb b o e1)
end
/-- only the wish about exceptions is another -/
theorem Inv.withXe {X : Cx} {pins : List (Addr × Obj)} {σ : St} {H : Hp} {s : Shared} {xe : Value → Shared → Prop} (I : Inv X pins σ H s) : Inv { X with xe := xe } pins σ H s :=
  ⟨⟨I.ok.mod, I.ok.kind, I.ok.glob, I.ok.blt, I.ok.above, I.ok.inj, I.ok.has, I.ok.cab, I.ok.hd, I.ok.frames, I.ok.stk, I.ok.exf, I.ok.bs, I.ok.bsz, I.ok.noex, I.ok.exfs, I.ok.funs, I.ok.frf⟩,
    I.os, I.bare, I.base, I.loc, I.cell, I.free, I.freeC, I.pin, I.hok, I.len⟩

/-- as tLc, the element's reading by the slots at the comprehension's start -/
def tLcE (wi : TI) (g : TG) (tt : TT) (te : St → TE) (vs : List Nat) : TE := fun σ H Q => tLc wi g tt (te σ) vs σ H Q
/-- the wish of a block's exceptions -/
abbrev WS (W : WX) (σ : St) : WX := fun cls d _ H => W cls d σ H
section
variable {X : Cx}
/-- a part's reading, wherever the block begins -/
abbrev Parts (X : Cx) (scope : Scope) (P : Cx → Prop) : Prop := ∀ (z : Shared) (G : Hp) (C : Addr) (cl : List (Str × Addr)) (fp : List Addr), P (X.blk z G scope (compEnvC scope cl C X.env) fp)
abbrev BlkE (X : Cx) (s : Shared) (H : Hp) (scope : Scope) (cenv : Env) (fp : List Addr) (xe : Value → Shared → Prop) : Cx := { X.blk s H scope cenv fp with xe := xe }
/-- an exception in the block goes on in the def's own frame -/
theorem blk_fails {W : WX} {pins : List (Addr × Obj)} {σ : St} {H : Hp} {s : Shared} {scope : Scope} {cl : List (Str × Addr)} {fp : List Addr} {xe : Value → Shared → Prop}
    (tk : Takes X W) (hs : X.stack = X.env :: X.outer) (hf : X.env.frame = some X.env.locals) (I : Inv X pins σ H s) (f : ∀ b ∈ fp, FpOk X pins H b)
    {u : Value} {s' : Shared} (x : XE (BlkE X s H scope (compEnvC scope cl s.heap.objs.size X.env) fp xe) (WS W σ) u s') :
    notedBy (model X.prog X.w) X.A (compEnvC scope cl s.heap.objs.size X.env) (CompFails (model X.prog X.w) X.A X.xe (compEnvC scope cl s.heap.objs.size X.env)) u s' := by
  generalize hce : compEnvC scope cl s.heap.objs.size X.env = ce at x ⊢
  have cL : ce.locals = s.heap.objs.size := by subst hce; rfl
  have cF : ce.frame = X.env.frame := by subst hce; rfl
  obtain ⟨a, B, sI, pins', σ', H', cls, d, rfl, I', nb, up, sky, na, os, ag, w⟩ := x
  have nb : ∀ b o, sI.heap.get? b = some o → b ∉ frs X.stack → B.get? b = some o := nb
  have sky : Sky B X.stack a (Zc cls d) ce.locals s'.heap := sky
  have hfr : X.A.frames = some (X.env :: X.outer) := by rw [I.ok.frames, hs]
  have hL := I.lt
  have hneC : ce.locals ≠ X.env.locals := by rw [cL]; exact Nat.ne_of_gt hL
  have nfr : ∀ b ∈ frs X.stack, b ≠ ce.locals := fun b hb => by
    obtain ⟨_, o, ho, _⟩ := I.stack.mem hb
    rw [cL]
    exact Nat.ne_of_lt (Heap.lt_size ho)
  -- the state in the def's context
  have J : Inv X pins σ H' sI := I.call' (ch := fp) I'.os I'.base I'.hok I'.bare fun b hb => ⟨(f b hb).2.2.2.1, (f b hb).2.1, (f b hb).2.2.2.2.1, (f b hb).2.2.2.2.2⟩
  have nC : H' s.heap.objs.size = none := by
    have z : H' ce.locals = none := I'.free
    rw [cL] at z
    exact z
  obtain ⟨m, hn, _⟩ := I'.loc
  have hn : sI.heap.Ns ce.locals m := hn
  have fC : FpOk X pins H' s.heap.objs.size := I.fpOk (Nat.le_refl _) nC
  obtain ⟨f0, f1, f2, f3, f4, f5⟩ := fC
  have J' : Inv X pins σ H' { sI with heap := PySem.W.hideAll sI.heap [s.heap.objs.size], toks := sI.toks } := J.turned (fun b o hb e => PySem.W.hideAll_get [s.heap.objs.size] e (by simpa using hb)) f0 f1 f3 f4 f5
  unfold notedBy
  rw [noteFrame_env cF]
  rw [hs] at sky
  refine sky_note Zc.steady hfr hf sky hneC fun h1 hh up1 => ?_
  have hn1 : h1.Ns ce.locals m := (up.trans up1).ns hn
  refine ⟨m, hn1, fun h2 m' hn2 sb => ?_⟩
  have k2 : ∀ b, b ≠ ce.locals → h2.get? b = h1.get? b := fun b hb => sb.2 b hb
  have hh2 := held_but hh hn1 k2 (by rw [← hs]; exact nfr)
  have hh2' := hh2
  obtain ⟨_, _, _, oe, vs, T, oT, ts, he, hz, hd, h1', hnT, hTe, hT, hdT, h3⟩ := hh2'
  unfold PySem.passOn
  refine wpAny_bind (wpAny_field he hd h1' ?_)
  rw [if_neg (show ¬ ((Value.ref T == Value.none) = true) from by simp)]
  rw [cF, hf]
  refine wpAny_bind (HandSPX.setFlight_onZ hh2 fun h3 hh3 up3 => ?_)
  refine wpAny_throw (tk _ _ ⟨a, PySem.W.hideAll B [ce.locals], { sI with heap := PySem.W.hideAll sI.heap [s.heap.objs.size], toks := sI.toks }, pins, σ, H', cls, d, rfl, J', fun b o e hb => ?_, fun b o e hnf => ?_, .inr (.inr (by rw [hs]; exact hh3)), na, os, ag, w⟩)
  · obtain ⟨e1, e2⟩ := hide_some e
    exact PySem.W.hideAll_get _ (nb b o e1 hb) (by rw [cL]; simpa using e2)
  · obtain ⟨e1, e2⟩ := hide_some e
    obtain ⟨sl, q⟩ := (up.trans up1) b o e1 hnf
    obtain ⟨sl2, q2⟩ := up3 b _ ((k2 b (by rw [cL]; exact e2)).trans q) hnf
    exact ⟨sl2, q2⟩


/-! the loop of the block, turn by turn; `bx` is the block's context where tests and targets stand, its twin with another wish that of the element -/
section
variable {W : WX} {pins : List (Addr × Obj)} {z : Shared} {G : Hp} {σ : St} {scope : Scope} {vs : List Nat} {fp : List Addr} {ce : Env} {xe : Value → Shared → Prop} {tg elt : Expr} {ifs : List Expr} {J : It} {it D : Addr} {tn : Nat → Heap → Prop}
abbrev Bx (X : Cx) (z : Shared) (G : Hp) (scope : Scope) (ce : Env) (fp : List Addr) : Cx := X.blk z G scope ce fp
/-- where the i-th turn begins -/
structure At (X : Cx) (z : Shared) (G : Hp) (scope : Scope) (ce : Env) (fp : List Addr) (tn : Nat → Heap → Prop) (τ : St) (i : Nat) (H : Hp) (s : Shared) : Prop where
  inv : Inv (Bx X z G scope ce fp) [] τ H s
  pos : tn i s.heap
  off : ∀ b ∈ fp, H b = none
theorem At.fps {τ : St} {i : Nat} {H : Hp} {s : Shared} (a : At X z G scope ce fp tn τ i H s) : ∀ b ∈ fp, FpOk (Bx X z G scope ce fp) [] H b := fun b hb => by
  obtain ⟨ne, nc⟩ := a.inv.ok.exf b hb
  refine ⟨a.off b hb, ne, a.inv.ok.exfs b hb, .inl hb, fun x c e => nc x c e, fun p hp => ?_⟩
  have hp : p ∈ ([] : List (Addr × Obj)) ++ [] := hp
  simp at hp
/-- a turn is over: the pins of the iterator's objects are dropped, the names wiped -/
theorem At.next (T : Turn X.prog X.w X.K tg J fp it tn) {s s' : Shared} {σ1 : St} {H' : Hp} {i : Nat} (I : Inv (Bx X z G scope ce fp) ([] ++ pinsAt fp s.heap) σ1 H' s') (hσ : wipe σ1 vs = wipe σ vs) (st : tn i s.heap) : At X z G scope ce fp tn (wipe σ vs) i H' s' := by
  have kept : ∀ b ∈ fp, ∀ o, s.heap.get? b = some o → s'.heap.get? b = some o ∧ H' b = none := fun b hb o e => by
    obtain ⟨h1, h2, _⟩ := I.pin (b, o) (List.mem_append_right _ (List.mem_append_right _ (mem_pinsAt hb e)))
    exact ⟨h1, h2⟩
  refine ⟨I.unpinned.weak ?_ ?_, T.keep i _ _ st fun b hb o e => (kept b hb o e).1, fun b hb => ?_⟩
  · rw [← hσ, wipe_length]
  · intro j v e
    rw [← hσ] at e
    exact (wipe_some e).1
  · obtain ⟨o, e, _⟩ := T.obj i _ st b hb
    exact (kept b hb o e).2
theorem turnE {R : Result → Shared → Prop} {g : TG} {tt : TT} {te : TE} {Wm : Nat → Nat → Hp → Prop} {Q : VK} {i n : Nat} {H : Hp} {s : Shared} (hc : X.calm = true) (T : Turn X.prog X.w X.K tg J fp it tn) (a : At X z G scope ce fp tn (wipe σ vs) i H s)
    (pg : PG (Bx X z G scope ce fp) tg g) (pt : PTs (Bx X z G scope ce fp) ifs tt) (pe : PE (BlkE X z G scope ce fp (notedBy (model X.prog X.w) X.A ce fun e s' => R (.error e) s')) elt te)
    (turn : (J.stop i H ∧ Q (.ref D) H) ∨ (J.go i H ∧ ∃ Nx : Hp → Prop, (∀ H', Nx H' → ∃ m', m' < n ∧ Wm (i + 1) m' H') ∧ ∀ x H', J.yld i H x H' → g x (wipe σ vs) H' fun σ2 H2 => wipe σ2 vs = wipe σ vs ∧ tt σ2 H2 fun b H3 =>
      if b = true then te σ2 H3 fun y H4 => ∃ acc, H4 D = some (.lst acc) ∧ acc.length < sizeLine ∧ Nx (upd H4 D (.lst (acc ++ [y]))) else Nx H3))
    (stop : ∀ s', At X z G scope ce fp tn (wipe σ vs) i H s → Inv (Bx X z G scope ce fp) [] (wipe σ vs) H s' → Q (.ref D) H → R (.ok .next) s') :
    wpAny (model X.prog X.w) X.A (pyNext (.ref it)) (fun r s₁ => match r with
      | none => R (.ok .next) s₁
      | some v => wpAny (model X.prog X.w) X.A (letOwnedTupleGo tg (.ref it) v) (fun _ s₁' => wpAny (model X.prog X.w) X.A (assign tg ce v) (fun _ s₂ =>
          wpAny (model X.prog X.w) X.A (forIn ifs true fun c r => if r = true then do let ok ← isTrue c ce (eval c ce); pure (ForInStep.yield ok) else pure (ForInStep.yield r)) (fun ok s₃ =>
            if ok = true then wpAny (model X.prog X.w) X.A (eval elt ce) (fun x s₄ =>
              wpAny (model X.prog X.w) X.A (call (.builtin "list.append") [.ref D, x]) (fun _ s₅ => ∃ m, m < n ∧ ∃ i H, At X z G scope ce fp tn (wipe σ vs) i H s₅ ∧ Wm i m H) (notedBy (model X.prog X.w) X.A ce fun e s' => R (.error e) s') s₄) (notedBy (model X.prog X.w) X.A ce fun e s' => R (.error e) s') s₃
            else ∃ m, m < n ∧ ∃ i H, At X z G scope ce fp tn (wipe σ vs) i H s₃ ∧ Wm i m H) (notedBy (model X.prog X.w) X.A ce fun e s' => R (.error e) s') s₂) (notedBy (model X.prog X.w) X.A ce fun e s' => R (.error e) s') s₁') (notedBy (model X.prog X.w) X.A ce fun e s' => R (.error e) s') s₁)
      (notedBy (model X.prog X.w) X.A ce fun e s' => R (.error e) s') s := by
  rcases turn with ⟨js, q⟩ | ⟨jg, Nx, dec, rest⟩
  · have over := T.done (Bx X z G scope ce fp) rfl rfl rfl hc i [] s _ H (fun _ _ => False) a.inv a.fps a.pos js
    exact thnF over fun r s' h => by
      obtain ⟨rfl, I'⟩ := h
      exact stop s' a I' q
  · have more := T.item (Bx X z G scope ce fp) rfl rfl rfl hc i [] s _ H (fun _ _ => False) a.inv a.fps a.pos jg
    refine thnF more fun r s1 h => ?_
    obtain ⟨u, rfl, h⟩ := h
    refine thnF h fun _ s2 h => ?_
    obtain ⟨x, H2, I2, rx, hy, st2, off2⟩ := h
    have a2 : At X z G scope ce fp tn (wipe σ vs) (i + 1) H2 s2 := ⟨I2, st2, off2⟩
    have P2 := I2.pinned a2.fps (T.obj _ _ st2)
    have back : ∀ {σ1 : St} {s' : Shared} {H' : Hp}, wipe σ1 vs = wipe σ vs → Inv (Bx X z G scope ce fp) ([] ++ pinsAt fp s2.heap) σ1 H' s' → Nx H' → ∃ m, m < n ∧ ∃ i H, At X z G scope ce fp tn (wipe σ vs) i H s' ∧ Wm i m H := fun e I' nx => by
      obtain ⟨m, lt, w⟩ := dec _ nx
      exact ⟨m, lt, i + 1, _, At.next T I' e st2, w⟩
    refine thnF (pg.run _ s2 _ H2 x u _ P2 rx (rest x H2 hy)) fun _ s3 h => ?_
    obtain ⟨σ3, H3, I3, e3, q3⟩ := h
    refine thnF (pt.run _ s3 σ3 H3 _ I3 q3) fun k s4 h => ?_
    obtain ⟨H4, I4, q4⟩ := h
    match k with
    | false => exact back e3 I4 q4
    | true =>
      refine thn (pe.run _ s4 σ3 H4 _ (Inv.withXe I4) q4) fun v s5 h => ?_
      obtain ⟨y, H5, I5, ry, acc, hD, hz, nx⟩ := h
      exact app_ok (X := Bx X z G scope ce fp) (Inv.withXe I5) hD hz ry fun s6 I6 => back e3 I6 nx
end
/-- the whole comprehension, the element may raise -/
theorem lc_coreE {W : WX} {pins : List (Addr × Obj)} {s : Shared} {σ : St} {H : Hp} {Q : VK} {elt tg iter : Expr} {ifs : List Expr} {scope : Scope} {own : List (Str × Nat)} {at1 at2 : Pos} {wi : TI} {g : TG} {tt : TT} {te : St → TE} {use : Option (Value → Sem Unit)} {Qf : Value → Shared → Prop}
    (tk : Takes X W) (hst : X.stack = X.env :: X.outer) (hfr : X.env.frame = some X.env.locals) (hc : X.calm = true) (hN : X.N.Nodup)
    (I : Inv X pins σ H s) (hi : PI X tg iter wi) (ok : BlkOk X.N X.env.scope scope own)
    (hg : Parts X scope fun Y => PG Y tg g) (ht : Parts X scope fun Y => PTs Y ifs tt)
    (he : ∀ (z : Shared) (G : Hp) (C : Addr) (cl : List (Str × Addr)) (fp : List Addr) (xe : Value → Shared → Prop), Takes (BlkE X z G scope (compEnvC scope cl C X.env) fp xe) (WS W σ) → PE (BlkE X z G scope (compEnvC scope cl C X.env) fp xe) elt (te σ))
    (hs : ∀ x, foldedSetIterable iter X.env x = pure x) (h : tLcE wi g tt te (own.map (·.2)) σ H Q)
    (fin : ∀ D C s' m H', Inv X pins σ H' s' → Q (.ref D) H' → s'.heap.Ns C m → FpOk X pins H' C → compPost (model X.prog X.w) X.A X.xe use Qf (.ref D) C (.ok .next) s') :
    wpAny (model X.prog X.w) X.A (comprehension (.ListComp elt [⟨tg, iter, ifs, 0⟩] scope at1) scope X.env at2 (newList []) false (eval iter X.env) use) Qf X.xe s := by
  have cells : closureFor scope X.env = pure (cloFrom X.env.cells scope.names []) := closure_ok fun y hy e => I.ok.has _ (ok.free y hy e)
  refine comprehension_at (use := use) rfl hs cells ok.kind (fun y hy e => (ok.uniq y hy).trans (congrArg some e)) (thn (hi.run pins s σ H _ I h) fun _ _ hx => thn hx fun itv s2 hp => ?_)
  obtain ⟨it, fp, tn, J, H2, rfl, I2, T, st2, f2, q⟩ := hp
  refine wpAny_newObj_type (newEnv_comp ?_) (Nat.zero_le _)
  -- the new list, at D
  have nD : H2 s2.heap.objs.size = none := I2.hok.fresh (Nat.le_refl _)
  obtain ⟨Wm, ⟨m0, w0⟩, turn⟩ := q s2.heap.objs.size nD
  have I3 : Inv X pins σ (upd H2 s2.heap.objs.size (.lst [])) { s2 with heap := s2.heap.push { cls := .type "list", data := .seq ([] : List Value).toArray } } :=
    I2.laid (t' := s2.toks) (fun _ _ e => Heap.get?_push_of_some _ e) (Nat.le_refl _) ⟨Nat.zero_le _, [], 0, .nil, Heap.get?_push_size _ rfl⟩
  have older : ∀ b ∈ fp, b < s2.heap.objs.size := fun b hb => let ⟨_, e, _⟩ := T.obj _ _ st2 b hb; Heap.lt_size e
  have f3 : ∀ b ∈ fp, FpOk X pins (upd H2 s2.heap.objs.size (.lst [])) b := fun b hb => by
    obtain ⟨n0, nr⟩ := f2 b hb
    exact ⟨(upd_ne (Nat.ne_of_lt (older b hb))).trans n0, nr⟩
  have st3 : tn 0 (s2.heap.push { cls := .type "list", data := .seq ([] : List Value).toArray }) := T.keep 0 _ _ st2 fun _ _ _ e => Heap.get?_push_of_some _ e
  have in3 : ∀ b ∈ fp, b < (s2.heap.push { cls := .type "list", data := .seq ([] : List Value).toArray }).objs.size := fun b hb => by
    rw [Heap.size_push]
    exact Nat.lt_succ_of_lt (older b hb)
  clear I2 st2 f2 older hx h hi
  generalize s2.heap.objs.size = D at *
  generalize ez : ({ s2 with heap := s2.heap.push { cls := .type "list", data := .seq ([] : List Value).toArray } } : Shared) = z at *
  have hz : s2.heap.push { cls := .type "list", data := .seq ([] : List Value).toArray } = z.heap := by rw [← ez]
  rw [hz] at st3 in3
  generalize upd H2 D (.lst []) = G at *
  -- the block's names
  have I4 := block_start (fp := fp) I3 ok hN fun b hb => ⟨f3 b hb, in3 b hb⟩
  have st4 : tn 0 (pushCells (z.heap.push { cls := .type "dict", data := .dict #[] }) scope.names) := T.keep 0 _ _ st3 fun _ _ _ e => pushCells_keeps _ _ _ _ (Heap.get?_push_of_some _ e)
  have a0 : At X z G scope (compEnvC scope (cellsFrom (z.heap.objs.size + 1) scope.names (cloFrom X.env.cells scope.names [])) z.heap.objs.size X.env) fp tn (wipe σ (own.map (·.2))) 0 G { z with heap := pushCells (z.heap.push { cls := .type "dict", data := .dict #[] }) scope.names } := ⟨I4, st4, fun b hb => (f3 b hb).1⟩
  show codeAny _ _ (.compStart _ 0 (.ref it) (.ref D) (compEnvC scope (cellsFrom (z.heap.objs.size + 1) scope.names (cloFrom X.env.cells scope.names [])) z.heap.objs.size X.env)) (compEnds _ _ _ use Qf (.ref D) (compEnvC scope (cellsFrom (z.heap.objs.size + 1) scope.names (cloFrom X.env.cells scope.names [])) z.heap.objs.size X.env)) { z with heap := pushCells (z.heap.push { cls := .type "dict", data := .dict #[] }) scope.names }
  have pG := hg z G z.heap.objs.size (cellsFrom (z.heap.objs.size + 1) scope.names (cloFrom X.env.cells scope.names [])) fp
  have pT := ht z G z.heap.objs.size (cellsFrom (z.heap.objs.size + 1) scope.names (cloFrom X.env.cells scope.names [])) fp
  have pE := he z G z.heap.objs.size (cellsFrom (z.heap.objs.size + 1) scope.names (cloFrom X.env.cells scope.names [])) fp _ fun u s' x => blk_fails (xe := notedBy (model X.prog X.w) X.A (compEnvC scope (cellsFrom (z.heap.objs.size + 1) scope.names (cloFrom X.env.cells scope.names [])) z.heap.objs.size X.env) (CompFails (model X.prog X.w) X.A X.xe (compEnvC scope (cellsFrom (z.heap.objs.size + 1) scope.names (cloFrom X.env.cells scope.names [])) z.heap.objs.size X.env))) tk hst hfr I3 f3 x
  have home : (compEnvC scope (cellsFrom (z.heap.objs.size + 1) scope.names (cloFrom X.env.cells scope.names [])) z.heap.objs.size X.env).locals = z.heap.objs.size := rfl
  generalize compEnvC scope (cellsFrom (z.heap.objs.size + 1) scope.names (cloFrom X.env.cells scope.names [])) z.heap.objs.size X.env = ce at a0 pG pT pE home ⊢
  have same : (fun (e : Value) (s' : Shared) => compEnds (model X.prog X.w) X.A X.xe use Qf (.ref D) ce (.error e) s') = CompFails (model X.prog X.w) X.A X.xe ce := by
    funext e s'
    cases use <;> rfl
  rw [← same] at pE
  have loop := compLoop_any (iter := iter) (scope := scope) (pos := at1) (acc := .ref D) (it := .ref it) (R := compEnds (model X.prog X.w) X.A X.xe use Qf (.ref D) ce)
    (fun n s' => ∃ i H', At X z G scope ce fp tn (wipe σ (own.map (·.2))) i H' s' ∧ Wm i n H') (fun n s' hI => by
      obtain ⟨i, H', a, w⟩ := hI
      refine turnE (Wm := Wm) (Q := Q) hc T a pG pT pE (turn i n H' w) fun s'' _ I' q' => ?_
      have J' : Inv X pins σ H' s'' := I3.call' (ch := fp) I'.os I'.base I'.hok I'.bare fun b hb => by
        obtain ⟨_, k1, _, k3, k4, k5⟩ := f3 b hb
        exact ⟨k3, k1, k4, k5⟩
      obtain ⟨m, hm, _⟩ := I'.loc
      have hm : s''.heap.Ns ce.locals m := hm
      have nC : H' ce.locals = none := I'.free
      rw [home] at hm nC
      have e := fin D _ s'' m H' J' q' hm (I3.fpOk (Nat.le_refl _) nC)
      rw [← home] at e
      cases use <;> exact e) m0 ⟨0, G, a0, w0⟩
  exact codeAny_compStart_list loop (T.self X.A 0 _ _ _ st4 loop)
theorem pe_lcE {W : WX} {elt tg iter : Expr} {ifs : List Expr} {scope : Scope} {own : List (Str × Nat)} {pos : Pos} {wi : TI} {g : TG} {tt : TT} {te : St → TE} (tk : Takes X W) (hst : X.stack = X.env :: X.outer) (hfr : X.env.frame = some X.env.locals) (hc : X.calm = true) (hN : X.N.Nodup)
    (hi : PI X tg iter wi) (ok : BlkOk X.N X.env.scope scope own) (hg : Parts X scope fun Y => PG Y tg g) (ht : Parts X scope fun Y => PTs Y ifs tt)
    (he : ∀ (σ : St) (z : Shared) (G : Hp) (C : Addr) (cl : List (Str × Addr)) (fp : List Addr) (xe : Value → Shared → Prop), Takes (BlkE X z G scope (compEnvC scope cl C X.env) fp xe) (WS W σ) → PE (BlkE X z G scope (compEnvC scope cl C X.env) fp xe) elt (te σ)) (hs : ∀ x, foldedSetIterable iter X.env x = pure x := by intro _; rfl) :
    PE X (.ListComp elt [⟨tg, iter, ifs, 0⟩] scope pos) (tLcE wi g tt te (own.map (·.2))) := by
  refine ⟨fun pins s σ H Q I h => ?_⟩
  rw [eval_ListComp]
  refine lc_coreE tk hst hfr hc hN I hi ok hg ht (he σ) hs h fun D C s' m H' I' q hm fC => ⟨m, hm, fun h2 sb => ⟨.ref D, H', ?_, rfl, q⟩⟩
  obtain ⟨k0, k1, _, k3, k4, k5⟩ := fC
  exact I'.turned (t' := s'.toks) (fun b o ne e => (sb.2 b ne).trans e) k0 k1 k3 k4 k5
/-- the same, stored at once in a name (one line: the model stores before it lets the block go) -/
theorem ps_setLcE {W : WX} {i : Nat} {y : Str} {py : Pos} {elt tg iter : Expr} {ifs : List Expr} {scope : Scope} {own : List (Str × Nat)} {pos spos : Pos} {wi : TI} {g : TG} {tt : TT} {te : St → TE} (tk : Takes X W) (hst : X.stack = X.env :: X.outer) (hfr : X.env.frame = some X.env.locals) (hc : X.calm = true) (hN : X.N.Nodup)
    (hy : X.N[i]? = some y) (hyl : X.env.scope.names.lookup y = some .local) (hsw : swapsWith (.ListComp elt [⟨tg, iter, ifs, 0⟩] scope pos) (some (.Name y py)) spos.line X.env = pure true)
    (hi : PI X tg iter wi) (ok : BlkOk X.N X.env.scope scope own) (hg : Parts X scope fun Y => PG Y tg g) (ht : Parts X scope fun Y => PTs Y ifs tt)
    (he : ∀ (σ : St) (z : Shared) (G : Hp) (C : Addr) (cl : List (Str × Addr)) (fp : List Addr) (xe : Value → Shared → Prop), Takes (BlkE X z G scope (compEnvC scope cl C X.env) fp xe) (WS W σ) → PE (BlkE X z G scope (compEnvC scope cl C X.env) fp xe) elt (te σ)) (hs : ∀ x, foldedSetIterable iter X.env x = pure x := by intro _; rfl) :
    PS X (.Assign [.Name y py] (.ListComp elt [⟨tg, iter, ifs, 0⟩] scope pos) spos) (tAsg (tLcE wi g tt te (own.map (·.2))) (gName i)) := by
  refine ⟨fun pins s σ H D I h => ?_⟩
  have h : tLcE wi g tt te (own.map (·.2)) σ H (fun x H1 => gName i x σ H1 D.nx) := h
  rw [exec_Assign_Name_used _ _ _ _ hsw]
  have core := lc_coreE (at1 := pos) (at2 := firstIterPos [⟨tg, iter, ifs, 0⟩] pos) (use := some (assign (.Name y py) X.env)) (Qf := fun _ s' => SP X pins D .next s') tk hst hfr hc hN I hi ok hg ht (he σ) hs h fun L C s' m H' I' q hm fC => by
    obtain ⟨k0, k1, _, k3, k4, k5⟩ := fC
    refine wpAny_assign_Name (store_ok2 (v := V.ref L) I' hN hy (.inl hyl) rfl (fun s2 I2 w => ?_) (.inr hyl))
    obtain ⟨a, sb, ha⟩ := w
    have apart : C ≠ a := ha.elim (fun z => z ▸ k1) fun z e => k4 y a z e.symm
    exact ⟨m, hm.sameBut sb apart, fun h3 sb3 => ⟨_, H', I2.turned (t' := s2.toks) (fun b o ne e => (sb3.2 b ne).trans e) k0 k1 k3 k4 k5, q⟩⟩
  exact wpAny_bind (wpAny_standAt (wpAny_bind (wpAny_bind (thn core fun _ _ hq => wpAny_pure (wpAny_pure hq)))))
end
end LMC

/-! list comprehensions whose element may raise -/
namespace LM
open PySem PySem.Spec L2
open PyProof.Rows hiding St frameOf passOn
variable [TabNames]
def compLX (vs : List Nat) (g : AV → M Unit) (c : M Bool) (e : M AV) : List AV → List AV → M (List AV)
  | [], acc => fun s => .ok acc (wipeS vs s)
  | x :: xs, acc => fun s => match g x (wipeS vs s) with
    | .ok _ s => (match c s with
      | .ok true s => (match e s with
        | .ok a s => if acc.length < 16777216 then compLX vs g c e xs (acc ++ [a]) s else .stuck
        | .exn cc s => .exn cc (wipeS vs s)
        | .stuck => .stuck)
      | .ok false s => compLX vs g c e xs acc s
      | _ => .stuck)
    | _ => .stuck
def compXM (vs : List Nat) (it : M (List AV)) (g : AV → M Unit) (c : M Bool) (e : M AV) : M AO := bindM it fun xs s => if ownAt s.sl vs then .stuck else match compLX vs g c e xs [] s with
  | .ok acc s' => .ok (.lst acc) { s' with sl := putBack s.sl s'.sl vs }
  | .exn cc s' => .exn cc { s' with sl := putBack s.sl s'.sl vs }
  | .stuck => .stuck
section
variable {X : Cx} {pn : Bool} {pos : Pos} {tg : Expr}
theorem comp_coreE {W : WX} {wi : TI} {g : TG} {tt : TT} {te : L2.St → TE} {vs : List Nat} {it : M (List AV)} {gm : AV → M Unit} {c : M Bool} {e : M AV} {σ : L2.St} {H : Hp} {Q : VK}
    (hwi : ∀ σ H R, tG X.K W (RI X.K) it σ H R → wi σ H R) (hg : ∀ v σ H Q, tGt X.K (Zw vs) gm v σ H Q → g v σ H Q) (htt : ∀ σ H Q, tG X.K (fun _ _ _ _ => False) (RT X.K) c σ H Q → tt σ H Q) (hte : ∀ τ σ H Q, tG X.K (LMC.WS W τ) (RE X.K) e σ H Q → te τ σ H Q)
    (h : tG X.K W (RN X.K) (compXM vs it gm c e) σ H Q) : LMC.tLcE wi g tt te vs σ H Q := by
  obtain ⟨U, F₀, ρ₀, S₀, R₀, p₀⟩ := h
  refine hwi _ _ _ ⟨U, F₀, ρ₀, S₀, R₀, Post.seq p₀ fun F1 ρ1 S1 H1 xs J s1 q1 r1 e1 p1 => ?_⟩
  change ItOk X.K F1 ρ1 xs J at e1
  intro D hD
  by_cases how : ownAt S1.sl vs = true
  · rw [if_pos how] at p1; exact p1.elim
  rw [if_neg how] at p1
  obtain ⟨nF, nU, nρ, nO⟩ := r1.new hD
  have nfr : ∀ (l : List V), (∀ o x, HO.lst l ≠ .frz o x) ∧ ∀ vs, HO.lst l ≠ .tup vs := fun _ => ⟨fun _ _ z => (by cases z), fun _ z => (by cases z)⟩
  -- what is wanted of the rest of the list
  let GoodO : Res (List AV) → Hp → List Addr → Prop := fun r F ρ => ∃ acc s', r = .ok acc s' ∧ ∀ F' ρ' H' accv, Same F F' → ρ <+: ρ' → Rep X.K (upd U D (.lst accv)) F' ρ' s' (wipe σ vs) H' → (∀ (j : Nat) (x : SV), s'.sl[j]? = some (some x) → j ∉ vs) → EmbL X.K F' ρ' acc accv → Same F1 F' → ρ1 <+: ρ' → Q (.ref D) H'
  let GoodX : Res (List AV) → Hp → List Addr → Prop := fun r F ρ => ∃ cc s', r = .exn cc s' ∧ ∀ F' ρ' H' accv, Same F F' → ρ <+: ρ' → Rep X.K (upd U D (.lst accv)) F' ρ' s' (wipe σ vs) H' → (∀ (j : Nat) (x : SV), s'.sl[j]? = some (some x) → j ∉ vs) → Same F1 F' → ρ1 <+: ρ' → W (.ref (He.ga X.K cc)) none σ H'
  let Good : Res (List AV) → Hp → List Addr → Prop := fun r F ρ => GoodO r F ρ ∨ GoodX r F ρ
  have up : ∀ {F F' : Hp} {ρ ρ' : List Addr} {r : Res (List AV)}, Same F F' → ρ <+: ρ' → Good r F ρ → Good r F' ρ' := fun sm pr g => by
    rcases g with ⟨acc, s', h, g⟩ | ⟨cc, s', h, g⟩
    · exact .inl ⟨acc, s', h, fun F2 ρ2 H2 av s q => g F2 ρ2 H2 av (sm.trans s) (pr.trans q)⟩
    · exact .inr ⟨cc, s', h, fun F2 ρ2 H2 av s q => g F2 ρ2 H2 av (sm.trans s) (pr.trans q)⟩
  have start : Good (compLX vs gm c e xs [] S1) F1 ρ1 := by
    cases z : compLX vs gm c e xs [] S1 with
    | stuck => rw [z] at p1; exact p1.elim
    | exn cc s' =>
      rw [z] at p1
      refine .inr ⟨cc, s', rfl, fun F' ρ' H' accv sm pr R hw sm1 pr1 => ?_⟩
      have R2 := R.unshield nU
      have R3 := R2.unwipe (old := S1.sl) r1.val sm pr hw
      exact p1 F' ρ' H' sm1 pr1 R3
    | ok acc s' =>
      rw [z] at p1
      refine .inl ⟨acc, s', rfl, fun F' ρ' H' accv sm pr R hw em sm1 pr1 => ?_⟩
      obtain ⟨u1, u2, u3⟩ := R.shut nU (nfr accv)
      have R2 := R.unshield nU
      have R3 := R2.unwipe (old := S1.sl) r1.val sm pr hw
      refine p1 F' ρ' H' (.ref D) sm1 pr1 R3 ⟨D, rfl, ⟨accv, R.shield0, em⟩, u1, nU, u2, fun j o' q z => ?_⟩
      rcases putBack_get q with ⟨h1, h2⟩ | ⟨h1, a, e, h2⟩
      · exact u3 j o' h2 (by rw [wipe_out h1]; exact z)
      · cases e
  refine ⟨fun i k H => k = xs.length - i ∧ i ≤ xs.length ∧ ∃ F ρ S σ' acc accv, Same F1 F ∧ ρ1 <+: ρ ∧ wipe σ' vs = wipe σ vs ∧ Rep X.K (upd U D (.lst accv)) F ρ S σ' H ∧ EmbL X.K F ρ acc accv ∧ Good (compLX vs gm c e (xs.drop i) acc S) F ρ,
    ⟨xs.length, by simp, Nat.zero_le _, F1, ρ1, S1, σ, [], [], Same.refl _, List.prefix_refl _, rfl, r1.shield hD, by simp [EmbL], by simpa using start⟩, ?_⟩
  rintro i k H ⟨rfl, hi, F, ρ, S, σ', acc, accv, sm, pr, hσ, R, em, gd⟩
  have Rw : Rep X.K (upd U D (.lst accv)) F ρ (wipeS vs S) (wipe σ vs) H := by
    have := R.wipeN vs
    rw [hσ] at this
    exact this
  obtain ⟨it1, it2⟩ := e1 _ F ρ _ _ H sm pr Rw
  by_cases hlt : i < xs.length
  · have hx : xs[i]? = some xs[i] := List.getElem?_eq_getElem hlt
    have hd : xs.drop i = xs[i] :: xs.drop (i + 1) := List.drop_eq_getElem_cons hlt
    rw [hd] at gd
    obtain ⟨go, yld⟩ := it1 i xs[i] hx
    refine .inr ⟨go, fun H => ∃ F ρ S σ' acc accv, Same F1 F ∧ ρ1 <+: ρ ∧ wipe σ' vs = wipe σ vs ∧ Rep X.K (upd U D (.lst accv)) F ρ S σ' H ∧ EmbL X.K F ρ acc accv ∧ Good (compLX vs gm c e (xs.drop (i + 1)) acc S) F ρ, fun H' h => ⟨xs.length - (i + 1), by omega, rfl, hlt, h⟩, fun x H' hy => ?_⟩
    obtain ⟨F2, sm2, R2, emx⟩ := yld x H' hy
    generalize hr0 : compLX vs gm c e (xs[i] :: xs.drop (i + 1)) acc S = r0 at gd
    have hr : (match gm xs[i] (wipeS vs S) with
      | .ok _ s => (match c s with
        | .ok true s => (match e s with
          | .ok a s => if acc.length < 16777216 then compLX vs gm c e (xs.drop (i + 1)) (acc ++ [a]) s else .stuck
          | .exn cc s => .exn cc (wipeS vs s)
          | .stuck => .stuck)
        | .ok false s => compLX vs gm c e (xs.drop (i + 1)) acc s
        | _ => .stuck)
      | _ => .stuck) = r0 := hr0
    have wt : wipe (wipe σ vs) vs = wipe σ vs := by
      have h1 : ∀ (l : List Nat) (τ : L2.St), (∀ v ∈ l, τ[v]? = some none ∨ τ[v]? = none) → wipe τ l = τ := by
        intro l
        induction l with
        | nil => intro τ _; rfl
        | cons v l ih =>
          intro τ hτ
          show (wipe τ l).set v none = τ
          rw [ih τ fun u hu => hτ u (List.mem_cons_of_mem _ hu)]
          apply List.ext_getElem?
          intro j
          by_cases hj : v = j
          · subst hj
            rcases hτ v List.mem_cons_self with q | q
            · rw [List.getElem?_set_self (List.getElem?_eq_some_iff.mp q).1, q]
            · rw [List.getElem?_eq_none (by simpa using q), q]
          · rw [List.getElem?_set_ne hj]
      refine h1 vs _ fun v hv => ?_
      cases z : (wipe σ vs)[v]? with
      | none => exact .inr rfl
      | some o =>
        cases o with
        | none => exact .inl rfl
        | some w => exact absurd hv (wipe_some z).2
    refine hg _ _ _ _ ⟨_, F2, ρ, wipeS vs S, xs[i], R2, emx, ?_⟩
    cases z : gm xs[i] (wipeS vs S) with
    | stuck => rw [z] at hr; exfalso; subst hr; rcases gd with ⟨_, _, z, _⟩ | ⟨_, _, z, _⟩ <;> cases z
    | exn cc s => rw [z] at hr; exfalso; subst hr; rcases gd with ⟨_, _, z, _⟩ | ⟨_, _, z, _⟩ <;> cases z
    | ok u S3 =>
      simp only [z] at hr
      intro F3 ρ3 σ3 H3 s3 q3 r3 k3
      have k3 : wipe σ3 vs = wipe σ vs := (show wipe σ3 vs = wipe (wipe σ vs) vs from k3).trans wt
      refine ⟨k3.trans wt.symm |> fun q => by rw [k3], htt _ _ _ ⟨_, F3, ρ3, S3, r3, ?_⟩⟩
      cases z2 : c S3 with
      | stuck => rw [z2] at hr; exfalso; subst hr; rcases gd with ⟨_, _, z, _⟩ | ⟨_, _, z, _⟩ <;> cases z
      | exn cc s => rw [z2] at hr; exfalso; subst hr; rcases gd with ⟨_, _, z, _⟩ | ⟨_, _, z, _⟩ <;> cases z
      | ok b S4 =>
        simp only [z2] at hr
        intro F4 ρ4 H4 b' s4 q4 r4 e4
        have e4 : b' = b := e4
        subst e4
        have em4 : EmbL X.K F4 ρ4 acc accv := ((em.mono sm2 (List.prefix_refl _)).mono s3 q3).mono s4 q4
        have sm4 : Same F F4 := (sm2.trans s3).trans s4
        have pr4 : ρ <+: ρ4 := q3.trans q4
        cases b' with
        | false =>
          rw [if_neg Bool.false_ne_true]
          exact ⟨F4, ρ4, S4, σ3, acc, accv, sm.trans sm4, pr.trans pr4, k3, r4, em4, by subst hr; exact up sm4 pr4 gd⟩
        | true =>
          rw [if_pos rfl]
          refine hte _ _ _ _ ⟨_, F4, ρ4, S4, r4, ?_⟩
          simp only at hr
          cases z3 : e S4 with
          | stuck => rw [z3] at hr; exfalso; subst hr; rcases gd with ⟨_, _, z, _⟩ | ⟨_, _, z, _⟩ <;> cases z
          | exn cc S5 =>
            rw [z3] at hr
            simp only at hr
            subst hr
            rcases gd with ⟨_, _, zz, _⟩ | ⟨cc', s', zz, gd⟩
            · cases zz
            · cases zz
              intro F5 ρ5 H5 s5 q5 r5
              have Rw5 : Rep X.K (upd U D (.lst accv)) F5 ρ5 (wipeS vs S5) (wipe σ vs) H5 := by
                have := r5.wipeN vs
                rw [k3] at this
                exact this
              exact gd F5 ρ5 H5 accv (sm4.trans s5) (pr4.trans q5) Rw5 (fun j x q => (wipeL_get q).1) (sm.trans (sm4.trans s5)) (pr.trans (pr4.trans q5))
          | ok a S5 =>
            simp only [z3] at hr
            by_cases hlen : acc.length < 16777216
            · rw [if_pos hlen] at hr
              intro F5 ρ5 H5 y s5 q5 r5 e5
              have em5 : EmbL X.K F5 ρ5 acc accv := em4.mono s5 q5
              refine ⟨accv, r5.shield0, by rw [sz, em5.length]; exact hlen, F5, ρ5, S5, σ3, acc ++ [a], accv ++ [y], sm.trans (sm4.trans s5), pr.trans (pr4.trans q5), k3, r5.reshield nU (nfr accv) (plain_of r5.shield0 (fun _ z => by cases z) (fun _ z => by cases z)), em5.append ?_, by subst hr; exact up (sm4.trans s5) (pr4.trans q5) gd⟩
              simp only [EmbL]
              exact ⟨y, [], rfl, e5, rfl⟩
            · rw [if_neg hlen] at hr; exfalso; subst hr; rcases gd with ⟨_, _, z, _⟩ | ⟨_, _, z, _⟩ <;> cases z
  · have e : i = xs.length := by omega
    subst e
    rw [List.drop_length] at gd
    rcases gd with ⟨acc', s', hr, gd⟩ | ⟨cc, s', hr, gd⟩
    case inr =>
      have hr : Res.ok acc (wipeS vs S) = Res.exn cc s' := hr
      cases hr
    have hr : Res.ok acc (wipeS vs S) = Res.ok acc' s' := hr
    cases hr
    refine .inl ⟨it2, gd F ρ H accv (Same.refl _) (List.prefix_refl _) Rw (fun j x q => (wipeL_get q).1) em sm pr⟩

section
variable {elt iter : Expr} {ifs : List Expr} {scope : Scope} {own : List (Str × Nat)} {it : M (List AV)} {g : AV → M Unit} {c : M Bool} {e : M AV} {i : Nat} {y : Str} {py spos : Pos}
theorem pn_lcX (hst : X.stack = X.env :: X.outer) (hfr : X.env.frame = some X.env.locals) (hc : X.calm = true) (hN : X.N.Nodup) (hi : PIm X tg iter it) (ok : BlkOk X.N X.env.scope scope own)
    (hg : ∀ (s : Shared) (H : Hp) (C : Addr) (cl : List (Str × Addr)) (fp : List Addr), PGm (X.blk s H scope (compEnvC scope cl C X.env) fp) (Zw (own.map (·.2))) tg g)
    (ht : ∀ (s : Shared) (H : Hp) (C : Addr) (cl : List (Str × Addr)) (fp : List Addr), PTsm (X.blk s H scope (compEnvC scope cl C X.env) fp) ifs c)
    (he : ∀ (s : Shared) (H : Hp) (C : Addr) (cl : List (Str × Addr)) (fp : List Addr) (xe : Value → Shared → Prop), PEm (LMC.BlkE X s H scope (compEnvC scope cl C X.env) fp xe) elt e) (hs : ∀ x, foldedSetIterable iter X.env x = pure x := by intro _; rfl) :
    PNm X (.ListComp elt [⟨tg, iter, ifs, 0⟩] scope pos) (compXM (own.map (·.2)) it g c e) := fun W tk =>
  PE.weak (LMC.pe_lcE (W := W) (own := own) (tt := tG X.K W0 (RT X.K) c) (te := fun τ => tG X.K (LMC.WS W τ) (RE X.K) e) tk hst hfr hc hN (hi W tk) ok (pg_blk hg) ht (fun σ s H C cl fp xe tk' => he s H C cl fp xe (LMC.WS W σ) tk') hs) fun σ H Q h =>
    comp_coreE (fun _ _ _ h => h) (fun _ _ _ _ h => h) (fun _ _ _ h => h) (fun _ _ _ _ h => h) h
/-- y = [..] on one line -/
theorem psm_setLcOX (hst : X.stack = X.env :: X.outer) (hfr : X.env.frame = some X.env.locals) (hc : X.calm = true) (hN : X.N.Nodup) (hy : X.N[i]? = some y) (hyl : X.env.scope.names.lookup y = some .local)
    (hsw : swapsWith (.ListComp elt [⟨tg, iter, ifs, 0⟩] scope pos) (some (.Name y py)) spos.line X.env = pure true) (hi : PIm X tg iter it) (ok : BlkOk X.N X.env.scope scope own)
    (hg : ∀ (s : Shared) (H : Hp) (C : Addr) (cl : List (Str × Addr)) (fp : List Addr), PGm (X.blk s H scope (compEnvC scope cl C X.env) fp) (Zw (own.map (·.2))) tg g)
    (ht : ∀ (s : Shared) (H : Hp) (C : Addr) (cl : List (Str × Addr)) (fp : List Addr), PTsm (X.blk s H scope (compEnvC scope cl C X.env) fp) ifs c)
    (he : ∀ (s : Shared) (H : Hp) (C : Addr) (cl : List (Str × Addr)) (fp : List Addr) (xe : Value → Shared → Prop), PEm (LMC.BlkE X s H scope (compEnvC scope cl C X.env) fp xe) elt e) (hs : ∀ x, foldedSetIterable iter X.env x = pure x := by intro _; rfl) (hp : pn = true → i ≠ 0 := by decide) :
    PSm X pn (.Assign [.Name y py] (.ListComp elt [⟨tg, iter, ifs, 0⟩] scope pos) spos) (asgO i (compXM (own.map (·.2)) it g c e)) := fun W tk =>
  PS.weak (LMC.ps_setLcE (W := W) (own := own) (tt := tG X.K W0 (RT X.K) c) (te := fun τ => tG X.K (LMC.WS W τ) (RE X.K) e) tk hst hfr hc hN hy hyl hsw (hi W tk) ok (pg_blk hg) ht (fun σ s H C cl fp xe tk' => he s H C cl fp xe (LMC.WS W σ) tk') hs) fun σ H D ⟨U, F, ρ, S, R, p⟩ =>
    comp_coreE (fun _ _ _ h => h) (fun _ _ _ _ h => h) (fun _ _ _ h => h) (fun _ _ _ _ h => h) ⟨U, F, ρ, S, R, SPost.seq p fun F1 ρ1 S1 H1 o v s1 q1 r1 e1 p1 => by
      obtain ⟨n, rfl, L⟩ := e1
      exact p1 F1 ρ1 _ H1 (Same.refl _) (List.prefix_refl _) (r1.setOwn L) (set_pin hp)⟩
theorem psm_setLcX (hst : X.stack = X.env :: X.outer) (hfr : X.env.frame = some X.env.locals) (hc : X.calm = true) (hN : X.N.Nodup) (hy : X.N[i]? = some y) (hyl : X.env.scope.names.lookup y = some .local)
    (hsw : swapsWith (.ListComp elt [⟨tg, iter, ifs, 0⟩] scope pos) (some (.Name y py)) spos.line X.env = pure true) (hi : PIm X tg iter it) (ok : BlkOk X.N X.env.scope scope own)
    (hg : ∀ (s : Shared) (H : Hp) (C : Addr) (cl : List (Str × Addr)) (fp : List Addr), PGm (X.blk s H scope (compEnvC scope cl C X.env) fp) (Zw (own.map (·.2))) tg g)
    (ht : ∀ (s : Shared) (H : Hp) (C : Addr) (cl : List (Str × Addr)) (fp : List Addr), PTsm (X.blk s H scope (compEnvC scope cl C X.env) fp) ifs c)
    (he : ∀ (s : Shared) (H : Hp) (C : Addr) (cl : List (Str × Addr)) (fp : List Addr) (xe : Value → Shared → Prop), PEm (LMC.BlkE X s H scope (compEnvC scope cl C X.env) fp xe) elt e) (hs : ∀ x, foldedSetIterable iter X.env x = pure x := by intro _; rfl) (hp : pn = true → i ≠ 0 := by decide) :
    PSm X pn (.Assign [.Name y py] (.ListComp elt [⟨tg, iter, ifs, 0⟩] scope pos) spos) (asgM (setV i) (frM (compXM (own.map (·.2)) it g c e))) := fun W tk =>
  PS.weak (LMC.ps_setLcE (W := W) (own := own) (tt := tG X.K W0 (RT X.K) c) (te := fun τ => tG X.K (LMC.WS W τ) (RE X.K) e) tk hst hfr hc hN hy hyl hsw (hi W tk) ok (pg_blk hg) ht (fun σ s H C cl fp xe tk' => he s H C cl fp xe (LMC.WS W σ) tk') hs) fun σ H D ⟨U, F, ρ, S, R, p⟩ =>
    comp_coreE (fun _ _ _ h => h) (fun _ _ _ _ h => h) (fun _ _ _ h => h) (fun _ _ _ _ h => h) ⟨U, F, ρ, S, R, by
      have p : SPost X.K U F ρ σ pn D W (bindR (bindR (compXM (own.map (·.2)) it g c e S) fun o s => .ok o.frz s) fun a s => match setV i a s with | .ok _ s => .ok .nx s | _ => .stuck) := p
      cases z : compXM (own.map (·.2)) it g c e S with
      | stuck => rw [z] at p; exact p.elim
      | exn cc s => rw [z] at p; exact fun F' ρ' H' s' q' r' => p F' ρ' σ H' s' q' r'
      | ok o S1 =>
        rw [z] at p
        intro F1 ρ1 H1 v s1 q1 r1 e1
        obtain ⟨n, rfl, L⟩ := e1
        obtain ⟨u, hu⟩ := L.some
        obtain ⟨R2, em, sm⟩ := r1.freeze L hu
        exact p _ ρ1 _ H1 (s1.trans sm) q1 (R2.set em) (set_pin hp)⟩
end
end
end LM

/-! methods of texts -/
namespace LM
open PySem PySem.Spec L2
open PyProof.Rows hiding St frameOf passOn
variable [TabNames]
def isStrM (f : M PV) : M PV := bindM f fun p s => match coP p s with
  | .str _ => .ok p s
  | _ => .stuck
def smM (f : M PV) (g : M (List AV)) (op : Str → List AV → Option AV) : M AV := bindM (isStrM f) fun p => bindM g fun as s => match coP p s with
  | .str x => (match op x as with
    | some a => .ok a s
    | none => .stuck)
  | _ => .stuck
/-- what a method of texts makes of its arguments -/
def GoodSm (X : Cx) (op : Str → List AV → Option AV) (r : V → List V → Hp → VK → Prop) : Prop := ∀ (U F : Hp) (ρ : List Addr) (S : SS) (σ : L2.St) (H : Hp) (x : Str) (as : List AV) (vs : List V) (a : AV) (Q : VK),
  Rep X.K U F ρ S σ H → EmbL X.K F ρ as vs → op x as = some a → (∀ v, Emb X.K F ρ a v → Q v H) → r (.str x) vs H Q
theorem sm_core {X : Cx} {W : WX} {f : M PV} {g : M (List AV)} {op : Str → List AV → Option AV} {r : V → List V → Hp → VK → Prop} {to : TE} {t : TA} {σ : L2.St} {H : Hp} {Q : VK} (good : GoodSm X op r)
    (ho : ∀ σ H Q, tG X.K W (RP X.K) f σ H Q → to σ H Q) (ht : ∀ σ H Q, tG X.K W (RL X.K) g σ H Q → t σ H Q) (h : tG X.K W (RE X.K) (smM f g op) σ H Q) :
    to σ H fun x H1 => (∃ z, x = .str z) ∧ t σ H1 fun vs H2 => r x vs H2 Q := by
  obtain ⟨U, F, ρ, S, R, p⟩ := h
  refine ho _ _ _ ⟨U, F, ρ, S, R, ?_⟩
  have p : Post X.K U F ρ σ (RE X.K U σ) W Q (bindR (bindR (f S) fun p s => match coP p s with | .str _ => .ok p s | _ => .stuck) fun p => bindM g fun as s => match coP p s with
    | .str x => (match op x as with | some a => .ok a s | none => .stuck)
    | _ => .stuck) := p
  cases z : f S with
  | stuck => rw [z] at p; exact p.elim
  | exn c s => rw [z] at p; exact p
  | ok pv S1 =>
    rw [z] at p
    intro F1 ρ1 H1 v s1 q1 r1 e1
    have p := Post.up s1 q1 p
    have p : Post X.K U F1 ρ1 σ (RE X.K U σ) W Q (bindR (match coP pv S1 with | .str _ => .ok pv S1 | _ => .stuck) fun p => bindM g fun as s => match coP p s with
      | .str x => (match op x as with | some a => .ok a s | none => .stuck)
      | _ => .stuck) := p
    split at p
    · rename_i x hx
      have c := coP_ok r1 e1
      rw [hx] at c
      refine ⟨⟨x, c⟩, ht _ _ _ ⟨U, F1, ρ1, S1, r1, Post.seq p fun F2 ρ2 S2 H2 as vs s2 q2 r2 e2 p2 => ?_⟩⟩
      have c2 := coP_ok r2 (EmbP.mono s2 q2 e1)
      split at p2
      · rename_i y hy
        rw [hy] at c2
        rw [show v = V.str y from c2]
        split at p2
        · rename_i a ha
          exact good U F2 ρ2 S2 σ H2 y as vs a Q r2 e2 ha fun w ew => p2 F2 ρ2 H2 w (Same.refl _) (List.prefix_refl _) r2 ew
        · exact p2.elim
      · exact p2.elim
    · exact p.elim
theorem pm_sm {X : Cx} {id : String} {name : Str} {o e : Expr} {es : List Expr} {apos cpos : Pos} {f : M PV} {g : M (List AV)} {op : Str → List AV → Option AV} {r : V → List V → Hp → VK → Prop} (slot : Slot "str" name id) (hty : typeOf (.builtin id) = pure (.type "method_descriptor")) (rule : MtR X id r) (good : GoodSm X op r) (ho : PPm X o f) (ha : PAm X (e :: es) g)
    (hbase : attributeBase o name X.env (eval o X.env) = eval o X.env := by rfl)
    (hfew : ((backTo cpos (starEach (e :: es) X.env)).all (fun x => !x.1) && (backToKw cpos (keywordEach [] X.env)).all (fun x => x.1.isSome)
      && decide ((e :: es).length + ([] : List Keyword).length + (if ([] : List Keyword).isEmpty then 0 else 1) < 30)) = true := by rfl)
    (hline : (apos.endLine == cpos.line) = true := by rfl) (hs : starEach (e :: es) X.env = (false, eval e X.env) :: starEach es X.env := by rfl) (hplain : (backTo cpos (starEach es X.env)).any (·.1) = false := by rfl) :
    PEm X (.Call (.Attribute o name apos) (e :: es) [] cpos) (smM f g op) := fun W tk =>
  PE.weak (pe_bm PySem.F.plainAttrs_str slot hty rule (ho W tk) (ha W tk) hbase hfew hline hs hplain) fun σ H Q h => by
    have hh := sm_core (to := tG X.K W (RP X.K) f) (t := tG X.K W (RL X.K) g) good (fun _ _ _ h => h) (fun _ _ _ h => h) h
    obtain ⟨U, F, ρ, S, R, p⟩ := hh
    refine ⟨U, F, ρ, S, R, Post.imp p fun F1 ρ1 S1 H1 a v s1 q1 r1 e1 k => ?_⟩
    obtain ⟨⟨z, rfl⟩, hq⟩ := k e1
    exact ⟨rfl, hq⟩
/-! ### the methods -/
def cntA (x : Str) : List AV → Option AV
  | [.str y] => some (.int (Txt.count x y))
  | _ => none
def rfdA (x : Str) : List AV → Option AV
  | [.str y] => some (.int (Txt.rfind x y))
  | _ => none
def fndA (x : Str) : List AV → Option AV
  | [.str y] => some (.int (Txt.find x y))
  | [.str y, .int i] => some (.int (Txt.find3 x y i))
  | _ => none
def lstrA (x : Str) : List AV → Option AV
  | [.str y] => if x.length ≤ 16777216 then some (.str (Txt.lstripChars x y)) else none
  | _ => none
def strpA (x : Str) : List AV → Option AV
  | [.str y] => if x.length ≤ 16777216 then some (.str (Txt.stripChars x y)) else none
  | _ => none
def strsA : List AV → Option (List Str)
  | [] => some []
  | .str x :: r => (strsA r).map (x :: ·)
  | _ => none
def joinA (x : Str) : List AV → Option AV
  | [a] => match (match a with | .vl xs => strsA xs | .cl xs => strsA xs | .tup xs => strsA xs | .ct xs => strsA xs | _ => none) with
    | some ys => if (ys.map (·.length)).sum + ys.length * x.length ≤ 16777216 then some (.str (Txt.join x ys)) else none
    | none => none
  | _ => none
theorem embL_one {K : PySem.W.Frag} {F : Hp} {ρ : List Addr} {a : AV} {vs : List V} (h : EmbL K F ρ [a] vs) : ∃ v, vs = [v] ∧ Emb K F ρ a v := by
  simp only [EmbL] at h
  obtain ⟨v, r, rfl, h1, rfl⟩ := h
  exact ⟨v, rfl, h1⟩
theorem embL_two {K : PySem.W.Frag} {F : Hp} {ρ : List Addr} {a b : AV} {vs : List V} (h : EmbL K F ρ [a, b] vs) : ∃ v w, vs = [v, w] ∧ Emb K F ρ a v ∧ Emb K F ρ b w := by
  simp only [EmbL] at h
  obtain ⟨v, r, rfl, h1, w, r', rfl, h2, rfl⟩ := h
  exact ⟨v, w, rfl, h1, h2⟩
section
variable {X : Cx}
theorem gs_cnt : GoodSm X cntA (fun x xs H Q => ∃ a b, x = .str a ∧ xs = [.str b] ∧ Q (.int (Txt.count a b)) H) := by
  intro U F ρ S σ H x as vs a Q R e h q
  unfold cntA at h
  split at h
  · obtain ⟨v, rfl, ev⟩ := embL_one e
    cases h
    exact ⟨_, _, rfl, by rw [emb_str ev], q _ emb_int'⟩
  · cases h
theorem gs_rfd : GoodSm X rfdA (fun x xs H Q => ∃ a b, x = .str a ∧ xs = [.str b] ∧ Q (.int (Txt.rfind a b)) H) := by
  intro U F ρ S σ H x as vs a Q R e h q
  unfold rfdA at h
  split at h
  · obtain ⟨v, rfl, ev⟩ := embL_one e
    cases h
    exact ⟨_, _, rfl, by rw [emb_str ev], q _ emb_int'⟩
  · cases h
theorem gs_fnd : GoodSm X fndA (fun x xs H Q => (∃ a b, x = .str a ∧ xs = [.str b] ∧ Q (.int (Txt.find a b)) H) ∨ ∃ (a b : Str) (i : Int), x = .str a ∧ xs = [.str b, .int i] ∧ Q (.int (Txt.find3 a b i)) H) := by
  intro U F ρ S σ H x as vs a Q R e h q
  unfold fndA at h
  split at h
  · obtain ⟨v, rfl, ev⟩ := embL_one e
    cases h
    exact .inl ⟨_, _, rfl, by rw [emb_str ev], q _ emb_int'⟩
  · obtain ⟨v, w, rfl, ev, ew⟩ := embL_two e
    cases h
    exact .inr ⟨_, _, _, rfl, by rw [emb_str ev, emb_int ew], q _ emb_int'⟩
  · cases h
theorem gs_lstr : GoodSm X lstrA (fun x xs H Q => ∃ a b, x = .str a ∧ xs = [.str b] ∧ a.length ≤ sizeLine ∧ Q (.str (Txt.lstripChars a b)) H) := by
  intro U F ρ S σ H x as vs a Q R e h q
  unfold lstrA at h
  split at h
  · split at h
    · obtain ⟨v, rfl, ev⟩ := embL_one e
      cases h
      exact ⟨_, _, rfl, by rw [emb_str ev], by rw [sz]; assumption, q _ emb_str'⟩
    · cases h
  · cases h
theorem gs_strp : GoodSm X strpA (fun x xs H Q => ∃ a b, x = .str a ∧ xs = [.str b] ∧ a.length ≤ sizeLine ∧ Q (.str (Txt.stripChars a b)) H) := by
  intro U F ρ S σ H x as vs a Q R e h q
  unfold strpA at h
  split at h
  · split at h
    · obtain ⟨v, rfl, ev⟩ := embL_one e
      cases h
      exact ⟨_, _, rfl, by rw [emb_str ev], by rw [sz]; assumption, q _ emb_str'⟩
    · cases h
  · cases h
theorem strs_emb {K : PySem.W.Frag} {F : Hp} {ρ : List Addr} : ∀ {xs : List AV} {ys : List Str} {vs : List V}, strsA xs = some ys → EmbL K F ρ xs vs → vs = ys.map V.str
  | [], _, vs, h, e => by cases h; simp only [EmbL] at e; rw [e]; rfl
  | x :: xs, ys, vs, h, e => by
    simp only [EmbL] at e
    obtain ⟨v, r, rfl, e1, e2⟩ := e
    cases x with
    | str z =>
      simp only [strsA, Option.map_eq_some_iff] at h
      obtain ⟨zs, h1, rfl⟩ := h
      rw [strs_emb h1 e2, emb_str e1]
      rfl
    | _ => cases h
theorem gs_join : GoodSm X joinA (fun x xs H Q => ∃ a p, ∃ ys : List Str, x = .str a ∧ xs = [.ref p] ∧ (SqL X.K H p (ys.map V.str) ∨ SqT X.K H p (ys.map V.str)) ∧
    (ys.map (·.length)).sum + ys.length * a.length ≤ 16777216 ∧ Q (.str (Txt.join a ys)) H) := by
  intro U F ρ S σ H x as vs a Q R e h q
  unfold joinA at h
  split at h
  · rename_i b
    obtain ⟨v, rfl, ev⟩ := embL_one e
    split at h
    · rename_i ys hy
      split at h
      · rename_i hl
        cases h
        split at hy
        · simp only [Emb] at ev
          obtain ⟨p, ws, rfl, h1, h2⟩ := ev
          rw [strs_emb hy h2] at h1
          exact ⟨_, p, ys, rfl, rfl, .inl (R.lstF (SqL.of h1)), hl, q _ emb_str'⟩
        · simp only [Emb] at ev
          obtain ⟨p, ws, rfl, h1, h2⟩ := ev
          rw [strs_emb hy h2] at h1
          exact ⟨_, p, ys, rfl, rfl, .inl (R.lstF h1), hl, q _ emb_str'⟩
        · simp only [Emb] at ev
          obtain ⟨p, ws, rfl, h1, h2⟩ := ev
          rw [strs_emb hy h2] at h1
          exact ⟨_, p, ys, rfl, rfl, .inr (SqT.of (R.tupF h1)), hl, q _ emb_str'⟩
        · simp only [Emb] at ev
          obtain ⟨p, ws, rfl, h1, h2⟩ := ev
          rw [strs_emb hy h2] at h1
          exact ⟨_, p, ys, rfl, rfl, .inr (seqT0 h1), hl, q _ emb_str'⟩
        · cases hy
      · cases h
    · cases h
  · cases h
end
end LM
namespace LM
open PySem PySem.Spec L2
open PyProof.Rows hiding St frameOf passOn
variable [TabNames]
/-! ### replace, of written texts: behind a text that is written ahead of it -/
def PETm (X : Cx) (e : Expr) (f : M AV) : Prop := ∀ W, Takes X W → PET X e (tG X.K W (RE X.K) f)
def replM (y z : Str) (f : M AV) : M AV := bindM f fun a s => match a with
  | .str x => if x.length + (x.length + 1) * z.length ≤ 16777216 then .ok (.str (Txt.replace x y z)) s else .stuck
  | _ => .stuck
section
variable {X : Cx} {o b e : Expr} {f g : M AV}
theorem petm_of (h : PEm X e f) : PETm X e f := fun W tk => CwR.PET.of (h W tk)
theorem petm_repl {y z : Str} {j k : Nat} {c0 c1 apos pos : Pos} (h : PETm X o f) (hyz : (y == z) = false := by decide)
    (hst : starEach [.Constant (.str y) j c0, .Constant (.str z) k c1] X.env = [(false, eval (.Constant (.str y) j c0) X.env), (false, eval (.Constant (.str z) k c1) X.env)] := by rfl)
    (hbase : attributeBase o "replace" X.env (eval o X.env) = eval o X.env := by rfl) (hline : (apos.endLine == pos.line) = true := by rfl) :
    PETm X (.Call (.Attribute o "replace" apos) [.Constant (.str y) j c0, .Constant (.str z) k c1] [] pos) (replM y z f) := fun W tk pins s σ H Q h0 I ht =>
  CwR.pet_replT (h W tk) hyz hst hbase hline pins s σ H Q h0 I (by
    obtain ⟨U, F, ρ, S, R, p⟩ := ht
    refine ⟨U, F, ρ, S, R, Post.seq p fun F1 ρ1 S1 H1 a v s1 q1 r1 e1 p1 => ?_⟩
    split at p1
    · rename_i x
      split at p1
      · rename_i hl
        exact ⟨x, emb_str e1, hl, p1 F1 ρ1 H1 _ (Same.refl _) (List.prefix_refl _) r1 emb_str'⟩
      · exact p1.elim
    · exact p1.elim)
theorem pm_addC {z : Str} {j : Nat} {c0 pos : Pos} (hb : PETm X b g) : PEm X (.BinOp (.Constant (.str z) j c0) .Add b pos) (op2 addX (cM (.str z)) g) := fun W tk => by
  refine ⟨fun pins s σ H Q I ht => ?_⟩
  refine wpAny_BinOp (Calls.Constant_str ?_)
  obtain ⟨U, F, ρ, S, R, p⟩ := ht
  have I1 : L2.Inv X pins σ H { s with toks := s.toks + 1 } := I.tok _
  refine thn (hb W tk pins _ σ H (fun y H2 => (∃ i k, V.str z = .str i ∧ y = .str k ∧ i.length + k.length ≤ sizeLine ∧ Q (.str (i ++ k)) H2)) (by show 1 ≤ s.toks + 1; omega) I1 ⟨U, F, ρ, S, R, Post.seq p fun F1 ρ1 S1 H1 a v s1 q1 r1 e1 p1 => ?_⟩) fun u s2 h => ?_
  · cases ec : addX (.str z) a with
    | none => rw [ec] at p1; exact p1.elim
    | some c =>
      rw [ec] at p1
      cases a with
      | str x =>
        have e2 : addX (.str z) (.str x) = if z.length + x.length ≤ 16777216 then some (.str (z ++ x)) else none := addX_str
        rw [e2] at ec
        split at ec
        · rename_i hl
          cases ec
          exact ⟨z, x, rfl, emb_str e1, by rw [sz]; exact hl, p1 F1 ρ1 H1 _ (Same.refl _) (List.prefix_refl _) r1 emb_str'⟩
        · cases ec
      | _ => cases ec
  · obtain ⟨y, H2, I2, ry, q⟩ := h
    exact op_add_str pins s2 σ H2 (.str z) y (.str z s.toks) u Q I2 ⟨_, rfl⟩ ry q
end
end LM

/-! try .. except X, the clause raises nothing -/
namespace LM
open PySem PySem.Spec L2
open PyProof.Rows hiding St frameOf passOn
variable [TabNames]
def tryM (tb : List (Str × Bool)) (m h : M Fl) : M Fl := fun s => match m s with
  | .exn c s' => (match tb.lookup c with
    | some true => (match h s' with
      | .exn _ _ => .stuck
      | r => r)
    | some false => .exn c s'
    | none => .stuck)
  | r => r
def TryTb (K : PySem.W.Frag) (x : Str) (tb : List (Str × Bool)) : Prop := ∀ c b, tb.lookup c = some b → PySem.W.exmOne K (.ref (He.ga K c)) (.ref (He.ga K x)) = some b
theorem tryTb_nil {K : PySem.W.Frag} {x : Str} : TryTb K x [] := fun c b e => by cases e
theorem tryTb_cons {K : PySem.W.Frag} {x c : Str} {b : Bool} {tb : List (Str × Bool)} (h1 : PySem.W.exmOne K (.ref (He.ga K c)) (.ref (He.ga K x)) = some b) (h2 : TryTb K x tb) : TryTb K x ((c, b) :: tb) := fun c' b' e => by
  rw [List.lookup_cons] at e
  split at e
  · rename_i hq
    have hq : c' = c := by simpa using hq
    subst hq
    cases e
    exact h1
  · exact h2 c' b' e
theorem psm_try {X : Cx} {x : Str} {tb : List (Str × Bool)} {body suite : List Stmt} {b₀ : Stmt} {np pos pos' : Pos} {m h : M Fl} (hg : Gl X x) (hm : X.mg x = some (.ref (He.ga X.K x))) (htb : TryTb X.K x tb)
    (hb : ∀ (pn : List (Addr × Obj)) (xe : Value → Shared → Prop), PSsm (X.tr pn xe) false body m) (hsu : ∀ (a : Addr) (pn : List (Addr × Obj)), PSsm (X.suite a pn) false (b₀ :: suite) h)
    (hs : X.stack = X.env :: X.outer := by rfl) (hf : X.env.frame = some X.env.locals := by rfl) (hdb : (x == ("__debug__" : Str)) = false := by decide) :
    PSm X false (.Try body [.ExceptHandler (some (.Name x np)) none (b₀ :: suite) pos'] [] [] pos) (tryM tb m h) := fun W tk =>
  PS.weak (ps_try_only (c := .ref (He.ga X.K x)) (tb := fun W => tS X.K W false m) (ts := fun _ _ _ => tS X.K (fun _ _ _ _ => False) false h) (Wout := W) hs hf ⟨hg, hdb, .inl hm⟩ tk (fun W' pn xe tk' _ => hb pn xe W' tk') (fun a oe cls d pn _ _ => hsu a _ _ takes0)) fun σ H D ⟨U, F, ρ, S, R, p⟩ => ⟨U, F, ρ, S, R, by
    unfold tryM at p
    cases z : m S with
    | stuck => rw [z] at p; exact p.elim
    | ok a S1 =>
      rw [z] at p
      cases a <;> exact p
    | exn c S1 =>
      rw [z] at p
      intro F1 ρ1 σ1 H1 s1 q1 r1
      simp only at p
      cases hl : tb.lookup c with
      | none => rw [hl] at p; exact p.elim
      | some b =>
        rw [hl] at p
        refine ⟨b, htb c b hl, fun hb a ha => ?_, fun hb => ?_⟩
        · subst hb
          simp only at p
          refine ⟨U, F1, ρ1, S1, r1, ?_⟩
          cases z2 : h S1 with
          | stuck => rw [z2] at p; exact p.elim
          | exn c2 S2 => rw [z2] at p; exact p.elim
          | ok fl S2 =>
            rw [z2] at p
            have p := SPost.up (σ1 := σ1) s1 q1 (fun z => by cases z) p
            cases fl <;> exact p
        · subst hb
          exact p F1 ρ1 σ1 H1 s1 q1 r1⟩
end LM

/-! a, b, c = e1, e2, e3 -/
namespace LM
open PySem PySem.Spec L2
open PyProof.Rows hiding St frameOf passOn
variable [TabNames]
def par3M (i j l : Nat) (f : M (List AV)) : M Fl := bindM f fun as s => match as with
  | [a, b, c] => .ok .nx { s with sl := ((s.sl.set i (some (.val a))).set j (some (.val b))).set l (some (.val c)) }
  | _ => .stuck
def par3R (i j l : Nat) (as : List AV) (s : SS) : Res Fl := match as with
  | [a, b, c] => .ok .nx { s with sl := ((s.sl.set i (some (.val a))).set j (some (.val b))).set l (some (.val c)) }
  | _ => .stuck
omit [TabNames] in
@[simp] theorem par3R_3 {i j l : Nat} {a b c : AV} {s : SS} : par3R i j l [a, b, c] s = .ok .nx { s with sl := ((s.sl.set i (some (.val a))).set j (some (.val b))).set l (some (.val c)) } := Eq.trans rfl rfl
omit [TabNames] in
@[simp] theorem par3M_at {i j l : Nat} {f : M (List AV)} {s : SS} : par3M i j l f s = @bnd _ _ (f s) ⟨fun as s => par3R i j l as s⟩ := Eq.trans rfl rfl
theorem psm_par3 {X : Cx} {pn : Bool} {pos : Pos} {i j l : Nat} {x y z : Str} {a b c : Expr} {f : M (List AV)} {px py pz pt : Pos} {kt k2 pt2} (hc : X.calm = true) (hN : X.N.Nodup) (hi : X.N[i]? = some x) (hj : X.N[j]? = some y) (hl : X.N[l]? = some z) (hij : i ≠ j) (hil : i ≠ l) (hjl : j ≠ l)
    (hx : X.env.scope.names.lookup x = some .local) (hy : X.env.scope.names.lookup y = some .local) (hz : X.env.scope.names.lookup z = some .local) (ha : PAm X [a, b, c] f)
    (hw : swappedStores [.Tuple [.Name x px, .Name y py, .Name z pz] kt pt] (.Tuple [a, b, c] k2 pt2) X.env = pure (some [x, y, z]))
    (hs : swapsWithSole [.Tuple [.Name x px, .Name y py, .Name z pz] kt pt] (.Tuple [a, b, c] k2 pt2) pos.line X.env = pure false := by rfl) (hp : pn = true → i ≠ 0 ∧ j ≠ 0 ∧ l ≠ 0 := by decide) :
    PSm X pn (.Assign [.Tuple [.Name x px, .Name y py, .Name z pz] kt pt] (.Tuple [a, b, c] k2 pt2) pos) (par3M i j l f) := fun W tk =>
  PS.weak (ps_par3 hc hN hi hj hl hij hil hjl hx hy hz (ha W tk) hw hs) fun σ H D ⟨U, F, ρ, S, R, p⟩ => ⟨U, F, ρ, S, R, SPost.seq p fun F1 ρ1 S1 H1 as vs s1 q1 r1 e1 p1 => by
    have e1 : EmbL X.K F1 ρ1 as vs := e1
    match as, e1, p1 with
    | [], _, p1 => exact p1.elim
    | [_], _, p1 => exact p1.elim
    | [_, _], _, p1 => exact p1.elim
    | [a, b, c], e1, p1 =>
      simp only [EmbL] at e1
      obtain ⟨v, r, rfl, e2, v2, r2, rfl, e3, v3, r3, rfl, e4, rfl⟩ := e1
      have R2 := ((r1.set (i := i) e2).set (i := j) e3).set (i := l) e4
      exact ⟨v, v2, v3, rfl, p1 F1 ρ1 _ H1 (Same.refl _) (List.prefix_refl _) R2 fun z => by rw [List.getElem?_set_ne (hp z).2.2, List.getElem?_set_ne (hp z).2.1, List.getElem?_set_ne (hp z).1]⟩
    | _ :: _ :: _ :: _ :: _, _, p1 => exact p1.elim⟩
end LM

/-! # plain reckoning: comprehensions as wholes -/
namespace LM
open PySem L2
/-- a slot that a comprehension may use: unset, or a value -/
def Fre (sl : List (Option SV)) (i : Nat) : Prop := sl[i]? = some none ∨ ∃ a, sl[i]? = some (some (.val a))
theorem Fre.own {sl : List (Option SV)} {i : Nat} (h : Fre sl i) : ownAt sl [i] = false := by
  rcases h with h | ⟨a, h⟩ <;> simp [ownAt, h]
theorem Fre.back {sl : List (Option SV)} {i : Nat} (h : Fre sl i) (x : Option SV) : putBack sl (sl.set i x) [i] = sl := by
  have e : ∀ y, sl[i]? = some y → sl.set i y = sl := fun y hy => by
    obtain ⟨hi, e⟩ := List.getElem?_eq_some_iff.mp hy
    rw [← e]
    exact List.set_getElem_self hi
  rcases h with h | ⟨a, h⟩
  · show (sl.set i x).set i _ = sl
    rw [h, List.set_set]
    exact e _ h
  · show (sl.set i x).set i _ = sl
    rw [h, List.set_set]
    exact e _ h
theorem wipe1 {sl : List (Option SV)} {i : Nat} : wipeL sl [i] = sl.set i none := rfl
theorem compL_flt1 {τ : Type} {enc : τ → AV} {i : Nat} {c : M Bool} {e : M AV} {sl : List (Option SV)} {hp : AH} (k : τ → Bool) (f : τ → AV) : ∀ {ts : List τ} {acc : List AV} {x : Option SV}, acc.length + ts.length ≤ 16777216 →
    (∀ t ∈ ts, c ⟨sl.set i (some (.val (enc t))), hp⟩ = .ok (k t) ⟨sl.set i (some (.val (enc t))), hp⟩) →
    (∀ t ∈ ts, k t = true → e ⟨sl.set i (some (.val (enc t))), hp⟩ = .ok (f t) ⟨sl.set i (some (.val (enc t))), hp⟩) →
    compL [i] (setV i) c e (ts.map enc) acc ⟨sl.set i x, hp⟩ = .ok (acc ++ (ts.filter k).map f) ⟨sl.set i none, hp⟩
  | [], acc, x, _, _, _ => by
    rw [List.map_nil, compL_nil]
    simp [wipeS, wipe1]
  | t :: ts, acc, x, hl, hc, he => by
    rw [List.length_cons] at hl
    have hw : wipeS [i] ⟨sl.set i x, hp⟩ = ⟨sl.set i none, hp⟩ := by simp [wipeS, wipe1]
    have hg : setV i (enc t) ⟨sl.set i none, hp⟩ = .ok () ⟨sl.set i (some (.val (enc t))), hp⟩ := by rw [setV_at]; simp
    have hc0 := hc t List.mem_cons_self
    cases z : k t with
    | true =>
      rw [z] at hc0
      rw [List.map_cons, compL_yes (by rw [hw]; exact hg) hc0 (he t List.mem_cons_self z) (by omega), compL_flt1 k f (by simp; omega) (fun y hy => hc y (List.mem_cons_of_mem _ hy)) fun y hy => he y (List.mem_cons_of_mem _ hy)]
      simp [z]
    | false =>
      rw [z] at hc0
      rw [List.map_cons, compL_no (by rw [hw]; exact hg) hc0, compL_flt1 k f (by omega) (fun y hy => hc y (List.mem_cons_of_mem _ hy)) fun y hy => he y (List.mem_cons_of_mem _ hy)]
      simp [z]
theorem compM_flt1 {τ : Type} {enc : τ → AV} {i : Nat} {it : M (List AV)} {c : M Bool} {e : M AV} {sl : List (Option SV)} {hp hp0 : AH} (k : τ → Bool) (f : τ → AV) {ts : List τ} (hf : Fre sl i) (hi : it ⟨sl, hp0⟩ = .ok (ts.map enc) ⟨sl, hp⟩) (hl : ts.length ≤ 16777216)
    (hc : ∀ t ∈ ts, c ⟨sl.set i (some (.val (enc t))), hp⟩ = .ok (k t) ⟨sl.set i (some (.val (enc t))), hp⟩)
    (he : ∀ t ∈ ts, k t = true → e ⟨sl.set i (some (.val (enc t))), hp⟩ = .ok (f t) ⟨sl.set i (some (.val (enc t))), hp⟩) :
    compM [i] it (setV i) c e ⟨sl, hp0⟩ = .ok (.lst ((ts.filter k).map f)) ⟨sl, hp⟩ := by
  have hs : sl.set i (sl[i]?.getD none) = sl := by
    rcases hf with h | ⟨a, h⟩
    · rw [h]
      obtain ⟨hi, e⟩ := List.getElem?_eq_some_iff.mp h
      show sl.set i none = sl
      rw [← e]; exact List.set_getElem_self hi
    · rw [h]
      obtain ⟨hi, e⟩ := List.getElem?_eq_some_iff.mp h
      show sl.set i (some (.val a)) = sl
      rw [← e]; exact List.set_getElem_self hi
  have h := compL_flt1 (c := c) (e := e) (sl := sl) (hp := hp) k f (acc := []) (x := sl[i]?.getD none) (by simpa using hl) hc he
  rw [hs] at h
  rw [compM_at, hi, bindR_ok]
  simp only [hf.own]
  show compR sl [i] (compL [i] (setV i) c e (ts.map enc) [] ⟨sl, hp⟩) = _
  rw [h, compR_ok]
  simp [hf.back]
theorem compM_map1 {τ : Type} {enc : τ → AV} {i : Nat} {it : M (List AV)} {e : M AV} {sl : List (Option SV)} {hp hp0 : AH} (f : τ → AV) {ts : List τ} (hf : Fre sl i) (hi : it ⟨sl, hp0⟩ = .ok (ts.map enc) ⟨sl, hp⟩) (hl : ts.length ≤ 16777216)
    (he : ∀ t ∈ ts, e ⟨sl.set i (some (.val (enc t))), hp⟩ = .ok (f t) ⟨sl.set i (some (.val (enc t))), hp⟩) :
    compM [i] it (setV i) yesM e ⟨sl, hp0⟩ = .ok (.lst (ts.map f)) ⟨sl, hp⟩ := by
  have h := compM_flt1 (c := yesM) (fun _ => true) f hf hi hl (fun t _ => rfl) fun t ht _ => he t ht
  rw [h, List.filter_eq_self.mpr fun _ _ => rfl]
theorem compL_draw1 {τ : Type} {enc : τ → AV} {i : Nat} {e : M AV} {sl : List (Option SV)} (I : AH → Prop) (P : τ → Prop) : ∀ {xs acc : List AV} {x : Option SV} {hp : AH}, acc.length + xs.length ≤ 16777216 → I hp →
    (∀ x ∈ xs, ∀ hp, I hp → ∃ t hp', e ⟨sl.set i (some (.val x)), hp⟩ = .ok (enc t) ⟨sl.set i (some (.val x)), hp'⟩ ∧ I hp' ∧ P t) →
    ∃ (ts : List τ) (hp' : AH), compL [i] (setV i) yesM e xs acc ⟨sl.set i x, hp⟩ = .ok (acc ++ ts.map enc) ⟨sl.set i none, hp'⟩ ∧ I hp' ∧ ts.length = xs.length ∧ ∀ t ∈ ts, P t
  | [], acc, x, hp, _, hI, _ => ⟨[], hp, by rw [compL_nil]; simp [wipeS, wipe1], hI, rfl, fun t h => by cases h⟩
  | y :: xs, acc, x, hp, hl, hI, he => by
    rw [List.length_cons] at hl
    have hw : wipeS [i] ⟨sl.set i x, hp⟩ = ⟨sl.set i none, hp⟩ := by simp [wipeS, wipe1]
    have hg : setV i y ⟨sl.set i none, hp⟩ = .ok () ⟨sl.set i (some (.val y)), hp⟩ := by rw [setV_at]; simp
    obtain ⟨t, hp1, e1, hI1, p1⟩ := he y List.mem_cons_self hp hI
    obtain ⟨ts, hp2, e2, hI2, l2, p2⟩ := compL_draw1 (enc := enc) I P (acc := acc ++ [enc t]) (x := some (.val y)) (by simp; omega) hI1 fun y hy => he y (List.mem_cons_of_mem _ hy)
    refine ⟨t :: ts, hp2, ?_, hI2, by simp [l2], fun q hq => ?_⟩
    · rw [compL_yes (by rw [hw]; exact hg) (yesM_at) e1 (by omega), e2]
      simp
    · rcases List.mem_cons.mp hq with rfl | hq
      · exact p1
      · exact p2 q hq
theorem compM_draw1 {τ : Type} {enc : τ → AV} {i : Nat} {it : M (List AV)} {e : M AV} {sl : List (Option SV)} {hp hp0 : AH} (I : AH → Prop) (P : τ → Prop) {xs : List AV} (hf : Fre sl i) (hi : it ⟨sl, hp0⟩ = .ok xs ⟨sl, hp⟩) (hl : xs.length ≤ 16777216) (hI : I hp)
    (he : ∀ x ∈ xs, ∀ hp, I hp → ∃ t hp', e ⟨sl.set i (some (.val x)), hp⟩ = .ok (enc t) ⟨sl.set i (some (.val x)), hp'⟩ ∧ I hp' ∧ P t) :
    ∃ (ts : List τ) (hp' : AH), compM [i] it (setV i) yesM e ⟨sl, hp0⟩ = .ok (.lst (ts.map enc)) ⟨sl, hp'⟩ ∧ I hp' ∧ ts.length = xs.length ∧ ∀ t ∈ ts, P t := by
  have hs : sl.set i (sl[i]?.getD none) = sl := by
    rcases hf with h | ⟨a, h⟩
    · rw [h]
      obtain ⟨hi, e⟩ := List.getElem?_eq_some_iff.mp h
      show sl.set i none = sl
      rw [← e]; exact List.set_getElem_self hi
    · rw [h]
      obtain ⟨hi, e⟩ := List.getElem?_eq_some_iff.mp h
      show sl.set i (some (.val a)) = sl
      rw [← e]; exact List.set_getElem_self hi
  obtain ⟨ts, hp', h, k1, k2, k3⟩ := compL_draw1 (enc := enc) (i := i) (e := e) (sl := sl) (x := sl[i]?.getD none) (acc := []) I P (by simpa using hl) hI he
  rw [hs] at h
  refine ⟨ts, hp', ?_, k1, k2, k3⟩
  rw [compM_at, hi, bindR_ok]
  simp only [hf.own]
  show compR sl [i] (compL [i] (setV i) yesM e xs [] ⟨sl, hp⟩) = _
  rw [h, compR_ok]
  simp [hf.back]
@[simp] theorem notNC_at {s : SS} {a b : PV} : notNC s a b = (isNO (avP b s) (nonP a s)).map (!·) := by
  rw [← isNC_at]
theorem seq_to {a b : M Fl} {s s1 : SS} {r : Res Fl} (h1 : a s = .ok .nx s1) (h2 : b s1 = r) : seqM a b s = r := by
  rw [seqM_at, h1, seqR_nx, h2]
/-! ## picking -/
theorem atI_pick {α : Type} (f : α → AV) (L : List α) {v : Int} (h0 : 0 ≤ v) (h1 : v < (L.length : Int)) : ∃ x ∈ L, atI (L.map f) v = some (f x) := by
  obtain ⟨n, rfl⟩ := Int.eq_ofNat_of_zero_le h0
  have hn : n < L.length := by omega
  refine ⟨L[n], List.getElem_mem hn, ?_⟩
  have e : ixN (L.map f).length (n : Int) = some n := by simp [ixN, hn]
  unfold atI
  rw [e]
  simp [hn]
mutual
theorem eqA_refl : ∀ (n : Nat) (a : AV), okA n a = true → eqA a a = true
  | _, .non, _ => by simp
  | _, .bl b, _ => by simp
  | _, .int i, _ => by simp
  | _, .str x, _ => by simp
  | n + 1, .tup xs, h => by simp only [okA] at h; simp only [eqA]; exact eqL_refl n xs h
  | n + 1, .ct xs, h => by simp only [okA] at h; simp only [eqA]; exact eqL_refl n xs h
  | n + 1, .vl xs, h => by simp only [okA] at h; simp only [eqA]; exact eqL_refl n xs h
  | n + 1, .cl xs, h => by simp only [okA] at h; simp only [eqA]; exact eqL_refl n xs h
  | 0, .tup xs, h => by simp [okA] at h
  | 0, .ct xs, h => by simp [okA] at h
  | 0, .vl xs, h => by simp [okA] at h
  | 0, .cl xs, h => by simp [okA] at h
  | n, .vd _ _, h => by simp [okA] at h
  | n, .ob _ _, h => by simp [okA] at h
  | n, .ref _, h => by simp [okA] at h
theorem eqL_refl : ∀ (n : Nat) (a : List AV), okL n a = true → eqL a a = true
  | _, [], _ => by simp
  | n, x :: xs, h => by
    simp only [okL, Bool.and_eq_true] at h
    rw [eqL_cons, eqA_refl n x h.1, eqL_refl n xs h.2]
    rfl
end
end LM

namespace My
open PyProof.Rows hiding St frameOf passOn
open PySem PySem.Spec L2 LM
def b__law_pieces : M Fl := (retM (frM (lstM (consM (tupM (consM (cM (.str "abc")) (consM (cM (.str "word")) (consM (cM (.str "abc")) nilM)))) (consM (tupM (consM (cM (.str "not")) (consM (cM (.str "word")) (consM (cM (.str "not")) nilM)))) (consM (tupM (consM (cM (.str "Xy_1")) (consM (cM (.str "name")) (consM (cM (.str "Xy_1")) nilM)))) (consM (tupM (consM (cM (.str "_")) (consM (cM (.str "name")) (consM (cM (.str "_")) nilM)))) (consM (tupM (consM (cM (.str "12")) (consM (cM (.str "number")) (consM (cM (.str "12")) nilM)))) (consM (tupM (consM (cM (.str "'a\\'b'")) (consM (cM (.str "quoted")) (consM (cM (.str "a'b")) nilM)))) (consM (tupM (consM (cM (.str "''")) (consM (cM (.str "quoted")) (consM (cM (.str "")) nilM)))) (consM (tupM (consM (cM (.str ":-")) (consM (cM (.str "mark")) (consM (cM (.str ":-")) nilM)))) (consM (tupM (consM (cM (.str "<=")) (consM (cM (.str "mark")) (consM (cM (.str "<=")) nilM)))) (consM (tupM (consM (cM (.str "(")) (consM (cM (.str "mark")) (consM (cM (.str "(")) nilM)))) (consM (tupM (consM (cM (.str ")")) (consM (cM (.str "mark")) (consM (cM (.str ")")) nilM)))) (consM (tupM (consM (cM (.str ",")) (consM (cM (.str "mark")) (consM (cM (.str ",")) nilM)))) (consM (tupM (consM (cM (.str ".")) (consM (cM (.str "mark")) (consM (cM (.str ".")) nilM)))) (consM (tupM (consM (cM (.str "\n")) (consM (cM (.str "")) (consM (cM (.str "")) nilM)))) (consM (tupM (consM (cM (.str "# a remark ('\n")) (consM (cM (.str "")) (consM (cM (.str "")) nilM)))) (consM (tupM (consM (cM (.str "-7")) (consM (cM (.str "number")) (consM (cM (.str "-7")) nilM)))) (consM (tupM (consM (cM (.str "'\\n'")) (consM (cM (.str "quoted")) (consM (cM (.str "\n")) nilM)))) (consM (tupM (consM (cM (.str "!=")) (consM (cM (.str "mark")) (consM (cM (.str "!=")) nilM)))) nilM)))))))))))))))))))))
def m__law_pieces : MF := fnM 0 b__law_pieces
def b__law_signs : M Fl := (seqM
 (par3M 1 2 3 (consM (frM (lstM nilM)) (consM (cM (.int 1)) (consM (cM (.int 1)) nilM))))
 (seqM
 (forXM (pkV 0) (itM (vM 0)) (tupG 3 [(setV 4), (setV 5), (setV 6)]) (seqM
 (ifM (cmpM neW (pkV 5) (pkE (cM (.str "")))) (seqM
 (asgM (setV 7) (andVM (bvM (cmpM eqW (pkE (ixM (pkV 4) (pkE (cM (.int 0))))) (pkE (cM (.str "-"))))) (andVM (bvM (cmpM neW (pkV 1) (pkE (frM (lstM nilM))))) (orVM (bvM (cmpM neW (pkE (ixM (pkE (ixM (pkV 1) (pkE (op1 negA (cM (.int 1)))))) (pkE (cM (.int 0))))) (pkE (cM (.str "mark"))))) (bvM (cmpM eqW (pkE (ixM (pkE (ixM (pkV 1) (pkE (op1 negA (cM (.int 1)))))) (pkE (cM (.int 1))))) (pkE (cM (.str ")")))))))))
 (ifM (truM (pkV 7)) (asgM (setV 1) (frM (op2N catL (vM 1) (frM (lstM (consM (tupM (consM (cM (.str "mark")) (consM (cM (.str "-")) (consM (vM 2) (consM (vM 3) nilM))))) (consM (tupM (consM (cM (.str "number")) (consM (slM (pkV 4) (partM (cM (.int 1))) noPartM) (consM (vM 2) (consM (op2 addX (vM 3) (cM (.int 1))) nilM))))) nilM))))))) (asgM (setV 1) (frM (op2N catL (vM 1) (frM (lstM (consM (tupM (consM (vM 5) (consM (vM 6) (consM (vM 2) (consM (vM 3) nilM))))) nilM)))))))) nxM)
 (seqM
 (asgM (setV 3) (ifM (cmpM eqW (pkE (slM (pkV 4) (partM (op2 subA (cbM lenA (consM (pkV 4) nilM)) (cM (.int 1)))) noPartM)) (pkE (cM (.str "\n")))) (cM (.int 1)) (op2 addX (vM 3) (cbM lenA (consM (pkV 4) nilM)))))
 (seqM
 (asgM (setV 2) (op2 addX (vM 2) (smM (pkV 4) (consM (cM (.str "\n")) nilM) cntA)))
 (asgM (setV 3) (op2 addX (vM 3) (cM (.int 1))))))))
 (retM (vM 1))))
def m__law_signs : MF := fnM 8 b__law_signs
def b_Cutter_init : M Fl := (seqM
 (stM ["Cutter"] "text" (pkV 0) (vM 1))
 (seqM
 (stM ["Cutter"] "place" (pkV 0) (cM (.int 0)))
 (seqM
 (stM ["Sign", "Cutter"] "row" (pkV 0) (cM (.int 1)))
 (seqM
 (stM ["Cutter"] "begun" (pkV 0) (cM (.int 0)))
 (stM ["Cutter"] "signs" (pkV 0) (laM (lstM nilM)))))))
def m_Cutter_init : MF := fnM 2 b_Cutter_init
def b_Cutter_at_end : M Fl := (seqM
 (whileM (cmpM ltX (pkE (fldM ["Cutter"] "place" (pkV 0))) (pkE (cbM lenA (consM (pkE (fldM ["Cutter"] "text" (pkV 0))) nilM)))) (seqM
 (asgM (setV 1) (ixM (pkE (fldM ["Cutter"] "text" (pkV 0))) (pkE (fldM ["Cutter"] "place" (pkV 0)))))
 (seqM
 (ifM (cmpM eqW (pkV 1) (pkE (cM (.str "\n")))) (seqM
 (augFM ["Sign", "Cutter"] "row" addI (pkV 0) (cM (.int 1)))
 (stM ["Cutter"] "begun" (pkV 0) (op2 addX (fldM ["Cutter"] "place" (pkV 0)) (cM (.int 1))))) (ifM (cmpM eqW (pkV 1) (pkE (cM (.str "#")))) (seqM
 (asgM (setV 2) (smM (pkE (fldM ["Cutter"] "text" (pkV 0))) (consM (cM (.str "\n")) (consM (fldM ["Cutter"] "place" (pkV 0)) nilM)) fndA))
 (stM ["Cutter"] "place" (pkV 0) (ifM (cmpM ltX (pkV 2) (pkE (cM (.int 0)))) (op2 subA (cbM lenA (consM (pkE (fldM ["Cutter"] "text" (pkV 0))) nilM)) (cM (.int 1))) (op2 subA (vM 2) (cM (.int 1)))))) (ifM (cmpM ninC (pkV 1) (pkE (cM (.str " \t")))) (retM (cM (.bl false))) nxM)))
 (augFM ["Cutter"] "place" addI (pkV 0) (cM (.int 1))))) 1000000)
 (retM (cM (.bl true))))
def m_Cutter_at_end : MF := fnM 3 b_Cutter_at_end
def b_Cutter_run : M Fl := (seqM
 (asgM (setV 2) (fldM ["Cutter"] "place" (pkV 0)))
 (seqM
 (augFM ["Cutter"] "place" addI (pkV 0) (cM (.int 1)))
 (seqM
 (whileM (andM (cmpM ltX (pkE (fldM ["Cutter"] "place" (pkV 0))) (pkE (cbM lenA (consM (pkE (fldM ["Cutter"] "text" (pkV 0))) nilM)))) (cmpM inC (pkE (ixM (pkE (fldM ["Cutter"] "text" (pkV 0))) (pkE (fldM ["Cutter"] "place" (pkV 0))))) (pkV 1))) (augFM ["Cutter"] "place" addI (pkV 0) (cM (.int 1))) 1000000)
 (retM (slM (pkE (fldM ["Cutter"] "text" (pkV 0))) (partM (vM 2)) (partM (fldM ["Cutter"] "place" (pkV 0))))))))
def m_Cutter_run : MF := fnM 3 b_Cutter_run
def b_Cutter_signed : M Fl := (seqM
 (asgM (setV 1) (slM (pkE (fldM ["Cutter"] "text" (pkV 0))) (partM (op2 addX (fldM ["Cutter"] "place" (pkV 0)) (cM (.int 1)))) (partM (op2 addX (fldM ["Cutter"] "place" (pkV 0)) (cM (.int 2))))))
 (seqM
 (ifM (orM (cmpM neW (pkE (ixM (pkE (fldM ["Cutter"] "text" (pkV 0))) (pkE (fldM ["Cutter"] "place" (pkV 0))))) (pkE (cM (.str "-")))) (orM (cmpM eqW (pkV 1) (pkE (cM (.str "")))) (cmpM ninC (pkV 1) (pkE (cM (.str "0123456789")))))) (retM (cM (.bl false))) nxM)
 (seqM
 (ifM (cmpM eqW (pkE (fldM ["Cutter"] "signs" (pkV 0))) (pkE (frM (lstM nilM)))) (retM (cM (.bl true))) nxM)
 (seqM
 (asgM (setV 2) (ixM (pkE (fldM ["Cutter"] "signs" (pkV 0))) (pkE (op1 negA (cM (.int 1))))))
 (retM (andVM (bvM (cmpM eqW (pkE (fldM ["Sign"] "kind" (pkV 2))) (pkE (cM (.str "mark"))))) (bvM (cmpM neW (pkE (fldM ["Sign"] "said" (pkV 2))) (pkE (cM (.str ")")))))))))))
def m_Cutter_signed : MF := fnM 3 b_Cutter_signed
def b_Cutter_take_number : M Fl := (seqM
 (asgM (setV 1) (methM "run" [⟨"Cutter", 2, m_Cutter_run, []⟩] (vM 0) (consM (cM (.str "0123456789")) nilM)))
 (seqM
 (ifM (cmpM gtC (pkE (cbM lenA (consM (pkE (smM (pkV 1) (consM (cM (.str "-")) nilM) lstrA)) nilM))) (pkE (cM (.int 18)))) (raiM "BadSign") nxM)
 (retM (vM 1))))
def m_Cutter_take_number : MF := fnM 2 b_Cutter_take_number
def b_Cutter_quoted : M Fl := (seqM
 (parM 1 2 (consM (cM (.str "")) (consM (op2 addX (fldM ["Cutter"] "place" (pkV 0)) (cM (.int 1))) nilM)))
 (seqM
 (whileM (andM (cmpM ltX (pkV 2) (pkE (cbM lenA (consM (pkE (fldM ["Cutter"] "text" (pkV 0))) nilM)))) (cmpM ninC (pkE (ixM (pkE (fldM ["Cutter"] "text" (pkV 0))) (pkV 2))) (pkE (cM (.str "'\n"))))) (seqM
 (asgM (setV 3) (ixM (pkE (fldM ["Cutter"] "text" (pkV 0))) (pkV 2)))
 (seqM
 (ifM (cmpM eqW (pkV 3) (pkE (cM (.str "\\")))) (seqM
 (augX 2 (fun a b => (addI a b).or (addS a b)) (cM (.int 1)))
 (seqM
 (asgM (setV 3) (slM (pkE (fldM ["Cutter"] "text" (pkV 0))) (partM (vM 2)) (partM (op2 addX (vM 2) (cM (.int 1))))))
 (seqM
 (ifM (orM (cmpM eqW (pkV 3) (pkE (cM (.str "")))) (cmpM ninC (pkV 3) (pkE (cM (.str "'\\n"))))) (raiM "BadSign") nxM)
 (asgM (setV 3) (ifM (cmpM eqW (pkV 3) (pkE (cM (.str "n")))) (cM (.str "\n")) (vM 3)))))) nxM)
 (seqM
 (augX 1 (fun a b => (addI a b).or (addS a b)) (vM 3))
 (augX 2 (fun a b => (addI a b).or (addS a b)) (cM (.int 1)))))) 1000000)
 (seqM
 (ifM (cmpM neW (pkE (slM (pkE (fldM ["Cutter"] "text" (pkV 0))) (partM (vM 2)) (partM (op2 addX (vM 2) (cM (.int 1)))))) (pkE (cM (.str "'")))) (raiM "BadSign") nxM)
 (seqM
 (stM ["Cutter"] "place" (pkV 0) (op2 addX (vM 2) (cM (.int 1))))
 (retM (vM 1))))))
def m_Cutter_quoted : MF := fnM 4 b_Cutter_quoted
def b_Cutter_mark : M Fl := (seqM
 (forM (itM (tupM (consM (slM (pkE (fldM ["Cutter"] "text" (pkV 0))) (partM (fldM ["Cutter"] "place" (pkV 0))) (partM (op2 addX (fldM ["Cutter"] "place" (pkV 0)) (cM (.int 2))))) (consM (ixM (pkE (fldM ["Cutter"] "text" (pkV 0))) (pkE (fldM ["Cutter"] "place" (pkV 0)))) nilM)))) (setV 1) (ifM (cmpM inC (pkV 1) (pkE (cM (.ct (([":-", "?-", "<=", "!=", ":=", "(", ")", ",", ".", "!", "<", "=", "+", "-", "*"] : List Str).map AV.str))))) (seqM
 (augFM ["Cutter"] "place" addI (pkV 0) (cbM lenA (consM (pkV 1) nilM)))
 (retM (vM 1))) nxM))
 (raiM "BadSign"))
def m_Cutter_mark : MF := fnM 2 b_Cutter_mark
def b_Sign_init : M Fl := (seqM
 (stM ["Sign"] "kind" (pkV 0) (vM 1))
 (seqM
 (stM ["Sign"] "said" (pkV 0) (vM 2))
 (seqM
 (stM ["Sign", "Cutter"] "row" (pkV 0) (vM 3))
 (stM ["Sign"] "column" (pkV 0) (vM 4)))))
def m_Sign_init : MI := initM 5 "Sign" b_Sign_init
def b_Cutter_cut_one : M Fl := (seqM
 (parM 1 2 (consM (op2 addX (op2 subA (fldM ["Cutter"] "place" (pkV 0)) (fldM ["Cutter"] "begun" (pkV 0))) (cM (.int 1))) (consM (ixM (pkE (fldM ["Cutter"] "text" (pkV 0))) (pkE (fldM ["Cutter"] "place" (pkV 0)))) nilM)))
 (seqM
 (ifM (cmpM inC (pkV 2) (pkE (cM (.str "abcdefghijklmnopqrstuvwxyz")))) (parM 3 4 (consM (cM (.str "word")) (consM (methM "run" [⟨"Cutter", 2, m_Cutter_run, []⟩] (vM 0) (consM (cM (.str "abcdefghijklmnopqrstuvwxyzABCDEFGHIJKLMNOPQRSTUVWXYZ0123456789_")) nilM)) nilM))) (ifM (orM (cmpM inC (pkV 2) (pkE (cM (.str "ABCDEFGHIJKLMNOPQRSTUVWXYZ")))) (cmpM eqW (pkV 2) (pkE (cM (.str "_"))))) (parM 3 4 (consM (cM (.str "name")) (consM (methM "run" [⟨"Cutter", 2, m_Cutter_run, []⟩] (vM 0) (consM (cM (.str "abcdefghijklmnopqrstuvwxyzABCDEFGHIJKLMNOPQRSTUVWXYZ0123456789_")) nilM)) nilM))) (ifM (orM (cmpM inC (pkV 2) (pkE (cM (.str "0123456789")))) (truM (pkE (methM "signed" [⟨"Cutter", 1, m_Cutter_signed, []⟩] (vM 0) nilM)))) (parM 3 4 (consM (cM (.str "number")) (consM (methM "take_number" [⟨"Cutter", 1, m_Cutter_take_number, []⟩] (vM 0) nilM) nilM))) (ifM (cmpM eqW (pkV 2) (pkE (cM (.str "'")))) (parM 3 4 (consM (cM (.str "quoted")) (consM (methM "quoted" [⟨"Cutter", 1, m_Cutter_quoted, []⟩] (vM 0) nilM) nilM))) (parM 3 4 (consM (cM (.str "mark")) (consM (methM "mark" [⟨"Cutter", 1, m_Cutter_mark, []⟩] (vM 0) nilM) nilM)))))))
 (expM (appM (isLst (pkE (fldM ["Cutter"] "signs" (pkV 0)))) (frM (mkM 5 m_Sign_init [] (consM (vM 3) (consM (vM 4) (consM (fldM ["Sign", "Cutter"] "row" (pkV 0)) (consM (vM 1) nilM))))))))))
def m_Cutter_cut_one : MF := fnM 5 b_Cutter_cut_one
def b_cut : M Fl := (seqM
 (asgM (setV 1) (mkHM 2 "Cutter" m_Cutter_init [] (consM (vM 0) nilM)))
 (seqM
 (whileM (notM (truM (pkE (methM "at_end" [⟨"Cutter", 1, m_Cutter_at_end, []⟩] (vM 1) nilM)))) (expM (methM "cut_one" [⟨"Cutter", 1, m_Cutter_cut_one, []⟩] (vM 1) nilM)) 1000000)
 (retM (cbM tupA (consM (pkE (fldM ["Cutter"] "signs" (pkV 1))) nilM)))))
def m_cut : MF := fnM 2 b_cut
def b_Sign_shown : M Fl := (retM (tupM (consM (fldM ["Sign"] "kind" (pkV 0)) (consM (fldM ["Sign"] "said" (pkV 0)) (consM (fldM ["Sign", "Cutter"] "row" (pkV 0)) (consM (fldM ["Sign"] "column" (pkV 0)) nilM))))))
def m_Sign_shown : MF := fnM 1 b_Sign_shown
def b_fault_at : M Fl := (seqM
 (asgM (setV 1) (mkHM 2 "Cutter" m_Cutter_init [] (consM (vM 0) nilM)))
 (seqM
 (whileM (notM (truM (pkE (methM "at_end" [⟨"Cutter", 1, m_Cutter_at_end, []⟩] (vM 1) nilM)))) (seqM
 (asgM (setV 2) (op2 addX (op2 subA (fldM ["Cutter"] "place" (pkV 1)) (fldM ["Cutter"] "begun" (pkV 1))) (cM (.int 1))))
 (tryM [("BadSign", true)] (expM (methM "cut_one" [⟨"Cutter", 1, m_Cutter_cut_one, []⟩] (vM 1) nilM)) (retM (tupM (consM (fldM ["Sign", "Cutter"] "row" (pkV 1)) (consM (vM 2) nilM)))))) 1000000)
 (retM (cM .non))))
def m_fault_at : MF := fnM 3 b_fault_at
def b_marked : M Fl := (retM (op2 addX (op2 addX (cM (.str "'")) (replM "\n" "\\n" (replM "'" "\\'" (replM "\\" "\\\\" (vM 0))))) (cM (.str "'"))))
def m_marked : MF := fnM 1 b_marked
def b_laid_out : M Fl := (seqM
 (asgM (tupG 2 [(setV 1), (setV 2)]) (tupM (consM (cM (.str "")) (consM (cM (.int 1)) nilM))))
 (seqM
 (forXM (pkV 0) (itM (vM 0)) (setV 3) (seqM
 (whileM (cmpM ltX (pkV 2) (pkE (fldM ["Sign", "Cutter"] "row" (pkV 3)))) (parM 1 2 (consM (op2 addX (vM 1) (cM (.str "\n"))) (consM (op2 addX (vM 2) (cM (.int 1))) nilM))) 1000000)
 (seqM
 (ifM (andM (cmpM neW (pkV 1) (pkE (cM (.str "")))) (cmpM neW (pkE (ixM (pkV 1) (pkE (op1 negA (cM (.int 1)))))) (pkE (cM (.str "\n"))))) (augX 1 (fun a b => (addI a b).or (addS a b)) (cM (.str " "))) nxM)
 (augX 1 (fun a b => (addI a b).or (addS a b)) (ifM (cmpM eqW (pkE (fldM ["Sign"] "kind" (pkV 3))) (pkE (cM (.str "quoted")))) (callM 1 m_marked [] (consM (fldM ["Sign"] "said" (pkV 3)) nilM)) (fldM ["Sign"] "said" (pkV 3)))))))
 (retM (vM 1))))
def m_laid_out : MF := fnM 4 b_laid_out
def b_law : M Fl := (seqM
 (forM (itM (callM 2 m__law_rounds [] (consM (vM 0) (consM (cM (.int 1)) nilM)))) (setV 1) (seqM
 (asgM (setV 2) (frM (compM [12] (rng1 (consM (callM 2 m__law_roll [] (consM (vM 1) (consM (cM (.int 15)) nilM))) nilM)) (setV 12) yesM (ixM (pkE (callM 0 m__law_pieces [] nilM)) (pkE (callM 2 m__law_roll [] (consM (vM 1) (consM (cM (.int 18)) nilM))))))))
 (seqM
 (asgM (setV 3) (smM (pkE (cM (.str ""))) (consM (frM (compM [14] (itM (vM 2)) (setV 14) yesM (op2 addX (ixM (pkV 14) (pkE (cM (.int 0)))) (cM (.str " "))))) nilM) joinA))
 (seqM
 (asgM (setV 4) (callM 1 m__law_signs [] (consM (vM 2) nilM)))
 (seqM
 (asgM (setV 5) (frM (compM [13] (itM (callM 1 m_cut [] (consM (vM 3) nilM))) (setV 13) yesM (methM "shown" [⟨"Sign", 1, m_Sign_shown, []⟩] (vM 13) nilM))))
 (seqM
 (ifM (orM (cmpM neW (pkV 5) (pkV 4)) (cmpM notNC (pkE (callM 1 m_fault_at [] (consM (vM 3) nilM))) (pkE (cM .non)))) (retM (cM (.bl false))) nxM)
 (seqM
 (asgM (setV 6) (frM (compM [13] (itM (callM 1 m_cut [] (consM (callM 1 m_laid_out [] (consM (callM 1 m_cut [] (consM (vM 3) nilM)) nilM)) nilM))) (setV 13) yesM (slM (pkE (methM "shown" [⟨"Sign", 1, m_Sign_shown, []⟩] (vM 13) nilM)) noPartM (partM (cM (.int 3)))))))
 (seqM
 (ifM (cmpM neW (pkV 6) (pkE (frM (compM [13] (itM (vM 4)) (setV 13) yesM (slM (pkV 13) noPartM (partM (cM (.int 3)))))))) (retM (cM (.bl false))) nxM)
 (seqM
 (asgM (setV 7) (ixM (pkE (frM (lstM (consM (cM (.str "?")) (consM (cM (.str "'ab")) (consM (cM (.str "'a\\z'")) (consM (cM (.str "1234567890123456789")) (consM (cM (.str "$")) (consM (cM (.str "'a\nb'")) nilM))))))))) (pkE (callM 2 m__law_roll [] (consM (vM 1) (consM (cM (.int 6)) nilM))))))
 (seqM
 (parM 8 9 (consM (op2 addX (cM (.int 1)) (smM (pkV 3) (consM (cM (.str "\n")) nilM) cntA)) (consM (op2 subA (op2 addX (cM (.int 1)) (cbM lenA (consM (pkV 3) nilM))) (op2 addX (smM (pkV 3) (consM (cM (.str "\n")) nilM) rfdA) (cM (.int 1)))) nilM)))
 (seqM
 (ifM (orM (cmpM neW (pkE (toldM [("BadSign", "sign")] (callM 1 m_cut [] (consM (op2 addX (vM 3) (vM 7)) nilM)))) (pkE (cM (.str "sign")))) (cmpM neW (pkE (callM 1 m_fault_at [] (consM (op2 addX (vM 3) (vM 7)) nilM))) (pkE (tupM (consM (vM 8) (consM (vM 9) nilM)))))) (retM (cM (.bl false))) nxM)
 (seqM
 (asgM (setV 10) (smM (pkE (cM (.str ""))) (consM (frM (compM [12] (rng1 (consM (callM 2 m__law_roll [] (consM (vM 1) (consM (cM (.int 6)) nilM))) nilM)) (setV 12) yesM (ixM (pkE (cM (.str "a'\\\nB "))) (pkE (callM 2 m__law_roll [] (consM (vM 1) (consM (cM (.int 6)) nilM))))))) nilM) joinA))
 (seqM
 (asgM (setV 11) (callM 1 m_cut [] (consM (callM 1 m_marked [] (consM (vM 10) nilM)) nilM)))
 (ifM (orM (cmpM neW (pkE (cbM lenA (consM (pkV 11) nilM))) (pkE (cM (.int 1)))) (cmpM neW (pkE (methM "shown" [⟨"Sign", 1, m_Sign_shown, []⟩] (ixM (pkV 11) (pkE (cM (.int 0)))) nilM)) (pkE (tupM (consM (cM (.str "quoted")) (consM (vM 10) (consM (cM (.int 1)) (consM (cM (.int 1)) nilM)))))))) (retM (cM (.bl false))) nxM))))))))))))))
 (retM (cM (.bl true))))
def m_law : MF := fnM 15 b_law

instance : TabNames := ⟨[(("law", none), ((("law" : Str) ++ (".<locals>." : Str)) ++ ("<lambda>" : Str)))], [((fun K => He.ga K "MARKS"), [":-", "?-", "<=", "!=", ":=", "(", ")", ",", ".", "!", "<", "=", "+", "-", "*"])]⟩
def top (i : Nat) : Stmt := PySem.Challenge.pw_deducehall_k03_signs_of_a_text.main.body.getD i (.Pass ⟨0, 0, 0, 0⟩)
abbrev d__law_dice : He.DefD := ⟨("_law_dice", none), "_law_dice", "_law_dice", defArgs (top 27), defBody (top 27), defScope (top 27), [], []⟩
abbrev d__law_rounds : He.DefD := ⟨("_law_rounds", none), "_law_rounds", "_law_rounds", defArgs (top 29), defBody (top 29), defScope (top 29), [], []⟩
abbrev d__law_roll : He.DefD := ⟨("_law_roll", none), "_law_roll", "_law_roll", defArgs (top 28), defBody (top 28), defScope (top 28), [], []⟩
abbrev d__law_pieces : He.DefD := ⟨("_law_pieces", none), "_law_pieces", "_law_pieces", defArgs (top 31), defBody (top 31), defScope (top 31), [], []⟩
abbrev d__law_signs : He.DefD := ⟨("_law_signs", none), "_law_signs", "_law_signs", defArgs (top 32), defBody (top 32), defScope (top 32), [], []⟩
abbrev d_Cutter_init : He.DefD := ⟨("Cutter", some "__init__"), "__init__", "Cutter.__init__", defArgs (inClass (top 21) 0), defBody (inClass (top 21) 0), defScope (inClass (top 21) 0), [], []⟩
abbrev d_Cutter_at_end : He.DefD := ⟨("Cutter", some "at_end"), "at_end", "Cutter.at_end", defArgs (inClass (top 21) 1), defBody (inClass (top 21) 1), defScope (inClass (top 21) 1), [], []⟩
abbrev d_Cutter_run : He.DefD := ⟨("Cutter", some "run"), "run", "Cutter.run", defArgs (inClass (top 21) 2), defBody (inClass (top 21) 2), defScope (inClass (top 21) 2), [], []⟩
abbrev d_Cutter_signed : He.DefD := ⟨("Cutter", some "signed"), "signed", "Cutter.signed", defArgs (inClass (top 21) 4), defBody (inClass (top 21) 4), defScope (inClass (top 21) 4), [], []⟩
abbrev d_Cutter_take_number : He.DefD := ⟨("Cutter", some "take_number"), "take_number", "Cutter.take_number", defArgs (inClass (top 21) 5), defBody (inClass (top 21) 5), defScope (inClass (top 21) 5), [], []⟩
abbrev d_Cutter_quoted : He.DefD := ⟨("Cutter", some "quoted"), "quoted", "Cutter.quoted", defArgs (inClass (top 21) 3), defBody (inClass (top 21) 3), defScope (inClass (top 21) 3), [], []⟩
abbrev d_Cutter_mark : He.DefD := ⟨("Cutter", some "mark"), "mark", "Cutter.mark", defArgs (inClass (top 21) 6), defBody (inClass (top 21) 6), defScope (inClass (top 21) 6), [], []⟩
abbrev d_Sign_init : He.DefD := ⟨("Sign", some "__init__"), "__init__", "Sign.__init__", defArgs (inClass (top 20) 0), defBody (inClass (top 20) 0), defScope (inClass (top 20) 0), [], []⟩
abbrev d_Cutter_cut_one : He.DefD := ⟨("Cutter", some "cut_one"), "cut_one", "Cutter.cut_one", defArgs (inClass (top 21) 7), defBody (inClass (top 21) 7), defScope (inClass (top 21) 7), [], []⟩
abbrev d_cut : He.DefD := ⟨("cut", none), "cut", "cut", defArgs (top 22), defBody (top 22), defScope (top 22), [], []⟩
abbrev d_Sign_shown : He.DefD := ⟨("Sign", some "shown"), "shown", "Sign.shown", defArgs (inClass (top 20) 1), defBody (inClass (top 20) 1), defScope (inClass (top 20) 1), [], []⟩
abbrev d_fault_at : He.DefD := ⟨("fault_at", none), "fault_at", "fault_at", defArgs (top 23), defBody (top 23), defScope (top 23), [], []⟩
abbrev d_marked : He.DefD := ⟨("marked", none), "marked", "marked", defArgs (top 25), defBody (top 25), defScope (top 25), [], []⟩
abbrev d_laid_out : He.DefD := ⟨("laid_out", none), "laid_out", "laid_out", defArgs (top 24), defBody (top 24), defScope (top 24), [], []⟩
abbrev d_law : He.DefD := ⟨("law", none), "law", "law", defArgs (top 33), defBody (top 33), defScope (top 33), [], []⟩
abbrev d__law_told : He.DefD := ⟨("_law_told", none), "_law_told", "_law_told", defArgs (top 30), defBody (top 30), defScope (top 30), [], []⟩
def fn : List He.DefD := ([d__law_dice, d__law_rounds, d__law_roll, d__law_pieces, d__law_signs, d_Cutter_init, d_Cutter_at_end, d_Cutter_run, d_Cutter_signed, d_Cutter_take_number, d_Cutter_quoted, d_Cutter_mark, d_Sign_init, d_Cutter_cut_one, d_cut, d_Sign_shown] : List He.DefD) ++ ([d_fault_at, d_marked, d_laid_out, d_law, d__law_told] : List He.DefD)
def fa : List He.Fa := ([.free "abs", .free "int", .glo "_law_dice", .glo "_law_rounds", .glo "_law_roll", .free "range", .glo "_law_pieces", .free "len", .glo "_law_signs", .cls "Cutter", .noat "Cutter" "text", .noat "Cutter" "place", .noat "Cutter" "row", .cls "Sign", .noat "Sign" "row", .noat "Cutter" "begun"] : List He.Fa) ++ ([.noat "Cutter" "signs", .glo "Cutter", .meth "Cutter" "at_end", .str "SMALL" "abcdefghijklmnopqrstuvwxyz", .meth "Cutter" "run", .str "INNER" "abcdefghijklmnopqrstuvwxyzABCDEFGHIJKLMNOPQRSTUVWXYZ0123456789_", .str "GREAT" "ABCDEFGHIJKLMNOPQRSTUVWXYZ", .str "FIGURES" "0123456789", .noat "Sign" "kind", .noat "Sign" "said", .meth "Cutter" "signed", .int "MOST_FIGURES" 18, .exc "BadSign", .glo "BadSign", .meth "Cutter" "take_number", .meth "Cutter" "quoted"] : List He.Fa) ++ ([.glo "MARKS", .meth "Cutter" "mark", .noat "Sign" "column", .glo "Sign", .meth "Cutter" "cut_one", .free "tuple", .glo "cut", .meth "Sign" "shown", .exm "BadSign" "BadSign" true, .glo "fault_at", .glo "marked", .glo "laid_out", .glo "_law_told", .glo "BadSize", .glo "Broken", .glo "BadStore"] : List He.Fa) ++ ([.glo "BadGround", .glo "BadDeed", .glo "NoSuch", .glo "BadLayer", .glo "BadKind", .glo "BadRule", .mkr "Cutter", .mkr "Sign", .glo "law"] : List He.Fa)
def ex (K : PySem.W.Frag) : Bool := cxB K

section
variable {P : Program} {w : World} {K : PySem.W.Frag} {mg : Str → Option Value} {base : Heap}
theorem sc__law_told : FnScope ["_law_what"] ["_law_what"] (defScope (top 30)) := ⟨rfl, rfl, rfl, by decide +kernel, rfl, by decide +kernel, by decide +kernel⟩
theorem td__law_told (e : Fc fa fn K mg base) : TdOk K mg "_law_told" [("BadSign", "sign"), ("BadRule", "rule"), ("BadKind", "kind"), ("BadLayer", "layer"), ("NoSuch", "no such"), ("BadDeed", "deed"), ("BadGround", "ground"), ("BadStore", "store"), ("Broken", "broken"), ("BadSize", "size")] := by
  obtain ⟨fd, F⟩ := e.c.def_ 20 (d := d__law_told) rfl
  exact ⟨_, _, _, _, _, fd, _, "_law_what", _, _, _, _, _, _, F, F.bindsN fun _ _ _ _ _ _ us hl => (match us, hl with | [_], _ => rfl), rfl, sc__law_told, rfl, by first | exact Or.inl rfl | exact Or.inr (Or.inl rfl) | exact Or.inr (Or.inr rfl), fun _ => rfl, (.cons (.cons (.cons (.cons (.cons (.cons (.cons (.cons (.cons (.cons .nil)))))))))), (nm_c (e.glo 29 rfl) (nm_c (e.glo 53 rfl) (nm_c (e.glo 52 rfl) (nm_c (e.glo 51 rfl) (nm_c (e.glo 50 rfl) (nm_c (e.glo 49 rfl) (nm_c (e.glo 48 rfl) (nm_c (e.glo 47 rfl) (nm_c (e.glo 46 rfl) (nm_c (e.glo 45 rfl) nm_n)))))))))), by decide, by decide⟩
theorem sc__law_dice : FnScope ["_law_cell"] ["_law_cell"] (defScope (top 27)) := ⟨rfl, rfl, rfl, by decide +kernel, rfl, by decide +kernel, by decide +kernel⟩
theorem w__law_dice (e : Fc fa fn K mg base) {fd : FuncData} (F : FunD K d__law_dice.name d__law_dice.qual d__law_dice.params d__law_dice.body d__law_dice.scope (d__law_dice.dvs K) (d__law_dice.kws K) (He.fAd K d__law_dice.at_) fd) : FnM P w K mg base 1 (He.fAd K d__law_dice.at_) fd ["_law_cell"] m__law_dice := fn_ok F sc__law_dice fun cdv A outer s H E hr =>
   (pssm_cons
 (psm_if (pt_chn ck_lt ck_lt (pp_e (pm_sub pm_int pm_int)) (pp_v 0) (pp_e pm_int)) (pssm_one (psm_ret (pm_la (pn_lst (pam_cons (pm_abs (e.free 0 rfl) (pp_v 0)) (pam_cons pm_int (pam_cons pm_int pam_nil))))))) pssm_nil)
 (pssm_one (psm_ret (pm_la (pn_lst (pam_cons (pm_v 0) (pam_cons (pm_addX pm_int (pm_mod (pm_int1 (e.free 1 rfl) (pp_v 0)) pm_int)) (pam_cons (pm_int1 (e.free 1 rfl) (pp_e (pm_ge (pp_v 0) (pp_e (pm_pow pm_int pm_int))))) pam_nil))))))))
theorem ok__law_dice_0 (e : Fc fa fn K mg base) : CallOk P w K mg base 1 ("_law_dice", none) 1 m__law_dice [] := by
  obtain ⟨fd, F⟩ := e.c.def_ 0 (d := d__law_dice) rfl
  have h := w__law_dice (P := P) (w := w) (base := base) e F
  exact CallOk.of F h (F.bindsN fun _ _ _ _ _ _ us hl => match us, hl with | [_], _ => rfl)
theorem sc__law_rounds : FnScope ["_law_script", "_law_most", "_law_cells", "_law_cell"] ["_law_script", "_law_most"] (defScope (top 29)) := ⟨rfl, rfl, rfl, by decide +kernel, rfl, by decide +kernel, by decide +kernel⟩
theorem w__law_rounds (e : Fc fa fn K mg base) {fd : FuncData} (F : FunD K d__law_rounds.name d__law_rounds.qual d__law_rounds.params d__law_rounds.body d__law_rounds.scope (d__law_rounds.dvs K) (d__law_rounds.kws K) (He.fAd K d__law_rounds.at_) fd) : FnM P w K mg base 2 (He.fAd K d__law_rounds.at_) fd ["_law_script", "_law_most"] m__law_rounds := fn_ok F sc__law_rounds fun cdv A outer s H E hr =>
   (pssm_cons
 (psm_set sc__law_rounds.nd rfl (.inl rfl) (pm_sl (pp_v 0) pom_none (pom_some (pm_v 1))))
 (pssm_cons
 (psm_if (pt_eqW (hu100 hr) (pp_v 2) (pp_e (pm_fr (pn_lst pam_nil)))) (pssm_one (psm_set sc__law_rounds.nd rfl (.inl rfl) (pm_fr (pn_lst (pam_cons pm_int pam_nil))))) pssm_nil)
 (pssm_one (psm_ret (pm_fr (pn_lc rfl sc__law_rounds.nd (pim_seq (pm_v 2)) (own := [("_law_cell", 3)]) (blkOk_by (by rfl)) (fun s H C cl fp => (pgm_name sc__law_rounds.nd rfl (.inl rfl) zw_set)) (fun s H C cl fp => ptsm_nil) (fun s H C cl fp => (pm_cl (ok__law_dice_0 e) (hr.mono (by decide)) (e.glo 2 rfl) (pam_cons (pm_v 3) pam_nil)))))))))
theorem ok__law_rounds_0 (e : Fc fa fn K mg base) : CallOk P w K mg base 2 ("_law_rounds", none) 2 m__law_rounds [] := by
  obtain ⟨fd, F⟩ := e.c.def_ 1 (d := d__law_rounds) rfl
  have h := w__law_rounds (P := P) (w := w) (base := base) e F
  exact CallOk.of F h (F.bindsN fun _ _ _ _ _ _ us hl => match us, hl with | [_, _], _ => rfl)
theorem sc__law_roll : FnScope ["_law_dice_here", "_law_many", "_law_found"] ["_law_dice_here", "_law_many"] (defScope (top 28)) := ⟨rfl, rfl, rfl, by decide +kernel, rfl, by decide +kernel, by decide +kernel⟩
theorem w__law_roll (e : Fc fa fn K mg base) {fd : FuncData} (F : FunD K d__law_roll.name d__law_roll.qual d__law_roll.params d__law_roll.body d__law_roll.scope (d__law_roll.dvs K) (d__law_roll.kws K) (He.fAd K d__law_roll.at_) fd) : FnM P w K mg base 1 (He.fAd K d__law_roll.at_) fd ["_law_dice_here", "_law_many"] m__law_roll := fn_ok F sc__law_roll fun cdv A outer s H E hr =>
   (pssm_cons
 (psm_if (pt_w (pw_oM (pt_eqW (hu100 hr) (pp_e (pm_ix (hu1 hr) (pp_v 0) (pp_e pm_int))) (pp_e pm_int)) (pw_o1 (pt_w (pw_aM (pt_eqW (hu100 hr) (pp_e (pm_ix (hu1 hr) (pp_v 0) (pp_e pm_int))) (pp_e pm_int)) (pw_a1 (pt_gt (pp_e (pm_ix (hu1 hr) (pp_v 0) (pp_e pm_int))) (pp_e pm_int)))))))) (pssm_cons
 (psm_set sc__law_roll.nd rfl (.inl rfl) (pm_mod (pm_int1 (e.free 1 rfl) (pp_e (pm_ix (hu1 hr) (pp_v 0) (pp_e pm_int)))) (pm_v 1)))
 (pssm_cons
 (psm_asg (pm_fdiv (pm_ix (hu1 hr) (pp_v 0) (pp_e pm_int)) (pm_v 1)) (pgm_sub zp_ok.rf (hu1 hr) (pp_v 0) (pp_e pm_int)))
 (pssm_one (psm_ret (pm_v 2))))) pssm_nil)
 (pssm_cons
 (psm_asg pm_int (pgm_sub zp_ok.rf (hu1 hr) (pp_v 0) (pp_e pm_int)))
 (pssm_cons
 (psm_asg (pm_mod (pm_int1 (e.free 1 rfl) (pp_e (pm_addX (pm_addX (pm_mulI (pm_ix (hu1 hr) (pp_v 0) (pp_e pm_int)) pm_int) (pm_mulI (pm_ix (hu1 hr) (pp_v 0) (pp_e pm_int)) pm_int)) pm_int))) pm_int) (pgm_sub zp_ok.rf (hu1 hr) (pp_v 0) (pp_e pm_int)))
 (pssm_cons
 (psm_asg (pm_addX (pm_ix (hu1 hr) (pp_v 0) (pp_e pm_int)) pm_int) (pgm_sub zp_ok.rf (hu1 hr) (pp_v 0) (pp_e pm_int)))
 (pssm_one (psm_ret (pm_mod (pm_int1 (e.free 1 rfl) (pp_e (pm_addX (pm_fdiv (pm_ix (hu1 hr) (pp_v 0) (pp_e pm_int)) pm_int) (pm_ix (hu1 hr) (pp_v 0) (pp_e pm_int))))) (pm_v 1))))))))
theorem ok__law_roll_0 (e : Fc fa fn K mg base) : CallOk P w K mg base 1 ("_law_roll", none) 2 m__law_roll [] := by
  obtain ⟨fd, F⟩ := e.c.def_ 2 (d := d__law_roll) rfl
  have h := w__law_roll (P := P) (w := w) (base := base) e F
  exact CallOk.of F h (F.bindsN fun _ _ _ _ _ _ us hl => match us, hl with | [_, _], _ => rfl)
theorem sc__law_pieces : FnScope [] [] (defScope (top 31)) := ⟨rfl, rfl, rfl, by decide +kernel, rfl, by decide +kernel, by decide +kernel⟩
theorem w__law_pieces (e : Fc fa fn K mg base) {fd : FuncData} (F : FunD K d__law_pieces.name d__law_pieces.qual d__law_pieces.params d__law_pieces.body d__law_pieces.scope (d__law_pieces.dvs K) (d__law_pieces.kws K) (He.fAd K d__law_pieces.at_) fd) : FnM P w K mg base 1 (He.fAd K d__law_pieces.at_) fd [] m__law_pieces := fn_ok F sc__law_pieces fun cdv A outer s H E hr =>
   (pssm_one (psm_ret (pm_fr (pn_lst (pam_cons (pm_tup (pam_cons pm_str (pam_cons pm_str (pam_cons pm_str pam_nil)))) (pam_cons (pm_tup (pam_cons pm_str (pam_cons pm_str (pam_cons pm_str pam_nil)))) (pam_cons (pm_tup (pam_cons pm_str (pam_cons pm_str (pam_cons pm_str pam_nil)))) (pam_cons (pm_tup (pam_cons pm_str (pam_cons pm_str (pam_cons pm_str pam_nil)))) (pam_cons (pm_tup (pam_cons pm_str (pam_cons pm_str (pam_cons pm_str pam_nil)))) (pam_cons (pm_tup (pam_cons pm_str (pam_cons pm_str (pam_cons pm_str pam_nil)))) (pam_cons (pm_tup (pam_cons pm_str (pam_cons pm_str (pam_cons pm_str pam_nil)))) (pam_cons (pm_tup (pam_cons pm_str (pam_cons pm_str (pam_cons pm_str pam_nil)))) (pam_cons (pm_tup (pam_cons pm_str (pam_cons pm_str (pam_cons pm_str pam_nil)))) (pam_cons (pm_tup (pam_cons pm_str (pam_cons pm_str (pam_cons pm_str pam_nil)))) (pam_cons (pm_tup (pam_cons pm_str (pam_cons pm_str (pam_cons pm_str pam_nil)))) (pam_cons (pm_tup (pam_cons pm_str (pam_cons pm_str (pam_cons pm_str pam_nil)))) (pam_cons (pm_tup (pam_cons pm_str (pam_cons pm_str (pam_cons pm_str pam_nil)))) (pam_cons (pm_tup (pam_cons pm_str (pam_cons pm_str (pam_cons pm_str pam_nil)))) (pam_cons (pm_tup (pam_cons pm_str (pam_cons pm_str (pam_cons pm_str pam_nil)))) (pam_cons (pm_tup (pam_cons pm_str (pam_cons pm_str (pam_cons pm_str pam_nil)))) (pam_cons (pm_tup (pam_cons pm_str (pam_cons pm_str (pam_cons pm_str pam_nil)))) (pam_cons (pm_tup (pam_cons pm_str (pam_cons pm_str (pam_cons pm_str pam_nil)))) pam_nil))))))))))))))))))))))
theorem ok__law_pieces_0 (e : Fc fa fn K mg base) : CallOk P w K mg base 1 ("_law_pieces", none) 0 m__law_pieces [] := by
  obtain ⟨fd, F⟩ := e.c.def_ 3 (d := d__law_pieces) rfl
  have h := w__law_pieces (P := P) (w := w) (base := base) e F
  exact CallOk.of F h (F.bindsN fun _ _ _ _ _ _ us hl => match us, hl with | [], _ => rfl)
theorem sc__law_signs : FnScope ["_law_pieces_here", "_law_found", "_law_row", "_law_column", "_law_text", "_law_kind", "_law_said", "_law_apart_now"] ["_law_pieces_here"] (defScope (top 32)) := ⟨rfl, rfl, rfl, by decide +kernel, rfl, by decide +kernel, by decide +kernel⟩
theorem w__law_signs (e : Fc fa fn K mg base) {fd : FuncData} (F : FunD K d__law_signs.name d__law_signs.qual d__law_signs.params d__law_signs.body d__law_signs.scope (d__law_signs.dvs K) (d__law_signs.kws K) (He.fAd K d__law_signs.at_) fd) : FnM P w K mg base 1 (He.fAd K d__law_signs.at_) fd ["_law_pieces_here"] m__law_signs := fn_ok F sc__law_signs fun cdv A outer s H E hr =>
   (pssm_cons
 (psm_par3 rfl sc__law_signs.nd rfl rfl rfl (by decide) (by decide) (by decide) rfl rfl rfl (pam_cons (pm_fr (pn_lst pam_nil)) (pam_cons pm_int (pam_cons pm_int pam_nil))) rfl)
 (pssm_cons
 (psm_forX passes_dx rfl (pp_v 0) (pim_seq (pm_v 0)) (pgm_tup rfl (pgsm_cons zp_ok (pgm_name sc__law_signs.nd rfl (.inl rfl) zp_set) (pgsm_cons zp_ok (pgm_name sc__law_signs.nd rfl (.inl rfl) zp_set) (pgsm_cons zp_ok (pgm_name sc__law_signs.nd rfl (.inl rfl) zp_set) (pgsm_nil zp_ok))))) (pssm_cons
 (psm_if (pt_neW (hu100 hr) (pp_v 5) (pp_e pm_str)) (pssm_cons
 (psm_set sc__law_signs.nd rfl (.inl rfl) (pm_and (pm_eqW (hu100 hr) (pp_e (pm_ix (hu1 hr) (pp_v 4) (pp_e pm_int))) (pp_e pm_str)) (pm_and (pm_neW (hu100 hr) (pp_v 1) (pp_e (pm_fr (pn_lst pam_nil)))) (pm_one (pm_or (pm_neW (hu100 hr) (pp_e (pm_ix (hu1 hr) (pp_e (pm_ix (hu1 hr) (pp_v 1) (pp_e (pm_neg pm_int)))) (pp_e pm_int))) (pp_e pm_str)) (pm_one (pm_eqW (hu100 hr) (pp_e (pm_ix (hu1 hr) (pp_e (pm_ix (hu1 hr) (pp_v 1) (pp_e (pm_neg pm_int)))) (pp_e pm_int))) (pp_e pm_str))))))))
 (pssm_one (psm_if (pt_tru (pp_v 7)) (pssm_one (psm_set sc__law_signs.nd rfl (.inl rfl) (pm_fr (pn_cat (pm_v 1) (pm_fr (pn_lst (pam_cons (pm_tup (pam_cons pm_str (pam_cons pm_str (pam_cons (pm_v 2) (pam_cons (pm_v 3) pam_nil))))) (pam_cons (pm_tup (pam_cons pm_str (pam_cons (pm_sl (pp_v 4) (pom_some pm_int) pom_none) (pam_cons (pm_v 2) (pam_cons (pm_addX (pm_v 3) pm_int) pam_nil))))) pam_nil)))))))) (pssm_one (psm_set sc__law_signs.nd rfl (.inl rfl) (pm_fr (pn_cat (pm_v 1) (pm_fr (pn_lst (pam_cons (pm_tup (pam_cons (pm_v 5) (pam_cons (pm_v 6) (pam_cons (pm_v 2) (pam_cons (pm_v 3) pam_nil))))) pam_nil)))))))))) pssm_nil)
 (pssm_cons
 (psm_set sc__law_signs.nd rfl (.inl rfl) (pm_if (pt_eqW (hu100 hr) (pp_e (pm_sl (pp_v 4) (pom_some (pm_sub (pm_len (e.free 7 rfl) (pp_v 4)) pm_int)) pom_none)) (pp_e pm_str)) pm_int (pm_addX (pm_v 3) (pm_len (e.free 7 rfl) (pp_v 4)))))
 (pssm_cons
 (psm_set sc__law_signs.nd rfl (.inl rfl) (pm_addX (pm_v 2) (pm_sm PySem.F.slot_str_count PySem.F.type_str_count mt_count gs_cnt (pp_v 4) (pam_cons pm_str pam_nil))))
 (pssm_one (psm_set sc__law_signs.nd rfl (.inl rfl) (pm_addX (pm_v 3) pm_int)))))))
 (pssm_one (psm_ret (pm_v 1)))))
theorem ok__law_signs_0 (e : Fc fa fn K mg base) : CallOk P w K mg base 1 ("_law_signs", none) 1 m__law_signs [] := by
  obtain ⟨fd, F⟩ := e.c.def_ 4 (d := d__law_signs) rfl
  have h := w__law_signs (P := P) (w := w) (base := base) e F
  exact CallOk.of F h (F.bindsN fun _ _ _ _ _ _ us hl => match us, hl with | [_], _ => rfl)
theorem sc_Cutter_init : FnScope ["self", "text"] ["self", "text"] (defScope (inClass (top 21) 0)) := ⟨rfl, rfl, rfl, by decide +kernel, rfl, by decide +kernel, by decide +kernel⟩
theorem w_Cutter_init (e : Fc fa fn K mg base) {fd : FuncData} (F : FunD K d_Cutter_init.name d_Cutter_init.qual d_Cutter_init.params d_Cutter_init.body d_Cutter_init.scope (d_Cutter_init.dvs K) (d_Cutter_init.kws K) (He.fAd K d_Cutter_init.at_) fd) : FnM P w K mg base 1 (He.fAd K d_Cutter_init.at_) fd ["self", "text"] m_Cutter_init := fn_ok F sc_Cutter_init fun cdv A outer s H E hr =>
   (pssm_cons
 (psm_fld (fo_c (e.cls 9 rfl) (e.noat 10 rfl) fo_n) (pp_v 0) (pm_v 1))
 (pssm_cons
 (psm_fld (fo_c (e.cls 9 rfl) (e.noat 11 rfl) fo_n) (pp_v 0) pm_int)
 (pssm_cons
 (psm_fld (fo_c (e.cls 13 rfl) (e.noat 14 rfl) (fo_c (e.cls 9 rfl) (e.noat 12 rfl) fo_n)) (pp_v 0) pm_int)
 (pssm_cons
 (psm_fld (fo_c (e.cls 9 rfl) (e.noat 15 rfl) fo_n) (pp_v 0) pm_int)
 (pssm_one (psm_fld (fo_c (e.cls 9 rfl) (e.noat 16 rfl) fo_n) (pp_v 0) (pm_la (pn_lst pam_nil))))))))
theorem ok_Cutter_init_0 (e : Fc fa fn K mg base) : MkHOk P w K mg base 1 "Cutter" 2 m_Cutter_init [] := by
  obtain ⟨fd, F⟩ := e.c.def_ 5 (d := d_Cutter_init) rfl
  have h := w_Cutter_init (P := P) (w := w) (base := base) e F
  exact MkHOk.of (e.mkr 54 rfl) h (F.bindsN fun _ _ _ _ _ _ us hl => match us, hl with | [_, _], _ => rfl)
theorem sc_Cutter_at_end : FnScope ["self", "sign", "end"] ["self"] (defScope (inClass (top 21) 1)) := ⟨rfl, rfl, rfl, by decide +kernel, rfl, by decide +kernel, by decide +kernel⟩
theorem w_Cutter_at_end (e : Fc fa fn K mg base) {fd : FuncData} (F : FunD K d_Cutter_at_end.name d_Cutter_at_end.qual d_Cutter_at_end.params d_Cutter_at_end.body d_Cutter_at_end.scope (d_Cutter_at_end.dvs K) (d_Cutter_at_end.kws K) (He.fAd K d_Cutter_at_end.at_) fd) : FnM P w K mg base 1 (He.fAd K d_Cutter_at_end.at_) fd ["self"] m_Cutter_at_end := fn_ok F sc_Cutter_at_end fun cdv A outer s H E hr =>
   (pssm_cons
 (psm_while passes_dx (pt_ltX hr.units (pp_e (pm_fld (fo_c (e.cls 9 rfl) (e.noat 11 rfl) fo_n) (pp_v 0))) (pp_e (pm_len (e.free 7 rfl) (pp_e (pm_fld (fo_c (e.cls 9 rfl) (e.noat 10 rfl) fo_n) (pp_v 0)))))) (pssm_cons
 (psm_set sc_Cutter_at_end.nd rfl (.inl rfl) (pm_ix (hu1 hr) (pp_e (pm_fld (fo_c (e.cls 9 rfl) (e.noat 10 rfl) fo_n) (pp_v 0))) (pp_e (pm_fld (fo_c (e.cls 9 rfl) (e.noat 11 rfl) fo_n) (pp_v 0)))))
 (pssm_cons
 (psm_if (pt_eqW (hu100 hr) (pp_v 1) (pp_e pm_str)) (pssm_cons
 (psm_fldadd (fo_c (e.cls 13 rfl) (e.noat 14 rfl) (fo_c (e.cls 9 rfl) (e.noat 12 rfl) fo_n)) (pp_v 0) pm_int)
 (pssm_one (psm_fld (fo_c (e.cls 9 rfl) (e.noat 15 rfl) fo_n) (pp_v 0) (pm_addX (pm_fld (fo_c (e.cls 9 rfl) (e.noat 11 rfl) fo_n) (pp_v 0)) pm_int)))) (pssm_one (psm_if (pt_eqW (hu100 hr) (pp_v 1) (pp_e pm_str)) (pssm_cons
 (psm_set sc_Cutter_at_end.nd rfl (.inl rfl) (pm_sm PySem.F.slot_str_find PySem.F.type_str_find (MtR.or mt_find mt_find3) gs_fnd (pp_e (pm_fld (fo_c (e.cls 9 rfl) (e.noat 10 rfl) fo_n) (pp_v 0))) (pam_cons pm_str (pam_cons (pm_fld (fo_c (e.cls 9 rfl) (e.noat 11 rfl) fo_n) (pp_v 0)) pam_nil))))
 (pssm_one (psm_fld (fo_c (e.cls 9 rfl) (e.noat 11 rfl) fo_n) (pp_v 0) (pm_if (pt_ltX hr.units (pp_v 2) (pp_e pm_int)) (pm_sub (pm_len (e.free 7 rfl) (pp_e (pm_fld (fo_c (e.cls 9 rfl) (e.noat 10 rfl) fo_n) (pp_v 0)))) pm_int) (pm_sub (pm_v 2) pm_int))))) (pssm_one (psm_if (pt_nin (hu65 hr) (pp_v 1) (pp_e pm_str)) (pssm_one (psm_ret pm_bl)) pssm_nil)))))
 (pssm_one (psm_fldadd (fo_c (e.cls 9 rfl) (e.noat 11 rfl) fo_n) (pp_v 0) pm_int)))))
 (pssm_one (psm_ret pm_bl)))
theorem ok_Cutter_at_end_0 (e : Fc fa fn K mg base) : CallOk P w K mg base 1 ("Cutter", some "at_end") 1 m_Cutter_at_end [] := by
  obtain ⟨fd, F⟩ := e.c.def_ 6 (d := d_Cutter_at_end) rfl
  have h := w_Cutter_at_end (P := P) (w := w) (base := base) e F
  exact CallOk.of F h (F.bindsN fun _ _ _ _ _ _ us hl => match us, hl with | [_], _ => rfl)
theorem sc_Cutter_run : FnScope ["self", "good", "start"] ["self", "good"] (defScope (inClass (top 21) 2)) := ⟨rfl, rfl, rfl, by decide +kernel, rfl, by decide +kernel, by decide +kernel⟩
theorem w_Cutter_run (e : Fc fa fn K mg base) {fd : FuncData} (F : FunD K d_Cutter_run.name d_Cutter_run.qual d_Cutter_run.params d_Cutter_run.body d_Cutter_run.scope (d_Cutter_run.dvs K) (d_Cutter_run.kws K) (He.fAd K d_Cutter_run.at_) fd) : FnM P w K mg base 1 (He.fAd K d_Cutter_run.at_) fd ["self", "good"] m_Cutter_run := fn_ok F sc_Cutter_run fun cdv A outer s H E hr =>
   (pssm_cons
 (psm_set sc_Cutter_run.nd rfl (.inl rfl) (pm_fld (fo_c (e.cls 9 rfl) (e.noat 11 rfl) fo_n) (pp_v 0)))
 (pssm_cons
 (psm_fldadd (fo_c (e.cls 9 rfl) (e.noat 11 rfl) fo_n) (pp_v 0) pm_int)
 (pssm_cons
 (psm_while passes_dx (pt_w (pw_aM (pt_ltX hr.units (pp_e (pm_fld (fo_c (e.cls 9 rfl) (e.noat 11 rfl) fo_n) (pp_v 0))) (pp_e (pm_len (e.free 7 rfl) (pp_e (pm_fld (fo_c (e.cls 9 rfl) (e.noat 10 rfl) fo_n) (pp_v 0)))))) (pw_a1 (pt_in (hu65 hr) (pp_e (pm_ix (hu1 hr) (pp_e (pm_fld (fo_c (e.cls 9 rfl) (e.noat 10 rfl) fo_n) (pp_v 0))) (pp_e (pm_fld (fo_c (e.cls 9 rfl) (e.noat 11 rfl) fo_n) (pp_v 0))))) (pp_v 1))))) (pssm_one (psm_fldadd (fo_c (e.cls 9 rfl) (e.noat 11 rfl) fo_n) (pp_v 0) pm_int)))
 (pssm_one (psm_ret (pm_sl (pp_e (pm_fld (fo_c (e.cls 9 rfl) (e.noat 10 rfl) fo_n) (pp_v 0))) (pom_some (pm_v 2)) (pom_some (pm_fld (fo_c (e.cls 9 rfl) (e.noat 11 rfl) fo_n) (pp_v 0)))))))))
theorem ok_Cutter_run_0 (e : Fc fa fn K mg base) : CallOk P w K mg base 1 ("Cutter", some "run") 2 m_Cutter_run [] := by
  obtain ⟨fd, F⟩ := e.c.def_ 7 (d := d_Cutter_run) rfl
  have h := w_Cutter_run (P := P) (w := w) (base := base) e F
  exact CallOk.of F h (F.bindsN fun _ _ _ _ _ _ us hl => match us, hl with | [_, _], _ => rfl)
theorem sc_Cutter_signed : FnScope ["self", "after", "last"] ["self"] (defScope (inClass (top 21) 4)) := ⟨rfl, rfl, rfl, by decide +kernel, rfl, by decide +kernel, by decide +kernel⟩
theorem w_Cutter_signed (e : Fc fa fn K mg base) {fd : FuncData} (F : FunD K d_Cutter_signed.name d_Cutter_signed.qual d_Cutter_signed.params d_Cutter_signed.body d_Cutter_signed.scope (d_Cutter_signed.dvs K) (d_Cutter_signed.kws K) (He.fAd K d_Cutter_signed.at_) fd) : FnM P w K mg base 1 (He.fAd K d_Cutter_signed.at_) fd ["self"] m_Cutter_signed := fn_ok F sc_Cutter_signed fun cdv A outer s H E hr =>
   (pssm_cons
 (psm_set sc_Cutter_signed.nd rfl (.inl rfl) (pm_sl (pp_e (pm_fld (fo_c (e.cls 9 rfl) (e.noat 10 rfl) fo_n) (pp_v 0))) (pom_some (pm_addX (pm_fld (fo_c (e.cls 9 rfl) (e.noat 11 rfl) fo_n) (pp_v 0)) pm_int)) (pom_some (pm_addX (pm_fld (fo_c (e.cls 9 rfl) (e.noat 11 rfl) fo_n) (pp_v 0)) pm_int))))
 (pssm_cons
 (psm_if (pt_w (pw_oM (pt_neW (hu100 hr) (pp_e (pm_ix (hu1 hr) (pp_e (pm_fld (fo_c (e.cls 9 rfl) (e.noat 10 rfl) fo_n) (pp_v 0))) (pp_e (pm_fld (fo_c (e.cls 9 rfl) (e.noat 11 rfl) fo_n) (pp_v 0))))) (pp_e pm_str)) (pw_oM (pt_eqW (hu100 hr) (pp_v 1) (pp_e pm_str)) (pw_o1 (pt_nin (hu65 hr) (pp_v 1) (pp_e (pm_gstr (e.str 23 rfl)))))))) (pssm_one (psm_ret pm_bl)) pssm_nil)
 (pssm_cons
 (psm_if (pt_eqW (hu100 hr) (pp_e (pm_fld (fo_c (e.cls 9 rfl) (e.noat 16 rfl) fo_n) (pp_v 0))) (pp_e (pm_fr (pn_lst pam_nil)))) (pssm_one (psm_ret pm_bl)) pssm_nil)
 (pssm_cons
 (psm_set sc_Cutter_signed.nd rfl (.inl rfl) (pm_ix (hu1 hr) (pp_e (pm_fld (fo_c (e.cls 9 rfl) (e.noat 16 rfl) fo_n) (pp_v 0))) (pp_e (pm_neg pm_int))))
 (pssm_one (psm_ret (pm_and (pm_eqW (hu100 hr) (pp_e (pm_fld (fo_c (e.cls 13 rfl) (e.noat 24 rfl) fo_n) (pp_v 2))) (pp_e pm_str)) (pm_one (pm_neW (hu100 hr) (pp_e (pm_fld (fo_c (e.cls 13 rfl) (e.noat 25 rfl) fo_n) (pp_v 2))) (pp_e pm_str))))))))))
theorem ok_Cutter_signed_0 (e : Fc fa fn K mg base) : CallOk P w K mg base 1 ("Cutter", some "signed") 1 m_Cutter_signed [] := by
  obtain ⟨fd, F⟩ := e.c.def_ 8 (d := d_Cutter_signed) rfl
  have h := w_Cutter_signed (P := P) (w := w) (base := base) e F
  exact CallOk.of F h (F.bindsN fun _ _ _ _ _ _ us hl => match us, hl with | [_], _ => rfl)
theorem sc_Cutter_take_number : FnScope ["self", "said"] ["self"] (defScope (inClass (top 21) 5)) := ⟨rfl, rfl, rfl, by decide +kernel, rfl, by decide +kernel, by decide +kernel⟩
theorem w_Cutter_take_number (e : Fc fa fn K mg base) {fd : FuncData} (F : FunD K d_Cutter_take_number.name d_Cutter_take_number.qual d_Cutter_take_number.params d_Cutter_take_number.body d_Cutter_take_number.scope (d_Cutter_take_number.dvs K) (d_Cutter_take_number.kws K) (He.fAd K d_Cutter_take_number.at_) fd) : FnM P w K mg base 2 (He.fAd K d_Cutter_take_number.at_) fd ["self"] m_Cutter_take_number := fn_ok F sc_Cutter_take_number fun cdv A outer s H E hr =>
   (pssm_cons
 (psm_set sc_Cutter_take_number.nd rfl (.inl rfl) (pm_meth (mo_c (t := ⟨"Cutter", 2, m_Cutter_run, []⟩) (e.cls 9 rfl) (e.meth 20 rfl) (ok_Cutter_run_0 e) (hr.mono (by decide)) mo_n) (pm_v 0) (pam_cons (pm_gstr (e.str 23 rfl)) pam_nil)))
 (pssm_cons
 (psm_if (pt_gt (pp_e (pm_len (e.free 7 rfl) (pp_e (pm_sm PySem.F.slot_str_lstrip PySem.F.type_str_lstrip mt_lstripChars gs_lstr (pp_v 1) (pam_cons pm_str pam_nil))))) (pp_e (pm_gint (e.int 27 rfl)))) (pssm_one (psm_raise (e.exc 28 rfl) (e.glo 29 rfl))) pssm_nil)
 (pssm_one (psm_ret (pm_v 1)))))
theorem ok_Cutter_take_number_0 (e : Fc fa fn K mg base) : CallOk P w K mg base 2 ("Cutter", some "take_number") 1 m_Cutter_take_number [] := by
  obtain ⟨fd, F⟩ := e.c.def_ 9 (d := d_Cutter_take_number) rfl
  have h := w_Cutter_take_number (P := P) (w := w) (base := base) e F
  exact CallOk.of F h (F.bindsN fun _ _ _ _ _ _ us hl => match us, hl with | [_], _ => rfl)
theorem sc_Cutter_quoted : FnScope ["self", "said", "place", "sign"] ["self"] (defScope (inClass (top 21) 3)) := ⟨rfl, rfl, rfl, by decide +kernel, rfl, by decide +kernel, by decide +kernel⟩
theorem w_Cutter_quoted (e : Fc fa fn K mg base) {fd : FuncData} (F : FunD K d_Cutter_quoted.name d_Cutter_quoted.qual d_Cutter_quoted.params d_Cutter_quoted.body d_Cutter_quoted.scope (d_Cutter_quoted.dvs K) (d_Cutter_quoted.kws K) (He.fAd K d_Cutter_quoted.at_) fd) : FnM P w K mg base 1 (He.fAd K d_Cutter_quoted.at_) fd ["self"] m_Cutter_quoted := fn_ok F sc_Cutter_quoted fun cdv A outer s H E hr =>
   (pssm_cons
 (psm_par rfl sc_Cutter_quoted.nd rfl rfl (by decide) rfl rfl (pam_cons pm_str (pam_cons (pm_addX (pm_fld (fo_c (e.cls 9 rfl) (e.noat 11 rfl) fo_n) (pp_v 0)) pm_int) pam_nil)) rfl)
 (pssm_cons
 (psm_while passes_dx (pt_w (pw_aM (pt_ltX hr.units (pp_v 2) (pp_e (pm_len (e.free 7 rfl) (pp_e (pm_fld (fo_c (e.cls 9 rfl) (e.noat 10 rfl) fo_n) (pp_v 0)))))) (pw_a1 (pt_nin (hu65 hr) (pp_e (pm_ix (hu1 hr) (pp_e (pm_fld (fo_c (e.cls 9 rfl) (e.noat 10 rfl) fo_n) (pp_v 0))) (pp_v 2))) (pp_e pm_str))))) (pssm_cons
 (psm_set sc_Cutter_quoted.nd rfl (.inl rfl) (pm_ix (hu1 hr) (pp_e (pm_fld (fo_c (e.cls 9 rfl) (e.noat 10 rfl) fo_n) (pp_v 0))) (pp_v 2)))
 (pssm_cons
 (psm_if (pt_eqW (hu100 hr) (pp_v 3) (pp_e pm_str)) (pssm_cons
 (psm_augX sc_Cutter_quoted.nd rfl (.inl rfl) pm_int)
 (pssm_cons
 (psm_set sc_Cutter_quoted.nd rfl (.inl rfl) (pm_sl (pp_e (pm_fld (fo_c (e.cls 9 rfl) (e.noat 10 rfl) fo_n) (pp_v 0))) (pom_some (pm_v 2)) (pom_some (pm_addX (pm_v 2) pm_int))))
 (pssm_cons
 (psm_if (pt_w (pw_oM (pt_eqW (hu100 hr) (pp_v 3) (pp_e pm_str)) (pw_o1 (pt_nin (hu65 hr) (pp_v 3) (pp_e pm_str))))) (pssm_one (psm_raise (e.exc 28 rfl) (e.glo 29 rfl))) pssm_nil)
 (pssm_one (psm_set sc_Cutter_quoted.nd rfl (.inl rfl) (pm_if (pt_eqW (hu100 hr) (pp_v 3) (pp_e pm_str)) pm_str (pm_v 3))))))) pssm_nil)
 (pssm_cons
 (psm_augX sc_Cutter_quoted.nd rfl (.inl rfl) (pm_v 3))
 (pssm_one (psm_augX sc_Cutter_quoted.nd rfl (.inl rfl) pm_int))))))
 (pssm_cons
 (psm_if (pt_neW (hu100 hr) (pp_e (pm_sl (pp_e (pm_fld (fo_c (e.cls 9 rfl) (e.noat 10 rfl) fo_n) (pp_v 0))) (pom_some (pm_v 2)) (pom_some (pm_addX (pm_v 2) pm_int)))) (pp_e pm_str)) (pssm_one (psm_raise (e.exc 28 rfl) (e.glo 29 rfl))) pssm_nil)
 (pssm_cons
 (psm_fld (fo_c (e.cls 9 rfl) (e.noat 11 rfl) fo_n) (pp_v 0) (pm_addX (pm_v 2) pm_int))
 (pssm_one (psm_ret (pm_v 1)))))))
theorem ok_Cutter_quoted_0 (e : Fc fa fn K mg base) : CallOk P w K mg base 1 ("Cutter", some "quoted") 1 m_Cutter_quoted [] := by
  obtain ⟨fd, F⟩ := e.c.def_ 10 (d := d_Cutter_quoted) rfl
  have h := w_Cutter_quoted (P := P) (w := w) (base := base) e F
  exact CallOk.of F h (F.bindsN fun _ _ _ _ _ _ us hl => match us, hl with | [_], _ => rfl)
theorem sc_Cutter_mark : FnScope ["self", "said"] ["self"] (defScope (inClass (top 21) 6)) := ⟨rfl, rfl, rfl, by decide +kernel, rfl, by decide +kernel, by decide +kernel⟩
theorem w_Cutter_mark (e : Fc fa fn K mg base) {fd : FuncData} (F : FunD K d_Cutter_mark.name d_Cutter_mark.qual d_Cutter_mark.params d_Cutter_mark.body d_Cutter_mark.scope (d_Cutter_mark.dvs K) (d_Cutter_mark.kws K) (He.fAd K d_Cutter_mark.at_) fd) : FnM P w K mg base 1 (He.fAd K d_Cutter_mark.at_) fd ["self"] m_Cutter_mark := fn_ok F sc_Cutter_mark fun cdv A outer s H E hr =>
   (pssm_cons
 (psm_for passes_dx rfl (pim_seq (pm_tup (pam_cons (pm_sl (pp_e (pm_fld (fo_c (e.cls 9 rfl) (e.noat 10 rfl) fo_n) (pp_v 0))) (pom_some (pm_fld (fo_c (e.cls 9 rfl) (e.noat 11 rfl) fo_n) (pp_v 0))) (pom_some (pm_addX (pm_fld (fo_c (e.cls 9 rfl) (e.noat 11 rfl) fo_n) (pp_v 0)) pm_int))) (pam_cons (pm_ix (hu1 hr) (pp_e (pm_fld (fo_c (e.cls 9 rfl) (e.noat 10 rfl) fo_n) (pp_v 0))) (pp_e (pm_fld (fo_c (e.cls 9 rfl) (e.noat 11 rfl) fo_n) (pp_v 0)))) pam_nil)))) (pgm_name sc_Cutter_mark.nd rfl (.inl rfl) zp_set) (pssm_one (psm_if (pt_in (hu65 hr) (pp_v 1) (pp_e (pm_gtup (e.glo 32 rfl) (e.ct 0 rfl)))) (pssm_cons
 (psm_fldadd (fo_c (e.cls 9 rfl) (e.noat 11 rfl) fo_n) (pp_v 0) (pm_len (e.free 7 rfl) (pp_v 1)))
 (pssm_one (psm_ret (pm_v 1)))) pssm_nil)))
 (pssm_one (psm_raise (e.exc 28 rfl) (e.glo 29 rfl))))
theorem ok_Cutter_mark_0 (e : Fc fa fn K mg base) : CallOk P w K mg base 1 ("Cutter", some "mark") 1 m_Cutter_mark [] := by
  obtain ⟨fd, F⟩ := e.c.def_ 11 (d := d_Cutter_mark) rfl
  have h := w_Cutter_mark (P := P) (w := w) (base := base) e F
  exact CallOk.of F h (F.bindsN fun _ _ _ _ _ _ us hl => match us, hl with | [_], _ => rfl)
theorem sc_Sign_init : FnScope ["self", "kind", "said", "row", "column"] ["self", "kind", "said", "row", "column"] (defScope (inClass (top 20) 0)) := ⟨rfl, rfl, rfl, by decide +kernel, rfl, by decide +kernel, by decide +kernel⟩
theorem w_Sign_init (e : Fc fa fn K mg base) {fd : FuncData} (F : FunD K d_Sign_init.name d_Sign_init.qual d_Sign_init.params d_Sign_init.body d_Sign_init.scope (d_Sign_init.dvs K) (d_Sign_init.kws K) (He.fAd K d_Sign_init.at_) fd) : FnI P w K mg base 1 (He.fAd K d_Sign_init.at_) fd ["self", "kind", "said", "row", "column"] "Sign" m_Sign_init := init_ok F sc_Sign_init (by decide) (by decide) fun cdv A outer s H E hr =>
   (pssm_cons
 (psm_fld (fo_c (e.cls 13 rfl) (e.noat 24 rfl) fo_n) (pp_v 0) (pm_v 1))
 (pssm_cons
 (psm_fld (fo_c (e.cls 13 rfl) (e.noat 25 rfl) fo_n) (pp_v 0) (pm_v 2))
 (pssm_cons
 (psm_fld (fo_c (e.cls 13 rfl) (e.noat 14 rfl) (fo_c (e.cls 9 rfl) (e.noat 12 rfl) fo_n)) (pp_v 0) (pm_v 3))
 (pssm_one (psm_fld (fo_c (e.cls 13 rfl) (e.noat 34 rfl) fo_n) (pp_v 0) (pm_v 4))))))
theorem ok_Sign_init_0 (e : Fc fa fn K mg base) : MkOk P w K mg base 1 "Sign" 5 m_Sign_init [] := by
  obtain ⟨fd, F⟩ := e.c.def_ 12 (d := d_Sign_init) rfl
  have h := w_Sign_init (P := P) (w := w) (base := base) e F
  exact MkOk.of (e.mkr 55 rfl) h (F.bindsN fun _ _ _ _ _ _ us hl => match us, hl with | [_, _, _, _, _], _ => rfl)
theorem sc_Cutter_cut_one : FnScope ["self", "column", "first", "kind", "said"] ["self"] (defScope (inClass (top 21) 7)) := ⟨rfl, rfl, rfl, by decide +kernel, rfl, by decide +kernel, by decide +kernel⟩
theorem w_Cutter_cut_one (e : Fc fa fn K mg base) {fd : FuncData} (F : FunD K d_Cutter_cut_one.name d_Cutter_cut_one.qual d_Cutter_cut_one.params d_Cutter_cut_one.body d_Cutter_cut_one.scope (d_Cutter_cut_one.dvs K) (d_Cutter_cut_one.kws K) (He.fAd K d_Cutter_cut_one.at_) fd) : FnM P w K mg base 3 (He.fAd K d_Cutter_cut_one.at_) fd ["self"] m_Cutter_cut_one := fn_ok F sc_Cutter_cut_one fun cdv A outer s H E hr =>
   (pssm_cons
 (psm_par rfl sc_Cutter_cut_one.nd rfl rfl (by decide) rfl rfl (pam_cons (pm_addX (pm_sub (pm_fld (fo_c (e.cls 9 rfl) (e.noat 11 rfl) fo_n) (pp_v 0)) (pm_fld (fo_c (e.cls 9 rfl) (e.noat 15 rfl) fo_n) (pp_v 0))) pm_int) (pam_cons (pm_ix (hu1 hr) (pp_e (pm_fld (fo_c (e.cls 9 rfl) (e.noat 10 rfl) fo_n) (pp_v 0))) (pp_e (pm_fld (fo_c (e.cls 9 rfl) (e.noat 11 rfl) fo_n) (pp_v 0)))) pam_nil)) rfl)
 (pssm_cons
 (psm_if (pt_in (hu65 hr) (pp_v 2) (pp_e (pm_gstr (e.str 19 rfl)))) (pssm_one (psm_par rfl sc_Cutter_cut_one.nd rfl rfl (by decide) rfl rfl (pam_cons pm_str (pam_cons (pm_meth (mo_c (t := ⟨"Cutter", 2, m_Cutter_run, []⟩) (e.cls 9 rfl) (e.meth 20 rfl) (ok_Cutter_run_0 e) (hr.mono (by decide)) mo_n) (pm_v 0) (pam_cons (pm_gstr (e.str 21 rfl)) pam_nil)) pam_nil)) rfl)) (pssm_one (psm_if (pt_w (pw_oM (pt_in (hu65 hr) (pp_v 2) (pp_e (pm_gstr (e.str 22 rfl)))) (pw_o1 (pt_eqW (hu100 hr) (pp_v 2) (pp_e pm_str))))) (pssm_one (psm_par rfl sc_Cutter_cut_one.nd rfl rfl (by decide) rfl rfl (pam_cons pm_str (pam_cons (pm_meth (mo_c (t := ⟨"Cutter", 2, m_Cutter_run, []⟩) (e.cls 9 rfl) (e.meth 20 rfl) (ok_Cutter_run_0 e) (hr.mono (by decide)) mo_n) (pm_v 0) (pam_cons (pm_gstr (e.str 21 rfl)) pam_nil)) pam_nil)) rfl)) (pssm_one (psm_if (pt_w (pw_oM (pt_in (hu65 hr) (pp_v 2) (pp_e (pm_gstr (e.str 23 rfl)))) (pw_o1 (pt_tru (pp_e (pm_meth0 (mo_c (t := ⟨"Cutter", 1, m_Cutter_signed, []⟩) (e.cls 9 rfl) (e.meth 26 rfl) (ok_Cutter_signed_0 e) (hr.mono (by decide)) mo_n) (pm_v 0))))))) (pssm_one (psm_par rfl sc_Cutter_cut_one.nd rfl rfl (by decide) rfl rfl (pam_cons pm_str (pam_cons (pm_meth0 (mo_c (t := ⟨"Cutter", 1, m_Cutter_take_number, []⟩) (e.cls 9 rfl) (e.meth 30 rfl) (ok_Cutter_take_number_0 e) (hr.mono (by decide)) mo_n) (pm_v 0)) pam_nil)) rfl)) (pssm_one (psm_if (pt_eqW (hu100 hr) (pp_v 2) (pp_e pm_str)) (pssm_one (psm_par rfl sc_Cutter_cut_one.nd rfl rfl (by decide) rfl rfl (pam_cons pm_str (pam_cons (pm_meth0 (mo_c (t := ⟨"Cutter", 1, m_Cutter_quoted, []⟩) (e.cls 9 rfl) (e.meth 31 rfl) (ok_Cutter_quoted_0 e) (hr.mono (by decide)) mo_n) (pm_v 0)) pam_nil)) rfl)) (pssm_one (psm_par rfl sc_Cutter_cut_one.nd rfl rfl (by decide) rfl rfl (pam_cons pm_str (pam_cons (pm_meth0 (mo_c (t := ⟨"Cutter", 1, m_Cutter_mark, []⟩) (e.cls 9 rfl) (e.meth 33 rfl) (ok_Cutter_mark_0 e) (hr.mono (by decide)) mo_n) (pm_v 0)) pam_nil)) rfl)))))))))
 (pssm_one (psm_expr (pm_append (pp_e (pm_fld (fo_c (e.cls 9 rfl) (e.noat 16 rfl) fo_n) (pp_v 0))) (pm_fr (pn_mk (ok_Sign_init_0 e) (hr.mono (by decide)) (e.glo 35 rfl) (pam_cons (pm_v 3) (pam_cons (pm_v 4) (pam_cons (pm_fld (fo_c (e.cls 13 rfl) (e.noat 14 rfl) (fo_c (e.cls 9 rfl) (e.noat 12 rfl) fo_n)) (pp_v 0)) (pam_cons (pm_v 1) pam_nil)))))))))))
theorem ok_Cutter_cut_one_0 (e : Fc fa fn K mg base) : CallOk P w K mg base 3 ("Cutter", some "cut_one") 1 m_Cutter_cut_one [] := by
  obtain ⟨fd, F⟩ := e.c.def_ 13 (d := d_Cutter_cut_one) rfl
  have h := w_Cutter_cut_one (P := P) (w := w) (base := base) e F
  exact CallOk.of F h (F.bindsN fun _ _ _ _ _ _ us hl => match us, hl with | [_], _ => rfl)
theorem sc_cut : FnScope ["text", "cutter"] ["text"] (defScope (top 22)) := ⟨rfl, rfl, rfl, by decide +kernel, rfl, by decide +kernel, by decide +kernel⟩
theorem w_cut (e : Fc fa fn K mg base) {fd : FuncData} (F : FunD K d_cut.name d_cut.qual d_cut.params d_cut.body d_cut.scope (d_cut.dvs K) (d_cut.kws K) (He.fAd K d_cut.at_) fd) : FnM P w K mg base 4 (He.fAd K d_cut.at_) fd ["text"] m_cut := fn_ok F sc_cut fun cdv A outer s H E hr =>
   (pssm_cons
 (psm_set sc_cut.nd rfl (.inl rfl) (pm_mkH (ok_Cutter_init_0 e) (hr.mono (by decide)) (e.glo 17 rfl) (pam_cons (pm_v 0) pam_nil)))
 (pssm_cons
 (psm_while passes_dx (pt_nt (pt_tru (pp_e (pm_meth0 (mo_c (t := ⟨"Cutter", 1, m_Cutter_at_end, []⟩) (e.cls 9 rfl) (e.meth 18 rfl) (ok_Cutter_at_end_0 e) (hr.mono (by decide)) mo_n) (pm_v 1))))) (pssm_one (psm_expr (pm_meth0 (mo_c (t := ⟨"Cutter", 1, m_Cutter_cut_one, []⟩) (e.cls 9 rfl) (e.meth 36 rfl) (ok_Cutter_cut_one_0 e) (hr.mono (by decide)) mo_n) (pm_v 1)))))
 (pssm_one (psm_ret (pm_tuple (e.free 37 rfl) (pp_e (pm_fld (fo_c (e.cls 9 rfl) (e.noat 16 rfl) fo_n) (pp_v 1))))))))
theorem ok_cut_0 (e : Fc fa fn K mg base) : CallOk P w K mg base 4 ("cut", none) 1 m_cut [] := by
  obtain ⟨fd, F⟩ := e.c.def_ 14 (d := d_cut) rfl
  have h := w_cut (P := P) (w := w) (base := base) e F
  exact CallOk.of F h (F.bindsN fun _ _ _ _ _ _ us hl => match us, hl with | [_], _ => rfl)
theorem sc_Sign_shown : FnScope ["self"] ["self"] (defScope (inClass (top 20) 1)) := ⟨rfl, rfl, rfl, by decide +kernel, rfl, by decide +kernel, by decide +kernel⟩
theorem w_Sign_shown (e : Fc fa fn K mg base) {fd : FuncData} (F : FunD K d_Sign_shown.name d_Sign_shown.qual d_Sign_shown.params d_Sign_shown.body d_Sign_shown.scope (d_Sign_shown.dvs K) (d_Sign_shown.kws K) (He.fAd K d_Sign_shown.at_) fd) : FnM P w K mg base 1 (He.fAd K d_Sign_shown.at_) fd ["self"] m_Sign_shown := fn_ok F sc_Sign_shown fun cdv A outer s H E hr =>
   (pssm_one (psm_ret (pm_tup (pam_cons (pm_fld (fo_c (e.cls 13 rfl) (e.noat 24 rfl) fo_n) (pp_v 0)) (pam_cons (pm_fld (fo_c (e.cls 13 rfl) (e.noat 25 rfl) fo_n) (pp_v 0)) (pam_cons (pm_fld (fo_c (e.cls 13 rfl) (e.noat 14 rfl) (fo_c (e.cls 9 rfl) (e.noat 12 rfl) fo_n)) (pp_v 0)) (pam_cons (pm_fld (fo_c (e.cls 13 rfl) (e.noat 34 rfl) fo_n) (pp_v 0)) pam_nil)))))))
theorem ok_Sign_shown_0 (e : Fc fa fn K mg base) : CallOk P w K mg base 1 ("Sign", some "shown") 1 m_Sign_shown [] := by
  obtain ⟨fd, F⟩ := e.c.def_ 15 (d := d_Sign_shown) rfl
  have h := w_Sign_shown (P := P) (w := w) (base := base) e F
  exact CallOk.of F h (F.bindsN fun _ _ _ _ _ _ us hl => match us, hl with | [_], _ => rfl)
theorem sc_fault_at : FnScope ["text", "cutter", "column"] ["text"] (defScope (top 23)) := ⟨rfl, rfl, rfl, by decide +kernel, rfl, by decide +kernel, by decide +kernel⟩
theorem w_fault_at (e : Fc fa fn K mg base) {fd : FuncData} (F : FunD K d_fault_at.name d_fault_at.qual d_fault_at.params d_fault_at.body d_fault_at.scope (d_fault_at.dvs K) (d_fault_at.kws K) (He.fAd K d_fault_at.at_) fd) : FnM P w K mg base 4 (He.fAd K d_fault_at.at_) fd ["text"] m_fault_at := fn_ok F sc_fault_at fun cdv A outer s H E hr =>
   (pssm_cons
 (psm_set sc_fault_at.nd rfl (.inl rfl) (pm_mkH (ok_Cutter_init_0 e) (hr.mono (by decide)) (e.glo 17 rfl) (pam_cons (pm_v 0) pam_nil)))
 (pssm_cons
 (psm_while passes_dx (pt_nt (pt_tru (pp_e (pm_meth0 (mo_c (t := ⟨"Cutter", 1, m_Cutter_at_end, []⟩) (e.cls 9 rfl) (e.meth 18 rfl) (ok_Cutter_at_end_0 e) (hr.mono (by decide)) mo_n) (pm_v 1))))) (pssm_cons
 (psm_set sc_fault_at.nd rfl (.inl rfl) (pm_addX (pm_sub (pm_fld (fo_c (e.cls 9 rfl) (e.noat 11 rfl) fo_n) (pp_v 1)) (pm_fld (fo_c (e.cls 9 rfl) (e.noat 15 rfl) fo_n) (pp_v 1))) pm_int))
 (pssm_one (psm_try rfl (e.glo 29 rfl) (tryTb_cons (e.exm 40 rfl) tryTb_nil) (fun pn xe => (pssm_one (psm_expr (pm_meth0 (mo_c (t := ⟨"Cutter", 1, m_Cutter_cut_one, []⟩) (e.cls 9 rfl) (e.meth 36 rfl) (ok_Cutter_cut_one_0 e) (hr.mono (by decide)) mo_n) (pm_v 1))))) (fun a pn => (pssm_one (psm_ret (pm_tup (pam_cons (pm_fld (fo_c (e.cls 13 rfl) (e.noat 14 rfl) (fo_c (e.cls 9 rfl) (e.noat 12 rfl) fo_n)) (pp_v 1)) (pam_cons (pm_v 2) pam_nil))))))))))
 (pssm_one (psm_ret pm_non))))
theorem ok_fault_at_0 (e : Fc fa fn K mg base) : CallOk P w K mg base 4 ("fault_at", none) 1 m_fault_at [] := by
  obtain ⟨fd, F⟩ := e.c.def_ 16 (d := d_fault_at) rfl
  have h := w_fault_at (P := P) (w := w) (base := base) e F
  exact CallOk.of F h (F.bindsN fun _ _ _ _ _ _ us hl => match us, hl with | [_], _ => rfl)
theorem sc_marked : FnScope ["said"] ["said"] (defScope (top 25)) := ⟨rfl, rfl, rfl, by decide +kernel, rfl, by decide +kernel, by decide +kernel⟩
theorem w_marked (e : Fc fa fn K mg base) {fd : FuncData} (F : FunD K d_marked.name d_marked.qual d_marked.params d_marked.body d_marked.scope (d_marked.dvs K) (d_marked.kws K) (He.fAd K d_marked.at_) fd) : FnM P w K mg base 1 (He.fAd K d_marked.at_) fd ["said"] m_marked := fn_ok F sc_marked fun cdv A outer s H E hr =>
   (pssm_one (psm_ret (pm_addX (pm_addC (petm_repl (petm_repl (petm_repl (petm_of (pm_v 0)))))) pm_str)))
theorem ok_marked_0 (e : Fc fa fn K mg base) : CallOk P w K mg base 1 ("marked", none) 1 m_marked [] := by
  obtain ⟨fd, F⟩ := e.c.def_ 17 (d := d_marked) rfl
  have h := w_marked (P := P) (w := w) (base := base) e F
  exact CallOk.of F h (F.bindsN fun _ _ _ _ _ _ us hl => match us, hl with | [_], _ => rfl)
theorem sc_laid_out : FnScope ["signs", "text", "row", "sign"] ["signs"] (defScope (top 24)) := ⟨rfl, rfl, rfl, by decide +kernel, rfl, by decide +kernel, by decide +kernel⟩
theorem w_laid_out (e : Fc fa fn K mg base) {fd : FuncData} (F : FunD K d_laid_out.name d_laid_out.qual d_laid_out.params d_laid_out.body d_laid_out.scope (d_laid_out.dvs K) (d_laid_out.kws K) (He.fAd K d_laid_out.at_) fd) : FnM P w K mg base 2 (He.fAd K d_laid_out.at_) fd ["signs"] m_laid_out := fn_ok F sc_laid_out fun cdv A outer s H E hr =>
   (pssm_cons
 (psm_asg (pm_tup (pam_cons pm_str (pam_cons pm_int pam_nil))) (pgm_tup rfl (pgsm_cons zp_ok (pgm_name sc_laid_out.nd rfl (.inl rfl) zp_set) (pgsm_cons zp_ok (pgm_name sc_laid_out.nd rfl (.inl rfl) zp_set) (pgsm_nil zp_ok)))))
 (pssm_cons
 (psm_forX passes_dx rfl (pp_v 0) (pim_seq (pm_v 0)) (pgm_name sc_laid_out.nd rfl (.inl rfl) zp_set) (pssm_cons
 (psm_while passes_dx (pt_ltX hr.units (pp_v 2) (pp_e (pm_fld (fo_c (e.cls 13 rfl) (e.noat 14 rfl) (fo_c (e.cls 9 rfl) (e.noat 12 rfl) fo_n)) (pp_v 3)))) (pssm_one (psm_par rfl sc_laid_out.nd rfl rfl (by decide) rfl rfl (pam_cons (pm_addX (pm_v 1) pm_str) (pam_cons (pm_addX (pm_v 2) pm_int) pam_nil)) rfl)))
 (pssm_cons
 (psm_if (pt_w (pw_aM (pt_neW (hu100 hr) (pp_v 1) (pp_e pm_str)) (pw_a1 (pt_neW (hu100 hr) (pp_e (pm_ix (hu1 hr) (pp_v 1) (pp_e (pm_neg pm_int)))) (pp_e pm_str))))) (pssm_one (psm_augX sc_laid_out.nd rfl (.inl rfl) pm_str)) pssm_nil)
 (pssm_one (psm_augX sc_laid_out.nd rfl (.inl rfl) (pm_if (pt_eqW (hu100 hr) (pp_e (pm_fld (fo_c (e.cls 13 rfl) (e.noat 24 rfl) fo_n) (pp_v 3))) (pp_e pm_str)) (pm_cl (ok_marked_0 e) (hr.mono (by decide)) (e.glo 42 rfl) (pam_cons (pm_fld (fo_c (e.cls 13 rfl) (e.noat 25 rfl) fo_n) (pp_v 3)) pam_nil)) (pm_fld (fo_c (e.cls 13 rfl) (e.noat 25 rfl) fo_n) (pp_v 3))))))))
 (pssm_one (psm_ret (pm_v 1)))))
theorem ok_laid_out_0 (e : Fc fa fn K mg base) : CallOk P w K mg base 2 ("laid_out", none) 1 m_laid_out [] := by
  obtain ⟨fd, F⟩ := e.c.def_ 18 (d := d_laid_out) rfl
  have h := w_laid_out (P := P) (w := w) (base := base) e F
  exact CallOk.of F h (F.bindsN fun _ _ _ _ _ _ us hl => match us, hl with | [_], _ => rfl)
theorem sc_law : FnScope ["_law_script", "_law_dice_here", "_law_pieces_here", "_law_text", "_law_due", "_law_told_now", "_law_again", "_law_wrong", "_law_row", "_law_column", "_law_said", "_law_one", "_law_k", "_law_sign", "_law_piece"] ["_law_script"] (defScope (top 33)) := ⟨rfl, rfl, rfl, by decide +kernel, rfl, by decide +kernel, by decide +kernel⟩
theorem w_law (e : Fc fa fn K mg base) {fd : FuncData} (F : FunD K d_law.name d_law.qual d_law.params d_law.body d_law.scope (d_law.dvs K) (d_law.kws K) (He.fAd K d_law.at_) fd) : FnM P w K mg base 7 (He.fAd K d_law.at_) fd ["_law_script"] m_law := fn_okC ("law", none) F sc_law fun A outer s H E hr =>
   (pssm_cons
 (psm_for passes_dx rfl (pim_seq (pm_cl (ok__law_rounds_0 e) (hr.mono (by decide)) (e.glo 3 rfl) (pam_cons (pm_v 0) (pam_cons pm_int pam_nil)))) (pgm_name sc_law.nd rfl (.inr rfl) zp_set) (pssm_cons
 (psm_setLc rfl sc_law.nd rfl rfl rfl (pim_range1 (e.free 5 rfl) (pam_cons (pm_cl (ok__law_roll_0 e) (hr.mono (by decide)) (e.glo 4 rfl) (pam_cons (pm_v 1) (pam_cons pm_int pam_nil))) pam_nil)) (own := [("_law_k", 12)]) (blkOk_by (by rfl)) (fun s H C cl fp => (pgm_name sc_law.nd rfl (.inl rfl) zw_set)) (fun s H C cl fp => ptsm_nil) (fun s H C cl fp => (pm_ix (hu1 hr) (pp_e (pm_cl0 (ok__law_pieces_0 e) (hr.mono (by decide)) (e.glo 6 rfl))) (pp_e (pm_cl (ok__law_roll_0 e) (hr.mono (by decide)) (e.glo 4 rfl) (pam_cons (pm_v 1) (pam_cons pm_int pam_nil)))))))
 (pssm_cons
 (psm_set sc_law.nd rfl (.inr rfl) (pm_sm PySem.F.slot_str_join PySem.F.type_str_join mt_join gs_join (pp_e pm_str) (pam_cons (pm_fr (pn_lc rfl sc_law.nd (pim_seq (pm_v 2)) (own := [("_law_piece", 14)]) (blkOk_by (by rfl)) (fun s H C cl fp => (pgm_name sc_law.nd rfl (.inl rfl) zw_set)) (fun s H C cl fp => ptsm_nil) (fun s H C cl fp => (pm_addX (pm_ix (hu1 hr) (pp_v 14) (pp_e pm_int)) pm_str)))) pam_nil)))
 (pssm_cons
 (psm_set sc_law.nd rfl (.inl rfl) (pm_cl (ok__law_signs_0 e) (hr.mono (by decide)) (e.glo 8 rfl) (pam_cons (pm_v 2) pam_nil)))
 (pssm_cons
 (psm_setLc rfl sc_law.nd rfl rfl rfl (pim_seq (pm_cl (ok_cut_0 e) (hr.mono (by decide)) (e.glo 38 rfl) (pam_cons (pm_v 3) pam_nil))) (own := [("_law_sign", 13)]) (blkOk_by (by rfl)) (fun s H C cl fp => (pgm_name sc_law.nd rfl (.inl rfl) zw_set)) (fun s H C cl fp => ptsm_nil) (fun s H C cl fp => (pm_meth0 (mo_c (t := ⟨"Sign", 1, m_Sign_shown, []⟩) (e.cls 13 rfl) (e.meth 39 rfl) (ok_Sign_shown_0 e) (hr.mono (by decide)) mo_n) (pm_v 13))))
 (pssm_cons
 (psm_if (pt_w (pw_oM (pt_neW (hu100 hr) (pp_v 5) (pp_v 4)) (pw_o1 (pt_notN (pp_e (pm_cl (ok_fault_at_0 e) (hr.mono (by decide)) (e.glo 41 rfl) (pam_cons (pm_v 3) pam_nil))) (pp_e pm_non))))) (pssm_one (psm_ret pm_bl)) pssm_nil)
 (pssm_cons
 (psm_setLc rfl sc_law.nd rfl rfl rfl (pim_seq (pm_cl (ok_cut_0 e) (hr.mono (by decide)) (e.glo 38 rfl) (pam_cons (pm_cl (ok_laid_out_0 e) (hr.mono (by decide)) (e.glo 43 rfl) (pam_cons (pm_cl (ok_cut_0 e) (hr.mono (by decide)) (e.glo 38 rfl) (pam_cons (pm_v 3) pam_nil)) pam_nil)) pam_nil))) (own := [("_law_sign", 13)]) (blkOk_by (by rfl)) (fun s H C cl fp => (pgm_name sc_law.nd rfl (.inl rfl) zw_set)) (fun s H C cl fp => ptsm_nil) (fun s H C cl fp => (pm_sl (pp_e (pm_meth0 (mo_c (t := ⟨"Sign", 1, m_Sign_shown, []⟩) (e.cls 13 rfl) (e.meth 39 rfl) (ok_Sign_shown_0 e) (hr.mono (by decide)) mo_n) (pm_v 13))) pom_none (pom_some pm_int))))
 (pssm_cons
 (psm_if (pt_neW (hu100 hr) (pp_v 6) (pp_e (pm_fr (pn_lc rfl sc_law.nd (pim_seq (pm_v 4)) (own := [("_law_sign", 13)]) (blkOk_by (by rfl)) (fun s H C cl fp => (pgm_name sc_law.nd rfl (.inl rfl) zw_set)) (fun s H C cl fp => ptsm_nil) (fun s H C cl fp => (pm_sl (pp_v 13) pom_none (pom_some pm_int))))))) (pssm_one (psm_ret pm_bl)) pssm_nil)
 (pssm_cons
 (psm_set sc_law.nd rfl (.inr rfl) (pm_ix (hu1 hr) (pp_e (pm_fr (pn_lst (pam_cons pm_str (pam_cons pm_str (pam_cons pm_str (pam_cons pm_str (pam_cons pm_str (pam_cons pm_str pam_nil))))))))) (pp_e (pm_cl (ok__law_roll_0 e) (hr.mono (by decide)) (e.glo 4 rfl) (pam_cons (pm_v 1) (pam_cons pm_int pam_nil))))))
 (pssm_cons
 (psm_par rfl sc_law.nd rfl rfl (by decide) rfl rfl (pam_cons (pm_addX pm_int (pm_sm PySem.F.slot_str_count PySem.F.type_str_count mt_count gs_cnt (pp_v 3) (pam_cons pm_str pam_nil))) (pam_cons (pm_sub (pm_addX pm_int (pm_len (e.free 7 rfl) (pp_v 3))) (pm_addX (pm_sm PySem.F.slot_str_rfind PySem.F.type_str_rfind mt_rfind gs_rfd (pp_v 3) (pam_cons pm_str pam_nil)) pm_int)) pam_nil)) rfl)
 (pssm_cons
 (psm_if (pt_w (pw_oM (pt_neW (hu100 hr) (pp_e (pm_tl (k := 4) ("law", none) (td__law_told e) (e.glo 44 rfl) (toldTb_cons (wT_yes (e.exm 40 rfl)) toldTb_nil) (e.tb _ (List.mem_of_getElem? (i := 0) rfl)) (List.mem_of_getElem? (i := 0) rfl) e.nd (hr.mono (by decide)) (fun A outer s H E f c' hr => (pm_cl (ok_cut_0 e) (hr.mono (by decide)) (e.glo 38 rfl) (pam_cons (pm_addX (pm_v 3) (pm_v 7)) pam_nil))))) (pp_e pm_str)) (pw_o1 (pt_neW (hu100 hr) (pp_e (pm_cl (ok_fault_at_0 e) (hr.mono (by decide)) (e.glo 41 rfl) (pam_cons (pm_addX (pm_v 3) (pm_v 7)) pam_nil))) (pp_e (pm_tup (pam_cons (pm_v 8) (pam_cons (pm_v 9) pam_nil)))))))) (pssm_one (psm_ret pm_bl)) pssm_nil)
 (pssm_cons
 (psm_set sc_law.nd rfl (.inl rfl) (pm_sm PySem.F.slot_str_join PySem.F.type_str_join mt_join gs_join (pp_e pm_str) (pam_cons (pm_fr (pn_lc rfl sc_law.nd (pim_range1 (e.free 5 rfl) (pam_cons (pm_cl (ok__law_roll_0 e) (hr.mono (by decide)) (e.glo 4 rfl) (pam_cons (pm_v 1) (pam_cons pm_int pam_nil))) pam_nil)) (own := [("_law_k", 12)]) (blkOk_by (by rfl)) (fun s H C cl fp => (pgm_name sc_law.nd rfl (.inl rfl) zw_set)) (fun s H C cl fp => ptsm_nil) (fun s H C cl fp => (pm_ix (hu1 hr) (pp_e pm_str) (pp_e (pm_cl (ok__law_roll_0 e) (hr.mono (by decide)) (e.glo 4 rfl) (pam_cons (pm_v 1) (pam_cons pm_int pam_nil)))))))) pam_nil)))
 (pssm_cons
 (psm_set sc_law.nd rfl (.inl rfl) (pm_cl (ok_cut_0 e) (hr.mono (by decide)) (e.glo 38 rfl) (pam_cons (pm_cl (ok_marked_0 e) (hr.mono (by decide)) (e.glo 42 rfl) (pam_cons (pm_v 10) pam_nil)) pam_nil)))
 (pssm_one (psm_if (pt_w (pw_oM (pt_neW (hu100 hr) (pp_e (pm_len (e.free 7 rfl) (pp_v 11))) (pp_e pm_int)) (pw_o1 (pt_neW (hu100 hr) (pp_e (pm_meth0 (mo_c (t := ⟨"Sign", 1, m_Sign_shown, []⟩) (e.cls 13 rfl) (e.meth 39 rfl) (ok_Sign_shown_0 e) (hr.mono (by decide)) mo_n) (pm_ix (hu1 hr) (pp_v 11) (pp_e pm_int)))) (pp_e (pm_tup (pam_cons pm_str (pam_cons (pm_v 10) (pam_cons pm_int (pam_cons pm_int pam_nil)))))))))) (pssm_one (psm_ret pm_bl)) pssm_nil)))))))))))))))
 (pssm_one (psm_ret pm_bl)))
end

/-! texts as lists of signs -/
def tx (l : List Nat) : Str := ⟨l.toArray⟩
@[simp] theorem tx_cps (l : List Nat) : (tx l).cps.toList = l := rfl
@[simp] theorem tx_len (l : List Nat) : (tx l).length = l.length := by simp [tx, Str.length]
@[simp] theorem tx_inj {a b : List Nat} : tx a = tx b ↔ a = b := ⟨fun h => congrArg (fun x : Str => x.cps.toList) h, fun h => h ▸ rfl⟩
theorem tx_of (x : Str) : tx x.cps.toList = x := by
  obtain ⟨c⟩ := x
  simp [tx]
@[simp] theorem tx_app (a b : List Nat) : tx a ++ tx b = tx (a ++ b) := by
  show (⟨a.toArray ++ b.toArray⟩ : Str) = ⟨(a ++ b).toArray⟩
  simp
/-- where c stands in l, counted from i -/
def posL (c : Nat) : List Nat → Nat → List Nat
  | [], _ => []
  | d :: l, i => if d = c then i :: posL c l (i + 1) else posL c l (i + 1)
theorem occ1_run (l : List Nat) (c limit : Nat) : ∀ (r : List Nat) (i : Nat) (st : Array Nat × Nat), l.drop i = r → i ≤ l.length → st.2 ≤ i → st.1.size ≤ limit →
    (forIn (List.range' i (r.length + 1)) st (StrLaws.occBody (tx l) ⟨#[c]⟩ l.length limit)).run.fst.toList = st.1.toList ++ (posL c r i).take (limit - st.1.size)
  | [], i, st, hr, hi, h2, hs => by
    have hl : i = l.length := by
      have := congrArg List.length hr
      simp at this
      omega
    show (Id.run (forIn [i] st (StrLaws.occBody (tx l) ⟨#[c]⟩ l.length limit))).fst.toList = _
    rw [List.forIn_cons]
    unfold StrLaws.occBody
    rw [if_neg (by
      rintro ⟨⟨_, h⟩, _⟩
      have h : i + 1 ≤ l.length := h
      omega)]
    simp [posL]
  | d :: r, i, st, hr, hi, h2, hs => by
    have hlt : i < l.length := by
      have := congrArg List.length hr
      simp at this
      omega
    have hd : l[i]? = some d := by
      have := congrArg (fun z => z[0]?) hr
      simpa [List.getElem?_drop] using this
    have hr2 : l.drop (i + 1) = r := by
      rw [← List.drop_drop, hr]
      rfl
    rw [List.length_cons, List.range'_succ, List.forIn_cons]
    have key := StrLaws.subAt_one (tx l) c i
    rw [tx_cps, hd] at key
    unfold StrLaws.occBody
    by_cases hc : d = c ∧ st.1.size < limit
    · obtain ⟨hc, hsz⟩ := hc
      obtain ⟨k1, k2⟩ := key.mpr (by rw [hc])
      rw [if_pos ⟨⟨⟨hsz, h2⟩, by simpa using k1⟩, k2⟩]
      have ih := occ1_run l c limit r (i + 1) (st.1.push i, i + 1) hr2 (by omega) (Nat.le_refl _) (by simp; omega)
      refine Eq.trans ih ?_
      have e : limit - st.1.size = (limit - (st.1.size + 1)) + 1 := by omega
      simp [posL, hc, e]
    · have ih := occ1_run l c limit r (i + 1) st hr2 (by omega) (by omega) hs
      rw [if_neg (by
        rintro ⟨⟨⟨a1, _⟩, a2⟩, a3⟩
        have := key.mp ⟨by simpa using a2, a3⟩
        exact hc ⟨Option.some.inj this, a1⟩)]
      refine Eq.trans ih ?_
      by_cases hdc : d = c
      · have : limit - st.1.size = 0 := by
          have : ¬ st.1.size < limit := fun z => hc ⟨hdc, z⟩
          omega
        simp [this]
      · simp [posL, hdc]
theorem occ1 (l : List Nat) (c lo limit : Nat) (hlo : lo ≤ l.length) : Builtin.Str.occurrences (tx l) ⟨#[c]⟩ lo l.length limit = (posL c (l.drop lo) lo).take limit := by
  rw [StrLaws.occ_eq]
  have := occ1_run l c limit (l.drop lo) lo (#[], lo) rfl hlo (Nat.le_refl _) (by simp)
  have e : l.length + 1 - lo = (l.drop lo).length + 1 := by simp; omega
  rw [e, this]
  simp
theorem posL_len (c : Nat) : ∀ (l : List Nat) (i : Nat), (posL c l i).length = l.count c
  | [], i => rfl
  | d :: l, i => by
    unfold posL
    by_cases h : d = c
    · subst h
      simp [posL_len d l]
    · simp [h, posL_len c l, List.count_cons]
theorem count_tx (l : List Nat) (c : Nat) : Txt.count (tx l) ⟨#[c]⟩ = (l.count c : Nat) := by
  unfold Txt.count
  have h := occ1 l c 0 ((tx l).length + 1) (Nat.zero_le _)
  rw [tx_len] at h ⊢
  rw [h, List.drop_zero]
  have h2 := posL_len c l 0
  have h3 : l.count c ≤ l.length := List.count_le_length
  rw [List.take_of_length_le (by omega), h2]
theorem in_tx (c : Nat) (x : Str) : (!(Builtin.Str.occurrences x ⟨#[c]⟩ 0 x.length 1).isEmpty) = decide (c ∈ x.cps.toList) := StrLaws.found_one x c
/-- every c becomes z -/
def put (c : Nat) (z : List Nat) (l : List Nat) : List Nat := l.flatMap fun d => if d = c then z else [d]
theorem joinL_cons (z p : List Nat) : ∀ ps : List (List Nat), ps ≠ [] → TL.joinL z (p :: ps) = p ++ (z ++ TL.joinL z ps)
  | [], h => absurd rfl h
  | _ :: _, _ => rfl
theorem spl_ne (S : List Nat) : ∀ (l acc : List Nat) (k : Nat), TL.spl S k acc l ≠ []
  | [], acc, k => by rw [TL.spl_nil]; simp
  | c :: l, acc, 0 => by
    unfold TL.spl
    split
    · simp
    · exact spl_ne S l _ 0
  | c :: l, acc, k + 1 => by
    unfold TL.spl
    exact spl_ne S l acc k
theorem spl_put (c : Nat) (z : List Nat) : ∀ (l acc : List Nat), TL.joinL z (TL.spl [c] 0 acc l) = acc ++ put c z l
  | [], acc => by
    rw [TL.spl_nil]
    simp [TL.joinL, put]
  | d :: l, acc => by
    have hp : TL.pre [c] (d :: l) = decide (d = c) := by
      show ([d] == [c]) = _
      rw [Bool.eq_iff_iff]
      simp
    show TL.joinL z (if TL.pre [c] (d :: l) = true then acc :: TL.spl [c] 0 [] l else TL.spl [c] 0 (acc ++ [d]) l) = _
    rw [hp]
    by_cases h : d = c
    · simp only [h, decide_true, if_true]
      rw [joinL_cons _ _ _ (spl_ne _ _ _ _), spl_put c z l []]
      simp [put]
    · simp only [h, decide_false, Bool.false_eq_true, if_false]
      rw [spl_put c z l (acc ++ [d])]
      simp [put, h]
theorem replace_tx (l z : List Nat) (c : Nat) (hc : c < 256) : Txt.replace (tx l) ⟨#[c]⟩ (tx z) = tx (put c z l) := by
  have hk : ¬ Builtin.Str.strKind (tx l) < Builtin.Str.strKind ⟨#[c]⟩ := TL.kind_ok (by simp [hc])
  have sp := TL.split_spl (tx l) ⟨#[c]⟩ (by simp [TL.tl]) hk
  have sp : (Txt.split (tx l) ⟨#[c]⟩).map TL.tl = TL.spl [c] 0 [] l := sp
  have res := spl_put c z l []
  rw [List.nil_append, ← sp, show z = TL.tl (tx z) from rfl, ← TL.tl_join] at res
  have e1 : tx (TL.tl (Str.join (tx z) (Txt.split (tx l) ⟨#[c]⟩))) = Str.join (tx z) (Txt.split (tx l) ⟨#[c]⟩) := tx_of _
  rw [res] at e1
  have e2 : (TL.tl (tx z)) = z := rfl
  rw [e2] at e1
  rw [e1, ← TL.join_eq]
  unfold Txt.replace Txt.split
  have one : (⟨#[c]⟩ : Str).length = 1 := rfl
  have ho0 := occ1 l c 0 (l.length + 1) (Nat.zero_le _)
  rw [one, tx_len]
  by_cases hl : l.length < 1
  · have hl0 : l = [] := List.eq_nil_of_length_eq_zero (by omega)
    subst hl0
    rw [ho0]
    rfl
  · have hn : (decide (l.length < 1) || decide (Builtin.Str.strKind (tx l) < Builtin.Str.strKind ⟨#[c]⟩)) = false := by
      rw [decide_eq_false hl, decide_eq_false hk]
      rfl
    rw [hn]
    by_cases ho : (Builtin.Str.occurrences (tx l) ⟨#[c]⟩ 0 l.length (l.length + 1)).isEmpty = true
    · rw [ho]
      rfl
    · have ho : (Builtin.Str.occurrences (tx l) ⟨#[c]⟩ 0 l.length (l.length + 1)).isEmpty = false := by simpa using ho
      rw [ho]
      rfl

theorem find3_tx (l : List Nat) (c p : Nat) (hp : p ≤ l.length) : Txt.find3 (tx l) ⟨#[c]⟩ (p : Int) = match posL c (l.drop p) p with
    | k :: _ => (k : Int)
    | [] => -1 := by
  have hi : fromIndex (tx l).length (p : Int) = p := by
    unfold fromIndex
    rw [if_neg (by omega)]
    omega
  unfold Txt.find3
  rw [hi, tx_len, occ1 l c p 1 hp]
  cases posL c (l.drop p) p <;> rfl
def lastL (c : Nat) : List Nat → Nat → Option Nat
  | [], _ => none
  | d :: l, i => match lastL c l (i + 1) with
    | some k => some k
    | none => if d = c then some i else none
/-! ## the cutter on the heap -/
def cutO (T : List Nat) (p r b j : Nat) : AO := .ins "Cutter" [("text", .str (tx T)), ("place", .int (p : Int)), ("row", .int (r : Int)), ("begun", .int (b : Int)), ("signs", .ref j)]
def Hc (A : AH) (T : List Nat) (p r b : Nat) (sg : List AV) : AH := A ++ [cutO T p r b (A.length + 1), .lst sg]
section
variable (A : AH) (T : List Nat) (p r b : Nat) (sg : List AV)
theorem hc_get : (Hc A T p r b sg)[A.length]? = some (cutO T p r b (A.length + 1)) := by simp [Hc]
theorem hc_get2 : (Hc A T p r b sg)[A.length + 1]? = some (.lst sg) := by
  unfold Hc
  rw [List.getElem?_append_right (by omega)]
  simp
theorem hc_co : coA (Hc A T p r b sg) (.ref A.length) = .ob (.ins "Cutter" [("text", .str (tx T)), ("place", .int (p : Int)), ("row", .int (r : Int)), ("begun", .int (b : Int)), ("signs", .ref (A.length + 1))]) := by
  show (match (Hc A T p r b sg)[A.length]? with | some o => Co.ob o.rd | none => .no) = _
  rw [hc_get]
  rfl
theorem hc_co2 : coA (Hc A T p r b sg) (.ref (A.length + 1)) = .ob (.lst sg) := by
  show (match (Hc A T p r b sg)[A.length + 1]? with | some o => Co.ob o.rd | none => .no) = _
  rw [hc_get2]
  rfl
theorem hc_set (q r' b' : Nat) : (Hc A T p r b sg).set A.length (cutO T q r' b' (A.length + 1)) = Hc A T q r' b' sg := by simp [Hc]
theorem hc_set2 (sg' : List AV) : (Hc A T p r b sg).set (A.length + 1) (.lst sg') = Hc A T p r b sg' := by
  show List.set (A ++ [cutO T p r b (A.length + 1), AO.lst sg] : List AO) (A.length + 1) (.lst sg') = (A ++ [cutO T p r b (A.length + 1), AO.lst sg'] : List AO)
  rw [List.set_append_right (s := A) (h := by omega)]
  simp
end
theorem at_tx {T : List Nat} {p d : Nat} (h : T[p]? = some d) : atI T (p : Int) = some d := by
  have hk : p < T.length := (List.getElem?_eq_some_iff.mp h).1
  have e : T[p] = d := by
    rw [List.getElem?_eq_getElem hk] at h
    exact Option.some.inj h
  unfold atI ixN
  simp [hk, e]
section
variable {A : AH} {T : List Nat} {p r b i : Nat} {sg : List AV} {sl : List (Option SV)}
theorem f_text (h : sl[i]? = some (some (.val (.ref A.length)))) : fldM ["Cutter"] "text" (pkV i) ⟨sl, Hc A T p r b sg⟩ = .ok (.str (tx T)) ⟨sl, Hc A T p r b sg⟩ := by simp [h, hc_get, cutO]
theorem f_place (h : sl[i]? = some (some (.val (.ref A.length)))) : fldM ["Cutter"] "place" (pkV i) ⟨sl, Hc A T p r b sg⟩ = .ok (.int (p : Int)) ⟨sl, Hc A T p r b sg⟩ := by simp [h, hc_get, cutO]
theorem f_row (h : sl[i]? = some (some (.val (.ref A.length)))) : fldM ["Sign", "Cutter"] "row" (pkV i) ⟨sl, Hc A T p r b sg⟩ = .ok (.int (r : Int)) ⟨sl, Hc A T p r b sg⟩ := by simp [h, hc_get, cutO]
theorem f_begun (h : sl[i]? = some (some (.val (.ref A.length)))) : fldM ["Cutter"] "begun" (pkV i) ⟨sl, Hc A T p r b sg⟩ = .ok (.int (b : Int)) ⟨sl, Hc A T p r b sg⟩ := by simp [h, hc_get, cutO]
theorem f_signs (h : sl[i]? = some (some (.val (.ref A.length)))) : fldM ["Cutter"] "signs" (pkV i) ⟨sl, Hc A T p r b sg⟩ = .ok (.ref (A.length + 1)) ⟨sl, Hc A T p r b sg⟩ := by simp [h, hc_get, cutO]
theorem st_place {fe : M AV} {q : Nat} (h : sl[i]? = some (some (.val (.ref A.length)))) (hf : fe ⟨sl, Hc A T p r b sg⟩ = .ok (.int (q : Int)) ⟨sl, Hc A T p r b sg⟩) : LM.stM ["Cutter"] "place" (pkV i) fe ⟨sl, Hc A T p r b sg⟩ = .ok .nx ⟨sl, Hc A T q r b sg⟩ := by
  simp [hf, h, obP, hc_get, cutO, wrP, putFA]
  exact hc_set A T p r b sg q r b
theorem st_begun {fe : M AV} {q : Nat} (h : sl[i]? = some (some (.val (.ref A.length)))) (hf : fe ⟨sl, Hc A T p r b sg⟩ = .ok (.int (q : Int)) ⟨sl, Hc A T p r b sg⟩) : LM.stM ["Cutter"] "begun" (pkV i) fe ⟨sl, Hc A T p r b sg⟩ = .ok .nx ⟨sl, Hc A T p r q sg⟩ := by
  simp [hf, h, obP, hc_get, cutO, wrP, putFA]
  exact hc_set A T p r b sg p r q
theorem aug_place {k : Nat} {fe : M AV} (h : sl[i]? = some (some (.val (.ref A.length)))) (hf : fe ⟨sl, Hc A T p r b sg⟩ = .ok (.int (k : Int)) ⟨sl, Hc A T p r b sg⟩) : augFM ["Cutter"] "place" addI (pkV i) fe ⟨sl, Hc A T p r b sg⟩ = .ok .nx ⟨sl, Hc A T (p + k) r b sg⟩ := by
  unfold augFM
  simp [LM.bindM, bindR, pkV, h, obP, hc_get, cutO, wrP, putFA, hf, addI, List.lookup]
  have e := hc_set A T p r b sg (p + k) r b
  simpa [cutO] using e
theorem aug_row {k : Nat} {fe : M AV} (h : sl[i]? = some (some (.val (.ref A.length)))) (hf : fe ⟨sl, Hc A T p r b sg⟩ = .ok (.int (k : Int)) ⟨sl, Hc A T p r b sg⟩) : augFM ["Sign", "Cutter"] "row" addI (pkV i) fe ⟨sl, Hc A T p r b sg⟩ = .ok .nx ⟨sl, Hc A T p (r + k) b sg⟩ := by
  unfold augFM
  simp [LM.bindM, bindR, pkV, h, obP, hc_get, cutO, wrP, putFA, hf, addI]
  have e := hc_set A T p r b sg p (r + k) b
  simpa [cutO] using e
end

theorem occE (d : Nat) (g : Str) : (Builtin.Str.occurrences g ⟨#[d]⟩ 0 g.length 1).isEmpty = !decide (d ∈ g.cps) := by
  have h := in_tx d g
  have e : decide (d ∈ g.cps.toList) = decide (d ∈ g.cps) := by simp
  rw [e] at h
  rw [← h, Bool.not_not]
def runT : M Bool := (LM.andM (cmpM ltX (pkE (fldM ["Cutter"] "place" (pkV 0))) (pkE (cbM lenA (consM (pkE (fldM ["Cutter"] "text" (pkV 0))) nilM)))) (cmpM inC (pkE (ixM (pkE (fldM ["Cutter"] "text" (pkV 0))) (pkE (fldM ["Cutter"] "place" (pkV 0))))) (pkV 1)))
def runB : M Fl := (augFM ["Cutter"] "place" addI (pkV 0) (cM (.int 1)))
section
variable {g : Str} {A : AH} {T : List Nat} {p r b d : Nat} {sg : List AV} {x : Option SV}
theorem runT_in (hT : T.length ≤ 1000) (h : T[p]? = some d) :
    runT ⟨[some (.val (.ref A.length)), some (.val (.str g)), x], Hc A T p r b sg⟩ = .ok (decide (d ∈ g.cps.toList)) ⟨[some (.val (.ref A.length)), some (.val (.str g)), x], Hc A T p r b sg⟩ := by
  have hk : p < T.length := (List.getElem?_eq_some_iff.mp h).1
  have hl : T.length ≤ 16777216 := by omega
  simp [runT, -fldM_at, f_text, f_place, hk, hl, at_tx h, occE]
theorem runT_out (hT : T.length ≤ 1000) (h : T.length ≤ p) :
    runT ⟨[some (.val (.ref A.length)), some (.val (.str g)), x], Hc A T p r b sg⟩ = .ok false ⟨[some (.val (.ref A.length)), some (.val (.str g)), x], Hc A T p r b sg⟩ := by
  have hk : ¬ p < T.length := by omega
  have hl : T.length ≤ 16777216 := by omega
  simp [runT, -fldM_at, f_text, f_place, hk, hl]
theorem runB_ok : runB ⟨[some (.val (.ref A.length)), some (.val (.str g)), x], Hc A T p r b sg⟩ = .ok .nx ⟨[some (.val (.ref A.length)), some (.val (.str g)), x], Hc A T (p + 1) r b sg⟩ := aug_place (k := 1) rfl rfl
end
theorem run_loop (g : Str) (A : AH) (T : List Nat) (r b : Nat) (sg : List AV) (x : Option SV) (hT : T.length ≤ 1000) : ∀ (S : List Nat) (n p : Nat), T.drop p = S → p ≤ T.length → S.length < n →
    whileM runT runB n ⟨[some (.val (.ref A.length)), some (.val (.str g)), x], Hc A T p r b sg⟩ = .ok .nx ⟨[some (.val (.ref A.length)), some (.val (.str g)), x], Hc A T (p + (S.takeWhile fun d => decide (d ∈ g.cps.toList)).length) r b sg⟩
  | [], n + 1, p, hS, hp, hn => by
    have hl : T.length ≤ p := by
      have := congrArg List.length hS
      simp at this
      omega
    rw [whileM_at, runT_out hT hl]
    simp
  | d :: S, n + 1, p, hS, hp, hn => by
    have hd : T[p]? = some d := by
      have := congrArg (fun z => z[0]?) hS
      simpa [List.getElem?_drop] using this
    have hk : p < T.length := (List.getElem?_eq_some_iff.mp hd).1
    have hS2 : T.drop (p + 1) = S := by
      rw [← List.drop_drop, hS]
      rfl
    rw [whileM_at, runT_in hT hd]
    by_cases hc : d ∈ g.cps.toList
    · have ih := run_loop g A T r b sg x hT S n (p + 1) hS2 (by omega) (by simp at hn; omega)
      rw [show decide (d ∈ g.cps.toList) = true from decide_eq_true hc, bindR_ok]
      simp only [if_true]
      rw [runB_ok, turnR_nx, ih]
      rw [List.takeWhile_cons_of_pos (by simpa using hc), List.length_cons]
      congr 2
      congr 1
      omega
    · rw [show decide (d ∈ g.cps.toList) = false from decide_eq_false hc, bindR_ok, List.takeWhile_cons_of_neg (by simpa using hc)]
      simp

def tk (g : Str) (S : List Nat) : List Nat := S.takeWhile fun d => decide (d ∈ g.cps.toList)
theorem cut_tx (T : List Nat) (p q : Nat) (hp : p ≤ T.length) : cutS (tx T) (some (p : Int)) (some (q : Int)) = tx ((T.drop p).take (q - p)) := by
  unfold cutS
  have h1 : HT.sIx (tx T).length 0 (some (p : Int)) = p := by
    rw [HT.sIx_nat, tx_len, Nat.min_eq_left hp]
  have h2 : HT.sIx (tx T).length (tx T).length (some (q : Int)) = min q T.length := by rw [HT.sIx_nat, tx_len]
  rw [h1, h2, tx_cps]
  show tx _ = tx _
  rw [tx_inj]
  by_cases h : q ≤ T.length
  · rw [Nat.min_eq_left h]
  · rw [Nat.min_eq_right (by omega), List.take_of_length_le (by simp), List.take_of_length_le (by simp; omega)]
theorem run_ok (g : Str) (A : AH) (T : List Nat) (p r b c : Nat) (S : List Nat) (sg : List AV) (hT : T.length ≤ 1000) (hS : T.drop p = c :: S) :
    m_Cutter_run [.ref A.length, .str g] (Hc A T p r b sg) = .ok (.str (tx (c :: tk g S))) (Hc A T (p + 1 + (tk g S).length) r b sg) := by
  have hk : p < T.length := by
    have := congrArg List.length hS
    simp at this
    omega
  have hS2 : T.drop (p + 1) = S := by
    rw [← List.drop_drop, hS]
    rfl
  have hSl : S.length ≤ 1000 := by
    have := congrArg List.length hS2
    simp at this
    omega
  have loop := run_loop g A T r b sg (some (.val (.int (p : Int)))) hT S 1000000 (p + 1) hS2 (by omega) (by omega)
  have hb : b_Cutter_run = seqM (asgM (setV 2) (fldM ["Cutter"] "place" (pkV 0))) (seqM runB (seqM (whileM runT runB 1000000) (retM (slM (pkE (fldM ["Cutter"] "text" (pkV 0))) (partM (vM 2)) (partM (fldM ["Cutter"] "place" (pkV 0))))))) := rfl
  have e0 : slots0 3 [.ref A.length, .str g] = [some (.val (.ref A.length)), some (.val (.str g)), none] := rfl
  have e1 : (asgM (setV 2) (fldM ["Cutter"] "place" (pkV 0))) ⟨[some (.val (.ref A.length)), some (.val (.str g)), none], Hc A T p r b sg⟩ = .ok .nx ⟨[some (.val (.ref A.length)), some (.val (.str g)), some (.val (.int (p : Int)))], Hc A T p r b sg⟩ := by
    simp [-fldM_at, f_place]
  have hq : T.length ≤ 16777216 := by omega
  have e2 := cut_tx T p (p + 1 + (tk g S).length) (by omega)
  rw [hS] at e2
  have e3 : (c :: S).take (p + 1 + (tk g S).length - p) = c :: tk g S := by
    have : p + 1 + (tk g S).length - p = (tk g S).length + 1 := by omega
    rw [this, List.take_succ_cons]
    congr 1
    exact (List.prefix_iff_eq_take.mp (List.takeWhile_prefix _)).symm
  rw [e3] at e2
  have e4 : (retM (slM (pkE (fldM ["Cutter"] "text" (pkV 0))) (partM (vM 2)) (partM (fldM ["Cutter"] "place" (pkV 0))))) ⟨[some (.val (.ref A.length)), some (.val (.str g)), some (.val (.int (p : Int)))], Hc A T (p + 1 + (tk g S).length) r b sg⟩ =
      .ok (.rt (.str (tx (c :: tk g S)))) ⟨[some (.val (.ref A.length)), some (.val (.str g)), some (.val (.int (p : Int)))], Hc A T (p + 1 + (tk g S).length) r b sg⟩ := by
    generalize p + 1 + (tk g S).length = q at e2
    simp [-fldM_at, f_place, f_text, hq, e2]
  rw [m_Cutter_run, hb, fnM_at, e0, seqM_at, e1, seqR_nx, seqM_at, runB_ok, seqR_nx, seqM_at, loop, seqR_nx]
  show fnR ((retM _) ⟨_, Hc A T (p + 1 + (tk g S).length) r b sg⟩) = _
  rw [e4]
  rfl
/-! signs -/
structure Sg where
  kind : String
  said : List Nat
  row : Nat
  col : Nat
namespace Sg
def av (s : Sg) : AV := .ob "Sign" [("kind", .str s.kind), ("said", .str (tx s.said)), ("row", .int (s.row : Int)), ("column", .int (s.col : Int))]
end Sg
abbrev figs : Str := Str.ofString "0123456789"
/-- what takes the stroke with the number behind it -/
def stroke (sg : List Sg) (S : List Nat) : Bool := match S with
  | d :: _ => decide (d ∈ (Str.ofString "0123456789").cps) && (match sg.getLast? with
    | none => true
    | some s => decide (s.kind = "mark") && !decide (s.said = [41]))
  | [] => false
/-- signs that any text may have -/
structure Ok (T : List Nat) : Prop where
  len : T.length ≤ 1000
  sm : ∀ d ∈ T, d < 256
theorem okA_tx {n : Nat} {l : List Nat} (h : ∀ d ∈ l, d < 256) : okA n (.str (tx l)) = true := by
  show (tx l).cps.all (· < 0x110000) = true
  rw [← Array.all_toList]
  rw [List.all_eq_true]
  intro d hd
  have := h d hd
  simp
  omega
theorem okA_t0 {n : Nat} : okA n (.str (tx [])) = true := okA_tx fun d h => by cases h
theorem okA_t1 {n c : Nat} (h : c < 256) : okA n (.str (tx [c])) = true := okA_tx fun d hd => by
  have : d = c := by simpa using hd
  omega
section
variable {A : AH} {T : List Nat} {p r b c d : Nat} {S : List Nat} {sg : List Sg}
theorem Ok.lt (h : T.drop p = c :: S) : p < T.length := by
  have := congrArg List.length h
  simp at this
  omega
theorem Ok.at (h : T.drop p = c :: S) : T[p]? = some c := by
  have := congrArg (fun z => z[0]?) h
  simpa [List.getElem?_drop] using this
theorem Ok.nxt (h : T.drop p = c :: S) : T.drop (p + 1) = S := by
  rw [← List.drop_drop, h]
  rfl
theorem Ok.val (o : Ok T) (h : T.drop p = c :: S) : c < 256 := o.sm c (List.mem_of_getElem? (Ok.at h))
theorem Ok.suf (o : Ok T) (h : T.drop p = S) : ∀ d ∈ S, d < 256 := fun d hd => o.sm d (List.mem_of_mem_drop (h ▸ hd))
theorem Ok.suflen (o : Ok T) (h : T.drop p = S) : S.length ≤ 1000 := by
  have := congrArg List.length h
  simp at this
  have := o.len
  omega
end
theorem minus_tx : (Str.ofString "-") = tx [45] := by kernel_rfl
theorem empty_tx : (Str.ofString "") = tx [] := by kernel_rfl
theorem par_tx : (Str.ofString ")") = tx [41] := by kernel_rfl
theorem ch_tx (d : Nat) : (⟨#[d]⟩ : Str) = tx [d] := rfl
theorem signs_last (sg : List Sg) (hne : sg ≠ []) : ∃ s, sg.getLast? = some s ∧ atI (sg.map Sg.av) (-1) = some s.av := by
  have hl : 0 < sg.length := List.length_pos_iff.mpr hne
  refine ⟨sg[sg.length - 1], List.getLast?_eq_getElem?.trans (List.getElem?_eq_getElem (by omega)), ?_⟩
  unfold atI ixN
  have h1 : ((-1 : Int) + ((sg.map Sg.av).length : Int)).toNat = sg.length - 1 := by simp; omega
  have h2 : ¬ ((-1 : Int) + ((sg.map Sg.av).length : Int) < 0) := by simp; omega
  rw [if_neg (by decide), if_pos (by simp; omega), h1]
  show (sg.map Sg.av)[sg.length - 1]? = _
  rw [List.getElem?_map, List.getElem?_eq_getElem (by omega)]
  rfl
section
variable {s : Sg} {h : AH} {sl : List (Option SV)} {i : Nat}
theorem g_kind (e : sl[i]? = some (some (.val s.av))) : fldM ["Sign"] "kind" (pkV i) ⟨sl, h⟩ = .ok (.str s.kind) ⟨sl, h⟩ := by simp [e, Sg.av]
theorem g_said (e : sl[i]? = some (some (.val s.av))) : fldM ["Sign"] "said" (pkV i) ⟨sl, h⟩ = .ok (.str (tx s.said)) ⟨sl, h⟩ := by simp [e, Sg.av]
theorem g_row (e : sl[i]? = some (some (.val s.av))) : fldM ["Sign", "Cutter"] "row" (pkV i) ⟨sl, h⟩ = .ok (.int (s.row : Int)) ⟨sl, h⟩ := by simp [e, Sg.av]
theorem g_col (e : sl[i]? = some (some (.val s.av))) : fldM ["Sign"] "column" (pkV i) ⟨sl, h⟩ = .ok (.int (s.col : Int)) ⟨sl, h⟩ := by simp [e, Sg.av]
end
def andVR (r : Res AV) (g : M AV) : Res AV := match r with
  | .ok (.bl false) s => .ok (.bl false) s
  | .ok (.bl true) s => g s
  | .ok _ _ => .stuck
  | .exn c s => .exn c s
  | .stuck => .stuck
theorem andVM_at {f g : M AV} {s : SS} : andVM f g s = andVR (f s) g := by
  show bindR (f s) _ = _
  cases f s with
  | ok a s =>
    cases a with
    | bl b => cases b <;> rfl
    | _ => rfl
  | exn c s => rfl
  | stuck => rfl
theorem andVR_bl {b : Bool} {s : SS} {g : M AV} : andVR (.ok (.bl b) s) g = if b = true then g s else .ok (.bl false) s := by cases b <;> rfl
/-- what was said before -/
def SgOk (sg : List Sg) : Prop := ∀ s ∈ sg, ∀ d ∈ s.said, d < 256
theorem signed_ok {A : AH} {T : List Nat} {p r b c : Nat} {S : List Nat} {sg : List Sg} (o : Ok T) (os : SgOk sg) (hS : T.drop p = c :: S) :
    m_Cutter_signed [.ref A.length] (Hc A T p r b (sg.map Sg.av)) = .ok (.bl (decide (c = 45) && stroke sg S)) (Hc A T p r b (sg.map Sg.av)) := by
  have hk := Ok.lt hS
  have hc := Ok.at hS
  have hS2 := Ok.nxt hS
  have hq : T.length ≤ 16777216 := by have := o.len; omega
  have e1 := cut_tx T (p + 1) (p + 2) (by omega)
  rw [hS2, show p + 2 - (p + 1) = 1 by omega] at e1
  have e1 : cutS (tx T) (some ((p : Int) + 1)) (some ((p : Int) + 2)) = tx (S.take 1) := e1
  have o45 : ∀ n, okA n (.str (tx [45])) = true := fun n => okA_t1 (by decide)
  have oc : ∀ n, okA n (.str (tx [c])) = true := fun n => okA_t1 (o.val hS)
  by_cases h : c = 45
  · subst h
    cases S with
    | nil => simp [m_Cutter_signed, b_Cutter_signed, slots0, -fldM_at, f_place, f_text, hq, e1, at_tx hc, minus_tx, empty_tx, ch_tx, stroke, o45, okA_t0]
    | cons d S =>
      have od : ∀ n, okA n (.str (tx [d])) = true := fun n => okA_t1 (o.val hS2)
      have occ : (Builtin.Str.occurrences (Str.ofString "0123456789") (tx [d]) 0 (Str.ofString "0123456789").length 1).isEmpty = !decide (d ∈ (Str.ofString "0123456789").cps) := occE d _
      by_cases hd : d ∈ (Str.ofString "0123456789").cps
      · cases hsg : sg with
        | nil =>
          simp [m_Cutter_signed, b_Cutter_signed, slots0, -fldM_at, f_place, f_text, f_signs, hq, e1, at_tx hc, minus_tx, empty_tx, ch_tx, stroke, o45, okA_t0, od, occ, hd, hc_get2]
        | cons s0 sg0 =>
          rw [← hsg]
          obtain ⟨s, h1, h2⟩ := signs_last sg (by rw [hsg]; simp)
          have hm : s ∈ sg := List.mem_of_getLast? h1
          have osd : ∀ n, okA n (.str (tx s.said)) = true := fun n => okA_tx (os s hm)
          have o41 : ∀ n, okA n (.str (tx [41])) = true := fun n => okA_t1 (by decide)
          have hlen : ¬ sg.length = 0 := by rw [hsg]; simp
          have hel : (if okL 59 (sg.map Sg.av) = true then some (eqL (sg.map Sg.av) []) else none).getD false = false := by
            rw [hsg]
            split <;> rfl
          simp [m_Cutter_signed, b_Cutter_signed, slots0, -fldM_at, f_place, f_text, f_signs, hq, e1, at_tx hc, minus_tx, empty_tx, ch_tx, stroke, o45, okA_t0, od, occ, hd, hc_get2, h1, h2, hlen]
          rw [hel]
          by_cases k1 : s.kind = "mark" <;> by_cases k2 : s.said = [41] <;> simp [-fldM_at, f_signs, hc_get2, h2, g_kind (s := s), g_said (s := s), par_tx, osd, o41, andVM_at, andVR_bl, k1, k2]
      · simp [m_Cutter_signed, b_Cutter_signed, slots0, -fldM_at, f_place, f_text, hq, e1, at_tx hc, minus_tx, empty_tx, ch_tx, stroke, o45, okA_t0, od, occ, hd]
  · simp [m_Cutter_signed, b_Cutter_signed, slots0, -fldM_at, f_place, f_text, hq, e1, at_tx hc, minus_tx, empty_tx, ch_tx, stroke, o45, oc, okA_t0, h]

def isSR (c : Co) (p : PV) (s : SS) : Res PV := match c with
  | .str _ => .ok p s
  | _ => .stuck
@[simp] theorem isSR_str {x : Str} {p : PV} {s : SS} : isSR (.str x) p s = .ok p s := Eq.trans rfl rfl
def smO (op : Str → List AV → Option AV) (c : Co) (as : List AV) : Option AV := match c with
  | .str x => op x as
  | _ => none
@[simp] theorem smO_str {op : Str → List AV → Option AV} {x : Str} {as : List AV} : smO op (.str x) as = op x as := Eq.trans rfl rfl
@[simp] theorem smM_at {f : M PV} {g : M (List AV)} {op : Str → List AV → Option AV} {s : SS} : smM f g op s = @bnd _ _ (f s) ⟨fun p s => @bnd _ _ (isSR (coP p s) p s) ⟨fun p s => @bnd _ _ (g s) ⟨fun as s => optR (smO op (coP p s) as) s⟩⟩⟩ := by
  simp only [bnd_mk]
  show bindR (bindR (f s) _) _ = bindR (f s) _
  cases f s with
  | stuck => rfl
  | exn c s => rfl
  | ok p s =>
    show bindR (match coP p s with | .str _ => .ok p s | _ => .stuck) _ = bindR (isSR (coP p s) p s) _
    unfold isSR
    cases coP p s with
    | str x =>
      show bindR (g s) _ = bindR (g s) _
      congr 1
      funext as s
      show (match coP p s with | .str x => (match op x as with | some a => Res.ok a s | none => .stuck) | _ => .stuck) = optR (smO op (coP p s) as) s
      cases coP p s with
      | str y =>
        show (match op y as with | some a => Res.ok a s | none => .stuck) = optR (op y as) s
        cases op y as <;> rfl
      | _ => rfl
    | _ => rfl
@[simp] theorem lstrA_one {x y : Str} : lstrA x [.str y] = if x.length ≤ 16777216 then some (.str (Txt.lstripChars x y)) else none := Eq.trans rfl rfl
theorem hc_cls {A : AH} {T : List Nat} {p r b : Nat} {sg : List AV} : clsOf (Hc A T p r b sg) (.ref A.length) = some (("Cutter" : Str), [(("text" : Str), .str (tx T)), (("place" : Str), .int (p : Int)), (("row" : Str), .int (r : Int)), (("begun" : Str), .int (b : Int)), (("signs" : Str), .ref (A.length + 1))]) := by
  show (match (Hc A T p r b sg)[A.length]? with
    | some (.ins c fs) => some (c, fs)
    | _ => none) = _
  rw [hc_get]
  rfl
theorem drop_pos {T S : List Nat} {q : Nat} (h : T.drop q = S) (hq : q ≤ T.length) : q = T.length - S.length := by
  have := congrArg List.length h
  simp at this
  omega
theorem lstrip_le (x y : Str) : (Txt.lstripChars x y).length ≤ x.length := by
  have := PyProof.Rows.len_lstripChars x y
  exact this
def numS (c : Nat) (S : List Nat) : Option (List Nat) := if 18 < (Txt.lstripChars (tx (c :: tk figs S)) (tx [45])).length then none else some (c :: tk figs S)
theorem number_ok {A : AH} {T : List Nat} {p r b c : Nat} {S : List Nat} {sg : List AV} (o : Ok T) (hS : T.drop p = c :: S) :
    m_Cutter_take_number [.ref A.length] (Hc A T p r b sg) = match numS c S with
      | some said => .ok (.str (tx said)) (Hc A T (p + 1 + (tk figs S).length) r b sg)
      | none => .exn "BadSign" (Hc A T (p + 1 + (tk figs S).length) r b sg) := by
  have e1 : m_Cutter_run [.ref A.length, .str (Str.ofString "0123456789")] (Hc A T p r b sg) = .ok (.str (tx (c :: tk figs S))) (Hc A T (p + 1 + (tk figs S).length) r b sg) := run_ok figs A T p r b c S sg o.len hS
  have hl : (tk figs S).length ≤ S.length := List.Sublist.length_le (List.takeWhile_sublist _)
  have hs := o.suflen (Ok.nxt hS)
  have hl16 : (tk figs S).length + 1 ≤ 16777216 := by omega
  have hls : (Txt.lstripChars (tx (c :: tk figs S)) (tx [45])).length ≤ 16777216 := by
    have := lstrip_le (tx (c :: tk figs S)) (tx [45])
    rw [tx_len] at this
    simp at this
    omega
  unfold numS
  by_cases h : 18 < (Txt.lstripChars (tx (c :: tk figs S)) (tx [45])).length
  · have hi : (18 : Int) < ((Txt.lstripChars (tx (c :: tk figs S)) (tx [45])).length : Int) := by omega
    simp [m_Cutter_take_number, b_Cutter_take_number, slots0, hc_get, cutO, e1, h, hi, hl16, minus_tx, hls]
  · have hi : ¬ (18 : Int) < ((Txt.lstripChars (tx (c :: tk figs S)) (tx [45])).length : Int) := by omega
    simp [m_Cutter_take_number, b_Cutter_take_number, slots0, hc_get, cutO, e1, h, hi, hl16, minus_tx, hls]

/-! what stands in marks -/
def cutQ : List Nat → Option (List Nat × List Nat)
  | [] => none
  | [c] => if c = 39 then some ([], []) else none
  | c :: d :: S => if c = 39 then some ([], d :: S) else if c = 10 then none else
    if c = 92 then (if d = 39 ∨ d = 92 ∨ d = 110 then (cutQ S).map fun z => ((if d = 110 then 10 else d) :: z.1, z.2) else none)
    else (cutQ (d :: S)).map fun z => (c :: z.1, z.2)
theorem quo_tx : (Str.ofString "'") = tx [39] := by kernel_rfl
theorem qnl_tx : (Str.ofString "'\n") = tx [39, 10] := by kernel_rfl
theorem bs_tx : (Str.ofString "\\") = tx [92] := by kernel_rfl
theorem nl_tx : (Str.ofString "\n") = tx [10] := by kernel_rfl
theorem n_tx : (Str.ofString "n") = tx [110] := by kernel_rfl
theorem esc_tx : (Str.ofString "'\\n") = tx [39, 92, 110] := by kernel_rfl
theorem occT (d : Nat) (l : List Nat) : (Builtin.Str.occurrences (tx l) (tx [d]) 0 l.length 1).isEmpty = !decide (d ∈ l) := by
  have h := in_tx d (tx l)
  rw [tx_len, tx_cps] at h
  rw [← h, Bool.not_not]
  rfl
theorem occ2 (d : Nat) : (Builtin.Str.occurrences (tx [39, 10]) (tx [d]) 0 2 1).isEmpty = !decide (d ∈ [39, 10]) := occT d [39, 10]
theorem occ3 (d : Nat) : (Builtin.Str.occurrences (tx [39, 92, 110]) (tx [d]) 0 3 1).isEmpty = !decide (d ∈ [39, 92, 110]) := occT d [39, 92, 110]
theorem lsB_i {a : Int} {h : AH} : lsB (obS (some (some (.val (.int a)))) h) = false := rfl
theorem lsB_s {a : Str} {h : AH} : lsB (obS (some (some (.val (.str a)))) h) = false := rfl
def quoT : M Bool := (LM.andM (cmpM ltX (pkV 2) (pkE (cbM lenA (consM (pkE (fldM ["Cutter"] "text" (pkV 0))) nilM)))) (cmpM ninC (pkE (ixM (pkE (fldM ["Cutter"] "text" (pkV 0))) (pkV 2))) (pkE (cM (.str "'\n")))))
def quoE : M Fl := (ifM (cmpM eqW (pkV 3) (pkE (cM (.str "\\")))) (seqM
 (augX 2 (fun a b => (addI a b).or (addS a b)) (cM (.int 1)))
 (seqM
 (asgM (setV 3) (slM (pkE (fldM ["Cutter"] "text" (pkV 0))) (partM (vM 2)) (partM (op2 addX (vM 2) (cM (.int 1))))))
 (seqM
 (ifM (LM.orM (cmpM eqW (pkV 3) (pkE (cM (.str "")))) (cmpM ninC (pkV 3) (pkE (cM (.str "'\\n"))))) (raiM "BadSign") nxM)
 (asgM (setV 3) (ifM (cmpM eqW (pkV 3) (pkE (cM (.str "n")))) (cM (.str "\n")) (vM 3)))))) nxM)
def quoF : M Fl := (seqM
 (augX 1 (fun a b => (addI a b).or (addS a b)) (vM 3))
 (augX 2 (fun a b => (addI a b).or (addS a b)) (cM (.int 1))))
def quoB : M Fl := seqM (asgM (setV 3) (ixM (pkE (fldM ["Cutter"] "text" (pkV 0))) (pkV 2))) (seqM quoE quoF)
def qs (A : AH) (T : List Nat) (p r b : Nat) (sg : List AV) (acc : List Nat) (q : Nat) (x : Option SV) : SS := ⟨[some (.val (.ref A.length)), some (.val (.str (tx acc))), some (.val (.int (q : Int))), x], Hc A T p r b sg⟩
section
variable {A : AH} {T : List Nat} {p r b d q c : Nat} {S : List Nat} {sg : List AV} {acc : List Nat} {x : Option SV}
theorem quoT_in (o : Ok T) (h : T.drop q = d :: S) : quoT (qs A T p r b sg acc q x) = .ok (!decide (d = 39 ∨ d = 10)) (qs A T p r b sg acc q x) := by
  have hk := Ok.lt h
  have hl : T.length ≤ 16777216 := by have := o.len; omega
  have ht := Ok.at h
  simp [qs, quoT, -fldM_at, f_text, hk, hl, at_tx ht, qnl_tx, ch_tx, occ2]
theorem quoT_out (o : Ok T) (h : T.drop q = []) : quoT (qs A T p r b sg acc q x) = .ok false (qs A T p r b sg acc q x) := by
  have hk : ¬ q < T.length := by
    have := congrArg List.length h
    simp at this
    omega
  have hl : T.length ≤ 16777216 := by have := o.len; omega
  simp [qs, quoT, -fldM_at, f_text, hk, hl]
theorem quoA (o : Ok T) (h : T.drop q = d :: S) : (asgM (setV 3) (ixM (pkE (fldM ["Cutter"] "text" (pkV 0))) (pkV 2))) (qs A T p r b sg acc q x) = .ok .nx (qs A T p r b sg acc q (some (.val (.str (tx [d]))))) := by
  have ht := Ok.at h
  have hl : T.length ≤ 16777216 := by have := o.len; omega
  simp [qs, -fldM_at, f_text, at_tx ht, ch_tx, hl]
theorem quoE_no (o : Ok T) (hd : d < 256) (h : d ≠ 92) : quoE (qs A T p r b sg acc q (some (.val (.str (tx [d]))))) = .ok .nx (qs A T p r b sg acc q (some (.val (.str (tx [d]))))) := by
  have o1 : ∀ n, okA n (.str (tx [92])) = true := fun n => okA_t1 (by decide)
  have o2 : ∀ n, okA n (.str (tx [d])) = true := fun n => okA_t1 hd
  simp [quoE, qs, bs_tx, o1, o2, h]
theorem quoE_end (o : Ok T) (h : T.drop (q + 1) = []) (hq : q + 1 ≤ T.length) : ∃ sl, quoE (qs A T p r b sg acc q (some (.val (.str (tx [92]))))) = .exn "BadSign" ⟨sl, Hc A T p r b sg⟩ := by
  have o1 : ∀ n, okA n (.str (tx [92])) = true := fun n => okA_t1 (by decide)
  have hl : T.length ≤ 16777216 := by have := o.len; omega
  have e1 := cut_tx T (q + 1) (q + 2) hq
  rw [h] at e1
  have e1 : cutS (tx T) (some ((q : Int) + 1)) (some ((q : Int) + 1 + 1)) = tx [] := by
    rw [show (q : Int) + 1 + 1 = ((q + 2 : Nat) : Int) by omega]
    simpa using e1
  refine ⟨[some (.val (.ref A.length)), some (.val (.str (tx acc))), some (.val (.int ((q : Int) + 1))), some (.val (.str (tx [])))], ?_⟩
  simp [quoE, qs, -fldM_at, f_text, bs_tx, o1, hl, e1, empty_tx, okA_t0, addI, lsB_i, lsB_s]
theorem quoE_bad (o : Ok T) (h : T.drop (q + 1) = d :: S) (hd : ¬ (d = 39 ∨ d = 92 ∨ d = 110)) : ∃ sl, quoE (qs A T p r b sg acc q (some (.val (.str (tx [92]))))) = .exn "BadSign" ⟨sl, Hc A T p r b sg⟩ := by
  have o1 : ∀ n, okA n (.str (tx [92])) = true := fun n => okA_t1 (by decide)
  have o2 : ∀ n, okA n (.str (tx [d])) = true := fun n => okA_t1 (o.val h)
  have hl : T.length ≤ 16777216 := by have := o.len; omega
  have hq := Ok.lt h
  have e1 := cut_tx T (q + 1) (q + 2) (by omega)
  rw [h, show q + 2 - (q + 1) = 1 by omega] at e1
  have e1 : cutS (tx T) (some ((q : Int) + 1)) (some ((q : Int) + 1 + 1)) = tx [d] := by
    rw [show (q : Int) + 1 + 1 = ((q + 2 : Nat) : Int) by omega]
    simpa using e1
  refine ⟨[some (.val (.ref A.length)), some (.val (.str (tx acc))), some (.val (.int ((q : Int) + 1))), some (.val (.str (tx [d])))], ?_⟩
  simp [quoE, qs, -fldM_at, f_text, bs_tx, o1, o2, hl, e1, empty_tx, okA_t0, addI, lsB_i, lsB_s, esc_tx, occ3, hd]
theorem quoE_ok (o : Ok T) (h : T.drop (q + 1) = d :: S) (hd : d = 39 ∨ d = 92 ∨ d = 110) : quoE (qs A T p r b sg acc q (some (.val (.str (tx [92]))))) = .ok .nx (qs A T p r b sg acc (q + 1) (some (.val (.str (tx [if d = 110 then 10 else d]))))) := by
  have o1 : ∀ n, okA n (.str (tx [92])) = true := fun n => okA_t1 (by decide)
  have o2 : ∀ n, okA n (.str (tx [d])) = true := fun n => okA_t1 (o.val h)
  have o3 : ∀ n, okA n (.str (tx [110])) = true := fun n => okA_t1 (by decide)
  have hl : T.length ≤ 16777216 := by have := o.len; omega
  have hq := Ok.lt h
  have e1 := cut_tx T (q + 1) (q + 2) (by omega)
  rw [h, show q + 2 - (q + 1) = 1 by omega] at e1
  have e1 : cutS (tx T) (some ((q : Int) + 1)) (some ((q : Int) + 1 + 1)) = tx [d] := by
    rw [show (q : Int) + 1 + 1 = ((q + 2 : Nat) : Int) by omega]
    simpa using e1
  by_cases h1 : d = 110
  · subst h1
    simp [quoE, qs, -fldM_at, f_text, bs_tx, o1, o2, hl, e1, empty_tx, okA_t0, addI, lsB_i, lsB_s, esc_tx, occ3, n_tx, nl_tx]
  · have hd2 : ¬ (¬ d = 39 ∧ ¬ d = 92) := by omega
    simp [quoE, qs, -fldM_at, f_text, bs_tx, o1, o2, o3, hl, e1, empty_tx, okA_t0, addI, lsB_i, lsB_s, esc_tx, occ3, n_tx, nl_tx, hd, hd2, h1]
theorem quoF_ok (ha : acc.length ≤ 1000000) : quoF (qs A T p r b sg acc q (some (.val (.str (tx [d]))))) = .ok .nx (qs A T p r b sg (acc ++ [d]) (q + 1) (some (.val (.str (tx [d]))))) := by
  have hl : acc.length + 1 ≤ 16777216 := by omega
  simp [quoF, qs, addI, addS, hl, lsB_i, lsB_s]
theorem quo_stop {n : Nat} (o : Ok T) (h : T.drop q = S) (hq : q ≤ T.length) (hS : S.head? = none ∨ S.head? = some 39 ∨ S.head? = some 10) : whileM quoT quoB (n + 1) (qs A T p r b sg acc q x) = .ok .nx (qs A T p r b sg acc q x) := by
  rw [whileM_at]
  cases S with
  | nil =>
    rw [quoT_out o h]
    simp
  | cons d S =>
    have hd : d = 39 ∨ d = 10 := by simpa using hS
    rw [quoT_in o h, decide_eq_true hd]
    simp
theorem quo_plain {n : Nat} (o : Ok T) (h : T.drop q = d :: S) (h1 : d ≠ 39) (h2 : d ≠ 10) (h3 : d ≠ 92) (ha : acc.length ≤ 1000000) : whileM quoT quoB (n + 1) (qs A T p r b sg acc q x) = whileM quoT quoB n (qs A T p r b sg (acc ++ [d]) (q + 1) (some (.val (.str (tx [d]))))) := by
  have hd : ¬ (d = 39 ∨ d = 10) := by omega
  rw [whileM_at, quoT_in o h, decide_eq_false hd, Bool.not_false, bindR_ok]
  simp only [if_true]
  rw [quoB, seqM_at, quoA o h, seqR_nx, seqM_at, quoE_no o (o.val h) h3, seqR_nx, quoF_ok ha, turnR_nx]
theorem quo_esc {n : Nat} (o : Ok T) (h : T.drop q = 92 :: d :: S) (hd : d = 39 ∨ d = 92 ∨ d = 110) (ha : acc.length ≤ 1000000) : whileM quoT quoB (n + 1) (qs A T p r b sg acc q x) = whileM quoT quoB n (qs A T p r b sg (acc ++ [if d = 110 then 10 else d]) (q + 2) (some (.val (.str (tx [if d = 110 then 10 else d]))))) := by
  have hn : ¬ ((92 : Nat) = 39 ∨ (92 : Nat) = 10) := by omega
  rw [whileM_at, quoT_in o h, decide_eq_false hn, Bool.not_false, bindR_ok]
  simp only [if_true]
  rw [quoB, seqM_at, quoA o h, seqR_nx, seqM_at, quoE_ok o (Ok.nxt h) hd, seqR_nx, quoF_ok ha, turnR_nx]
theorem quo_exn {n : Nat} (o : Ok T) (h : T.drop q = 92 :: S) (hd : S = [] ∨ ∃ d R, S = d :: R ∧ ¬ (d = 39 ∨ d = 92 ∨ d = 110)) : ∃ sl, whileM quoT quoB (n + 1) (qs A T p r b sg acc q x) = .exn "BadSign" ⟨sl, Hc A T p r b sg⟩ := by
  have hn : ¬ ((92 : Nat) = 39 ∨ (92 : Nat) = 10) := by omega
  rcases hd with hd | ⟨d, R, hd, hdd⟩
  · subst hd
    obtain ⟨sl, e⟩ := quoE_end (A := A) (p := p) (r := r) (b := b) (sg := sg) (acc := acc) o (Ok.nxt h) (Ok.lt h)
    refine ⟨sl, ?_⟩
    rw [whileM_at, quoT_in o h, decide_eq_false hn, Bool.not_false, bindR_ok]
    simp only [if_true]
    rw [quoB, seqM_at, quoA o h, seqR_nx, seqM_at, e]
    rfl
  · subst hd
    obtain ⟨sl, e⟩ := quoE_bad (A := A) (p := p) (r := r) (b := b) (sg := sg) (acc := acc) o (Ok.nxt h) hdd
    refine ⟨sl, ?_⟩
    rw [whileM_at, quoT_in o h, decide_eq_false hn, Bool.not_false, bindR_ok]
    simp only [if_true]
    rw [quoB, seqM_at, quoA o h, seqR_nx, seqM_at, e]
    rfl
end
def QuoRes (A : AH) (T : List Nat) (p r b : Nat) (sg : List AV) (acc S : List Nat) (res : Res Fl) : Prop := match cutQ S with
  | some z => ∃ q' x', res = .ok .nx (qs A T p r b sg (acc ++ z.1) q' x') ∧ T.drop q' = 39 :: z.2
  | none => (∃ sl, res = .exn "BadSign" ⟨sl, Hc A T p r b sg⟩) ∨ ∃ acc' q' x', res = .ok .nx (qs A T p r b sg acc' q' x') ∧ q' ≤ T.length ∧ (T.drop q').head? ≠ some 39
theorem QuoRes.stop {A : AH} {T : List Nat} {p r b : Nat} {sg : List AV} {acc S : List Nat} {n q : Nat} {x : Option SV} (o : Ok T) (h : T.drop q = S) (hq : q ≤ T.length) (hS : S.head? = none ∨ S.head? = some 10) (hc : cutQ S = none) : QuoRes A T p r b sg acc S (whileM quoT quoB (n + 1) (qs A T p r b sg acc q x)) := by
  unfold QuoRes
  rw [hc]
  refine Or.inr ⟨acc, q, x, quo_stop o h hq (hS.imp id Or.inr), hq, ?_⟩
  rw [h]
  rcases hS with hS | hS <;> rw [hS] <;> simp
theorem quo_loop (A : AH) (T : List Nat) (p r b : Nat) (sg : List AV) (o : Ok T) : ∀ (S : List Nat) (n q : Nat) (acc : List Nat) (x : Option SV), T.drop q = S → q ≤ T.length → S.length < n → acc.length + S.length ≤ 2000 → QuoRes A T p r b sg acc S (whileM quoT quoB n (qs A T p r b sg acc q x))
  | [], n + 1, q, acc, x, h, hq, hn, ha => QuoRes.stop o h hq (Or.inl rfl) rfl
  | [c], n + 1, q, acc, x, h, hq, hn, ha => by
    by_cases h1 : c = 39
    · subst h1
      exact ⟨q, x, by rw [quo_stop o h hq (Or.inr (Or.inl rfl)), List.append_nil], h⟩
    by_cases h2 : c = 10
    · subst h2
      exact QuoRes.stop o h hq (Or.inr rfl) rfl
    have hc : cutQ [c] = none := by simp [cutQ, h1]
    by_cases h3 : c = 92
    · subst h3
      unfold QuoRes
      rw [hc]
      exact Or.inl (quo_exn o h (Or.inl rfl))
    · have ih := quo_loop A T p r b sg o [] n (q + 1) (acc ++ [c]) (some (.val (.str (tx [c])))) (Ok.nxt h) (Ok.lt h) (by simp at hn ⊢; omega) (by simp at ha ⊢; omega)
      rw [quo_plain o h h1 h2 h3 (by omega)]
      unfold QuoRes at ih ⊢
      rw [hc]
      exact ih
  | c :: d :: S, n + 1, q, acc, x, h, hq, hn, ha => by
    by_cases h1 : c = 39
    · subst h1
      exact ⟨q, x, by rw [quo_stop o h hq (Or.inr (Or.inl rfl)), List.append_nil], h⟩
    by_cases h2 : c = 10
    · subst h2
      exact QuoRes.stop o h hq (Or.inr rfl) rfl
    by_cases h3 : c = 92
    · subst h3
      by_cases hd : d = 39 ∨ d = 92 ∨ d = 110
      · have hc : cutQ (92 :: d :: S) = (cutQ S).map fun z => ((if d = 110 then 10 else d) :: z.1, z.2) := by simp [cutQ, hd]
        have ih := quo_loop A T p r b sg o S n (q + 2) (acc ++ [if d = 110 then 10 else d]) (some (.val (.str (tx [if d = 110 then 10 else d])))) (Ok.nxt (Ok.nxt h)) (Ok.lt (Ok.nxt h)) (by simp at hn ⊢; omega) (by simp at ha ⊢; omega)
        rw [quo_esc o h hd (by omega)]
        unfold QuoRes at ih ⊢
        rw [hc]
        cases hz : cutQ S with
        | none =>
          rw [hz] at ih
          exact ih
        | some z =>
          rw [hz] at ih
          obtain ⟨q', x', e1, e2⟩ := ih
          exact ⟨q', x', by rw [e1, List.append_assoc]; rfl, e2⟩
      · have hc : cutQ (92 :: d :: S) = none := by simp [cutQ, hd]
        unfold QuoRes
        rw [hc]
        exact Or.inl (quo_exn o h (Or.inr ⟨d, S, rfl, hd⟩))
    · have hc : cutQ (c :: d :: S) = (cutQ (d :: S)).map fun z => (c :: z.1, z.2) := by simp [cutQ, h1, h2, h3]
      have ih := quo_loop A T p r b sg o (d :: S) n (q + 1) (acc ++ [c]) (some (.val (.str (tx [c])))) (Ok.nxt h) (Ok.lt h) (by simp at hn ⊢; omega) (by simp at ha ⊢; omega)
      rw [quo_plain o h h1 h2 h3 (by omega)]
      unfold QuoRes at ih ⊢
      rw [hc]
      cases hz : cutQ (d :: S) with
      | none =>
        rw [hz] at ih
        exact ih
      | some z =>
        rw [hz] at ih
        obtain ⟨q', x', e1, e2⟩ := ih
        exact ⟨q', x', by rw [e1, List.append_assoc]; rfl, e2⟩
termination_by S => S.length
def quoZ : M Fl := (seqM
 (ifM (cmpM neW (pkE (slM (pkE (fldM ["Cutter"] "text" (pkV 0))) (partM (vM 2)) (partM (op2 addX (vM 2) (cM (.int 1)))))) (pkE (cM (.str "'")))) (raiM "BadSign") nxM)
 (seqM
 (stM ["Cutter"] "place" (pkV 0) (op2 addX (vM 2) (cM (.int 1))))
 (retM (vM 1))))
section
variable {A : AH} {T : List Nat} {p r b d q c : Nat} {S : List Nat} {sg : List AV} {acc : List Nat} {x : Option SV}
theorem quoZ_ok (o : Ok T) (h : T.drop q = 39 :: S) : quoZ (qs A T p r b sg acc q x) = .ok (.rt (.str (tx acc))) (qs A T (q + 1) r b sg acc q x) := by
  have o1 : ∀ n, okA n (.str (tx [39])) = true := fun n => okA_t1 (by decide)
  have hl : T.length ≤ 16777216 := by have := o.len; omega
  have hq := Ok.lt h
  have e1 := cut_tx T q (q + 1) (by omega)
  rw [h, show q + 1 - q = 1 by omega] at e1
  have e1 : cutS (tx T) (some (q : Int)) (some ((q : Int) + 1)) = tx [39] := by simpa using e1
  have e2 : LM.stM ["Cutter"] "place" (pkV 0) (op2 addX (vM 2) (cM (.int 1))) (qs A T p r b sg acc q x) = .ok .nx (qs A T (q + 1) r b sg acc q x) := st_place rfl (by simp)
  have e3 : (ifM (cmpM neW (pkE (slM (pkE (fldM ["Cutter"] "text" (pkV 0))) (partM (vM 2)) (partM (op2 addX (vM 2) (cM (.int 1)))))) (pkE (cM (.str "'")))) (raiM "BadSign") nxM) (qs A T p r b sg acc q x) = .ok .nx (qs A T p r b sg acc q x) := by
    simp [qs, -fldM_at, f_text, quo_tx, o1, hl, e1]
  rw [quoZ, seqM_at, e3, seqR_nx, seqM_at, e2, seqR_nx]
  rfl
theorem quoZ_no (o : Ok T) (hq : q ≤ T.length) (h : (T.drop q).head? ≠ some 39) : quoZ (qs A T p r b sg acc q x) = .exn "BadSign" (qs A T p r b sg acc q x) := by
  have o1 : ∀ n, okA n (.str (tx [39])) = true := fun n => okA_t1 (by decide)
  have hl : T.length ≤ 16777216 := by have := o.len; omega
  have e1 := cut_tx T q (q + 1) (by omega)
  rw [show q + 1 - q = 1 by omega] at e1
  have e1 : cutS (tx T) (some (q : Int)) (some ((q : Int) + 1)) = tx ((T.drop q).take 1) := by simpa using e1
  have o2 : ∀ n, okA n (.str (tx ((T.drop q).take 1))) = true := fun n => okA_tx fun d hd => o.sm d (List.mem_of_mem_drop (List.mem_of_mem_take hd))
  have ne : ¬ (T.drop q).take 1 = [39] := by
    intro e
    cases hS : T.drop q with
    | nil => rw [hS] at e; cases e
    | cons d S =>
      rw [hS] at e h
      simp at e h
      exact h e
  generalize hy : (T.drop q).take 1 = y at e1 o2 ne
  have e3 : (ifM (cmpM neW (pkE (slM (pkE (fldM ["Cutter"] "text" (pkV 0))) (partM (vM 2)) (partM (op2 addX (vM 2) (cM (.int 1)))))) (pkE (cM (.str "'")))) (raiM "BadSign") nxM) (qs A T p r b sg acc q x) = .exn "BadSign" (qs A T p r b sg acc q x) := by
    simp [qs, -fldM_at, f_text, quo_tx, o1, o2, hl, e1, ne]
  rw [quoZ, seqM_at, e3]
  rfl
theorem quoted_ok (o : Ok T) (h : T.drop p = c :: S) : m_Cutter_quoted [.ref A.length] (Hc A T p r b sg) = match cutQ S with
    | some z => .ok (.str (tx z.1)) (Hc A T (T.length - z.2.length) r b sg)
    | none => .exn "BadSign" (Hc A T p r b sg) := by
  have hb : b_Cutter_quoted = seqM (parM 1 2 (consM (cM (.str "")) (consM (op2 addX (fldM ["Cutter"] "place" (pkV 0)) (cM (.int 1))) nilM))) (seqM (whileM quoT quoB 1000000) quoZ) := rfl
  have e0 : slots0 4 [.ref A.length] = [some (.val (.ref A.length)), none, none, none] := rfl
  have e1 : (parM 1 2 (consM (cM (.str "")) (consM (op2 addX (fldM ["Cutter"] "place" (pkV 0)) (cM (.int 1))) nilM))) ⟨[some (.val (.ref A.length)), none, none, none], Hc A T p r b sg⟩ = .ok .nx (qs A T p r b sg [] (p + 1) none) := by
    simp [qs, -fldM_at, f_place, empty_tx]
  have hs := o.suflen (Ok.nxt h)
  have loop := quo_loop A T p r b sg o S 1000000 (p + 1) [] none (Ok.nxt h) (Ok.lt h) (by omega) (by simp; omega)
  rw [m_Cutter_quoted, hb, fnM_at, e0, seqM_at, e1, seqR_nx, seqM_at]
  unfold QuoRes at loop
  cases hz : cutQ S with
  | none =>
    rw [hz] at loop
    rcases loop with ⟨sl, e⟩ | ⟨acc', q', x', e, hq', hh⟩
    · rw [e]
      rfl
    · rw [e, seqR_nx, quoZ_no o hq' hh]
      rfl
  | some z =>
    rw [hz] at loop
    obtain ⟨q', x', e, hd⟩ := loop
    rw [e, seqR_nx, quoZ_ok o hd]
    have hl : q' + 1 = T.length - z.2.length := by
      have := congrArg List.length hd
      simp at this
      omega
    show _ = RF.ok _ (Hc A T (T.length - z.2.length) r b sg)
    rw [← hl]
    rfl
end

/-! marks -/
def mks : List (List Nat) := [[58, 45], [63, 45], [60, 61], [33, 61], [58, 61], [40], [41], [44], [46], [33], [60], [61], [43], [45], [42]]
abbrev marksL : List Str := [":-", "?-", "<=", "!=", ":=", "(", ")", ",", ".", "!", "<", "=", "+", "-", "*"]
theorem marks_tx : marksL.map AV.str = mks.map fun l => AV.str (tx l) := by kernel_rfl
def cutM (c : Nat) (S : List Nat) : Option (List Nat × List Nat) := if c :: S.take 1 ∈ mks then some (c :: S.take 1, S.drop 1) else if [c] ∈ mks then some ([c], S) else none
theorem inL_tx (l : List Nat) : ∀ L : List (List Nat), inL (.str (tx l)) (L.map fun l => AV.str (tx l)) = decide (l ∈ L)
  | [] => rfl
  | k :: L => by
    have ih := inL_tx l L
    unfold inL at ih ⊢
    simp [ih, eq_comm]
theorem okL_tx (n : Nat) : ∀ L : List (List Nat), (∀ l ∈ L, ∀ d ∈ l, d < 256) → okL (n + 1) (L.map fun l => AV.str (tx l)) = true
  | [], _ => rfl
  | k :: L, h => by
    have ih := okL_tx n L fun l hl => h l (List.mem_cons_of_mem _ hl)
    have h1 : okA (n + 1) (.str (tx k)) = true := okA_tx (h k (List.mem_cons_self))
    simp [ih, h1]
theorem mks_ok : okL 59 (mks.map fun l => AV.str (tx l)) = true := okL_tx 58 mks (by decide)
def marT : M Bool := cmpM inC (pkV 1) (pkE (cM (.ct (marksL.map AV.str))))
def marB : M Fl := (ifM marT (seqM
 (augFM ["Cutter"] "place" addI (pkV 0) (cbM lenA (consM (pkV 1) nilM)))
 (retM (vM 1))) nxM)
theorem marT_ok {l : List Nat} {a : Option SV} {h : AH} (hl : ∀ d ∈ l, d < 256) : marT ⟨[a, some (.val (.str (tx l)))], h⟩ = .ok (decide (l ∈ mks)) ⟨[a, some (.val (.str (tx l)))], h⟩ := by
  unfold marT
  rw [marks_tx]
  have o1 : ∀ n, okA n (.str (tx l)) = true := fun n => okA_tx hl
  have o2 := mks_ok
  have e := inL_tx l mks
  generalize (mks.map fun l => AV.str (tx l)) = L at o2 e
  simp [o1, o2, e]
section
variable {A : AH} {T : List Nat} {p r b d q c : Nat} {S : List Nat} {sg : List AV} {acc : List Nat} {x : Option SV}
theorem marB_no {l : List Nat} (hl : ∀ d ∈ l, d < 256) (h : l ∉ mks) : marB ⟨[some (.val (.ref A.length)), some (.val (.str (tx l)))], Hc A T p r b sg⟩ = .ok .nx ⟨[some (.val (.ref A.length)), some (.val (.str (tx l)))], Hc A T p r b sg⟩ := by
  rw [marB, ifM_at, marT_ok hl, decide_eq_false h]
  rfl
theorem marB_yes {l : List Nat} (hl : ∀ d ∈ l, d < 256) (h : l ∈ mks) : marB ⟨[some (.val (.ref A.length)), some (.val (.str (tx l)))], Hc A T p r b sg⟩ = .ok (.rt (.str (tx l))) ⟨[some (.val (.ref A.length)), some (.val (.str (tx l)))], Hc A T (p + l.length) r b sg⟩ := by
  have hm : l.length ≤ 2 := by
    have : ∀ l ∈ mks, l.length ≤ 2 := by decide
    exact this l h
  have hl2 : l.length ≤ 16777216 := by omega
  rw [marB, ifM_at, marT_ok hl, decide_eq_true h]
  have e : (augFM ["Cutter"] "place" addI (pkV 0) (cbM lenA (consM (pkV 1) nilM))) ⟨[some (.val (.ref A.length)), some (.val (.str (tx l)))], Hc A T p r b sg⟩ = .ok .nx ⟨[some (.val (.ref A.length)), some (.val (.str (tx l)))], Hc A T (p + l.length) r b sg⟩ := aug_place rfl (by simp [hl2])
  show (seqM _ _) _ = _
  rw [seqM_at, e, seqR_nx]
  rfl
theorem mark_ok (o : Ok T) (h : T.drop p = c :: S) : m_Cutter_mark [.ref A.length] (Hc A T p r b sg) = match cutM c S with
    | some z => .ok (.str (tx z.1)) (Hc A T (p + z.1.length) r b sg)
    | none => .exn "BadSign" (Hc A T p r b sg) := by
  have hq := Ok.lt h
  have hl : T.length ≤ 16777216 := by have := o.len; omega
  have e1 := cut_tx T p (p + 2) (by omega)
  rw [h, show p + 2 - p = 2 by omega] at e1
  have e1 : cutS (tx T) (some (p : Int)) (some ((p : Int) + 2)) = tx (c :: S.take 1) := e1
  have hc : c < 256 := o.val h
  have h1 : ∀ d ∈ c :: S.take 1, d < 256 := fun d hd => by
    rcases List.mem_cons.mp hd with e | e
    · omega
    · exact o.suf (Ok.nxt h) d (List.mem_of_mem_take e)
  have h2 : ∀ d ∈ [c], d < 256 := fun d hd => by
    have : d = c := by simpa using hd
    omega
  have hb : b_Cutter_mark = seqM (forM (itM (tupM (consM (slM (pkE (fldM ["Cutter"] "text" (pkV 0))) (partM (fldM ["Cutter"] "place" (pkV 0))) (partM (op2 addX (fldM ["Cutter"] "place" (pkV 0)) (cM (.int 2))))) (consM (ixM (pkE (fldM ["Cutter"] "text" (pkV 0))) (pkE (fldM ["Cutter"] "place" (pkV 0)))) nilM)))) (setV 1) marB) (raiM "BadSign") := rfl
  have e0 : slots0 2 [.ref A.length] = [some (.val (.ref A.length)), none] := rfl
  have e2 : (itM (tupM (consM (slM (pkE (fldM ["Cutter"] "text" (pkV 0))) (partM (fldM ["Cutter"] "place" (pkV 0))) (partM (op2 addX (fldM ["Cutter"] "place" (pkV 0)) (cM (.int 2))))) (consM (ixM (pkE (fldM ["Cutter"] "text" (pkV 0))) (pkE (fldM ["Cutter"] "place" (pkV 0)))) nilM)))) ⟨[some (.val (.ref A.length)), none], Hc A T p r b sg⟩ = .ok [.str (tx (c :: S.take 1)), .str (tx [c])] ⟨[some (.val (.ref A.length)), none], Hc A T p r b sg⟩ := by
    simp [-fldM_at, f_place, f_text, hl, e1, at_tx (Ok.at h), ch_tx]
  rw [m_Cutter_mark, hb, fnM_at, e0, seqM_at, forM_at, e2]
  rw [bindR_ok]
  show fnR (seqR (forL (setV 1) marB [.str (tx (c :: S.take 1)), .str (tx [c])] ⟨[some (.val (.ref A.length)), none], Hc A T p r b sg⟩) _) = _
  by_cases k1 : c :: S.take 1 ∈ mks
  · have hz : cutM c S = some (c :: S.take 1, S.drop 1) := if_pos k1
    rw [forL_setV]
    show fnR (seqR (turnR (marB ⟨[some (.val (.ref A.length)), some (.val (.str (tx (c :: S.take 1))))], Hc A T p r b sg⟩) _) _) = _
    rw [marB_yes h1 k1, hz]
    rfl
  · rw [forL_setV]
    show fnR (seqR (turnR (marB ⟨[some (.val (.ref A.length)), some (.val (.str (tx (c :: S.take 1))))], Hc A T p r b sg⟩) _) _) = _
    rw [marB_no h1 k1, turnR_nx, forL_setV]
    show fnR (seqR (turnR (marB ⟨[some (.val (.ref A.length)), some (.val (.str (tx [c])))], Hc A T p r b sg⟩) _) _) = _
    by_cases k2 : [c] ∈ mks
    · have hz : cutM c S = some ([c], S) := by rw [cutM, if_neg k1, if_pos k2]
      rw [marB_yes h2 k2, hz]
      rfl
    · have hz : cutM c S = none := by rw [cutM, if_neg k1, if_neg k2]
      rw [marB_no h2 k2, hz]
      rfl
end

/-! white and remarks -/
def skw : Bool → List Nat → Nat → Nat → List Nat × Nat × Nat
  | _, [], r, k => ([], r, k)
  | m, c :: S, r, k => if c = 10 then skw false S (r + 1) 0 else if m = true ∨ c = 35 then skw true S r (k + 1) else if c = 32 ∨ c = 9 then skw false S r (k + 1) else (c :: S, r, k)
theorem skw_rem0 : ∀ (S : List Nat) (r k : Nat), 10 ∉ S → skw true S r k = ([], r, k + S.length)
  | [], r, k, h => rfl
  | c :: S, r, k, h => by
    have h1 : c ≠ 10 := fun e => h (by rw [e]; exact List.mem_cons_self)
    have ih := skw_rem0 S r (k + 1) fun e => h (List.mem_cons_of_mem _ e)
    simp only [skw, h1, if_false, true_or, if_true, ih, List.length_cons]
    congr 2
    omega
theorem skw_rem1 : ∀ (U V : List Nat) (r k : Nat), 10 ∉ U → skw true (U ++ 10 :: V) r k = skw false (10 :: V) r (k + U.length)
  | [], V, r, k, h => by simp [skw]
  | c :: U, V, r, k, h => by
    have h1 : c ≠ 10 := fun e => h (by rw [e]; exact List.mem_cons_self)
    have ih := skw_rem1 U V r (k + 1) fun e => h (List.mem_cons_of_mem _ e)
    rw [List.cons_append, skw]
    simp only [h1, if_false, true_or, if_true, ih, List.length_cons]
    congr 1
    omega
theorem posL_no (c : Nat) : ∀ (S : List Nat) (i : Nat), c ∉ S → posL c S i = []
  | [], i, h => rfl
  | d :: S, i, h => by
    have h1 : d ≠ c := fun e => h (by rw [e]; exact List.mem_cons_self)
    rw [posL, if_neg h1]
    exact posL_no c S _ fun e => h (List.mem_cons_of_mem _ e)
theorem posL_at (c : Nat) : ∀ (U V : List Nat) (i : Nat), c ∉ U → ∃ l, posL c (U ++ c :: V) i = (i + U.length) :: l
  | [], V, i, h => ⟨_, by rw [List.nil_append, posL, if_pos rfl]; rfl⟩
  | d :: U, V, i, h => by
    have h1 : d ≠ c := fun e => h (by rw [e]; exact List.mem_cons_self)
    obtain ⟨l, e⟩ := posL_at c U V (i + 1) fun e => h (List.mem_cons_of_mem _ e)
    exact ⟨l, by rw [List.cons_append, posL, if_neg h1, e, List.length_cons, show i + 1 + U.length = i + (U.length + 1) by omega]⟩
theorem split10 : ∀ S : List Nat, 10 ∉ S ∨ ∃ U V, S = U ++ 10 :: V ∧ 10 ∉ U
  | [] => Or.inl (by simp)
  | c :: S => by
    by_cases h : c = 10
    · exact Or.inr ⟨[], S, by rw [h]; rfl, by simp⟩
    · rcases split10 S with e | ⟨U, V, e1, e2⟩
      · exact Or.inl (by simp [Ne.symm h, e])
      · exact Or.inr ⟨c :: U, V, by rw [e1]; rfl, by simp [Ne.symm h, e2]⟩
theorem white_tx : (Str.ofString " \t") = tx [32, 9] := by kernel_rfl
theorem hash_tx : (Str.ofString "#") = tx [35] := by kernel_rfl
theorem occW (d : Nat) : (Builtin.Str.occurrences (tx [32, 9]) (tx [d]) 0 2 1).isEmpty = !decide (d ∈ [32, 9]) := occT d [32, 9]
def endT : M Bool := (cmpM ltX (pkE (fldM ["Cutter"] "place" (pkV 0))) (pkE (cbM lenA (consM (pkE (fldM ["Cutter"] "text" (pkV 0))) nilM))))
def endN : M Fl := (seqM
 (augFM ["Sign", "Cutter"] "row" addI (pkV 0) (cM (.int 1)))
 (LM.stM ["Cutter"] "begun" (pkV 0) (op2 addX (fldM ["Cutter"] "place" (pkV 0)) (cM (.int 1)))))
def endR : M Fl := (seqM
 (asgM (setV 2) (smM (pkE (fldM ["Cutter"] "text" (pkV 0))) (consM (cM (.str "\n")) (consM (fldM ["Cutter"] "place" (pkV 0)) nilM)) fndA))
 (LM.stM ["Cutter"] "place" (pkV 0) (ifM (cmpM ltX (pkV 2) (pkE (cM (.int 0)))) (op2 subA (cbM lenA (consM (pkE (fldM ["Cutter"] "text" (pkV 0))) nilM)) (cM (.int 1))) (op2 subA (vM 2) (cM (.int 1))))))
def endI : M Fl := (ifM (cmpM eqW (pkV 1) (pkE (cM (.str "\n")))) endN (ifM (cmpM eqW (pkV 1) (pkE (cM (.str "#")))) endR (ifM (cmpM ninC (pkV 1) (pkE (cM (.str " \t")))) (retM (cM (.bl false))) nxM)))
def endB : M Fl := seqM (asgM (setV 1) (ixM (pkE (fldM ["Cutter"] "text" (pkV 0))) (pkE (fldM ["Cutter"] "place" (pkV 0))))) (seqM endI (augFM ["Cutter"] "place" addI (pkV 0) (cM (.int 1))))
def es (A : AH) (T : List Nat) (p r b : Nat) (sg : List AV) (x y : Option SV) : SS := ⟨[some (.val (.ref A.length)), x, y], Hc A T p r b sg⟩
section
variable {A : AH} {T : List Nat} {p r b d q c : Nat} {S : List Nat} {sg : List AV} {acc : List Nat} {x y : Option SV}
theorem endT_in (o : Ok T) (h : T.drop p = d :: S) : endT (es A T p r b sg x y) = .ok true (es A T p r b sg x y) := by
  have hk := Ok.lt h
  have hl : T.length ≤ 16777216 := by have := o.len; omega
  simp [es, endT, -fldM_at, f_text, f_place, hk, hl]
theorem endT_out (o : Ok T) (h : T.drop p = []) : endT (es A T p r b sg x y) = .ok false (es A T p r b sg x y) := by
  have hk : ¬ p < T.length := by
    have := congrArg List.length h
    simp at this
    omega
  have hl : T.length ≤ 16777216 := by have := o.len; omega
  simp [es, endT, -fldM_at, f_text, f_place, hk, hl]
theorem endA (o : Ok T) (h : T.drop p = d :: S) : (asgM (setV 1) (ixM (pkE (fldM ["Cutter"] "text" (pkV 0))) (pkE (fldM ["Cutter"] "place" (pkV 0))))) (es A T p r b sg x y) = .ok .nx (es A T p r b sg (some (.val (.str (tx [d])))) y) := by
  have ht := Ok.at h
  have hl : T.length ≤ 16777216 := by have := o.len; omega
  simp [es, -fldM_at, f_text, f_place, at_tx ht, ch_tx, hl]
theorem endP : (augFM ["Cutter"] "place" addI (pkV 0) (cM (.int 1))) (es A T p r b sg x y) = .ok .nx (es A T (p + 1) r b sg x y) := aug_place (k := 1) rfl rfl
theorem endI_nl : endI (es A T p r b sg (some (.val (.str (tx [10])))) y) = .ok .nx (es A T p (r + 1) (p + 1) sg (some (.val (.str (tx [10])))) y) := by
  have o1 : ∀ n, okA n (.str (tx [10])) = true := fun n => okA_t1 (by decide)
  have e1 : (augFM ["Sign", "Cutter"] "row" addI (pkV 0) (cM (.int 1))) (es A T p r b sg (some (.val (.str (tx [10])))) y) = .ok .nx (es A T p (r + 1) b sg (some (.val (.str (tx [10])))) y) := aug_row (k := 1) rfl rfl
  have e2 : (LM.stM ["Cutter"] "begun" (pkV 0) (op2 addX (fldM ["Cutter"] "place" (pkV 0)) (cM (.int 1)))) (es A T p (r + 1) b sg (some (.val (.str (tx [10])))) y) = .ok .nx (es A T p (r + 1) (p + 1) sg (some (.val (.str (tx [10])))) y) := st_begun rfl (by simp [-fldM_at, f_place])
  have e3 : endI (es A T p r b sg (some (.val (.str (tx [10])))) y) = endN (es A T p r b sg (some (.val (.str (tx [10])))) y) := by simp [endI, es, o1, nl_tx]
  rw [e3, endN, seqM_at, e1, seqR_nx, e2]
theorem endI_w (h : d = 32 ∨ d = 9) : endI (es A T p r b sg (some (.val (.str (tx [d])))) y) = .ok .nx (es A T p r b sg (some (.val (.str (tx [d])))) y) := by
  have o1 : ∀ n, okA n (.str (tx [10])) = true := fun n => okA_t1 (by decide)
  have o2 : ∀ n, okA n (.str (tx [35])) = true := fun n => okA_t1 (by decide)
  have o3 : ∀ n, okA n (.str (tx [d])) = true := fun n => okA_t1 (by omega)
  have h1 : ¬ d = 10 := by omega
  have h2 : ¬ d = 35 := by omega
  have h3 : ¬ (¬ d = 32 ∧ ¬ d = 9) := by omega
  simp [endI, es, o1, o2, o3, nl_tx, hash_tx, white_tx, occW, h1, h2, h3]
theorem endI_no (hd : d < 256) (h : ¬ (d = 32 ∨ d = 9)) (h1 : ¬ d = 10) (h2 : ¬ d = 35) : endI (es A T p r b sg (some (.val (.str (tx [d])))) y) = .ok (.rt (.bl false)) (es A T p r b sg (some (.val (.str (tx [d])))) y) := by
  have o1 : ∀ n, okA n (.str (tx [10])) = true := fun n => okA_t1 (by decide)
  have o2 : ∀ n, okA n (.str (tx [35])) = true := fun n => okA_t1 (by decide)
  have o3 : ∀ n, okA n (.str (tx [d])) = true := fun n => okA_t1 hd
  have h3 : (¬ d = 32 ∧ ¬ d = 9) := by omega
  simp [endI, es, o1, o2, o3, nl_tx, hash_tx, white_tx, occW, h1, h2, h3]
theorem endR_at {k : Nat} (o : Ok T) (hp : p ≤ T.length) (hk : Txt.find3 (tx T) ⟨#[10]⟩ (p : Int) = (k : Int)) (k1 : 1 ≤ k) : endR (es A T p r b sg x y) = .ok .nx (es A T (k - 1) r b sg x (some (.val (.int (k : Int))))) := by
  have hl : T.length ≤ 16777216 := by have := o.len; omega
  have hk : Txt.find3 (tx T) (tx [10]) (p : Int) = (k : Int) := hk
  have e1 : (asgM (setV 2) (smM (pkE (fldM ["Cutter"] "text" (pkV 0))) (consM (cM (.str "\n")) (consM (fldM ["Cutter"] "place" (pkV 0)) nilM)) fndA)) (es A T p r b sg x y) = .ok .nx (es A T p r b sg x (some (.val (.int (k : Int))))) := by
    simp [es, -fldM_at, f_text, f_place, nl_tx, fndA, hk]
  have hn : ¬ (k : Int) < 0 := by omega
  have e2 : (LM.stM ["Cutter"] "place" (pkV 0) (ifM (cmpM ltX (pkV 2) (pkE (cM (.int 0)))) (op2 subA (cbM lenA (consM (pkE (fldM ["Cutter"] "text" (pkV 0))) nilM)) (cM (.int 1))) (op2 subA (vM 2) (cM (.int 1))))) (es A T p r b sg x (some (.val (.int (k : Int))))) = .ok .nx (es A T (k - 1) r b sg x (some (.val (.int (k : Int))))) := st_place rfl (by
      have : ((k - 1 : Nat) : Int) = (k : Int) - 1 := by omega
      rw [this]
      simp [-fldM_at, f_text, hl, hn, subA])
  rw [endR, seqM_at, e1, seqR_nx, e2]
theorem endR_no (o : Ok T) (hp : p < T.length) (hk : Txt.find3 (tx T) ⟨#[10]⟩ (p : Int) = -1) : endR (es A T p r b sg x y) = .ok .nx (es A T (T.length - 1) r b sg x (some (.val (.int (-1))))) := by
  have hl : T.length ≤ 16777216 := by have := o.len; omega
  have hk : Txt.find3 (tx T) (tx [10]) (p : Int) = -1 := hk
  have e1 : (asgM (setV 2) (smM (pkE (fldM ["Cutter"] "text" (pkV 0))) (consM (cM (.str "\n")) (consM (fldM ["Cutter"] "place" (pkV 0)) nilM)) fndA)) (es A T p r b sg x y) = .ok .nx (es A T p r b sg x (some (.val (.int (-1))))) := by
    simp [es, -fldM_at, f_text, f_place, nl_tx, fndA, hk]
  have e2 : (LM.stM ["Cutter"] "place" (pkV 0) (ifM (cmpM ltX (pkV 2) (pkE (cM (.int 0)))) (op2 subA (cbM lenA (consM (pkE (fldM ["Cutter"] "text" (pkV 0))) nilM)) (cM (.int 1))) (op2 subA (vM 2) (cM (.int 1))))) (es A T p r b sg x (some (.val (.int (-1))))) = .ok .nx (es A T (T.length - 1) r b sg x (some (.val (.int (-1))))) := st_place rfl (by
      have : ((T.length - 1 : Nat) : Int) = (T.length : Int) - 1 := by omega
      rw [this]
      simp [-fldM_at, f_text, hl, subA])
  rw [endR, seqM_at, e1, seqR_nx, e2]
theorem endI_hash : endI (es A T p r b sg (some (.val (.str (tx [35])))) y) = endR (es A T p r b sg (some (.val (.str (tx [35])))) y) := by
  have o1 : ∀ n, okA n (.str (tx [10])) = true := fun n => okA_t1 (by decide)
  have o2 : ∀ n, okA n (.str (tx [35])) = true := fun n => okA_t1 (by decide)
  simp [endI, es, o1, o2, nl_tx, hash_tx]
/-- one turn -/
theorem end_turn {n : Nat} (o : Ok T) (h : T.drop p = d :: S) : whileM endT endB (n + 1) (es A T p r b sg x y) = turnR (seqR (endI (es A T p r b sg (some (.val (.str (tx [d])))) y)) (augFM ["Cutter"] "place" addI (pkV 0) (cM (.int 1)))) (whileM endT endB n) := by
  rw [whileM_at, endT_in o h, bindR_ok]
  simp only [if_true]
  rw [endB, seqM_at, endA o h, seqR_nx, seqM_at]
end
def EndRes (A : AH) (T : List Nat) (sg : List AV) (z : List Nat × Nat × Nat) (res : Res Fl) : Prop := ∃ x y b, b + z.2.2 = T.length - z.1.length ∧ T.drop (T.length - z.1.length) = z.1 ∧ z.1.length ≤ T.length ∧ res = match z.1 with
  | [] => .ok .nx (es A T T.length z.2.1 b sg x y)
  | _ :: _ => .ok (.rt (.bl false)) (es A T (T.length - z.1.length) z.2.1 b sg x y)
theorem end_loop (A : AH) (T : List Nat) (sg : List AV) (o : Ok T) : ∀ (S : List Nat) (n p r k b : Nat) (x y : Option SV), T.drop p = S → p ≤ T.length → b + k = p → S.length < n → EndRes A T sg (skw false S r k) (whileM endT endB n (es A T p r b sg x y))
  | [], n + 1, p, r, k, b, x, y, h, hp, hb, hn => by
    have hl : T.length ≤ p := by
      have := congrArg List.length h
      simp at this
      omega
    have hpe : p = T.length := by omega
    subst hpe
    refine ⟨x, y, b, by simpa [skw] using hb, by simp [skw], by simp [skw], ?_⟩
    rw [whileM_at, endT_out o h]
    simp [skw]
  | d :: S, n + 1, p, r, k, b, x, y, h, hp, hb, hn => by
    have hlt := Ok.lt h
    rw [end_turn o h]
    by_cases h1 : d = 10
    · subst h1
      rw [endI_nl, seqR_nx, endP, turnR_nx]
      exact end_loop A T sg o S n (p + 1) (r + 1) 0 (p + 1) _ y (Ok.nxt h) hlt rfl (by simp at hn; omega)
    by_cases h2 : d = 35
    · subst h2
      rw [endI_hash]
      have hz : skw false (35 :: S) r k = skw true S r (k + 1) := by simp [skw]
      have hS : S.length = T.length - (p + 1) := by
        have := congrArg List.length (Ok.nxt h)
        simp at this
        omega
      rcases split10 S with hno | ⟨U, V, hUV, hU⟩
      · have hf := find3_tx T 10 p hp
        rw [h, posL_no 10 _ p (by simp [hno])] at hf
        rw [endR_no o hlt hf, seqR_nx, endP, turnR_nx, hz, skw_rem0 S r (k + 1) hno, show T.length - 1 + 1 = T.length by omega]
        have ih := end_loop A T sg o [] n T.length r (k + 1 + S.length) b (some (.val (.str (tx [35])))) (some (.val (.int (-1)))) (by simp) (Nat.le_refl _) (by omega) (by simp at hn ⊢; omega)
        simpa [skw] using ih
      · have hf := find3_tx T 10 p hp
        obtain ⟨l, hl⟩ := posL_at 10 (35 :: U) V p (by simp [hU])
        rw [h, hUV, show (35 :: (U ++ 10 :: V)) = (35 :: U) ++ 10 :: V by rfl, hl] at hf
        have hV : T.drop (p + (35 :: U).length) = 10 :: V := by
          rw [← List.drop_drop, h, hUV]
          simp
        rw [endR_at o hp hf (by simp only [List.length_cons]; omega), seqR_nx, endP, turnR_nx, hz, hUV, skw_rem1 U V r (k + 1) hU]
        have e : p + (35 :: U).length - 1 + 1 = p + (35 :: U).length := by simp; omega
        rw [e]
        have hSl : S.length = U.length + (V.length + 1) := by rw [hUV]; simp
        exact end_loop A T sg o (10 :: V) n (p + (35 :: U).length) r (k + 1 + U.length) b _ _ hV (by simp; omega) (by simp; omega) (by simp at hn ⊢; omega)
    by_cases h3 : d = 32 ∨ d = 9
    · rw [endI_w h3, seqR_nx, endP, turnR_nx]
      have hz : skw false (d :: S) r k = skw false S r (k + 1) := by simp [skw, h1, h2, h3]
      rw [hz]
      exact end_loop A T sg o S n (p + 1) r (k + 1) b _ y (Ok.nxt h) hlt (by omega) (by simp at hn; omega)
    · have hz : skw false (d :: S) r k = (d :: S, r, k) := by simp [skw, h1, h2, h3]
      rw [hz, endI_no (o.val h) h3 h1 h2]
      have hpe : T.length - (d :: S).length = p := by
        have := congrArg List.length h
        simp at this ⊢
        omega
      refine ⟨some (.val (.str (tx [d]))), y, b, ?_, ?_, ?_, ?_⟩
      · show b + k = _
        rw [hpe]
        exact hb
      · show T.drop (T.length - (d :: S).length) = d :: S
        rw [hpe]
        exact h
      · show (d :: S).length ≤ T.length
        have := congrArg List.length h
        simp at this ⊢
        omega
      · show _ = Res.ok (Fl.rt (AV.bl false)) (es A T (T.length - (d :: S).length) r b sg _ y)
        rw [hpe]
        rfl
termination_by S => S.length
decreasing_by
  all_goals (try rw [hUV]); simp <;> omega
theorem at_end_ok {A : AH} {T : List Nat} {p r k b : Nat} {S : List Nat} {sg : List AV} (o : Ok T) (h : T.drop p = S) (hp : p ≤ T.length) (hb : b + k = p) :
    ∃ b', b' + (skw false S r k).2.2 = T.length - (skw false S r k).1.length ∧ T.drop (T.length - (skw false S r k).1.length) = (skw false S r k).1 ∧
      m_Cutter_at_end [.ref A.length] (Hc A T p r b sg) = .ok (.bl (skw false S r k).1.isEmpty) (Hc A T (T.length - (skw false S r k).1.length) (skw false S r k).2.1 b' sg) := by
  have hbb : b_Cutter_at_end = seqM (whileM endT endB 1000000) (retM (cM (.bl true))) := rfl
  have e0 : slots0 3 [.ref A.length] = [some (.val (.ref A.length)), none, none] := rfl
  have hs := o.suflen h
  obtain ⟨x, y, b', e1, e2, e3, e4⟩ := end_loop A T sg o S 1000000 p r k b none none h hp hb (by omega)
  refine ⟨b', e1, e2, ?_⟩
  rw [m_Cutter_at_end, hbb, fnM_at, e0, seqM_at]
  show fnR (seqR (whileM endT endB 1000000 (es A T p r b sg none none)) _) = _
  rw [e4]
  generalize skw false S r k = z
  obtain ⟨S', r', k'⟩ := z
  cases S' with
  | nil =>
    show fnR (seqR (.ok .nx (es A T T.length r' b' sg x y)) _) = _
    rw [seqR_nx]
    rfl
  | cons c S' => rfl

/-! one sign -/
abbrev lowS : Str := Str.ofString "abcdefghijklmnopqrstuvwxyz"
abbrev upS : Str := Str.ofString "ABCDEFGHIJKLMNOPQRSTUVWXYZ"
abbrev wnS : Str := Str.ofString "abcdefghijklmnopqrstuvwxyzABCDEFGHIJKLMNOPQRSTUVWXYZ0123456789_"
theorem us_tx : (Str.ofString "_") = tx [95] := by kernel_rfl
def cut1 (sg : List Sg) (c : Nat) (S : List Nat) : Option (String × List Nat × List Nat) :=
  if c ∈ lowS.cps then some ("word", c :: tk wnS S, S.drop (tk wnS S).length)
  else if c ∈ upS.cps ∨ c = 95 then some ("name", c :: tk wnS S, S.drop (tk wnS S).length)
  else if c ∈ figs.cps ∨ (c = 45 ∧ stroke sg S = true) then (numS c S).map fun z => ("number", z, S.drop (tk figs S).length)
  else if c = 39 then (cutQ S).map fun z => ("quoted", z.1, z.2)
  else (cutM c S).map fun z => ("mark", z.1, z.2)
def oneK : M Fl := (ifM (cmpM inC (pkV 2) (pkE (cM (.str lowS)))) (parM 3 4 (consM (cM (.str "word")) (consM (methM "run" [⟨"Cutter", 2, m_Cutter_run, []⟩] (vM 0) (consM (cM (.str wnS)) nilM)) nilM))) (ifM (LM.orM (cmpM inC (pkV 2) (pkE (cM (.str upS)))) (cmpM eqW (pkV 2) (pkE (cM (.str "_"))))) (parM 3 4 (consM (cM (.str "name")) (consM (methM "run" [⟨"Cutter", 2, m_Cutter_run, []⟩] (vM 0) (consM (cM (.str wnS)) nilM)) nilM))) (ifM (LM.orM (cmpM inC (pkV 2) (pkE (cM (.str "0123456789")))) (truM (pkE (methM "signed" [⟨"Cutter", 1, m_Cutter_signed, []⟩] (vM 0) nilM)))) (parM 3 4 (consM (cM (.str "number")) (consM (methM "take_number" [⟨"Cutter", 1, m_Cutter_take_number, []⟩] (vM 0) nilM) nilM))) (ifM (cmpM eqW (pkV 2) (pkE (cM (.str "'")))) (parM 3 4 (consM (cM (.str "quoted")) (consM (methM "quoted" [⟨"Cutter", 1, m_Cutter_quoted, []⟩] (vM 0) nilM) nilM))) (parM 3 4 (consM (cM (.str "mark")) (consM (methM "mark" [⟨"Cutter", 1, m_Cutter_mark, []⟩] (vM 0) nilM) nilM)))))))
def oneA : M Fl := (expM (appM (isLst (pkE (fldM ["Cutter"] "signs" (pkV 0)))) (frM (mkM 5 m_Sign_init [] (consM (vM 3) (consM (vM 4) (consM (fldM ["Sign", "Cutter"] "row" (pkV 0)) (consM (vM 1) nilM))))))))
def oneP : M Fl := (parM 1 2 (consM (op2 addX (op2 subA (fldM ["Cutter"] "place" (pkV 0)) (fldM ["Cutter"] "begun" (pkV 0))) (cM (.int 1))) (consM (ixM (pkE (fldM ["Cutter"] "text" (pkV 0))) (pkE (fldM ["Cutter"] "place" (pkV 0)))) nilM)))
def os (A : AH) (T : List Nat) (p r b : Nat) (sg : List AV) (x y u v : Option SV) : SS := ⟨[some (.val (.ref A.length)), x, y, u, v], Hc A T p r b sg⟩
def iv (n : Nat) : Option SV := some (.val (.int (n : Int)))
def tv (l : List Nat) : Option SV := some (.val (.str (tx l)))
section
variable {A : AH} {T : List Nat} {p r b d q c k : Nat} {S : List Nat} {sg : List Sg} {x y : Option SV}
theorem oneP_ok (o : Ok T) (h : T.drop p = c :: S) (hb : b + k = p) {g : List AV} : oneP (os A T p r b g none none none none) = .ok .nx (os A T p r b g (iv (k + 1)) (tv [c]) none none) := by
  have ht := Ok.at h
  have hl : T.length ≤ 16777216 := by have := o.len; omega
  have e : (p : Int) - (b : Int) + 1 = ((k + 1 : Nat) : Int) := by omega
  simp [os, oneP, iv, tv, -fldM_at, f_text, f_place, f_begun, at_tx ht, ch_tx, hl, subA]
  omega
theorem oneA_ok (kind : String) (said : List Nat) (hs : sg.length ≤ 1000) : oneA (os A T p r b (sg.map Sg.av) (iv (k + 1)) (tv [c]) (some (.val (.str kind))) (tv said)) = .ok .nx (os A T p r b ((sg ++ [(⟨kind, said, r, k + 1⟩ : Sg)]).map Sg.av) (iv (k + 1)) (tv [c]) (some (.val (.str kind))) (tv said)) := by
  have hl : sg.length < 16777216 := by omega
  simp [oneA, os, iv, tv, -fldM_at, f_signs, f_row, hc_get2, m_Sign_init, b_Sign_init, slots0, hl]
  rw [hc_set2]
  rfl
/-- how a sign comes -/
def OneRes (A : AH) (T : List Nat) (r b k c : Nat) (sg : List Sg) (z : Option (String × List Nat × List Nat)) (res : Res Fl) : Prop := match z with
  | some z => res = .ok .nx (os A T (T.length - z.2.2.length) r b (sg.map Sg.av) (iv (k + 1)) (tv [c]) (some (.val (.str z.1))) (tv z.2.1))
  | none => ∃ p' sl, res = .exn "BadSign" ⟨sl, Hc A T p' r b (sg.map Sg.av)⟩
theorem runP (o : Ok T) (h : T.drop p = c :: S) (g : Str) : p + 1 + (tk g S).length = T.length - (S.drop (tk g S).length).length := by
  have hl : (tk g S).length ≤ S.length := List.Sublist.length_le (List.takeWhile_sublist _)
  have := congrArg List.length h
  simp at this ⊢
  omega
theorem quoP : ∀ (S : List Nat) (z : List Nat × List Nat), cutQ S = some z → ∃ U, S = U ++ z.2
  | [], z, h => by cases h
  | [c], z, h => by
    by_cases h1 : c = 39
    · simp [cutQ, h1] at h
      exact ⟨[c], by rw [← h]; rfl⟩
    · simp [cutQ, h1] at h
  | c :: d :: S, z, h => by
    by_cases h1 : c = 39
    · simp [cutQ, h1] at h
      exact ⟨[c], by rw [← h]; rfl⟩
    by_cases h2 : c = 10
    · simp [cutQ, h2] at h
    by_cases h3 : c = 92
    · by_cases hd : d = 39 ∨ d = 92 ∨ d = 110
      · have hc : cutQ (c :: d :: S) = (cutQ S).map fun z => ((if d = 110 then 10 else d) :: z.1, z.2) := by simp [cutQ, h3, hd]
        rw [hc] at h
        cases hz : cutQ S with
        | none => rw [hz] at h; cases h
        | some w =>
          rw [hz] at h
          obtain ⟨U, e⟩ := quoP S w hz
          have : z = ((if d = 110 then 10 else d) :: w.1, w.2) := (Option.some.inj h).symm
          exact ⟨c :: d :: U, by rw [this, e]; rfl⟩
      · simp [cutQ, h3, hd] at h
    · have hc : cutQ (c :: d :: S) = (cutQ (d :: S)).map fun z => (c :: z.1, z.2) := by simp [cutQ, h1, h2, h3]
      rw [hc] at h
      cases hz : cutQ (d :: S) with
      | none => rw [hz] at h; cases h
      | some w =>
        rw [hz] at h
        obtain ⟨U, e⟩ := quoP (d :: S) w hz
        have : z = (c :: w.1, w.2) := (Option.some.inj h).symm
        exact ⟨c :: U, by rw [this, e]; rfl⟩
theorem marP (o : Ok T) (h : T.drop p = c :: S) (z : List Nat × List Nat) (hz : cutM c S = some z) : p + z.1.length = T.length - z.2.length := by
  have := congrArg List.length h
  unfold cutM at hz
  split at hz
  · obtain rfl := (Option.some.inj hz).symm
    simp at this ⊢
    omega
  · split at hz
    · obtain rfl := (Option.some.inj hz).symm
      simp at this ⊢
      omega
    · cases hz
theorem tV {l : List Nat} : tv l = some (.val (.str (tx l))) := rfl
theorem oneK_ok (o : Ok T) (sok : SgOk sg) (h : T.drop p = c :: S) : OneRes A T r b k c sg (cut1 sg c S) (oneK (os A T p r b (sg.map Sg.av) (iv (k + 1)) (tv [c]) none none)) := by
  have hcc := o.val h
  have oc : ∀ n, okA n (.str (tx [c])) = true := fun n => okA_t1 hcc
  have o95 : ∀ n, okA n (.str (tx [95])) = true := fun n => okA_t1 (by decide)
  have o39 : ∀ n, okA n (.str (tx [39])) = true := fun n => okA_t1 (by decide)
  have w1 : (Builtin.Str.occurrences lowS (tx [c]) 0 lowS.length 1).isEmpty = !decide (c ∈ lowS.cps) := occE c lowS
  have w2 : (Builtin.Str.occurrences upS (tx [c]) 0 upS.length 1).isEmpty = !decide (c ∈ upS.cps) := occE c upS
  have w3 : (Builtin.Str.occurrences figs (tx [c]) 0 figs.length 1).isEmpty = !decide (c ∈ figs.cps) := occE c figs
  have q1 := run_ok wnS A T p r b c S (sg.map Sg.av) o.len h
  have q2 := signed_ok (A := A) (r := r) (b := b) o sok h
  have q3 := number_ok (A := A) (r := r) (b := b) (sg := sg.map Sg.av) o h
  have q4 := quoted_ok (A := A) (r := r) (b := b) (sg := sg.map Sg.av) o h
  have q5 := mark_ok (A := A) (r := r) (b := b) (sg := sg.map Sg.av) o h
  rw [runP o h] at q1 q3
  unfold cut1
  by_cases k1 : c ∈ lowS.cps
  · rw [if_pos k1]
    show _ = _
    simp [oneK, os, iv, tv, w1, k1, hc_get, cutO, q1]
    done
  rw [if_neg k1]
  by_cases k2 : c ∈ upS.cps ∨ c = 95
  · rw [if_pos k2]
    show _ = _
    by_cases k3 : c ∈ upS.cps
    · simp [oneK, os, iv, tv, w1, w2, us_tx, oc, o95, k1, k3, hc_get, cutO, q1]
    · have k4 : c = 95 := by
        rcases k2 with e | e
        · exact absurd e k3
        · exact e
      simp [oneK, os, iv, tv, w1, w2, us_tx, oc, o95, k1, k3, hc_get, cutO, q1]
      simp [k4]
  rw [if_neg k2]
  have k3 : c ∉ upS.cps := fun e => k2 (Or.inl e)
  have k4 : c ≠ 95 := fun e => k2 (Or.inr e)
  by_cases k5 : c ∈ figs.cps ∨ (c = 45 ∧ stroke sg S = true)
  · rw [if_pos k5]
    cases hz : numS c S with
    | some z =>
      rw [hz] at q3
      show _ = _
      by_cases k6 : c ∈ figs.cps
      · simp [oneK, os, iv, tv, w1, w2, w3, us_tx, oc, o95, k1, k3, k4, k6, hc_get, cutO, q3]
      · have k7 : (decide (c = 45) && stroke sg S) = true := by
          rcases k5 with e | e
          · exact absurd e k6
          · simp [e.1, e.2]
        rw [k7] at q2
        simp [oneK, os, iv, tv, w1, w2, w3, us_tx, oc, o95, k1, k3, k4, k6, hc_get, cutO, q2, q3]
    | none =>
      rw [hz] at q3
      refine ⟨T.length - (S.drop (tk figs S).length).length, [some (.val (.ref A.length)), iv (k + 1), tv [c], none, none], ?_⟩
      by_cases k6 : c ∈ figs.cps
      · simp [oneK, os, iv, tv, w1, w2, w3, us_tx, oc, o95, k1, k3, k4, k6, hc_get, cutO, q3]
      · have k7 : (decide (c = 45) && stroke sg S) = true := by
          rcases k5 with e | e
          · exact absurd e k6
          · simp [e.1, e.2]
        rw [k7] at q2
        simp [oneK, os, iv, tv, w1, w2, w3, us_tx, oc, o95, k1, k3, k4, k6, hc_get, cutO, q2, q3]
  rw [if_neg k5]
  have k6 : c ∉ figs.cps := fun e => k5 (Or.inl e)
  have k7 : (decide (c = 45) && stroke sg S) = false := by
    cases hh : (decide (c = 45) && stroke sg S) with
    | false => rfl
    | true =>
      simp at hh
      exact absurd (Or.inr hh) k5
  rw [k7] at q2
  by_cases k8 : c = 39
  · rw [if_pos k8]
    subst k8
    cases hz : cutQ S with
    | some z =>
      rw [hz] at q4
      show _ = _
      simp [oneK, os, iv, tv, w1, w2, w3, us_tx, quo_tx, oc, o39, o95, k1, k3, k4, k6, hc_get, cutO, q2, q4]
      done
    | none =>
      rw [hz] at q4
      refine ⟨p, [some (.val (.ref A.length)), iv (k + 1), tv [39], none, none], ?_⟩
      simp [oneK, os, iv, tv, w1, w2, w3, us_tx, quo_tx, oc, o39, o95, k1, k3, k4, k6, hc_get, cutO, q2, q4]
  rw [if_neg k8]
  cases hz : cutM c S with
  | some z =>
    rw [hz] at q5
    have q5 : m_Cutter_mark [.ref A.length] (Hc A T p r b (sg.map Sg.av)) = .ok (.str (tx z.1)) (Hc A T (p + z.1.length) r b (sg.map Sg.av)) := q5
    rw [marP o h z hz] at q5
    show _ = _
    simp [oneK, os, iv, tv, w1, w2, w3, us_tx, quo_tx, oc, o39, o95, k1, k3, k4, k6, k8, hc_get, cutO, q2, q5]
    done
  | none =>
    rw [hz] at q5
    refine ⟨p, [some (.val (.ref A.length)), iv (k + 1), tv [c], none, none], ?_⟩
    simp [oneK, os, iv, tv, w1, w2, w3, us_tx, quo_tx, oc, o39, o95, k1, k3, k4, k6, k8, hc_get, cutO, q2, q5]
theorem cut1_suf {z : String × List Nat × List Nat} (hz : cut1 sg c S = some z) : ∃ U, S = U ++ z.2.2 := by
  unfold cut1 at hz
  split at hz
  · obtain rfl := (Option.some.inj hz).symm
    exact ⟨S.take (tk wnS S).length, (List.take_append_drop _ _).symm⟩
  split at hz
  · obtain rfl := (Option.some.inj hz).symm
    exact ⟨S.take (tk wnS S).length, (List.take_append_drop _ _).symm⟩
  split at hz
  · cases h1 : numS c S with
    | none => rw [h1] at hz; cases hz
    | some w =>
      rw [h1] at hz
      obtain rfl := (Option.some.inj hz).symm
      exact ⟨S.take (tk figs S).length, (List.take_append_drop _ _).symm⟩
  split at hz
  · cases h1 : cutQ S with
    | none => rw [h1] at hz; cases hz
    | some w =>
      rw [h1] at hz
      obtain rfl := (Option.some.inj hz).symm
      exact quoP S w h1
  · cases h1 : cutM c S with
    | none => rw [h1] at hz; cases hz
    | some w =>
      rw [h1] at hz
      obtain rfl := (Option.some.inj hz).symm
      unfold cutM at h1
      split at h1
      · obtain rfl := (Option.some.inj h1).symm
        exact ⟨S.take 1, (List.take_append_drop _ _).symm⟩
      · split at h1
        · obtain rfl := (Option.some.inj h1).symm
          exact ⟨[], rfl⟩
        · cases h1
theorem quo_sm : ∀ (S : List Nat) (z : List Nat × List Nat), cutQ S = some z → (∀ d ∈ S, d < 256) → ∀ d ∈ z.1, d < 256
  | [], z, h, hS, d, hd => by cases h
  | [c], z, h, hS, d, hd => by
    by_cases h1 : c = 39
    · simp [cutQ, h1] at h
      rw [← h] at hd
      cases hd
    · simp [cutQ, h1] at h
  | c :: d :: S, z, h, hS, e, he => by
    by_cases h1 : c = 39
    · simp [cutQ, h1] at h
      rw [← h] at he
      cases he
    by_cases h2 : c = 10
    · simp [cutQ, h2] at h
    by_cases h3 : c = 92
    · by_cases hd : d = 39 ∨ d = 92 ∨ d = 110
      · have hc : cutQ (c :: d :: S) = (cutQ S).map fun z => ((if d = 110 then 10 else d) :: z.1, z.2) := by simp [cutQ, h3, hd]
        rw [hc] at h
        cases hz : cutQ S with
        | none => rw [hz] at h; cases h
        | some w =>
          rw [hz] at h
          have : z = ((if d = 110 then 10 else d) :: w.1, w.2) := (Option.some.inj h).symm
          rw [this] at he
          rcases List.mem_cons.mp he with q | q
          · rw [q]
            split
            · omega
            · omega
          · exact quo_sm S w hz (fun x hx => hS x (by simp [hx])) e q
      · simp [cutQ, h3, hd] at h
    · have hc : cutQ (c :: d :: S) = (cutQ (d :: S)).map fun z => (c :: z.1, z.2) := by simp [cutQ, h1, h2, h3]
      rw [hc] at h
      cases hz : cutQ (d :: S) with
      | none => rw [hz] at h; cases h
      | some w =>
        rw [hz] at h
        have : z = (c :: w.1, w.2) := (Option.some.inj h).symm
        rw [this] at he
        rcases List.mem_cons.mp he with q | q
        · rw [q]
          exact hS c (by simp)
        · exact quo_sm (d :: S) w hz (fun x hx => hS x (List.mem_cons_of_mem _ hx)) e q
theorem cut1_sm {z : String × List Nat × List Nat} (hz : cut1 sg c S = some z) (hS : ∀ d ∈ c :: S, d < 256) : ∀ d ∈ z.2.1, d < 256 := by
  have htk : ∀ g : Str, ∀ d ∈ c :: tk g S, d < 256 := fun g d hd => by
    rcases List.mem_cons.mp hd with e | e
    · exact hS d (by simp [e])
    · exact hS d (List.mem_cons_of_mem _ ((List.takeWhile_sublist _).subset e))
  unfold cut1 at hz
  split at hz
  · obtain rfl := (Option.some.inj hz).symm
    exact htk _
  split at hz
  · obtain rfl := (Option.some.inj hz).symm
    exact htk _
  split at hz
  · cases h1 : numS c S with
    | none => rw [h1] at hz; cases hz
    | some w =>
      rw [h1] at hz
      obtain rfl := (Option.some.inj hz).symm
      unfold numS at h1
      split at h1
      · cases h1
      · obtain rfl := (Option.some.inj h1).symm
        exact htk _
  split at hz
  · cases h1 : cutQ S with
    | none => rw [h1] at hz; cases hz
    | some w =>
      rw [h1] at hz
      obtain rfl := (Option.some.inj hz).symm
      exact quo_sm S w h1 fun d hd => hS d (List.mem_cons_of_mem _ hd)
  · cases h1 : cutM c S with
    | none => rw [h1] at hz; cases hz
    | some w =>
      rw [h1] at hz
      obtain rfl := (Option.some.inj hz).symm
      unfold cutM at h1
      split at h1
      · obtain rfl := (Option.some.inj h1).symm
        intro d hd
        rcases List.mem_cons.mp hd with e | e
        · exact hS d (by simp [e])
        · exact hS d (List.mem_cons_of_mem _ (List.mem_of_mem_take e))
      · split at h1
        · obtain rfl := (Option.some.inj h1).symm
          intro d hd
          exact hS d (by have : d = c := by simpa using hd
                         simp [this])
        · cases h1
theorem cut_one_ok (o : Ok T) (sok : SgOk sg) (hs : sg.length ≤ 1000) (h : T.drop p = c :: S) (hb : b + k = p) : match cut1 sg c S with
    | some z => m_Cutter_cut_one [.ref A.length] (Hc A T p r b (sg.map Sg.av)) = .ok .non (Hc A T (T.length - z.2.2.length) r b ((sg ++ [(⟨z.1, z.2.1, r, k + 1⟩ : Sg)]).map Sg.av))
    | none => ∃ p', m_Cutter_cut_one [.ref A.length] (Hc A T p r b (sg.map Sg.av)) = .exn "BadSign" (Hc A T p' r b (sg.map Sg.av)) := by
  have hbb : b_Cutter_cut_one = seqM oneP (seqM oneK oneA) := rfl
  have e0 : slots0 5 [.ref A.length] = [some (.val (.ref A.length)), none, none, none, none] := rfl
  have e1 := oneP_ok (A := A) (r := r) (g := sg.map Sg.av) o h hb
  have e2 := oneK_ok (A := A) (r := r) (b := b) (k := k) o sok h
  have e3 : m_Cutter_cut_one [.ref A.length] (Hc A T p r b (sg.map Sg.av)) = fnR (seqR (oneK (os A T p r b (sg.map Sg.av) (iv (k + 1)) (tv [c]) none none)) oneA) := by
    rw [m_Cutter_cut_one, hbb, fnM_at, e0, seqM_at]
    show fnR (seqR (oneP (os A T p r b (sg.map Sg.av) none none none none)) _) = _
    rw [e1, seqR_nx, seqM_at]
  rw [e3]
  cases hz : cut1 sg c S with
  | some z =>
    rw [hz] at e2
    have e2 : oneK _ = _ := e2
    show fnR _ = _
    rw [e2, seqR_nx, oneA_ok _ _ hs]
    rfl
  | none =>
    rw [hz] at e2
    obtain ⟨p', sl, e2⟩ := e2
    refine ⟨p', ?_⟩
    rw [e2]
    rfl
end

/-! whole texts -/
inductive Cuts : List Sg → List Nat → Nat → Nat → Except (Nat × Nat) (List Sg) → Prop
  | fin {sg S r k r' k'} : skw false S r k = ([], r', k') → Cuts sg S r k (.ok sg)
  | bad {sg S r k c S' r' k'} : skw false S r k = (c :: S', r', k') → cut1 sg c S' = none → Cuts sg S r k (.error (r', k' + 1))
  | one {sg S r k c S' r' k' z res} : skw false S r k = (c :: S', r', k') → cut1 sg c S' = some z → Cuts (sg ++ [(⟨z.1, z.2.1, r', k' + 1⟩ : Sg)]) z.2.2 r' (k' + ((c :: S').length - z.2.2.length)) res → Cuts sg S r k res
theorem Cuts.skip {sg : List Sg} {S S2 : List Nat} {r k r2 k2 : Nat} {res : Except (Nat × Nat) (List Sg)} (h : Cuts sg S2 r2 k2 res) (e : skw false S r k = skw false S2 r2 k2) : Cuts sg S r k res := by
  cases h with
  | fin h => exact .fin (e.trans h)
  | bad h h2 => exact .bad (e.trans h) h2
  | one h h2 h3 => exact .one (e.trans h) h2 h3
theorem skw_len : ∀ (m : Bool) (S : List Nat) (r k : Nat), (skw m S r k).1.length ≤ S.length
  | _, [], r, k => Nat.le_refl _
  | m, c :: S, r, k => by
    have h1 := skw_len false S (r + 1) 0
    have h2 := skw_len true S r (k + 1)
    have h3 := skw_len false S r (k + 1)
    unfold skw
    split
    · simp; omega
    split
    · simp; omega
    split
    · simp; omega
    · simp
def cutT : M Bool := (notM (truM (pkE (methM "at_end" [⟨"Cutter", 1, m_Cutter_at_end, []⟩] (vM 1) nilM))))
def cutB : M Fl := (expM (methM "cut_one" [⟨"Cutter", 1, m_Cutter_cut_one, []⟩] (vM 1) nilM))
def fauB : M Fl := (seqM
 (asgM (setV 2) (op2 addX (op2 subA (fldM ["Cutter"] "place" (pkV 1)) (fldM ["Cutter"] "begun" (pkV 1))) (cM (.int 1))))
 (tryM [("BadSign", true)] (expM (methM "cut_one" [⟨"Cutter", 1, m_Cutter_cut_one, []⟩] (vM 1) nilM)) (retM (tupM (consM (fldM ["Sign", "Cutter"] "row" (pkV 1)) (consM (vM 2) nilM))))))
section
variable {A : AH} {T : List Nat} {p r b d q c k : Nat} {S : List Nat} {sg : List Sg} {x : Option SV} {sl : List (Option SV)}
theorem cutT_at (h1 : sl[1]? = some (some (.val (.ref A.length)))) {bb : Bool} {p' r' b' : Nat} {g : List AV} (h : m_Cutter_at_end [.ref A.length] (Hc A T p r b g) = .ok (.bl bb) (Hc A T p' r' b' g)) : cutT ⟨sl, Hc A T p r b g⟩ = .ok (!bb) ⟨sl, Hc A T p' r' b' g⟩ := by
  simp [cutT, h1, hc_get, cutO, h]
theorem cutB_at (h1 : sl[1]? = some (some (.val (.ref A.length)))) {p' : Nat} {g g' : List AV} (h : m_Cutter_cut_one [.ref A.length] (Hc A T p r b g) = .ok .non (Hc A T p' r b g')) : cutB ⟨sl, Hc A T p r b g⟩ = .ok .nx ⟨sl, Hc A T p' r b g'⟩ := by
  simp [cutB, h1, hc_get, cutO, h]
theorem cutB_ex (h1 : sl[1]? = some (some (.val (.ref A.length)))) {p' : Nat} {g g' : List AV} (h : m_Cutter_cut_one [.ref A.length] (Hc A T p r b g) = .exn "BadSign" (Hc A T p' r b g')) : cutB ⟨sl, Hc A T p r b g⟩ = .exn "BadSign" ⟨sl, Hc A T p' r b g'⟩ := by
  simp [cutB, h1, hc_get, cutO, h]
end
/-- where cutting ends -/
def CutRes (A : AH) (T : List Nat) (sl : List (Option SV)) (res : Except (Nat × Nat) (List Sg)) (out : Res Fl) : Prop := match res with
  | .ok sg => ∃ p r b, out = .ok .nx ⟨sl, Hc A T p r b (sg.map Sg.av)⟩
  | .error _ => ∃ p r b sg, out = .exn "BadSign" ⟨sl, Hc A T p r b sg⟩
theorem cut_loop (A : AH) (T : List Nat) (sl : List (Option SV)) (h1 : sl[1]? = some (some (.val (.ref A.length)))) (o : Ok T) {sg : List Sg} {S : List Nat} {r k : Nat} {res : Except (Nat × Nat) (List Sg)} (hc : Cuts sg S r k res) :
    ∀ (n p b : Nat), T.drop p = S → p ≤ T.length → b + k = p → SgOk sg → sg.length + S.length ≤ 1000 → S.length < n → CutRes A T sl res (whileM cutT cutB n ⟨sl, Hc A T p r b (sg.map Sg.av)⟩) := by
  induction hc with
  | @fin sg S r k r' k' e =>
    intro n p b hp hl hb so hs hn
    cases n with
    | zero => omega
    | succ n =>
    obtain ⟨b', e1, e2, e3⟩ := at_end_ok (A := A) (r := r) (sg := sg.map Sg.av) o hp hl hb
    rw [e] at e3
    rw [whileM_at, cutT_at h1 e3, bindR_ok]
    exact ⟨_, _, _, rfl⟩
  | @bad sg S r k c S' r' k' e ec =>
    intro n p b hp hl hb so hs hn
    cases n with
    | zero => omega
    | succ n =>
    obtain ⟨b', e1, e2, e3⟩ := at_end_ok (A := A) (r := r) (sg := sg.map Sg.av) o hp hl hb
    rw [e] at e1 e2 e3
    have := cut_one_ok (A := A) (r := r') o so (by omega) e2 e1
    rw [ec] at this
    obtain ⟨p', e4⟩ := this
    rw [whileM_at, cutT_at h1 e3, bindR_ok]
    show CutRes A T sl _ (turnR (cutB _) _)
    rw [cutB_ex h1 e4]
    exact ⟨_, _, _, _, rfl⟩
  | @one sg S r k c S' r' k' z res e ec hc ih =>
    intro n p b hp hl hb so hs hn
    cases n with
    | zero => omega
    | succ n =>
    obtain ⟨b', e1, e2, e3⟩ := at_end_ok (A := A) (r := r) (sg := sg.map Sg.av) o hp hl hb
    rw [e] at e1 e2 e3
    have e4 := cut_one_ok (A := A) (r := r') o so (by omega) e2 e1
    rw [ec] at e4
    rw [whileM_at, cutT_at h1 e3, bindR_ok]
    show CutRes A T sl _ (turnR (cutB _) _)
    rw [cutB_at h1 e4, turnR_nx]
    obtain ⟨U, hU⟩ := cut1_suf ec
    have hlen := skw_len false S r k
    rw [e] at hlen
    have hlen : (c :: S').length ≤ S.length := hlen
    have hlU : (c :: S').length = U.length + z.2.2.length + 1 := by rw [List.length_cons, hU]; simp
    have hST : S.length ≤ T.length := by
      have := congrArg List.length hp
      simp at this
      omega
    have e2 : T.drop (T.length - (c :: S').length) = c :: S' := e2
    have e1 : b' + k' = T.length - (c :: S').length := e1
    have hsm : ∀ d ∈ c :: S', d < 256 := o.suf e2
    refine ih n (T.length - z.2.2.length) b' ?_ (Nat.sub_le _ _) (by omega) ?_ (by simp; omega) (by omega)
    · have e5 : T.length - z.2.2.length = (T.length - (c :: S').length) + (c :: U).length := by
        simp only [List.length_cons] at hlU hlen ⊢
        omega
      rw [e5, ← List.drop_drop, e2, hU]
      simp
    · intro s hs d hd
      rcases List.mem_append.mp hs with q | q
      · exact so s q d hd
      · have : s = (⟨z.1, z.2.1, r', k' + 1⟩ : Sg) := by simpa using q
        rw [this] at hd
        exact cut1_sm ec hsm d hd
theorem ini_st (A B : AH) (c f : Str) (fs : List (Str × AV)) (cs : List Str) (hc : c ∈ cs) (hn : fs.length < 1000) {fe : M AV} {v : AV} {s : SS} {sl : List (Option SV)} (h0 : sl[0]? = some (some (.val (.ref A.length)))) (hf : fe s = .ok v ⟨sl, A ++ (.ins c fs :: B)⟩) : LM.stM cs f (pkV 0) fe s = .ok .nx ⟨sl, A ++ (.ins c (putFA f v fs) :: B)⟩ := by
  simp [h0, hf, obP, wrP, hc, hn]
theorem ini_ok (A : AH) (T : List Nat) : m_Cutter_init [.ref A.length, .str (tx T)] (A ++ [.ins "Cutter" []]) = .ok .non (Hc A T 0 1 0 []) := by
  have e0 : slots0 2 [.ref A.length, .str (tx T)] = [some (.val (.ref A.length)), some (.val (.str (tx T)))] := rfl
  have p1 := ini_st A [] "Cutter" "text" [] ["Cutter"] (by simp) (by decide) (fe := vM 1) (v := .str (tx T)) (s := ⟨[some (.val (.ref A.length)), some (.val (.str (tx T)))], A ++ [.ins "Cutter" []]⟩) (sl := [some (.val (.ref A.length)), some (.val (.str (tx T)))]) rfl (by simp)
  have p2 := ini_st A [] "Cutter" "place" (putFA "text" (.str (tx T)) []) ["Cutter"] (by simp) (by simp) (fe := cM (.int 0)) (v := .int 0) (s := ⟨[some (.val (.ref A.length)), some (.val (.str (tx T)))], A ++ [.ins "Cutter" (putFA "text" (.str (tx T)) [])]⟩) (sl := [some (.val (.ref A.length)), some (.val (.str (tx T)))]) rfl (by simp)
  have p3 := ini_st A [] "Cutter" "row" (putFA "place" (.int 0) (putFA "text" (.str (tx T)) [])) ["Sign", "Cutter"] (by simp) (by simp) (fe := cM (.int 1)) (v := .int 1) (s := ⟨[some (.val (.ref A.length)), some (.val (.str (tx T)))], A ++ [.ins "Cutter" (putFA "place" (.int 0) (putFA "text" (.str (tx T)) []))]⟩) (sl := [some (.val (.ref A.length)), some (.val (.str (tx T)))]) rfl (by simp)
  have p4 := ini_st A [] "Cutter" "begun" (putFA "row" (.int 1) (putFA "place" (.int 0) (putFA "text" (.str (tx T)) []))) ["Cutter"] (by simp) (by simp) (fe := cM (.int 0)) (v := .int 0) (s := ⟨[some (.val (.ref A.length)), some (.val (.str (tx T)))], A ++ [.ins "Cutter" (putFA "row" (.int 1) (putFA "place" (.int 0) (putFA "text" (.str (tx T)) [])))]⟩) (sl := [some (.val (.ref A.length)), some (.val (.str (tx T)))]) rfl (by simp)
  have p5 := ini_st A [.lst []] "Cutter" "signs" (putFA "begun" (.int 0) (putFA "row" (.int 1) (putFA "place" (.int 0) (putFA "text" (.str (tx T)) [])))) ["Cutter"] (by simp) (by simp) (fe := laM (lstM nilM)) (v := .ref (A.length + 1)) (s := ⟨[some (.val (.ref A.length)), some (.val (.str (tx T)))], A ++ [.ins "Cutter" (putFA "begun" (.int 0) (putFA "row" (.int 1) (putFA "place" (.int 0) (putFA "text" (.str (tx T)) []))))]⟩) (sl := [some (.val (.ref A.length)), some (.val (.str (tx T)))]) rfl (by simp)
  rw [m_Cutter_init, b_Cutter_init, fnM_at, e0, seqM_at, p1, seqR_nx, seqM_at, p2, seqR_nx, seqM_at, p3, seqR_nx, seqM_at, p4, seqR_nx, p5]
  simp [Hc, cutO]
theorem init_ok (A : AH) (T : List Nat) {sl : List (Option SV)} (h0 : sl[0]? = some (some (.val (.str (tx T))))) (h1 : 1 < sl.length) : (asgM (setV 1) (mkHM 2 "Cutter" m_Cutter_init [] (consM (vM 0) nilM))) ⟨sl, A⟩ = .ok .nx ⟨sl.set 1 (some (.val (.ref A.length))), Hc A T 0 1 0 []⟩ := by
  have e1 : (consM (vM 0) nilM) ⟨sl, A⟩ = .ok [.str (tx T)] ⟨sl, A⟩ := by simp [h0]
  have e2 : (mkHM 2 "Cutter" m_Cutter_init [] (consM (vM 0) nilM)) ⟨sl, A⟩ = .ok (.ref A.length) ⟨sl, Hc A T 0 1 0 []⟩ := by
    show bindR ((consM (vM 0) nilM) ⟨sl, A⟩) _ = _
    rw [e1]
    show (match m_Cutter_init [.ref A.length, .str (tx T)] (A ++ [.ins "Cutter" []]) with | .ok .non h => _ | _ => _) = _
    rw [ini_ok]
  simp [e2]
theorem cut_ok (A : AH) (T : List Nat) (o : Ok T) {res : Except (Nat × Nat) (List Sg)} (hc : Cuts [] T 1 0 res) : match res with
    | .ok sg => ∃ p r b, m_cut [.str (tx T)] A = .ok (.tup (sg.map Sg.av)) (Hc A T p r b (sg.map Sg.av))
    | .error _ => ∃ p r b sg, m_cut [.str (tx T)] A = .exn "BadSign" (Hc A T p r b sg) := by
  have hb : b_cut = seqM (asgM (setV 1) (mkHM 2 "Cutter" m_Cutter_init [] (consM (vM 0) nilM))) (seqM (whileM cutT cutB 1000000) (retM (cbM tupA (consM (pkE (fldM ["Cutter"] "signs" (pkV 1))) nilM)))) := rfl
  have e0 : slots0 2 [.str (tx T)] = [some (.val (.str (tx T))), none] := rfl
  have hlen := o.len
  have loop := cut_loop A T [some (.val (.str (tx T))), some (.val (.ref A.length))] rfl o hc 1000000 0 0 rfl (Nat.zero_le _) rfl (fun s hs => by cases hs) (by simp; omega) (by omega)
  have e : m_cut [.str (tx T)] A = fnR (seqR (whileM cutT cutB 1000000 ⟨[some (.val (.str (tx T))), some (.val (.ref A.length))], Hc A T 0 1 0 []⟩) (retM (cbM tupA (consM (pkE (fldM ["Cutter"] "signs" (pkV 1))) nilM)))) := by
    rw [m_cut, hb, fnM_at, e0, seqM_at, init_ok A T (sl := [some (.val (.str (tx T))), none]) rfl (by simp), seqR_nx, seqM_at]
    rfl
  rw [e]
  cases res with
  | ok sg =>
    obtain ⟨p, r, b, e⟩ := loop
    refine ⟨p, r, b, ?_⟩
    show fnR (seqR (whileM cutT cutB 1000000 ⟨_, Hc A T 0 1 0 (([] : List Sg).map Sg.av)⟩) _) = _
    rw [e, seqR_nx]
    simp [-fldM_at, f_signs, hc_get2]
    done
  | error z =>
    obtain ⟨p, r, b, sg, e⟩ := loop
    refine ⟨p, r, b, sg, ?_⟩
    show fnR (seqR (whileM cutT cutB 1000000 ⟨_, Hc A T 0 1 0 (([] : List Sg).map Sg.av)⟩) _) = _
    rw [e]
    rfl

/-! where the fault is -/
def fauT : M Fl := (tryM [("BadSign", true)] cutB (retM (tupM (consM (fldM ["Sign", "Cutter"] "row" (pkV 1)) (consM (vM 2) nilM)))))
def fauA : M Fl := (asgM (setV 2) (op2 addX (op2 subA (fldM ["Cutter"] "place" (pkV 1)) (fldM ["Cutter"] "begun" (pkV 1))) (cM (.int 1))))
def fs (A : AH) (T : List Nat) (x : Option SV) : List (Option SV) := [some (.val (.str (tx T))), some (.val (.ref A.length)), x]
def FauRes (A : AH) (T : List Nat) (res : Except (Nat × Nat) (List Sg)) (out : Res Fl) : Prop := match res with
  | .ok _ => ∃ p r b sg x, out = .ok .nx ⟨fs A T x, Hc A T p r b sg⟩
  | .error z => ∃ p r b sg x, out = .ok (.rt (.tup [.int (z.1 : Int), .int (z.2 : Int)])) ⟨fs A T x, Hc A T p r b sg⟩
section
variable {A : AH} {T : List Nat} {p r b d q c k : Nat} {S : List Nat} {sg : List Sg} {x : Option SV}
theorem fauA_ok {g : List AV} (hb : b + k = p) : fauA ⟨fs A T x, Hc A T p r b g⟩ = .ok .nx ⟨fs A T (iv (k + 1)), Hc A T p r b g⟩ := by
  have e : (p : Int) - (b : Int) + 1 = (k : Int) + 1 := by omega
  simp [fauA, fs, iv, -fldM_at, f_place, f_begun, subA, e]
theorem fauT_ok {p' : Nat} {g g' : List AV} (h : m_Cutter_cut_one [.ref A.length] (Hc A T p r b g) = .ok .non (Hc A T p' r b g')) : fauT ⟨fs A T x, Hc A T p r b g⟩ = .ok .nx ⟨fs A T x, Hc A T p' r b g'⟩ := by
  have e := cutB_at (sl := fs A T x) rfl h
  unfold fauT tryM
  rw [e]
theorem fauT_ex {p' : Nat} {g g' : List AV} (h : m_Cutter_cut_one [.ref A.length] (Hc A T p r b g) = .exn "BadSign" (Hc A T p' r b g')) : fauT ⟨fs A T (iv (k + 1)), Hc A T p r b g⟩ = .ok (.rt (.tup [.int (r : Int), .int ((k + 1 : Nat) : Int)])) ⟨fs A T (iv (k + 1)), Hc A T p' r b g'⟩ := by
  have e := cutB_ex (sl := fs A T (iv (k + 1))) rfl h
  have l : ([((("BadSign" : Str)), true)] : List (Str × Bool)).lookup (("BadSign" : Str)) = some true := by simp [List.lookup]
  have e2 : (retM (tupM (consM (fldM ["Sign", "Cutter"] "row" (pkV 1)) (consM (vM 2) nilM)))) ⟨fs A T (iv (k + 1)), Hc A T p' r b g'⟩ = .ok (.rt (.tup [.int (r : Int), .int ((k + 1 : Nat) : Int)])) ⟨fs A T (iv (k + 1)), Hc A T p' r b g'⟩ := by
    simp [fs, iv, -fldM_at, f_row]
  unfold fauT tryM
  rw [e]
  simp only [l]
  rw [e2]
end
theorem fau_loop (A : AH) (T : List Nat) (o : Ok T) {sg : List Sg} {S : List Nat} {r k : Nat} {res : Except (Nat × Nat) (List Sg)} (hc : Cuts sg S r k res) :
    ∀ (n p b : Nat) (x : Option SV), T.drop p = S → p ≤ T.length → b + k = p → SgOk sg → sg.length + S.length ≤ 1000 → S.length < n → FauRes A T res (whileM cutT (seqM fauA fauT) n ⟨fs A T x, Hc A T p r b (sg.map Sg.av)⟩) := by
  induction hc with
  | @fin sg S r k r' k' e =>
    intro n p b x hp hl hb so hs hn
    cases n with
    | zero => omega
    | succ n =>
    obtain ⟨b', e1, e2, e3⟩ := at_end_ok (A := A) (r := r) (sg := sg.map Sg.av) o hp hl hb
    rw [e] at e3
    rw [whileM_at, cutT_at rfl e3, bindR_ok]
    exact ⟨_, _, _, _, _, rfl⟩
  | @bad sg S r k c S' r' k' e ec =>
    intro n p b x hp hl hb so hs hn
    cases n with
    | zero => omega
    | succ n =>
    obtain ⟨b', e1, e2, e3⟩ := at_end_ok (A := A) (r := r) (sg := sg.map Sg.av) o hp hl hb
    rw [e] at e1 e2 e3
    have := cut_one_ok (A := A) (r := r') o so (by omega) e2 e1
    rw [ec] at this
    obtain ⟨p', e4⟩ := this
    rw [whileM_at, cutT_at rfl e3, bindR_ok]
    show FauRes A T _ (turnR (seqM fauA fauT ⟨fs A T x, _⟩) _)
    rw [seqM_at, fauA_ok e1, seqR_nx, fauT_ex e4]
    exact ⟨_, _, _, _, _, rfl⟩
  | @one sg S r k c S' r' k' z res e ec hc ih =>
    intro n p b x hp hl hb so hs hn
    cases n with
    | zero => omega
    | succ n =>
    obtain ⟨b', e1, e2, e3⟩ := at_end_ok (A := A) (r := r) (sg := sg.map Sg.av) o hp hl hb
    rw [e] at e1 e2 e3
    have e4 := cut_one_ok (A := A) (r := r') o so (by omega) e2 e1
    rw [ec] at e4
    rw [whileM_at, cutT_at rfl e3, bindR_ok]
    show FauRes A T _ (turnR (seqM fauA fauT ⟨fs A T x, _⟩) _)
    rw [seqM_at, fauA_ok e1, seqR_nx, fauT_ok e4, turnR_nx]
    obtain ⟨U, hU⟩ := cut1_suf ec
    have hlen := skw_len false S r k
    rw [e] at hlen
    have hlen : (c :: S').length ≤ S.length := hlen
    have hlU : (c :: S').length = U.length + z.2.2.length + 1 := by rw [List.length_cons, hU]; simp
    have hST : S.length ≤ T.length := by
      have := congrArg List.length hp
      simp at this
      omega
    have e2 : T.drop (T.length - (c :: S').length) = c :: S' := e2
    have e1 : b' + k' = T.length - (c :: S').length := e1
    have hsm : ∀ d ∈ c :: S', d < 256 := o.suf e2
    refine ih n (T.length - z.2.2.length) b' _ ?_ (Nat.sub_le _ _) (by omega) ?_ (by simp; omega) (by omega)
    · have e5 : T.length - z.2.2.length = (T.length - (c :: S').length) + (c :: U).length := by
        simp only [List.length_cons] at hlU hlen ⊢
        omega
      rw [e5, ← List.drop_drop, e2, hU]
      simp
    · intro s hs d hd
      rcases List.mem_append.mp hs with q | q
      · exact so s q d hd
      · have : s = (⟨z.1, z.2.1, r', k' + 1⟩ : Sg) := by simpa using q
        rw [this] at hd
        exact cut1_sm ec hsm d hd
theorem fault_ok (A : AH) (T : List Nat) (o : Ok T) {res : Except (Nat × Nat) (List Sg)} (hc : Cuts [] T 1 0 res) : ∃ p r b sg, m_fault_at [.str (tx T)] A = .ok (match res with
    | .ok _ => .non
    | .error z => .tup [.int (z.1 : Int), .int (z.2 : Int)]) (Hc A T p r b sg) := by
  have hb : b_fault_at = seqM (asgM (setV 1) (mkHM 2 "Cutter" m_Cutter_init [] (consM (vM 0) nilM))) (seqM (whileM cutT (seqM fauA fauT) 1000000) (retM (cM .non))) := rfl
  have e0 : slots0 3 [.str (tx T)] = [some (.val (.str (tx T))), none, none] := rfl
  have hlen := o.len
  have loop := fau_loop A T o hc 1000000 0 0 none rfl (Nat.zero_le _) rfl (fun s hs => by cases hs) (by simp; omega) (by omega)
  have e : m_fault_at [.str (tx T)] A = fnR (seqR (whileM cutT (seqM fauA fauT) 1000000 ⟨fs A T none, Hc A T 0 1 0 []⟩) (retM (cM .non))) := by
    rw [m_fault_at, hb, fnM_at, e0, seqM_at, init_ok A T (sl := [some (.val (.str (tx T))), none, none]) rfl (by simp), seqR_nx, seqM_at]
    rfl
  rw [e]
  cases res with
  | ok sg =>
    obtain ⟨p, r, b, sg, x, e⟩ := loop
    refine ⟨p, r, b, sg, ?_⟩
    show fnR (seqR (whileM cutT _ 1000000 ⟨_, Hc A T 0 1 0 (([] : List Sg).map Sg.av)⟩) _) = _
    rw [e]
    rfl
  | error z =>
    obtain ⟨p, r, b, sg, x, e⟩ := loop
    refine ⟨p, r, b, sg, ?_⟩
    show fnR (seqR (whileM cutT _ 1000000 ⟨_, Hc A T 0 1 0 (([] : List Sg).map Sg.av)⟩) _) = _
    rw [e]
    rfl

/-! the law's own signs -/
theorem figs_l : (Str.ofString "0123456789").cps = #[48, 49, 50, 51, 52, 53, 54, 55, 56, 57] := by kernel_rfl
namespace Sg
def tv (s : Sg) : AV := .tup [.str s.kind, .str (tx s.said), .int (s.row : Int), .int (s.col : Int)]
end Sg
def sigC : M Fl := (seqM
 (asgM (setV 7) (LM.andVM (bvM (cmpM eqW (pkE (ixM (pkV 4) (pkE (cM (.int 0))))) (pkE (cM (.str "-"))))) (LM.andVM (bvM (cmpM neW (pkV 1) (pkE (frM (lstM nilM))))) (LM.orVM (bvM (cmpM neW (pkE (ixM (pkE (ixM (pkV 1) (pkE (op1 negA (cM (.int 1)))))) (pkE (cM (.int 0))))) (pkE (cM (.str "mark"))))) (bvM (cmpM eqW (pkE (ixM (pkE (ixM (pkV 1) (pkE (op1 negA (cM (.int 1)))))) (pkE (cM (.int 1))))) (pkE (cM (.str ")")))))))))
 (ifM (truM (pkV 7)) (asgM (setV 1) (frM (op2N catL (vM 1) (frM (lstM (consM (tupM (consM (cM (.str "mark")) (consM (cM (.str "-")) (consM (vM 2) (consM (vM 3) nilM))))) (consM (tupM (consM (cM (.str "number")) (consM (slM (pkV 4) (partM (cM (.int 1))) noPartM) (consM (vM 2) (consM (op2 addX (vM 3) (cM (.int 1))) nilM))))) nilM))))))) (asgM (setV 1) (frM (op2N catL (vM 1) (frM (lstM (consM (tupM (consM (vM 5) (consM (vM 6) (consM (vM 2) (consM (vM 3) nilM))))) nilM))))))))
def sigD : M Fl := (seqM
 (asgM (setV 3) (ifM (cmpM eqW (pkE (slM (pkV 4) (partM (op2 subA (cbM lenA (consM (pkV 4) nilM)) (cM (.int 1)))) noPartM)) (pkE (cM (.str "\n")))) (cM (.int 1)) (op2 addX (vM 3) (cbM lenA (consM (pkV 4) nilM)))))
 (seqM
 (asgM (setV 2) (op2 addX (vM 2) (smM (pkV 4) (consM (cM (.str "\n")) nilM) cntA)))
 (asgM (setV 3) (op2 addX (vM 3) (cM (.int 1))))))
def sigB : M Fl := seqM (ifM (cmpM neW (pkV 5) (pkE (cM (.str "")))) sigC nxM) sigD
example : b__law_signs = (seqM
 (par3M 1 2 3 (consM (frM (lstM nilM)) (consM (cM (.int 1)) (consM (cM (.int 1)) nilM))))
 (seqM (forXM (pkV 0) (itM (vM 0)) (tupG 3 [(setV 4), (setV 5), (setV 6)]) sigB) (retM (vM 1)))) := rfl
/-- the state of the law's reckoning -/
def lss (v0 : Option SV) (sg : List Sg) (r k : Nat) (x y z w : Option SV) : List (Option SV) := [v0, some (.val (.vl (sg.map Sg.tv))), iv r, iv (k + 1), x, y, z, w]
section
variable {v0 x y z w : Option SV} {sg : List Sg} {r k c : Nat} {U W : List Nat} {K : String} {h : AH}
theorem cut_end (T : List Nat) (p : Nat) (hp : p ≤ T.length) : cutS (tx T) (some (p : Int)) none = tx (T.drop p) := by
  unfold cutS
  have h1 : HT.sIx (tx T).length 0 (some (p : Int)) = p := by
    rw [HT.sIx_nat, tx_len, Nat.min_eq_left hp]
  have h2 : HT.sIx (tx T).length (tx T).length none = T.length := by rw [tx_len]; rfl
  rw [h1, h2, tx_cps]
  show tx _ = tx _
  rw [tx_inj, List.take_of_length_le (by simp)]
theorem last_drop (c : Nat) (U : List Nat) : (c :: U).drop U.length = [(c :: U).getLast (by simp)] := by
  rw [List.drop_eq_getElem_cons (by simp), List.drop_of_length_le (by simp), List.getLast_eq_getElem]
  rfl
theorem sigD_ok (hl : (c :: U).length ≤ 100) (hsm : ∀ d ∈ c :: U, d < 256) : sigD ⟨lss v0 sg r k (tv (c :: U)) y z w, h⟩ = .ok .nx ⟨lss v0 sg (r + (c :: U).count 10) ((if (c :: U).getLast (by simp) = 10 then 0 else k + (c :: U).length) + 1) (tv (c :: U)) y z w, h⟩ := by
  have hl1 : U.length ≤ 16777215 := by simp at hl; omega
  have hl2 : U.length + 1 ≤ 16777216 := by simp at hl; omega
  have e1 := cut_end (c :: U) U.length (by simp)
  rw [last_drop] at e1
  have o1 : ∀ n, okA n (.str (tx [10])) = true := fun n => okA_t1 (by decide)
  have o2 : ∀ n, okA n (.str (tx [(c :: U).getLast (by simp)])) = true := fun n => okA_t1 (hsm _ (List.getLast_mem _))
  have e2 : Txt.count (tx (c :: U)) (tx [10]) = ((c :: U).count 10 : Nat) := count_tx _ _
  generalize (c :: U).getLast (by simp) = e at e1 o2 ⊢
  generalize (c :: U).count 10 = n at e2 ⊢
  by_cases he : e = 10
  · subst he
    simp [sigD, lss, iv, tv, hl1, hl2, e1, nl_tx, o1, o2, cntA, e2, subA]
  · simp [sigD, lss, iv, tv, hl1, hl2, e1, nl_tx, o1, o2, cntA, e2, he, subA]
    omega
theorem sigC_one (hu : U.length ≤ 16777215) (hc : c ≠ 45) (hcs : c < 256) (hs : sg.length ≤ 1000) : sigC ⟨lss v0 sg r k (tv (c :: U)) (some (.val (.str K))) (tv W) w, h⟩ = .ok .nx ⟨lss v0 (sg ++ [(⟨K, W, r, k + 1⟩ : Sg)]) r k (tv (c :: U)) (some (.val (.str K))) (tv W) (some (.val (.bl false))), h⟩ := by
  have e0 : atI (c :: U) (0 : Int) = some c := at_tx (p := 0) rfl
  have o1 : ∀ n, okA n (.str (tx [c])) = true := fun n => okA_t1 hcs
  have o2 : ∀ n, okA n (.str (tx [45])) = true := fun n => okA_t1 (by decide)
  have hl : sg.length + 1 ≤ 16777216 := by omega
  simp [sigC, lss, iv, tv, andVM_at, andVR_bl, e0, minus_tx, ch_tx, o1, o2, hc, hu, catL, Sg.tv, hl]
  done
end
def orVR (r : Res AV) (g : M AV) : Res AV := match r with
  | .ok (.bl false) s => g s
  | .ok (.bl true) s => .ok (.bl true) s
  | .ok _ _ => .stuck
  | .exn c s => .exn c s
  | .stuck => .stuck
theorem orVM_at {f g : M AV} {s : SS} : LM.orVM f g s = orVR (f s) g := by
  show bindR (f s) _ = _
  cases f s with
  | ok a s =>
    cases a with
    | bl b => cases b <;> rfl
    | _ => rfl
  | exn c s => rfl
  | stuck => rfl
theorem orVR_bl {b : Bool} {s : SS} {g : M AV} : orVR (.ok (.bl b) s) g = if b = true then .ok (.bl true) s else g s := by cases b <;> rfl
theorem signs_last2 (f : Sg → AV) (sg : List Sg) (hne : sg ≠ []) : ∃ s, sg.getLast? = some s ∧ atI (sg.map f) (-1) = some (f s) := by
  have hl : 0 < sg.length := List.length_pos_iff.mpr hne
  refine ⟨sg[sg.length - 1], List.getLast?_eq_getElem?.trans (List.getElem?_eq_getElem (by omega)), ?_⟩
  unfold atI ixN
  have h1 : ((-1 : Int) + ((sg.map f).length : Int)).toNat = sg.length - 1 := by simp; omega
  have h2 : ¬ ((-1 : Int) + ((sg.map f).length : Int) < 0) := by simp; omega
  rw [if_neg (by decide), if_pos (by simp; omega), h1]
  show (sg.map f)[sg.length - 1]? = _
  rw [List.getElem?_map, List.getElem?_eq_getElem (by omega)]
  rfl
theorem at4_0 {a b c d : AV} : atI [a, b, c, d] (0 : Int) = some a := rfl
theorem at4_1 {a b c d : AV} : atI [a, b, c, d] (1 : Int) = some b := rfl
def sigA : M AV := (LM.andVM (bvM (cmpM neW (pkV 1) (pkE (frM (lstM nilM))))) (LM.orVM (bvM (cmpM neW (pkE (ixM (pkE (ixM (pkV 1) (pkE (op1 negA (cM (.int 1)))))) (pkE (cM (.int 0))))) (pkE (cM (.str "mark"))))) (bvM (cmpM eqW (pkE (ixM (pkE (ixM (pkV 1) (pkE (op1 negA (cM (.int 1)))))) (pkE (cM (.int 1))))) (pkE (cM (.str ")")))))))
section
variable {v0 x y z w : Option SV} {sg : List Sg} {r k c : Nat} {U W : List Nat} {K : String} {h : AH}
theorem sigA_ok (hs : sg.length ≤ 1000) (so : SgOk sg) : sigA ⟨lss v0 sg r k x y z w, h⟩ = .ok (.bl (!stroke sg [55])) ⟨lss v0 sg r k x y z w, h⟩ := by
  have o41 : ∀ n, okA n (.str (tx [41])) = true := fun n => okA_t1 (by decide)
  have hd : 55 ∈ (Str.ofString "0123456789").cps := by rw [figs_l]; simp
  cases hsg : sg with
  | nil =>
    simp [sigA, lss, andVM_at, andVR_bl, stroke, hd]
  | cons s0 sg0 =>
    rw [← hsg]
    obtain ⟨s, h1, h2⟩ := signs_last2 Sg.tv sg (by rw [hsg]; simp)
    have hm : s ∈ sg := List.mem_of_getLast? h1
    have osd : ∀ n, okA n (.str (tx s.said)) = true := fun n => okA_tx (so s hm)
    have hne : sg ≠ [] := by rw [hsg]; simp
    have hel : ∀ o : Option Bool, ((if okL 59 (sg.map Sg.tv) = true then some !eqL (sg.map Sg.tv) [] else none).or (Option.map (fun x => !x) (if sg = [] then o else some false))) = some true := by
      intro o
      rw [if_neg hne, hsg]
      split <;> rfl
    have gs : Sg.tv s = .tup [.str s.kind, .str (tx s.said), .int (s.row : Int), .int (s.col : Int)] := rfl
    have hd2 : (55 ∈ figs.cps) = True := eq_true hd
    simp only [stroke, h1, hd, decide_true, Bool.true_and]
    by_cases k1 : s.kind = "mark"
    · by_cases k2 : s.said = [41]
      · simp [sigA, lss, andVM_at, andVR_bl, orVM_at, orVR_bl, h2, hel, gs, at4_0, at4_1, k1, k2, o41, par_tx]
      · simp [sigA, lss, andVM_at, andVR_bl, orVM_at, orVR_bl, h2, hel, gs, at4_0, at4_1, k1, k2, o41, osd, par_tx]
    · simp [sigA, lss, andVM_at, andVR_bl, orVM_at, orVR_bl, h2, hel, gs, at4_0, at4_1, k1, o41, osd, par_tx]
theorem sigC_eq : sigC = (seqM
 (asgM (setV 7) (LM.andVM (bvM (cmpM eqW (pkE (ixM (pkV 4) (pkE (cM (.int 0))))) (pkE (cM (.str "-"))))) sigA))
 (ifM (truM (pkV 7)) (asgM (setV 1) (frM (op2N catL (vM 1) (frM (lstM (consM (tupM (consM (cM (.str "mark")) (consM (cM (.str "-")) (consM (vM 2) (consM (vM 3) nilM))))) (consM (tupM (consM (cM (.str "number")) (consM (slM (pkV 4) (partM (cM (.int 1))) noPartM) (consM (vM 2) (consM (op2 addX (vM 3) (cM (.int 1))) nilM))))) nilM))))))) (asgM (setV 1) (frM (op2N catL (vM 1) (frM (lstM (consM (tupM (consM (vM 5) (consM (vM 6) (consM (vM 2) (consM (vM 3) nilM))))) nilM)))))))) := rfl
theorem sigC_m7 (hs : sg.length ≤ 1000) (so : SgOk sg) : sigC ⟨lss v0 sg r k (tv [45, 55]) (some (.val (.str "number"))) (tv W) w, h⟩ = .ok .nx ⟨lss v0 (sg ++ if stroke sg [55] = true then [(⟨"number", W, r, k + 1⟩ : Sg)] else [(⟨"mark", [45], r, k + 1⟩ : Sg), ⟨"number", [55], r, k + 2⟩]) r k (tv [45, 55]) (some (.val (.str "number"))) (tv W) (some (.val (.bl (!stroke sg [55])))), h⟩ := by
  have e0 : atI [45, 55] (0 : Int) = some 45 := at_tx (p := 0) rfl
  have o2 : ∀ n, okA n (.str (tx [45])) = true := fun n => okA_t1 (by decide)
  have hl : sg.length + 1 ≤ 16777216 := by omega
  have hl2 : sg.length + 2 ≤ 16777216 := by omega
  have e1 : cutS (tx [45, 55]) (some (1 : Int)) none = tx [55] := cut_end [45, 55] 1 (by simp)
  have e2 : (asgM (setV 7) (LM.andVM (bvM (cmpM eqW (pkE (ixM (pkV 4) (pkE (cM (.int 0))))) (pkE (cM (.str "-"))))) sigA)) ⟨lss v0 sg r k (tv [45, 55]) (some (.val (.str "number"))) (tv W) w, h⟩ = .ok .nx ⟨lss v0 sg r k (tv [45, 55]) (some (.val (.str "number"))) (tv W) (some (.val (.bl (!stroke sg [55])))), h⟩ := by
    have a := sigA_ok (v0 := v0) (r := r) (k := k) (x := tv [45, 55]) (y := some (.val (.str "number"))) (z := tv W) (w := w) (h := h) hs so
    have b : (bvM (cmpM eqW (pkE (ixM (pkV 4) (pkE (cM (.int 0))))) (pkE (cM (.str "-"))))) ⟨lss v0 sg r k (tv [45, 55]) (some (.val (.str "number"))) (tv W) w, h⟩ = .ok (.bl true) ⟨lss v0 sg r k (tv [45, 55]) (some (.val (.str "number"))) (tv W) w, h⟩ := by
      simp [lss, tv, e0, minus_tx, ch_tx, o2]
    have c : (LM.andVM (bvM (cmpM eqW (pkE (ixM (pkV 4) (pkE (cM (.int 0))))) (pkE (cM (.str "-"))))) sigA) ⟨lss v0 sg r k (tv [45, 55]) (some (.val (.str "number"))) (tv W) w, h⟩ = .ok (.bl (!stroke sg [55])) ⟨lss v0 sg r k (tv [45, 55]) (some (.val (.str "number"))) (tv W) w, h⟩ := by
      rw [andVM_at, b, andVR_bl, if_pos rfl, a]
    simp only [lss] at c ⊢
    simp [c]
  rw [sigC_eq, seqM_at, e2, seqR_nx]
  cases stroke sg [55] with
  | true => simp [lss, iv, tv, catL, Sg.tv, hl]
  | false => simp [lss, iv, tv, catL, Sg.tv, hl, hl2, e1, minus_tx, Int.add_assoc]
end

/-! pieces -/
inductive Pc | p0 | p1 | p2 | p3 | p4 | p5 | p6 | p7 | p8 | p9 | p10 | p11 | p12 | p13 | p14 | p15 | p16 | p17
namespace Pc
def H : Pc → Nat
  | .p0 => 97
  | .p1 => 110
  | .p2 => 88
  | .p3 => 95
  | .p4 => 49
  | .p5 => 39
  | .p6 => 39
  | .p7 => 58
  | .p8 => 60
  | .p9 => 40
  | .p10 => 41
  | .p11 => 44
  | .p12 => 46
  | .p13 => 10
  | .p14 => 35
  | .p15 => 45
  | .p16 => 39
  | .p17 => 33
def U : Pc → List Nat
  | .p0 => [98, 99]
  | .p1 => [111, 116]
  | .p2 => [121, 95, 49]
  | .p3 => []
  | .p4 => [50]
  | .p5 => [97, 92, 39, 98, 39]
  | .p6 => [39]
  | .p7 => [45]
  | .p8 => [61]
  | .p9 => []
  | .p10 => []
  | .p11 => []
  | .p12 => []
  | .p13 => []
  | .p14 => [32, 97, 32, 114, 101, 109, 97, 114, 107, 32, 40, 39, 10]
  | .p15 => [55]
  | .p16 => [92, 110, 39]
  | .p17 => [61]
def K : Pc → String
  | .p0 => "word"
  | .p1 => "word"
  | .p2 => "name"
  | .p3 => "name"
  | .p4 => "number"
  | .p5 => "quoted"
  | .p6 => "quoted"
  | .p7 => "mark"
  | .p8 => "mark"
  | .p9 => "mark"
  | .p10 => "mark"
  | .p11 => "mark"
  | .p12 => "mark"
  | .p13 => ""
  | .p14 => ""
  | .p15 => "number"
  | .p16 => "quoted"
  | .p17 => "mark"
def W : Pc → List Nat
  | .p0 => [97, 98, 99]
  | .p1 => [110, 111, 116]
  | .p2 => [88, 121, 95, 49]
  | .p3 => [95]
  | .p4 => [49, 50]
  | .p5 => [97, 39, 98]
  | .p6 => []
  | .p7 => [58, 45]
  | .p8 => [60, 61]
  | .p9 => [40]
  | .p10 => [41]
  | .p11 => [44]
  | .p12 => [46]
  | .p13 => []
  | .p14 => []
  | .p15 => [45, 55]
  | .p16 => [10]
  | .p17 => [33, 61]
def all : List Pc := [.p0, .p1, .p2, .p3, .p4, .p5, .p6, .p7, .p8, .p9, .p10, .p11, .p12, .p13, .p14, .p15, .p16, .p17]
end Pc

namespace Pc
def T (p : Pc) : List Nat := p.H :: p.U
def av (p : Pc) : AV := .tup [.str (tx p.T), .str p.K, .str (tx p.W)]
end Pc
theorem pieces_ok (h : AH) : m__law_pieces [] h = .ok (.vl (Pc.all.map Pc.av)) h := by kernel_rfl
theorem kn_e : (Str.ofString "") = tx [] := empty_tx
theorem word_l : (Str.ofString "word") = tx [119, 111, 114, 100] := by kernel_rfl
theorem word_ne : ¬ (Str.ofString "word") = tx [] := by rw [word_l, tx_inj]; simp
theorem word_ok : ∀ n, okA n (.str (Str.ofString "word")) = true := fun n => by rw [word_l]; exact okA_tx (by decide)
theorem name_l : (Str.ofString "name") = tx [110, 97, 109, 101] := by kernel_rfl
theorem name_ne : ¬ (Str.ofString "name") = tx [] := by rw [name_l, tx_inj]; simp
theorem name_ok : ∀ n, okA n (.str (Str.ofString "name")) = true := fun n => by rw [name_l]; exact okA_tx (by decide)
theorem num_l : (Str.ofString "number") = tx [110, 117, 109, 98, 101, 114] := by kernel_rfl
theorem num_ne : ¬ (Str.ofString "number") = tx [] := by rw [num_l, tx_inj]; simp
theorem num_ok : ∀ n, okA n (.str (Str.ofString "number")) = true := fun n => by rw [num_l]; exact okA_tx (by decide)
theorem quot_l : (Str.ofString "quoted") = tx [113, 117, 111, 116, 101, 100] := by kernel_rfl
theorem quot_ne : ¬ (Str.ofString "quoted") = tx [] := by rw [quot_l, tx_inj]; simp
theorem quot_ok : ∀ n, okA n (.str (Str.ofString "quoted")) = true := fun n => by rw [quot_l]; exact okA_tx (by decide)
theorem mark_l : (Str.ofString "mark") = tx [109, 97, 114, 107] := by kernel_rfl
theorem mark_ne : ¬ (Str.ofString "mark") = tx [] := by rw [mark_l, tx_inj]; simp
theorem mark_okk : ∀ n, okA n (.str (Str.ofString "mark")) = true := fun n => by rw [mark_l]; exact okA_tx (by decide)
/-- the signs that a piece brings -/
def newS (p : Pc) (sg : List Sg) (r k : Nat) : List Sg := match p with
  | .p13 => []
  | .p14 => []
  | .p15 => if stroke sg [55] = true then [⟨"number", [45, 55], r, k + 1⟩] else [⟨"mark", [45], r, k + 1⟩, ⟨"number", [55], r, k + 2⟩]
  | p => [⟨p.K, p.W, r, k + 1⟩]
def newR (p : Pc) (r : Nat) : Nat := r + p.T.count 10
def newK (p : Pc) (k : Nat) : Nat := (if p.T.getLast (by simp [Pc.T]) = 10 then 0 else k + p.T.length) + 1
def dues : List Pc → List Sg → Nat → Nat → List Sg × Nat × Nat
  | [], sg, r, k => (sg, r, k)
  | p :: ps, sg, r, k => dues ps (sg ++ newS p sg r k) (newR p r) (newK p k)
theorem W_sm (p : Pc) : ∀ d ∈ p.W, d < 256 := by cases p <;> decide
theorem newS_sm (p : Pc) (sg : List Sg) (r k : Nat) : ∀ s ∈ newS p sg r k, ∀ d ∈ s.said, d < 256 := by
  have h1 : ∀ s ∈ [(⟨p.K, p.W, r, k + 1⟩ : Sg)], ∀ d ∈ s.said, d < 256 := fun s hs => by
    rw [List.mem_singleton.mp hs]
    exact W_sm p
  have h0 : ∀ s ∈ ([] : List Sg), ∀ d ∈ s.said, d < 256 := fun s hs => by cases hs
  cases p with
  | p13 => exact h0
  | p14 => exact h0
  | p15 =>
    intro s hs
    simp only [newS] at hs
    split at hs
    · rw [List.mem_singleton.mp hs]
      show ∀ d ∈ [45, 55], d < 256
      decide
    · rcases List.mem_cons.mp hs with e | e
      · rw [e]
        show ∀ d ∈ [45], d < 256
        decide
      · rw [List.mem_singleton.mp e]
        show ∀ d ∈ [55], d < 256
        decide
  | _ => exact h1
theorem newS_ok (p : Pc) {sg : List Sg} {r k : Nat} (so : SgOk sg) : SgOk (sg ++ newS p sg r k) := by
  intro s hs d hd
  rcases List.mem_append.mp hs with q | q
  · exact so s q d hd
  · exact newS_sm p sg r k s q d hd
theorem newS_len (p : Pc) (sg : List Sg) (r k : Nat) : (newS p sg r k).length ≤ 2 := by
  cases p <;> simp [newS]
  split <;> simp
section
variable {v0 x y z w : Option SV} {sg : List Sg} {r k : Nat} {h : AH}
theorem sig_step (p : Pc) (hs : sg.length ≤ 1000) (so : SgOk sg) : ∃ w', sigB ⟨lss v0 sg r k (tv p.T) (some (.val (.str p.K))) (tv p.W) w, h⟩ = .ok .nx ⟨lss v0 (sg ++ newS p sg r k) (newR p r) (newK p k) (tv p.T) (some (.val (.str p.K))) (tv p.W) w', h⟩ := by
  have hD : ∀ sg w, sigD ⟨lss v0 sg r k (tv p.T) (some (.val (.str p.K))) (tv p.W) w, h⟩ = .ok .nx ⟨lss v0 sg (newR p r) (newK p k) (tv p.T) (some (.val (.str p.K))) (tv p.W) w, h⟩ := fun sg w => sigD_ok (by cases p <;> decide) (by cases p <;> decide)
  have hT : ∀ kk : Str, ¬ kk = tx [] → (∀ n, okA n (.str kk) = true) → (ifM (cmpM neW (pkV 5) (pkE (cM (.str "")))) sigC nxM) ⟨lss v0 sg r k (tv p.T) (some (.val (.str kk))) (tv p.W) w, h⟩ = sigC ⟨lss v0 sg r k (tv p.T) (some (.val (.str kk))) (tv p.W) w, h⟩ := fun kk hk hok => by
    simp [lss, empty_tx, okA_t0, hok, hk]
  have hone : ¬ ((p.K : Str)) = tx [] → p.U.length ≤ 16777215 → p.H ≠ 45 → p.H < 256 → (∀ n, okA n (.str p.K) = true) → newS p sg r k = [⟨p.K, p.W, r, k + 1⟩] → ∃ w', sigB ⟨lss v0 sg r k (tv p.T) (some (.val (.str p.K))) (tv p.W) w, h⟩ = .ok .nx ⟨lss v0 (sg ++ newS p sg r k) (newR p r) (newK p k) (tv p.T) (some (.val (.str p.K))) (tv p.W) w', h⟩ := fun hne hU hH hH2 hok hn => by
    refine ⟨some (.val (.bl false)), ?_⟩
    rw [sigB, seqM_at, hT p.K hne hok, hn]
    show seqR (sigC ⟨lss v0 sg r k (tv (p.H :: p.U)) _ _ _, h⟩) _ = _
    rw [sigC_one hU hH hH2 hs, seqR_nx]
    exact hD _ _
  have hno : ((p.K : Str)) = tx [] → newS p sg r k = [] → ∃ w', sigB ⟨lss v0 sg r k (tv p.T) (some (.val (.str p.K))) (tv p.W) w, h⟩ = .ok .nx ⟨lss v0 (sg ++ newS p sg r k) (newR p r) (newK p k) (tv p.T) (some (.val (.str p.K))) (tv p.W) w', h⟩ := fun hk hn => by
    refine ⟨w, ?_⟩
    have e : (ifM (cmpM neW (pkV 5) (pkE (cM (.str "")))) sigC nxM) ⟨lss v0 sg r k (tv p.T) (some (.val (.str p.K))) (tv p.W) w, h⟩ = .ok .nx ⟨lss v0 sg r k (tv p.T) (some (.val (.str p.K))) (tv p.W) w, h⟩ := by
      rw [hk]
      simp [lss, empty_tx, okA_t0]
    rw [sigB, seqM_at, e, seqR_nx, hD, hn, List.append_nil]
  have hm7 : p = .p15 → ∃ w', sigB ⟨lss v0 sg r k (tv p.T) (some (.val (.str p.K))) (tv p.W) w, h⟩ = .ok .nx ⟨lss v0 (sg ++ newS p sg r k) (newR p r) (newK p k) (tv p.T) (some (.val (.str p.K))) (tv p.W) w', h⟩ := fun hp => by
    subst hp
    refine ⟨some (.val (.bl (!stroke sg [55]))), ?_⟩
    rw [sigB, seqM_at, hT (Str.ofString Pc.p15.K) num_ne num_ok]
    show seqR (sigC ⟨lss v0 sg r k (tv [45, 55]) (some (.val (.str "number"))) (tv [45, 55]) _, h⟩) _ = _
    rw [sigC_m7 hs so, seqR_nx]
    exact hD _ _
  cases p with
  | p13 => exact hno kn_e rfl
  | p14 => exact hno kn_e rfl
  | p15 => exact hm7 rfl
  | p0 => exact hone word_ne (by decide) (by decide) (by decide) word_ok rfl
  | p1 => exact hone word_ne (by decide) (by decide) (by decide) word_ok rfl
  | p2 => exact hone name_ne (by decide) (by decide) (by decide) name_ok rfl
  | p3 => exact hone name_ne (by decide) (by decide) (by decide) name_ok rfl
  | p4 => exact hone num_ne (by decide) (by decide) (by decide) num_ok rfl
  | p5 => exact hone quot_ne (by decide) (by decide) (by decide) quot_ok rfl
  | p6 => exact hone quot_ne (by decide) (by decide) (by decide) quot_ok rfl
  | p16 => exact hone quot_ne (by decide) (by decide) (by decide) quot_ok rfl
  | _ => exact hone mark_ne (by decide) (by decide) (by decide) mark_okk rfl
theorem sig_pick (p : Pc) : tupG 3 [(setV 4), (setV 5), (setV 6)] p.av ⟨lss v0 sg r k x y z w, h⟩ = .ok () ⟨lss v0 sg r k (tv p.T) (some (.val (.str p.K))) (tv p.W) w, h⟩ := by
  simp [Pc.av, lss, tv]
  done
theorem sig_loop (v0 : Option SV) (h : AH) : ∀ (ps : List Pc) (sg : List Sg) (r k : Nat) (x y z w : Option SV), sg.length + 2 * ps.length ≤ 1000 → SgOk sg →
    SgOk (dues ps sg r k).1 ∧ ∃ x' y' z' w', forL (tupG 3 [(setV 4), (setV 5), (setV 6)]) sigB (ps.map Pc.av) ⟨lss v0 sg r k x y z w, h⟩ = .ok .nx ⟨lss v0 (dues ps sg r k).1 (dues ps sg r k).2.1 (dues ps sg r k).2.2 x' y' z' w', h⟩
  | [], sg, r, k, x, y, z, w, hs, so => ⟨so, x, y, z, w, rfl⟩
  | p :: ps, sg, r, k, x, y, z, w, hs, so => by
    simp only [List.length_cons] at hs
    obtain ⟨w1, e1⟩ := sig_step (v0 := v0) (r := r) (k := k) (w := w) (h := h) p (by omega) so
    have hn := newS_len p sg r k
    obtain ⟨so2, x', y', z', w', e2⟩ := sig_loop v0 h ps (sg ++ newS p sg r k) (newR p r) (newK p k) (tv p.T) (some (.val (.str p.K))) (tv p.W) w1 (by simp; omega) (newS_ok p so)
    refine ⟨so2, x', y', z', w', ?_⟩
    rw [List.map_cons, forL_cons (sig_pick p), e1, turnR_nx, e2]
    rfl
end
theorem signs_ok (ps : List Pc) (h : AH) (hl : ps.length ≤ 100) : m__law_signs [.vl (ps.map Pc.av)] h = .ok (.vl ((dues ps [] 1 0).1.map Sg.tv)) h := by
  have hb : b__law_signs = (seqM
   (par3M 1 2 3 (consM (frM (lstM nilM)) (consM (cM (.int 1)) (consM (cM (.int 1)) nilM))))
   (seqM (forXM (pkV 0) (itM (vM 0)) (tupG 3 [(setV 4), (setV 5), (setV 6)]) sigB) (retM (vM 1)))) := rfl
  have e0 : slots0 8 [.vl (ps.map Pc.av)] = [some (.val (.vl (ps.map Pc.av))), none, none, none, none, none, none, none] := rfl
  have e1 : (par3M 1 2 3 (consM (frM (lstM nilM)) (consM (cM (.int 1)) (consM (cM (.int 1)) nilM)))) ⟨[some (.val (.vl (ps.map Pc.av))), none, none, none, none, none, none, none], h⟩ = .ok .nx ⟨lss (some (.val (.vl (ps.map Pc.av)))) [] 1 0 none none none none, h⟩ := by
    simp [par3M, lss, iv]
    done
  obtain ⟨so, x, y, z, w, e2⟩ := sig_loop (some (.val (.vl (ps.map Pc.av)))) h ps [] 1 0 none none none none (by simp; omega) (fun s hs => by cases hs)
  have e3 : (forXM (pkV 0) (itM (vM 0)) (tupG 3 [(setV 4), (setV 5), (setV 6)]) sigB) ⟨lss (some (.val (.vl (ps.map Pc.av)))) [] 1 0 none none none none, h⟩ = forL (tupG 3 [(setV 4), (setV 5), (setV 6)]) sigB (ps.map Pc.av) ⟨lss (some (.val (.vl (ps.map Pc.av)))) [] 1 0 none none none none, h⟩ := by
    simp [lss]
    done
  rw [m__law_signs, hb, fnM_at, e0, seqM_at, e1, seqR_nx, seqM_at, e3, e2, seqR_nx]
  simp [lss]
  done

/-! the pieces are cut as their signs -/
theorem t_p0 (sg : List Sg) (R : List Nat) : cut1 sg 97 ([98, 99] ++ 32 :: R) = some ("word", [97, 98, 99], 32 :: R) := by kernel_rfl
theorem t_p1 (sg : List Sg) (R : List Nat) : cut1 sg 110 ([111, 116] ++ 32 :: R) = some ("word", [110, 111, 116], 32 :: R) := by kernel_rfl
theorem t_p2 (sg : List Sg) (R : List Nat) : cut1 sg 88 ([121, 95, 49] ++ 32 :: R) = some ("name", [88, 121, 95, 49], 32 :: R) := by kernel_rfl
theorem t_p3 (sg : List Sg) (R : List Nat) : cut1 sg 95 ([] ++ 32 :: R) = some ("name", [95], 32 :: R) := by kernel_rfl
theorem t_p4 (sg : List Sg) (R : List Nat) : cut1 sg 49 ([50] ++ 32 :: R) = some ("number", [49, 50], 32 :: R) := by kernel_rfl
theorem t_p5 (sg : List Sg) (R : List Nat) : cut1 sg 39 ([97, 92, 39, 98, 39] ++ 32 :: R) = some ("quoted", [97, 39, 98], 32 :: R) := by kernel_rfl
theorem t_p6 (sg : List Sg) (R : List Nat) : cut1 sg 39 ([39] ++ 32 :: R) = some ("quoted", [], 32 :: R) := by kernel_rfl
theorem t_p7 (sg : List Sg) (R : List Nat) : cut1 sg 58 ([45] ++ 32 :: R) = some ("mark", [58, 45], 32 :: R) := by kernel_rfl
theorem t_p8 (sg : List Sg) (R : List Nat) : cut1 sg 60 ([61] ++ 32 :: R) = some ("mark", [60, 61], 32 :: R) := by kernel_rfl
theorem t_p9 (sg : List Sg) (R : List Nat) : cut1 sg 40 ([] ++ 32 :: R) = some ("mark", [40], 32 :: R) := by kernel_rfl
theorem t_p10 (sg : List Sg) (R : List Nat) : cut1 sg 41 ([] ++ 32 :: R) = some ("mark", [41], 32 :: R) := by kernel_rfl
theorem t_p11 (sg : List Sg) (R : List Nat) : cut1 sg 44 ([] ++ 32 :: R) = some ("mark", [44], 32 :: R) := by kernel_rfl
theorem t_p12 (sg : List Sg) (R : List Nat) : cut1 sg 46 ([] ++ 32 :: R) = some ("mark", [46], 32 :: R) := by kernel_rfl
theorem t_p16 (sg : List Sg) (R : List Nat) : cut1 sg 39 ([92, 110, 39] ++ 32 :: R) = some ("quoted", [10], 32 :: R) := by kernel_rfl
theorem t_p17 (sg : List Sg) (R : List Nat) : cut1 sg 33 ([61] ++ 32 :: R) = some ("mark", [33, 61], 32 :: R) := by kernel_rfl
theorem t_p15 (sg : List Sg) (R : List Nat) (h : stroke sg [55] = true) : cut1 sg 45 ([55] ++ 32 :: R) = some ("number", [45, 55], 32 :: R) := by
  have e : stroke sg ([55] ++ 32 :: R) = stroke sg [55] := rfl
  unfold cut1
  rw [e, h]
  kernel_rfl
theorem t_p15' (sg : List Sg) (R : List Nat) (h : stroke sg [55] = false) : cut1 sg 45 (55 :: 32 :: R) = some ("mark", [45], 55 :: 32 :: R) := by
  have e : stroke sg (55 :: 32 :: R) = stroke sg [55] := rfl
  unfold cut1
  rw [e, h]
  kernel_rfl
theorem t_7 (sg : List Sg) (R : List Nat) : cut1 sg 55 ([] ++ 32 :: R) = some ("number", [55], 32 :: R) := by kernel_rfl
theorem skw_no {c : Nat} {S : List Nat} {r k : Nat} (h1 : c ≠ 10) (h2 : c ≠ 35) (h3 : c ≠ 32) (h4 : c ≠ 9) : skw false (c :: S) r k = (c :: S, r, k) := by
  simp [skw, h1, h2, h3, h4]
theorem skw_sp {S : List Nat} {r k : Nat} : skw false (32 :: S) r k = skw false S r (k + 1) := by simp [skw]
theorem skw_nl {S : List Nat} {r k : Nat} : skw false (10 :: S) r k = skw false S (r + 1) 0 := by simp [skw]
theorem one_cut {sg : List Sg} {c : Nat} {U : List Nat} {K : String} {W R : List Nat} {r k : Nat} {res : Except (Nat × Nat) (List Sg)} (h1 : c ≠ 10) (h2 : c ≠ 35) (h3 : c ≠ 32) (h4 : c ≠ 9)
    (hc : cut1 sg c (U ++ R) = some (K, W, R)) (h : Cuts (sg ++ [(⟨K, W, r, k + 1⟩ : Sg)]) R r (k + (U.length + 1)) res) : Cuts sg (c :: (U ++ R)) r k res := by
  refine .one (skw_no h1 h2 h3 h4) hc ?_
  have e : k + ((c :: (U ++ R)).length - R.length) = k + (U.length + 1) := by
    simp
    omega
  show Cuts _ R r (k + ((c :: (U ++ R)).length - R.length)) res
  rw [e]
  exact h
theorem one_cut2 {sg : List Sg} {c : Nat} {U : List Nat} {K : String} {W R : List Nat} {r k : Nat} {res : Except (Nat × Nat) (List Sg)} (h1 : c ≠ 10) (h2 : c ≠ 35) (h3 : c ≠ 32) (h4 : c ≠ 9)
    (hc : cut1 sg c (U ++ 32 :: R) = some (K, W, 32 :: R)) (h : Cuts (sg ++ [(⟨K, W, r, k + 1⟩ : Sg)]) R r (k + (U.length + 1) + 1) res) : Cuts sg (c :: (U ++ 32 :: R)) r k res :=
  one_cut h1 h2 h3 h4 hc (h.skip skw_sp)
theorem piece_cut (p : Pc) {sg : List Sg} {R : List Nat} {r k : Nat} {res : Except (Nat × Nat) (List Sg)} (h : Cuts (sg ++ newS p sg r k) R (newR p r) (newK p k) res) : Cuts sg (p.T ++ 32 :: R) r k res := by
  cases p with
  | p13 =>
    have h : Cuts (sg ++ []) R (r + 1) 1 res := h
    rw [List.append_nil] at h
    exact h.skip (by kernel_rfl)
  | p14 =>
    have h : Cuts (sg ++ []) R (r + 1) 1 res := h
    rw [List.append_nil] at h
    exact h.skip (by kernel_rfl)
  | p15 =>
    cases hs : stroke sg [55] with
    | true =>
      have e : newS .p15 sg r k = [⟨"number", [45, 55], r, k + 1⟩] := by simp [newS, hs]
      rw [e] at h
      exact one_cut2 (U := [55]) (by decide) (by decide) (by decide) (by decide) (t_p15 sg R hs) h
    | false =>
      have e : newS .p15 sg r k = [⟨"mark", [45], r, k + 1⟩, ⟨"number", [55], r, k + 2⟩] := by simp [newS, hs]
      rw [e] at h
      have h : Cuts ((sg ++ [(⟨"mark", [45], r, k + 1⟩ : Sg)]) ++ [(⟨"number", [55], r, k + 2⟩ : Sg)]) R r (k + 2 + 1) res := by
        rw [List.append_assoc]
        exact h
      exact one_cut (U := []) (by decide) (by decide) (by decide) (by decide) (t_p15' sg R hs) (one_cut2 (U := []) (by decide) (by decide) (by decide) (by decide) (t_7 _ R) h)
  | p0 => exact one_cut2 (U := Pc.p0.U) (by decide) (by decide) (by decide) (by decide) (t_p0 sg R) h
  | p1 => exact one_cut2 (U := Pc.p1.U) (by decide) (by decide) (by decide) (by decide) (t_p1 sg R) h
  | p2 => exact one_cut2 (U := Pc.p2.U) (by decide) (by decide) (by decide) (by decide) (t_p2 sg R) h
  | p3 => exact one_cut2 (U := Pc.p3.U) (by decide) (by decide) (by decide) (by decide) (t_p3 sg R) h
  | p4 => exact one_cut2 (U := Pc.p4.U) (by decide) (by decide) (by decide) (by decide) (t_p4 sg R) h
  | p5 => exact one_cut2 (U := Pc.p5.U) (by decide) (by decide) (by decide) (by decide) (t_p5 sg R) h
  | p6 => exact one_cut2 (U := Pc.p6.U) (by decide) (by decide) (by decide) (by decide) (t_p6 sg R) h
  | p7 => exact one_cut2 (U := Pc.p7.U) (by decide) (by decide) (by decide) (by decide) (t_p7 sg R) h
  | p8 => exact one_cut2 (U := Pc.p8.U) (by decide) (by decide) (by decide) (by decide) (t_p8 sg R) h
  | p9 => exact one_cut2 (U := Pc.p9.U) (by decide) (by decide) (by decide) (by decide) (t_p9 sg R) h
  | p10 => exact one_cut2 (U := Pc.p10.U) (by decide) (by decide) (by decide) (by decide) (t_p10 sg R) h
  | p11 => exact one_cut2 (U := Pc.p11.U) (by decide) (by decide) (by decide) (by decide) (t_p11 sg R) h
  | p12 => exact one_cut2 (U := Pc.p12.U) (by decide) (by decide) (by decide) (by decide) (t_p12 sg R) h
  | p16 => exact one_cut2 (U := Pc.p16.U) (by decide) (by decide) (by decide) (by decide) (t_p16 sg R) h
  | p17 => exact one_cut2 (U := Pc.p17.U) (by decide) (by decide) (by decide) (by decide) (t_p17 sg R) h
def txt (ps : List Pc) : List Nat := ps.flatMap fun p => p.T ++ [32]
theorem txt_cons (p : Pc) (ps : List Pc) (B : List Nat) : txt (p :: ps) ++ B = p.T ++ 32 :: (txt ps ++ B) := by simp [txt]
theorem cuts_ps : ∀ (ps : List Pc) (sg : List Sg) (r k : Nat) (B : List Nat) (res : Except (Nat × Nat) (List Sg)), Cuts (dues ps sg r k).1 B (dues ps sg r k).2.1 (dues ps sg r k).2.2 res → Cuts sg (txt ps ++ B) r k res
  | [], sg, r, k, B, res, h => h
  | p :: ps, sg, r, k, B, res, h => by
    rw [txt_cons]
    exact piece_cut p (cuts_ps ps _ _ _ B res h)
theorem cuts_txt (ps : List Pc) : Cuts [] (txt ps) 1 0 (.ok (dues ps [] 1 0).1) := by
  have := cuts_ps ps [] 1 0 [] _ (.fin rfl)
  rw [List.append_nil] at this
  exact this

/-! where a text stands at its end -/
def trail : Nat → List Nat → Nat
  | k, [] => k
  | k, c :: l => if c = 10 then trail 0 l else trail (k + 1) l
theorem trail_app : ∀ (a b : List Nat) (k : Nat), trail k (a ++ b) = trail (trail k a) b
  | [], b, k => rfl
  | c :: a, b, k => by
    rw [List.cons_append, trail, trail]
    split
    · exact trail_app a b 0
    · exact trail_app a b (k + 1)
theorem trail_no : ∀ (l : List Nat) (k : Nat), 10 ∉ l → trail k l = k + l.length
  | [], k, h => rfl
  | c :: l, k, h => by
    have h1 : c ≠ 10 := fun e => h (by rw [e]; exact List.mem_cons_self)
    rw [trail, if_neg h1, trail_no l (k + 1) fun e => h (List.mem_cons_of_mem _ e), List.length_cons]
    omega
theorem last10 : ∀ l : List Nat, 10 ∉ l ∨ ∃ U V, l = U ++ 10 :: V ∧ 10 ∉ V
  | [] => Or.inl (by simp)
  | c :: l => by
    rcases last10 l with e | ⟨U, V, e1, e2⟩
    · by_cases h : c = 10
      · exact Or.inr ⟨[], l, by rw [h]; rfl, e⟩
      · exact Or.inl (by simp [Ne.symm h, e])
    · exact Or.inr ⟨c :: U, V, by rw [e1]; rfl, e2⟩
theorem rfind_trail (l : List Nat) : Txt.rfind (tx l) (tx [10]) + 1 + (trail 0 l : Int) = (l.length : Int) := by
  have hat : ∀ i, StrLaws.At (tx l) ⟨#[10]⟩ (tx l).length i ↔ l[i]? = some 10 := fun i => StrLaws.subAt_one (tx l) 10 i
  have hd : Txt.rfind (tx l) (tx [10]) = match Builtin.Str.lastOccurrence (tx l) ⟨#[10]⟩ 0 (tx l).length with | some i => (i : Int) | none => -1 := rfl
  rcases last10 l with e | ⟨U, V, e1, e2⟩
  · rcases StrLaws.last_spec (tx l) ⟨#[10]⟩ with ⟨h, _⟩ | ⟨i, h, ha, _⟩
    · rw [hd, h, trail_no l 0 e]
      simp
    · exact absurd (List.mem_of_getElem? ((hat i).mp ha)) e
  · have hU : l[U.length]? = some 10 := by rw [e1]; simp
    have ht : trail 0 l = V.length := by
      rw [e1, trail_app, trail, if_pos rfl, trail_no V 0 e2, Nat.zero_add]
    rcases StrLaws.last_spec (tx l) ⟨#[10]⟩ with ⟨h, hn⟩ | ⟨i, h, ha, hn⟩
    · exact absurd ((hat _).mpr hU) (hn _)
    · have hi := (hat i).mp ha
      have h1 : U.length ≤ i := by
        by_cases q : i < U.length
        · exact absurd ((hat _).mpr hU) (hn _ q)
        · omega
      have h2 : i = U.length := by
        by_cases q : i = U.length
        · exact q
        · exfalso
          have hV : V[i - (U.length + 1)]? = some 10 := by
            rw [e1, List.getElem?_append_right h1] at hi
            have : i - U.length = (i - (U.length + 1)) + 1 := by omega
            rw [this, List.getElem?_cons_succ] at hi
            exact hi
          exact e2 (List.mem_of_getElem? hV)
      rw [hd, h, ht, h2, e1]
      simp
      omega
theorem piece_row (p : Pc) (r : Nat) : newR p r = r + (p.T ++ [32]).count 10 := by
  rw [newR, List.count_append]
  rfl
theorem piece_col (p : Pc) (k : Nat) : newK p k = trail k (p.T ++ [32]) := by
  cases p <;> rfl
theorem dues_row : ∀ (ps : List Pc) (sg : List Sg) (r k : Nat), (dues ps sg r k).2.1 = r + (txt ps).count 10
  | [], sg, r, k => rfl
  | p :: ps, sg, r, k => by
    rw [dues, dues_row ps, piece_row]
    have : txt (p :: ps) = (p.T ++ [32]) ++ txt ps := rfl
    rw [this, List.count_append (l₁ := p.T ++ [32])]
    omega
theorem dues_col : ∀ (ps : List Pc) (sg : List Sg) (r k : Nat), (dues ps sg r k).2.2 = trail k (txt ps)
  | [], sg, r, k => rfl
  | p :: ps, sg, r, k => by
    rw [dues, dues_col ps, piece_col]
    have : txt (p :: ps) = (p.T ++ [32]) ++ txt ps := rfl
    rw [this, trail_app (p.T ++ [32])]
/-! what can't be cut -/
def wrongs : List (List Nat) := [[63], [39, 97, 98], [39, 97, 92, 122, 39], [49, 50, 51, 52, 53, 54, 55, 56, 57, 48, 49, 50, 51, 52, 53, 54, 55, 56, 57], [36], [39, 97, 10, 98, 39]]
theorem wrong_cut (sg : List Sg) (r k : Nat) : ∀ W ∈ wrongs, Cuts sg W r k (.error (r, k + 1)) := by
  have h : ∀ (c : Nat) (U : List Nat), c ≠ 10 → c ≠ 35 → c ≠ 32 → c ≠ 9 → cut1 sg c U = none → Cuts sg (c :: U) r k (.error (r, k + 1)) := fun c U h1 h2 h3 h4 h => .bad (skw_no h1 h2 h3 h4) h
  intro W hW
  simp only [wrongs, List.mem_cons, List.not_mem_nil, or_false] at hW
  rcases hW with e | e | e | e | e | e <;> subst e <;> exact h _ _ (by decide) (by decide) (by decide) (by decide) (by kernel_rfl)
theorem cuts_wrong (ps : List Pc) (W : List Nat) (hW : W ∈ wrongs) : Cuts [] (txt ps ++ W) 1 0 (.error (1 + (txt ps).count 10, trail 0 (txt ps) + 1)) := by
  have := cuts_ps ps [] 1 0 W _ (wrong_cut _ _ _ W hW)
  rw [dues_row, dues_col] at this
  exact this

/-! words in marks -/
def esc1 (c : Nat) : List Nat := if c = 92 then [92, 92] else if c = 39 then [92, 39] else if c = 10 then [92, 110] else [c]
def esc (l : List Nat) : List Nat := l.flatMap esc1
theorem put_app (c : Nat) (z a b : List Nat) : put c z (a ++ b) = put c z a ++ put c z b := by simp [put]
theorem put_esc : ∀ l : List Nat, put 10 [92, 110] (put 39 [92, 39] (put 92 [92, 92] l)) = esc l
  | [] => rfl
  | c :: l => by
    have ih := put_esc l
    have e : c :: l = [c] ++ l := rfl
    rw [e, put_app, put_app, put_app, ih]
    have h1 : put 10 [92, 110] (put 39 [92, 39] (put 92 [92, 92] [c])) = esc1 c := by
      by_cases h1 : c = 92
      · subst h1; rfl
      by_cases h2 : c = 39
      · subst h2; rfl
      by_cases h3 : c = 10
      · subst h3; rfl
      simp [put, esc1, h1, h2, h3]
    rw [h1]
    rfl
theorem esc_len : ∀ l : List Nat, (esc l).length ≤ 2 * l.length
  | [] => Nat.le_refl _
  | c :: l => by
    have ih := esc_len l
    have h1 : (esc1 c).length ≤ 2 := by
      unfold esc1
      split
      · decide
      split
      · decide
      split
      · decide
      · simp
    have e : esc (c :: l) = esc1 c ++ esc l := rfl
    rw [e, List.length_append, List.length_cons]
    omega
theorem quo_cons {c : Nat} {S : List Nat} (hS : S ≠ []) (h1 : c ≠ 39) (h2 : c ≠ 10) (h3 : c ≠ 92) : cutQ (c :: S) = (cutQ S).map fun z => (c :: z.1, z.2) := by
  cases S with
  | nil => exact absurd rfl hS
  | cons d S => simp [cutQ, h1, h2, h3]
theorem quo_esc1 : ∀ (l R : List Nat), cutQ (esc l ++ 39 :: R) = some (l, R)
  | [], R => by
    cases R <;> rfl
  | c :: l, R => by
    have ih := quo_esc1 l R
    have e : esc (c :: l) ++ 39 :: R = esc1 c ++ (esc l ++ 39 :: R) := by
      show (esc1 c ++ esc l) ++ 39 :: R = _
      rw [List.append_assoc]
    rw [e]
    by_cases h1 : c = 92
    · subst h1
      show cutQ (92 :: 92 :: (esc l ++ 39 :: R)) = _
      simp [cutQ, ih]
    by_cases h2 : c = 39
    · subst h2
      show cutQ (92 :: 39 :: (esc l ++ 39 :: R)) = _
      simp [cutQ, ih]
    by_cases h3 : c = 10
    · subst h3
      show cutQ (92 :: 110 :: (esc l ++ 39 :: R)) = _
      simp [cutQ, ih]
    have h4 : esc1 c = [c] := by simp [esc1, h1, h2, h3]
    rw [h4]
    show cutQ (c :: (esc l ++ 39 :: R)) = _
    rw [quo_cons (by simp) h2 h3 h1, ih]
    rfl
theorem put_len (c : Nat) (z : List Nat) (hz : z.length = 2) : ∀ l : List Nat, (put c z l).length ≤ 2 * l.length
  | [] => Nat.le_refl _
  | d :: l => by
    have ih := put_len c z hz l
    have e : put c z (d :: l) = (if d = c then z else [d]) ++ put c z l := rfl
    rw [e, List.length_append, List.length_cons]
    split
    · omega
    · simp; omega
theorem replM_ok {y z : Str} {f : M AV} {s : SS} {a b : List Nat} (hf : f s = .ok (.str (tx a)) s) (ha : a.length ≤ 10000) (hz : z.length = 2) (h : Txt.replace (tx a) y z = tx b) : replM y z f s = .ok (.str (tx b)) s := by
  show LM.bindM f _ s = _
  show LM.bindR (f s) _ = _
  rw [hf]
  show (if (tx a).length + ((tx a).length + 1) * z.length ≤ 16777216 then Res.ok (AV.str (Txt.replace (tx a) y z)) s else Res.stuck) = _
  rw [hz, tx_len, if_pos (by omega), h]
theorem marked_ok (l : List Nat) (h : AH) (hl : l.length ≤ 1000) : m_marked [.str (tx l)] h = .ok (.str (tx (39 :: (esc l ++ [39])))) h := by
  have e1 : Txt.replace (tx l) (Str.ofString "\\") (Str.ofString "\\\\") = tx (put 92 [92, 92] l) := replace_tx l [92, 92] 92 (by decide)
  have e2 : Txt.replace (tx (put 92 [92, 92] l)) (Str.ofString "'") (Str.ofString "\\'") = tx (put 39 [92, 39] (put 92 [92, 92] l)) := replace_tx _ [92, 39] 39 (by decide)
  have e3 : Txt.replace (tx (put 39 [92, 39] (put 92 [92, 92] l))) (Str.ofString "\n") (Str.ofString "\\n") = tx (esc l) := by
    rw [← put_esc]
    exact replace_tx _ [92, 110] 10 (by decide)
  have l1 := put_len 92 [92, 92] rfl l
  have l2 := put_len 39 [92, 39] rfl (put 92 [92, 92] l)
  have hlen := esc_len l
  have s1 : (vM 0) ⟨[some (.val (.str (tx l)))], h⟩ = .ok (.str (tx l)) ⟨[some (.val (.str (tx l)))], h⟩ := by simp
  have s2 := replM_ok s1 (by omega) (by kernel_rfl) e1
  have s3 := replM_ok s2 (by omega) (by kernel_rfl) e2
  have s4 := replM_ok s3 (by omega) (by kernel_rfl) e3
  rw [quo_tx] at s4
  have h1 : (esc l).length ≤ 16777215 := by omega
  have h2 : (esc l).length + 1 ≤ 16777215 := by omega
  have h3 : (esc l).length + 1 ≤ 16777216 := by omega
  have h4 : (esc l).length + 1 + 1 ≤ 16777216 := by omega
  have h5 : 1 + (esc l).length ≤ 16777216 := by omega
  have h6 : 1 + (esc l).length + 1 ≤ 16777216 := by omega
  simp [m_marked, b_marked, slots0, s4, quo_tx, addX, addI, addS, h1, h2, h3, h4, h5, h6]
theorem cuts_marked (l : List Nat) : Cuts [] (39 :: (esc l ++ [39])) 1 0 (.ok [(⟨"quoted", l, 1, 1⟩ : Sg)]) := by
  have h : cut1 [] 39 (esc l ++ [39]) = some ("quoted", l, []) := by
    have e := quo_esc1 l []
    unfold cut1
    rw [e]
    kernel_rfl
  have := one_cut (sg := []) (c := 39) (r := 1) (k := 0) (U := esc l ++ [39]) (R := []) (by decide) (by decide) (by decide) (by decide) (by rw [List.append_nil]; exact h) (res := .ok [(⟨"quoted", l, 1, 1⟩ : Sg)]) (.fin rfl)
  rw [List.append_nil] at this
  exact this

/-! signs laid out: what is written is cut to the same -/
def Sg.kw (s : Sg) : String × List Nat := (s.kind, s.said)
def Sg.trip (s : Sg) : String × List Nat × Nat := (s.kind, s.said, s.row)
def wr (s : Sg) : List Nat := if s.kind = "quoted" then 39 :: (esc s.said ++ [39]) else s.said
def layS (b : Bool) (row : Nat) : List Sg → List Nat
  | [] => []
  | s :: l => ((if row < s.row then List.replicate (s.row - row) 10 else if b then [32] else []) ++ wr s) ++ layS true s.row l
/-- what may stand behind a sign -/
def Tl (R : List Nat) : Prop := R = [] ∨ (∃ R', R = 32 :: R') ∨ ∃ R', R = 10 :: R'
structure Good (sg : List Sg) (s : Sg) : Prop where
  cut : ∃ H U, wr s = H :: U ∧ H ≠ 10 ∧ H ≠ 35 ∧ H ≠ 32 ∧ H ≠ 9 ∧ ∀ sg', stroke sg' [55] = stroke sg [55] → ∀ R, Tl R → cut1 sg' H (U ++ R) = some (s.kind, s.said, R)
  len : (wr s).length ≤ 10
  sm : ∀ d ∈ wr s, d < 256
  said : s.said.length ≤ 10
  last : ∀ h, (wr s).getLast h ≠ 10
def Fits (sg : List Sg) (row : Nat) : List Sg → Prop
  | [] => True
  | s :: l => row ≤ s.row ∧ Good sg s ∧ Fits (sg ++ [s]) s.row l
theorem Fits.le {sg : List Sg} {r r' : Nat} (h : r ≤ r') : ∀ {l : List Sg}, Fits sg r' l → Fits sg r l
  | [], _ => trivial
  | s :: l, ⟨h1, h2, h3⟩ => ⟨Nat.le_trans h h1, h2, h3⟩
theorem stroke_kw {sg sg' : List Sg} (h : sg'.map Sg.kw = sg.map Sg.kw) : stroke sg' [55] = stroke sg [55] := by
  have e : (sg'.map Sg.kw).getLast? = (sg.map Sg.kw).getLast? := by rw [h]
  rw [List.getLast?_map, List.getLast?_map] at e
  unfold stroke
  cases h1 : sg'.getLast? with
  | none =>
    rw [h1] at e
    cases h2 : sg.getLast? with
    | none => rfl
    | some s => rw [h2] at e; cases e
  | some s' =>
    rw [h1] at e
    cases h2 : sg.getLast? with
    | none => rw [h2] at e; cases e
    | some s =>
      rw [h2] at e
      have e : Sg.kw s' = Sg.kw s := Option.some.inj e
      have e1 : s'.kind = s.kind := congrArg Prod.fst e
      have e2 : s'.said = s.said := congrArg Prod.snd e
      simp only [e1, e2]
theorem skw_rep (X : List Nat) : ∀ (n r k : Nat), skw false (List.replicate n 10 ++ X) r k = skw false X (r + n) (if n = 0 then k else 0)
  | 0, r, k => by simp
  | n + 1, r, k => by
    rw [List.replicate_succ, List.cons_append, skw_nl, skw_rep X n (r + 1) 0]
    simp
    congr 1
    omega
theorem lay_tl (row : Nat) : ∀ l : List Sg, Tl (layS true row l)
  | [] => .inl rfl
  | s :: l => by
    unfold layS
    by_cases h : row < s.row
    · obtain ⟨n, hn⟩ : ∃ n, s.row - row = n + 1 := ⟨s.row - row - 1, by omega⟩
      rw [if_pos h, hn, List.replicate_succ]
      exact .inr (.inr ⟨_, rfl⟩)
    · rw [if_neg h, if_pos rfl]
      exact .inr (.inl ⟨_, rfl⟩)
theorem fits_cut : ∀ (l : List Sg) (b : Bool) (row : Nat) (sg sg' : List Sg) (k : Nat), Fits sg row l → sg'.map Sg.kw = sg.map Sg.kw → ∃ l', l'.map Sg.trip = l.map Sg.trip ∧ Cuts sg' (layS b row l) row k (.ok (sg' ++ l'))
  | [], b, row, sg, sg', k, _, _ => ⟨[], rfl, by rw [List.append_nil]; exact .fin rfl⟩
  | s :: l, b, row, sg, sg', k, ⟨h1, g, h3⟩, hk => by
    obtain ⟨H, U, e, n1, n2, n3, n4, hc⟩ := g.cut
    have sep : ∃ k', ∀ X, skw false ((if row < s.row then List.replicate (s.row - row) 10 else if b then [32] else []) ++ X) row k = skw false X s.row k' := by
      by_cases h : row < s.row
      · refine ⟨0, fun X => ?_⟩
        rw [if_pos h, skw_rep, if_neg (by omega)]
        congr 1
        omega
      · have er : row = s.row := by omega
        cases b with
        | true => exact ⟨k + 1, fun X => by rw [if_neg h, if_pos rfl, ← er]; exact skw_sp⟩
        | false => exact ⟨k, fun X => by rw [if_neg h, ← er]; rfl⟩
    obtain ⟨k', sep⟩ := sep
    obtain ⟨l', e1, e2⟩ := fits_cut l true s.row (sg ++ [s]) (sg' ++ [(⟨s.kind, s.said, s.row, k' + 1⟩ : Sg)]) (k' + (U.length + 1)) h3 (by rw [List.map_append, List.map_append, hk]; rfl)
    refine ⟨⟨s.kind, s.said, s.row, k' + 1⟩ :: l', by rw [List.map_cons, List.map_cons, e1]; rfl, ?_⟩
    have e2 : Cuts (sg' ++ [(⟨s.kind, s.said, s.row, k' + 1⟩ : Sg)]) (layS true s.row l) s.row (k' + (U.length + 1)) (.ok (sg' ++ ⟨s.kind, s.said, s.row, k' + 1⟩ :: l')) := by
      rw [List.append_assoc] at e2
      exact e2
    have e3 := one_cut n1 n2 n3 n4 (hc sg' (stroke_kw hk) _ (lay_tl s.row l)) e2
    have e4 : layS b row (s :: l) = (if row < s.row then List.replicate (s.row - row) 10 else if b then [32] else []) ++ (H :: (U ++ layS true s.row l)) := by
      rw [layS, e, List.append_assoc]
      rfl
    rw [e4]
    exact e3.skip (sep _)
theorem lay_sm : ∀ (l : List Sg) (b : Bool) (row : Nat) (sg : List Sg), Fits sg row l → ∀ d ∈ layS b row l, d < 256
  | [], _, _, _, _, d, h => by cases h
  | s :: l, b, row, sg, ⟨h1, g, h3⟩, d, h => by
    rw [layS] at h
    rcases List.mem_append.mp h with h | h
    · rcases List.mem_append.mp h with h | h
      · split at h
        · have := List.eq_of_mem_replicate h; omega
        · split at h
          · have : d = 32 := by simpa using h
            omega
          · cases h
      · exact g.sm d h
    · exact lay_sm l true s.row _ h3 d h
theorem lay_len (m : Nat) : ∀ (l : List Sg) (b : Bool) (row : Nat) (sg : List Sg), Fits sg row l → row ≤ m → (∀ s ∈ l, s.row ≤ m) → (layS b row l).length ≤ (m - row) + 11 * l.length
  | [], _, _, _, _, _, _ => by simp [layS]
  | s :: l, b, row, sg, ⟨h1, g, h3⟩, hm, hs => by
    have ih := lay_len m l true s.row _ h3 (hs s List.mem_cons_self) fun s' h' => hs s' (List.mem_cons_of_mem _ h')
    have hg := g.len
    have hr := hs s List.mem_cons_self
    rw [layS, List.length_append, List.length_append, List.length_cons]
    have : (if row < s.row then List.replicate (s.row - row) 10 else if b then [32] else []).length ≤ (s.row - row) + 1 := by
      split
      · simp
      · split <;> simp
    omega
/-! the pieces are such -/
theorem tl_cases {P : List Nat → Prop} (h1 : P []) (h2 : ∀ R, P (32 :: R)) (h3 : ∀ R, P (10 :: R)) : ∀ R, Tl R → P R := by
  intro R h
  rcases h with rfl | ⟨R', rfl⟩ | ⟨R', rfl⟩
  · exact h1
  · exact h2 _
  · exact h3 _
theorem good_of {sg : List Sg} {K : String} {W : List Nat} {r k H : Nat} {U : List Nat} (e : wr ⟨K, W, r, k⟩ = H :: U) (n1 : H ≠ 10) (n2 : H ≠ 35) (n3 : H ≠ 32) (n4 : H ≠ 9)
    (hc : ∀ sg', stroke sg' [55] = stroke sg [55] → ∀ R, Tl R → cut1 sg' H (U ++ R) = some (K, W, R)) (hl : (H :: U).length ≤ 10) (hs : ∀ d ∈ H :: U, d < 256) (hw : W.length ≤ 10) (hz : (H :: U).getLast (by simp) ≠ 10) : Good sg ⟨K, W, r, k⟩ :=
  ⟨⟨H, U, e, n1, n2, n3, n4, hc⟩, by rw [e]; exact hl, by rw [e]; exact hs, hw, by rw [e]; exact fun _ => hz⟩
theorem good_7 (sg : List Sg) (r k : Nat) : Good sg ⟨"number", [55], r, k⟩ := good_of (H := 55) (U := []) rfl (by decide) (by decide) (by decide) (by decide) (fun sg' _ => tl_cases (by kernel_rfl) (fun _ => by kernel_rfl) (fun _ => by kernel_rfl)) (by decide) (by decide) (by decide) (by decide)
theorem good_m (sg : List Sg) (r k : Nat) : Good sg ⟨"mark", [45], r, k⟩ := good_of (H := 45) (U := []) rfl (by decide) (by decide) (by decide) (by decide) (fun sg' _ => tl_cases (by kernel_rfl) (fun _ => by kernel_rfl) (fun _ => by kernel_rfl)) (by decide) (by decide) (by decide) (by decide)
theorem good_m7 (sg : List Sg) (r k : Nat) (hs : stroke sg [55] = true) : Good sg ⟨"number", [45, 55], r, k⟩ := good_of (H := 45) (U := [55]) rfl (by decide) (by decide) (by decide) (by decide) (fun sg' h' => by
  have h := h'.trans hs
  have go : ∀ R, stroke sg' ([55] ++ R) = stroke sg' [55] := fun _ => rfl
  refine tl_cases ?_ (fun R => ?_) (fun R => ?_)
  · unfold cut1
    rw [go, h]
    kernel_rfl
  · unfold cut1
    rw [go, h]
    kernel_rfl
  · unfold cut1
    rw [go, h]
    kernel_rfl) (by decide) (by decide) (by decide) (by decide)
theorem good_p0 (sg : List Sg) (r k : Nat) : Good sg ⟨Pc.p0.K, Pc.p0.W, r, k⟩ := good_of (H := Pc.p0.H) (U := Pc.p0.U) (by kernel_rfl) (by decide) (by decide) (by decide) (by decide) (fun sg' _ => tl_cases (by kernel_rfl) (fun _ => by kernel_rfl) (fun _ => by kernel_rfl)) (by decide) (by decide) (by decide) (by decide)
theorem good_p1 (sg : List Sg) (r k : Nat) : Good sg ⟨Pc.p1.K, Pc.p1.W, r, k⟩ := good_of (H := Pc.p1.H) (U := Pc.p1.U) (by kernel_rfl) (by decide) (by decide) (by decide) (by decide) (fun sg' _ => tl_cases (by kernel_rfl) (fun _ => by kernel_rfl) (fun _ => by kernel_rfl)) (by decide) (by decide) (by decide) (by decide)
theorem good_p2 (sg : List Sg) (r k : Nat) : Good sg ⟨Pc.p2.K, Pc.p2.W, r, k⟩ := good_of (H := Pc.p2.H) (U := Pc.p2.U) (by kernel_rfl) (by decide) (by decide) (by decide) (by decide) (fun sg' _ => tl_cases (by kernel_rfl) (fun _ => by kernel_rfl) (fun _ => by kernel_rfl)) (by decide) (by decide) (by decide) (by decide)
theorem good_p3 (sg : List Sg) (r k : Nat) : Good sg ⟨Pc.p3.K, Pc.p3.W, r, k⟩ := good_of (H := Pc.p3.H) (U := Pc.p3.U) (by kernel_rfl) (by decide) (by decide) (by decide) (by decide) (fun sg' _ => tl_cases (by kernel_rfl) (fun _ => by kernel_rfl) (fun _ => by kernel_rfl)) (by decide) (by decide) (by decide) (by decide)
theorem good_p4 (sg : List Sg) (r k : Nat) : Good sg ⟨Pc.p4.K, Pc.p4.W, r, k⟩ := good_of (H := Pc.p4.H) (U := Pc.p4.U) (by kernel_rfl) (by decide) (by decide) (by decide) (by decide) (fun sg' _ => tl_cases (by kernel_rfl) (fun _ => by kernel_rfl) (fun _ => by kernel_rfl)) (by decide) (by decide) (by decide) (by decide)
theorem good_p5 (sg : List Sg) (r k : Nat) : Good sg ⟨Pc.p5.K, Pc.p5.W, r, k⟩ := good_of (H := Pc.p5.H) (U := Pc.p5.U) (by kernel_rfl) (by decide) (by decide) (by decide) (by decide) (fun sg' _ => tl_cases (by kernel_rfl) (fun _ => by kernel_rfl) (fun _ => by kernel_rfl)) (by decide) (by decide) (by decide) (by decide)
theorem good_p6 (sg : List Sg) (r k : Nat) : Good sg ⟨Pc.p6.K, Pc.p6.W, r, k⟩ := good_of (H := Pc.p6.H) (U := Pc.p6.U) (by kernel_rfl) (by decide) (by decide) (by decide) (by decide) (fun sg' _ => tl_cases (by kernel_rfl) (fun _ => by kernel_rfl) (fun _ => by kernel_rfl)) (by decide) (by decide) (by decide) (by decide)
theorem good_p7 (sg : List Sg) (r k : Nat) : Good sg ⟨Pc.p7.K, Pc.p7.W, r, k⟩ := good_of (H := Pc.p7.H) (U := Pc.p7.U) (by kernel_rfl) (by decide) (by decide) (by decide) (by decide) (fun sg' _ => tl_cases (by kernel_rfl) (fun _ => by kernel_rfl) (fun _ => by kernel_rfl)) (by decide) (by decide) (by decide) (by decide)
theorem good_p8 (sg : List Sg) (r k : Nat) : Good sg ⟨Pc.p8.K, Pc.p8.W, r, k⟩ := good_of (H := Pc.p8.H) (U := Pc.p8.U) (by kernel_rfl) (by decide) (by decide) (by decide) (by decide) (fun sg' _ => tl_cases (by kernel_rfl) (fun _ => by kernel_rfl) (fun _ => by kernel_rfl)) (by decide) (by decide) (by decide) (by decide)
theorem good_p9 (sg : List Sg) (r k : Nat) : Good sg ⟨Pc.p9.K, Pc.p9.W, r, k⟩ := good_of (H := Pc.p9.H) (U := Pc.p9.U) (by kernel_rfl) (by decide) (by decide) (by decide) (by decide) (fun sg' _ => tl_cases (by kernel_rfl) (fun _ => by kernel_rfl) (fun _ => by kernel_rfl)) (by decide) (by decide) (by decide) (by decide)
theorem good_p10 (sg : List Sg) (r k : Nat) : Good sg ⟨Pc.p10.K, Pc.p10.W, r, k⟩ := good_of (H := Pc.p10.H) (U := Pc.p10.U) (by kernel_rfl) (by decide) (by decide) (by decide) (by decide) (fun sg' _ => tl_cases (by kernel_rfl) (fun _ => by kernel_rfl) (fun _ => by kernel_rfl)) (by decide) (by decide) (by decide) (by decide)
theorem good_p11 (sg : List Sg) (r k : Nat) : Good sg ⟨Pc.p11.K, Pc.p11.W, r, k⟩ := good_of (H := Pc.p11.H) (U := Pc.p11.U) (by kernel_rfl) (by decide) (by decide) (by decide) (by decide) (fun sg' _ => tl_cases (by kernel_rfl) (fun _ => by kernel_rfl) (fun _ => by kernel_rfl)) (by decide) (by decide) (by decide) (by decide)
theorem good_p12 (sg : List Sg) (r k : Nat) : Good sg ⟨Pc.p12.K, Pc.p12.W, r, k⟩ := good_of (H := Pc.p12.H) (U := Pc.p12.U) (by kernel_rfl) (by decide) (by decide) (by decide) (by decide) (fun sg' _ => tl_cases (by kernel_rfl) (fun _ => by kernel_rfl) (fun _ => by kernel_rfl)) (by decide) (by decide) (by decide) (by decide)
theorem good_p16 (sg : List Sg) (r k : Nat) : Good sg ⟨Pc.p16.K, Pc.p16.W, r, k⟩ := good_of (H := Pc.p16.H) (U := Pc.p16.U) (by kernel_rfl) (by decide) (by decide) (by decide) (by decide) (fun sg' _ => tl_cases (by kernel_rfl) (fun _ => by kernel_rfl) (fun _ => by kernel_rfl)) (by decide) (by decide) (by decide) (by decide)
theorem good_p17 (sg : List Sg) (r k : Nat) : Good sg ⟨Pc.p17.K, Pc.p17.W, r, k⟩ := good_of (H := Pc.p17.H) (U := Pc.p17.U) (by kernel_rfl) (by decide) (by decide) (by decide) (by decide) (fun sg' _ => tl_cases (by kernel_rfl) (fun _ => by kernel_rfl) (fun _ => by kernel_rfl)) (by decide) (by decide) (by decide) (by decide)
theorem fits_one {sg : List Sg} {s : Sg} {row : Nat} {l : List Sg} (h1 : row ≤ s.row) (g : Good sg s) (h : Fits (sg ++ [s]) s.row l) : Fits sg row ([s] ++ l) := ⟨h1, g, h⟩
theorem newR_le (p : Pc) (r : Nat) : r ≤ newR p r := Nat.le_add_right _ _
theorem fits_new (p : Pc) {sg : List Sg} {r k row : Nat} {l : List Sg} (hr : row ≤ r) (h : Fits (sg ++ newS p sg r k) r l) : Fits sg row (newS p sg r k ++ l) := by
  cases p with
  | p13 =>
    have h : Fits (sg ++ []) r l := h
    rw [List.append_nil] at h
    exact h.le hr
  | p14 =>
    have h : Fits (sg ++ []) r l := h
    rw [List.append_nil] at h
    exact h.le hr
  | p15 =>
    cases hs : stroke sg [55] with
    | true =>
      have e : newS .p15 sg r k = [⟨"number", [45, 55], r, k + 1⟩] := by simp [newS, hs]
      rw [e] at h ⊢
      exact fits_one hr (good_m7 sg r (k + 1) hs) h
    | false =>
      have e : newS .p15 sg r k = [⟨"mark", [45], r, k + 1⟩, ⟨"number", [55], r, k + 2⟩] := by simp [newS, hs]
      rw [e] at h ⊢
      refine ⟨hr, good_m sg r (k + 1), Nat.le_refl _, good_7 _ r (k + 2), ?_⟩
      rw [List.append_assoc]
      exact h
  | p0 => exact fits_one (s := ⟨Pc.p0.K, Pc.p0.W, r, k + 1⟩) hr (good_p0 sg r (k + 1)) h
  | p1 => exact fits_one (s := ⟨Pc.p1.K, Pc.p1.W, r, k + 1⟩) hr (good_p1 sg r (k + 1)) h
  | p2 => exact fits_one (s := ⟨Pc.p2.K, Pc.p2.W, r, k + 1⟩) hr (good_p2 sg r (k + 1)) h
  | p3 => exact fits_one (s := ⟨Pc.p3.K, Pc.p3.W, r, k + 1⟩) hr (good_p3 sg r (k + 1)) h
  | p4 => exact fits_one (s := ⟨Pc.p4.K, Pc.p4.W, r, k + 1⟩) hr (good_p4 sg r (k + 1)) h
  | p5 => exact fits_one (s := ⟨Pc.p5.K, Pc.p5.W, r, k + 1⟩) hr (good_p5 sg r (k + 1)) h
  | p6 => exact fits_one (s := ⟨Pc.p6.K, Pc.p6.W, r, k + 1⟩) hr (good_p6 sg r (k + 1)) h
  | p7 => exact fits_one (s := ⟨Pc.p7.K, Pc.p7.W, r, k + 1⟩) hr (good_p7 sg r (k + 1)) h
  | p8 => exact fits_one (s := ⟨Pc.p8.K, Pc.p8.W, r, k + 1⟩) hr (good_p8 sg r (k + 1)) h
  | p9 => exact fits_one (s := ⟨Pc.p9.K, Pc.p9.W, r, k + 1⟩) hr (good_p9 sg r (k + 1)) h
  | p10 => exact fits_one (s := ⟨Pc.p10.K, Pc.p10.W, r, k + 1⟩) hr (good_p10 sg r (k + 1)) h
  | p11 => exact fits_one (s := ⟨Pc.p11.K, Pc.p11.W, r, k + 1⟩) hr (good_p11 sg r (k + 1)) h
  | p12 => exact fits_one (s := ⟨Pc.p12.K, Pc.p12.W, r, k + 1⟩) hr (good_p12 sg r (k + 1)) h
  | p16 => exact fits_one (s := ⟨Pc.p16.K, Pc.p16.W, r, k + 1⟩) hr (good_p16 sg r (k + 1)) h
  | p17 => exact fits_one (s := ⟨Pc.p17.K, Pc.p17.W, r, k + 1⟩) hr (good_p17 sg r (k + 1)) h
theorem dues_fits : ∀ (ps : List Pc) (sg : List Sg) (r k row : Nat), row ≤ r → ∃ l, (dues ps sg r k).1 = sg ++ l ∧ Fits sg row l
  | [], sg, r, k, row, h => ⟨[], by simp [dues], trivial⟩
  | p :: ps, sg, r, k, row, h => by
    obtain ⟨l, e1, e2⟩ := dues_fits ps (sg ++ newS p sg r k) (newR p r) (newK p k) r (newR_le p r)
    exact ⟨newS p sg r k ++ l, by rw [dues, e1, List.append_assoc], fits_new p h e2⟩
theorem newS_row (p : Pc) (sg : List Sg) (r k : Nat) : ∀ s ∈ newS p sg r k, s.row = r := by
  intro s hs
  cases p <;> simp only [newS] at hs
  case p15 =>
    split at hs
    · have : s = ⟨"number", [45, 55], r, k + 1⟩ := by simpa using hs
      subst this; rfl
    · have : s = ⟨"mark", [45], r, k + 1⟩ ∨ s = ⟨"number", [55], r, k + 2⟩ := by simpa using hs
      rcases this with rfl | rfl <;> rfl
  all_goals first
    | cases hs; done
    | (rw [List.mem_singleton] at hs; subst hs; rfl)
theorem dues_rows : ∀ (ps : List Pc) (sg : List Sg) (r k m : Nat), r + ps.length ≤ m → (∀ s ∈ sg, s.row ≤ m) → ∀ s ∈ (dues ps sg r k).1, s.row ≤ m
  | [], sg, r, k, m, h, hs => hs
  | p :: ps, sg, r, k, m, h, hs => by
    rw [List.length_cons] at h
    have hn : newR p r ≤ r + 1 := by
      have : p.T.count 10 ≤ 1 := by cases p <;> decide
      unfold newR
      omega
    refine dues_rows ps _ (newR p r) (newK p k) m (by omega) fun s h' => ?_
    rcases List.mem_append.mp h' with h' | h'
    · exact hs s h'
    · rw [newS_row p sg r k s h']; omega
theorem dues_len : ∀ (ps : List Pc) (sg : List Sg) (r k : Nat), (dues ps sg r k).1.length ≤ sg.length + 2 * ps.length
  | [], sg, r, k => by simp [dues]
  | p :: ps, sg, r, k => by
    have h1 := dues_len ps (sg ++ newS p sg r k) (newR p r) (newK p k)
    have h2 := newS_len p sg r k
    rw [List.length_append] at h1
    rw [dues, List.length_cons]
    omega
/-- what is laid out of the due signs -/
theorem dues_lay (ps : List Pc) (hl : ps.length ≤ 14) : ∃ l', l'.map Sg.trip = (dues ps [] 1 0).1.map Sg.trip ∧ Cuts [] (layS false 1 (dues ps [] 1 0).1) 1 0 (.ok l') ∧ Ok (layS false 1 (dues ps [] 1 0).1) ∧ Fits [] 1 (dues ps [] 1 0).1 ∧ (dues ps [] 1 0).1.length ≤ 28 ∧ ∀ s ∈ (dues ps [] 1 0).1, s.row ≤ 15 := by
  obtain ⟨l, e1, e2⟩ := dues_fits ps [] 1 0 1 (Nat.le_refl _)
  rw [List.nil_append] at e1
  have hr := dues_rows ps [] 1 0 15 (by omega) fun s hs => by cases hs
  have hn := dues_len ps [] 1 0
  rw [e1] at hr hn ⊢
  obtain ⟨l', e3, e4⟩ := fits_cut l false 1 [] [] 0 e2 rfl
  rw [List.nil_append] at e4
  have hln := lay_len 15 l false 1 _ e2 (by omega) hr
  rw [List.length_nil] at hn
  exact ⟨l', e3, e4, ⟨by omega, lay_sm l false 1 _ e2⟩, e2, by omega, hr⟩

/-! laid_out walked -/
def layT : M Bool := cmpM ltX (pkV 2) (pkE (fldM ["Sign", "Cutter"] "row" (pkV 3)))
def layP : M Fl := parM 1 2 (consM (op2 addX (vM 1) (cM (.str "\n"))) (consM (op2 addX (vM 2) (cM (.int 1))) nilM))
def layB : M Fl := ifM (LM.andM (cmpM neW (pkV 1) (pkE (cM (.str "")))) (cmpM neW (pkE (ixM (pkV 1) (pkE (op1 negA (cM (.int 1)))))) (pkE (cM (.str "\n"))))) (augX 1 (fun a b => (addI a b).or (addS a b)) (cM (.str " "))) nxM
def layA : M Fl := augX 1 (fun a b => (addI a b).or (addS a b)) (ifM (cmpM eqW (pkE (fldM ["Sign"] "kind" (pkV 3))) (pkE (cM (.str "quoted")))) (callM 1 m_marked [] (consM (fldM ["Sign"] "said" (pkV 3)) nilM)) (fldM ["Sign"] "said" (pkV 3)))
def layF : M Fl := seqM (whileM layT layP 1000000) (seqM layB layA)
theorem b_laid_eq : b_laid_out = (seqM
 (asgM (tupG 2 [(setV 1), (setV 2)]) (tupM (consM (cM (.str "")) (consM (cM (.int 1)) nilM))))
 (seqM (forXM (pkV 0) (itM (vM 0)) (setV 3) layF) (retM (vM 1)))) := rfl
def lyS (v0 : Option SV) (T : List Nat) (row : Nat) (x : Option SV) (h : AH) : SS := ⟨[v0, some (.val (.str (tx T))), some (.val (.int (row : Int))), x], h⟩
def sav (s : Sg) : Option SV := some (.val s.av)
theorem layT_ok {v0 : Option SV} {T : List Nat} {row : Nat} {s : Sg} {h : AH} : layT (lyS v0 T row (sav s) h) = .ok (decide (row < s.row)) (lyS v0 T row (sav s) h) := by
  simp [layT, lyS, sav, Sg.av]
theorem layP_ok {v0 : Option SV} {T : List Nat} {row : Nat} {x : Option SV} {h : AH} (hl : T.length ≤ 10000) : layP (lyS v0 T row x h) = .ok .nx (lyS v0 (T ++ [10]) (row + 1) x h) := by
  have h1 : T.length + 1 ≤ 16777216 := by omega
  have h2 : T.length ≤ 16777215 := by omega
  simp [layP, lyS, nl_tx, h1, h2]
theorem layW_ok {v0 : Option SV} {s : Sg} {h : AH} : ∀ (n N : Nat) (T : List Nat) (row : Nat), s.row = row + n → n < N → T.length + n ≤ 10000 → whileM layT layP N (lyS v0 T row (sav s) h) = .ok .nx (lyS v0 (T ++ List.replicate n 10) s.row (sav s) h)
  | 0, N + 1, T, row, hn, _, hl => by
    rw [whileM_at, layT_ok]
    have : ¬ row < s.row := by omega
    simp [this, show row = s.row by omega]
  | n + 1, N + 1, T, row, hn, hN, hl => by
    rw [whileM_at, layT_ok]
    have : row < s.row := by omega
    simp only [this, decide_true, bindR_ok]
    rw [if_pos trivial, layP_ok (by omega), turnR_nx, layW_ok n N (T ++ [10]) (row + 1) (by omega) (by omega) (by simp; omega)]
    rw [List.append_assoc]
    rfl
theorem at_last {T : List Nat} (hT : T ≠ []) : atI T (-1) = some (T.getLast hT) := by
  have hl : T.length ≠ 0 := fun z => hT (List.eq_nil_of_length_eq_zero z)
  obtain ⟨n, hn⟩ : ∃ n, T.length = n + 1 := ⟨T.length - 1, by omega⟩
  have e : ixN T.length (-1) = some n := by
    simp only [ixN, hn]
    rw [if_neg (by decide), if_pos (by omega)]
    congr 1
    omega
  unfold atI
  rw [e]
  show T[n]? = _
  rw [List.getLast_eq_getElem, List.getElem?_eq_getElem (by omega)]
  congr 1
  congr 1
  omega
theorem layB_no {v0 : Option SV} {T : List Nat} {row : Nat} {x : Option SV} {h : AH} (hl : T.length ≤ 10000) (hs : ∀ d ∈ T, d < 256) (hT : T = [] ∨ ∃ hT : T ≠ [], T.getLast hT = 10) : layB (lyS v0 T row x h) = .ok .nx (lyS v0 T row x h) := by
  have o1 : ∀ n, okA n (.str (tx T)) = true := fun n => okA_tx hs
  have o2 : ∀ n, okA n (.str (tx [10])) = true := fun n => okA_t1 (by decide)
  have o3 : ∀ n, okA n (.str (tx [])) = true := fun n => okA_t0
  rcases hT with rfl | ⟨hT, hg⟩
  · simp [layB, lyS, empty_tx, o3]
  · have hlen : T.length ≤ 16777216 := by omega
    simp [layB, lyS, empty_tx, o1, o3, hT, hlen, at_last hT, hg, nl_tx, ch_tx, o2]
theorem layB_yes {v0 : Option SV} {T : List Nat} {row : Nat} {x : Option SV} {h : AH} (hl : T.length ≤ 10000) (hs : ∀ d ∈ T, d < 256) (hT : T ≠ []) (hg : T.getLast hT ≠ 10) : layB (lyS v0 T row x h) = .ok .nx (lyS v0 (T ++ [32]) row x h) := by
  have o1 : ∀ n, okA n (.str (tx T)) = true := fun n => okA_tx hs
  have o2 : ∀ n, okA n (.str (tx [10])) = true := fun n => okA_t1 (by decide)
  have o3 : ∀ n, okA n (.str (tx [])) = true := fun n => okA_t0
  have o4 : ∀ n, okA n (.str (tx [T.getLast hT])) = true := fun n => okA_t1 (hs _ (List.getLast_mem hT))
  have hlen : T.length ≤ 16777216 := by omega
  have h1 : T.length + 1 ≤ 16777216 := by omega
  have h2 : T.length ≤ 16777215 := by omega
  have sp : (Str.ofString " ") = tx [32] := by kernel_rfl
  simp [layB, lyS, empty_tx, o1, o3, hT, hlen, at_last hT, hg, nl_tx, ch_tx, o2, o4, sp, addI, addS, h1, h2, lsB_i, lsB_s]
theorem layA_ok {v0 : Option SV} {T : List Nat} {row : Nat} {s : Sg} {h : AH} (hl : T.length ≤ 10000) (hw : s.said.length ≤ 10) (hk : okA 60 (.str s.kind) = true) : layA (lyS v0 T row (sav s) h) = .ok .nx (lyS v0 (T ++ wr s) row (sav s) h) := by
  have hm := marked_ok s.said h (by omega)
  have h0 := esc_len s.said
  have h1 : T.length + s.said.length ≤ 16777216 := by omega
  have h2 : T.length + ((esc s.said).length + 1 + 1) ≤ 16777216 := by omega
  have h3 : T.length + (1 + ((esc s.said).length + 1)) ≤ 16777216 := by omega
  have hq : okA 60 (.str (Str.ofString "quoted")) = true := okA_str
  by_cases c : s.kind = "quoted"
  · simp [layA, lyS, sav, Sg.av, c, hm, wr, addI, addS, h1, h2, h3, hk, lsB_i, lsB_s]
  · simp [layA, lyS, sav, Sg.av, c, wr, addI, addS, h1, h2, hk, lsB_i, lsB_s]

theorem lay_step {v0 : Option SV} {T : List Nat} {row : Nat} {s : Sg} {sg : List Sg} {h : AH} {b : Bool} (hr : row ≤ s.row) (g : Good sg s) (hs : ∀ d ∈ T, d < 256) (hl : T.length + (s.row - row) + 1 ≤ 9000) (hrow : s.row ≤ 1000) (hb : b = decide (T ≠ [])) (hg : ∀ hT : T ≠ [], T.getLast hT ≠ 10) :
    layF (lyS v0 T row (sav s) h) = .ok .nx (lyS v0 (T ++ ((if row < s.row then List.replicate (s.row - row) 10 else if b then [32] else []) ++ wr s)) s.row (sav s) h) := by
  have e1 := layW_ok (v0 := v0) (s := s) (h := h) (s.row - row) 1000000 T row (by omega) (by omega) (by omega)
  rw [layF, seqM_at, e1, seqR_nx, seqM_at]
  have hs2 : ∀ d ∈ T ++ List.replicate (s.row - row) 10, d < 256 := fun d hd => by
    rcases List.mem_append.mp hd with hd | hd
    · exact hs d hd
    · have := List.eq_of_mem_replicate hd; omega
  by_cases c : row < s.row
  · obtain ⟨n, hn⟩ : ∃ n, s.row - row = n + 1 := ⟨s.row - row - 1, by omega⟩
    have e2 := layB_no (v0 := v0) (T := T ++ List.replicate (s.row - row) 10) (row := s.row) (x := sav s) (h := h) (by simp; omega) hs2 (.inr ⟨by rw [hn]; simp [List.replicate_succ], by
      have : T ++ List.replicate (s.row - row) 10 = (T ++ List.replicate n 10) ++ [10] := by rw [hn, List.replicate_succ', List.append_assoc]
      simp only [this, List.getLast_concat]⟩)
    rw [e2, seqR_nx, layA_ok (by simp; omega) g.said okA_str, if_pos c, List.append_assoc]
  · have e0 : s.row - row = 0 := by omega
    rw [e0, List.replicate_zero, List.append_nil, if_neg c]
    by_cases hT : T = []
    · have hb : b = false := by rw [hb]; simp [hT]
      have e2 := layB_no (v0 := v0) (T := T) (row := s.row) (x := sav s) (h := h) (by omega) hs (.inl hT)
      rw [e2, seqR_nx, layA_ok (by omega) g.said okA_str, hb]
      simp
    · have hb : b = true := by rw [hb]; simp [hT]
      have e2 := layB_yes (v0 := v0) (T := T) (row := s.row) (x := sav s) (h := h) (by omega) hs hT (hg hT)
      rw [e2, seqR_nx, layA_ok (by simp; omega) g.said okA_str, hb, if_pos rfl, List.append_assoc]
theorem lay_loop (v0 : Option SV) (h : AH) : ∀ (l sg : List Sg) (T : List Nat) (row : Nat) (x : Option SV) (b : Bool), Fits sg row l → (∀ d ∈ T, d < 256) → T.length + (layS b row l).length + 1001 ≤ 9000 → (∀ s ∈ l, s.row ≤ 1000) → b = decide (T ≠ []) → (∀ hT : T ≠ [], T.getLast hT ≠ 10) →
    ∃ row' x', forL (setV 3) layF (l.map Sg.av) (lyS v0 T row x h) = .ok .nx (lyS v0 (T ++ layS b row l) row' x' h)
  | [], sg, T, row, x, b, _, _, _, _, _, _ => ⟨row, x, by rw [layS, List.append_nil]; rfl⟩
  | s :: l, sg, T, row, x, b, ⟨h1, g, h3⟩, hs, hl, hr, hb, hg => by
    obtain ⟨H, U, e, _⟩ := g.cut
    have hw : wr s ≠ [] := by rw [e]; simp
    have hr1 := hr s List.mem_cons_self
    have e1 := lay_step (v0 := v0) (h := h) h1 g hs (by omega) hr1 hb hg
    rw [layS] at hl
    obtain ⟨row', x', e2⟩ := lay_loop v0 h l (sg ++ [s]) (T ++ ((if row < s.row then List.replicate (s.row - row) 10 else if b then [32] else []) ++ wr s)) s.row (sav s) true h3 (fun d hd => by
      rcases List.mem_append.mp hd with hd | hd
      · exact hs d hd
      · exact lay_sm [s] b row sg ⟨h1, g, trivial⟩ d (by rw [layS, layS, List.append_nil]; exact hd)) (by simp only [List.length_append] at hl ⊢; omega) (fun s' h' => hr s' (List.mem_cons_of_mem _ h')) (by simp [hw]) (fun hT => by
        have : (T ++ ((if row < s.row then List.replicate (s.row - row) 10 else if b then [32] else []) ++ wr s)).getLast hT = (wr s).getLast hw := by
          rw [List.getLast_append_of_ne_nil _ (by simp [hw]), List.getLast_append_of_ne_nil _ hw]
        rw [this]
        exact g.last hw)
    refine ⟨row', x', ?_⟩
    rw [List.map_cons, forL_setV]
    show turnR (layF (lyS v0 T row (sav s) h)) _ = _
    rw [e1, turnR_nx, e2, layS, List.append_assoc]
theorem laid_ok (l : List Sg) (h : AH) (hf : Fits [] 1 l) (hl : (layS false 1 l).length ≤ 1000) (hr : ∀ s ∈ l, s.row ≤ 1000) : m_laid_out [.tup (l.map Sg.av)] h = .ok (.str (tx (layS false 1 l))) h := by
  have e0 : slots0 4 [.tup (l.map Sg.av)] = [some (.val (.tup (l.map Sg.av))), none, none, none] := rfl
  have e1 : (asgM (tupG 2 [(setV 1), (setV 2)]) (tupM (consM (cM (.str "")) (consM (cM (.int 1)) nilM)))) ⟨[some (.val (.tup (l.map Sg.av))), none, none, none], h⟩ = .ok .nx (lyS (some (.val (.tup (l.map Sg.av)))) [] 1 none h) := by
    simp [lyS, empty_tx]
  obtain ⟨row', x', e2⟩ := lay_loop (some (.val (.tup (l.map Sg.av)))) h l [] [] 1 none false hf (fun d hd => by cases hd) (by simp; omega) hr (by simp) (fun hT => absurd rfl hT)
  have e3 : (forXM (pkV 0) (itM (vM 0)) (setV 3) layF) (lyS (some (.val (.tup (l.map Sg.av)))) [] 1 none h) = forL (setV 3) layF (l.map Sg.av) (lyS (some (.val (.tup (l.map Sg.av)))) [] 1 none h) := by
    simp [lyS]
  rw [m_laid_out, b_laid_eq, fnM_at, e0, seqM_at, e1, seqR_nx, seqM_at, e3, e2, seqR_nx]
  simp [lyS]

/-! the law -/
theorem joinL_nil : ∀ ps : List (List Nat), TL.joinL [] ps = ps.flatten
  | [] => rfl
  | [p] => by simp [TL.joinL]
  | p :: q :: ps => by
    rw [joinL_cons _ _ _ (by simp), joinL_nil (q :: ps)]
    simp
theorem join_txs (ps : List (List Nat)) : Txt.join (tx []) (ps.map tx) = tx ps.flatten := by
  have h : TL.tl (Str.join (tx []) (ps.map tx)) = TL.joinL (TL.tl (tx [])) ((ps.map tx).map TL.tl) := TL.tl_join _ _
  have e : ∀ ps : List (List Nat), (ps.map tx).map TL.tl = ps := fun ps => by
    rw [List.map_map]
    exact (List.map_congr_left fun p _ => rfl).trans (List.map_id ps)
  rw [e] at h
  have e2 : TL.tl (tx []) = [] := rfl
  rw [e2, joinL_nil] at h
  rw [← h]
  exact (TL.join_eq _ _).trans (tx_of _).symm
theorem strs_tx : ∀ ps : List (List Nat), strsA (ps.map fun l => .str (tx l)) = some (ps.map tx)
  | [] => rfl
  | p :: ps => by
    show (strsA (ps.map fun l => .str (tx l))).map _ = _
    rw [strs_tx ps]
    rfl
theorem join_ok (ps : List (List Nat)) (h : (ps.map List.length).sum ≤ 16777216) : joinA (tx []) [.vl (ps.map fun l => .str (tx l))] = some (.str (tx ps.flatten)) := by
  unfold joinA
  simp only [strs_tx]
  have e : ((ps.map tx).map (·.length)).sum = (ps.map List.length).sum := by
    rw [List.map_map]
    exact congrArg List.sum (List.map_congr_left fun p _ => tx_len p)
  rw [e, join_txs]
  simp [h]
theorem shown_ok (s : Sg) (h : AH) : m_Sign_shown [s.av] h = .ok s.tv h := by
  simp [m_Sign_shown, b_Sign_shown, slots0, Sg.av, Sg.tv]
def Sg.t3 (s : Sg) : AV := .tup [.str s.kind, .str (tx s.said), .int (s.row : Int)]
theorem t3_map {l' l : List Sg} (h : l'.map Sg.trip = l.map Sg.trip) : l'.map Sg.t3 = l.map Sg.t3 := by
  have e : ∀ l : List Sg, l.map Sg.t3 = (l.map Sg.trip).map fun z => .tup [.str z.1, .str (tx z.2.1), .int (z.2.2 : Int)] := fun l => by
    rw [List.map_map]
    exact List.map_congr_left fun _ _ => rfl
  rw [e, e, h]
theorem sl3 {a b c d : AV} {x : Option AV} : slO (.tup [a, b, c, d]) x none (some 3) = some (.tup [a, b, c]) := by
  simp [slO, HT.sIx, cutG]
  done
theorem okL_tv (n : Nat) : ∀ l : List Sg, SgOk l → okL (n + 2) (l.map Sg.tv) = true
  | [], _ => by simp
  | s :: l, h => by
    have := okL_tv n l fun s' h' => h s' (List.mem_cons_of_mem _ h')
    rw [List.map_cons, okL_cons, this, Sg.tv]
    simp [okA_tx (h s List.mem_cons_self)]
theorem okL_t3 (n : Nat) : ∀ l : List Sg, SgOk l → okL (n + 2) (l.map Sg.t3) = true
  | [], _ => by simp
  | s :: l, h => by
    have := okL_t3 n l fun s' h' => h s' (List.mem_cons_of_mem _ h')
    rw [List.map_cons, okL_cons, this, Sg.t3]
    simp [okA_tx (h s List.mem_cons_self)]
def T2 : M Fl := (asgM (setV 2) (frM (compM [12] (rng1 (consM (callM 2 m__law_roll [] (consM (vM 1) (consM (cM (.int 15)) nilM))) nilM)) (setV 12) yesM (ixM (pkE (callM 0 m__law_pieces [] nilM)) (pkE (callM 2 m__law_roll [] (consM (vM 1) (consM (cM (.int 18)) nilM))))))))
def T3 : M Fl := (asgM (setV 3) (smM (pkE (cM (.str ""))) (consM (frM (compM [14] (itM (vM 2)) (setV 14) yesM (op2 addX (ixM (pkV 14) (pkE (cM (.int 0)))) (cM (.str " "))))) nilM) joinA))
def T4 : M Fl := (asgM (setV 4) (callM 1 m__law_signs [] (consM (vM 2) nilM)))
def T5 : M Fl := (asgM (setV 5) (frM (compM [13] (itM (callM 1 m_cut [] (consM (vM 3) nilM))) (setV 13) yesM (methM "shown" [⟨"Sign", 1, m_Sign_shown, []⟩] (vM 13) nilM))))
def T6 : M Fl := (ifM (LM.orM (cmpM neW (pkV 5) (pkV 4)) (cmpM notNC (pkE (callM 1 m_fault_at [] (consM (vM 3) nilM))) (pkE (cM .non)))) (retM (cM (.bl false))) nxM)
def T7 : M Fl := (asgM (setV 6) (frM (compM [13] (itM (callM 1 m_cut [] (consM (callM 1 m_laid_out [] (consM (callM 1 m_cut [] (consM (vM 3) nilM)) nilM)) nilM))) (setV 13) yesM (slM (pkE (methM "shown" [⟨"Sign", 1, m_Sign_shown, []⟩] (vM 13) nilM)) noPartM (partM (cM (.int 3)))))))
def T8 : M Fl := (ifM (cmpM neW (pkV 6) (pkE (frM (compM [13] (itM (vM 4)) (setV 13) yesM (slM (pkV 13) noPartM (partM (cM (.int 3)))))))) (retM (cM (.bl false))) nxM)
def T9 : M Fl := (asgM (setV 7) (ixM (pkE (frM (lstM (consM (cM (.str "?")) (consM (cM (.str "'ab")) (consM (cM (.str "'a\\z'")) (consM (cM (.str "1234567890123456789")) (consM (cM (.str "$")) (consM (cM (.str "'a\nb'")) nilM))))))))) (pkE (callM 2 m__law_roll [] (consM (vM 1) (consM (cM (.int 6)) nilM))))))
def T10 : M Fl := (parM 8 9 (consM (op2 addX (cM (.int 1)) (smM (pkV 3) (consM (cM (.str "\n")) nilM) cntA)) (consM (op2 subA (op2 addX (cM (.int 1)) (cbM lenA (consM (pkV 3) nilM))) (op2 addX (smM (pkV 3) (consM (cM (.str "\n")) nilM) rfdA) (cM (.int 1)))) nilM)))
def T11 : M Fl := (ifM (LM.orM (cmpM neW (pkE (toldM [("BadSign", "sign")] (callM 1 m_cut [] (consM (op2 addX (vM 3) (vM 7)) nilM)))) (pkE (cM (.str "sign")))) (cmpM neW (pkE (callM 1 m_fault_at [] (consM (op2 addX (vM 3) (vM 7)) nilM))) (pkE (tupM (consM (vM 8) (consM (vM 9) nilM)))))) (retM (cM (.bl false))) nxM)
def T12 : M Fl := (asgM (setV 10) (smM (pkE (cM (.str ""))) (consM (frM (compM [12] (rng1 (consM (callM 2 m__law_roll [] (consM (vM 1) (consM (cM (.int 6)) nilM))) nilM)) (setV 12) yesM (ixM (pkE (cM (.str "a'\\\nB "))) (pkE (callM 2 m__law_roll [] (consM (vM 1) (consM (cM (.int 6)) nilM))))))) nilM) joinA))
def T13 : M Fl := (asgM (setV 11) (callM 1 m_cut [] (consM (callM 1 m_marked [] (consM (vM 10) nilM)) nilM)))
def T14 : M Fl := (ifM (LM.orM (cmpM neW (pkE (cbM lenA (consM (pkV 11) nilM))) (pkE (cM (.int 1)))) (cmpM neW (pkE (methM "shown" [⟨"Sign", 1, m_Sign_shown, []⟩] (ixM (pkV 11) (pkE (cM (.int 0)))) nilM)) (pkE (tupM (consM (cM (.str "quoted")) (consM (vM 10) (consM (cM (.int 1)) (consM (cM (.int 1)) nilM)))))))) (retM (cM (.bl false))) nxM)
def Turn : M Fl := seqM T2 (seqM T3 (seqM T4 (seqM T5 (seqM T6 (seqM T7 (seqM T8 (seqM T9 (seqM T10 (seqM T11 (seqM T12 (seqM T13 T14)))))))))))
theorem b_law_eq : b_law = seqM (LM.forM (itM (callM 2 m__law_rounds [] (consM (vM 0) (consM (cM (.int 1)) nilM)))) (setV 1) Turn) (retM (cM (.bl true))) := rfl

def isHt (t : AH) (hp : AH) : Prop := ∃ d, isD d ∧ hp = d :: t
def l15 (v0 v2 v3 v4 v5 v6 v7 v8 v9 v10 v11 : Option SV) : List (Option SV) := [v0, some (.val (.ref 0)), v2, v3, v4, v5, v6, v7, v8, v9, v10, v11, none, none, none]
def pcs (ps : List Pc) : Option SV := some (.val (.vl (ps.map Pc.av)))
def stx (l : List Nat) : Option SV := some (.val (.str (tx l)))
theorem all_len : Pc.all.length = 18 := rfl
theorem T2_ok (v0 : Option SV) {d : AO} (hd : isD d) : ∃ (ps : List Pc) (d' : AO), ps.length ≤ 14 ∧ isD d' ∧
    T2 ⟨l15 v0 none none none none none none none none none none, [d]⟩ = .ok .nx ⟨l15 v0 (pcs ps) none none none none none none none none none, [d']⟩ := by
  obtain ⟨v, d1, h0, h1, hd1, e1⟩ := roll_ok hd [] 15 (by decide) (by decide)
  obtain ⟨ts, hp', k1, ⟨d', hd', rfl⟩, k3, _⟩ := compM_draw1 (enc := Pc.av) (i := 12) (it := (rng1 (consM (callM 2 m__law_roll [] (consM (vM 1) (consM (cM (.int 15)) nilM))) nilM))) (e := ixM (pkE (callM 0 m__law_pieces [] nilM)) (pkE (callM 2 m__law_roll [] (consM (vM 1) (consM (cM (.int 18)) nilM)))))
    (sl := l15 v0 none none none none none none none none none none) (hp := [d1]) (hp0 := [d]) (isHt []) (fun _ => True) (xs := nats 0 v.toNat) (.inl rfl) (by simp [l15, e1, rngO_int h0 (by omega)]) (by rw [nats_length]; omega) ⟨d1, hd1, rfl⟩ (by
      rintro y hy hp ⟨d, hd, rfl⟩
      obtain ⟨w, d', w0, w1, hd', e⟩ := roll_ok hd [] 18 (by decide) (by decide)
      obtain ⟨p, _, hp⟩ := atI_pick Pc.av Pc.all w0 (by rw [all_len]; exact w1)
      refine ⟨p, [d'], ?_, ⟨d', hd', rfl⟩, trivial⟩
      simp [l15, pieces_ok, e, hp])
  refine ⟨ts, d', by rw [k3, nats_length]; omega, hd', ?_⟩
  rw [T2, asgM_at, frM_at, k1]
  simp [l15, pcs]
theorem sp_tx : (Str.ofString " ") = tx [32] := by kernel_rfl
theorem T_len (p : Pc) : p.T.length ≤ 14 := by cases p <;> decide
theorem T_sm (p : Pc) : ∀ d ∈ p.T, d < 256 := by cases p <;> decide
theorem txt_len : ∀ ps : List Pc, (txt ps).length ≤ 15 * ps.length
  | [] => by simp [txt]
  | p :: ps => by
    have h := txt_len ps
    have hp := T_len p
    have e : txt (p :: ps) = (p.T ++ [32]) ++ txt ps := rfl
    rw [e, List.length_append, List.length_append, List.length_cons]
    simp
    omega
theorem txt_sm (ps : List Pc) : ∀ d ∈ txt ps, d < 256 := by
  intro d hd
  obtain ⟨p, hp, h⟩ := List.mem_flatMap.mp hd
  rcases List.mem_append.mp h with h | h
  · exact T_sm p d h
  · have : d = 32 := by simpa using h
    omega
theorem txt_ok (ps : List Pc) (hl : ps.length ≤ 14) : Ok (txt ps) := ⟨by have := txt_len ps; omega, txt_sm ps⟩
theorem T3_ok (v0 : Option SV) (ps : List Pc) (hl : ps.length ≤ 14) (hp : AH) : T3 ⟨l15 v0 (pcs ps) none none none none none none none none none, hp⟩ = .ok .nx ⟨l15 v0 (pcs ps) (stx (txt ps)) none none none none none none none none, hp⟩ := by
  have k := compM_map1 (enc := Pc.av) (i := 14) (it := itM (vM 2)) (e := op2 addX (ixM (pkV 14) (pkE (cM (.int 0)))) (cM (.str " "))) (sl := l15 v0 (pcs ps) none none none none none none none none none) (hp := hp) (hp0 := hp) (fun p => .str (tx (p.T ++ [32]))) (ts := ps) (.inl rfl) (by simp [l15, pcs]) (by omega)
    (fun p _ => by
      have := T_len p
      have h1 : p.T.length ≤ 16777215 := by omega
      simp [l15, Pc.av, atI, ixN, sp_tx, h1])
  have j := join_ok (ps.map fun p => p.T ++ [32]) (by
    have h := txt_len ps
    have e : txt ps = (ps.map fun p => p.T ++ [32]).flatten := by rw [txt, List.flatMap]
    rw [← List.length_flatten, ← e]
    omega)
  have e2 : (ps.map fun p => p.T ++ [32]).flatten = txt ps := by rw [txt, List.flatMap]
  rw [e2, List.map_map] at j
  have j : joinA (tx []) [.vl (ps.map fun p => .str (tx (p.T ++ [32])))] = some (.str (tx (txt ps))) := j
  rw [T3, asgM_at, smM_at]
  simp only [pkE_at, cM_at, bindR_ok, coP_av, coA_str, isSR_str, consM_at, frM_at, k, nilM_at, frz_lst, smO_str, empty_tx, j, optR_some, setV_at, asgR_ok]
  simp [l15, stx]
theorem T4_ok (v0 : Option SV) (ps : List Pc) (hl : ps.length ≤ 14) (hp : AH) : T4 ⟨l15 v0 (pcs ps) (stx (txt ps)) none none none none none none none none, hp⟩ = .ok .nx ⟨l15 v0 (pcs ps) (stx (txt ps)) (some (.val (.vl ((dues ps [] 1 0).1.map Sg.tv)))) none none none none none none none, hp⟩ := by
  simp [T4, l15, pcs, signs_ok ps hp (by omega)]
theorem hc_cons (d : AO) (t : AH) (T : List Nat) (p r b : Nat) (sg : List AV) : ∃ t', Hc (d :: t) T p r b sg = d :: t' := ⟨_, rfl⟩
def dv (ps : List Pc) : Option SV := some (.val (.vl ((dues ps [] 1 0).1.map Sg.tv)))
theorem shown_at (s : Sg) (x : List (Option SV)) (hp : AH) (e : x[13]? = some (some (.val s.av))) : methM "shown" [⟨"Sign", 1, m_Sign_shown, []⟩] (vM 13) nilM ⟨x, hp⟩ = .ok s.tv ⟨x, hp⟩ := by
  have hs := shown_ok s hp
  have hq : s.av = .ob "Sign" [("kind", .str s.kind), ("said", .str (tx s.said)), ("row", .int (s.row : Int)), ("column", .int (s.col : Int))] := rfl
  rw [hq] at e hs
  simp [e, hs]
theorem T5_ok (v0 : Option SV) (ps : List Pc) (hl : ps.length ≤ 14) (d : AO) (t : AH) : ∃ t', T5 ⟨l15 v0 (pcs ps) (stx (txt ps)) (dv ps) none none none none none none none, d :: t⟩ = .ok .nx ⟨l15 v0 (pcs ps) (stx (txt ps)) (dv ps) (dv ps) none none none none none none, d :: t'⟩ := by
  obtain ⟨p, r, b, hc⟩ := cut_ok (d :: t) (txt ps) (txt_ok ps hl) (cuts_txt ps)
  obtain ⟨t', ht⟩ := hc_cons d t (txt ps) p r b ((dues ps [] 1 0).1.map Sg.av)
  rw [ht] at hc
  have hn := dues_len ps [] 1 0
  rw [List.length_nil] at hn
  refine ⟨t', ?_⟩
  have k := compM_map1 (enc := Sg.av) (i := 13) (it := itM (callM 1 m_cut [] (consM (vM 3) nilM))) (e := methM "shown" [⟨"Sign", 1, m_Sign_shown, []⟩] (vM 13) nilM) (sl := l15 v0 (pcs ps) (stx (txt ps)) (dv ps) none none none none none none none) (hp := d :: t') (hp0 := d :: t) Sg.tv (ts := (dues ps [] 1 0).1) (.inl rfl) (by simp [l15, stx, hc]) (by omega) fun s _ => shown_at s _ _ rfl
  rw [T5, asgM_at, frM_at, k]
  simp [l15, dv]
theorem eqO_refl {x : AV} (h : okA 60 x = true) : eqO (some x) (some x) = some true := by
  rw [eqO_some, h, eqA_refl 60 x h]
  rfl
theorem dues_sgok : ∀ (ps : List Pc) (sg : List Sg) (r k : Nat), SgOk sg → SgOk (dues ps sg r k).1
  | [], _, _, _, h => h
  | p :: ps, sg, r, k, h => dues_sgok ps _ _ _ (newS_ok p h)
theorem dv_ok (ps : List Pc) : okA 60 (.vl ((dues ps [] 1 0).1.map Sg.tv)) = true := by
  rw [okA_vl]
  exact okL_tv 57 _ (dues_sgok ps [] 1 0 fun s hs => by cases hs)
theorem T6_ok (v0 : Option SV) (ps : List Pc) (hl : ps.length ≤ 14) (d : AO) (t : AH) : ∃ t', T6 ⟨l15 v0 (pcs ps) (stx (txt ps)) (dv ps) (dv ps) none none none none none none, d :: t⟩ = .ok .nx ⟨l15 v0 (pcs ps) (stx (txt ps)) (dv ps) (dv ps) none none none none none none, d :: t'⟩ := by
  obtain ⟨p, r, b, sg, hc⟩ := fault_ok (d :: t) (txt ps) (txt_ok ps hl) (cuts_txt ps)
  obtain ⟨t', ht⟩ := hc_cons d t (txt ps) p r b sg
  rw [ht] at hc
  refine ⟨t', ?_⟩
  have e := eqO_refl (dv_ok ps)
  simp [T6, l15, dv, stx, hc, e, -eqO_some]

def d3 (ps : List Pc) : Option SV := some (.val (.vl ((dues ps [] 1 0).1.map Sg.t3)))
theorem T7_ok (v0 : Option SV) (ps : List Pc) (hl : ps.length ≤ 14) (d : AO) (t : AH) : ∃ t', T7 ⟨l15 v0 (pcs ps) (stx (txt ps)) (dv ps) (dv ps) none none none none none none, d :: t⟩ = .ok .nx ⟨l15 v0 (pcs ps) (stx (txt ps)) (dv ps) (dv ps) (d3 ps) none none none none none, d :: t'⟩ := by
  obtain ⟨p, r, b, hc⟩ := cut_ok (d :: t) (txt ps) (txt_ok ps hl) (cuts_txt ps)
  obtain ⟨t1, ht⟩ := hc_cons d t (txt ps) p r b ((dues ps [] 1 0).1.map Sg.av)
  rw [ht] at hc
  obtain ⟨l', e1, e2, e3, e4, e5, e6⟩ := dues_lay ps hl
  have hl2 := laid_ok (dues ps [] 1 0).1 (d :: t1) e4 e3.len fun s hs => by have := e6 s hs; omega
  obtain ⟨p2, r2, b2, hc2⟩ := cut_ok (d :: t1) _ e3 e2
  obtain ⟨t2, ht2⟩ := hc_cons d t1 (layS false 1 (dues ps [] 1 0).1) p2 r2 b2 (l'.map Sg.av)
  simp only [ht2] at hc2
  have hn : l'.length ≤ 28 := by
    have := congrArg List.length e1
    simp at this
    omega
  refine ⟨t2, ?_⟩
  have k := compM_map1 (enc := Sg.av) (i := 13) (it := itM (callM 1 m_cut [] (consM (callM 1 m_laid_out [] (consM (callM 1 m_cut [] (consM (vM 3) nilM)) nilM)) nilM))) (e := slM (pkE (methM "shown" [⟨"Sign", 1, m_Sign_shown, []⟩] (vM 13) nilM)) noPartM (partM (cM (.int 3)))) (sl := l15 v0 (pcs ps) (stx (txt ps)) (dv ps) (dv ps) none none none none none none) (hp := d :: t2) (hp0 := d :: t) Sg.t3 (ts := l') (.inl rfl) (by simp [l15, stx, hc, hl2, hc2]) (by omega) (fun s _ => by
    rw [slM_at, pkE_at, shown_at s _ _ rfl]
    simp only [bindR_ok, noPartM_at, partM_at, cM_at, partR_int, coP_av, Sg.tv, coA_tup, sl3, optR_some]
    rfl)
  rw [t3_map e1] at k
  rw [T7, asgM_at, frM_at, k]
  simp [l15, d3]
theorem d3_ok (ps : List Pc) : okA 60 (.vl ((dues ps [] 1 0).1.map Sg.t3)) = true := by
  rw [okA_vl]
  exact okL_t3 57 _ (dues_sgok ps [] 1 0 fun s hs => by cases hs)
theorem T8_ok (v0 : Option SV) (ps : List Pc) (hl : ps.length ≤ 14) (hp : AH) : T8 ⟨l15 v0 (pcs ps) (stx (txt ps)) (dv ps) (dv ps) (d3 ps) none none none none none, hp⟩ = .ok .nx ⟨l15 v0 (pcs ps) (stx (txt ps)) (dv ps) (dv ps) (d3 ps) none none none none none, hp⟩ := by
  have hn := dues_len ps [] 1 0
  rw [List.length_nil] at hn
  have k := compM_map1 (enc := Sg.tv) (i := 13) (it := itM (vM 4)) (e := slM (pkV 13) noPartM (partM (cM (.int 3)))) (sl := l15 v0 (pcs ps) (stx (txt ps)) (dv ps) (dv ps) (d3 ps) none none none none none) (hp := hp) (hp0 := hp) Sg.t3 (ts := (dues ps [] 1 0).1) (.inl rfl) (by simp [l15, dv]) (by omega) (fun s _ => by
    simp [l15, Sg.tv, HT.sIx, cutG, Sg.t3])
  have e := eqO_refl (d3_ok ps)
  simp only [l15, d3] at k
  simp [T8, l15, k, d3, e, -eqO_some, -compM_at]
def wst : List AV := wrongs.map fun l => .str (tx l)
theorem wst_eq : [AV.str "?", AV.str "'ab", AV.str "'a\\z'", AV.str "1234567890123456789", AV.str "$", AV.str "'a\nb'"] = wst := by kernel_rfl
theorem T9_ok (v0 v2 v3 v4 v5 v6 : Option SV) {d : AO} (hd : isD d) (t : AH) : ∃ W ∈ wrongs, ∃ d', isD d' ∧ T9 ⟨l15 v0 v2 v3 v4 v5 v6 none none none none none, d :: t⟩ = .ok .nx ⟨l15 v0 v2 v3 v4 v5 v6 (stx W) none none none none, d' :: t⟩ := by
  obtain ⟨w, d', w0, w1, hd', e⟩ := roll_ok hd t 6 (by decide) (by decide)
  obtain ⟨W, hW, e2⟩ := atI_pick (fun l => AV.str (tx l)) wrongs w0 w1
  refine ⟨W, hW, d', hd', ?_⟩
  have e3 : (frM (lstM (consM (cM (.str "?")) (consM (cM (.str "'ab")) (consM (cM (.str "'a\\z'")) (consM (cM (.str "1234567890123456789")) (consM (cM (.str "$")) (consM (cM (.str "'a\nb'")) nilM)))))))) = cM (.vl wst) := by
    funext s
    rw [← wst_eq]
    rfl
  rw [T9, e3]
  have e2 : atI wst w = some (.str (tx W)) := e2
  simp [l15, e, e2, stx]
theorem rfd_ok (ps : List Pc) : Txt.rfind (tx (txt ps)) (tx [10]) = (txt ps).length - (trail 0 (txt ps) : Int) - 1 := by
  have := rfind_trail (txt ps)
  omega
def wplace (ps : List Pc) : AV := .tup [.int ((1 + (txt ps).count 10 : Nat) : Int), .int ((trail 0 (txt ps) + 1 : Nat) : Int)]
def ivn (n : Nat) : Option SV := some (.val (.int (n : Int)))
theorem T10_ok (v0 v2 v4 v5 v6 v7 : Option SV) (ps : List Pc) (hl : ps.length ≤ 14) (hp : AH) : T10 ⟨l15 v0 v2 (stx (txt ps)) v4 v5 v6 v7 none none none none, hp⟩ = .ok .nx ⟨l15 v0 v2 (stx (txt ps)) v4 v5 v6 v7 (ivn (1 + (txt ps).count 10)) (ivn (trail 0 (txt ps) + 1)) none none, hp⟩ := by
  have h1 := count_tx (txt ps) 10
  have h2 := rfd_ok ps
  have h3 := txt_len ps
  have h4 : (txt ps).length ≤ 16777216 := by omega
  have e1 : cntA (tx (txt ps)) [.str (tx [10])] = some (.int ((txt ps).count 10 : Nat)) := by
    show some (AV.int (Txt.count (tx (txt ps)) (tx [10]))) = _
    rw [← h1]
    rfl
  have e2 : rfdA (tx (txt ps)) [.str (tx [10])] = some (.int ((txt ps).length - (trail 0 (txt ps) : Int) - 1)) := by
    show some (AV.int (Txt.rfind (tx (txt ps)) (tx [10]))) = _
    rw [h2]
  simp [T10, l15, stx, ivn, nl_tx, e1, e2, h4]
  omega

theorem w_sm : ∀ W ∈ wrongs, (∀ d ∈ W, d < 256) ∧ W.length ≤ 20 := by decide
theorem txw_ok (ps : List Pc) (hl : ps.length ≤ 14) (W : List Nat) (hW : W ∈ wrongs) : Ok (txt ps ++ W) := ⟨by
  have h := txt_len ps
  have := (w_sm W hW).2
  rw [List.length_append]
  omega, fun d hd => by
  rcases List.mem_append.mp hd with h | h
  · exact txt_sm ps d h
  · exact (w_sm W hW).1 d h⟩
theorem T11_ok (v0 v2 v4 v5 v6 : Option SV) (ps : List Pc) (hl : ps.length ≤ 14) (W : List Nat) (hW : W ∈ wrongs) (d : AO) (t : AH) : ∃ t', T11 ⟨l15 v0 v2 (stx (txt ps)) v4 v5 v6 (stx W) (ivn (1 + (txt ps).count 10)) (ivn (trail 0 (txt ps) + 1)) none none, d :: t⟩ = .ok .nx ⟨l15 v0 v2 (stx (txt ps)) v4 v5 v6 (stx W) (ivn (1 + (txt ps).count 10)) (ivn (trail 0 (txt ps) + 1)) none none, d :: t'⟩ := by
  have o := txw_ok ps hl W hW
  have hc := cuts_wrong ps W hW
  obtain ⟨p, r, b, sg, h1⟩ := cut_ok (d :: t) _ o hc
  obtain ⟨t1, ht1⟩ := hc_cons d t (txt ps ++ W) p r b sg
  rw [ht1] at h1
  obtain ⟨p2, r2, b2, sg2, h2⟩ := fault_ok (d :: t1) _ o hc
  obtain ⟨t2, ht2⟩ := hc_cons d t1 (txt ps ++ W) p2 r2 b2 sg2
  rw [ht2] at h2
  have hl1 := txt_len ps
  have hl2 := (w_sm W hW).2
  have h4 : (txt ps).length + W.length ≤ 16777216 := by omega
  have h2 : m_fault_at [.str (tx (txt ps ++ W))] (d :: t1) = .ok (.tup [.int ((1 + (txt ps).count 10 : Nat) : Int), .int ((trail 0 (txt ps) + 1 : Nat) : Int)]) (d :: t2) := h2
  refine ⟨t2, ?_⟩
  simp [T11, l15, stx, ivn, toldM, h1, h2, h4]
def sgns : List Nat := [97, 39, 92, 10, 66, 32]
theorem sgns_tx : (Str.ofString "a'\\\nB ") = tx sgns := by kernel_rfl
theorem at_sgn {v : Int} (h0 : 0 ≤ v) (h1 : v < 6) : ∃ c ∈ sgns, atI sgns v = some c := by
  have : v = 0 ∨ v = 1 ∨ v = 2 ∨ v = 3 ∨ v = 4 ∨ v = 5 := by omega
  rcases this with rfl | rfl | rfl | rfl | rfl | rfl
  · exact ⟨97, by decide, rfl⟩
  · exact ⟨39, by decide, rfl⟩
  · exact ⟨92, by decide, rfl⟩
  · exact ⟨10, by decide, rfl⟩
  · exact ⟨66, by decide, rfl⟩
  · exact ⟨32, by decide, rfl⟩
theorem sgn_sm : ∀ c ∈ sgns, c < 256 := by decide
theorem flat_ones : ∀ cs : List Nat, (cs.map fun c => [c]).flatten = cs
  | [] => rfl
  | c :: cs => by rw [List.map_cons, List.flatten_cons, flat_ones cs]; rfl
theorem T12_ok (v0 v2 v3 v4 v5 v6 v7 v8 v9 : Option SV) {d : AO} (hd : isD d) (t : AH) : ∃ (l : List Nat) (d' : AO), l.length ≤ 5 ∧ (∀ c ∈ l, c < 256) ∧ isD d' ∧
    T12 ⟨l15 v0 v2 v3 v4 v5 v6 v7 v8 v9 none none, d :: t⟩ = .ok .nx ⟨l15 v0 v2 v3 v4 v5 v6 v7 v8 v9 (stx l) none, d' :: t⟩ := by
  obtain ⟨v, d1, h0, h1, hd1, e1⟩ := roll_ok hd t 6 (by decide) (by decide)
  obtain ⟨ts, hp', k1, ⟨d', hd', rfl⟩, k3, k4⟩ := compM_draw1 (enc := fun c : Nat => AV.str (tx [c])) (i := 12) (it := (rng1 (consM (callM 2 m__law_roll [] (consM (vM 1) (consM (cM (.int 6)) nilM))) nilM))) (e := (ixM (pkE (cM (.str "a'\\\nB "))) (pkE (callM 2 m__law_roll [] (consM (vM 1) (consM (cM (.int 6)) nilM))))))
    (sl := l15 v0 v2 v3 v4 v5 v6 v7 v8 v9 none none) (hp := d1 :: t) (hp0 := d :: t) (isHt t) (fun c => c ∈ sgns) (xs := nats 0 v.toNat) (.inl rfl) (by simp [l15, e1, rngO_int h0 (by omega)]) (by rw [nats_length]; omega) ⟨d1, hd1, rfl⟩ (by
      rintro y hy hp ⟨d, hd, rfl⟩
      obtain ⟨w, d', w0, w1, hd', e⟩ := roll_ok hd t 6 (by decide) (by decide)
      obtain ⟨c, hc, e2⟩ := at_sgn w0 w1
      refine ⟨c, d' :: t, ?_, ⟨d', hd', rfl⟩, hc⟩
      have hq : sgns.length ≤ 16777216 := by decide
      simp [l15, e, e2, sgns_tx, hq]
      rfl)
  rw [nats_length] at k3
  refine ⟨ts, d', by omega, fun c hc => sgn_sm c (k4 c hc), hd', ?_⟩
  have j := join_ok (ts.map fun c => [c]) (by
    rw [← List.length_flatten, flat_ones]
    omega)
  rw [flat_ones, List.map_map] at j
  have j : joinA (tx []) [.vl (ts.map fun c => .str (tx [c]))] = some (.str (tx ts)) := j
  rw [T12, asgM_at, smM_at]
  simp only [pkE_at, cM_at, bindR_ok, coP_av, coA_str, isSR_str, consM_at, frM_at, k1, nilM_at, frz_lst, smO_str, empty_tx, j, optR_some, setV_at, asgR_ok]
  simp [l15, stx]
def oneSg (l : List Nat) : List Sg := [⟨"quoted", l, 1, 1⟩]
theorem esc_sm : ∀ l : List Nat, (∀ c ∈ l, c < 256) → ∀ d ∈ esc l, d < 256 := by
  intro l h d hd
  obtain ⟨c, hc, e⟩ := List.mem_flatMap.mp hd
  have := h c hc
  unfold esc1 at e
  split at e
  · have : d = 92 ∨ d = 92 := by simpa using e
    omega
  split at e
  · have : d = 92 ∨ d = 39 := by simpa using e
    omega
  split at e
  · have : d = 92 ∨ d = 110 := by simpa using e
    omega
  · have : d = c := by simpa using e
    omega
theorem mk_ok (l : List Nat) (hl : l.length ≤ 5) (h : ∀ c ∈ l, c < 256) : Ok (39 :: (esc l ++ [39])) := ⟨by
  have := esc_len l
  simp
  omega, fun d hd => by
  have hd : d = 39 ∨ d ∈ esc l ∨ d = 39 := by simpa using hd
  rcases hd with rfl | hd | rfl
  · decide
  · exact esc_sm l h d hd
  · decide⟩
theorem T13_ok (v0 v2 v3 v4 v5 v6 v7 v8 v9 : Option SV) (l : List Nat) (hl : l.length ≤ 5) (h : ∀ c ∈ l, c < 256) (hp : AH) : ∃ hp', T13 ⟨l15 v0 v2 v3 v4 v5 v6 v7 v8 v9 (stx l) none, hp⟩ = .ok .nx ⟨l15 v0 v2 v3 v4 v5 v6 v7 v8 v9 (stx l) (some (.val (.tup ((oneSg l).map Sg.av)))), hp'⟩ := by
  have hm := marked_ok l hp (by omega)
  obtain ⟨p, r, b, hc⟩ := cut_ok hp _ (mk_ok l hl h) (cuts_marked l)
  have hc : m_cut [.str (tx (39 :: (esc l ++ [39])))] hp = .ok (.tup ((oneSg l).map Sg.av)) (Hc hp (39 :: (esc l ++ [39])) p r b ((oneSg l).map Sg.av)) := hc
  generalize Hc hp (39 :: (esc l ++ [39])) p r b ((oneSg l).map Sg.av) = hp' at hc
  exact ⟨hp', by simp [T13, l15, stx, hm, hc]⟩
theorem T14_ok (v0 v2 v3 v4 v5 v6 v7 v8 v9 : Option SV) (l : List Nat) (h : ∀ c ∈ l, c < 256) (hp : AH) : T14 ⟨l15 v0 v2 v3 v4 v5 v6 v7 v8 v9 (stx l) (some (.val (.tup ((oneSg l).map Sg.av)))), hp⟩ = .ok .nx ⟨l15 v0 v2 v3 v4 v5 v6 v7 v8 v9 (stx l) (some (.val (.tup ((oneSg l).map Sg.av)))), hp⟩ := by
  have hs : m_Sign_shown [.ob "Sign" [("kind", .str "quoted"), ("said", .str (tx l)), ("row", .int 1), ("column", .int 1)]] hp = .ok (.tup [.str "quoted", .str (tx l), .int 1, .int 1]) hp := shown_ok ⟨"quoted", l, 1, 1⟩ hp
  have ol : ∀ n, okA n (.str (tx l)) = true := fun n => okA_tx h
  simp [T14, l15, stx, oneSg, Sg.av, atI, ixN, hs, ol]
theorem law_plain : ∀ ns : List Int, ns.length ≤ 63 → (∀ z ∈ ns, Builtin.Int.intBits z ≤ 1048576) → ∃ hp, m_law [.cl (ns.map AV.int)] [] = .ok (.bl true) hp := fun ns _ _ => law_run (k := 13) (body := Turn) b_law_eq ns fun d hd => by
  obtain ⟨ps, d1, hl, hd1, e2⟩ := T2_ok (some (.val (.cl (ns.map AV.int)))) hd
  have e3 := T3_ok (some (.val (.cl (ns.map AV.int)))) ps hl [d1]
  have e4 := T4_ok (some (.val (.cl (ns.map AV.int)))) ps hl [d1]
  obtain ⟨t5, e5⟩ := T5_ok (some (.val (.cl (ns.map AV.int)))) ps hl d1 []
  obtain ⟨t6, e6⟩ := T6_ok (some (.val (.cl (ns.map AV.int)))) ps hl d1 t5
  obtain ⟨t7, e7⟩ := T7_ok (some (.val (.cl (ns.map AV.int)))) ps hl d1 t6
  have e8 := T8_ok (some (.val (.cl (ns.map AV.int)))) ps hl (d1 :: t7)
  obtain ⟨W, hW, d2, hd2, e9⟩ := T9_ok (some (.val (.cl (ns.map AV.int)))) (pcs ps) (stx (txt ps)) (dv ps) (dv ps) (d3 ps) hd1 t7
  have e10 := T10_ok (some (.val (.cl (ns.map AV.int)))) (pcs ps) (dv ps) (dv ps) (d3 ps) (stx W) ps hl (d2 :: t7)
  obtain ⟨t11, e11⟩ := T11_ok (some (.val (.cl (ns.map AV.int)))) (pcs ps) (dv ps) (dv ps) (d3 ps) ps hl W hW d2 t7
  obtain ⟨l, d3', hll, hls, hd3, e12⟩ := T12_ok (some (.val (.cl (ns.map AV.int)))) (pcs ps) (stx (txt ps)) (dv ps) (dv ps) (d3 ps) (stx W) (ivn (1 + (txt ps).count 10)) (ivn (trail 0 (txt ps) + 1)) hd2 t11
  obtain ⟨hp', e13⟩ := T13_ok (some (.val (.cl (ns.map AV.int)))) (pcs ps) (stx (txt ps)) (dv ps) (dv ps) (d3 ps) (stx W) (ivn (1 + (txt ps).count 10)) (ivn (trail 0 (txt ps) + 1)) l hll hls (d3' :: t11)
  have e14 := T14_ok (some (.val (.cl (ns.map AV.int)))) (pcs ps) (stx (txt ps)) (dv ps) (dv ps) (d3 ps) (stx W) (ivn (1 + (txt ps).count 10)) (ivn (trail 0 (txt ps) + 1)) l hls hp'
  have fin : Turn ⟨some (.val (.cl (ns.map AV.int))) :: some (.val (.ref 0)) :: List.replicate 13 none, [d]⟩ = _ :=
    seq_to e2 (seq_to e3 (seq_to e4 (seq_to e5 (seq_to e6 (seq_to e7 (seq_to e8 (seq_to e9 (seq_to e10 (seq_to e11 (seq_to e12 (seq_to e13 e14)))))))))))
  rw [fin]
  exact True.intro

abbrev R : PySem.W.OpenRow := PySem.W.OpenLaw.row PySem.Challenge.rw_deducehall_k03_signs_of_a_text
def tf : List He.Defn := TabNames.names.map (·.1)
abbrev hk : PySem.W.Hook := He.hookX 5 fa fn [] tf ex
def ob (s : PySem.W.SharedT) : He.AlX := He.obsX 5 fa fn [] tf ex (HandSHeadRun.getT s)
theorem ob_eq (s : PySem.W.SharedT) : ob s = hk.obs s.abs := He.obsX_eq (HandSHeadRun.getT_eq s)
def loose : List PySem.Str := (["_wall", "DeduceFault", "BadSign", "BadRule", "BadKind", "BadLayer", "NoSuch", "BadDeed", "BadGround", "BadStore", "Broken", "BadSize", "MARKS", "FIGURES", "SMALL", "GREAT"] : List PySem.Str) ++ (["INNER", "MOST_FIGURES", "Sign", "Cutter", "cut", "fault_at", "laid_out", "marked", "_law_dice", "_law_roll", "_law_rounds", "_law_told", "_law_pieces", "_law_signs"] : List PySem.Str)
theorem run (w : World) : HandSHeadRun.RunEq R (PySem.W.view R.prog [33]) hk ob 6000 loose w := by
  intro os
  kernel_rfl

end My
open PySem PySem.W PySem.Calls PyProof.Rows
theorem PySem.Challenge.cw_deducehall_k03_signs_of_a_text_holds : PySem.Challenge.rw_deducehall_k03_signs_of_a_text.Holds := by
  w_on; o_law
  refine HandSHeadRun.head_any (r := OpenLaw.row PySem.Challenge.rw_deducehall_k03_signs_of_a_text) (q := view (OpenLaw.row PySem.Challenge.rw_deducehall_k03_signs_of_a_text).prog [33]) (H := My.hk) (ob := My.ob) (M := 6000) (loose := My.loose) (d := HandSHeadRun.topDef (OpenLaw.row PySem.Challenge.rw_deducehall_k03_signs_of_a_text).prog 33) (kwd := []) My.ob_eq
    (by kernel_rfl) (fun s => by kernel_rfl) My.run (by kernel_rfl) (by kernel_rfl) (by kernel_rfl) (by rfl) (by first | assumption | decide +kernel) (by decide +kernel) ⟨rfl, rfl, rfl, rfl, rfl, by decide +kernel⟩ ?hw ?hc
  case hw => w_witness2
  case hc =>
    refine LM.walk_m (l := PySem.Challenge.rw_deducehall_k03_signs_of_a_text) (n := 63) (k := 7) (x := "_law_script") (m := My.m_law) rfl (by decide) (by kernel_rfl) ⟨rfl, by decide, by decide⟩ ?F My.law_plain
    intro w mg fa h Y G hmg0
    obtain ⟨K, KX, c⟩ := Y
    have hmg : mg ("law" : PySem.Str) = some (.ref fa) := by
      have e : (HandSHeadRun.topDef (OpenLaw.row PySem.Challenge.rw_deducehall_k03_signs_of_a_text).prog 33).name = ("law" : PySem.Str) := by kernel_rfl
      rw [← e]
      exact hmg0
    have sd : He.SaysD My.fa My.fn K := congrArg (fun z : He.AlT => z.1) c.t
    have ea := hmg.symm.trans (He.glo_ok KX G (sd.fact 56 (f := .glo "law") rfl))
    cases ea
    obtain ⟨fd, F⟩ := sd.def_ 19 (d := My.d_law) rfl
    have b := L2.FunD.bindsA (ps := ["_law_script"]) F fun _ _ _ _ _ _ us hl => match us, hl with | [_], _ => rfl
    exact ⟨K, fd, KX, fun e he => c.empty e.1 (List.mem_map.mpr ⟨e, he, rfl⟩), fun e he => c.out e.1 (List.mem_map.mpr ⟨e, he, rfl⟩), fun e he => c.hd e.1 (List.mem_map.mpr ⟨e, he, rfl⟩), fun s v => b s [v] rfl, fun base _ hN hT => My.w_law ⟨⟨h, KX, G⟩, sd, hT, c.more⟩ F⟩

