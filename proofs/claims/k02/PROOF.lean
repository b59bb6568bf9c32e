import PyProof.Rows.All
import Wide.All
import OpenK.AllK
import Wide.FinOn
import KE.KStateDown
import HandS.ForMost
import HandS.Exc
import HandS.ExcOwn
import HandS.CallSlots
import HandS.TryOnly
import HandS.TryMany
import HandS.WordsExc
import HandS.Defaults
import HandS.Codes
import HandS.IsInst
import HandS.Flow
import HandS.Style
import HandS.TupAny
import HandS.HeadHook1
import HandS.HeadHook2
import HandS.Deep
import HandS.TupLen
import HandS.Text
import HandS.Zip
import HandS.HeadEnd
import HandS.ForExc
import HandS.Head0
import HandS.Head1
import HandS.Head2
import PySem.Challenge.RW_deducehall_k02_terms_made_alike
set_option Elab.async false
set_option linter.all false
set_option maxRecDepth 100000
set_option maxHeartbeats 0
namespace LM
open PySem PySem.Spec PyProof.Rows L2

abbrev St := L2.St
/-! ## values, objects, states -/
inductive AV where
  | non | bl (b : Bool) | int (i : Int) | str (x : Str)
  | tup (xs : List AV) | ct (xs : List AV) | vl (xs : List AV) | cl (xs : List AV) | vd (t : Bool) (kvs : List (AV × AV)) | ob (c : Str) (fs : List (Str × AV))
  | ref (i : Nat)
inductive AO where
  | lst (xs : List AV) | dic (t : Bool) (kvs : List (AV × AV)) | ins (c : Str) (fs : List (Str × AV))
inductive SV where
  | val (v : AV) | own (o : AO)
abbrev AH := List AO
structure SS where
  sl : List (Option SV)
  hp : AH
inductive Res (α : Type) where
  | ok (a : α) (s : SS) | exn (c : Str) (s : SS) | stuck
abbrev M (α : Type) := SS → Res α
inductive Fl where
  | nx | rt (v : AV) | bk | ct
inductive RF where
  | ok (v : AV) (h : AH) | exn (c : Str) (h : AH) | stuck
abbrev MF := List AV → AH → RF
def AO.frz : AO → AV
  | .lst xs => .vl xs
  | .dic t kvs => .vd t kvs
  | .ins c fs => .ob c fs

def kOf : AV → Option Key
  | .int i => some (.inl i)
  | .str x => some (.inr x)
  | _ => none
def tkOf : AV → Option (List Key)
  | .tup xs => xs.mapM kOf
  | _ => none

/-! ## what stands for what -/
mutual
def Emb (K : PySem.W.Frag) (F : Hp) (ρ : List Addr) : AV → V → Prop
  | .non, v => v = .non
  | .bl b, v => v = .bl b
  | .int i, v => v = .int i
  | .str x, v => v = .str x
  | .tup xs, v => ∃ p vs, v = .ref p ∧ F p = some (.tup vs) ∧ EmbL K F ρ xs vs
  | .ct xs, v => ∃ p vs, v = .ref p ∧ SqT K (fun _ => none) p vs ∧ EmbL K F ρ xs vs
  | .vl xs, v => ∃ p vs, v = .ref p ∧ F p = some (.lst vs) ∧ EmbL K F ρ xs vs
  | .cl xs, v => ∃ p vs, v = .ref p ∧ SqL K F p vs ∧ EmbL K F ρ xs vs
  | .vd t kvs, v => ∃ p, v = .ref p ∧ ((t = false ∧ ∃ kv, F p = some (.dK kv) ∧ EmbK K F ρ kvs kv) ∨ (t = true ∧ ∃ kv, F p = some (.dT kv) ∧ EmbT K F ρ kvs kv))
  | .ob c fs, v => ∃ p dx fs', v = .ref p ∧ F p = some (.ins (He.ga K c) dx fs') ∧ EmbF K F ρ fs fs'
  | .ref i, v => ∃ p, v = .ref p ∧ ρ[i]? = some p
def EmbL (K : PySem.W.Frag) (F : Hp) (ρ : List Addr) : List AV → List V → Prop
  | [], vs => vs = []
  | x :: xs, vs => ∃ v r, vs = v :: r ∧ Emb K F ρ x v ∧ EmbL K F ρ xs r
def EmbK (K : PySem.W.Frag) (F : Hp) (ρ : List Addr) : List (AV × AV) → List (Key × V) → Prop
  | [], kv => kv = []
  | (k, x) :: r, kv => ∃ k' v r', kv = (k', v) :: r' ∧ kOf k = some k' ∧ Emb K F ρ x v ∧ EmbK K F ρ r r'
def EmbT (K : PySem.W.Frag) (F : Hp) (ρ : List Addr) : List (AV × AV) → List (List Key × V) → Prop
  | [], kv => kv = []
  | (k, x) :: r, kv => ∃ k' v r', kv = (k', v) :: r' ∧ tkOf k = some k' ∧ Emb K F ρ x v ∧ EmbT K F ρ r r'
def EmbF (K : PySem.W.Frag) (F : Hp) (ρ : List Addr) : List (Str × AV) → List (Str × V) → Prop
  | [], kv => kv = []
  | (k, x) :: r, kv => ∃ v r', kv = (k, v) :: r' ∧ Emb K F ρ x v ∧ EmbF K F ρ r r'
end
def EmbO (K : PySem.W.Frag) (F : Hp) (ρ : List Addr) (H : Hp) (p : Addr) : AO → Prop
  | .lst xs => ∃ vs, H p = some (.lst vs) ∧ EmbL K F ρ xs vs
  | .dic t kvs => (t = false ∧ ∃ kv, H p = some (.dK kv) ∧ EmbK K F ρ kvs kv) ∨ (t = true ∧ ∃ kv, H p = some (.dT kv) ∧ EmbT K F ρ kvs kv)
  | .ins c fs => ∃ dx fs', H p = some (.ins (He.ga K c) dx fs') ∧ EmbF K F ρ fs fs'

def isDic : HO → Bool
  | .dK _ => true
  | .dT _ => true
  | _ => false
/-- as it was frozen, or a dict locked by a loop -/
def RdD (H : Hp) (b : Addr) (o : HO) : Prop := H b = some o ∨ (isDic o = true ∧ ∃ ob, H b = some (.frz ob o))

structure Rep (K : PySem.W.Frag) (U F : Hp) (ρ : List Addr) (S : SS) (σ : St) (H : Hp) : Prop where
  len : σ.length = S.sl.length
  fro : ∀ b o, F b = some o → RdD H b o
  unt : ∀ b o, U b = some o → H b = some o
  rln : ρ.length = S.hp.length
  rnd : ρ.Nodup
  rF : ∀ p ∈ ρ, F p = none ∧ U p = none
  FU : ∀ b o, F b = some o → U b = none ∨ ∃ ob, U b = some (.frz ob o)
  hp : ∀ (i : Nat) (o : AO) (p : Addr), S.hp[i]? = some o → ρ[i]? = some p → EmbO K F ρ H p o
  val : ∀ (i : Nat) (a : AV), S.sl[i]? = some (some (.val a)) → ∃ v, σ[i]? = some (some v) ∧ Emb K F ρ a v
  own : ∀ (i : Nat) (o : AO), S.sl[i]? = some (some (.own o)) → ∃ p, σ[i]? = some (some (.ref p)) ∧ EmbO K F ρ H p o ∧ F p = none ∧ U p = none ∧ p ∉ ρ ∧
    ∀ (j : Nat) (o' : AO), S.sl[j]? = some (some (.own o')) → σ[j]? = some (some (.ref p)) → j = i

/-! ### growing -/
section
variable {K : PySem.W.Frag} {F F' F'' H H' : Hp} {ρ ρ' ρ'' : List Addr}
theorem pre_get {i : Nat} {p : Addr} (h : ρ <+: ρ') (e : ρ[i]? = some p) : ρ'[i]? = some p := by
  obtain ⟨t, rfl⟩ := h
  rw [List.getElem?_append_left (List.getElem?_eq_some_iff.mp e).1]
  exact e
theorem same_seqT {a : Addr} {xs : List V} (e : Same F F') (h : SqT K F a xs) : SqT K F' a xs := by
  rcases h with (h | ⟨o, h⟩) | h
  · exact .inl (.inl (e _ _ h))
  · exact .inl (.inr ⟨o, e _ _ h⟩)
  · exact .inr h
mutual
theorem Emb.mono (s : Same F F') (q : ρ <+: ρ') : ∀ (a : AV) (v : V), Emb K F ρ a v → Emb K F' ρ' a v
  | .non, _, h => by simpa only [Emb] using h
  | .bl _, _, h => by simpa only [Emb] using h
  | .int _, _, h => by simpa only [Emb] using h
  | .str _, _, h => by simpa only [Emb] using h
  | .tup xs, v, h => by
    simp only [Emb] at h ⊢
    obtain ⟨p, vs, e, h1, h2⟩ := h
    exact ⟨p, vs, e, s _ _ h1, EmbL.mono s q xs vs h2⟩
  | .ct xs, v, h => by
    simp only [Emb] at h ⊢
    obtain ⟨p, vs, e, h1, h2⟩ := h
    exact ⟨p, vs, e, h1, EmbL.mono s q xs vs h2⟩
  | .vl xs, v, h => by
    simp only [Emb] at h ⊢
    obtain ⟨p, vs, e, h1, h2⟩ := h
    exact ⟨p, vs, e, s _ _ h1, EmbL.mono s q xs vs h2⟩
  | .cl xs, v, h => by
    simp only [Emb] at h ⊢
    obtain ⟨p, vs, e, h1, h2⟩ := h
    exact ⟨p, vs, e, s.seq h1, EmbL.mono s q xs vs h2⟩
  | .vd t kvs, v, h => by
    simp only [Emb] at h ⊢
    obtain ⟨p, e, ⟨e1, kv, h1, h2⟩ | ⟨e1, kv, h1, h2⟩⟩ := h
    · exact ⟨p, e, .inl ⟨e1, kv, s _ _ h1, EmbK.mono s q kvs kv h2⟩⟩
    · exact ⟨p, e, .inr ⟨e1, kv, s _ _ h1, EmbT.mono s q kvs kv h2⟩⟩
  | .ob c fs, v, h => by
    simp only [Emb] at h ⊢
    obtain ⟨p, dx, fs', e, h1, h2⟩ := h
    exact ⟨p, dx, fs', e, s _ _ h1, EmbF.mono s q fs fs' h2⟩
  | .ref i, v, h => by
    simp only [Emb] at h ⊢
    obtain ⟨p, e, h1⟩ := h
    exact ⟨p, e, pre_get q h1⟩
theorem EmbL.mono (s : Same F F') (q : ρ <+: ρ') : ∀ (a : List AV) (v : List V), EmbL K F ρ a v → EmbL K F' ρ' a v
  | [], _, h => by simpa only [EmbL] using h
  | x :: xs, _, h => by
    simp only [EmbL] at h ⊢
    obtain ⟨v, r, e, h1, h2⟩ := h
    exact ⟨v, r, e, Emb.mono s q x v h1, EmbL.mono s q xs r h2⟩
theorem EmbK.mono (s : Same F F') (q : ρ <+: ρ') : ∀ (a : List (AV × AV)) (v : List (Key × V)), EmbK K F ρ a v → EmbK K F' ρ' a v
  | [], _, h => by simpa only [EmbK] using h
  | (k, x) :: xs, _, h => by
    simp only [EmbK] at h ⊢
    obtain ⟨k', v, r, e, e2, h1, h2⟩ := h
    exact ⟨k', v, r, e, e2, Emb.mono s q x v h1, EmbK.mono s q xs r h2⟩
theorem EmbT.mono (s : Same F F') (q : ρ <+: ρ') : ∀ (a : List (AV × AV)) (v : List (List Key × V)), EmbT K F ρ a v → EmbT K F' ρ' a v
  | [], _, h => by simpa only [EmbT] using h
  | (k, x) :: xs, _, h => by
    simp only [EmbT] at h ⊢
    obtain ⟨k', v, r, e, e2, h1, h2⟩ := h
    exact ⟨k', v, r, e, e2, Emb.mono s q x v h1, EmbT.mono s q xs r h2⟩
theorem EmbF.mono (s : Same F F') (q : ρ <+: ρ') : ∀ (a : List (Str × AV)) (v : List (Str × V)), EmbF K F ρ a v → EmbF K F' ρ' a v
  | [], _, h => by simpa only [EmbF] using h
  | (k, x) :: xs, _, h => by
    simp only [EmbF] at h ⊢
    obtain ⟨v, r, e, h1, h2⟩ := h
    exact ⟨v, r, e, Emb.mono s q x v h1, EmbF.mono s q xs r h2⟩
end
theorem EmbO.mono {p : Addr} {o : AO} (s : Same F F') (q : ρ <+: ρ') (e : H' p = H p) (h : EmbO K F ρ H p o) : EmbO K F' ρ' H' p o := by
  cases o with
  | lst xs =>
    obtain ⟨vs, h1, h2⟩ := h
    exact ⟨vs, e.trans h1, h2.mono s q⟩
  | dic t kvs =>
    rcases h with ⟨e1, kv, h1, h2⟩ | ⟨e1, kv, h1, h2⟩
    · exact .inl ⟨e1, kv, e.trans h1, h2.mono s q⟩
    · exact .inr ⟨e1, kv, e.trans h1, h2.mono s q⟩
  | ins c fs =>
    obtain ⟨dx, fs', h1, h2⟩ := h
    exact ⟨dx, fs', e.trans h1, h2.mono s q⟩
theorem EmbO.some {p : Addr} {o : AO} (h : EmbO K F ρ H p o) : ∃ u, H p = some u := by
  cases o with
  | lst xs => obtain ⟨vs, h1, _⟩ := h; exact ⟨_, h1⟩
  | dic t kvs =>
    rcases h with ⟨_, kv, h1, _⟩ | ⟨_, kv, h1, _⟩
    · exact ⟨_, h1⟩
    · exact ⟨_, h1⟩
  | ins c fs => obtain ⟨dx, fs', h1, _⟩ := h; exact ⟨_, h1⟩
/-- frozen -/
theorem EmbO.frz {p : Addr} {o : AO} (h : EmbO K F ρ F p o) : Emb K F ρ o.frz (.ref p) := by
  cases o with
  | lst xs =>
    obtain ⟨vs, h1, h2⟩ := h
    simp only [AO.frz, Emb]
    exact ⟨p, vs, rfl, h1, h2⟩
  | dic t kvs =>
    simp only [AO.frz, Emb]
    exact ⟨p, rfl, h⟩
  | ins c fs =>
    obtain ⟨dx, fs', h1, h2⟩ := h
    simp only [AO.frz, Emb]
    exact ⟨p, dx, fs', rfl, h1, h2⟩
end
end LM

namespace LM
open PySem PySem.Spec PyProof.Rows L2
/-! ## what stays -/
theorem nodup_ixA {α : Type} {N : List α} (hN : N.Nodup) {i j : Nat} {x : α} (a : N[i]? = some x) (b : N[j]? = some x) : i = j := by
  obtain ⟨h1, e1⟩ := List.getElem?_eq_some_iff.mp a
  obtain ⟨h2, e2⟩ := List.getElem?_eq_some_iff.mp b
  have h := List.pairwise_iff_getElem.mp hN
  rcases Nat.lt_trichotomy i j with l | l | l
  · exact absurd (e1.trans e2.symm) (h i j h1 h2 l)
  · exact l
  · exact absurd (e2.trans e1.symm) (h j i h2 h1 l)
section
variable {K : PySem.W.Frag} {U F F' H H' : Hp} {ρ ρ' : List Addr} {S S1 : SS} {σ σ' : St}
theorem Rep.idx (R : Rep K U F ρ S σ H) {i : Nat} {p : Addr} (e : ρ[i]? = some p) : ∃ o, S.hp[i]? = some o := by
  have h := (List.getElem?_eq_some_iff.mp e).1
  rw [R.rln] at h
  exact ⟨_, List.getElem?_eq_getElem h⟩
theorem Rep.rH (R : Rep K U F ρ S σ H) {p : Addr} (hp : p ∈ ρ) : ∃ o, H p = some o := by
  obtain ⟨i, h, e⟩ := List.mem_iff_getElem.mp hp
  have e2 : ρ[i]? = some p := by rw [List.getElem?_eq_getElem h, e]
  obtain ⟨o, eo⟩ := R.idx e2
  exact (R.hp i o p eo e2).some
theorem Rep.new (R : Rep K U F ρ S σ H) {p : Addr} (h : H p = none) : F p = none ∧ U p = none ∧ p ∉ ρ ∧ ∀ (j : Nat) (o' : AO), S.sl[j]? = some (some (.own o')) → σ[j]? ≠ some (some (.ref p)) := by
  refine ⟨?_, ?_, fun hm => ?_, fun j o' e q => ?_⟩
  · cases e : F p with
    | none => rfl
    | some o =>
      rcases R.fro p o e with z | ⟨_, ob, z⟩
      · rw [h] at z; cases z
      · rw [h] at z; cases z
  · cases e : U p with
    | none => rfl
    | some o => have z := R.unt p o e; rw [h] at z; cases z
  · obtain ⟨o, e⟩ := R.rH hm
    rw [h] at e; cases e
  · obtain ⟨p', e1, e2, _⟩ := R.own j o' e
    rw [e1] at q
    cases q
    obtain ⟨u, e3⟩ := e2.some
    rw [h] at e3; cases e3
/-- an object that nobody knows yet -/
def Loose (K : PySem.W.Frag) (U F : Hp) (ρ : List Addr) (S : SS) (σ : St) (H : Hp) (p : Addr) (o : AO) : Prop :=
  EmbO K F ρ H p o ∧ F p = none ∧ U p = none ∧ p ∉ ρ ∧ ∀ (j : Nat) (o' : AO), S.sl[j]? = some (some (.own o')) → σ[j]? ≠ some (some (.ref p))
theorem same_new {p : Addr} {u : HO} (h : F p = none) : Same F (upd F p u) := fun b o e => by
  rw [upd_ne (ne_of_none e h)]; exact e
/-- the heap changed at p alone, which is not F's, not U's, no other's -/
theorem Rep.at_ {p : Addr} {u : HO} (R : Rep K U F ρ S σ H) (hF : F p = none) (hU : U p = none) (hρ : p ∉ ρ) (ho : ∀ (j : Nat) (o' : AO), S.sl[j]? = some (some (.own o')) → σ[j]? ≠ some (some (.ref p))) : Rep K U F ρ S σ (upd H p u) := by
  refine ⟨R.len, fun b o e => ?_, fun b o e => ?_, R.rln, R.rnd, R.rF, R.FU, fun i o q e1 e2 => ?_, R.val, fun i o e => ?_⟩
  · have ne := ne_of_none e hF
    unfold RdD; rw [upd_ne ne]; exact R.fro b o e
  · rw [upd_ne (ne_of_none e hU)]; exact R.unt b o e
  · have ne : q ≠ p := fun z => hρ (z ▸ List.mem_of_getElem? e2)
    exact (R.hp i o q e1 e2).mono (Same.refl _) (List.prefix_refl _) (upd_ne ne)
  · obtain ⟨q, e1, e2, e3⟩ := R.own i o e
    have ne : q ≠ p := fun z => ho i o e (z ▸ e1)
    exact ⟨q, e1, e2.mono (Same.refl _) (List.prefix_refl _) (upd_ne ne), e3⟩
theorem Rep.laid {p : Addr} {u : HO} (R : Rep K U F ρ S σ H) (h : H p = none) : Rep K U F ρ S σ (upd H p u) :=
  let ⟨a, b, c, d⟩ := R.new h
  R.at_ a b c d
/-- a loose object is frozen -/
theorem Rep.freeze {p : Addr} {o : AO} {u : HO} (R : Rep K U F ρ S σ H) (L : Loose K U F ρ S σ H p o) (hu : H p = some u) : Rep K U (upd F p u) ρ S σ H ∧ Emb K (upd F p u) ρ o.frz (.ref p) ∧ Same F (upd F p u) := by
  obtain ⟨l1, l2, l3, l4, l5⟩ := L
  have sm : Same F (upd F p u) := same_new l2
  refine ⟨⟨R.len, fun b w e => ?_, R.unt, R.rln, R.rnd, fun q hq => ?_, fun b w e => ?_, fun i o q e1 e2 => (R.hp i o q e1 e2).mono sm (List.prefix_refl _) rfl, fun i a e => ?_, fun i o' e => ?_⟩, ?_, sm⟩
  · by_cases hb : b = p
    · subst hb; rw [upd_same] at e; cases e; exact .inl hu
    · rw [upd_ne hb] at e; exact R.fro b w e
  · have ne : q ≠ p := fun z => l4 (z ▸ hq)
    rw [upd_ne ne]; exact R.rF q hq
  · by_cases hb : b = p
    · subst hb; exact .inl l3
    · rw [upd_ne hb] at e; exact R.FU b w e
  · obtain ⟨v, e1, e2⟩ := R.val i a e
    exact ⟨v, e1, e2.mono sm (List.prefix_refl _)⟩
  · obtain ⟨q, e1, e2, e3, e4⟩ := R.own i o' e
    have ne : q ≠ p := fun z => l5 i o' e (z ▸ e1)
    exact ⟨q, e1, e2.mono sm (List.prefix_refl _) rfl, by rw [upd_ne ne]; exact e3, e4⟩
  · exact EmbO.frz (F := upd F p u) (l1.mono (H' := upd F p u) sm (List.prefix_refl _) (by rw [upd_same, hu]))
theorem Loose.some {p : Addr} {o : AO} (L : Loose K U F ρ S σ H p o) : ∃ u, H p = some u := L.1.some
/-- a loose object comes to the heap -/
theorem Rep.toHeap {p : Addr} {o : AO} (R : Rep K U F ρ S σ H) (L : Loose K U F ρ S σ H p o) : Rep K U F (ρ ++ [p]) { S with hp := S.hp ++ [o] } σ H ∧ Emb K F (ρ ++ [p]) (.ref S.hp.length) (.ref p) ∧ ρ <+: ρ ++ [p] := by
  obtain ⟨l1, l2, l3, l4, l5⟩ := L
  have pr : ρ <+: ρ ++ [p] := List.prefix_append _ _
  have sm := Same.refl F
  refine ⟨⟨R.len, R.fro, R.unt, by simp [R.rln], ?_, fun q hq => ?_, R.FU, fun i o' q e1 e2 => ?_, fun i a e => ?_, fun i o' e => ?_⟩, ?_, pr⟩
  · rw [List.nodup_append]
    refine ⟨R.rnd, by simp, fun a ha b hb => ?_⟩
    have : b = p := by simpa using hb
    subst this
    exact fun z => l4 (z ▸ ha)
  · rcases List.mem_append.mp hq with h | h
    · exact R.rF q h
    · have : q = p := by simpa using h
      subst this; exact ⟨l2, l3⟩
  · by_cases hi : i < ρ.length
    · rw [List.getElem?_append_left hi] at e2
      rw [List.getElem?_append_left (by rw [← R.rln]; exact hi)] at e1
      exact (R.hp i o' q e1 e2).mono sm pr rfl
    · have hi2 : i = ρ.length := by
        have := (List.getElem?_eq_some_iff.mp e2).1
        simp at this; omega
      subst hi2
      rw [List.getElem?_append_right (Nat.le_refl _)] at e2
      rw [R.rln, List.getElem?_append_right (Nat.le_refl _)] at e1
      simp at e1 e2
      subst e1; subst e2
      exact l1.mono sm pr rfl
  · obtain ⟨v, e1, e2⟩ := R.val i a e
    exact ⟨v, e1, e2.mono sm pr⟩
  · obtain ⟨q, e1, e2, e3, e4, e5, e6⟩ := R.own i o' e
    refine ⟨q, e1, e2.mono sm pr rfl, e3, e4, fun hm => ?_, e6⟩
    rcases List.mem_append.mp hm with h | h
    · exact e5 h
    · have : q = p := by simpa using h
      subst this; exact l5 i o' e e1
  · simp only [Emb]
    refine ⟨p, rfl, ?_⟩
    rw [← R.rln, List.getElem?_append_right (Nat.le_refl _)]
    simp
/-- a slot gets a value -/
theorem Rep.set {i : Nat} {a : AV} {v : V} (R : Rep K U F ρ S σ H) (e : Emb K F ρ a v) : Rep K U F ρ { S with sl := S.sl.set i (some (.val a)) } (σ.set i (some v)) H := by
  have hl := R.len
  refine ⟨by simp [hl], R.fro, R.unt, R.rln, R.rnd, R.rF, R.FU, R.hp, fun j b q => ?_, fun j o q => ?_⟩
  · by_cases hj : i = j
    · subst hj
      have hi : i < S.sl.length := by
        by_cases h : i < S.sl.length
        · exact h
        · rw [List.getElem?_eq_none (by simpa using h)] at q; cases q
      rw [List.getElem?_set_self hi] at q
      cases q
      exact ⟨v, by rw [List.getElem?_set_self (by rw [hl]; exact hi)], e⟩
    · rw [List.getElem?_set_ne hj] at q ⊢
      exact R.val j b q
  · by_cases hj : i = j
    · subst hj
      have hi : i < S.sl.length := by
        by_cases h : i < S.sl.length
        · exact h
        · rw [List.getElem?_eq_none (by simpa using h)] at q; cases q
      rw [List.getElem?_set_self hi] at q
      cases q
    · rw [List.getElem?_set_ne hj] at q ⊢
      obtain ⟨p, e1, e2, e3, e4, e5, e6⟩ := R.own j o q
      refine ⟨p, e1, e2, e3, e4, e5, fun k o' q' z => ?_⟩
      by_cases hk : i = k
      · subst hk
        have hi : i < S.sl.length := by
          by_cases h : i < S.sl.length
          · exact h
          · rw [List.getElem?_eq_none (by simpa using h)] at q'; cases q'
        rw [List.getElem?_set_self hi] at q'
        cases q'
      · rw [List.getElem?_set_ne hk] at q' z
        exact e6 k o' q' z
/-- a slot gets a loose object of its own -/
theorem Rep.setOwn {i : Nat} {o : AO} {p : Addr} (R : Rep K U F ρ S σ H) (L : Loose K U F ρ S σ H p o) : Rep K U F ρ { S with sl := S.sl.set i (some (.own o)) } (σ.set i (some (.ref p))) H := by
  obtain ⟨l1, l2, l3, l4, l5⟩ := L
  have hl := R.len
  refine ⟨by simp [hl], R.fro, R.unt, R.rln, R.rnd, R.rF, R.FU, R.hp, fun j b q => ?_, fun j o' q => ?_⟩
  · by_cases hj : i = j
    · subst hj
      have hi : i < S.sl.length := by
        by_cases h : i < S.sl.length
        · exact h
        · rw [List.getElem?_eq_none (by simpa using h)] at q; cases q
      rw [List.getElem?_set_self hi] at q
      cases q
    · rw [List.getElem?_set_ne hj] at q ⊢
      exact R.val j b q
  · by_cases hj : i = j
    · subst hj
      have hi : i < S.sl.length := by
        by_cases h : i < S.sl.length
        · exact h
        · rw [List.getElem?_eq_none (by simpa using h)] at q; cases q
      rw [List.getElem?_set_self hi] at q
      cases q
      refine ⟨p, by rw [List.getElem?_set_self (by rw [hl]; exact hi)], l1, l2, l3, l4, fun k o' q' z => ?_⟩
      by_cases hk : i = k
      · exact hk.symm
      · rw [List.getElem?_set_ne hk] at q' z
        exact absurd z (l5 k o' q')
    · rw [List.getElem?_set_ne hj] at q ⊢
      obtain ⟨p', e1, e2, e3, e4, e5, e6⟩ := R.own j o' q
      refine ⟨p', e1, e2, e3, e4, e5, fun k o'' q' z => ?_⟩
      by_cases hk : i = k
      · subst hk
        have hi : i < S.sl.length := by
          by_cases h : i < S.sl.length
          · exact h
          · rw [List.getElem?_eq_none (by simpa using h)] at q'; cases q'
        rw [List.getElem?_set_self (by rw [hl]; exact hi)] at z
        cases z
        exact absurd e1 (l5 j o' q)
      · rw [List.getElem?_set_ne hk] at q' z
        exact e6 k o'' q' z
/-- a slot's own object as a loose one, the slot forgotten -/
theorem Rep.loosen {i : Nat} {o : AO} (R : Rep K U F ρ S σ H) (e : S.sl[i]? = some (some (.own o))) : ∃ p, σ[i]? = some (some (.ref p)) ∧ Rep K U F ρ { S with sl := S.sl.set i none } σ H ∧ Loose K U F ρ { S with sl := S.sl.set i none } σ H p o := by
  obtain ⟨p, e1, e2, e3, e4, e5, e6⟩ := R.own i o e
  have hi : i < S.sl.length := (List.getElem?_eq_some_iff.mp e).1
  have back : ∀ {j : Nat} {x : SV}, (S.sl.set i none)[j]? = some (some x) → S.sl[j]? = some (some x) ∧ i ≠ j := fun {j x} q => by
    by_cases hj : i = j
    · subst hj; rw [List.getElem?_set_self hi] at q; cases q
    · rw [List.getElem?_set_ne hj] at q; exact ⟨q, hj⟩
  refine ⟨p, e1, ⟨by simp [R.len], R.fro, R.unt, R.rln, R.rnd, R.rF, R.FU, R.hp, fun j b q => R.val j b (back q).1, fun j o' q => ?_⟩, e2, e3, e4, e5, fun j o' q z => ?_⟩
  · obtain ⟨p', f1, f2, f3, f4, f5, f6⟩ := R.own j o' (back q).1
    exact ⟨p', f1, f2, f3, f4, f5, fun k o'' q' z => f6 k o'' (back q').1 z⟩
  · exact (back q).2 (e6 j o' (back q).1 z).symm
/-- forget a slot -/
theorem Rep.forget {i : Nat} (R : Rep K U F ρ S σ H) : Rep K U F ρ { S with sl := S.sl.set i none } σ H := by
  have back : ∀ {j : Nat} {x : SV}, (S.sl.set i none)[j]? = some (some x) → S.sl[j]? = some (some x) := fun {j x} q => by
    by_cases hj : i = j
    · subst hj
      by_cases hi : i < S.sl.length
      · rw [List.getElem?_set_self hi] at q; cases q
      · rw [List.getElem?_eq_none (by simpa using hi)] at q; cases q
    · rw [List.getElem?_set_ne hj] at q; exact q
  refine ⟨by simp [R.len], R.fro, R.unt, R.rln, R.rnd, R.rF, R.FU, R.hp, fun j b q => R.val j b (back q), fun j o' q => ?_⟩
  obtain ⟨p', f1, f2, f3, f4, f5, f6⟩ := R.own j o' (back q)
  exact ⟨p', f1, f2, f3, f4, f5, fun k o'' q' z => f6 k o'' (back q') z⟩
/-- slots put back: σ the same at i -/
theorem Rep.reset {i : Nat} {a : AV} {v : V} (R : Rep K U F ρ S σ H) (e : Emb K F ρ a v) (hv : σ[i]? = some (some v)) : Rep K U F ρ { S with sl := S.sl.set i (some (.val a)) } σ H := by
  have h := R.set (i := i) e
  have : σ.set i (some v) = σ := by
    apply List.ext_getElem?
    intro j
    by_cases hj : i = j
    · subst hj
      have hi : i < σ.length := (List.getElem?_eq_some_iff.mp hv).1
      rw [List.getElem?_set_self hi, hv]
    · rw [List.getElem?_set_ne hj]
  rwa [this] at h
/-- an own slot is frozen where it stands -/
theorem Rep.frzSlot {i : Nat} {o : AO} (R : Rep K U F ρ S σ H) (e : S.sl[i]? = some (some (.own o))) : ∃ p u, σ[i]? = some (some (.ref p)) ∧ Same F (upd F p u) ∧ Rep K U (upd F p u) ρ { S with sl := S.sl.set i (some (.val o.frz)) } σ H ∧ Emb K (upd F p u) ρ o.frz (.ref p) := by
  obtain ⟨p, hσ, R1, L⟩ := R.loosen e
  obtain ⟨u, hu⟩ := L.some
  obtain ⟨R2, em, sm⟩ := R1.freeze L hu
  have R3 := R2.reset (i := i) em hσ
  refine ⟨p, u, hσ, sm, ?_, em⟩
  have : ({ S with sl := (S.sl.set i none).set i (some (.val o.frz)) } : SS) = { S with sl := S.sl.set i (some (.val o.frz)) } := by
    rw [List.set_set]
  rw [← this]
  exact R3
/-- an object of the heap is written -/
theorem Rep.write {i : Nat} {o : AO} {p : Addr} {u : HO} (R : Rep K U F ρ S σ H) (hi : ρ[i]? = some p) (h : EmbO K F ρ (upd H p u) p o) : Rep K U F ρ { S with hp := S.hp.set i o } σ (upd H p u) := by
  have hm : p ∈ ρ := List.mem_of_getElem? hi
  obtain ⟨hF, hU⟩ := R.rF p hm
  refine ⟨R.len, fun b w e => ?_, fun b w e => ?_, by simp [R.rln], R.rnd, R.rF, R.FU, fun j o' q e1 e2 => ?_, R.val, fun j o' e => ?_⟩
  · have ne := ne_of_none e hF
    unfold RdD; rw [upd_ne ne]; exact R.fro b w e
  · rw [upd_ne (ne_of_none e hU)]; exact R.unt b w e
  · by_cases hj : i = j
    · subst hj
      rw [hi] at e2; cases e2
      have hlt : i < S.hp.length := by rw [← R.rln]; exact (List.getElem?_eq_some_iff.mp hi).1
      rw [List.getElem?_set_self hlt] at e1
      cases e1
      exact h
    · rw [List.getElem?_set_ne hj] at e1
      have ne : q ≠ p := fun z => by
        subst z
        have h1 := (List.getElem?_eq_some_iff.mp hi)
        have h2 := (List.getElem?_eq_some_iff.mp e2)
        exact hj (nodup_ixA R.rnd hi e2)
      exact (R.hp j o' q e1 e2).mono (Same.refl _) (List.prefix_refl _) (upd_ne ne)
  · obtain ⟨q, f1, f2, f3, f4, f5, f6⟩ := R.own j o' e
    have ne : q ≠ p := fun z => f5 (z ▸ hm)
    exact ⟨q, f1, f2.mono (Same.refl _) (List.prefix_refl _) (upd_ne ne), f3, f4, f5, f6⟩
/-- an own object is written -/
theorem Rep.writeOwn {i : Nat} {o o' : AO} {p : Addr} {u : HO} (R : Rep K U F ρ S σ H) (e : S.sl[i]? = some (some (.own o))) (hσ : σ[i]? = some (some (.ref p))) (h : EmbO K F ρ (upd H p u) p o') : Rep K U F ρ { S with sl := S.sl.set i (some (.own o')) } σ (upd H p u) := by
  obtain ⟨p', hσ', R1, l1, l2, l3, l4, l5⟩ := R.loosen e
  rw [hσ] at hσ'; cases hσ'
  have R2 := R1.at_ (u := u) l2 l3 l4 l5
  have R3 := R2.setOwn (i := i) (o := o') (p := p) ⟨h, l2, l3, l4, l5⟩
  have e1 : σ.set i (some (.ref p)) = σ := by
    apply List.ext_getElem?
    intro j
    by_cases hj : i = j
    · subst hj
      have hi : i < σ.length := (List.getElem?_eq_some_iff.mp hσ).1
      rw [List.getElem?_set_self hi, hσ]
    · rw [List.getElem?_set_ne hj]
  rw [e1] at R3
  have : ({ S with sl := (S.sl.set i none).set i (some (.own o')) } : SS) = { S with sl := S.sl.set i (some (.own o')) } := by
    rw [List.set_set]
  rw [← this]
  exact R3
/-- what a callee may not touch: the caller's and the own objects of its slots -/
noncomputable def callU (U : Hp) (S : SS) (σ : St) (H : Hp) : Hp := fun b => open Classical in if ∃ (i : Nat) (o : AO), S.sl[i]? = some (some (SV.own o)) ∧ σ[i]? = some (some (V.ref b)) then H b else U b
theorem Rep.call (R : Rep K U F ρ S σ H) : Rep K (callU U S σ H) F ρ ⟨[], S.hp⟩ [] H := by
  refine ⟨rfl, R.fro, fun b o e => ?_, R.rln, R.rnd, fun p hp => ?_, fun b o e => ?_, R.hp, fun i a e => by simp at e, fun i o e => by simp at e⟩
  · unfold callU at e
    split at e
    · exact e
    · exact R.unt b o e
  · refine ⟨(R.rF p hp).1, ?_⟩
    unfold callU
    split
    · rename_i h
      obtain ⟨i, o, e1, e2⟩ := h
      obtain ⟨q, f1, _, _, _, f5, _⟩ := R.own i o e1
      rw [e2] at f1; cases f1
      exact absurd hp f5
    · exact (R.rF p hp).2
  · unfold callU
    split
    · rename_i h
      obtain ⟨i, o', e1, e2⟩ := h
      obtain ⟨q, f1, _, f3, _⟩ := R.own i o' e1
      rw [e2] at f1; cases f1
      rw [e] at f3; cases f3
    · exact R.FU b o e
theorem Rep.back {h' : AH} (R : Rep K U F ρ S σ H) (s : Same F F') (q : ρ <+: ρ') (R' : Rep K (callU U S σ H) F' ρ' ⟨[], h'⟩ [] H') : Rep K U F' ρ' { S with hp := h' } σ H' := by
  have own_at : ∀ {i : Nat} {o : AO} {p : Addr}, S.sl[i]? = some (some (.own o)) → σ[i]? = some (some (.ref p)) → callU U S σ H p = H p := fun {i o p} e1 e2 => by
    unfold callU; rw [if_pos ⟨i, o, e1, e2⟩]
  have un_at : ∀ b, callU U S σ H b ≠ U b → ∃ (i : Nat) (o : AO), S.sl[i]? = some (some (SV.own o)) ∧ σ[i]? = some (some (V.ref b)) := fun b h => by
    unfold callU at h
    split at h
    · assumption
    · exact absurd rfl h
  have uU : ∀ b o, U b = some o → callU U S σ H b = some o := fun b o e => by
    by_cases h : callU U S σ H b = U b
    · rw [h]; exact e
    · obtain ⟨i, o', e1, e2⟩ := un_at b h
      obtain ⟨p, f1, _, _, f4, _⟩ := R.own i o' e1
      rw [e2] at f1; cases f1
      rw [e] at f4; cases f4
  refine ⟨R.len, R'.fro, fun b o e => R'.unt b o (uU b o e), R'.rln, R'.rnd, fun p hp => ?_, fun b o e => ?_, R'.hp, fun i a e => ?_, fun i o e => ?_⟩
  · refine ⟨(R'.rF p hp).1, ?_⟩
    cases z : U p with
    | none => rfl
    | some o => have := (R'.rF p hp).2; rw [uU p o z] at this; cases this
  · rcases R'.FU b o e with h | ⟨ob, h⟩
    · cases z : U b with
      | none => exact .inl rfl
      | some o' => rw [uU b o' z] at h; cases h
    · cases z : U b with
      | none => exact .inl rfl
      | some o' => rw [uU b o' z] at h; cases h; exact .inr ⟨ob, rfl⟩
  · obtain ⟨v, e1, e2⟩ := R.val i a e
    exact ⟨v, e1, e2.mono s q⟩
  · obtain ⟨p, f1, f2, f3, f4, f5, f6⟩ := R.own i o e
    have hc := own_at e f1
    obtain ⟨u, hu⟩ := f2.some
    have hk : H' p = H p := by rw [hu]; exact R'.unt p u (by rw [hc, hu])
    refine ⟨p, f1, f2.mono s q hk, ?_, f4, fun hm => ?_, f6⟩
    · cases z : F' p with
      | none => rfl
      | some w =>
        rcases R'.FU p w z with h | ⟨ob, h⟩
        · rw [hc, hu] at h; cases h
        · rw [hc] at h
          exfalso
          cases o with
          | lst xs => obtain ⟨vs, h1, _⟩ := f2; rw [h1] at h; cases h
          | dic t kvs => rcases f2 with ⟨_, kv, h1, _⟩ | ⟨_, kv, h1, _⟩ <;> (rw [h1] at h; cases h)
          | ins c fs => obtain ⟨dx, fs', h1, _⟩ := f2; rw [h1] at h; cases h
    · have := (R'.rF p hm).2; rw [hc, hu] at this; cases this
end
end LM

namespace LM
open PySem PySem.Spec PyProof.Rows L2
/-! ## what is wanted behind a piece of code -/
abbrev RR (α β : Type) := Hp → List Addr → SS → Hp → α → β → Prop
def Post {α β : Type} (K : PySem.W.Frag) (U F : Hp) (ρ : List Addr) (σ : St) (R : RR α β) (W : WX) (Q : β → Hp → Prop) : Res α → Prop
  | .ok a S' => ∀ F' ρ' H' b, Same F F' → ρ <+: ρ' → Rep K U F' ρ' S' σ H' → R F' ρ' S' H' a b → Q b H'
  | .exn c S' => ∀ F' ρ' H', Same F F' → ρ <+: ρ' → Rep K U F' ρ' S' σ H' → W (.ref (He.ga K c)) none σ H'
  | .stuck => False
def bindR {α β : Type} (r : Res α) (k : α → M β) : Res β := match r with
  | .ok a s => k a s
  | .exn c s => .exn c s
  | .stuck => .stuck
def bindM {α β : Type} (f : M α) (k : α → M β) : M β := fun s => bindR (f s) k
section
variable {K : PySem.W.Frag} {U F F1 H : Hp} {ρ ρ1 : List Addr} {σ : St} {W : WX}
theorem Post.up {α β : Type} {R : RR α β} {Q : β → Hp → Prop} {r : Res α} (s : Same F F1) (q : ρ <+: ρ1) (h : Post K U F ρ σ R W Q r) : Post K U F1 ρ1 σ R W Q r := by
  cases r with
  | ok a S' => exact fun F' ρ' H' b s' q' => h F' ρ' H' b (s.trans s') (q.trans q')
  | exn c S' => exact fun F' ρ' H' s' q' => h F' ρ' H' (s.trans s') (q.trans q')
  | stuck => exact h
theorem Post.imp {α β : Type} {R R' : RR α β} {Q Q' : β → Hp → Prop} {r : Res α} (h : Post K U F ρ σ R W Q r) (f : ∀ F' ρ' S' H' a b, Same F F' → ρ <+: ρ' → Rep K U F' ρ' S' σ H' → R' F' ρ' S' H' a b → (R F' ρ' S' H' a b → Q b H') → Q' b H') : Post K U F ρ σ R' W Q' r := by
  cases r with
  | ok a S' => exact fun F' ρ' H' b s' q' r' e => f F' ρ' S' H' a b s' q' r' e (h F' ρ' H' b s' q' r')
  | exn c S' => exact h
  | stuck => exact h
theorem Post.bind {α β γ δ : Type} {R1 : RR α β} {R3 : RR γ δ} {Q : δ → Hp → Prop} {r : Res α} {k : α → M γ} (h : Post K U F ρ σ R3 W Q (bindR r k)) :
    Post K U F ρ σ R1 W (fun b H1 => ∃ F1 ρ1 S1 a, Same F F1 ∧ ρ <+: ρ1 ∧ Rep K U F1 ρ1 S1 σ H1 ∧ R1 F1 ρ1 S1 H1 a b ∧ Post K U F1 ρ1 σ R3 W Q (k a S1)) r := by
  cases r with
  | ok a S' => exact fun F' ρ' H' b s' q' r' e => ⟨F', ρ', S', a, s', q', r', e, h.up s' q'⟩
  | exn c S' => exact h
  | stuck => exact h
end
theorem Post.seq {K : PySem.W.Frag} {U F : Hp} {ρ : List Addr} {σ : St} {W : WX} {α β γ δ : Type} {R1 : RR α β} {R3 : RR γ δ} {Q : δ → Hp → Prop} {Q' : β → Hp → Prop} {r : Res α} {k : α → M γ} (h : Post K U F ρ σ R3 W Q (bindR r k))
    (f : ∀ F1 ρ1 S1 H1 a b, Same F F1 → ρ <+: ρ1 → Rep K U F1 ρ1 S1 σ H1 → R1 F1 ρ1 S1 H1 a b → Post K U F1 ρ1 σ R3 W Q (k a S1) → Q' b H1) : Post K U F ρ σ R1 W Q' r := by
  cases r with
  | ok a S' => exact fun F' ρ' H' b s' q' r' e => f F' ρ' S' H' a b s' q' r' e (h.up s' q')
  | exn c S' => exact h
  | stuck => exact h
/-! ### the relations -/
inductive PV where
  | av (a : AV) | sl (i : Nat)
abbrev RS := PySem.W.Frag → Hp → St → RR AV V
def RE (K : PySem.W.Frag) (_ : Hp) (_ : St) : RR AV V := fun F ρ _ _ a v => Emb K F ρ a v
def RL (K : PySem.W.Frag) (_ : Hp) (_ : St) : RR (List AV) (List V) := fun F ρ _ _ a v => EmbL K F ρ a v
def RT (_ : PySem.W.Frag) (_ : Hp) (_ : St) : RR Bool Bool := fun _ _ _ _ a b => b = a
def EmbP (K : PySem.W.Frag) (F : Hp) (ρ : List Addr) (σ : St) : PV → V → Prop
  | .av a, v => Emb K F ρ a v
  | .sl i, v => σ[i]? = some (some v)
def RP (K : PySem.W.Frag) (_ : Hp) (σ : St) : RR PV V := fun F ρ _ _ a v => EmbP K F ρ σ a v
def RN (K : PySem.W.Frag) (U : Hp) (σ : St) : RR AO V := fun F ρ S H o v => ∃ p, v = .ref p ∧ Loose K U F ρ S σ H p o
theorem EmbP.mono {K : PySem.W.Frag} {F F' : Hp} {ρ ρ' : List Addr} {σ : St} (s : Same F F') (q : ρ <+: ρ') {a : PV} {v : V} (h : EmbP K F ρ σ a v) : EmbP K F' ρ' σ a v := by
  cases a with
  | av a => exact Emb.mono s q a v h
  | sl i => exact h
/-- the reading that a function on states gives -/
def tG {α β : Type} (K : PySem.W.Frag) (W : WX) (R : Hp → St → RR α β) (f : M α) (σ : St) (H : Hp) (Q : β → Hp → Prop) : Prop :=
  ∃ U F ρ S, Rep K U F ρ S σ H ∧ Post K U F ρ σ (R U σ) W Q (f S)
def PEm (X : Cx) (e : Expr) (f : M AV) : Prop := ∀ W, Takes X W → PE X e (tG X.K W (RE X.K) f)
def PPm (X : Cx) (e : Expr) (f : M PV) : Prop := ∀ W, Takes X W → PE X e (tG X.K W (RP X.K) f)
def PNm (X : Cx) (e : Expr) (f : M AO) : Prop := ∀ W, Takes X W → PE X e (tG X.K W (RN X.K) f)
def PTm (X : Cx) (e : Expr) (f : M Bool) : Prop := ∀ W, Takes X W → PT X e (tG X.K W (RT X.K) f)
def PWm (X : Cx) (e : Expr) (f : M Bool) : Prop := ∀ W, Takes X W → PW X e (tG X.K W (RT X.K) f)
def PAm (X : Cx) (es : List Expr) (f : M (List AV)) : Prop := ∀ W, Takes X W → PA X es (tG X.K W (RL X.K) f)
section
variable {X : Cx}
theorem PE.weak {e : Expr} {t t' : TE} (h : PE X e t) (w : ∀ σ H Q, t' σ H Q → t σ H Q) : PE X e t' := ⟨fun pins s σ H Q I q => h.run pins s σ H Q I (w σ H Q q)⟩
theorem PT.weak {e : Expr} {t t' : TT} (h : PT X e t) (w : ∀ σ H Q, t' σ H Q → t σ H Q) : PT X e t' := ⟨fun pins s σ H Q I q => h.run pins s σ H Q I (w σ H Q q)⟩
theorem PW.weak {e : Expr} {t t' : TT} (h : PW X e t) (w : ∀ σ H Q, t' σ H Q → t σ H Q) : PW X e t' := ⟨fun wh pins s σ H Q I q => h.run wh pins s σ H Q I (w σ H Q q)⟩
theorem PA.weak {e : List Expr} {t t' : TA} (h : PA X e t) (w : ∀ σ H Q, t' σ H Q → t σ H Q) : PA X e t' := ⟨fun pos pins s σ H Q I q => h.run pos pins s σ H Q I (w σ H Q q)⟩
theorem PS.weak {e : Stmt} {t t' : TS} (h : PS X e t) (w : ∀ σ H D, t' D σ H → t D σ H) : PS X e t' := ⟨fun pins s σ H D I q => h.run pins s σ H D I (w σ H D q)⟩
theorem PSs.weak {e : List Stmt} {t t' : TS} (h : PSs X e t) (w : ∀ σ H D, t' D σ H → t D σ H) : PSs X e t' := ⟨fun pins s σ H D I q => h.run pins s σ H D I (w σ H D q)⟩

/-! ## constants, names -/
variable {pos : Pos}
def cM (a : AV) : M AV := fun s => .ok a s
theorem pm_const {e : Expr} {v : V} {a : AV} (h : PE X e (tC v)) (ha : ∀ F ρ, Emb X.K F ρ a v) : PEm X e (cM a) := fun W tk =>
  PE.weak h fun σ H Q ⟨U, F, ρ, S, R, p⟩ => p F ρ H v (Same.refl _) (List.prefix_refl _) R (ha F ρ)
theorem pm_int {i j pos} : PEm X (.Constant (.int i) j pos) (cM (.int i)) := pm_const pe_int fun _ _ => by simp only [Emb]
theorem pm_bl {b j pos} : PEm X (.Constant (.bool b) j pos) (cM (.bl b)) := pm_const pe_bl fun _ _ => by simp only [Emb]
theorem pm_non {j pos} : PEm X (.Constant .none j pos) (cM .non) := pm_const pe_non fun _ _ => by simp only [Emb]
theorem pm_str {x j pos} : PEm X (.Constant (.str x) j pos) (cM (.str x)) := pm_const pe_str fun _ _ => by simp only [Emb]
/-- a local name, its own object frozen -/
def vM (i : Nat) : M AV := fun s => match s.sl[i]? with
  | some (some (.val a)) => .ok a s
  | some (some (.own o)) => .ok o.frz { s with sl := s.sl.set i (some (.val o.frz)) }
  | _ => .stuck
theorem pm_v (i : Nat) {x : Str} {pos : Pos} (hN : X.N[i]? = some x := by rfl) (hv : Vis X.env.scope x := by first | exact Or.inl rfl | exact Or.inr (Or.inl rfl) | exact Or.inr (Or.inr rfl)) (hd : (x == ("__debug__" : Str)) = false := by decide)
    (hcd : (x == ("__classdict__" : Str)) = false := by decide) : PEm X (.Name x pos) (vM i) := fun W tk =>
  PE.weak (pe_var hN hv hd hcd) fun σ H Q ⟨U, F, ρ, S, R, p⟩ => by
    unfold vM at p
    cases h : S.sl[i]? with
    | none => rw [h] at p; exact p.elim
    | some o =>
      rw [h] at p
      cases o with
      | none => exact p.elim
      | some sv =>
        cases sv with
        | val a =>
          obtain ⟨v, e1, e2⟩ := R.val i a h
          exact ⟨v, e1, p F ρ H v (Same.refl _) (List.prefix_refl _) R e2⟩
        | own o =>
          obtain ⟨q, u, e1, sm, R2, em⟩ := R.frzSlot h
          exact ⟨_, e1, p _ ρ H _ sm (List.prefix_refl _) R2 em⟩
/-- looked at, not frozen -/
def pkV (i : Nat) : M PV := fun s => match s.sl[i]? with
  | some (some _) => .ok (.sl i) s
  | _ => .stuck
theorem pp_v (i : Nat) {x : Str} {pos : Pos} (hN : X.N[i]? = some x := by rfl) (hv : Vis X.env.scope x := by first | exact Or.inl rfl | exact Or.inr (Or.inl rfl) | exact Or.inr (Or.inr rfl)) (hd : (x == ("__debug__" : Str)) = false := by decide)
    (hcd : (x == ("__classdict__" : Str)) = false := by decide) : PPm X (.Name x pos) (pkV i) := fun W tk =>
  PE.weak (pe_var hN hv hd hcd) fun σ H Q ⟨U, F, ρ, S, R, p⟩ => by
    unfold pkV at p
    cases h : S.sl[i]? with
    | none => rw [h] at p; exact p.elim
    | some o =>
      rw [h] at p
      cases o with
      | none => exact p.elim
      | some sv =>
        cases sv with
        | val a =>
          obtain ⟨v, e1, e2⟩ := R.val i a h
          exact ⟨v, e1, p F ρ H v (Same.refl _) (List.prefix_refl _) R e1⟩
        | own o =>
          obtain ⟨q, e1, _⟩ := R.own i o h
          exact ⟨_, e1, p F ρ H _ (Same.refl _) (List.prefix_refl _) R e1⟩
def pkE (f : M AV) : M PV := bindM f fun a s => .ok (.av a) s
theorem pp_e {e : Expr} {f : M AV} (h : PEm X e f) : PPm X e (pkE f) := fun W tk =>
  PE.weak (h W tk) fun σ H Q ⟨U, F, ρ, S, R, p⟩ => ⟨U, F, ρ, S, R, Post.seq p fun F1 ρ1 S1 H' a1 b s1 q1 r1 e1 p1 => by
    exact p1 F1 ρ1 H' b (Same.refl _) (List.prefix_refl _) r1 e1⟩
/-- a made object, frozen; laid on the heap -/
def frM (f : M AO) : M AV := bindM f fun o s => .ok o.frz s
theorem pm_fr {e : Expr} {f : M AO} (h : PNm X e f) : PEm X e (frM f) := fun W tk =>
  PE.weak (h W tk) fun σ H Q ⟨U, F, ρ, S, R, p⟩ => ⟨U, F, ρ, S, R, Post.seq p fun F1 ρ1 S1 H' a1 b s1 q1 r1 ⟨p', eb, L⟩ p1 => by
    subst eb
    obtain ⟨u, hu⟩ := L.some
    obtain ⟨R2, em, sm⟩ := r1.freeze L hu
    exact p1 _ ρ1 H' _ sm (List.prefix_refl _) R2 em⟩
def laM (f : M AO) : M AV := bindM f fun o s => .ok (.ref s.hp.length) { s with hp := s.hp ++ [o] }
theorem pm_la {e : Expr} {f : M AO} (h : PNm X e f) : PEm X e (laM f) := fun W tk =>
  PE.weak (h W tk) fun σ H Q ⟨U, F, ρ, S, R, p⟩ => ⟨U, F, ρ, S, R, Post.seq p fun F1 ρ1 S1 H' a1 b s1 q1 r1 ⟨p', eb, L⟩ p1 => by
    subst eb
    obtain ⟨R2, em, pr⟩ := r1.toHeap L
    exact p1 F1 _ H' _ (Same.refl _) pr R2 em⟩
/-! ## what stands there -/
inductive Co where
  | ob (o : AO) | tup (xs : List AV) | str (x : Str) | no
def coA (h : AH) : AV → Co
  | .tup xs => .tup xs
  | .ct xs => .tup xs
  | .vl xs => .ob (.lst xs)
  | .cl xs => .ob (.lst xs)
  | .vd t kvs => .ob (.dic t kvs)
  | .ob c fs => .ob (.ins c fs)
  | .str x => .str x
  | .ref i => match h[i]? with
    | some o => .ob o
    | none => .no
  | _ => .no
def coP (pv : PV) (s : SS) : Co := match pv with
  | .av a => coA s.hp a
  | .sl i => match s.sl[i]? with
    | some (some (.own o)) => .ob o
    | some (some (.val a)) => coA s.hp a
    | _ => .no
section
variable {K : PySem.W.Frag} {U F H : Hp} {ρ : List Addr} {S : SS} {σ : St}
theorem Rep.tupF (R : Rep K U F ρ S σ H) {p : Addr} {vs : List V} (h : F p = some (.tup vs)) : H p = some (.tup vs) := by
  rcases R.fro _ _ h with z | ⟨z, _⟩
  · exact z
  · cases z
theorem Rep.insF (R : Rep K U F ρ S σ H) {p C dx : Addr} {vs : List (Str × V)} (h : F p = some (.ins C dx vs)) : H p = some (.ins C dx vs) := by
  rcases R.fro _ _ h with z | ⟨z, _⟩
  · exact z
  · cases z
theorem Rep.lstF (R : Rep K U F ρ S σ H) {p : Addr} {vs : List V} (h : SqL K F p vs) : SqL K H p vs := by
  rcases h with (h | ⟨o, h⟩) | h
  · rcases R.fro _ _ h with z | ⟨z, _⟩
    · exact .inl (.inl z)
    · cases z
  · rcases R.fro _ _ h with z | ⟨z, _⟩
    · exact .inl (.inr ⟨o, z⟩)
    · cases z
  · exact .inr h
theorem Rep.dicF (R : Rep K U F ρ S σ H) {p : Addr} {u : HO} (h : F p = some u) : Rd H p u := by
  rcases R.fro _ _ h with z | ⟨_, ob, z⟩
  · exact .inl z
  · exact .inr ⟨ob, z⟩
theorem seqT0 {p : Addr} {vs : List V} {H : Hp} (h : SqT K (fun _ => none) p vs) : SqT K H p vs := by
  rcases h with (h | ⟨o, h⟩) | h
  · cases h
  · cases h
  · exact .inr h
/-- what the reading of a place tells -/
def CoV (K : PySem.W.Frag) (F : Hp) (ρ : List Addr) (H : Hp) (v : V) : Co → Prop
  | .ob (.lst xs) => ∃ p vs, v = .ref p ∧ SqL K H p vs ∧ EmbL K F ρ xs vs
  | .ob (.dic t kvs) => ∃ p, v = .ref p ∧ ((t = false ∧ ∃ kv, Rd H p (.dK kv) ∧ EmbK K F ρ kvs kv) ∨ (t = true ∧ ∃ kv, Rd H p (.dT kv) ∧ EmbT K F ρ kvs kv))
  | .ob (.ins c fs) => ∃ p dx fs', v = .ref p ∧ H p = some (.ins (He.ga K c) dx fs') ∧ EmbF K F ρ fs fs'
  | .tup xs => ∃ p vs, v = .ref p ∧ SqT K H p vs ∧ EmbL K F ρ xs vs
  | .str x => v = .str x
  | .no => True
theorem coO_ok {p : Addr} {o : AO} (h : EmbO K F ρ H p o) : CoV K F ρ H (.ref p) (.ob o) := by
  cases o with
  | lst xs => obtain ⟨vs, h1, h2⟩ := h; exact ⟨p, vs, rfl, SqL.of h1, h2⟩
  | dic t kvs =>
    rcases h with ⟨e, kv, h1, h2⟩ | ⟨e, kv, h1, h2⟩
    · exact ⟨p, rfl, .inl ⟨e, kv, .inl h1, h2⟩⟩
    · exact ⟨p, rfl, .inr ⟨e, kv, .inl h1, h2⟩⟩
  | ins c fs => obtain ⟨dx, fs', h1, h2⟩ := h; exact ⟨p, dx, fs', rfl, h1, h2⟩
theorem coA_ok (R : Rep K U F ρ S σ H) {a : AV} {v : V} (h : Emb K F ρ a v) : CoV K F ρ H v (coA S.hp a) := by
  cases a with
  | tup xs => simp only [Emb] at h; obtain ⟨p, vs, rfl, h1, h2⟩ := h; exact ⟨p, vs, rfl, SqT.of (R.tupF h1), h2⟩
  | ct xs => simp only [Emb] at h; obtain ⟨p, vs, rfl, h1, h2⟩ := h; exact ⟨p, vs, rfl, seqT0 h1, h2⟩
  | vl xs => simp only [Emb] at h; obtain ⟨p, vs, rfl, h1, h2⟩ := h; exact ⟨p, vs, rfl, R.lstF (SqL.of h1), h2⟩
  | cl xs => simp only [Emb] at h; obtain ⟨p, vs, rfl, h1, h2⟩ := h; exact ⟨p, vs, rfl, R.lstF h1, h2⟩
  | vd t kvs =>
    simp only [Emb] at h
    obtain ⟨p, rfl, ⟨e, kv, h1, h2⟩ | ⟨e, kv, h1, h2⟩⟩ := h
    · exact ⟨p, rfl, .inl ⟨e, kv, R.dicF h1, h2⟩⟩
    · exact ⟨p, rfl, .inr ⟨e, kv, R.dicF h1, h2⟩⟩
  | ob c fs => simp only [Emb] at h; obtain ⟨p, dx, fs', rfl, h1, h2⟩ := h; exact ⟨p, dx, fs', rfl, R.insF h1, h2⟩
  | str x => simp only [Emb] at h; exact h
  | ref i =>
    simp only [Emb] at h
    obtain ⟨p, rfl, h1⟩ := h
    obtain ⟨o, ho⟩ := R.idx h1
    show CoV K F ρ H (.ref p) (match S.hp[i]? with | some o => .ob o | none => .no)
    rw [ho]
    exact coO_ok (R.hp i o p ho h1)
  | non => exact True.intro
  | bl b => exact True.intro
  | int i => exact True.intro
theorem coP_ok (R : Rep K U F ρ S σ H) {a : PV} {v : V} (h : EmbP K F ρ σ a v) : CoV K F ρ H v (coP a S) := by
  cases a with
  | av a => exact coA_ok R h
  | sl i =>
    show CoV K F ρ H v (match S.sl[i]? with | some (some (.own o)) => .ob o | some (some (.val a)) => coA S.hp a | _ => .no)
    cases e : S.sl[i]? with
    | none => exact True.intro
    | some x =>
      cases x with
      | none => exact True.intro
      | some sv =>
        have hσ : σ[i]? = some (some v) := h
        cases sv with
        | val a =>
          obtain ⟨v', e1, e2⟩ := R.val i a e
          rw [hσ] at e1; cases e1
          exact coA_ok R e2
        | own o =>
          obtain ⟨p, e1, e2, _⟩ := R.own i o e
          rw [hσ] at e1; cases e1
          exact coO_ok e2
/-- the value of a looked-at place that is none -/
def avP (pv : PV) (s : SS) : Option AV := match pv with
  | .av a => some a
  | .sl i => match s.sl[i]? with
    | some (some (.val a)) => some a
    | _ => none
theorem avP_ok (R : Rep K U F ρ S σ H) {a : PV} {v : V} {x : AV} (h : EmbP K F ρ σ a v) (e : avP a S = some x) : Emb K F ρ x v := by
  cases a with
  | av a => cases e; exact h
  | sl i =>
    have e2 : (match S.sl[i]? with | some (some (.val a)) => some a | _ => none) = some x := e
    cases q : S.sl[i]? with
    | none => rw [q] at e2; cases e2
    | some y =>
      rw [q] at e2
      cases y with
      | none => cases e2
      | some sv =>
        cases sv with
        | own o => cases e2
        | val a =>
          cases e2
          obtain ⟨v', e1, e2⟩ := R.val i x q
          have hσ : σ[i]? = some (some v) := h
          rw [hσ] at e1; cases e1
          exact e2
end
end
end LM

namespace LM
open PySem PySem.Spec PyProof.Rows L2
section
variable {X : Cx} {pos : Pos}
abbrev optM {α : Type} (o : Option α) : M α := fun s => match o with
  | some a => .ok a s
  | none => .stuck
/-! ## operators on values -/
def op2 (op : AV → AV → Option AV) (f g : M AV) : M AV := bindM f fun a => bindM g fun b => optM (op a b)
def GoodOp (X : Cx) (op : AV → AV → Option AV) (r : R2) : Prop := ∀ U F ρ S σ H a b c x y Q, Rep X.K U F ρ S σ H → Emb X.K F ρ a x → Emb X.K F ρ b y → op a b = some c →
  (∀ F' H' z, Same F F' → Rep X.K U F' ρ S σ H' → Emb X.K F' ρ c z → Q z H') → r x y H Q
theorem pm_op {o : Operator} {op : AV → AV → Option AV} {r : R2} {a b : Expr} {f g : M AV} (ho : OpR X (binaryOp o) r) (hg : GoodOp X op r) (ha : PEm X a f) (hb : PEm X b g) : PEm X (.BinOp a o b pos) (op2 op f g) := fun W tk =>
  PE.weak (pe_op ho (ha W tk) (hb W tk)) fun σ H Q ⟨U, F, ρ, S, R, p⟩ => ⟨U, F, ρ, S, R, Post.seq p fun F1 ρ1 S1 H' a1 v s1 q1 r1 e1 p1 => by
    refine ⟨U, F1, ρ1, S1, r1, Post.seq p1 fun F2 ρ2 S2 H2' b1 w s2 q2 r2 e2 p2 => ?_⟩
    cases ec : op a1 b1 with
    | none => rw [ec] at p2; exact p2.elim
    | some c =>
      rw [ec] at p2
      exact hg U F2 ρ2 S2 σ H2' a1 b1 c v w Q r2 (Emb.mono s2 q2 _ _ e1) e2 ec fun F3 H3 z s3 r3 e3 => p2 F3 ρ2 H3 z s3 (List.prefix_refl _) r3 e3⟩
theorem GoodOp.or {op op' : AV → AV → Option AV} {r r' : R2} (h : GoodOp X op r) (h' : GoodOp X op' r') : GoodOp X (fun a b => (op a b).or (op' a b)) (fun x y H Q => r x y H Q ∨ r' x y H Q) := by
  intro U F ρ S σ H a b c x y Q R ea eb e q
  dsimp only at e
  cases z : op a b with
  | some c' =>
    rw [z] at e
    cases e
    exact .inl (h U F ρ S σ H a b c x y Q R ea eb z q)
  | none =>
    rw [z] at e
    exact .inr (h' U F ρ S σ H a b c x y Q R ea eb e q)
def addI : AV → AV → Option AV
  | .int i, .int j => some (.int (i + j))
  | _, _ => none
def addS : AV → AV → Option AV
  | .str i, .str j => if i.length + j.length ≤ 16777216 then some (.str (i ++ j)) else none
  | _, _ => none
def addT : AV → AV → Option AV
  | .tup xs, .tup ys => if xs.length + ys.length ≤ 16777216 then some (.tup (xs ++ ys)) else none
  | _, _ => none
def addA (a b : AV) : Option AV := (addI a b).or ((addS a b).or (addT a b))
theorem emb_int {K : PySem.W.Frag} {F : Hp} {ρ : List Addr} {i : Int} {v : V} (h : Emb K F ρ (.int i) v) : v = .int i := by simpa only [Emb] using h
theorem emb_str {K : PySem.W.Frag} {F : Hp} {ρ : List Addr} {i : Str} {v : V} (h : Emb K F ρ (.str i) v) : v = .str i := by simpa only [Emb] using h
theorem emb_bl {K : PySem.W.Frag} {F : Hp} {ρ : List Addr} {i : Bool} {v : V} (h : Emb K F ρ (.bl i) v) : v = .bl i := by simpa only [Emb] using h
theorem emb_non {K : PySem.W.Frag} {F : Hp} {ρ : List Addr} {v : V} (h : Emb K F ρ .non v) : v = .non := by simpa only [Emb] using h
theorem emb_int' {K : PySem.W.Frag} {F : Hp} {ρ : List Addr} {i : Int} : Emb K F ρ (.int i) (.int i) := by simp only [Emb]
theorem emb_str' {K : PySem.W.Frag} {F : Hp} {ρ : List Addr} {i : Str} : Emb K F ρ (.str i) (.str i) := by simp only [Emb]
theorem emb_bl' {K : PySem.W.Frag} {F : Hp} {ρ : List Addr} {i : Bool} : Emb K F ρ (.bl i) (.bl i) := by simp only [Emb]
theorem emb_non' {K : PySem.W.Frag} {F : Hp} {ρ : List Addr} : Emb K F ρ .non .non := by simp only [Emb]
theorem EmbL.length {K : PySem.W.Frag} {F : Hp} {ρ : List Addr} : ∀ {xs : List AV} {vs : List V}, EmbL K F ρ xs vs → vs.length = xs.length
  | [], _, h => by simp only [EmbL] at h; subst h; rfl
  | x :: xs, _, h => by
    simp only [EmbL] at h
    obtain ⟨v, r, rfl, _, h2⟩ := h
    simp [EmbL.length h2]
theorem EmbL.append {K : PySem.W.Frag} {F : Hp} {ρ : List Addr} : ∀ {xs ys : List AV} {vs ws : List V}, EmbL K F ρ xs vs → EmbL K F ρ ys ws → EmbL K F ρ (xs ++ ys) (vs ++ ws)
  | [], _, _, _, h, h' => by simp only [EmbL] at h; subst h; exact h'
  | x :: xs, _, _, _, h, h' => by
    simp only [EmbL] at h
    obtain ⟨v, r, rfl, h1, h2⟩ := h
    simp only [List.cons_append, EmbL]
    exact ⟨v, r ++ _, rfl, h1, EmbL.append h2 h'⟩
theorem EmbL.get {K : PySem.W.Frag} {F : Hp} {ρ : List Addr} : ∀ {xs : List AV} {vs : List V} {i : Nat} {x : AV}, EmbL K F ρ xs vs → xs[i]? = some x → ∃ v, vs[i]? = some v ∧ Emb K F ρ x v
  | [], _, _, _, _, e => by simp at e
  | a :: xs, _, i, x, h, e => by
    simp only [EmbL] at h
    obtain ⟨v, r, rfl, h1, h2⟩ := h
    cases i with
    | zero => simp at e; subst e; exact ⟨v, rfl, h1⟩
    | succ i =>
      obtain ⟨w, f1, f2⟩ := EmbL.get (i := i) h2 (by simpa using e)
      exact ⟨w, by simpa using f1, f2⟩
theorem EmbL.set {K : PySem.W.Frag} {F : Hp} {ρ : List Addr} {x : AV} {v : V} (hx : Emb K F ρ x v) : ∀ {xs : List AV} {vs : List V} (i : Nat), EmbL K F ρ xs vs → EmbL K F ρ (xs.set i x) (vs.set i v)
  | [], _, _, h => by simp only [EmbL] at h; subst h; simp [EmbL]
  | a :: xs, _, i, h => by
    simp only [EmbL] at h
    obtain ⟨w, r, rfl, h1, h2⟩ := h
    cases i with
    | zero => simp only [List.set_cons_zero, EmbL]; exact ⟨v, r, rfl, hx, h2⟩
    | succ i => simp only [List.set_cons_succ, EmbL]; exact ⟨w, _, rfl, h1, EmbL.set hx i h2⟩
theorem EmbL.take {K : PySem.W.Frag} {F : Hp} {ρ : List Addr} : ∀ {xs : List AV} {vs : List V} (n : Nat), EmbL K F ρ xs vs → EmbL K F ρ (xs.take n) (vs.take n)
  | [], _, n, h => by simp only [EmbL] at h; subst h; simp [EmbL]
  | a :: xs, _, n, h => by
    simp only [EmbL] at h
    obtain ⟨w, r, rfl, h1, h2⟩ := h
    cases n with
    | zero => simp [EmbL]
    | succ n => simp only [List.take_succ_cons, EmbL]; exact ⟨w, _, rfl, h1, EmbL.take n h2⟩
theorem EmbL.drop {K : PySem.W.Frag} {F : Hp} {ρ : List Addr} : ∀ {xs : List AV} {vs : List V} (n : Nat), EmbL K F ρ xs vs → EmbL K F ρ (xs.drop n) (vs.drop n)
  | [], _, n, h => by simp only [EmbL] at h; subst h; simp [EmbL]
  | a :: xs, _, n, h => by
    have h0 := h
    simp only [EmbL] at h
    obtain ⟨w, r, rfl, h1, h2⟩ := h
    cases n with
    | zero => simpa using h0
    | succ n => simpa using EmbL.drop n h2
theorem sz : (sizeLine : Nat) = 16777216 := sizeLine_eq
theorem ga_add : GoodOp X addI (rI0 fun i j => .int (i + j)) := by
  intro U F ρ S σ H a b c x y Q R ea eb e q
  unfold addI at e
  split at e
  · cases e
    exact ⟨_, _, emb_int ea, emb_int eb, q F H _ (Same.refl _) R emb_int'⟩
  · cases e
theorem ga_adds : GoodOp X addS (fun x y H Q => ∃ i j, x = .str i ∧ y = .str j ∧ i.length + j.length ≤ sizeLine ∧ Q (.str (i ++ j)) H) := by
  intro U F ρ S σ H a b c x y Q R ea eb e q
  unfold addS at e
  split at e
  · split at e
    · cases e
      exact ⟨_, _, emb_str ea, emb_str eb, by rw [sz]; assumption, q F H _ (Same.refl _) R emb_str'⟩
    · cases e
  · cases e
theorem Rep.newTup {K : PySem.W.Frag} {U F H : Hp} {ρ : List Addr} {S : SS} {σ : St} {p : Addr} {vs : List V} (R : Rep K U F ρ S σ H) (h : H p = none) : Rep K U (upd F p (.tup vs)) ρ S σ (upd H p (.tup vs)) ∧ Same F (upd F p (.tup vs)) := by
  obtain ⟨h1, h2, h3, h4⟩ := R.new h
  have R1 := R.laid (u := .tup vs) h
  have sm : Same F (upd F p (.tup vs)) := same_new h1
  refine ⟨⟨R1.len, fun b w e => ?_, R1.unt, R1.rln, R1.rnd, fun q hq => ?_, fun b w e => ?_, fun i o q e1 e2 => (R1.hp i o q e1 e2).mono sm (List.prefix_refl _) rfl, fun i a e => ?_, fun i o' e => ?_⟩, sm⟩
  · by_cases hb : b = p
    · subst hb; rw [upd_same] at e; cases e; exact .inl upd_same
    · rw [upd_ne hb] at e; exact R1.fro b w e
  · have ne : q ≠ p := fun z => h3 (z ▸ hq)
    rw [upd_ne ne]; exact R1.rF q hq
  · by_cases hb : b = p
    · subst hb; exact .inl h2
    · rw [upd_ne hb] at e; exact R1.FU b w e
  · obtain ⟨v, e1, e2⟩ := R1.val i a e
    exact ⟨v, e1, e2.mono sm (List.prefix_refl _)⟩
  · obtain ⟨q, e1, e2, e3, e4⟩ := R1.own i o' e
    have ne : q ≠ p := fun z => h4 i o' e (z ▸ e1)
    exact ⟨q, e1, e2.mono sm (List.prefix_refl _) rfl, by rw [upd_ne ne]; exact e3, e4⟩
theorem ga_addt : GoodOp X addT (rCatA X.K) := by
  intro U F ρ S σ H a b c x y Q R ea eb e q
  unfold addT at e
  split at e
  · split at e
    · rename_i xs ys hz
      cases e
      have ea0 := ea
      have eb0 := eb
      simp only [Emb] at ea eb
      obtain ⟨p, vs, rfl, f1, f2⟩ := ea
      obtain ⟨p', ws, rfl, g1, g2⟩ := eb
      refine ⟨p, p', vs, ws, rfl, rfl, SqT.of (R.tupF f1), SqT.of (R.tupF g1), by rw [sz, f2.length, g2.length]; exact hz, fun e => ?_, fun e1 e2 => ?_, fun _ _ n hn => ?_⟩
      · subst e
        have : xs = [] := List.eq_nil_of_length_eq_zero (by have := f2.length; simpa using this.symm)
        subst this
        exact q F H _ (Same.refl _) R (by simpa using eb0)
      · subst e2
        have : ys = [] := List.eq_nil_of_length_eq_zero (by have := g2.length; simpa using this.symm)
        subst this
        exact q F H _ (Same.refl _) R (by simpa using ea0)
      · obtain ⟨R2, sm⟩ := R.newTup (vs := vs ++ ws) hn
        refine q _ _ _ sm R2 ?_
        simp only [Emb]
        exact ⟨n, _, rfl, upd_same, (f2.mono sm (List.prefix_refl _)).append (g2.mono sm (List.prefix_refl _))⟩
    · cases e
  · cases e
theorem pm_add {a b : Expr} {f g : M AV} (ha : PEm X a f) (hb : PEm X b g) : PEm X (.BinOp a .Add b pos) (op2 addA f g) :=
  pm_op (OpR.or op_add (OpR.or op_add_str op_catA)) (ga_add.or (ga_adds.or ga_addt)) ha hb
/-- ints to an int -/
def intOp (c : Int → Int → Bool) (g : Int → Int → Int) : AV → AV → Option AV
  | .int i, .int j => if c i j then some (.int (g i j)) else none
  | _, _ => none
theorem ga_int {C : Int → Int → Prop} {c : Int → Int → Bool} {g : Int → Int → Int} (h : ∀ i j, c i j = true → C i j) : GoodOp X (intOp c g) (rI C fun i j => .int (g i j)) := by
  intro U F ρ S σ H a b k x y Q R ea eb e q
  unfold intOp at e
  split at e
  · split at e
    · cases e
      exact ⟨_, _, emb_int ea, emb_int eb, h _ _ (by assumption), q F H _ (Same.refl _) R emb_int'⟩
    · cases e
  · cases e
theorem ga_int0 {g : Int → Int → Int} : GoodOp X (intOp (fun _ _ => true) g) (rI0 fun i j => .int (g i j)) := by
  intro U F ρ S σ H a b k x y Q R ea eb e q
  unfold intOp at e
  split at e
  · split at e
    · cases e
      exact ⟨_, _, emb_int ea, emb_int eb, q F H _ (Same.refl _) R emb_int'⟩
    · cases e
  · cases e
abbrev subA := intOp (fun _ _ => true) fun i j => i - j
abbrev mulA := intOp (fun i j => (decide (-(2 ^ 64) < i) && decide (i < 2 ^ 64)) || (decide (-(2 ^ 64) < j) && decide (j < 2 ^ 64))) fun i j => i * j
abbrev modA := intOp (fun _ j => decide (0 < j)) fun i j => i % j
abbrev fdivA := intOp (fun _ j => decide (0 < j) && decide (j < 1073741824)) fun i j => i / j
abbrev powA := intOp (fun i j => decide (0 ≤ j) && decide (j ≤ 1000000) && decide (i.natAbs < 2 ^ 64)) fun i j => i ^ j.toNat
theorem pm_sub {a b : Expr} {f g : M AV} (ha : PEm X a f) (hb : PEm X b g) : PEm X (.BinOp a .Sub b pos) (op2 subA f g) := pm_op op_sub ga_int0 ha hb
theorem pm_mod {a b : Expr} {f g : M AV} (ha : PEm X a f) (hb : PEm X b g) : PEm X (.BinOp a .Mod b pos) (op2 modA f g) := pm_op op_mod (ga_int fun i j h => by simpa using h) ha hb
theorem pm_fdiv {a b : Expr} {f g : M AV} (ha : PEm X a f) (hb : PEm X b g) : PEm X (.BinOp a .FloorDiv b pos) (op2 fdivA f g) := pm_op op_fdiv (ga_int fun i j h => by simpa [CDiv] using h) ha hb
theorem pm_pow {a b : Expr} {f g : M AV} (ha : PEm X a f) (hb : PEm X b g) : PEm X (.BinOp a .Pow b pos) (op2 powA f g) := pm_op op_pow (ga_int fun i j h => by simpa [CPow, and_assoc] using h) ha hb
theorem pm_mulI {a b : Expr} {f g : M AV} (ha : PEm X a f) (hb : PEm X b g) : PEm X (.BinOp a .Mult b pos) (op2 mulA f g) := pm_op op_mul (ga_int fun i j h => by simpa [CMul] using h) ha hb
/-- lists: a new one -/
def op2N (op : AV → AV → Option AO) (f g : M AV) : M AO := bindM f fun a => bindM g fun b => optM (op a b)
def GoodN (X : Cx) (op : AV → AV → Option AO) (r : R2) : Prop := ∀ U F ρ S σ H a b c x y Q, Rep X.K U F ρ S σ H → Emb X.K F ρ a x → Emb X.K F ρ b y → op a b = some c →
  (∀ H' p, Rep X.K U F ρ S σ H' → Loose X.K U F ρ S σ H' p c → Q (.ref p) H') → r x y H Q
theorem pn_op {o : Operator} {op : AV → AV → Option AO} {r : R2} {a b : Expr} {f g : M AV} (ho : OpR X (binaryOp o) r) (hg : GoodN X op r) (ha : PEm X a f) (hb : PEm X b g) : PNm X (.BinOp a o b pos) (op2N op f g) := fun W tk =>
  PE.weak (pe_op ho (ha W tk) (hb W tk)) fun σ H Q ⟨U, F, ρ, S, R, p⟩ => ⟨U, F, ρ, S, R, Post.seq p fun F1 ρ1 S1 H' a1 v s1 q1 r1 e1 p1 => by
    refine ⟨U, F1, ρ1, S1, r1, Post.seq p1 fun F2 ρ2 S2 H2' b1 w s2 q2 r2 e2 p2 => ?_⟩
    cases ec : op a1 b1 with
    | none => rw [ec] at p2; exact p2.elim
    | some c =>
      rw [ec] at p2
      exact hg U F2 ρ2 S2 σ H2' a1 b1 c v w Q r2 (Emb.mono s2 q2 _ _ e1) e2 ec fun H3 z r3 e3 => p2 F2 ρ2 H3 _ (Same.refl _) (List.prefix_refl _) r3 ⟨z, rfl, e3⟩⟩
theorem Rep.newLoose {K : PySem.W.Frag} {U F H : Hp} {ρ : List Addr} {S : SS} {σ : St} {p : Addr} {u : HO} {o : AO} (R : Rep K U F ρ S σ H) (h : H p = none) (e : EmbO K F ρ (upd H p u) p o) : Rep K U F ρ S σ (upd H p u) ∧ Loose K U F ρ S σ (upd H p u) p o := by
  obtain ⟨h1, h2, h3, h4⟩ := R.new h
  exact ⟨R.laid h, e, h1, h2, h3, h4⟩
def catL : AV → AV → Option AO
  | .vl xs, .vl ys => if xs.length + ys.length ≤ 16777216 then some (.lst (xs ++ ys)) else none
  | _, _ => none
theorem gn_cat : GoodN X catL rCat := by
  intro U F ρ S σ H a b c x y Q R ea eb e q
  unfold catL at e
  split at e
  · split at e
    · rename_i xs ys hz
      cases e
      simp only [Emb] at ea eb
      obtain ⟨p, vs, rfl, f1, f2⟩ := ea
      obtain ⟨p', ws, rfl, g1, g2⟩ := eb
      have l1 : H p = some (.lst vs) := by
        rcases R.fro _ _ f1 with z | ⟨z, _⟩
        · exact z
        · cases z
      have l2 : H p' = some (.lst ws) := by
        rcases R.fro _ _ g1 with z | ⟨z, _⟩
        · exact z
        · cases z
      refine ⟨p, p', vs, ws, rfl, rfl, l1, l2, by rw [sz, f2.length, g2.length]; exact hz, fun n hn => ?_⟩
      obtain ⟨R2, L⟩ := R.newLoose (u := .lst (vs ++ ws)) (o := .lst (xs ++ ys)) hn ⟨vs ++ ws, upd_same, f2.append g2⟩
      exact q _ n R2 L
    · cases e
  · cases e
theorem pn_cat {a b : Expr} {f g : M AV} (ha : PEm X a f) (hb : PEm X b g) : PNm X (.BinOp a .Add b pos) (op2N catL f g) := pn_op op_cat gn_cat ha hb
def repL : AV → AV → Option AO
  | .vl xs, .int k => if decide (-(2 ^ 63) ≤ k) && decide (k < 2 ^ 63) && decide (xs.length * k.toNat ≤ 16777216) then some (.lst (List.replicate k.toNat xs).flatten) else none
  | _, _ => none
theorem EmbL.rep {K : PySem.W.Frag} {F : Hp} {ρ : List Addr} {xs : List AV} {vs : List V} (h : EmbL K F ρ xs vs) : ∀ k : Nat, EmbL K F ρ (List.replicate k xs).flatten (List.replicate k vs).flatten
  | 0 => by simp [EmbL]
  | k + 1 => by
    rw [List.replicate_succ, List.replicate_succ, List.flatten_cons, List.flatten_cons]
    exact h.append (EmbL.rep h k)
theorem gn_rep : GoodN X repL rRep := by
  intro U F ρ S σ H a b c x y Q R ea eb e q
  unfold repL at e
  split at e
  · split at e
    · rename_i xs k hz
      cases e
      simp only [Emb] at ea
      obtain ⟨p, vs, rfl, f1, f2⟩ := ea
      have l1 : H p = some (.lst vs) := by
        rcases R.fro _ _ f1 with z | ⟨z, _⟩
        · exact z
        · cases z
      simp only [Bool.and_eq_true, decide_eq_true_eq] at hz
      refine ⟨p, k, vs, rfl, emb_int eb, l1, hz.1.1, hz.1.2, by rw [sz, f2.length]; exact hz.2, fun n hn => ?_⟩
      obtain ⟨R2, L⟩ := R.newLoose (u := .lst (List.replicate k.toNat vs).flatten) (o := .lst (List.replicate k.toNat xs).flatten) hn ⟨_, upd_same, f2.rep _⟩
      exact q _ n R2 L
    · cases e
  · cases e
theorem pn_rep {a b : Expr} {f g : M AV} (ha : PEm X a f) (hb : PEm X b g) : PNm X (.BinOp a .Mult b pos) (op2N repL f g) := pn_op op_rep gn_rep ha hb
/-! ### one place -/
def op1 (op : AV → Option AV) (f : M AV) : M AV := bindM f fun a => optM (op a)
def negA : AV → Option AV
  | .int i => some (.int (-i))
  | _ => none
theorem pm_neg {a : Expr} {f : M AV} (ha : PEm X a f) : PEm X (.UnaryOp .USub a pos) (op1 negA f) := fun W tk =>
  PE.weak (pe_un un_neg (ha W tk)) fun σ H Q ⟨U, F, ρ, S, R, p⟩ => ⟨U, F, ρ, S, R, Post.seq p fun F1 ρ1 S1 H' a1 v s1 q1 r1 e1 p1 => by
    cases a1 with
    | int i => exact ⟨i, emb_int e1, p1 F1 ρ1 H' _ (Same.refl _) (List.prefix_refl _) r1 emb_int'⟩
    | _ => exact p1.elim⟩
/-! ## comparisons -/
def cmpM (op : SS → PV → PV → Option Bool) (f g : M PV) : M Bool := bindM f fun a => bindM g fun b s => match op s a b with
  | some k => .ok k s
  | none => .stuck
def bvM (f : M Bool) : M AV := bindM f fun k s => .ok (.bl k) s
def GoodC (X : Cx) (op : SS → PV → PV → Option Bool) (r : R2) : Prop := ∀ U F ρ S σ H a b k x y Q, Rep X.K U F ρ S σ H → EmbP X.K F ρ σ a x → EmbP X.K F ρ σ b y → op S a b = some k → Q (.bl k) H → r x y H Q
theorem GoodC.or {op op' : SS → PV → PV → Option Bool} {r r' : R2} (h : GoodC X op r) (h' : GoodC X op' r') : GoodC X (fun s a b => (op s a b).or (op' s a b)) (fun x y H Q => r x y H Q ∨ r' x y H Q) := by
  intro U F ρ S σ H a b k x y Q R ea eb e q
  dsimp only at e
  cases z : op S a b with
  | some c' =>
    rw [z] at e
    cases e
    exact .inl (h U F ρ S σ H a b k x y Q R ea eb z q)
  | none =>
    rw [z] at e
    exact .inr (h' U F ρ S σ H a b k x y Q R ea eb e q)
theorem cmp_core {op : SS → PV → PV → Option Bool} {r : R2} {f g : M PV} {W : WX} (hg : GoodC X op r) {σ : St} {H : Hp} {Q : Bool → Hp → Prop} (h : tG X.K W (RT X.K) (cmpM op f g) σ H Q) :
    tTest (tOp r (tG X.K W (RP X.K) f) (tG X.K W (RP X.K) g)) σ H Q := by
  obtain ⟨U, F, ρ, S, R, p⟩ := h
  refine ⟨U, F, ρ, S, R, Post.seq p fun F1 ρ1 S1 H' a1 v s1 q1 r1 e1 p1 => ?_⟩
  refine ⟨U, F1, ρ1, S1, r1, Post.seq p1 fun F2 ρ2 S2 H2' b1 w s2 q2 r2 e2 p2 => ?_⟩
  have p2 : Post X.K U F2 ρ2 σ (RT X.K U σ) W Q (match op S2 a1 b1 with | some k => .ok k S2 | none => .stuck) := p2
  cases ec : op S2 a1 b1 with
  | none => rw [ec] at p2; exact p2.elim
  | some c =>
    rw [ec] at p2
    exact hg U F2 ρ2 S2 σ H2' a1 b1 c v w _ r2 (e1.mono s2 q2) e2 ec ⟨c, rfl, p2 F2 ρ2 H2' c (Same.refl _) (List.prefix_refl _) r2 rfl⟩
theorem pt_cm {o : CmpOp} {op : SS → PV → PV → Option Bool} {r : R2} {a b : Expr} {f g : M PV} (ho : OpR X (compareOp o) r) (hg : GoodC X op r) (ha : PPm X a f) (hb : PPm X b g) (hm : behindInMarks o b = false) : PTm X (.Compare a [o] [b] pos) (cmpM op f g) := fun W tk =>
  PT.weak (pt_cmpR ho (ha W tk) (hb W tk) hm) fun σ H Q h => cmp_core hg h
theorem pm_cm {o : CmpOp} {op : SS → PV → PV → Option Bool} {r : R2} {a b : Expr} {f g : M PV} (ho : OpR X (compareOp o) r) (hg : GoodC X op r) (ha : PPm X a f) (hb : PPm X b g) (hm : behindInMarks o b = false) : PEm X (.Compare a [o] [b] pos) (bvM (cmpM op f g)) := fun W tk =>
  PE.weak (pe_cmpR ho (ha W tk) (hb W tk) hm) fun σ H Q ⟨U, F, ρ, S, R, p⟩ => by
    have h2 : tG X.K W (RT X.K) (cmpM op f g) σ H (fun c H' => Q (.bl c) H') := ⟨U, F, ρ, S, R, Post.seq p fun F1 ρ1 S1 H' a1 v s1 q1 r1 e1 p1 => by
      have e1 : v = a1 := e1
      subst e1
      exact p1 F1 ρ1 H' _ (Same.refl _) (List.prefix_refl _) r1 emb_bl'⟩
    have h3 := cmp_core (r := r) hg h2
    obtain ⟨U, F, ρ, S, R, p⟩ := h2
    refine ⟨U, F, ρ, S, R, Post.seq p fun F1 ρ1 S1 H' a1 v s1 q1 r1 e1 p1 => ?_⟩
    refine ⟨U, F1, ρ1, S1, r1, Post.seq p1 fun F2 ρ2 S2 H2' b1 w s2 q2 r2 e2 p2 => ?_⟩
    have p2 : Post X.K U F2 ρ2 σ (RT X.K U σ) W (fun c H' => Q (.bl c) H') (match op S2 a1 b1 with | some k => .ok k S2 | none => .stuck) := p2
    cases ec : op S2 a1 b1 with
    | none => rw [ec] at p2; exact p2.elim
    | some c =>
      rw [ec] at p2
      exact hg U F2 ρ2 S2 σ H2' a1 b1 c v w _ r2 (e1.mono s2 q2) e2 ec (p2 F2 ρ2 H2' c (Same.refl _) (List.prefix_refl _) r2 rfl)
def intC (c : Int → Int → Bool) (s : SS) (a b : PV) : Option Bool := match avP a s, avP b s with
  | some (.int i), some (.int j) => some (c i j)
  | _, _ => none
theorem gc_int {c : Int → Int → Bool} : GoodC X (intC c) (rI0 fun i j => .bl (c i j)) := by
  intro U F ρ S σ H a b k x y Q R ea eb e q
  unfold intC at e
  split at e
  · rename_i i j h1 h2
    cases e
    exact ⟨i, j, emb_int (avP_ok R ea h1), emb_int (avP_ok R eb h2), q⟩
  · cases e
def strC (c : Str → Str → Bool) (s : SS) (a b : PV) : Option Bool := match avP a s, avP b s with
  | some (.str i), some (.str j) => some (c i j)
  | _, _ => none
theorem gc_str {c : Str → Str → Bool} : GoodC X (strC c) (fun x y H Q => ∃ i j, x = .str i ∧ y = .str j ∧ Q (.bl (c i j)) H) := by
  intro U F ρ S σ H a b k x y Q R ea eb e q
  unfold strC at e
  split at e
  · rename_i i j h1 h2
    cases e
    exact ⟨i, j, emb_str (avP_ok R ea h1), emb_str (avP_ok R eb h2), q⟩
  · cases e
def ltC (s : SS) (a b : PV) : Option Bool := (intC (fun i j => decide (i < j)) s a b).or (strC (fun i j => decide (i.cps.toList < j.cps.toList)) s a b)
theorem gc_lt : OpR X (compareOp .Lt) (fun x y H Q => rI0 (fun i j => .bl (decide (i < j))) x y H Q ∨ ∃ i j, x = .str i ∧ y = .str j ∧ Q (.bl (decide (i.cps.toList < j.cps.toList))) H) := OpR.or op_lt op_lt_str
theorem pt_lt {a b : Expr} {f g : M PV} (ha : PPm X a f) (hb : PPm X b g) : PTm X (.Compare a [.Lt] [b] pos) (cmpM ltC f g) := pt_cm gc_lt (gc_int.or gc_str) ha hb (nomark _)
theorem pm_lt {a b : Expr} {f g : M PV} (ha : PPm X a f) (hb : PPm X b g) : PEm X (.Compare a [.Lt] [b] pos) (bvM (cmpM ltC f g)) := pm_cm gc_lt (gc_int.or gc_str) ha hb (nomark _)
def leC (s : SS) (a b : PV) : Option Bool := (intC (fun i j => decide (i ≤ j)) s a b).or (strC (fun i j => !decide (j.cps.toList < i.cps.toList)) s a b)
abbrev gtC := intC fun i j => decide (j < i)
abbrev geC := intC fun i j => decide (j ≤ i)
theorem pt_gt {a b : Expr} {f g : M PV} (ha : PPm X a f) (hb : PPm X b g) : PTm X (.Compare a [.Gt] [b] pos) (cmpM gtC f g) := pt_cm op_gt gc_int ha hb (nomark _)
theorem pm_gt {a b : Expr} {f g : M PV} (ha : PPm X a f) (hb : PPm X b g) : PEm X (.Compare a [.Gt] [b] pos) (bvM (cmpM gtC f g)) := pm_cm op_gt gc_int ha hb (nomark _)
theorem pt_ge {a b : Expr} {f g : M PV} (ha : PPm X a f) (hb : PPm X b g) : PTm X (.Compare a [.GtE] [b] pos) (cmpM geC f g) := pt_cm op_ge gc_int ha hb (nomark _)
theorem pm_ge {a b : Expr} {f g : M PV} (ha : PPm X a f) (hb : PPm X b g) : PEm X (.Compare a [.GtE] [b] pos) (bvM (cmpM geC f g)) := pm_cm op_ge gc_int ha hb (nomark _)
end
end LM

namespace LM
open PySem PySem.Spec PyProof.Rows L2
/-! ## dicts by their keys -/
def kk (t : Bool) (k : AV) : Option (Key ⊕ List Key) := if t then (tkOf k).map .inr else (kOf k).map .inl
def keq (t : Bool) (a b : AV) : Bool := decide (kk t a = kk t b)
def dGet (t : Bool) (kvs : List (AV × AV)) (k : AV) : Option AV := (kvs.find? fun p => keq t p.1 k).map (·.2)
def dPut (t : Bool) (kvs : List (AV × AV)) (k x : AV) : List (AV × AV) := if (kvs.any fun p => keq t p.1 k) = true then kvs.map (fun p => if keq t p.1 k = true then (p.1, x) else p) else kvs ++ [(k, x)]
def dDrop (t : Bool) (kvs : List (AV × AV)) (k : AV) : List (AV × AV) := kvs.filter fun p => !keq t p.1 k
section
variable {K : PySem.W.Frag} {F : Hp} {ρ : List Addr}
theorem keqK {a b : AV} {k j : Key} (ha : kOf a = some k) (hb : kOf b = some j) : keq false a b = decide (k = j) := by
  unfold keq kk
  rw [if_neg Bool.false_ne_true, if_neg Bool.false_ne_true, ha, hb]
  simp
theorem keqT {a b : AV} {k j : List Key} (ha : tkOf a = some k) (hb : tkOf b = some j) : keq true a b = decide (k = j) := by
  unfold keq kk
  rw [if_pos rfl, if_pos rfl, ha, hb]
  simp
theorem EmbK.get {k : AV} {k' : Key} (hk : kOf k = some k') : ∀ {kvs : List (AV × AV)} {kv : List (Key × V)}, EmbK K F ρ kvs kv →
    (∀ x, dGet false kvs k = some x → ∃ v, valV kv k' = some v ∧ Emb K F ρ x v) ∧ (dGet false kvs k = none → valV kv k' = none)
  | [], _, h => by simp only [EmbK] at h; subst h; simp [dGet, valV]
  | (j, x) :: r, _, h => by
    simp only [EmbK] at h
    obtain ⟨j', v, r', rfl, e1, e2, e3⟩ := h
    have q := keqK e1 hk
    obtain ⟨i1, i2⟩ := EmbK.get hk e3
    by_cases hj : j' = k'
    · have qq : keq false j k = true := by rw [q]; exact decide_eq_true hj
      have g : dGet false ((j, x) :: r) k = some x := by simp [dGet, List.find?_cons, qq]
      rw [g]
      exact ⟨fun y hy => by cases hy; exact ⟨v, valV_pos hj, e2⟩, fun z => by cases z⟩
    · have qq : keq false j k = false := by rw [q]; exact decide_eq_false hj
      have g : dGet false ((j, x) :: r) k = dGet false r k := by simp [dGet, List.find?_cons, qq]
      rw [g, valV_neg (p := (j', v)) (r := r') (k := k') hj]
      exact ⟨i1, i2⟩
theorem EmbT.get {k : AV} {k' : List Key} (hk : tkOf k = some k') : ∀ {kvs : List (AV × AV)} {kv : List (List Key × V)}, EmbT K F ρ kvs kv →
    (∀ x, dGet true kvs k = some x → ∃ v, valV kv k' = some v ∧ Emb K F ρ x v) ∧ (dGet true kvs k = none → valV kv k' = none)
  | [], _, h => by simp only [EmbT] at h; subst h; simp [dGet, valV]
  | (j, x) :: r, _, h => by
    simp only [EmbT] at h
    obtain ⟨j', v, r', rfl, e1, e2, e3⟩ := h
    have q := keqT e1 hk
    obtain ⟨i1, i2⟩ := EmbT.get hk e3
    by_cases hj : j' = k'
    · have qq : keq true j k = true := by rw [q]; exact decide_eq_true hj
      have g : dGet true ((j, x) :: r) k = some x := by simp [dGet, List.find?_cons, qq]
      rw [g]
      exact ⟨fun y hy => by cases hy; exact ⟨v, valV_pos hj, e2⟩, fun z => by cases z⟩
    · have qq : keq true j k = false := by rw [q]; exact decide_eq_false hj
      have g : dGet true ((j, x) :: r) k = dGet true r k := by simp [dGet, List.find?_cons, qq]
      rw [g, valV_neg (p := (j', v)) (r := r') (k := k') hj]
      exact ⟨i1, i2⟩
theorem EmbK.any {k : AV} {k' : Key} (hk : kOf k = some k') : ∀ {kvs : List (AV × AV)} {kv : List (Key × V)}, EmbK K F ρ kvs kv → (kvs.any fun p => keq false p.1 k) = kv.any fun p => decide (p.1 = k')
  | [], _, h => by simp only [EmbK] at h; subst h; rfl
  | (j, x) :: r, _, h => by
    simp only [EmbK] at h
    obtain ⟨j', v, r', rfl, e1, e2, e3⟩ := h
    rw [List.any_cons, List.any_cons, EmbK.any hk e3, keqK e1 hk]
theorem EmbT.any {k : AV} {k' : List Key} (hk : tkOf k = some k') : ∀ {kvs : List (AV × AV)} {kv : List (List Key × V)}, EmbT K F ρ kvs kv → (kvs.any fun p => keq true p.1 k) = kv.any fun p => decide (p.1 = k')
  | [], _, h => by simp only [EmbT] at h; subst h; rfl
  | (j, x) :: r, _, h => by
    simp only [EmbT] at h
    obtain ⟨j', v, r', rfl, e1, e2, e3⟩ := h
    rw [List.any_cons, List.any_cons, EmbT.any hk e3, keqT e1 hk]
theorem EmbK.snoc {k x : AV} {k' : Key} {v : V} (hk : kOf k = some k') (hx : Emb K F ρ x v) : ∀ {kvs : List (AV × AV)} {kv : List (Key × V)}, EmbK K F ρ kvs kv → EmbK K F ρ (kvs ++ [(k, x)]) (kv ++ [(k', v)])
  | [], _, h => by simp only [EmbK] at h; subst h; simp only [List.nil_append, EmbK]; exact ⟨k', v, [], rfl, hk, hx, rfl⟩
  | (j, y) :: r, _, h => by
    simp only [EmbK] at h
    obtain ⟨j', w, r', rfl, e1, e2, e3⟩ := h
    simp only [List.cons_append, EmbK]
    exact ⟨j', w, _, rfl, e1, e2, EmbK.snoc hk hx e3⟩
theorem EmbT.snoc {k x : AV} {k' : List Key} {v : V} (hk : tkOf k = some k') (hx : Emb K F ρ x v) : ∀ {kvs : List (AV × AV)} {kv : List (List Key × V)}, EmbT K F ρ kvs kv → EmbT K F ρ (kvs ++ [(k, x)]) (kv ++ [(k', v)])
  | [], _, h => by simp only [EmbT] at h; subst h; simp only [List.nil_append, EmbT]; exact ⟨k', v, [], rfl, hk, hx, rfl⟩
  | (j, y) :: r, _, h => by
    simp only [EmbT] at h
    obtain ⟨j', w, r', rfl, e1, e2, e3⟩ := h
    simp only [List.cons_append, EmbT]
    exact ⟨j', w, _, rfl, e1, e2, EmbT.snoc hk hx e3⟩
theorem EmbK.repl {k x : AV} {k' : Key} {v : V} (hk : kOf k = some k') (hx : Emb K F ρ x v) : ∀ {kvs : List (AV × AV)} {kv : List (Key × V)}, EmbK K F ρ kvs kv →
    EmbK K F ρ (kvs.map fun p => if keq false p.1 k = true then (p.1, x) else p) (kv.map fun p => if p.1 = k' then (p.1, v) else p)
  | [], _, h => by simp only [EmbK] at h; subst h; simp [EmbK]
  | (j, y) :: r, _, h => by
    simp only [EmbK] at h
    obtain ⟨j', w, r', rfl, e1, e2, e3⟩ := h
    have q := keqK e1 hk
    have ih := EmbK.repl hk hx e3
    rw [List.map_cons, List.map_cons]
    by_cases hj : j' = k'
    · have qq : keq false j k = true := by rw [q]; exact decide_eq_true hj
      simp only [qq, if_true, hj]
      simp only [EmbK]
      exact ⟨k', v, _, rfl, by rw [← hj]; exact e1, hx, ih⟩
    · have qq : keq false j k = false := by rw [q]; exact decide_eq_false hj
      simp only [qq, Bool.false_eq_true, if_false, hj]
      simp only [EmbK]
      exact ⟨j', w, _, rfl, e1, e2, ih⟩
theorem EmbT.repl {k x : AV} {k' : List Key} {v : V} (hk : tkOf k = some k') (hx : Emb K F ρ x v) : ∀ {kvs : List (AV × AV)} {kv : List (List Key × V)}, EmbT K F ρ kvs kv →
    EmbT K F ρ (kvs.map fun p => if keq true p.1 k = true then (p.1, x) else p) (kv.map fun p => if p.1 = k' then (p.1, v) else p)
  | [], _, h => by simp only [EmbT] at h; subst h; simp [EmbT]
  | (j, y) :: r, _, h => by
    simp only [EmbT] at h
    obtain ⟨j', w, r', rfl, e1, e2, e3⟩ := h
    have q := keqT e1 hk
    have ih := EmbT.repl hk hx e3
    rw [List.map_cons, List.map_cons]
    by_cases hj : j' = k'
    · have qq : keq true j k = true := by rw [q]; exact decide_eq_true hj
      simp only [qq, if_true, hj]
      simp only [EmbT]
      exact ⟨k', v, _, rfl, by rw [← hj]; exact e1, hx, ih⟩
    · have qq : keq true j k = false := by rw [q]; exact decide_eq_false hj
      simp only [qq, Bool.false_eq_true, if_false, hj]
      simp only [EmbT]
      exact ⟨j', w, _, rfl, e1, e2, ih⟩
theorem EmbK.put {k x : AV} {k' : Key} {v : V} (hk : kOf k = some k') (hx : Emb K F ρ x v) {kvs : List (AV × AV)} {kv : List (Key × V)} (h : EmbK K F ρ kvs kv) : EmbK K F ρ (dPut false kvs k x) (putK kv k' v) := by
  unfold dPut putK
  rw [EmbK.any hk h]
  split
  · exact EmbK.repl hk hx h
  · exact EmbK.snoc hk hx h
theorem EmbT.put {k x : AV} {k' : List Key} {v : V} (hk : tkOf k = some k') (hx : Emb K F ρ x v) {kvs : List (AV × AV)} {kv : List (List Key × V)} (h : EmbT K F ρ kvs kv) : EmbT K F ρ (dPut true kvs k x) (putK kv k' v) := by
  unfold dPut putK
  rw [EmbT.any hk h]
  split
  · exact EmbT.repl hk hx h
  · exact EmbT.snoc hk hx h
theorem EmbK.drop {k : AV} {k' : Key} (hk : kOf k = some k') : ∀ {kvs : List (AV × AV)} {kv : List (Key × V)}, EmbK K F ρ kvs kv → EmbK K F ρ (dDrop false kvs k) (dropK kv k')
  | [], _, h => by simp only [EmbK] at h; subst h; simp [dDrop, dropK, EmbK]
  | (j, y) :: r, _, h => by
    simp only [EmbK] at h
    obtain ⟨j', w, r', rfl, e1, e2, e3⟩ := h
    have q := keqK e1 hk
    have ih := EmbK.drop hk e3
    unfold dDrop dropK at ih ⊢
    rw [List.filter_cons, List.filter_cons]
    by_cases hj : j' = k'
    · have qq : keq false j k = true := by rw [q]; exact decide_eq_true hj
      simp only [qq, Bool.not_true, Bool.false_eq_true, if_false, hj, ne_eq, not_true_eq_false, decide_false]
      exact ih
    · have qq : keq false j k = false := by rw [q]; exact decide_eq_false hj
      simp only [qq, Bool.not_false, if_true, hj, ne_eq, not_false_eq_true, decide_true]
      simp only [EmbK]
      exact ⟨j', w, _, rfl, e1, e2, ih⟩
theorem EmbK.length : ∀ {kvs : List (AV × AV)} {kv : List (Key × V)}, EmbK K F ρ kvs kv → kv.length = kvs.length
  | [], _, h => by simp only [EmbK] at h; subst h; rfl
  | (j, y) :: r, _, h => by
    simp only [EmbK] at h
    obtain ⟨j', w, r', rfl, e1, e2, e3⟩ := h
    simp [EmbK.length e3]
theorem EmbT.length : ∀ {kvs : List (AV × AV)} {kv : List (List Key × V)}, EmbT K F ρ kvs kv → kv.length = kvs.length
  | [], _, h => by simp only [EmbT] at h; subst h; rfl
  | (j, y) :: r, _, h => by
    simp only [EmbT] at h
    obtain ⟨j', w, r', rfl, e1, e2, e3⟩ := h
    simp [EmbT.length e3]
theorem emb_kV {k : AV} {k' : Key} {v : V} (hk : kOf k = some k') (h : Emb K F ρ k v) : v = kV k' := by
  cases k with
  | int i => cases hk; exact emb_int h
  | str x => cases hk; exact emb_str h
  | _ => cases hk
theorem embL_kV : ∀ {xs : List AV} {ks : List Key} {vs : List V}, xs.mapM kOf = some ks → EmbL K F ρ xs vs → vs = ks.map kV
  | [], ks, vs, hk, h => by
    simp only [EmbL] at h
    subst h
    have : ([] : List Key) = ks := by simpa using hk
    subst this; rfl
  | x :: xs, ks, vs, hk, h => by
    simp only [EmbL] at h
    obtain ⟨v, r, rfl, h1, h2⟩ := h
    rw [List.mapM_cons] at hk
    cases e1 : kOf x with
    | none => rw [e1] at hk; cases hk
    | some k =>
      rw [e1] at hk
      cases e2 : xs.mapM kOf with
      | none => rw [e2] at hk; cases hk
      | some kr =>
        rw [e2] at hk
        have : k :: kr = ks := by simpa using hk
        subst this
        rw [List.map_cons, emb_kV e1 h1, embL_kV e2 h2]
theorem emb_tkV {U H : Hp} {S : SS} {σ : St} (R : Rep K U F ρ S σ H) {k : AV} {ks : List Key} {v : V} (hk : tkOf k = some ks) (h : Emb K F ρ k v) : ∃ b, v = .ref b ∧ H b = some (.tup (ks.map kV)) := by
  cases k with
  | tup xs =>
    simp only [Emb] at h
    obtain ⟨p, vs, rfl, h1, h2⟩ := h
    refine ⟨p, rfl, ?_⟩
    rw [← embL_kV (show xs.mapM kOf = some ks from hk) h2]
    exact R.tupF h1
  | _ => cases hk
/-- what a dict that is read tells at a key -/
theorem dget_ok {U H : Hp} {S : SS} {σ : St} (R : Rep K U F ρ S σ H) {t : Bool} {kvs : List (AV × AV)} {v y : V} {k : AV} (c : CoV K F ρ H v (.ob (.dic t kvs))) (hy : Emb K F ρ k y) (hk : (kk t k).isSome = true) :
    ∃ a o, v = .ref a ∧ DGet H a y o ∧ (∀ x, dGet t kvs k = some x → ∃ w, o = some w ∧ Emb K F ρ x w) ∧ (dGet t kvs k = none → o = none) := by
  obtain ⟨p, rfl, ⟨rfl, kv, rd, em⟩ | ⟨rfl, kv, rd, em⟩⟩ := c
  · cases e : kOf k with
    | none => simp [kk, e] at hk
    | some k' =>
      obtain ⟨g1, g2⟩ := EmbK.get e em
      exact ⟨p, valV kv k', rfl, .inl ⟨kv, k', rd, emb_kV e hy, rfl⟩, g1, g2⟩
  · cases e : tkOf k with
    | none => simp [kk, e] at hk
    | some k' =>
      obtain ⟨g1, g2⟩ := EmbT.get e em
      obtain ⟨b, rfl, hb⟩ := emb_tkV R e hy
      exact ⟨p, valV kv k', rfl, .inr ⟨kv, k', b, rd, rfl, hb, rfl⟩, g1, g2⟩
end
section
variable {X : Cx} {pos : Pos}
/-! ## equality of data -/
mutual
def eqA : AV → AV → Bool
  | .non, .non => true
  | .bl a, .bl b => a == b
  | .bl a, .int j => decide ((if a then 1 else 0) = j)
  | .int i, .bl b => decide (i = (if b then 1 else 0))
  | .int i, .int j => decide (i = j)
  | .str x, .str y => decide (x = y)
  | .vl xs, .vl ys => eqL xs ys
  | .vl xs, .cl ys => eqL xs ys
  | .cl xs, .vl ys => eqL xs ys
  | .cl xs, .cl ys => eqL xs ys
  | .tup xs, .tup ys => eqL xs ys
  | .tup xs, .ct ys => eqL xs ys
  | .ct xs, .tup ys => eqL xs ys
  | .ct xs, .ct ys => eqL xs ys
  | _, _ => false
def eqL : List AV → List AV → Bool
  | [], [] => true
  | x :: xs, y :: ys => eqA x y && eqL xs ys
  | _, _ => false
end
mutual
/-- plain data, not deeper than n, its texts' signs in bounds -/
def okA (n : Nat) : AV → Bool
  | .non => true
  | .bl _ => true
  | .int _ => true
  | .str x => x.cps.all (· < 0x110000)
  | .vl xs => match n with
    | 0 => false
    | n + 1 => okL n xs
  | .cl xs => match n with
    | 0 => false
    | n + 1 => okL n xs
  | .tup xs => match n with
    | 0 => false
    | n + 1 => okL n xs
  | .ct xs => match n with
    | 0 => false
    | n + 1 => okL n xs
  | _ => false
def okL (n : Nat) : List AV → Bool
  | [] => true
  | x :: xs => okA n x && okL n xs
end
mutual
def datA : AV → PyData
  | .bl b => .bool b
  | .int i => .int i
  | .str x => .str x
  | .vl xs => .list (datL xs)
  | .cl xs => .list (datL xs)
  | .tup xs => .tuple (datL xs)
  | .ct xs => .tuple (datL xs)
  | _ => .none
def datL : List AV → List PyData
  | [] => []
  | x :: xs => datA x :: datL xs
end
mutual
theorem ok_shape : ∀ (n : Nat) (a : AV), okA n a = true → (datA a).canLay0 = true ∧ (datA a).depth ≤ n
  | n, .non, _ => by simp [datA, PyData.canLay0, PyData.depth]
  | n, .bl _, _ => by simp [datA, PyData.canLay0, PyData.depth]
  | n, .int _, _ => by simp [datA, PyData.canLay0, PyData.depth]
  | n, .str x, h => by
    simp only [okA] at h
    simp only [datA, PyData.canLay0, PyData.depth]
    exact ⟨h, Nat.zero_le _⟩
  | 0, .vl xs, h => by simp [okA] at h
  | 0, .cl xs, h => by simp [okA] at h
  | 0, .tup xs, h => by simp [okA] at h
  | 0, .ct xs, h => by simp [okA] at h
  | n + 1, .vl xs, h => by
    simp only [okA] at h
    obtain ⟨h1, h2⟩ := ok_shapeL n xs h
    simp only [datA, PyData.canLay0, PyData.depth]
    exact ⟨h1, by omega⟩
  | n + 1, .cl xs, h => by
    simp only [okA] at h
    obtain ⟨h1, h2⟩ := ok_shapeL n xs h
    simp only [datA, PyData.canLay0, PyData.depth]
    exact ⟨h1, by omega⟩
  | n + 1, .tup xs, h => by
    simp only [okA] at h
    obtain ⟨h1, h2⟩ := ok_shapeL n xs h
    simp only [datA, PyData.canLay0, PyData.depth]
    exact ⟨h1, by omega⟩
  | n + 1, .ct xs, h => by
    simp only [okA] at h
    obtain ⟨h1, h2⟩ := ok_shapeL n xs h
    simp only [datA, PyData.canLay0, PyData.depth]
    exact ⟨h1, by omega⟩
  | n, .vd _ _, h => by simp [okA] at h
  | n, .ob _ _, h => by simp [okA] at h
  | n, .ref _, h => by simp [okA] at h
theorem ok_shapeL : ∀ (n : Nat) (a : List AV), okL n a = true → PyData.canLayAll0 (datL a) = true ∧ PyData.depthAll (datL a) ≤ n
  | n, [], _ => by simp [datL, PyData.canLayAll0, PyData.depthAll]
  | n, x :: xs, h => by
    simp only [okL, Bool.and_eq_true] at h
    obtain ⟨h1, h2⟩ := ok_shape n x h.1
    obtain ⟨h3, h4⟩ := ok_shapeL n xs h.2
    simp only [datL, PyData.canLayAll0, PyData.depthAll, h1, h3, Bool.and_self, true_and]
    omega
end
theorem ok_shaped {a : AV} (h : okA 60 a = true) : SeqAt.shaped (datA a) = true := by
  obtain ⟨h1, h2⟩ := ok_shape 60 a h
  unfold SeqAt.shaped
  rw [h1, Bool.true_and]
  exact decide_eq_true (by omega)
mutual
theorem dp_of {K : PySem.W.Frag} {U F H : Hp} {ρ : List Addr} {S : SS} {σ : St} (R : Rep K U F ρ S σ H) : ∀ (n : Nat) (a : AV) (v : V), okA n a = true → Emb K F ρ a v → Dp K H v (datA a)
  | n, .non, v, _, h => by rw [emb_non h]; simp only [datA]; exact .non
  | n, .bl b, v, _, h => by rw [emb_bl h]; simp only [datA]; exact .bl b
  | n, .int b, v, _, h => by rw [emb_int h]; simp only [datA]; exact .int b
  | n, .str b, v, _, h => by rw [emb_str h]; simp only [datA]; exact .str b
  | 0, .vl xs, v, o, h => by simp [okA] at o
  | 0, .cl xs, v, o, h => by simp [okA] at o
  | 0, .tup xs, v, o, h => by simp [okA] at o
  | 0, .ct xs, v, o, h => by simp [okA] at o
  | n + 1, .vl xs, v, o, h => by
    simp only [okA] at o
    simp only [Emb] at h
    obtain ⟨p, vs, rfl, h1, h2⟩ := h
    simp only [datA]
    exact .lst (R.lstF (SqL.of h1)) (dp_ofL R n xs vs o h2)
  | n + 1, .cl xs, v, o, h => by
    simp only [okA] at o
    simp only [Emb] at h
    obtain ⟨p, vs, rfl, h1, h2⟩ := h
    simp only [datA]
    exact .lst (R.lstF h1) (dp_ofL R n xs vs o h2)
  | n + 1, .tup xs, v, o, h => by
    simp only [okA] at o
    simp only [Emb] at h
    obtain ⟨p, vs, rfl, h1, h2⟩ := h
    simp only [datA]
    exact .tup (SqT.of (R.tupF h1)) (dp_ofL R n xs vs o h2)
  | n + 1, .ct xs, v, o, h => by
    simp only [okA] at o
    simp only [Emb] at h
    obtain ⟨p, vs, rfl, h1, h2⟩ := h
    simp only [datA]
    exact .tup (seqT0 h1) (dp_ofL R n xs vs o h2)
  | n, .vd _ _, _, o, _ => by simp [okA] at o
  | n, .ob _ _, _, o, _ => by simp [okA] at o
  | n, .ref _, _, o, _ => by simp [okA] at o
theorem dp_ofL {K : PySem.W.Frag} {U F H : Hp} {ρ : List Addr} {S : SS} {σ : St} (R : Rep K U F ρ S σ H) : ∀ (n : Nat) (a : List AV) (v : List V), okL n a = true → EmbL K F ρ a v → DpAll K H v (datL a)
  | n, [], v, _, h => by simp only [EmbL] at h; subst h; simp only [datL]; exact .nil
  | n, x :: xs, v, o, h => by
    simp only [EmbL] at h
    obtain ⟨w, r, rfl, h1, h2⟩ := h
    simp only [okL, Bool.and_eq_true] at o
    simp only [datL]
    exact .cons (dp_of R n x w o.1 h1) (dp_ofL R n xs r o.2 h2)
end
theorem beq_dec {α : Type} [BEq α] [LawfulBEq α] [DecidableEq α] (a b : α) : (a == b) = decide (a = b) := by
  by_cases h : a = b
  · rw [decide_eq_true h, h]; exact beq_self_eq_true b
  · rw [decide_eq_false h]; exact beq_eq_false_iff_ne.mpr h
mutual
theorem eqv_eq : ∀ (n : Nat) (a b : AV), okA n a = true → okA n b = true → PyData.eqv (datA a) (datA b) = eqA a b := by
  intro n a b ha hb
  cases a <;> cases b <;> first
    | (simp [okA] at ha; done)
    | (simp [okA] at hb; done)
    | (simp only [datA, PyData.eqv, eqA]; done)
    | (simp only [datA, PyData.eqv, eqA, beq_dec]; done)
    | (cases n with
        | zero => first | (simp [okA] at ha; done) | (simp [okA] at hb; done)
        | succ n =>
          simp only [okA] at ha hb
          simp only [datA, PyData.eqv, eqA]
          exact eqvL_eq n _ _ ha hb)
theorem eqvL_eq : ∀ (n : Nat) (a b : List AV), okL n a = true → okL n b = true → PyData.eqvAll (datL a) (datL b) = eqL a b
  | n, [], [], _, _ => by simp [datL, PyData.eqvAll, eqL]
  | n, [], _ :: _, _, _ => by simp [datL, PyData.eqvAll, eqL]
  | n, _ :: _, [], _, _ => by simp [datL, PyData.eqvAll, eqL]
  | n, x :: xs, y :: ys, ha, hb => by
    simp only [okL, Bool.and_eq_true] at ha hb
    simp only [datL, PyData.eqvAll, eqL, eqv_eq n x y ha.1 hb.1, eqvL_eq n xs ys ha.2 hb.2]
end
end
end LM

namespace LM
open PySem PySem.Spec PyProof.Rows L2
section
variable {X : Cx} {pos : Pos}
/-! ## == , in, is None -/
/-- a place as data -/
def plP (pv : PV) (s : SS) : Option AV := match coP pv s with
  | .ob (.lst xs) => some (.vl xs)
  | _ => avP pv s
theorem plP_dp {K : PySem.W.Frag} {U F H : Hp} {ρ : List Addr} {S : SS} {σ : St} (R : Rep K U F ρ S σ H) {p : PV} {v : V} {a : AV} (h : EmbP K F ρ σ p v) (e : plP p S = some a) (o : okA 60 a = true) : Dp K H v (datA a) := by
  unfold plP at e
  have c := coP_ok R h
  split at e
  · rename_i xs hc
    cases e
    rw [hc] at c
    obtain ⟨q, vs, rfl, h1, h2⟩ := c
    simp only [okA] at o
    simp only [datA]
    exact .lst h1 (dp_ofL R 59 xs vs o h2)
  · exact dp_of R 60 a v o (avP_ok R h e)
def eqC (s : SS) (a b : PV) : Option Bool := match plP a s, plP b s with
  | some x, some y => if okA 60 x && okA 60 y then some (eqA x y) else none
  | _, _ => none
def neC (s : SS) (a b : PV) : Option Bool := (eqC s a b).map (!·)
theorem gc_eq : GoodC X eqC (rEqD X.K) := by
  intro U F ρ S σ H a b k x y Q R ea eb e q
  unfold eqC at e
  split at e
  · rename_i u w h1 h2
    split at e
    · rename_i h3
      cases e
      obtain ⟨o1, o2⟩ := Bool.and_eq_true_iff.mp h3
      refine ⟨datA u, datA w, plP_dp R ea h1 o1, plP_dp R eb h2 o2, ok_shaped o1, ok_shaped o2, ?_⟩
      rw [eqv_eq 60 u w o1 o2]
      exact q
    · cases e
  · cases e
theorem gc_ne : GoodC X neC (rNeD X.K) := by
  intro U F ρ S σ H a b k x y Q R ea eb e q
  unfold neC eqC at e
  split at e
  · rename_i u w h1 h2
    split at e
    · rename_i h3
      cases e
      obtain ⟨o1, o2⟩ := Bool.and_eq_true_iff.mp h3
      refine ⟨datA u, datA w, plP_dp R ea h1 o1, plP_dp R eb h2 o2, ok_shaped o1, ok_shaped o2, ?_⟩
      rw [eqv_eq 60 u w o1 o2]
      exact q
    · cases e
  · cases e
theorem pt_eq {a b : Expr} {f g : M PV} (hu : X.A.units + 64 < cLine) (ha : PPm X a f) (hb : PPm X b g) : PTm X (.Compare a [.Eq] [b] pos) (cmpM eqC f g) := pt_cm (op_eqD hu) gc_eq ha hb (nomark _)
theorem pm_eq {a b : Expr} {f g : M PV} (hu : X.A.units + 64 < cLine) (ha : PPm X a f) (hb : PPm X b g) : PEm X (.Compare a [.Eq] [b] pos) (bvM (cmpM eqC f g)) := pm_cm (op_eqD hu) gc_eq ha hb (nomark _)
theorem pt_ne {a b : Expr} {f g : M PV} (hu : X.A.units + 64 < cLine) (ha : PPm X a f) (hb : PPm X b g) : PTm X (.Compare a [.NotEq] [b] pos) (cmpM neC f g) := pt_cm (op_neD hu) gc_ne ha hb (nomark _)
theorem pm_ne {a b : Expr} {f g : M PV} (hu : X.A.units + 64 < cLine) (ha : PPm X a f) (hb : PPm X b g) : PEm X (.Compare a [.NotEq] [b] pos) (bvM (cmpM neC f g)) := pm_cm (op_neD hu) gc_ne ha hb (nomark _)
/-- x in a dict, a list, a tuple, a text -/
def inL (x : AV) (xs : List AV) : Bool := xs.any fun y => eqA y x
theorem any_dat {x : AV} (ox : okA 60 x = true) : ∀ {xs : List AV}, okL 59 xs = true → ((datL xs).any fun z => PyData.eqv z (datA x)) = inL x xs
  | [], _ => rfl
  | y :: ys, h => by
    have h2 : okA 59 y = true ∧ okL 59 ys = true := by simpa [okL] using h
    have m : ∀ (n : Nat), (∀ a, okA n a = true → okA (n + 1) a = true) ∧ ∀ a, okL n a = true → okL (n + 1) a = true := by
      intro n
      induction n with
      | zero =>
        have h1 : ∀ a, okA 0 a = true → okA 1 a = true := fun a h => by cases a <;> simp_all [okA]
        refine ⟨h1, fun a => ?_⟩
        induction a with
        | nil => intro _; rfl
        | cons b bs ih => intro h; simp only [okL, Bool.and_eq_true] at h ⊢; exact ⟨h1 b h.1, ih h.2⟩
      | succ n ihn =>
        obtain ⟨i1, i2⟩ := ihn
        have h1 : ∀ a, okA (n + 1) a = true → okA (n + 1 + 1) a = true := fun a h => by
          cases a <;> first
            | exact h
            | (simp only [okA] at h ⊢; exact i2 _ h)
            | (simp [okA] at h)
        refine ⟨h1, fun a => ?_⟩
        induction a with
        | nil => intro _; rfl
        | cons b bs ih => intro h; simp only [okL, Bool.and_eq_true] at h ⊢; exact ⟨h1 b h.1, ih h.2⟩
    simp only [datL, List.any_cons, inL]
    rw [eqv_eq 60 y x ((m 59).1 y h2.1) ox, any_dat ox h2.2]
    rfl
def inCd (s : SS) (a b : PV) : Option Bool := match plP a s, coP b s with
  | some k, .ob (.dic t kvs) => if (kk t k).isSome then some (dGet t kvs k).isSome else none
  | some x, .ob (.lst xs) => if okA 60 x && okA 60 (.vl xs) then some (inL x xs) else none
  | some x, .tup xs => if okA 60 x && okA 60 (.tup xs) then some (inL x xs) else none
  | _, _ => none
def inCs (s : SS) (a b : PV) : Option Bool := match plP a s, coP b s with
  | some (.str i), .str j => some (!(Builtin.Str.occurrences j i 0 j.length 1).isEmpty)
  | _, _ => none
def ng : Bool → Bool → Bool
  | false, k => k
  | true, k => !k
def rInA (neg : Bool) (K : PySem.W.Frag) : R2 := fun x y H Q =>
  (∃ a o, y = .ref a ∧ DGet H a x o ∧ Q (.bl (ng neg o.isSome)) H) ∨
  (∃ d ds, Dp K H x d ∧ (Dp K H y (.list ds) ∨ Dp K H y (.tuple ds)) ∧ SeqAt.shaped d = true ∧ SeqAt.shaped (.list ds) = true ∧ Q (.bl (ng neg (ds.any fun z => PyData.eqv z d))) H)
theorem room_in (hu : X.A.units + 65 < cLine) {d : PyData} {ds : List PyData} (sd : SeqAt.shaped d = true) : X.A.units + 1 + min (PyData.depthAll ds) d.depth < cLine := by
  have h1 := SeqAt.depth_of_shaped sd
  have h2 : min (PyData.depthAll ds) d.depth ≤ d.depth := Nat.min_le_right _ _
  omega
theorem op_inA (hu : X.A.units + 65 < cLine) : OpR X (compareOp .In) (rInA false X.K) := by
  intro pins s σ H x y v u Q I rx ry h
  rcases h with ⟨a, o, rfl, g, q⟩ | ⟨d, ds, hd, he | he, sd, se, q⟩
  · obtain rfl : u = Value.ref a := ry
    exact d_in (by omega) I g rx fun s' I' => ⟨.bl _, H, I', rfl, q⟩
  · exact op_inD hu pins s σ H x y v u Q I rx ry ⟨d, ds, hd, he, sd, se, q⟩
  · obtain ⟨as, r1⟩ := Dp.reads I d x v hd rx
    obtain ⟨bs, r2⟩ := Dp.reads I (.tuple ds) y u he ry
    exact SeqAt.in_tuple_reads r2 r1 (SeqAt.canLay_of_shaped se) (SeqAt.canLay_of_shaped sd) (room_in hu sd) ⟨.bl _, H, I, rfl, q⟩
theorem op_notInA (hu : X.A.units + 65 < cLine) : OpR X (compareOp .NotIn) (rInA true X.K) := by
  intro pins s σ H x y v u Q I rx ry h
  rcases h with ⟨a, o, rfl, g, q⟩ | ⟨d, ds, hd, he | he, sd, se, q⟩
  · obtain rfl : u = Value.ref a := ry
    exact d_notIn (by omega) I g rx fun s' I' => ⟨.bl _, H, I', rfl, q⟩
  · exact op_notInD hu pins s σ H x y v u Q I rx ry ⟨d, ds, hd, he, sd, se, q⟩
  · obtain ⟨as, r1⟩ := Dp.reads I d x v hd rx
    obtain ⟨bs, r2⟩ := Dp.reads I (.tuple ds) y u he ry
    exact SeqAt.notIn_tuple_reads r2 r1 (SeqAt.canLay_of_shaped se) (SeqAt.canLay_of_shaped sd) (room_in hu sd) ⟨.bl _, H, I, rfl, q⟩
theorem shaped_vl {xs : List AV} (h : okL 59 xs = true) : SeqAt.shaped (.list (datL xs)) = true := by
  have := ok_shaped (a := .vl xs) (by simpa only [okA] using h)
  simpa only [datA] using this
theorem plP_emb {K : PySem.W.Frag} {U F H : Hp} {ρ : List Addr} {S : SS} {σ : St} (R : Rep K U F ρ S σ H) {p : PV} {v : V} {a : AV} {t : Bool} (h : EmbP K F ρ σ p v) (e : plP p S = some a) (hk : (kk t a).isSome = true) : Emb K F ρ a v := by
  unfold plP at e
  split at e
  · cases e
    cases t <;> simp [kk, kOf, tkOf] at hk
  · exact avP_ok R h e
theorem gc_inA (neg : Bool) : GoodC X (fun s a b => (inCd s a b).map fun k => ng neg k) (rInA neg X.K) := by
  intro U F ρ S σ H a b k x y Q R ea eb e q
  dsimp only at e
  have cb := coP_ok R eb
  unfold inCd at e
  split at e
  · rename_i ka t kvs h1 h2
    rw [h2] at cb
    split at e
    · rename_i hk
      cases e
      obtain ⟨p, o, rfl, g, g1, g2⟩ := dget_ok R cb (plP_emb R ea h1 hk) hk
      refine .inl ⟨p, o, rfl, g, ?_⟩
      have : o.isSome = (dGet t kvs ka).isSome := by
        cases z : dGet t kvs ka with
        | none => rw [g2 z]; rfl
        | some w => obtain ⟨w', e', _⟩ := g1 w z; rw [e']; rfl
      rw [this]
      exact q
    · cases e
  · rename_i xa xs h1 h2
    rw [h2] at cb
    split at e
    · rename_i hk
      cases e
      obtain ⟨o1, o2⟩ := Bool.and_eq_true_iff.mp hk
      obtain ⟨p, vs, rfl, c1, c2⟩ := cb
      have o2' : okL 59 xs = true := by simpa only [okA] using o2
      refine .inr ⟨datA xa, datL xs, plP_dp R ea h1 o1, .inl (.lst c1 (dp_ofL R 59 xs vs o2' c2)), ok_shaped o1, shaped_vl o2', ?_⟩
      rw [any_dat o1 o2']
      exact q
    · cases e
  · rename_i xa xs h1 h2
    rw [h2] at cb
    split at e
    · rename_i hk
      cases e
      obtain ⟨o1, o2⟩ := Bool.and_eq_true_iff.mp hk
      obtain ⟨p, vs, rfl, c1, c2⟩ := cb
      have o2' : okL 59 xs = true := by simpa only [okA] using o2
      refine .inr ⟨datA xa, datL xs, plP_dp R ea h1 o1, .inr (.tup c1 (dp_ofL R 59 xs vs o2' c2)), ok_shaped o1, shaped_vl o2', ?_⟩
      rw [any_dat o1 o2']
      exact q
    · cases e
  · cases e
theorem gc_inS (neg : Bool) : GoodC X (fun s a b => (inCs s a b).map fun k => ng neg k) (fun x y H Q => ∃ i j, x = .str i ∧ y = .str j ∧ Q (.bl (ng neg (!(Builtin.Str.occurrences j i 0 j.length 1).isEmpty))) H) := by
  intro U F ρ S σ H a b k x y Q R ea eb e q
  dsimp only at e
  have cb := coP_ok R eb
  unfold inCs at e
  split at e
  · rename_i i j h1 h2
    rw [h2] at cb
    cases e
    have h3 : avP a S = some (.str i) := by
      unfold plP at h1
      split at h1
      · cases h1
      · exact h1
    exact ⟨i, j, emb_str (avP_ok R ea h3), cb, q⟩
  · cases e
def inC (s : SS) (a b : PV) : Option Bool := ((inCd s a b).map fun k => ng false k).or ((inCs s a b).map fun k => ng false k)
def ninC (s : SS) (a b : PV) : Option Bool := ((inCd s a b).map fun k => ng true k).or ((inCs s a b).map fun k => ng true k)
theorem pt_in {a b : Expr} {f g : M PV} (hu : X.A.units + 65 < cLine) (ha : PPm X a f) (hb : PPm X b g) (hm : behindInMarks .In b = false := by rfl) : PTm X (.Compare a [.In] [b] pos) (cmpM inC f g) := pt_cm (OpR.or (op_inA hu) op_in_str) ((gc_inA false).or (gc_inS false)) ha hb hm
theorem pm_in {a b : Expr} {f g : M PV} (hu : X.A.units + 65 < cLine) (ha : PPm X a f) (hb : PPm X b g) (hm : behindInMarks .In b = false := by rfl) : PEm X (.Compare a [.In] [b] pos) (bvM (cmpM inC f g)) := pm_cm (OpR.or (op_inA hu) op_in_str) ((gc_inA false).or (gc_inS false)) ha hb hm
theorem pt_nin {a b : Expr} {f g : M PV} (hu : X.A.units + 65 < cLine) (ha : PPm X a f) (hb : PPm X b g) (hm : behindInMarks .NotIn b = false := by rfl) : PTm X (.Compare a [.NotIn] [b] pos) (cmpM ninC f g) := pt_cm (OpR.or (op_notInA hu) op_notin_str) ((gc_inA true).or (gc_inS true)) ha hb hm
theorem pm_nin {a b : Expr} {f g : M PV} (hu : X.A.units + 65 < cLine) (ha : PPm X a f) (hb : PPm X b g) (hm : behindInMarks .NotIn b = false := by rfl) : PEm X (.Compare a [.NotIn] [b] pos) (bvM (cmpM ninC f g)) := pm_cm (OpR.or (op_notInA hu) op_notin_str) ((gc_inA true).or (gc_inS true)) ha hb hm
/-- is None -/
def nonV : AV → Bool
  | .non => true
  | _ => false
def nonP (pv : PV) (s : SS) : Option Bool := match avP pv s with
  | some a => some (nonV a)
  | none => match coP pv s with
    | .ob _ => some false
    | _ => none
theorem nonV_ok {K : PySem.W.Frag} {F : Hp} {ρ : List Addr} {a : AV} {v : V} (h : Emb K F ρ a v) : decide (v = .non) = nonV a := by
  cases a with
  | non => rw [emb_non h]; rfl
  | bl b => rw [emb_bl h]; rfl
  | int b => rw [emb_int h]; rfl
  | str b => rw [emb_str h]; rfl
  | tup xs => simp only [Emb] at h; obtain ⟨p, vs, rfl, _⟩ := h; rfl
  | ct xs => simp only [Emb] at h; obtain ⟨p, vs, rfl, _⟩ := h; rfl
  | vl xs => simp only [Emb] at h; obtain ⟨p, vs, rfl, _⟩ := h; rfl
  | cl xs => simp only [Emb] at h; obtain ⟨p, vs, rfl, _⟩ := h; rfl
  | vd t kvs => simp only [Emb] at h; obtain ⟨p, rfl, _⟩ := h; rfl
  | ob c fs => simp only [Emb] at h; obtain ⟨p, _, _, rfl, _⟩ := h; rfl
  | ref i => simp only [Emb] at h; obtain ⟨p, rfl, _⟩ := h; rfl
theorem nonP_ok {K : PySem.W.Frag} {U F H : Hp} {ρ : List Addr} {S : SS} {σ : St} (R : Rep K U F ρ S σ H) {p : PV} {v : V} {k : Bool} (h : EmbP K F ρ σ p v) (e : nonP p S = some k) : decide (v = .non) = k := by
  unfold nonP at e
  split at e
  · rename_i a ha
    cases e
    exact nonV_ok (avP_ok R h ha)
  · have c := coP_ok R h
    split at e
    · rename_i o ho
      cases e
      rw [ho] at c
      cases o with
      | lst xs => obtain ⟨p, vs, rfl, _⟩ := c; rfl
      | dic t kvs => obtain ⟨p, rfl, _⟩ := c; rfl
      | ins c' fs => obtain ⟨p, _, _, rfl, _⟩ := c; rfl
    · cases e
def isNC (s : SS) (a b : PV) : Option Bool := match avP b s with
  | some .non => nonP a s
  | _ => none
theorem gc_isN : GoodC X isNC (fun x y H Q => y = .non ∧ Q (.bl (decide (x = .non))) H) := by
  intro U F ρ S σ H a b k x y Q R ea eb e q
  unfold isNC at e
  split at e
  · rename_i h1
    refine ⟨emb_non (avP_ok R eb h1), ?_⟩
    rw [nonP_ok R ea e]
    exact q
  · cases e
theorem gc_notN : GoodC X (fun s a b => (isNC s a b).map (!·)) (fun x y H Q => y = .non ∧ Q (.bl (!decide (x = .non))) H) := by
  intro U F ρ S σ H a b k x y Q R ea eb e q
  dsimp only at e
  unfold isNC at e
  split at e
  · rename_i h1
    cases z : nonP a S with
    | none => rw [z] at e; cases e
    | some k' =>
      rw [z] at e
      cases e
      refine ⟨emb_non (avP_ok R eb h1), ?_⟩
      rw [nonP_ok R ea z]
      exact q
  · cases e
abbrev notNC (s : SS) (a b : PV) : Option Bool := (isNC s a b).map (!·)
theorem pt_isN {a b : Expr} {f g : M PV} (ha : PPm X a f) (hb : PPm X b g) : PTm X (.Compare a [.Is] [b] pos) (cmpM isNC f g) := pt_cm op_isN gc_isN ha hb (nomark _)
theorem pm_isN {a b : Expr} {f g : M PV} (ha : PPm X a f) (hb : PPm X b g) : PEm X (.Compare a [.Is] [b] pos) (bvM (cmpM isNC f g)) := pm_cm op_isN gc_isN ha hb (nomark _)
theorem pt_notN {a b : Expr} {f g : M PV} (ha : PPm X a f) (hb : PPm X b g) : PTm X (.Compare a [.IsNot] [b] pos) (cmpM notNC f g) := pt_cm op_notN gc_notN ha hb (nomark _)
theorem pm_notN {a b : Expr} {f g : M PV} (ha : PPm X a f) (hb : PPm X b g) : PEm X (.Compare a [.IsNot] [b] pos) (bvM (cmpM notNC f g)) := pm_cm op_notN gc_notN ha hb (nomark _)
/-! ## and, or, not, if -/
def andM (f g : M Bool) : M Bool := bindM f fun k => if k = true then g else fun s => .ok false s
def orM (f g : M Bool) : M Bool := bindM f fun k => if k = true then fun s => .ok true s else g
def notM (f : M Bool) : M Bool := bindM f fun k s => .ok (!k) s
def ifM {α : Type} (c : M Bool) (f g : M α) : M α := bindM c fun k => if k = true then f else g
theorem rt_eq {K : PySem.W.Frag} {U : Hp} {σ : St} {F : Hp} {ρ : List Addr} {S : SS} {H : Hp} {a b : Bool} (h : RT K U σ F ρ S H a b) : b = a := h
theorem pw_a1 {a : Expr} {f : M Bool} (h : PTm X a f) : PWm X (.BoolOp .And [a] pos) f := fun W tk => pw_and1 (h W tk)
theorem pw_o1 {a : Expr} {f : M Bool} (h : PTm X a f) : PWm X (.BoolOp .Or [a] pos) f := fun W tk => pw_or1 (h W tk)
theorem pw_aM {a b : Expr} {rest : List Expr} {f g : M Bool} (h : PTm X a f) (h2 : PWm X (.BoolOp .And (b :: rest) pos) g) : PWm X (.BoolOp .And (a :: b :: rest) pos) (andM f g) := fun W tk =>
  PW.weak (pw_and (h W tk) (h2 W tk)) fun σ H Q ⟨U, F, ρ, S, R, p⟩ => ⟨U, F, ρ, S, R, Post.seq p fun F1 ρ1 S1 H1 a1 b1 s1 q1 r1 e1 p1 => by
    have e1 := rt_eq e1
    subst e1
    cases b1 with
    | true => rw [if_pos rfl] at p1 ⊢; exact ⟨U, F1, ρ1, S1, r1, p1⟩
    | false => rw [if_neg Bool.false_ne_true] at p1 ⊢; exact p1 F1 ρ1 H1 false (Same.refl _) (List.prefix_refl _) r1 rfl⟩
theorem pw_oM {a b : Expr} {rest : List Expr} {f g : M Bool} (h : PTm X a f) (h2 : PWm X (.BoolOp .Or (b :: rest) pos) g) : PWm X (.BoolOp .Or (a :: b :: rest) pos) (orM f g) := fun W tk =>
  PW.weak (pw_or (h W tk) (h2 W tk)) fun σ H Q ⟨U, F, ρ, S, R, p⟩ => ⟨U, F, ρ, S, R, Post.seq p fun F1 ρ1 S1 H1 a1 b1 s1 q1 r1 e1 p1 => by
    have e1 := rt_eq e1
    subst e1
    cases b1 with
    | true => rw [if_pos rfl] at p1 ⊢; exact p1 F1 ρ1 H1 true (Same.refl _) (List.prefix_refl _) r1 rfl
    | false => rw [if_neg Bool.false_ne_true] at p1 ⊢; exact ⟨U, F1, ρ1, S1, r1, p1⟩⟩
theorem pt_w {e : Expr} {f : M Bool} (h : PWm X e f) : PTm X e f := fun W tk => PW.pt (h W tk)
theorem pt_nt {a : Expr} {f : M Bool} (h : PTm X a f) : PTm X (.UnaryOp .Not a pos) (notM f) := fun W tk =>
  PT.weak (pt_not (h W tk)) fun σ H Q ⟨U, F, ρ, S, R, p⟩ => ⟨U, F, ρ, S, R, Post.seq p fun F1 ρ1 S1 H1 a1 b1 s1 q1 r1 e1 p1 => by
    have e1 := rt_eq e1
    subst e1
    exact p1 F1 ρ1 H1 _ (Same.refl _) (List.prefix_refl _) r1 rfl⟩
theorem pm_if {c a b : Expr} {t : M Bool} {f g : M AV} (hc : PTm X c t) (ha : PEm X a f) (hb : PEm X b g) : PEm X (.IfExp c a b pos) (ifM t f g) := fun W tk =>
  PE.weak (pe_ifExp (hc W tk) (ha W tk) (hb W tk)) fun σ H Q ⟨U, F, ρ, S, R, p⟩ => ⟨U, F, ρ, S, R, Post.seq p fun F1 ρ1 S1 H1 a1 b1 s1 q1 r1 e1 p1 => by
    have e1 := rt_eq e1
    subst e1
    cases b1 with
    | true => rw [if_pos rfl] at p1 ⊢; exact ⟨U, F1, ρ1, S1, r1, p1⟩
    | false => rw [if_neg Bool.false_ne_true] at p1 ⊢; exact ⟨U, F1, ρ1, S1, r1, p1⟩⟩
/-- an expression by its truth -/
def truP (pv : PV) (s : SS) : Option Bool := match coP pv s with
  | .ob (.lst xs) => some (!xs.isEmpty)
  | .tup xs => some (!xs.isEmpty)
  | .ob (.dic _ _) => none
  | .str x => if x.length ≤ 16777216 then some (x.length != 0) else none
  | _ => match avP pv s with
    | some .non => some false
    | some (.bl b) => some b
    | some (.int i) => some (i != 0)
    | _ => none
theorem embL_empty {K : PySem.W.Frag} {F : Hp} {ρ : List Addr} {xs : List AV} {vs : List V} (h : EmbL K F ρ xs vs) : xs.isEmpty = vs.isEmpty := by
  cases xs with
  | nil => simp only [EmbL] at h; subst h; rfl
  | cons x xs => simp only [EmbL] at h; obtain ⟨v, r, rfl, _⟩ := h; rfl
theorem truP_ok {K : PySem.W.Frag} {U F H : Hp} {ρ : List Addr} {S : SS} {σ : St} (R : Rep K U F ρ S σ H) {p : PV} {v : V} {k : Bool} (h : EmbP K F ρ σ p v) (e : truP p S = some k) : TruV K v H k := by
  have c := coP_ok R h
  unfold truP at e
  split at e
  · rename_i xs hc
    cases e; rw [hc] at c
    obtain ⟨q, vs, rfl, h1, h2⟩ := c
    exact .inl ⟨vs, h1, by rw [embL_empty h2]⟩
  · rename_i xs hc
    cases e; rw [hc] at c
    obtain ⟨q, vs, rfl, h1, h2⟩ := c
    exact .inr (.inl ⟨vs, h1, by rw [embL_empty h2]⟩)
  · cases e
  · rename_i x hc
    rw [hc] at c
    split at e
    · cases e
      have c : v = .str x := c
      subst c
      refine ⟨by rw [sz]; assumption, ?_⟩
      cases hx : x.length with
      | zero => rfl
      | succ n =>
        have h1 : ((n + 1 : Nat) : Int) ≠ 0 := by omega
        rw [bne_iff_ne.mpr h1]; rfl
    · cases e
  · split at e
    · rename_i ha; cases e; rw [emb_non (avP_ok R h ha)]; rfl
    · rename_i ha; cases e; rw [emb_bl (avP_ok R h ha)]; rfl
    · rename_i ha; cases e; rw [emb_int (avP_ok R h ha)]; rfl
    · cases e
def truM (f : M PV) : M Bool := bindM f fun p s => match truP p s with
  | some k => .ok k s
  | none => .stuck
theorem pt_tru {e : Expr} {f : M PV} (h : PPm X e f) (he : ∀ whole, isTrue e X.env whole = (do let v ← whole; standAt e.pos; holding [v] (truthy v)) := by intro _; rfl) : PTm X e (truM f) := fun W tk =>
  PT.weak (pt_truth (h W tk) he) fun σ H Q ⟨U, F, ρ, S, R, p⟩ => ⟨U, F, ρ, S, R, Post.seq p fun F1 ρ1 S1 H1 a1 b1 s1 q1 r1 e1 p1 => by
    have p1 : Post X.K U F1 ρ1 σ (RT X.K U σ) W Q (match truP a1 S1 with | some k => .ok k S1 | none => .stuck) := p1
    cases z : truP a1 S1 with
    | none => rw [z] at p1; exact p1.elim
    | some k =>
      rw [z] at p1
      exact ⟨k, truP_ok r1 e1 z, p1 F1 ρ1 H1 k (Same.refl _) (List.prefix_refl _) r1 rfl⟩⟩
/-- and, or as values (of truth values) -/
def andVM (f g : M AV) : M AV := bindM f fun a s => match a with
  | .bl true => g s
  | .bl false => .ok (.bl false) s
  | _ => .stuck
def orVM (f g : M AV) : M AV := bindM f fun a s => match a with
  | .bl false => g s
  | .bl true => .ok (.bl true) s
  | _ => .stuck
theorem pm_one {op} {a : Expr} {f : M AV} (h : PEm X a f) : PEm X (.BoolOp op [a] pos) f := fun W tk => pe_one (h W tk)
theorem pm_and {a b : Expr} {rest : List Expr} {f g : M AV} (h : PEm X a f) (h2 : PEm X (.BoolOp .And (b :: rest) pos) g) : PEm X (.BoolOp .And (a :: b :: rest) pos) (andVM f g) := fun W tk =>
  PE.weak (pe_and (h W tk) (h2 W tk)) fun σ H Q ⟨U, F, ρ, S, R, p⟩ => ⟨U, F, ρ, S, R, Post.seq p fun F1 ρ1 S1 H1 a1 b1 s1 q1 r1 e1 p1 => by
    cases a1 with
    | bl k =>
      refine ⟨k, emb_bl e1, ?_⟩
      cases k with
      | true => rw [if_pos rfl]; exact ⟨U, F1, ρ1, S1, r1, p1⟩
      | false => rw [if_neg Bool.false_ne_true]; exact p1 F1 ρ1 H1 _ (Same.refl _) (List.prefix_refl _) r1 emb_bl'
    | _ => exact p1.elim⟩
theorem pm_or {a b : Expr} {rest : List Expr} {f g : M AV} (h : PEm X a f) (h2 : PEm X (.BoolOp .Or (b :: rest) pos) g) : PEm X (.BoolOp .Or (a :: b :: rest) pos) (orVM f g) := fun W tk =>
  PE.weak (pe_or (h W tk) (h2 W tk)) fun σ H Q ⟨U, F, ρ, S, R, p⟩ => ⟨U, F, ρ, S, R, Post.seq p fun F1 ρ1 S1 H1 a1 b1 s1 q1 r1 e1 p1 => by
    cases a1 with
    | bl k =>
      refine ⟨k, emb_bl e1, ?_⟩
      cases k with
      | true => rw [if_pos rfl]; exact p1 F1 ρ1 H1 _ (Same.refl _) (List.prefix_refl _) r1 emb_bl'
      | false => rw [if_neg Bool.false_ne_true]; exact ⟨U, F1, ρ1, S1, r1, p1⟩
    | _ => exact p1.elim⟩
def notVM (f : M AV) : M AV := bindM f fun a s => match a with
  | .bl b => .ok (.bl (!b)) s
  | _ => .stuck
theorem pm_not {a : Expr} {f : M AV} (h : PEm X a f) : PEm X (.UnaryOp .Not a pos) (notVM f) := fun W tk =>
  PE.weak (pe_not (h W tk)) fun σ H Q ⟨U, F, ρ, S, R, p⟩ => ⟨U, F, ρ, S, R, Post.seq p fun F1 ρ1 S1 H1 a1 b1 s1 q1 r1 e1 p1 => by
    cases a1 with
    | bl k => exact ⟨k, emb_bl e1, p1 F1 ρ1 H1 _ (Same.refl _) (List.prefix_refl _) r1 emb_bl'⟩
    | _ => exact p1.elim⟩
/-- a < b < c of ints -/
def chainM (c1 c2 : SS → PV → PV → Option Bool) (f g h : M PV) : M Bool := bindM f fun a => bindM g fun b s => match c1 s a b with
  | some true => bindM h (fun c s => match c2 s b c with
    | some k => .ok k s
    | none => .stuck) s
  | some false => .ok false s
  | none => .stuck
theorem chain_core {c1 c2 : SS → PV → PV → Option Bool} {r r' : R2} {f g h : M PV} {W : WX} (g1 : GoodC X c1 r) (g2 : GoodC X c2 r') {σ : St} {H : Hp} {Q : Bool → Hp → Prop} (hh : tG X.K W (RT X.K) (chainM c1 c2 f g h) σ H Q) :
    (fun σ H Q => tChain r r' (tG X.K W (RP X.K) f) (tG X.K W (RP X.K) g) (tG X.K W (RP X.K) h) σ H fun z H4 => ∃ d, z = .bl d ∧ Q d H4) σ H Q := by
  obtain ⟨U, F, ρ, S, R, p⟩ := hh
  refine ⟨U, F, ρ, S, R, Post.seq p fun F1 ρ1 S1 H1 a1 x s1 q1 r1 e1 p1 => ?_⟩
  refine ⟨U, F1, ρ1, S1, r1, Post.seq p1 fun F2 ρ2 S2 H2 b1 y s2 q2 r2 e2 p2 => ?_⟩
  have p2 : Post X.K U F2 ρ2 σ (RT X.K U σ) W Q (match c1 S2 a1 b1 with
    | some true => bindM h (fun c s => match c2 s b1 c with
      | some k => .ok k s
      | none => .stuck) S2
    | some false => .ok false S2
    | none => .stuck) := p2
  cases z : c1 S2 a1 b1 with
  | none => rw [z] at p2; exact p2.elim
  | some k =>
    rw [z] at p2
    refine g1 U F2 ρ2 S2 σ H2 a1 b1 k x y _ r2 (e1.mono s2 q2) e2 z ⟨k, rfl, ?_⟩
    cases k with
    | true =>
      rw [if_pos rfl]
      refine ⟨U, F2, ρ2, S2, r2, Post.seq p2 fun F3 ρ3 S3 H3 c3 w s3 q3 r3 e3 p3 => ?_⟩
      have p3 : Post X.K U F3 ρ3 σ (RT X.K U σ) W Q (match c2 S3 b1 c3 with | some k => .ok k S3 | none => .stuck) := p3
      cases z2 : c2 S3 b1 c3 with
      | none => rw [z2] at p3; exact p3.elim
      | some k2 =>
        rw [z2] at p3
        exact g2 U F3 ρ3 S3 σ H3 b1 c3 k2 y w _ r3 (e2.mono s3 q3) e3 z2 ⟨k2, rfl, p3 F3 ρ3 H3 k2 (Same.refl _) (List.prefix_refl _) r3 rfl⟩
    | false =>
      rw [if_neg Bool.false_ne_true]
      exact ⟨false, rfl, p2 F2 ρ2 H2 false (Same.refl _) (List.prefix_refl _) r2 rfl⟩
end
end LM

namespace LM
open PySem PySem.Spec PyProof.Rows L2
section
variable {X : Cx} {pos : Pos}
/-! ## argument lists -/
def nilM {α : Type} : M (List α) := fun s => .ok [] s
def consM {α : Type} (f : M α) (g : M (List α)) : M (List α) := bindM f fun a => bindM g fun as s => .ok (a :: as) s
theorem pam_nil : PAm X [] nilM := fun W tk => PA.weak pa_nil fun σ H Q ⟨U, F, ρ, S, R, p⟩ => p F ρ H [] (Same.refl _) (List.prefix_refl _) R (by simp [RL, EmbL])
theorem pam_cons {e : Expr} {es : List Expr} {f : M AV} {g : M (List AV)} (h : PEm X e f) (hr : PAm X es g) (hs : starEach (e :: es) X.env = (false, eval e X.env) :: starEach es X.env := by rfl) : PAm X (e :: es) (consM f g) := fun W tk =>
  PA.weak (pa_cons (h W tk) (hr W tk) hs) fun σ H Q ⟨U, F, ρ, S, R, p⟩ => ⟨U, F, ρ, S, R, Post.seq p fun F1 ρ1 S1 H1 a1 b1 s1 q1 r1 e1 p1 =>
    ⟨U, F1, ρ1, S1, r1, Post.seq p1 fun F2 ρ2 S2 H2 a2 b2 s2 q2 r2 e2 p2 => p2 F2 ρ2 H2 _ (Same.refl _) (List.prefix_refl _) r2 (by
      show EmbL X.K F2 ρ2 (a1 :: a2) (b1 :: b2)
      simp only [EmbL]
      exact ⟨b1, b2, rfl, Emb.mono s2 q2 _ _ e1, e2⟩)⟩⟩
def EmbPL (K : PySem.W.Frag) (F : Hp) (ρ : List Addr) (σ : St) : List PV → List V → Prop
  | [], vs => vs = []
  | a :: as, vs => ∃ v r, vs = v :: r ∧ EmbP K F ρ σ a v ∧ EmbPL K F ρ σ as r
def RPL (K : PySem.W.Frag) (_ : Hp) (σ : St) : RR (List PV) (List V) := fun F ρ _ _ a v => EmbPL K F ρ σ a v
def PApm (X : Cx) (es : List Expr) (f : M (List PV)) : Prop := ∀ W, Takes X W → PA X es (tG X.K W (RPL X.K) f)
theorem pap_nil : PApm X [] nilM := fun W tk => PA.weak pa_nil fun σ H Q ⟨U, F, ρ, S, R, p⟩ => p F ρ H [] (Same.refl _) (List.prefix_refl _) R (by simp [RPL, EmbPL])
theorem pap_cons {e : Expr} {es : List Expr} {f : M PV} {g : M (List PV)} (h : PPm X e f) (hr : PApm X es g) (hs : starEach (e :: es) X.env = (false, eval e X.env) :: starEach es X.env := by rfl) : PApm X (e :: es) (consM f g) := fun W tk =>
  PA.weak (pa_cons (h W tk) (hr W tk) hs) fun σ H Q ⟨U, F, ρ, S, R, p⟩ => ⟨U, F, ρ, S, R, Post.seq p fun F1 ρ1 S1 H1 a1 b1 s1 q1 r1 e1 p1 =>
    ⟨U, F1, ρ1, S1, r1, Post.seq p1 fun F2 ρ2 S2 H2 a2 b2 s2 q2 r2 e2 p2 => p2 F2 ρ2 H2 _ (Same.refl _) (List.prefix_refl _) r2 ⟨b1, b2, rfl, EmbP.mono s2 q2 e1, e2⟩⟩⟩
theorem Rep.newF {K : PySem.W.Frag} {U F H : Hp} {ρ : List Addr} {S : SS} {σ : St} {p : Addr} {u : HO} (R : Rep K U F ρ S σ H) (h : H p = none) : Rep K U (upd F p u) ρ S σ (upd H p u) ∧ Same F (upd F p u) := by
  obtain ⟨h1, h2, h3, h4⟩ := R.new h
  have R1 := R.laid (u := u) h
  have sm : Same F (upd F p u) := same_new h1
  refine ⟨⟨R1.len, fun b w e => ?_, R1.unt, R1.rln, R1.rnd, fun q hq => ?_, fun b w e => ?_, fun i o q e1 e2 => (R1.hp i o q e1 e2).mono sm (List.prefix_refl _) rfl, fun i a e => ?_, fun i o' e => ?_⟩, sm⟩
  · by_cases hb : b = p
    · subst hb; rw [upd_same] at e; cases e; exact .inl upd_same
    · rw [upd_ne hb] at e; exact R1.fro b w e
  · have ne : q ≠ p := fun z => h3 (z ▸ hq)
    rw [upd_ne ne]; exact R1.rF q hq
  · by_cases hb : b = p
    · subst hb; exact .inl h2
    · rw [upd_ne hb] at e; exact R1.FU b w e
  · obtain ⟨v, e1, e2⟩ := R1.val i a e
    exact ⟨v, e1, e2.mono sm (List.prefix_refl _)⟩
  · obtain ⟨q, e1, e2, e3, e4⟩ := R1.own i o' e
    have ne : q ≠ p := fun z => h4 i o' e (z ▸ e1)
    exact ⟨q, e1, e2.mono sm (List.prefix_refl _) rfl, by rw [upd_ne ne]; exact e3, e4⟩
/-! ## displays -/
def tupM (f : M (List AV)) : M AV := bindM f fun xs s => if xs.length ≤ 16777216 then .ok (.tup xs) s else .stuck
def lstM (f : M (List AV)) : M AO := bindM f fun xs s => if xs.length ≤ 16777216 then .ok (.lst xs) s else .stuck
theorem pm_tup {es : List Expr} {k} {f : M (List AV)} (h : PAm X es f) : PEm X (.Tuple es k pos) (tupM f) := fun W tk =>
  PE.weak (pe_tup (h W tk)) fun σ H Q ⟨U, F, ρ, S, R, p⟩ => ⟨U, F, ρ, S, R, Post.seq p fun F1 ρ1 S1 H1 a1 b1 s1 q1 r1 e1 p1 => by
    have e1 : EmbL X.K F1 ρ1 a1 b1 := e1
    split at p1
    · refine ⟨by rw [sz, e1.length]; assumption, fun n hn => ?_⟩
      obtain ⟨R2, sm⟩ := r1.newF (u := .tup b1) hn
      refine p1 _ ρ1 _ _ sm (List.prefix_refl _) R2 ?_
      simp only [RE, Emb]
      exact ⟨n, b1, rfl, upd_same, e1.mono sm (List.prefix_refl _)⟩
    · exact p1.elim⟩
theorem pn_lst {es : List Expr} {f : M (List AV)} (h : PAm X es f) : PNm X (.List es pos) (lstM f) := fun W tk =>
  PE.weak (pe_lst (h W tk)) fun σ H Q ⟨U, F, ρ, S, R, p⟩ => ⟨U, F, ρ, S, R, Post.seq p fun F1 ρ1 S1 H1 a1 b1 s1 q1 r1 e1 p1 => by
    have e1 : EmbL X.K F1 ρ1 a1 b1 := e1
    split at p1
    · refine ⟨by rw [sz, e1.length]; assumption, fun n hn => ?_⟩
      obtain ⟨R2, L⟩ := r1.newLoose (u := .lst b1) (o := .lst a1) hn ⟨b1, upd_same, e1⟩
      exact p1 F1 ρ1 _ _ (Same.refl _) (List.prefix_refl _) R2 ⟨n, rfl, L⟩
    · exact p1.elim⟩
def dicM (t : Bool) : M AO := fun s => .ok (.dic t []) s
theorem pn_dK : PNm X (.Dict [] [] pos) (dicM false) := fun W tk =>
  PE.weak pe_dnewK fun σ H Q ⟨U, F, ρ, S, R, p⟩ n hn => by
    obtain ⟨R2, L⟩ := R.newLoose (u := .dK []) (o := .dic false []) hn (.inl ⟨rfl, [], upd_same, by simp [EmbK]⟩)
    exact p F ρ _ _ (Same.refl _) (List.prefix_refl _) R2 ⟨n, rfl, L⟩
theorem pn_dT : PNm X (.Dict [] [] pos) (dicM true) := fun W tk =>
  PE.weak pe_dnewT fun σ H Q ⟨U, F, ρ, S, R, p⟩ n hn => by
    obtain ⟨R2, L⟩ := R.newLoose (u := .dT []) (o := .dic true []) hn (.inr ⟨rfl, [], upd_same, by simp [EmbT]⟩)
    exact p F ρ _ _ (Same.refl _) (List.prefix_refl _) R2 ⟨n, rfl, L⟩
/-! ## calls of built-ins -/
def GoodB (X : Cx) (op : SS → List PV → Option AV) (r : List V → Hp → VK → Prop) : Prop := ∀ U F ρ S σ H as c vs Q, Rep X.K U F ρ S σ H → EmbPL X.K F ρ σ as vs → op S as = some c →
  (∀ F' H' z, Same F F' → Rep X.K U F' ρ S σ H' → Emb X.K F' ρ c z → Q z H') → r vs H Q
def GoodBN (X : Cx) (op : SS → List PV → Option AO) (r : List V → Hp → VK → Prop) : Prop := ∀ U F ρ S σ H as c vs Q, Rep X.K U F ρ S σ H → EmbPL X.K F ρ σ as vs → op S as = some c →
  (∀ H' p, Rep X.K U F ρ S σ H' → Loose X.K U F ρ S σ H' p c → Q (.ref p) H') → r vs H Q
def cbM {α : Type} (op : SS → List PV → Option α) (f : M (List PV)) : M α := bindM f fun as s => match op s as with
  | some c => .ok c s
  | none => .stuck
theorem cb_core {op : SS → List PV → Option AV} {r : List V → Hp → VK → Prop} {f : M (List PV)} {W : WX} (hg : GoodB X op r) {σ : St} {H : Hp} {Q : VK} (h : tG X.K W (RE X.K) (cbM op f) σ H Q) : tCB r (tG X.K W (RPL X.K) f) σ H Q := by
  obtain ⟨U, F, ρ, S, R, p⟩ := h
  refine ⟨U, F, ρ, S, R, Post.seq p fun F1 ρ1 S1 H1 a1 b1 s1 q1 r1 e1 p1 => ?_⟩
  cases z : op S1 a1 with
  | none => rw [z] at p1; exact p1.elim
  | some c =>
    rw [z] at p1
    exact hg U F1 ρ1 S1 σ H1 a1 c b1 Q r1 e1 z fun F3 H3 w s3 r3 e3 => p1 F3 ρ1 H3 w s3 (List.prefix_refl _) r3 e3
theorem cbn_core {op : SS → List PV → Option AO} {r : List V → Hp → VK → Prop} {f : M (List PV)} {W : WX} (hg : GoodBN X op r) {σ : St} {H : Hp} {Q : VK} (h : tG X.K W (RN X.K) (cbM op f) σ H Q) : tCB r (tG X.K W (RPL X.K) f) σ H Q := by
  obtain ⟨U, F, ρ, S, R, p⟩ := h
  refine ⟨U, F, ρ, S, R, Post.seq p fun F1 ρ1 S1 H1 a1 b1 s1 q1 r1 e1 p1 => ?_⟩
  cases z : op S1 a1 with
  | none => rw [z] at p1; exact p1.elim
  | some c =>
    rw [z] at p1
    exact hg U F1 ρ1 S1 σ H1 a1 c b1 Q r1 e1 z fun H3 w r3 e3 => p1 F1 ρ1 H3 _ (Same.refl _) (List.prefix_refl _) r3 ⟨w, rfl, e3⟩
section
variable {x : Str} {p : Pos} {e : Expr} {es : List Expr} {id T : String} {f : M (List PV)} {r : List V → Hp → VK → Prop}
theorem pm_cB {op : SS → List PV → Option AV} (hc : CallR X (.builtin id) r) (hg : GoodB X op r) (hgl : Gl X x) (hm : X.mg x = none) (hv : bootBuiltins x = some (.builtin id)) (ha : PApm X (e :: es) f) (hn : x ≠ "__name__" := by decide) (hdb : (x == ("__debug__" : Str)) = false := by decide)
    (he : starEach (e :: es) X.env = (false, eval e X.env) :: starEach es X.env := by rfl) (hpl : (backTo pos (starEach es X.env)).any (·.1) = false := by rfl) : PEm X (.Call (.Name x p) (e :: es) [] pos) (cbM op f) := fun W tk =>
  PE.weak (pe_callB hc hgl hm hv (ha W tk) hn hdb he hpl) fun σ H Q h => cb_core hg h
theorem pm_cT {op : SS → List PV → Option AV} (hc : CallR X (.type T) r) (hg : GoodB X op r) (hgl : Gl X x) (hm : X.mg x = none) (hv : bootBuiltins x = some (.type T)) (ha : PApm X (e :: es) f) (hn : x ≠ "__name__" := by decide) (hdb : (x == ("__debug__" : Str)) = false := by decide)
    (he : starEach (e :: es) X.env = (false, eval e X.env) :: starEach es X.env := by rfl) (hpl : (backTo pos (starEach es X.env)).any (·.1) = false := by rfl) : PEm X (.Call (.Name x p) (e :: es) [] pos) (cbM op f) := fun W tk =>
  PE.weak (pe_callTy hc hgl hm hv (ha W tk) hn hdb he hpl) fun σ H Q h => cb_core hg h
theorem pn_cB {op : SS → List PV → Option AO} (hc : CallR X (.builtin id) r) (hg : GoodBN X op r) (hgl : Gl X x) (hm : X.mg x = none) (hv : bootBuiltins x = some (.builtin id)) (ha : PApm X (e :: es) f) (hn : x ≠ "__name__" := by decide) (hdb : (x == ("__debug__" : Str)) = false := by decide)
    (he : starEach (e :: es) X.env = (false, eval e X.env) :: starEach es X.env := by rfl) (hpl : (backTo pos (starEach es X.env)).any (·.1) = false := by rfl) : PNm X (.Call (.Name x p) (e :: es) [] pos) (cbM op f) := fun W tk =>
  PE.weak (pe_callB hc hgl hm hv (ha W tk) hn hdb he hpl) fun σ H Q h => cbn_core hg h
theorem pn_cT {op : SS → List PV → Option AO} (hc : CallR X (.type T) r) (hg : GoodBN X op r) (hgl : Gl X x) (hm : X.mg x = none) (hv : bootBuiltins x = some (.type T)) (ha : PApm X (e :: es) f) (hn : x ≠ "__name__" := by decide) (hdb : (x == ("__debug__" : Str)) = false := by decide)
    (he : starEach (e :: es) X.env = (false, eval e X.env) :: starEach es X.env := by rfl) (hpl : (backTo pos (starEach es X.env)).any (·.1) = false := by rfl) : PNm X (.Call (.Name x p) (e :: es) [] pos) (cbM op f) := fun W tk =>
  PE.weak (pe_callTy hc hgl hm hv (ha W tk) hn hdb he hpl) fun σ H Q h => cbn_core hg h
end
theorem embPL1 {K : PySem.W.Frag} {F : Hp} {ρ : List Addr} {σ : St} {a : PV} {vs : List V} (h : EmbPL K F ρ σ [a] vs) : ∃ v, vs = [v] ∧ EmbP K F ρ σ a v := by
  obtain ⟨v, r, rfl, h1, h2⟩ := h
  have h2 : r = [] := h2
  subst h2
  exact ⟨v, rfl, h1⟩
theorem embPL2 {K : PySem.W.Frag} {F : Hp} {ρ : List Addr} {σ : St} {a b : PV} {vs : List V} (h : EmbPL K F ρ σ [a, b] vs) : ∃ v w, vs = [v, w] ∧ EmbP K F ρ σ a v ∧ EmbP K F ρ σ b w := by
  obtain ⟨v, r, rfl, h1, h2⟩ := h
  obtain ⟨w, rfl, h3⟩ := embPL1 h2
  exact ⟨v, w, rfl, h1, h3⟩
def lenA (s : SS) : List PV → Option AV
  | [a] => match coP a s with
    | .ob (.lst xs) => some (.int xs.length)
    | .tup xs => some (.int xs.length)
    | .ob (.dic _ kvs) => some (.int kvs.length)
    | .str x => if x.length ≤ 16777216 then some (.int x.length) else none
    | _ => none
  | _ => none
def rLenA (K : PySem.W.Frag) : List V → Hp → VK → Prop := fun xs H Q =>
  (∃ x n, xs = [x] ∧ LenV K x H n ∧ Q (.int n) H) ∨ (∃ p kvs, xs = [.ref p] ∧ Rd H p (.dK kvs) ∧ Q (.int (kvs.length : Nat)) H) ∨ (∃ (p : Addr) (kvs : List (List Key × V)), xs = [.ref p] ∧ Rd H p (.dT kvs) ∧ Q (.int (kvs.length : Nat)) H)
theorem call_lenA : CallR X (.builtin "len") (rLenA X.K) := by
  intro pins s σ H xs us Q I r h
  rcases h with h | ⟨p, kvs, rfl, e, q⟩ | ⟨p, kvs, rfl, e, q⟩
  · exact call_len pins s σ H xs us Q I r h
  · obtain ⟨u, rfl, rx⟩ := vals1 r
    obtain rfl : u = .ref p := rx
    exact d_len I e fun t s' I' => ⟨.int ((kvs.length : Nat) : Int), H, I', ⟨t, rfl⟩, q⟩
  · obtain ⟨u, rfl, rx⟩ := vals1 r
    obtain rfl : u = .ref p := rx
    obtain ⟨z, hd, ys, rel, dd⟩ := dt_rd I.hok e
    have hl : kvs.length = ys.length := Paired.length rel
    refine call_len_dictH hd dd (by rw [← hl]; rw [sizeLine_eq] at z; omega) ?_
    rw [← hl]
    exact ⟨.int ((kvs.length : Nat) : Int), H, I.tok _, ⟨_, rfl⟩, q⟩
theorem gb_len : GoodB X lenA (rLenA X.K) := by
  intro U F ρ S σ H as c vs Q R ea e q
  unfold lenA at e
  split at e
  · rename_i a
    obtain ⟨v, rfl, h⟩ := embPL1 ea
    have cc := coP_ok R h
    split at e
    · rename_i xs hc
      cases e; rw [hc] at cc
      obtain ⟨p, ws, rfl, h1, h2⟩ := cc
      exact .inl ⟨_, xs.length, rfl, .inl ⟨ws, h1, h2.length.symm⟩, q F H _ (Same.refl _) R emb_int'⟩
    · rename_i xs hc
      cases e; rw [hc] at cc
      obtain ⟨p, ws, rfl, h1, h2⟩ := cc
      exact .inl ⟨_, xs.length, rfl, .inr ⟨ws, h1, h2.length.symm⟩, q F H _ (Same.refl _) R emb_int'⟩
    · rename_i t kvs hc
      cases e; rw [hc] at cc
      obtain ⟨p, rfl, ⟨rfl, kv, h1, h2⟩ | ⟨rfl, kv, h1, h2⟩⟩ := cc
      · exact .inr (.inl ⟨p, kv, rfl, h1, by rw [h2.length]; exact q F H _ (Same.refl _) R emb_int'⟩)
      · exact .inr (.inr ⟨p, kv, rfl, h1, by rw [h2.length]; exact q F H _ (Same.refl _) R emb_int'⟩)
    · rename_i x hc
      rw [hc] at cc
      split at e
      · cases e
        have cc : v = .str x := cc
        subst cc
        exact .inl ⟨_, x.length, rfl, ⟨by rw [sz]; assumption, rfl⟩, q F H _ (Same.refl _) R emb_int'⟩
      · cases e
    · cases e
  · cases e
theorem pm_len {p : Pos} {e : Expr} {f : M PV} (hm : X.mg "len" = none) (ha : PPm X e f) (hgl : Gl X "len" := by rfl) (hs : starEach [e] X.env = (false, eval e X.env) :: starEach [] X.env := by rfl) : PEm X (.Call (.Name "len" p) [e] [] pos) (cbM lenA (consM f nilM)) := pm_cB call_lenA gb_len hgl hm PySem.boot_len (pap_cons ha pap_nil hs) (he := hs)
/-- tuple(x) -/
def tupA (s : SS) : List PV → Option AV
  | [a] => match coP a s with
    | .ob (.lst xs) => some (.tup xs)
    | .tup xs => (avP a s)
    | _ => none
  | _ => none
theorem gb_tup : GoodB X tupA (fun xs H Q => ∃ p ys, xs = [.ref p] ∧ ((SqL X.K H p ys ∧ ∀ l, H l = none → Q (.ref l) (upd H l (.tup ys))) ∨ (SqT X.K H p ys ∧ Q (.ref p) H))) := by
  intro U F ρ S σ H as c vs Q R ea e q
  unfold tupA at e
  split at e
  · rename_i a
    obtain ⟨v, rfl, h⟩ := embPL1 ea
    have cc := coP_ok R h
    split at e
    · rename_i xs hc
      cases e; rw [hc] at cc
      obtain ⟨p, ws, rfl, h1, h2⟩ := cc
      refine ⟨p, ws, rfl, .inl ⟨h1, fun n hn => ?_⟩⟩
      obtain ⟨R2, sm⟩ := R.newF (u := .tup ws) hn
      refine q _ _ _ sm R2 ?_
      simp only [Emb]
      exact ⟨n, ws, rfl, upd_same, h2.mono sm (List.prefix_refl _)⟩
    · rename_i xs hc
      rw [hc] at cc
      obtain ⟨p, ws, rfl, h1, h2⟩ := cc
      exact ⟨p, ws, rfl, .inr ⟨h1, q F H _ (Same.refl _) R (avP_ok R h e)⟩⟩
    · cases e
  · cases e
theorem pm_tuple {p : Pos} {e : Expr} {f : M PV} (hm : X.mg "tuple" = none) (ha : PPm X e f) (hgl : Gl X "tuple" := by rfl) (hs : starEach [e] X.env = (false, eval e X.env) :: starEach [] X.env := by rfl) : PEm X (.Call (.Name "tuple" p) [e] [] pos) (cbM tupA (consM f nilM)) := pm_cT call_tuple_of gb_tup hgl hm (by decide +kernel) (pap_cons ha pap_nil hs) (he := hs)
/-- list(x) -/
def lisA (s : SS) : List PV → Option AO
  | [a] => match coP a s with
    | .ob (.lst xs) => some (.lst xs)
    | .tup xs => some (.lst xs)
    | _ => none
  | _ => none
theorem gb_lis : GoodBN X lisA (fun xs H Q => ∃ p ys, xs = [.ref p] ∧ (SqL X.K H p ys ∨ SqT X.K H p ys) ∧ ∀ l, H l = none → Q (.ref l) (upd H l (.lst ys))) := by
  intro U F ρ S σ H as c vs Q R ea e q
  unfold lisA at e
  split at e
  · rename_i a
    obtain ⟨v, rfl, h⟩ := embPL1 ea
    have cc := coP_ok R h
    split at e
    · rename_i xs hc
      cases e; rw [hc] at cc
      obtain ⟨p, ws, rfl, h1, h2⟩ := cc
      refine ⟨p, ws, rfl, .inl h1, fun n hn => ?_⟩
      obtain ⟨R2, L⟩ := R.newLoose (u := .lst ws) (o := .lst xs) hn ⟨ws, upd_same, h2⟩
      exact q _ n R2 L
    · rename_i xs hc
      cases e; rw [hc] at cc
      obtain ⟨p, ws, rfl, h1, h2⟩ := cc
      refine ⟨p, ws, rfl, .inr h1, fun n hn => ?_⟩
      obtain ⟨R2, L⟩ := R.newLoose (u := .lst ws) (o := .lst xs) hn ⟨ws, upd_same, h2⟩
      exact q _ n R2 L
    · cases e
  · cases e
theorem pn_list {p : Pos} {e : Expr} {f : M PV} (hm : X.mg "list" = none) (ha : PPm X e f) (hgl : Gl X "list" := by rfl) (hs : starEach [e] X.env = (false, eval e X.env) :: starEach [] X.env := by rfl) : PNm X (.Call (.Name "list" p) [e] [] pos) (cbM lisA (consM f nilM)) := pn_cT call_list_of gb_lis hgl hm (by decide +kernel) (pap_cons ha pap_nil hs) (he := hs)
/-- abs(n), int(n) -/
def absA (s : SS) : List PV → Option AV
  | [a] => match avP a s with
    | some (.int i) => some (.int (if i < 0 then -i else i))
    | _ => none
  | _ => none
theorem gb_abs : GoodB X absA (fun xs H Q => ∃ i, xs = [.int i] ∧ Q (.int (if i < 0 then -i else i)) H) := by
  intro U F ρ S σ H as c vs Q R ea e q
  unfold absA at e
  split at e
  · rename_i a
    obtain ⟨v, rfl, h⟩ := embPL1 ea
    split at e
    · rename_i i hc
      cases e
      exact ⟨i, by rw [emb_int (avP_ok R h hc)], q F H _ (Same.refl _) R emb_int'⟩
    · cases e
  · cases e
theorem pm_abs {p : Pos} {e : Expr} {f : M PV} (hm : X.mg "abs" = none) (ha : PPm X e f) (hgl : Gl X "abs" := by rfl) (hs : starEach [e] X.env = (false, eval e X.env) :: starEach [] X.env := by rfl) : PEm X (.Call (.Name "abs" p) [e] [] pos) (cbM absA (consM f nilM)) := pm_cB call_abs gb_abs hgl hm (by decide +kernel) (pap_cons ha pap_nil hs) (he := hs)
def intA (s : SS) : List PV → Option AV
  | [a] => match avP a s with
    | some (.int i) => some (.int i)
    | some (.bl k) => some (.int (if k then 1 else 0))
    | _ => none
  | _ => none
theorem gb_intc : GoodB X intA (fun xs H Q => (∃ i, xs = [.int i] ∧ Q (.int i) H) ∨ ∃ k, xs = [.bl k] ∧ Q (.int (if k then 1 else 0)) H) := by
  intro U F ρ S σ H as c vs Q R ea e q
  unfold intA at e
  split at e
  · rename_i a
    obtain ⟨v, rfl, h⟩ := embPL1 ea
    split at e
    · rename_i i hc
      cases e
      exact .inl ⟨i, by rw [emb_int (avP_ok R h hc)], q F H _ (Same.refl _) R emb_int'⟩
    · rename_i i hc
      cases e
      exact .inr ⟨i, by rw [emb_bl (avP_ok R h hc)], q F H _ (Same.refl _) R emb_int'⟩
    · cases e
  · cases e
theorem pm_int1 {p : Pos} {e : Expr} {f : M PV} (hm : X.mg "int" = none) (ha : PPm X e f) (hgl : Gl X "int" := by rfl) (hs : starEach [e] X.env = (false, eval e X.env) :: starEach [] X.env := by rfl) : PEm X (.Call (.Name "int" p) [e] [] pos) (cbM intA (consM f nilM)) := pm_cT call_int1 gb_intc hgl hm (by decide +kernel) (pap_cons ha pap_nil hs) (he := hs)
/-! ## subscripts, slices -/
def ixM (f g : M PV) : M AV := bindM f fun a => bindM g fun b s => match coP a s, plP b s with
  | .ob (.lst xs), some (.int i) => match atI xs i with
    | some x => .ok x s
    | none => .stuck
  | .tup xs, some (.int i) => match atI xs i with
    | some x => .ok x s
    | none => .stuck
  | .str z, some (.int i) => if z.length ≤ 16777216 then (match atI z.cps.toList i with
    | some c => .ok (.str ⟨#[c]⟩) s
    | none => .stuck) else .stuck
  | .ob (.dic t kvs), some k => if (kk t k).isSome then (match dGet t kvs k with
    | some x => .ok x s
    | none => .stuck) else .stuck
  | _, _ => .stuck
theorem ix_dict (hu : X.A.units + 1 < cLine) : IxR X (fun x y H Q => ∃ a v, x = .ref a ∧ DGet H a y (some v) ∧ Q v H) := by
  intro value slice pins s σ H x y v u Q I rx ry h hs
  obtain ⟨a, w, rfl, g, q⟩ := h
  obtain rfl : v = Value.ref a := rx
  exact tail_any (dict_typeIs I g) PySem.F.slot_dict_getitem.lookup (d_getItem hu I g ry fun w' s' I' r => ⟨w, H, I', r, q⟩) hs
theorem EmbL.atI {K : PySem.W.Frag} {F : Hp} {ρ : List Addr} {xs : List AV} {vs : List V} {i : Int} {x : AV} (h : EmbL K F ρ xs vs) (e : atI xs i = some x) : ∃ v, atI vs i = some v ∧ Emb K F ρ x v := by
  unfold L2.atI at e ⊢
  rw [h.length]
  cases z : ixN xs.length i with
  | none => rw [z] at e; cases e
  | some j =>
    rw [z] at e
    exact EmbL.get h e
theorem plP_int {s : SS} {b : PV} {i : Int} (e : plP b s = some (.int i)) : avP b s = some (.int i) := by
  unfold plP at e
  split at e
  · cases e
  · exact e
theorem pm_ix {a b : Expr} {f g : M PV} (hu : X.A.units + 1 < cLine) (ha : PPm X a f) (hb : PPm X b g) (hs : PlainIx b := by intro _ _; rfl) : PEm X (.Subscript a b pos) (ixM f g) := fun W tk =>
  PE.weak (pe_ix (IxR.or ix_seq (ix_dict hu)) (ha W tk) (hb W tk) hs) fun σ H Q ⟨U, F, ρ, S, R, p⟩ => ⟨U, F, ρ, S, R, Post.seq p fun F1 ρ1 S1 H1 a1 x s1 q1 r1 e1 p1 =>
    ⟨U, F1, ρ1, S1, r1, Post.seq p1 fun F2 ρ2 S2 H2 b1 y s2 q2 r2 e2 p2 => by
      have e1 := EmbP.mono s2 q2 e1
      have c := coP_ok r2 e1
      split at p2
      · rename_i xs i h1 h2
        rw [h1] at c
        obtain ⟨n, vs, rfl, c1, c2⟩ := c
        split at p2
        · rename_i w hw
          obtain ⟨v, hv, ev⟩ := c2.atI hw
          exact .inl (.inl ⟨n, vs, i, v, rfl, emb_int (avP_ok r2 e2 (plP_int h2)), c1, hv, p2 F2 ρ2 H2 v (Same.refl _) (List.prefix_refl _) r2 ev⟩)
        · exact p2.elim
      · rename_i xs i h1 h2
        rw [h1] at c
        obtain ⟨n, vs, rfl, c1, c2⟩ := c
        split at p2
        · rename_i w hw
          obtain ⟨v, hv, ev⟩ := c2.atI hw
          exact .inl (.inr (.inl ⟨n, vs, i, v, rfl, emb_int (avP_ok r2 e2 (plP_int h2)), c1, hv, p2 F2 ρ2 H2 v (Same.refl _) (List.prefix_refl _) r2 ev⟩))
        · exact p2.elim
      · rename_i z i h1 h2
        rw [h1] at c
        split at p2
        · split at p2
          · rename_i hz _ w hw
            exact .inl (.inr (.inr ⟨z, i, w, c, emb_int (avP_ok r2 e2 (plP_int h2)), by rw [sz]; exact hz, hw, p2 F2 ρ2 H2 _ (Same.refl _) (List.prefix_refl _) r2 emb_str'⟩))
          · exact p2.elim
        · exact p2.elim
      · rename_i t kvs k h1 h2
        rw [h1] at c
        split at p2
        · rename_i hk
          obtain ⟨n, o, rfl, g, g1, g2⟩ := dget_ok r2 c (plP_emb r2 e2 h2 hk) hk
          split at p2
          · rename_i w hw
            obtain ⟨v, rfl, ev⟩ := g1 w hw
            exact .inr ⟨n, v, rfl, g, p2 F2 ρ2 H2 v (Same.refl _) (List.prefix_refl _) r2 ev⟩
          · exact p2.elim
        · exact p2.elim
      · exact p2.elim⟩⟩
end
end LM

namespace LM
open PySem PySem.Spec PyProof.Rows L2
section
variable {X : Cx} {pos : Pos}
/-! ## slices -/
def cutG {α : Type} (xs : List α) (lo hi : Option Int) : List α := (xs.drop (HT.sIx xs.length 0 lo)).take (HT.sIx xs.length xs.length hi - HT.sIx xs.length 0 lo)
def noPartM : M (Option Int) := fun s => .ok none s
def partM (f : M AV) : M (Option Int) := bindM f fun a s => match a with
  | .int i => .ok (some i) s
  | _ => .stuck
def ROp (_ : PySem.W.Frag) (_ : Hp) (_ : St) : RR (Option Int) (Option Int) := fun _ _ _ _ a b => b = a
def POm (X : Cx) (e : Option Expr) (f : M (Option Int)) : Prop := ∀ W, Takes X W → ∃ t, PO X e t ∧ ∀ σ H Q, tG X.K W (ROp X.K) f σ H Q → t σ H Q
theorem pom_none : POm X none noPartM := fun W tk => ⟨_, po_none, fun σ H Q ⟨U, F, ρ, S, R, p⟩ => p F ρ H none (Same.refl _) (List.prefix_refl _) R rfl⟩
theorem pom_some {e : Expr} {f : M AV} (h : PEm X e f) : POm X (some e) (partM f) := fun W tk => ⟨_, po_some (h W tk), fun σ H Q ⟨U, F, ρ, S, R, p⟩ => ⟨U, F, ρ, S, R, Post.seq p fun F1 ρ1 S1 H1 a1 v s1 q1 r1 e1 p1 => by
  cases a1 with
  | int i => exact ⟨i, emb_int e1, p1 F1 ρ1 H1 _ (Same.refl _) (List.prefix_refl _) r1 rfl⟩
  | _ => exact p1.elim⟩⟩
def slM (f : M PV) (lo hi : M (Option Int)) : M AV := bindM f fun a => bindM lo fun l => bindM hi fun h s => match coP a s with
  | .ob (.lst xs) => .ok (.vl (cutG xs l h)) s
  | .tup xs => if HT.sIx xs.length 0 l = 0 ∧ HT.sIx xs.length xs.length h = xs.length then (match avP a s with
    | some x => .ok x s
    | none => .stuck) else .ok (.tup (cutG xs l h)) s
  | .str z => if z.length ≤ 16777216 then .ok (.str (cutS z l h)) s else .stuck
  | _ => .stuck
theorem EmbL.cut {K : PySem.W.Frag} {F : Hp} {ρ : List Addr} {xs : List AV} {vs : List V} (h : EmbL K F ρ xs vs) (lo hi : Option Int) : EmbL K F ρ (cutG xs lo hi) (cutV vs lo hi) := by
  unfold cutG cutV
  rw [h.length]
  exact (h.drop _).take _
theorem pm_sl {e : Expr} {lo hi : Option Expr} {f : M PV} {l h : M (Option Int)} {p2 : Pos} (he : PPm X e f) (hl : POm X lo l) (hh : POm X hi h) : PEm X (.Subscript e (.Slice lo hi none p2) pos) (slM f l h) := fun W tk => by
  obtain ⟨tl, hl, wl⟩ := hl W tk
  obtain ⟨th, hh, wh⟩ := hh W tk
  refine PE.weak (pe_slice (SlR.or sl_list (SlR.or sl_tupA sl_str)) (he W tk) hl hh) fun σ H Q ⟨U, F, ρ, S, R, p⟩ => ⟨U, F, ρ, S, R, Post.seq p fun F1 ρ1 S1 H1 a1 x s1 q1 r1 e1 p1 => wl _ _ _
    ⟨U, F1, ρ1, S1, r1, Post.seq p1 fun F2 ρ2 S2 H2 b1 y s2 q2 r2 e2 p2 => wh _ _ _ ⟨U, F2, ρ2, S2, r2, Post.seq p2 fun F3 ρ3 S3 H3 c1 z s3 q3 r3 e3 p3 => ?_⟩⟩⟩
  have e2 : y = b1 := e2
  have e3 : z = c1 := e3
  subst e2 e3
  have e1 := EmbP.mono (s2.trans s3) (q2.trans q3) e1
  have c := coP_ok r3 e1
  split at p3
  · rename_i xs hc
    rw [hc] at c
    obtain ⟨n, vs, rfl, c1, c2⟩ := c
    refine .inl ⟨n, vs, rfl, c1, fun m hm => ?_⟩
    obtain ⟨R2, sm⟩ := r3.newF (u := .lst (cutV vs y z)) hm
    refine p3 _ ρ3 _ _ sm (List.prefix_refl _) R2 ?_
    simp only [RE, Emb]
    exact ⟨m, _, rfl, upd_same, (c2.cut _ _).mono sm (List.prefix_refl _)⟩
  · rename_i xs hc
    rw [hc] at c
    obtain ⟨n, vs, rfl, c1, c2⟩ := c
    have hl := c2.length
    refine .inr (.inl ⟨n, vs, rfl, c1, fun hw => ?_, fun hw m hm => ?_⟩)
    · rw [if_pos (by rw [← hl]; exact hw)] at p3
      split at p3
      · rename_i x hx
        exact p3 F3 ρ3 H3 _ (Same.refl _) (List.prefix_refl _) r3 (avP_ok r3 e1 hx)
      · exact p3.elim
    · rw [if_neg (by rw [← hl]; exact hw)] at p3
      obtain ⟨R2, sm⟩ := r3.newF (u := .tup (cutV vs y z)) hm
      refine p3 _ ρ3 _ _ sm (List.prefix_refl _) R2 ?_
      simp only [RE, Emb]
      exact ⟨m, _, rfl, upd_same, (c2.cut _ _).mono sm (List.prefix_refl _)⟩
  · rename_i x hc
    rw [hc] at c
    split at p3
    · exact .inr (.inr ⟨x, c, by rw [sz]; assumption, p3 F3 ρ3 H3 _ (Same.refl _) (List.prefix_refl _) r3 emb_str'⟩)
    · exact p3.elim
  · exact p3.elim
/-! ## fields -/
def FldOk (K : PySem.W.Frag) (cs : List Str) (f : Str) : Prop := ∀ c ∈ cs, Cls K (He.ga K c) ∧ NoAttr K (He.ga K c) f
def fldM (cs : List Str) (f : Str) (g : M PV) : M AV := bindM g fun p s => match coP p s with
  | .ob (.ins c fs) => if c ∈ cs then (match fs.lookup f with
    | some a => .ok a s
    | none => .stuck) else .stuck
  | _ => .stuck
theorem EmbF.lookup {K : PySem.W.Frag} {F : Hp} {ρ : List Addr} {f : Str} : ∀ {fs : List (Str × AV)} {fs' : List (Str × V)}, EmbF K F ρ fs fs' →
    (∀ a, fs.lookup f = some a → ∃ v, fs'.lookup f = some v ∧ Emb K F ρ a v) ∧ (fs.lookup f = none → fs'.lookup f = none)
  | [], _, h => by simp only [EmbF] at h; subst h; exact ⟨fun a h => by simp at h, fun _ => rfl⟩
  | (g, x) :: r, _, h => by
    simp only [EmbF] at h
    obtain ⟨v, r', rfl, h1, h2⟩ := h
    obtain ⟨i1, i2⟩ := EmbF.lookup (f := f) h2
    rw [List.lookup_cons, List.lookup_cons]
    cases e : f == g with
    | true => exact ⟨fun a h => by cases h; exact ⟨v, rfl, h1⟩, fun h => by cases h⟩
    | false => exact ⟨i1, i2⟩
theorem pm_fld {e : Expr} {cs : List Str} {f : Str} {g : M PV} (hc : FldOk X.K cs f) (he : PPm X e g) (hb : attributeBase e f X.env (eval e X.env) = eval e X.env := by rfl) : PEm X (.Attribute e f pos) (fldM cs f g) := fun W tk =>
  PE.weak (pe_fld (he W tk) hb) fun σ H Q ⟨U, F, ρ, S, R, p⟩ => ⟨U, F, ρ, S, R, Post.seq p fun F1 ρ1 S1 H1 a1 x s1 q1 r1 e1 p1 => by
    have c := coP_ok r1 e1
    split at p1
    · rename_i cn fs hco
      rw [hco] at c
      obtain ⟨n, dx, fs', rfl, c1, c2⟩ := c
      split at p1
      · rename_i hm
        split at p1
        · rename_i a ha
          obtain ⟨v, hv, ev⟩ := (c2.lookup).1 a ha
          obtain ⟨k1, k2⟩ := hc cn hm
          exact ⟨n, _, dx, fs', v, rfl, c1, k1, k2, hv, p1 F1 ρ1 H1 v (Same.refl _) (List.prefix_refl _) r1 ev⟩
        · exact p1.elim
      · exact p1.elim
    · exact p1.elim⟩
/-! ## calls of defs -/
def FPost (K : PySem.W.Frag) (U F : Hp) (ρ : List Addr) (Q : VK) (E : XK) : RF → Prop
  | .ok v h => ∀ F' ρ' H' u, Same F F' → ρ <+: ρ' → Rep K U F' ρ' ⟨[], h⟩ [] H' → Emb K F' ρ' v u → Q u H'
  | .exn c h => ∀ F' ρ' H', Same F F' → ρ <+: ρ' → Rep K U F' ρ' ⟨[], h⟩ [] H' → E (.ref (He.ga K c)) none H'
  | .stuck => False
/-- a def's promise: what the function on values says -/
def spM (K : PySem.W.Frag) (n : Nat) (m : MF) : Sp := fun vs H Q E => ∃ U F ρ as hp, as.length = n ∧ Rep K U F ρ ⟨[], hp⟩ [] H ∧ EmbL K F ρ as vs ∧ FPost K U F ρ Q E (m as hp)
def retR (s : SS) : RF → Res AV
  | .ok v h => .ok v { s with hp := h }
  | .exn c h => .exn c { s with hp := h }
  | .stuck => .stuck
def callM (n : Nat) (m : MF) (dv : List AV) (f : M (List AV)) : M AV := bindM f fun as s => if (as ++ dv).length = n then retR s (m (as ++ dv) s.hp) else .stuck
abbrev FnM (P : Program) (w : World) (K : PySem.W.Frag) (mg : Str → Option Value) (base : Heap) (k : Nat) (f : Addr) (fd : FuncData) (ps : List Str) (m : MF) : Prop := FnOk P w K mg base (L2.CX P w) k f fd ps (spM K ps.length m)
theorem call_core {K : PySem.W.Frag} {U F H : Hp} {ρ : List Addr} {S : SS} {σ : St} {W : WX} {Q : VK} {n : Nat} {m : MF} {as : List AV} {vs : List V} (R : Rep K U F ρ S σ H) (e : EmbL K F ρ as vs) (hn : as.length = n) (p : Post K U F ρ σ (RE K U σ) W Q (retR S (m as S.hp))) : spM K n m vs H Q (WE W σ) := by
  refine ⟨callU U S σ H, F, ρ, as, S.hp, hn, R.call, e, ?_⟩
  cases z : m as S.hp with
  | ok v h =>
    rw [z] at p
    exact fun F' ρ' H' u sm pr R' ev => p F' ρ' H' u sm pr (R.back sm pr R') ev
  | exn c h =>
    rw [z] at p
    exact fun F' ρ' H' sm pr R' => p F' ρ' H' sm pr (R.back sm pr R')
  | stuck => rw [z] at p; exact p.elim
section
variable {k : Nat} {f : Addr} {fd : FuncData} {ps : List Str} {m : MF} {dvs : List V} {ds : List Value} {dv : List AV} {x : Str} {p : Pos} {e : Expr} {es : List Expr} {g : M (List AV)}
theorem pm_call (F : FnM X.prog X.w X.K X.mg X.base k f fd ps m) (hr : Room k X.A) (hg : Gl X x) (hm : X.mg x = some (.ref f)) (hk : PySem.W.keepIn X.K (.ref f) = true) (hb : Binds X.K fd ps ds) (hd : Vals dvs ds) (hdv : ∀ F ρ, EmbL X.K F ρ dv dvs)
    (ha : PAm X (e :: es) g) (hdb : (x == ("__debug__" : Str)) = false := by decide) (he : starEach (e :: es) X.env = (false, eval e X.env) :: starEach es X.env := by rfl) (hpl : (backTo pos (starEach es X.env)).any (·.1) = false := by rfl) :
    PEm X (.Call (.Name x p) (e :: es) [] pos) (callM ps.length m dv g) := fun W tk =>
  PE.weak (pe_callSD (E := WE W) F hr hg hm hk hb hd (fun σ => passAt tk σ) (ha W tk) hdb he hpl) fun σ H Q ⟨U, F, ρ, S, R, p⟩ => ⟨U, F, ρ, S, R, Post.seq p fun F1 ρ1 S1 H1 as vs s1 q1 r1 e1 p1 => by
    split at p1
    · rename_i hl
      exact call_core r1 (EmbL.append e1 (hdv F1 ρ1)) hl p1
    · exact p1.elim⟩
/-- f() -/
theorem pe_callSD0 {CX : CXT} {sp : Sp} {E : St → XK} (F : FnOk X.prog X.w X.K X.mg X.base CX k f fd ps sp) (hr : Room k X.A) (hg : Gl X x) (hm : X.mg x = some (.ref f)) (hk : PySem.W.keepIn X.K (.ref f) = true) (hb : Binds X.K fd ps ds) (hd : Vals dvs ds) (hx : ∀ σ, PassesAt CX X σ (E σ))
    (hdb : (x == ("__debug__" : Str)) = false := by decide) : PE X (.Call (.Name x p) [] [] pos) (tCallSD sp dvs E tNil) := by
  refine ⟨fun pins s σ H Q I h => ?_⟩
  refine wpAny_Call_Name_kw (ld_glob I hg hm ?_ hdb)
  exact PySem.W.callWith_K0 I.kIn hk (run_fnSD (us := []) (vs := []) F hr hb hd (hx σ) I .nil h)
theorem pm_call0 (F : FnM X.prog X.w X.K X.mg X.base k f fd ps m) (hr : Room k X.A) (hg : Gl X x) (hm : X.mg x = some (.ref f)) (hk : PySem.W.keepIn X.K (.ref f) = true) (hb : Binds X.K fd ps ds) (hd : Vals dvs ds) (hdv : ∀ F ρ, EmbL X.K F ρ dv dvs)
    (hdb : (x == ("__debug__" : Str)) = false := by decide) : PEm X (.Call (.Name x p) [] [] pos) (callM ps.length m dv nilM) := fun W tk =>
  PE.weak (pe_callSD0 (E := WE W) F hr hg hm hk hb hd (fun σ => passAt tk σ) hdb) fun σ H Q ⟨U, F, ρ, S, R, p⟩ => by
    have p1 : Post X.K U F ρ σ (RE X.K U σ) W Q (if (([] : List AV) ++ dv).length = ps.length then retR S (m ([] ++ dv) S.hp) else .stuck) := p
    split at p1
    · rename_i hl
      exact call_core (as := [] ++ dv) R (hdv F ρ) hl p1
    · exact p1.elim
/-! ## methods of own classes -/
def clsOf (h : AH) : AV → Option (Str × List (Str × AV))
  | .ob c fs => some (c, fs)
  | .ref i => match h[i]? with
    | some (.ins c fs) => some (c, fs)
    | _ => none
  | _ => none
structure ME where
  c : Str
  n : Nat
  m : MF
  dv : List AV
def METOk (X : Cx) (name : Str) (t : ME) : Prop := ∃ g fd ps k dvs ds, Cls X.K (He.ga X.K t.c) ∧ Meth X.K (He.ga X.K t.c) name g ∧ ps.length = t.n ∧ FnM X.prog X.w X.K X.mg X.base k g fd ps t.m ∧ Room k X.A ∧ Binds X.K fd ps ds ∧ Vals dvs ds ∧ ∀ F ρ, EmbL X.K F ρ t.dv dvs
def methM (name : Str) (tb : List ME) (f : M AV) (g : M (List AV)) : M AV := bindM f fun a s => match clsOf s.hp a with
  | some (c, fs) => match tb.find? (fun t => decide (t.c = c)), fs.lookup name with
    | some t, none => bindM g (fun as s => if (a :: (as ++ t.dv)).length = t.n then retR s (t.m (a :: (as ++ t.dv)) s.hp) else .stuck) s
    | _, _ => .stuck
  | none => .stuck
def tMethS (X : Cx) (mn : Str) (W : WX) (ta : TE) (t : TA) : TE := fun σ H Q => ta σ H fun x H1 => ∃ a C dx fs g fd ps sp k ds dvs, x = .ref a ∧ H1 a = some (.ins C dx fs) ∧ fs.lookup mn = none ∧ Cls X.K C ∧ Meth X.K C mn g ∧
  FnOk X.prog X.w X.K X.mg X.base (L2.CX X.prog X.w) k g fd ps sp ∧ Room k X.A ∧ Binds X.K fd ps ds ∧ Vals dvs ds ∧ t σ H1 fun vs H2 => sp (x :: (vs ++ dvs)) H2 Q (WE W σ)
theorem pe_methS {o : Expr} {mn : Str} {apos : Pos} {W : WX} {ta : TE} {t : TA} (tk : Takes X W) {pl : Sem Bool} (he : PE X o ta) (ha : PA X (e :: es) t)
    (hst : starEach (e :: es) X.env = (false, eval e X.env) :: starEach es X.env := by rfl) (hpl : (backTo pos (starEach es X.env)).any (·.1) = false := by rfl)
    (ht : eval (.Call (.Attribute o mn apos) (e :: es) [] pos) X.env = (do
      let ov ← eval o X.env
      standAt apos.atName
      let (f, first) ← holding [ov] (getMethod ov mn pl)
      callWith pos f first (backTo pos (starEach (e :: es) X.env)) (backToKw pos (keywordEach [] X.env))) := by rfl) :
    PE X (.Call (.Attribute o mn apos) (e :: es) [] pos) (tMethS X mn W ta t) := by
  refine ⟨fun pins s σ H Q I h => ?_⟩
  refine PySem.W.methodCall_KW (pl := pl) (thn (he.run pins s σ H _ I h) fun u s1 ⟨x, H1, I1, rx, a, C, dx, fs, g, fd, ps, sp, k, ds, dvs, ex, ea, l, c, hm, F, hr, hb, hd, q⟩ => ?_) ht
  subst ex
  obtain rfl : u = Value.ref a := rx
  refine getmeth_ok I1 ea c hm l ?_
  refine PySem.W.callWith_K (first := [.ref a]) (h₀ := X.base) I.ok.mod.kin hm.kp (thn (ha.run pos pins s1 σ H1 _ I1 q) fun us s2 ⟨vs, H2, I2, r, q2⟩ => ⟨I2.kIn, ?_⟩) hst hpl
  exact run_fnSD (E := WE W) (us := .ref a :: us) (vs := .ref a :: vs) F hr hb hd (passAt tk σ) I2 (.cons rfl r) q2
theorem pe_methS0 {o : Expr} {mn : Str} {apos : Pos} {W : WX} {ta : TE} (tk : Takes X W) {pl : Sem Bool} (he : PE X o ta)
    (ht : eval (.Call (.Attribute o mn apos) [] [] pos) X.env = (do
      let ov ← eval o X.env
      standAt apos.atName
      let (f, first) ← holding [ov] (getMethod ov mn pl)
      callWith pos f first (backTo pos (starEach [] X.env)) (backToKw pos (keywordEach [] X.env))) := by rfl) :
    PE X (.Call (.Attribute o mn apos) [] [] pos) (tMethS X mn W ta tNil) := by
  refine ⟨fun pins s σ H Q I h => ?_⟩
  refine PySem.W.methodCall_KW (pl := pl) (thn (he.run pins s σ H _ I h) fun u s1 ⟨x, H1, I1, rx, a, C, dx, fs, g, fd, ps, sp, k, ds, dvs, ex, ea, l, c, hm, F, hr, hb, hd, q⟩ => ?_) ht
  subst ex
  obtain rfl : u = Value.ref a := rx
  refine getmeth_ok I1 ea c hm l ?_
  exact PySem.W.callWith_K0 (first := [.ref a]) I1.kIn hm.kp (run_fnSD (E := WE W) (us := [.ref a]) (vs := [.ref a]) F hr hb hd (passAt tk σ) I1 (.cons rfl .nil) q)
theorem clsOf_ok {K : PySem.W.Frag} {U F H : Hp} {ρ : List Addr} {S : SS} {σ : St} (R : Rep K U F ρ S σ H) {a : AV} {v : V} {c : Str} {fs : List (Str × AV)} (h : Emb K F ρ a v) (e : clsOf S.hp a = some (c, fs)) : ∃ p dx fs', v = .ref p ∧ H p = some (.ins (He.ga K c) dx fs') ∧ EmbF K F ρ fs fs' := by
  have q := coA_ok R h
  cases a with
  | ob c' fs' => cases e; exact q
  | ref i =>
    have e2 : (match S.hp[i]? with | some (.ins c fs) => some (c, fs) | _ => none) = some (c, fs) := e
    have q2 : CoV K F ρ H v (match S.hp[i]? with | some o => .ob o | none => .no) := q
    cases z : S.hp[i]? with
    | none => rw [z] at e2; cases e2
    | some o =>
      rw [z] at e2 q2
      cases o with
      | ins c' fs' => cases e2; exact q2
      | lst _ => cases e2
      | dic _ _ => cases e2
  | _ => cases e
theorem pm_meth {o : Expr} {mn : Str} {apos : Pos} {tb : List ME} {f : M AV} {pl : Sem Bool} (htb : ∀ t ∈ tb, METOk X mn t) (he : PEm X o f) (ha : PAm X (e :: es) g)
    (hst : starEach (e :: es) X.env = (false, eval e X.env) :: starEach es X.env := by rfl) (hpl : (backTo pos (starEach es X.env)).any (·.1) = false := by rfl)
    (ht : eval (.Call (.Attribute o mn apos) (e :: es) [] pos) X.env = (do
      let ov ← eval o X.env
      standAt apos.atName
      let (f, first) ← holding [ov] (getMethod ov mn pl)
      callWith pos f first (backTo pos (starEach (e :: es) X.env)) (backToKw pos (keywordEach [] X.env))) := by rfl) :
    PEm X (.Call (.Attribute o mn apos) (e :: es) [] pos) (methM mn tb f g) := fun W tk =>
  PE.weak (pe_methS tk (pl := pl) (he W tk) (ha W tk) hst hpl ht) fun σ H Q ⟨U, F, ρ, S, R, p⟩ => ⟨U, F, ρ, S, R, Post.seq p fun F1 ρ1 S1 H1 a v s1 q1 r1 e1 p1 => by
    split at p1
    · rename_i c fs hc
      obtain ⟨n, dx, fs', rfl, c1, c2⟩ := clsOf_ok r1 e1 hc
      split at p1
      · rename_i t h1 h2
        obtain ⟨gg, fd, ps, k, dvs, ds, k1, k2, k3, k4, k5, k6, k7, k8⟩ := htb t (List.mem_of_find?_eq_some h1)
        have ec : t.c = c := by simpa using List.find?_some h1
        rw [ec] at k1 k2
        refine ⟨n, _, dx, fs', gg, fd, ps, _, k, ds, dvs, rfl, c1, c2.lookup.2 h2, k1, k2, k4, k5, k6, k7, U, F1, ρ1, S1, r1, Post.seq p1 fun F2 ρ2 S2 H2 as vs s2 q2 r2 e2 p2 => ?_⟩
        split at p2
        · rename_i hl
          refine call_core (as := a :: (as ++ t.dv)) r2 ?_ (by rw [k3]; exact hl) p2
          simp only [EmbL]
          exact ⟨_, _, rfl, Emb.mono s2 q2 _ _ e1, EmbL.append e2 (k8 F2 ρ2)⟩
        · exact p2.elim
      · exact p1.elim
    · exact p1.elim⟩
theorem pm_meth0 {o : Expr} {mn : Str} {apos : Pos} {tb : List ME} {f : M AV} {pl : Sem Bool} (htb : ∀ t ∈ tb, METOk X mn t) (he : PEm X o f)
    (ht : eval (.Call (.Attribute o mn apos) [] [] pos) X.env = (do
      let ov ← eval o X.env
      standAt apos.atName
      let (f, first) ← holding [ov] (getMethod ov mn pl)
      callWith pos f first (backTo pos (starEach [] X.env)) (backToKw pos (keywordEach [] X.env))) := by rfl) :
    PEm X (.Call (.Attribute o mn apos) [] [] pos) (methM mn tb f nilM) := fun W tk =>
  PE.weak (pe_methS0 tk (pl := pl) (he W tk) ht) fun σ H Q ⟨U, F, ρ, S, R, p⟩ => ⟨U, F, ρ, S, R, Post.seq p fun F1 ρ1 S1 H1 a v s1 q1 r1 e1 p1 => by
    split at p1
    · rename_i c fs hc
      obtain ⟨n, dx, fs', rfl, c1, c2⟩ := clsOf_ok r1 e1 hc
      split at p1
      · rename_i t h1 h2
        obtain ⟨gg, fd, ps, k, dvs, ds, k1, k2, k3, k4, k5, k6, k7, k8⟩ := htb t (List.mem_of_find?_eq_some h1)
        have ec : t.c = c := by simpa using List.find?_some h1
        rw [ec] at k1 k2
        refine ⟨n, _, dx, fs', gg, fd, ps, _, k, ds, dvs, rfl, c1, c2.lookup.2 h2, k1, k2, k4, k5, k6, k7, ?_⟩
        have p2 : Post X.K U F1 ρ1 σ (RE X.K U σ) W Q (if (a :: (([] : List AV) ++ t.dv)).length = t.n then retR S1 (t.m (a :: ([] ++ t.dv)) S1.hp) else .stuck) := p1
        split at p2
        · rename_i hl
          refine call_core (as := a :: ([] ++ t.dv)) r1 ?_ (by rw [k3]; exact hl) p2
          simp only [EmbL]
          exact ⟨_, _, rfl, e1, k8 F1 ρ1⟩
        · exact p2.elim
      · exact p1.elim
    · exact p1.elim⟩
end
end
end LM

namespace LM
open PySem PySem.Spec PyProof.Rows L2
/-! ## statements -/
def SPost (K : PySem.W.Frag) (U F : Hp) (ρ : List Addr) (σ₀ : St) (pn : Bool) (D : Ends) (W : WX) : Res Fl → Prop
  | .ok .nx S' => ∀ F' ρ' σ' H', Same F F' → ρ <+: ρ' → Rep K U F' ρ' S' σ' H' → (pn = true → σ'[0]? = σ₀[0]?) → D.nx σ' H'
  | .ok .bk S' => ∀ F' ρ' σ' H', Same F F' → ρ <+: ρ' → Rep K U F' ρ' S' σ' H' → (pn = true → σ'[0]? = σ₀[0]?) → D.bk σ' H'
  | .ok .ct S' => ∀ F' ρ' σ' H', Same F F' → ρ <+: ρ' → Rep K U F' ρ' S' σ' H' → (pn = true → σ'[0]? = σ₀[0]?) → D.ct σ' H'
  | .ok (.rt v) S' => ∀ F' ρ' σ' H' u, Same F F' → ρ <+: ρ' → Rep K U F' ρ' S' σ' H' → Emb K F' ρ' v u → D.rt u H'
  | .exn c S' => ∀ F' ρ' σ' H', Same F F' → ρ <+: ρ' → Rep K U F' ρ' S' σ' H' → W (.ref (He.ga K c)) none σ' H'
  | .stuck => False
def tS (K : PySem.W.Frag) (W : WX) (pn : Bool) (m : M Fl) : TS := fun D σ H => ∃ U F ρ S, Rep K U F ρ S σ H ∧ SPost K U F ρ σ pn D W (m S)
def PSm (X : Cx) (pn : Bool) (st : Stmt) (m : M Fl) : Prop := ∀ W, Takes X W → PS X st (tS X.K W pn m)
def PSsm (X : Cx) (pn : Bool) (st : List Stmt) (m : M Fl) : Prop := ∀ W, Takes X W → PSs X st (tS X.K W pn m)
section
variable {K : PySem.W.Frag} {U F F1 H : Hp} {ρ ρ1 : List Addr} {σ σ1 : St} {pn : Bool} {D : Ends} {W : WX} {r : Res Fl}
theorem SPost.up (s : Same F F1) (q : ρ <+: ρ1) (e : pn = true → σ1[0]? = σ[0]?) (h : SPost K U F ρ σ pn D W r) : SPost K U F1 ρ1 σ1 pn D W r := by
  cases r with
  | ok a S' =>
    cases a with
    | nx => exact fun F' ρ' σ' H' s' q' r' e' => h F' ρ' σ' H' (s.trans s') (q.trans q') r' fun z => (e' z).trans (e z)
    | bk => exact fun F' ρ' σ' H' s' q' r' e' => h F' ρ' σ' H' (s.trans s') (q.trans q') r' fun z => (e' z).trans (e z)
    | ct => exact fun F' ρ' σ' H' s' q' r' e' => h F' ρ' σ' H' (s.trans s') (q.trans q') r' fun z => (e' z).trans (e z)
    | rt v => exact fun F' ρ' σ' H' u s' q' r' e' => h F' ρ' σ' H' u (s.trans s') (q.trans q') r' e'
  | exn c S' => exact fun F' ρ' σ' H' s' q' r' => h F' ρ' σ' H' (s.trans s') (q.trans q') r'
  | stuck => exact h
def bindS {α : Type} (f : M α) (k : α → M Fl) : M Fl := fun s => bindR (f s) k
/-- behind an expression -/
theorem SPost.seq {α β : Type} {R1 : RR α β} {Q' : β → Hp → Prop} {r : Res α} {k : α → M Fl} (h : SPost K U F ρ σ pn D W (bindR r k))
    (f : ∀ F1 ρ1 S1 H1 a b, Same F F1 → ρ <+: ρ1 → Rep K U F1 ρ1 S1 σ H1 → R1 F1 ρ1 S1 H1 a b → SPost K U F1 ρ1 σ pn D W (k a S1) → Q' b H1) : Post K U F ρ σ R1 W Q' r := by
  cases r with
  | ok a S' => exact fun F' ρ' H' b s' q' r' e => f F' ρ' S' H' a b s' q' r' e (h.up s' q' fun _ => rfl)
  | exn c S' => exact fun F' ρ' H' s' q' r' => h F' ρ' σ H' s' q' r'
  | stuck => exact h
end
section
variable {X : Cx} {pn : Bool} {pos : Pos}
def nxM : M Fl := fun s => .ok .nx s
def seqM (m1 m2 : M Fl) : M Fl := fun s => match m1 s with
  | .ok .nx s' => m2 s'
  | r => r
theorem pssm_nil : PSsm X pn [] nxM := fun W tk => PSs.weak pss_nil fun σ H D ⟨U, F, ρ, S, R, p⟩ => p F ρ σ H (Same.refl _) (List.prefix_refl _) R fun _ => rfl
theorem pssm_one {st : Stmt} {m : M Fl} (h : PSm X pn st m) : PSsm X pn [st] m := fun W tk => pss_one (h W tk)
theorem pssm_cons {st : Stmt} {rest : List Stmt} {m1 m2 : M Fl} (h : PSm X pn st m1) (h2 : PSsm X pn rest m2) : PSsm X pn (st :: rest) (seqM m1 m2) := fun W tk =>
  PSs.weak (pss_cons (h W tk) (h2 W tk)) fun σ H D ⟨U, F, ρ, S, R, p⟩ => by
    refine ⟨U, F, ρ, S, R, ?_⟩
    have p : SPost X.K U F ρ σ pn D W (match m1 S with | .ok .nx s' => m2 s' | r => r) := p
    cases z : m1 S with
    | ok a S' =>
      rw [z] at p
      cases a with
      | nx => exact fun F' ρ' σ' H' s' q' r' e' => ⟨U, F', ρ', S', r', SPost.up s' q' e' p⟩
      | bk => exact p
      | ct => exact p
      | rt v => exact p
    | exn c S' => rw [z] at p; exact p
    | stuck => rw [z] at p; exact p
theorem psm_pass : PSm X pn (.Pass pos) nxM := fun W tk => PS.weak ps_pass fun σ H D ⟨U, F, ρ, S, R, p⟩ => p F ρ σ H (Same.refl _) (List.prefix_refl _) R fun _ => rfl
def bkM : M Fl := fun s => .ok .bk s
def ctM : M Fl := fun s => .ok .ct s
theorem psm_break : PSm X pn (.Break pos) bkM := fun W tk => PS.weak ps_break fun σ H D ⟨U, F, ρ, S, R, p⟩ => p F ρ σ H (Same.refl _) (List.prefix_refl _) R fun _ => rfl
theorem psm_continue : PSm X pn (.Continue pos) ctM := fun W tk => PS.weak ps_continue fun σ H D ⟨U, F, ρ, S, R, p⟩ => p F ρ σ H (Same.refl _) (List.prefix_refl _) R fun _ => rfl
def expM (f : M AV) : M Fl := bindM f fun _ s => .ok .nx s
theorem psm_expr {e : Expr} {f : M AV} (h : PEm X e f) (hs : swapsWith e none pos.line X.env = pure false := by rfl) : PSm X pn (.Expr e pos) (expM f) := fun W tk =>
  PS.weak (ps_expr (h W tk) hs) fun σ H D ⟨U, F, ρ, S, R, p⟩ => ⟨U, F, ρ, S, R, SPost.seq p fun F1 ρ1 S1 H1 a v s1 q1 r1 e1 p1 => p1 F1 ρ1 σ H1 (Same.refl _) (List.prefix_refl _) r1 fun _ => rfl⟩
def retM (f : M AV) : M Fl := bindM f fun a s => .ok (.rt a) s
theorem psm_ret {e : Expr} {f : M AV} (h : PEm X e f) : PSm X pn (.Return (some e) pos) (retM f) := fun W tk =>
  PS.weak (ps_ret (h W tk)) fun σ H D ⟨U, F, ρ, S, R, p⟩ => ⟨U, F, ρ, S, R, SPost.seq p fun F1 ρ1 S1 H1 a v s1 q1 r1 e1 p1 => p1 F1 ρ1 σ H1 v (Same.refl _) (List.prefix_refl _) r1 e1⟩
def retN : M Fl := fun s => .ok (.rt .non) s
theorem psm_retN : PSm X pn (.Return none pos) retN := fun W tk => PS.weak ps_retN fun σ H D ⟨U, F, ρ, S, R, p⟩ => p F ρ σ H .non (Same.refl _) (List.prefix_refl _) R emb_non'
theorem psm_if {c : Expr} {a b : List Stmt} {t : M Bool} {m1 m2 : M Fl} (hc : PTm X c t) (ha : PSsm X pn a m1) (hb : PSsm X pn b m2) : PSm X pn (.If c a b pos) (ifM t m1 m2) := fun W tk =>
  PS.weak (ps_if (hc W tk) (ha W tk) (hb W tk)) fun σ H D ⟨U, F, ρ, S, R, p⟩ => ⟨U, F, ρ, S, R, SPost.seq p fun F1 ρ1 S1 H1 a1 b1 s1 q1 r1 e1 p1 => by
    have e1 := rt_eq e1
    subst e1
    cases b1 with
    | true => rw [if_pos rfl] at p1 ⊢; exact ⟨U, F1, ρ1, S1, r1, p1⟩
    | false => rw [if_neg Bool.false_ne_true] at p1 ⊢; exact ⟨U, F1, ρ1, S1, r1, p1⟩⟩
/-! ## targets -/
structure ZOk (Z : St → St → Prop) : Prop where
  rf : ∀ a, Z a a
  tr : ∀ a b c, Z a b → Z b c → Z a c
def Zp (pn : Bool) (σ σ' : St) : Prop := pn = true → σ'[0]? = σ[0]?
def Zw (vs : List Nat) (σ σ' : St) : Prop := wipe σ' vs = wipe σ vs
theorem zp_ok {pn : Bool} : ZOk (Zp pn) := ⟨fun _ _ => rfl, fun _ _ _ h1 h2 z => (h2 z).trans (h1 z)⟩
theorem zw_ok {vs : List Nat} : ZOk (Zw vs) := ⟨fun _ => rfl, fun _ _ _ h1 h2 => Eq.trans (show wipe _ vs = wipe _ vs from h2) h1⟩
def tGt (K : PySem.W.Frag) (Z : St → St → Prop) (g : AV → M Unit) : TG := fun v σ H Q => ∃ U F ρ S a, Rep K U F ρ S σ H ∧ Emb K F ρ a v ∧ match g a S with
  | .ok _ S' => ∀ F' ρ' σ' H', Same F F' → ρ <+: ρ' → Rep K U F' ρ' S' σ' H' → Z σ σ' → Q σ' H'
  | _ => False
def PGm (X : Cx) (Z : St → St → Prop) (tg : Expr) (g : AV → M Unit) : Prop := ∃ t, PG X tg t ∧ ∀ v σ H Q, tGt X.K Z g v σ H Q → t v σ H Q
def setV (i : Nat) (a : AV) : M Unit := fun s => .ok () { s with sl := s.sl.set i (some (.val a)) }
theorem set_pin {σ : St} {i : Nat} {v : Option V} (h : pn = true → i ≠ 0) : pn = true → (σ.set i v)[0]? = σ[0]? := fun z => by rw [List.getElem?_set_ne (h z)]
theorem zp_set {i : Nat} (h : pn = true → i ≠ 0 := by decide) : ∀ (σ : St) v, Zp pn σ (σ.set i v) := fun σ v z => set_pin h z
theorem wipe_set {i : Nat} {v : Option V} : ∀ {vs : List Nat} {σ : St}, i ∈ vs → wipe (σ.set i v) vs = wipe σ vs
  | [], _, h => by simp at h
  | u :: vs, σ, h => by
    show (wipe (σ.set i v) vs).set u none = (wipe σ vs).set u none
    by_cases hi : i ∈ vs
    · rw [wipe_set hi]
    · have hu : i = u := by
        rcases List.mem_cons.mp h with q | q
        · exact q
        · exact absurd q hi
      subst hu
      have go : ∀ (ws : List Nat), i ∉ ws → wipe (σ.set i v) ws = (wipe σ ws).set i v := by
        intro ws
        induction ws with
        | nil => intro _; rfl
        | cons w ws ih =>
          intro hn
          show (wipe (σ.set i v) ws).set w none = ((wipe σ ws).set w none).set i v
          rw [ih (fun q => hn (List.mem_cons_of_mem _ q)), List.set_comm]
          exact fun q => hn (by rw [q]; exact List.mem_cons_self)
      rw [go vs hi, List.set_set]
theorem zw_set {i : Nat} {vs : List Nat} (h : i ∈ vs := by decide) : ∀ (σ : St) v, Zw vs σ (σ.set i v) := fun σ v => wipe_set h
theorem pgm_name {Z : St → St → Prop} {i : Nat} {x : Str} (hN : X.N.Nodup) (hi : X.N[i]? = some x) (hx : Loc X.env.scope x) (hz : ∀ (σ : St) v, Z σ (σ.set i v)) (hf : X.fn x = true ∨ X.env.scope.names.lookup x = some .local := by first | exact .inl rfl | exact .inr rfl | assumption) : PGm X Z (.Name x pos) (setV i) :=
  ⟨_, pg_name hN hi hx hf, fun v σ H Q ⟨U, F, ρ, S, a, R, e, p⟩ => p F ρ _ H (Same.refl _) (List.prefix_refl _) (R.set e) (hz _ _)⟩
/-- (a, b, ..) = a tuple -/
def unpM : List (AV → M Unit) → List AV → M Unit
  | [], [] => fun s => .ok () s
  | g :: gs, x :: xs => fun s => bindR (g x s) fun _ => unpM gs xs
  | _, _ => fun _ => .stuck
def PGsm (X : Cx) (Z : St → St → Prop) (ts : List Expr) (gs : List (AV → M Unit)) : Prop := ∃ t, PGs X ts t ∧ ∀ vs σ H Q U F ρ S as, Rep X.K U F ρ S σ H → EmbL X.K F ρ as vs → (match unpM gs as S with
  | .ok _ S' => ∀ F' ρ' σ' H', Same F F' → ρ <+: ρ' → Rep X.K U F' ρ' S' σ' H' → Z σ σ' → Q σ' H'
  | _ => False) → t vs σ H Q
theorem pgsm_nil {Z : St → St → Prop} (hZ : ZOk Z) : PGsm X Z [] [] := ⟨_, pgs_nil, fun vs σ H Q U F ρ S as R e p => by
  cases as with
  | nil => simp only [EmbL] at e; simp only [unpM] at p; exact ⟨e, p F ρ σ H (Same.refl _) (List.prefix_refl _) R (hZ.rf _)⟩
  | cons a as => simp [unpM] at p⟩
theorem pgsm_cons {Z : St → St → Prop} (hZ : ZOk Z) {e : Expr} {es : List Expr} {g : AV → M Unit} {gs : List (AV → M Unit)} (h1 : PGm X Z e g) (h2 : PGsm X Z es gs)
    (hs : (assignEach (e :: es) X.env).map (·.2) = assign e X.env :: (assignEach es X.env).map (·.2) := by rfl) : PGsm X Z (e :: es) (g :: gs) := by
  obtain ⟨t1, h1, w1⟩ := h1
  obtain ⟨t2, h2, w2⟩ := h2
  refine ⟨_, pgs_cons h1 h2 hs, fun vs σ H Q U F ρ S as R em p => ?_⟩
  cases as with
  | nil => simp [unpM] at p
  | cons a as =>
    simp only [EmbL] at em
    obtain ⟨v, r, rfl, e1, e2⟩ := em
    refine ⟨v, r, rfl, w1 _ _ _ _ ⟨U, F, ρ, S, a, R, e1, ?_⟩⟩
    have p : (match bindR (g a S) (fun _ => unpM gs as) with
      | .ok _ S' => ∀ F' ρ' σ' H', Same F F' → ρ <+: ρ' → Rep X.K U F' ρ' S' σ' H' → Z σ σ' → Q σ' H'
      | _ => False) := by unfold unpM at p; exact p
    cases z : g a S with
    | ok u S1 =>
      rw [z] at p
      have p : (match unpM gs as S1 with
        | .ok _ S' => ∀ F' ρ' σ' H', Same F F' → ρ <+: ρ' → Rep X.K U F' ρ' S' σ' H' → Z σ σ' → Q σ' H'
        | _ => False) := p
      intro F1 ρ1 σ1 H1 s1 q1 r1 k1
      refine w2 _ _ _ _ U F1 ρ1 S1 as r1 (e2.mono s1 q1) ?_
      cases z2 : unpM gs as S1 with
      | ok u S2 =>
        rw [z2] at p
        exact fun F' ρ' σ' H' s' q' r' k' => p F' ρ' σ' H' (s1.trans s') (q1.trans q') r' (hZ.tr _ _ _ k1 k')
      | exn c S2 => rw [z2] at p; exact p
      | stuck => rw [z2] at p; exact p
    | exn c S1 => rw [z] at p; exact p
    | stuck => rw [z] at p; exact p
def tupG (n : Nat) (gs : List (AV → M Unit)) (a : AV) : M Unit := fun s => match coA s.hp a with
  | .tup xs => if xs.length = n then unpM gs xs s else .stuck
  | _ => .stuck
theorem pgm_tup {Z : St → St → Prop} {es : List Expr} {k n : Nat} {gs : List (AV → M Unit)} (hc : X.calm = true) (h : PGsm X Z es gs)
    (hn : (assignEach es X.env).length = n := by rfl) (hst : (assignEach es X.env).findIdx? (·.1) = none := by rfl) : PGm X Z (.Tuple es k pos) (tupG n gs) := by
  obtain ⟨t, h, w⟩ := h
  refine ⟨_, pg_tup hc h hn hst, fun v σ H Q ⟨U, F, ρ, S, a, R, e, p⟩ => ?_⟩
  have c := coA_ok R e
  unfold tupG at p
  cases z : coA S.hp a with
  | tup xs =>
    simp only [z] at p
    rw [z] at c
    obtain ⟨q, vs, rfl, c1, c2⟩ := c
    by_cases hl : xs.length = n
    · rw [if_pos hl] at p
      exact ⟨q, vs, rfl, c1, by rw [c2.length]; exact hl, w _ _ _ _ U F ρ S xs R c2 p⟩
    · rw [if_neg hl] at p; exact p.elim
  | ob o => simp only [z] at p
  | str x => simp only [z] at p
  | no => simp only [z] at p
/-- target = e -/
def asgM (g : AV → M Unit) (f : M AV) : M Fl := bindM f fun a s => match g a s with
  | .ok _ s => .ok .nx s
  | _ => .stuck
theorem asg_core {F : Hp} {U : Hp} {ρ : List Addr} {σ : St} {S : SS} {H : Hp} {D : Ends} {W : WX} {g : AV → M Unit} {a : AV} {v : V} {t : TG} (R : Rep X.K U F ρ S σ H) (e : Emb X.K F ρ a v) (w : ∀ v σ H Q, tGt X.K (Zp pn) g v σ H Q → t v σ H Q)
    (p : SPost X.K U F ρ σ pn D W (match g a S with | .ok _ s => .ok .nx s | _ => .stuck)) : t v σ H D.nx := by
  refine w _ _ _ _ ⟨U, F, ρ, S, a, R, e, ?_⟩
  cases z : g a S with
  | ok u S' => rw [z] at p; exact p
  | exn c S' => rw [z] at p; exact p
  | stuck => rw [z] at p; exact p
theorem psm_asg {tg e : Expr} {g : AV → M Unit} {f : M AV} (he : PEm X e f) (hg : PGm X (Zp pn) tg g) (hs : swapsWithSole [tg] e pos.line X.env = pure false := by rfl) (hw : swappedStores [tg] e X.env = pure none := by rfl)
    (h1 : (assignEach [tg] X.env).map (·.2) = [assign tg X.env] := by rfl) : PSm X pn (.Assign [tg] e pos) (asgM g f) := fun W tk => by
  obtain ⟨t, hg, w⟩ := hg
  exact PS.weak (ps_asg (he W tk) hg hs hw h1) fun σ H D ⟨U, F, ρ, S, R, p⟩ => ⟨U, F, ρ, S, R, SPost.seq p fun F1 ρ1 S1 H1 a v s1 q1 r1 e1 p1 => asg_core r1 e1 w p1⟩
theorem psm_set {i : Nat} {x : Str} {e : Expr} {f : M AV} {pos' : Pos} (hN : X.N.Nodup) (hi : X.N[i]? = some x) (hx : Loc X.env.scope x) (he : PEm X e f) (hs : swapsWith e (some (.Name x pos')) pos.line X.env = pure false := by rfl)
    (hf : X.fn x = true ∨ X.env.scope.names.lookup x = some .local := by first | exact .inl rfl | exact .inr rfl | assumption) (hp : pn = true → i ≠ 0 := by decide) : PSm X pn (.Assign [.Name x pos'] e pos) (asgM (setV i) f) := fun W tk =>
  PS.weak (ps_set hN hi hx (he W tk) hs hf) fun σ H D ⟨U, F, ρ, S, R, p⟩ => ⟨U, F, ρ, S, R, SPost.seq p fun F1 ρ1 S1 H1 a v s1 q1 r1 e1 p1 => p1 F1 ρ1 _ H1 (Same.refl _) (List.prefix_refl _) (r1.set e1) (set_pin hp)⟩
/-- a new object of the slot's own -/
def asgO (i : Nat) (f : M AO) : M Fl := bindM f fun o s => .ok .nx { s with sl := s.sl.set i (some (.own o)) }
theorem psm_setO {i : Nat} {x : Str} {e : Expr} {f : M AO} {pos' : Pos} (hN : X.N.Nodup) (hi : X.N[i]? = some x) (hx : Loc X.env.scope x) (he : PNm X e f) (hs : swapsWith e (some (.Name x pos')) pos.line X.env = pure false := by rfl)
    (hf : X.fn x = true ∨ X.env.scope.names.lookup x = some .local := by first | exact .inl rfl | exact .inr rfl | assumption) (hp : pn = true → i ≠ 0 := by decide) : PSm X pn (.Assign [.Name x pos'] e pos) (asgO i f) := fun W tk =>
  PS.weak (ps_set hN hi hx (he W tk) hs hf) fun σ H D ⟨U, F, ρ, S, R, p⟩ => ⟨U, F, ρ, S, R, SPost.seq p fun F1 ρ1 S1 H1 a v s1 q1 r1 e1 p1 => by
    obtain ⟨n, rfl, L⟩ := e1
    exact p1 F1 ρ1 _ H1 (Same.refl _) (List.prefix_refl _) (r1.setOwn L) (set_pin hp)⟩
/-- a, b = e1, e2 -/
def parM (i j : Nat) (f : M (List AV)) : M Fl := bindM f fun as s => match as with
  | [a, b] => .ok .nx { s with sl := (s.sl.set i (some (.val a))).set j (some (.val b)) }
  | _ => .stuck
theorem psm_par {i j : Nat} {x y : Str} {a b : Expr} {f : M (List AV)} {px py pt : Pos} {kt k2 pt2} (hc : X.calm = true) (hN : X.N.Nodup) (hi : X.N[i]? = some x) (hj : X.N[j]? = some y) (hij : i ≠ j)
    (hx : X.env.scope.names.lookup x = some .local) (hy : X.env.scope.names.lookup y = some .local) (ha : PAm X [a, b] f)
    (hw : swappedStores [.Tuple [.Name x px, .Name y py] kt pt] (.Tuple [a, b] k2 pt2) X.env = pure (some [x, y]))
    (hs : swapsWithSole [.Tuple [.Name x px, .Name y py] kt pt] (.Tuple [a, b] k2 pt2) pos.line X.env = pure false := by rfl) (hp : pn = true → i ≠ 0 ∧ j ≠ 0 := by decide) :
    PSm X pn (.Assign [.Tuple [.Name x px, .Name y py] kt pt] (.Tuple [a, b] k2 pt2) pos) (parM i j f) := fun W tk =>
  PS.weak (ps_par hc hN hi hj hij hx hy (ha W tk) hw hs) fun σ H D ⟨U, F, ρ, S, R, p⟩ => ⟨U, F, ρ, S, R, SPost.seq p fun F1 ρ1 S1 H1 as vs s1 q1 r1 e1 p1 => by
    have e1 : EmbL X.K F1 ρ1 as vs := e1
    match as, e1, p1 with
    | [], _, p1 => exact p1.elim
    | [_], _, p1 => exact p1.elim
    | [a, b], e1, p1 =>
      simp only [EmbL] at e1
      obtain ⟨v, r, rfl, e2, v2, r2, rfl, e3, rfl⟩ := e1
      have R2 := (r1.set (i := i) e2).set (i := j) e3
      exact ⟨v, v2, rfl, p1 F1 ρ1 _ H1 (Same.refl _) (List.prefix_refl _) R2 fun z => by rw [List.getElem?_set_ne (hp z).2, List.getElem?_set_ne (hp z).1]⟩
    | _ :: _ :: _ :: _, _, p1 => exact p1.elim⟩
/-- x op= e -/
def augM (i : Nat) (op : AV → AV → Option AV) (f : M AV) : M Fl := fun s => match s.sl[i]? with
  | some (some (.val a)) => bindM f (fun b s => match op a b with
    | some c => .ok .nx { s with sl := s.sl.set i (some (.val c)) }
    | none => .stuck) s
  | _ => .stuck
theorem psm_aug {i : Nat} {x : Str} {e : Expr} {o : Operator} {op : AV → AV → Option AV} {r : R2} {f : M AV} {pos' : Pos} (ho : OpR X (inplaceOp o) r) (hgo : GoodOp X op r) (hN : X.N.Nodup) (hi : X.N[i]? = some x) (hx : Loc X.env.scope x) (he : PEm X e f)
    (hf : X.fn x = true ∨ X.env.scope.names.lookup x = some .local := by first | exact .inl rfl | exact .inr rfl | assumption) (hp : pn = true → i ≠ 0 := by decide) : PSm X pn (.AugAssign (.Name x pos') o e pos) (augM i op f) := fun W tk =>
  PS.weak (ps_aug (ti := r) hN hi hx (he W tk) ho hf) fun σ H D ⟨U, F, ρ, S, R, p⟩ => by
    unfold augM at p
    cases h : S.sl[i]? with
    | none => rw [h] at p; exact p.elim
    | some ov =>
      rw [h] at p
      cases ov with
      | none => exact p.elim
      | some sv =>
        cases sv with
        | own o => exact p.elim
        | val a =>
          obtain ⟨v, e1, e2⟩ := R.val i a h
          refine ⟨v, e1, U, F, ρ, S, R, SPost.seq p fun F1 ρ1 S1 H1 b y s1 q1 r1 e3 p1 => ?_⟩
          cases z : op a b with
          | none => rw [z] at p1; exact p1.elim
          | some c =>
            rw [z] at p1
            exact hgo U F1 ρ1 S1 σ H1 a b c v y _ r1 (Emb.mono s1 q1 _ _ e2) e3 z fun F2 H2 w s2 r2 e4 => p1 F2 ρ1 _ H2 s2 (List.prefix_refl _) (r2.set e4) (set_pin hp)
theorem psm_augadd {i : Nat} {x : Str} {e : Expr} {f : M AV} {pos' : Pos} (hN : X.N.Nodup) (hi : X.N[i]? = some x) (hx : Loc X.env.scope x) (he : PEm X e f)
    (hf : X.fn x = true ∨ X.env.scope.names.lookup x = some .local := by first | exact .inl rfl | exact .inr rfl | assumption) (hp : pn = true → i ≠ 0 := by decide) : PSm X pn (.AugAssign (.Name x pos') .Add e pos) (augM i (fun a b => (addI a b).or (addS a b)) f) :=
  psm_aug (OpR.or iop_add iop_add_str) (ga_add.or ga_adds) hN hi hx he hf hp
/-! ## while -/
def whileM (c : M Bool) (b : M Fl) : Nat → M Fl
  | 0 => fun _ => .stuck
  | n + 1 => fun s => match c s with
    | .ok true s => (match b s with
      | .ok .nx s => whileM c b n s
      | .ok .ct s => whileM c b n s
      | .ok .bk s => .ok .nx s
      | r => r)
    | .ok false s => .ok .nx s
    | .exn c s => .exn c s
    | .stuck => .stuck
theorem psm_while {c : Expr} {body : List Stmt} {t : M Bool} {m : M Fl} {n : Nat} (hpo : PassesOwn (model X.prog X.w) X.A X.env X.xe) (hc : PTm X c t) (hb : PSsm X pn body m) : PSm X pn (.While c body [] pos) (whileM t m n) := fun W tk =>
  PS.weak (ps_while hpo (hc W tk) (hb W tk)) fun σ₀ H₀ D ⟨U, F₀, ρ₀, S₀, R₀, p₀⟩ => by
    refine ⟨fun k σ H => ∃ F ρ S, Rep X.K U F ρ S σ H ∧ SPost X.K U F ρ σ pn D W (whileM t m k S), ⟨n, F₀, ρ₀, S₀, R₀, p₀⟩, ?_⟩
    rintro k σ H ⟨F, ρ, S, R, p⟩
    cases k with
    | zero => exact p.elim
    | succ k =>
      refine ⟨U, F, ρ, S, R, ?_⟩
      have p : SPost X.K U F ρ σ pn D W (match t S with
        | .ok true s => (match m s with
          | .ok .nx s => whileM t m k s
          | .ok .ct s => whileM t m k s
          | .ok .bk s => .ok .nx s
          | r => r)
        | .ok false s => .ok .nx s
        | .exn c s => .exn c s
        | .stuck => .stuck) := p
      cases z : t S with
      | stuck => rw [z] at p; exact p
      | exn c s => rw [z] at p; exact fun F' ρ' H' s' q' r' => p F' ρ' σ H' s' q' r'
      | ok b S1 =>
        rw [z] at p
        intro F1 ρ1 H1 b' s1 q1 r1 e1
        have e1 : b' = b := e1
        subst e1
        cases b' with
        | false => rw [if_neg Bool.false_ne_true]; exact p F1 ρ1 σ H1 s1 q1 r1 fun _ => rfl
        | true =>
          rw [if_pos rfl]
          refine ⟨fun σ' H' => ∃ F ρ S, Rep X.K U F ρ S σ' H' ∧ SPost X.K U F ρ σ' pn D W (whileM t m k S), fun σ' H' h => ⟨k, Nat.lt_succ_self _, h⟩, U, F1, ρ1, S1, r1, ?_⟩
          have p := SPost.up (σ1 := σ) s1 q1 (fun _ => rfl) p
          cases z2 : m S1 with
          | stuck => simp only [z2] at p; exact p
          | exn c s => simp only [z2] at p; exact p
          | ok a S2 =>
            simp only [z2] at p
            cases a with
            | nx => exact fun F2 ρ2 σ2 H2 s2 q2 r2 k2 => ⟨F2, ρ2, S2, r2, SPost.up s2 q2 k2 p⟩
            | ct => exact fun F2 ρ2 σ2 H2 s2 q2 r2 k2 => ⟨F2, ρ2, S2, r2, SPost.up s2 q2 k2 p⟩
            | bk => exact p
            | rt v => exact p
end
end LM

namespace LM
open PySem PySem.Spec PyProof.Rows L2
/-! ## what is walked -/
def ItOk (K : PySem.W.Frag) (F : Hp) (ρ : List Addr) (xs : List AV) (J : It) : Prop := ∀ U F' ρ' S' σ' H', Same F F' → ρ <+: ρ' → Rep K U F' ρ' S' σ' H' →
  (∀ (i : Nat) (a : AV), xs[i]? = some a → J.go i H' ∧ ∀ x H'', J.yld i H' x H'' → ∃ F'', Same F' F'' ∧ Rep K U F'' ρ' S' σ' H'' ∧ Emb K F'' ρ' a x) ∧ J.stop xs.length H'
def RI (K : PySem.W.Frag) (_ : Hp) (_ : St) : RR (List AV) It := fun F ρ _ _ xs J => ItOk K F ρ xs J
def PIm (X : Cx) (tg iter : Expr) (f : M (List AV)) : Prop := ∀ W, Takes X W → PI X tg iter (tG X.K W (RI X.K) f)
section
variable {K : PySem.W.Frag} {U F H : Hp} {ρ : List Addr} {S : SS} {σ : St}
theorem itok_list {p : Addr} {vs : List V} {xs : List AV} (h : SqL K F p vs) (e : EmbL K F ρ xs vs) : ItOk K F ρ xs (Itl K p) := by
  intro U F' ρ' S' σ' H' sm pr R
  have hs : SqL K H' p vs := R.lstF (sm.seq h)
  have e' := e.mono sm pr
  refine ⟨fun i a ha => ?_, vs, hs, by rw [e.length]; exact Nat.le_refl _⟩
  obtain ⟨v, hv, ev⟩ := e'.get ha
  refine ⟨⟨vs, v, hs, hv⟩, fun x H'' hy => ?_⟩
  obtain ⟨rfl, f⟩ := hy
  have q := f vs hs
  rw [hv] at q; cases q
  exact ⟨F', Same.refl _, R, ev⟩
theorem itok_tup {p : Addr} {vs : List V} {xs : List AV} (h : F p = some (.tup vs) ∨ SqT K (fun _ => none) p vs) (e : EmbL K F ρ xs vs) : ItOk K F ρ xs (Itt K p) := by
  intro U F' ρ' S' σ' H' sm pr R
  have hs : SqT K H' p vs := by
    rcases h with h | h
    · exact SqT.of (R.tupF (sm _ _ h))
    · exact seqT0 h
  have e' := e.mono sm pr
  refine ⟨fun i a ha => ?_, vs, hs, by rw [e.length]; exact Nat.le_refl _⟩
  obtain ⟨v, hv, ev⟩ := e'.get ha
  refine ⟨⟨vs, v, hs, hv⟩, fun x H'' hy => ?_⟩
  obtain ⟨rfl, f⟩ := hy
  have q := f vs hs
  rw [hv] at q; cases q
  exact ⟨F', Same.refl _, R, ev⟩
def sigs (z : Str) : List AV := z.cps.toList.map fun c => .str ⟨#[c]⟩
theorem itok_str {z : Str} : ItOk K F ρ (sigs z) (Its z) := by
  intro U F' ρ' S' σ' H' sm pr R
  refine ⟨fun i a ha => ?_, by unfold sigs; simp [Its]⟩
  unfold sigs at ha
  rw [List.getElem?_map] at ha
  cases hc : z.cps.toList[i]? with
  | none => rw [hc] at ha; cases ha
  | some c =>
    rw [hc] at ha
    cases ha
    have hc2 : z.cps[i]? = some c := by simpa using hc
    refine ⟨(Array.getElem?_eq_some_iff.mp hc2).1, fun x H'' hy => ?_⟩
    obtain ⟨rfl, c', e1, rfl⟩ := hy
    rw [hc2] at e1; cases e1
    exact ⟨F', Same.refl _, R, emb_str'⟩
def ixsR (lo : Int) (n : Nat) : List AV := (List.range n).map fun (i : Nat) => .int (lo + i)
theorem itok_range {lo : Int} {n : Nat} : ItOk K F ρ (ixsR lo n) (Itr lo n) := by
  intro U F' ρ' S' σ' H' sm pr R
  refine ⟨fun i a ha => ?_, by unfold ixsR; simp [Itr]⟩
  unfold ixsR at ha
  rw [List.getElem?_map] at ha
  cases hc : (List.range n)[i]? with
  | none => rw [hc] at ha; cases ha
  | some c =>
    rw [hc] at ha
    cases ha
    obtain ⟨h1, h2⟩ := List.getElem?_eq_some_iff.mp hc
    have h3 : i < n := by simpa using h1
    have h4 : c = i := by simpa using h2.symm
    subst h4
    refine ⟨h3, fun x H'' hy => ?_⟩
    obtain ⟨rfl, rfl⟩ := hy
    exact ⟨F', Same.refl _, R, emb_int'⟩
end
section
variable {X : Cx} {pn : Bool} {pos : Pos} {tg : Expr}
/-- a list, a tuple, a text -/
theorem pi_dyn {l : Expr} {tl : TE} (hl : PE X l tl) : PI X tg l (fun σ H R => tl σ H fun x H1 => (∃ a, x = .ref a ∧ (∃ xs, SqL X.K H1 a xs) ∧ R (Itl X.K a) H1) ∨ (∃ a, x = .ref a ∧ (∃ xs, SqT X.K H1 a xs) ∧ R (Itt X.K a) H1) ∨ ∃ z, x = .str z ∧ R (Its z) H1) := by
  refine ⟨fun pins s σ H R I h => ?_⟩
  refine thn (hl.run pins s σ H _ I h) fun v s1 ⟨x, H1, I1, r1, q1⟩ => ?_
  rcases q1 with ⟨a, rfl, ⟨xs, hq⟩, q⟩ | ⟨a, rfl, ⟨xs, hq⟩, q⟩ | ⟨z, rfl, q⟩
  · cases r1
    obtain ⟨its, rv, p, hz⟩ := I1.list hq
    refine wpAny_pyIter_list p.isList ?_
    refine ⟨s1.heap.objs.size, [s1.heap.objs.size], _, _, H1, rfl, I1.kept (t' := s1.toks) fun b o e => Heap.get?_push_of_some _ e, turn_list a _, ⟨_, Heap.get?_push_size _ rfl, rfl, rfl⟩, fun b hb => ?_, q⟩
    have e : b = s1.heap.objs.size := by simpa using hb
    subst e
    exact I1.fpOk (Nat.le_refl _) (I1.hok.fresh (Nat.le_refl _))
  · cases r1
    obtain ⟨its, rv, p, hz⟩ := I1.tuple hq
    refine wpAny_pyIter_tuple (show s1.heap.IsTuple a its.toArray from p) ?_
    refine ⟨s1.heap.objs.size, [s1.heap.objs.size], _, _, H1, rfl, I1.kept (t' := s1.toks) fun b o e => Heap.get?_push_of_some _ e, turn_tuple a _, ⟨_, Heap.get?_push_size _ rfl, rfl, rfl⟩, fun b hb => ?_, q⟩
    have e : b = s1.heap.objs.size := by simpa using hb
    subst e
    exact I1.fpOk (Nat.le_refl _) (I1.hok.fresh (Nat.le_refl _))
  · obtain ⟨t, rfl⟩ := r1
    cases ha : z.cps.all (· < 128)
    · exact wpAny_pyIter_wide ha (pi_one (tk := s1.toks) I1 _ (turn_str _ z t "str_iterator" (.inr rfl)) ⟨_, Heap.get?_push_size _ rfl, rfl, rfl⟩ q)
    · exact wpAny_pyIter_ascii ha (pi_one (tk := s1.toks) I1 _ (turn_str _ z t "str_ascii_iterator" (.inl rfl)) ⟨_, Heap.get?_push_size _ rfl, rfl, rfl⟩ q)
def itA : AV → Option (List AV)
  | .vl xs => some xs
  | .cl xs => some xs
  | .tup xs => some xs
  | .ct xs => some xs
  | .str z => some (sigs z)
  | _ => none
def itM (f : M AV) : M (List AV) := bindM f fun a => optM (itA a)
theorem PI.weak {e : Expr} {t t' : TI} (h : PI X tg e t) (w : ∀ σ H Q, t' σ H Q → t σ H Q) : PI X tg e t' := ⟨fun pins s σ H Q I q => h.run pins s σ H Q I (w σ H Q q)⟩
theorem pim_seq {e : Expr} {f : M AV} (h : PEm X e f) : PIm X tg e (itM f) := fun W tk =>
  PI.weak (pi_dyn (h W tk)) fun σ H Q ⟨U, F, ρ, S, R, p⟩ => ⟨U, F, ρ, S, R, Post.seq p fun F1 ρ1 S1 H1 a v s1 q1 r1 e1 p1 => by
    have e1 : Emb X.K F1 ρ1 a v := e1
    cases a with
    | vl xs =>
      simp only [Emb] at e1
      obtain ⟨q, vs, rfl, h1, h2⟩ := e1
      exact .inl ⟨q, rfl, ⟨vs, r1.lstF (SqL.of h1)⟩, p1 F1 ρ1 H1 _ (Same.refl _) (List.prefix_refl _) r1 (itok_list (SqL.of h1) h2)⟩
    | cl xs =>
      simp only [Emb] at e1
      obtain ⟨q, vs, rfl, h1, h2⟩ := e1
      exact .inl ⟨q, rfl, ⟨vs, r1.lstF h1⟩, p1 F1 ρ1 H1 _ (Same.refl _) (List.prefix_refl _) r1 (itok_list h1 h2)⟩
    | tup xs =>
      simp only [Emb] at e1
      obtain ⟨q, vs, rfl, h1, h2⟩ := e1
      exact .inr (.inl ⟨q, rfl, ⟨vs, SqT.of (r1.tupF h1)⟩, p1 F1 ρ1 H1 _ (Same.refl _) (List.prefix_refl _) r1 (itok_tup (.inl h1) h2)⟩)
    | ct xs =>
      simp only [Emb] at e1
      obtain ⟨q, vs, rfl, h1, h2⟩ := e1
      exact .inr (.inl ⟨q, rfl, ⟨vs, seqT0 h1⟩, p1 F1 ρ1 H1 _ (Same.refl _) (List.prefix_refl _) r1 (itok_tup (.inr h1) h2)⟩)
    | str z =>
      exact .inr (.inr ⟨z, emb_str e1, p1 F1 ρ1 H1 _ (Same.refl _) (List.prefix_refl _) r1 itok_str⟩)
    | _ => exact p1.elim⟩
def rng1 (f : M (List AV)) : M (List AV) := bindM f fun as s => match as with
  | [.int j] => if decide (-(2 ^ 62) ≤ j) && decide (j < 2 ^ 62) then .ok (ixsR 0 j.toNat) s else .stuck
  | _ => .stuck
def rng2 (f : M (List AV)) : M (List AV) := bindM f fun as s => match as with
  | [.int i, .int j] => if decide (-(2 ^ 62) ≤ i) && decide (i < 2 ^ 62) && decide (-(2 ^ 62) ≤ j) && decide (j < 2 ^ 62) then .ok (ixsR i (j - i).toNat) s else .stuck
  | _ => .stuck
theorem pim_range1 {a : Expr} {f : M (List AV)} {p : Pos} (hm : X.mg "range" = none) (ha : PAm X [a] f) (hg : Gl X "range" := by rfl) (hs : starEach [a] X.env = [(false, eval a X.env)] := by rfl) : PIm X tg (.Call (.Name "range" p) [a] [] pos) (rng1 f) := fun W tk =>
  PI.weak (pi_range1 hg hm (ha W tk) hs) fun σ H Q ⟨U, F, ρ, S, R, p⟩ => ⟨U, F, ρ, S, R, Post.seq p fun F1 ρ1 S1 H1 as vs s1 q1 r1 e1 p1 => by
    change EmbL X.K F1 ρ1 as vs at e1
    split at p1
    · rename_i j
      split at p1
      · rename_i hj
        simp only [EmbL] at e1
        obtain ⟨v, r, rfl, e2, rfl⟩ := e1
        simp only [Bool.and_eq_true, decide_eq_true_eq] at hj
        exact ⟨j, by rw [emb_int e2], hj.1, hj.2, p1 F1 ρ1 H1 _ (Same.refl _) (List.prefix_refl _) r1 itok_range⟩
      · exact p1.elim
    · exact p1.elim⟩
theorem pim_range2 {a b : Expr} {f : M (List AV)} {p : Pos} (hm : X.mg "range" = none) (ha : PAm X [a, b] f) (hg : Gl X "range" := by rfl) (hs : starEach [a, b] X.env = [(false, eval a X.env), (false, eval b X.env)] := by rfl) (hs2 : starEach [b] X.env = [(false, eval b X.env)] := by rfl) : PIm X tg (.Call (.Name "range" p) [a, b] [] pos) (rng2 f) := fun W tk =>
  PI.weak (pi_range2 hg hm (ha W tk) hs hs2) fun σ H Q ⟨U, F, ρ, S, R, p⟩ => ⟨U, F, ρ, S, R, Post.seq p fun F1 ρ1 S1 H1 as vs s1 q1 r1 e1 p1 => by
    change EmbL X.K F1 ρ1 as vs at e1
    split at p1
    · rename_i i j
      split at p1
      · rename_i hj
        simp only [EmbL] at e1
        obtain ⟨v, r, rfl, e2, w, r', rfl, e3, rfl⟩ := e1
        simp only [Bool.and_eq_true, decide_eq_true_eq] at hj
        exact ⟨i, j, by rw [emb_int e2, emb_int e3], ⟨hj.1.1.1, hj.1.1.2, hj.1.2, hj.2⟩, p1 F1 ρ1 H1 _ (Same.refl _) (List.prefix_refl _) r1 itok_range⟩
      · exact p1.elim
    · exact p1.elim⟩
/-! ## for -/
def forL (g : AV → M Unit) (b : M Fl) : List AV → M Fl
  | [] => nxM
  | x :: xs => fun s => match g x s with
    | .ok _ s => (match b s with
      | .ok .nx s => forL g b xs s
      | .ok .ct s => forL g b xs s
      | .ok .bk s => .ok .nx s
      | r => r)
    | _ => .stuck
def forM (it : M (List AV)) (g : AV → M Unit) (b : M Fl) : M Fl := bindM it fun xs => forL g b xs
theorem psm_for {iter : Expr} {body : List Stmt} {it : M (List AV)} {g : AV → M Unit} {m : M Fl} (hpo : PassesOwn (model X.prog X.w) X.A X.env X.xe) (hc : X.calm = true) (hi : PIm X tg iter it) (hg : PGm X (Zp pn) tg g) (hb : PSsm X pn body m)
    (hs : ∀ x, foldedSetIterable iter X.env x = pure x := by intro _; rfl) : PSm X pn (.For tg iter body [] pos) (forM it g m) := fun W tk => by
  obtain ⟨t, hg, w⟩ := hg
  refine PS.weak (ps_for hpo hc (hi W tk) hg (hb W tk) hs) fun σ₀ H₀ D ⟨U, F₀, ρ₀, S₀, R₀, p₀⟩ => ⟨U, F₀, ρ₀, S₀, R₀, SPost.seq p₀ fun F1 ρ1 S1 H1 xs J s1 q1 r1 e1 p1 => ?_⟩
  change ItOk X.K F1 ρ1 xs J at e1
  refine ⟨fun i k σ H => k = xs.length - i ∧ i ≤ xs.length ∧ ∃ F ρ S, Same F1 F ∧ ρ1 <+: ρ ∧ Rep X.K U F ρ S σ H ∧ SPost X.K U F ρ σ pn D W (forL g m (xs.drop i) S), ⟨xs.length, by simp, Nat.zero_le _, F1, ρ1, S1, Same.refl _, List.prefix_refl _, r1, by simpa using p1⟩, ?_⟩
  rintro i k σ H ⟨rfl, hi, F, ρ, S, sm, pr, R, p⟩
  obtain ⟨it1, it2⟩ := e1 U F ρ S σ H sm pr R
  by_cases hlt : i < xs.length
  · have hx : xs[i]? = some xs[i] := List.getElem?_eq_getElem hlt
    have hd : xs.drop i = xs[i] :: xs.drop (i + 1) := List.drop_eq_getElem_cons hlt
    rw [hd] at p
    obtain ⟨go, yld⟩ := it1 i xs[i] hx
    refine .inr ⟨go, fun σ' H' => ∃ F ρ S, Same F1 F ∧ ρ1 <+: ρ ∧ Rep X.K U F ρ S σ' H' ∧ SPost X.K U F ρ σ' pn D W (forL g m (xs.drop (i + 1)) S), fun σ' H' h => ⟨xs.length - (i + 1), by omega, rfl, hlt, h⟩, fun x H' hy => ?_⟩
    obtain ⟨F2, sm2, R2, em⟩ := yld x H' hy
    have p := SPost.up (σ1 := σ) sm2 (List.prefix_refl _) (fun _ => rfl) p
    have p : SPost X.K U F2 ρ σ pn D W (match g xs[i] S with
      | .ok _ s => (match m s with
        | .ok .nx s => forL g m (xs.drop (i + 1)) s
        | .ok .ct s => forL g m (xs.drop (i + 1)) s
        | .ok .bk s => .ok .nx s
        | r => r)
      | _ => .stuck) := p
    refine w _ _ _ _ ⟨U, F2, ρ, S, xs[i], R2, em, ?_⟩
    cases z : g xs[i] S with
    | stuck => rw [z] at p; exact p
    | exn c s => rw [z] at p; exact p
    | ok u S3 =>
      rw [z] at p
      intro F3 ρ3 σ3 H3 s3 q3 r3 k3
      refine ⟨U, F3, ρ3, S3, r3, ?_⟩
      have p := SPost.up s3 q3 k3 p
      cases z2 : m S3 with
      | stuck => simp only [z2] at p; exact p
      | exn c s => simp only [z2] at p; exact p
      | ok a S4 =>
        simp only [z2] at p
        cases a with
        | nx => exact fun F4 ρ4 σ4 H4 s4 q4 r4 k4 => ⟨F4, ρ4, S4, ((sm.trans sm2).trans s3).trans s4, (pr.trans q3).trans q4, r4, SPost.up s4 q4 k4 p⟩
        | ct => exact fun F4 ρ4 σ4 H4 s4 q4 r4 k4 => ⟨F4, ρ4, S4, ((sm.trans sm2).trans s3).trans s4, (pr.trans q3).trans q4, r4, SPost.up s4 q4 k4 p⟩
        | bk => exact p
        | rt v => exact p
  · have e : i = xs.length := by omega
    subst e
    rw [List.drop_length] at p
    exact .inl ⟨it2, p F ρ σ H (Same.refl _) (List.prefix_refl _) R fun _ => rfl⟩
/-! ## comprehensions -/
def wipeL (l : List (Option SV)) : List Nat → List (Option SV)
  | [] => l
  | v :: vs => (wipeL l vs).set v none
def wipeS (vs : List Nat) (s : SS) : SS := { s with sl := wipeL s.sl vs }
def putBack (old : List (Option SV)) (l : List (Option SV)) : List Nat → List (Option SV)
  | [] => l
  | v :: vs => (putBack old l vs).set v (match old[v]? with
    | some (some (.val a)) => some (.val a)
    | _ => none)
def compL (vs : List Nat) (g : AV → M Unit) (c : M Bool) (e : M AV) : List AV → List AV → M (List AV)
  | [], acc => fun s => .ok acc (wipeS vs s)
  | x :: xs, acc => fun s => match g x (wipeS vs s) with
    | .ok _ s => (match c s with
      | .ok true s => (match e s with
        | .ok a s => if acc.length < 16777216 then compL vs g c e xs (acc ++ [a]) s else .stuck
        | _ => .stuck)
      | .ok false s => compL vs g c e xs acc s
      | _ => .stuck)
    | _ => .stuck
def ownAt (l : List (Option SV)) (vs : List Nat) : Bool := vs.any fun v => match l[v]? with
  | some (some (.own _)) => true
  | _ => false
def compM (vs : List Nat) (it : M (List AV)) (g : AV → M Unit) (c : M Bool) (e : M AV) : M AO := bindM it fun xs s => if ownAt s.sl vs then .stuck else match compL vs g c e xs [] s with
  | .ok acc s' => .ok (.lst acc) { s' with sl := putBack s.sl s'.sl vs }
  | _ => .stuck
end
section
variable {K : PySem.W.Frag} {U F F1 H : Hp} {ρ : List Addr} {S S1 : SS} {σ : St}
theorem set_none_iff {α : Type} {l : List (Option α)} {i j : Nat} {x : α} (q : (l.set i none)[j]? = some (some x)) : l[j]? = some (some x) ∧ i ≠ j := by
  by_cases hj : i = j
  · subst hj
    by_cases hi : i < l.length
    · rw [List.getElem?_set_self hi] at q; cases q
    · rw [List.getElem?_eq_none (by simpa using hi)] at q; cases q
  · rw [List.getElem?_set_ne hj] at q; exact ⟨q, hj⟩
theorem Rep.wipe1 (R : Rep K U F ρ S σ H) (i : Nat) : Rep K U F ρ { S with sl := S.sl.set i none } (σ.set i none) H := by
  refine ⟨by simp [R.len], R.fro, R.unt, R.rln, R.rnd, R.rF, R.FU, R.hp, fun j b q => ?_, fun j o' q => ?_⟩
  · obtain ⟨q, ne⟩ := set_none_iff q
    rw [List.getElem?_set_ne ne]
    exact R.val j b q
  · obtain ⟨q, ne⟩ := set_none_iff q
    rw [List.getElem?_set_ne ne]
    obtain ⟨p', f1, f2, f3, f4, f5, f6⟩ := R.own j o' q
    refine ⟨p', f1, f2, f3, f4, f5, fun k o'' q' z => ?_⟩
    obtain ⟨q', _⟩ := set_none_iff q'
    obtain ⟨z, _⟩ := set_none_iff z
    exact f6 k o'' q' z
theorem Rep.wipeN (R : Rep K U F ρ S σ H) : ∀ vs : List Nat, Rep K U F ρ (wipeS vs S) (wipe σ vs) H
  | [] => R
  | v :: vs => (Rep.wipeN R vs).wipe1 v
/-- an address of the caller's own is set aside -/
theorem Rep.shield {D : Addr} {u : HO} (R : Rep K U F ρ S σ H) (hD : H D = none) : Rep K (upd U D u) F ρ S σ (upd H D u) := by
  obtain ⟨h1, h2, h3, h4⟩ := R.new hD
  have R1 := R.laid (u := u) hD
  refine ⟨R1.len, R1.fro, fun b o e => ?_, R1.rln, R1.rnd, fun q hq => ⟨(R1.rF q hq).1, ?_⟩, fun b w e => ?_, R1.hp, R1.val, fun i o e => ?_⟩
  · by_cases hb : b = D
    · subst hb; rw [upd_same] at e ⊢; exact e
    · rw [upd_ne hb] at e; exact R1.unt b o e
  · rw [upd_ne (fun (z : q = D) => h3 (z ▸ hq))]; exact (R1.rF q hq).2
  · have ne := ne_of_none e h1
    rw [upd_ne ne]; exact R1.FU b w e
  · obtain ⟨q, e1, e2, e3, e4, e5⟩ := R1.own i o e
    have ne : q ≠ D := fun z => h4 i o e (z ▸ e1)
    exact ⟨q, e1, e2, e3, by rw [upd_ne ne]; exact e4, e5⟩
theorem Rep.shut {D : Addr} {u : HO} (R : Rep K (upd U D u) F ρ S σ H) (hU : U D = none) (hu : ∀ o x, u ≠ .frz o x) : F D = none ∧ D ∉ ρ ∧ ∀ (j : Nat) (o' : AO), S.sl[j]? = some (some (.own o')) → σ[j]? ≠ some (some (.ref D)) := by
  refine ⟨?_, fun hm => ?_, fun j o' e z => ?_⟩
  · cases e : F D with
    | none => rfl
    | some w =>
      rcases R.FU D w e with h | ⟨ob, h⟩
      · rw [upd_same] at h; cases h
      · rw [upd_same] at h; cases h; exact absurd rfl (hu _ _)
  · have := (R.rF D hm).2; rw [upd_same] at this; cases this
  · obtain ⟨q, e1, _, _, e4, _⟩ := R.own j o' e
    rw [z] at e1; cases e1
    rw [upd_same] at e4; cases e4
theorem Rep.unshield {D : Addr} {u : HO} (R : Rep K (upd U D u) F ρ S σ H) (hU : U D = none) : Rep K U F ρ S σ H := by
  refine ⟨R.len, R.fro, fun b o e => R.unt b o (by rw [upd_ne (ne_of_none e hU)]; exact e), R.rln, R.rnd, fun q hq => ⟨(R.rF q hq).1, ?_⟩, fun b w e => ?_, R.hp, R.val, fun i o e => ?_⟩
  · have h := (R.rF q hq).2
    by_cases hb : q = D
    · rw [hb]; exact hU
    · rw [upd_ne hb] at h; exact h
  · by_cases hb : b = D
    · rw [hb]; exact .inl hU
    · have h := R.FU b w e; rw [upd_ne hb] at h; exact h
  · obtain ⟨q, e1, e2, e3, e4, e5⟩ := R.own i o e
    refine ⟨q, e1, e2, e3, ?_, e5⟩
    by_cases hb : q = D
    · rw [hb]; exact hU
    · rw [upd_ne hb] at e4; exact e4
theorem Rep.reshield {D : Addr} {u u' : HO} (R : Rep K (upd U D u) F ρ S σ H) (hU : U D = none) (hu : ∀ o x, u ≠ .frz o x) : Rep K (upd U D u') F ρ S σ (upd H D u') := by
  obtain ⟨h1, h2, h3⟩ := R.shut hU hu
  have R2 := (R.unshield hU).at_ (u := u') h1 hU h2 h3
  refine ⟨R2.len, R2.fro, fun b o e => ?_, R2.rln, R2.rnd, fun q hq => ⟨(R2.rF q hq).1, ?_⟩, fun b w e => ?_, R2.hp, R2.val, fun i o e => ?_⟩
  · by_cases hb : b = D
    · subst hb; rw [upd_same] at e ⊢; exact e
    · rw [upd_ne hb] at e; exact R2.unt b o e
  · rw [upd_ne (fun (z : q = D) => h2 (z ▸ hq))]; exact (R2.rF q hq).2
  · rw [upd_ne (ne_of_none e h1)]; exact R2.FU b w e
  · obtain ⟨q, e1, e2, e3, e4, e5⟩ := R2.own i o e
    have ne : q ≠ D := fun z => h3 i o e (z ▸ e1)
    exact ⟨q, e1, e2, e3, by rw [upd_ne ne]; exact e4, e5⟩
theorem Rep.shield0 {D : Addr} {u : HO} (R : Rep K (upd U D u) F ρ S σ H) : H D = some u := R.unt D u upd_same
/-- slots put back behind a block -/
theorem wipe_out' {σ : St} {i : Nat} : ∀ {vs : List Nat}, i ∉ vs → (wipe σ vs)[i]? = σ[i]? := wipe_out
theorem putBack_get {old l : List (Option SV)} {j : Nat} {x : SV} : ∀ {vs : List Nat}, (putBack old l vs)[j]? = some (some x) → (j ∉ vs ∧ l[j]? = some (some x)) ∨ (j ∈ vs ∧ ∃ a, x = .val a ∧ old[j]? = some (some (.val a)))
  | [], h => .inl ⟨by simp, h⟩
  | v :: vs, h => by
    unfold putBack at h
    by_cases hj : v = j
    · subst hj
      by_cases hi : v < (putBack old l vs).length
      · rw [List.getElem?_set_self hi] at h
        refine .inr ⟨by simp, ?_⟩
        cases e : old[v]? with
        | none => rw [e] at h; cases h
        | some o =>
          rw [e] at h
          cases o with
          | none => cases h
          | some sv =>
            cases sv with
            | val a => cases h; exact ⟨a, rfl, rfl⟩
            | own o => cases h
      · rw [List.getElem?_eq_none (by simpa using hi)] at h; cases h
    · rw [List.getElem?_set_ne hj] at h
      rcases putBack_get h with ⟨h1, h2⟩ | ⟨h1, h2⟩
      · exact .inl ⟨by simp [h1]; exact fun z => hj z.symm, h2⟩
      · exact .inr ⟨by simp [h1], h2⟩
theorem putBack_length {old l : List (Option SV)} : ∀ {vs : List Nat}, (putBack old l vs).length = l.length
  | [] => rfl
  | v :: vs => by unfold putBack; rw [List.length_set, putBack_length]
theorem wipeL_get {l : List (Option SV)} {j : Nat} {x : SV} : ∀ {vs : List Nat}, (wipeL l vs)[j]? = some (some x) → j ∉ vs ∧ l[j]? = some (some x)
  | [], h => ⟨by simp, h⟩
  | v :: vs, h => by
    obtain ⟨h1, h2⟩ := set_none_iff (l := wipeL l vs) h
    obtain ⟨h3, h4⟩ := wipeL_get h1
    exact ⟨by simp [h3]; exact fun z => h2 z.symm, h4⟩
theorem Rep.unwipe {F₁ : Hp} {ρ₁ : List Addr} {vs : List Nat} {old : List (Option SV)} (R : Rep K U F ρ S (L2.wipe σ vs) H) (h0 : ∀ (i : Nat) (a : AV), old[i]? = some (some (.val a)) → ∃ v, σ[i]? = some (some v) ∧ Emb K F₁ ρ₁ a v) (sm : Same F₁ F) (pr : ρ₁ <+: ρ)
    (hw : ∀ (j : Nat) (x : SV), S.sl[j]? = some (some x) → j ∉ vs) : Rep K U F ρ { S with sl := putBack old S.sl vs } σ H := by
  refine ⟨?_, R.fro, R.unt, R.rln, R.rnd, R.rF, R.FU, R.hp, fun j b q => ?_, fun j o' q => ?_⟩
  · have := R.len
    rw [wipe_length] at this
    simp [putBack_length, this]
  · rcases putBack_get q with ⟨h1, h2⟩ | ⟨h1, a, e, h2⟩
    · obtain ⟨v, e1, e2⟩ := R.val j b h2
      rw [wipe_out h1] at e1
      exact ⟨v, e1, e2⟩
    · cases e
      obtain ⟨v, e1, e2⟩ := h0 j b h2
      exact ⟨v, e1, Emb.mono sm pr _ _ e2⟩
  · rcases putBack_get q with ⟨h1, h2⟩ | ⟨h1, a, e, h2⟩
    · obtain ⟨p, f1, f2, f3, f4, f5, f6⟩ := R.own j o' h2
      rw [wipe_out h1] at f1
      refine ⟨p, f1, f2, f3, f4, f5, fun k o'' q' z => ?_⟩
      rcases putBack_get q' with ⟨g1, g2⟩ | ⟨g1, a, e, g2⟩
      · exact f6 k o'' g2 (by rw [wipe_out g1]; exact z)
      · cases e
    · cases e
end
section
variable {X : Cx} {pn : Bool} {pos : Pos} {tg : Expr}
theorem comp_core {W : WX} {wi : TI} {g : TG} {tt : TT} {te : TE} {vs : List Nat} {it : M (List AV)} {gm : AV → M Unit} {c : M Bool} {e : M AV} {σ : St} {H : Hp} {Q : VK}
    (hwi : ∀ σ H R, tG X.K W (RI X.K) it σ H R → wi σ H R) (hg : ∀ v σ H Q, tGt X.K (Zw vs) gm v σ H Q → g v σ H Q) (htt : ∀ σ H Q, tG X.K (fun _ _ _ _ => False) (RT X.K) c σ H Q → tt σ H Q) (hte : ∀ σ H Q, tG X.K (fun _ _ _ _ => False) (RE X.K) e σ H Q → te σ H Q)
    (h : tG X.K W (RN X.K) (compM vs it gm c e) σ H Q) : tLc wi g tt te vs σ H Q := by
  obtain ⟨U, F₀, ρ₀, S₀, R₀, p₀⟩ := h
  refine hwi _ _ _ ⟨U, F₀, ρ₀, S₀, R₀, Post.seq p₀ fun F1 ρ1 S1 H1 xs J s1 q1 r1 e1 p1 => ?_⟩
  change ItOk X.K F1 ρ1 xs J at e1
  intro D hD
  by_cases how : ownAt S1.sl vs = true
  · rw [if_pos how] at p1; exact p1.elim
  rw [if_neg how] at p1
  obtain ⟨nF, nU, nρ, nO⟩ := r1.new hD
  have nfr : ∀ (l : List V) o x, HO.lst l ≠ .frz o x := fun _ _ _ z => by cases z
  -- what is wanted of the rest of the list
  let Good : Res (List AV) → Hp → List Addr → Prop := fun r F ρ => ∃ acc s', r = .ok acc s' ∧ ∀ F' ρ' H' accv, Same F F' → ρ <+: ρ' → Rep X.K (upd U D (.lst accv)) F' ρ' s' (wipe σ vs) H' → (∀ (j : Nat) (x : SV), s'.sl[j]? = some (some x) → j ∉ vs) → EmbL X.K F' ρ' acc accv → Same F1 F' → ρ1 <+: ρ' → Q (.ref D) H'
  have start : Good (compL vs gm c e xs [] S1) F1 ρ1 := by
    cases z : compL vs gm c e xs [] S1 with
    | stuck => rw [z] at p1; exact p1.elim
    | exn c s => rw [z] at p1; exact p1.elim
    | ok acc s' =>
      rw [z] at p1
      refine ⟨acc, s', rfl, fun F' ρ' H' accv sm pr R hw em sm1 pr1 => ?_⟩
      obtain ⟨u1, u2, u3⟩ := R.shut nU (nfr accv)
      have R2 := R.unshield nU
      have R3 := R2.unwipe (old := S1.sl) r1.val sm pr hw
      refine p1 F' ρ' H' (.ref D) sm1 pr1 R3 ⟨D, rfl, ⟨accv, R.shield0, em⟩, u1, nU, u2, fun j o' q z => ?_⟩
      rcases putBack_get q with ⟨h1, h2⟩ | ⟨h1, a, e, h2⟩
      · exact u3 j o' h2 (by rw [wipe_out h1]; exact z)
      · cases e
  refine ⟨fun i k H => k = xs.length - i ∧ i ≤ xs.length ∧ ∃ F ρ S σ' acc accv, Same F1 F ∧ ρ1 <+: ρ ∧ wipe σ' vs = wipe σ vs ∧ Rep X.K (upd U D (.lst accv)) F ρ S σ' H ∧ EmbL X.K F ρ acc accv ∧ Good (compL vs gm c e (xs.drop i) acc S) F ρ,
    ⟨xs.length, by simp, Nat.zero_le _, F1, ρ1, S1, σ, [], [], Same.refl _, List.prefix_refl _, rfl, r1.shield hD, by simp [EmbL], by simpa using start⟩, ?_⟩
  rintro i k H ⟨rfl, hi, F, ρ, S, σ', acc, accv, sm, pr, hσ, R, em, gd⟩
  have Rw : Rep X.K (upd U D (.lst accv)) F ρ (wipeS vs S) (wipe σ vs) H := by
    have := R.wipeN vs
    rw [hσ] at this
    exact this
  obtain ⟨it1, it2⟩ := e1 _ F ρ _ _ H sm pr Rw
  by_cases hlt : i < xs.length
  · have hx : xs[i]? = some xs[i] := List.getElem?_eq_getElem hlt
    have hd : xs.drop i = xs[i] :: xs.drop (i + 1) := List.drop_eq_getElem_cons hlt
    rw [hd] at gd
    obtain ⟨go, yld⟩ := it1 i xs[i] hx
    refine .inr ⟨go, fun H => ∃ F ρ S σ' acc accv, Same F1 F ∧ ρ1 <+: ρ ∧ wipe σ' vs = wipe σ vs ∧ Rep X.K (upd U D (.lst accv)) F ρ S σ' H ∧ EmbL X.K F ρ acc accv ∧ Good (compL vs gm c e (xs.drop (i + 1)) acc S) F ρ, fun H' h => ⟨xs.length - (i + 1), by omega, rfl, hlt, h⟩, fun x H' hy => ?_⟩
    obtain ⟨F2, sm2, R2, emx⟩ := yld x H' hy
    obtain ⟨acc', s', hr, gd⟩ := gd
    have hr : (match gm xs[i] (wipeS vs S) with
      | .ok _ s => (match c s with
        | .ok true s => (match e s with
          | .ok a s => if acc.length < 16777216 then compL vs gm c e (xs.drop (i + 1)) (acc ++ [a]) s else .stuck
          | _ => .stuck)
        | .ok false s => compL vs gm c e (xs.drop (i + 1)) acc s
        | _ => .stuck)
      | _ => .stuck) = Res.ok acc' s' := hr
    have wt : wipe (wipe σ vs) vs = wipe σ vs := by
      have h1 : ∀ (l : List Nat) (τ : St), (∀ v ∈ l, τ[v]? = some none ∨ τ[v]? = none) → wipe τ l = τ := by
        intro l
        induction l with
        | nil => intro τ _; rfl
        | cons v l ih =>
          intro τ hτ
          show (wipe τ l).set v none = τ
          rw [ih τ fun u hu => hτ u (List.mem_cons_of_mem _ hu)]
          apply List.ext_getElem?
          intro j
          by_cases hj : v = j
          · subst hj
            rcases hτ v List.mem_cons_self with q | q
            · rw [List.getElem?_set_self (List.getElem?_eq_some_iff.mp q).1, q]
            · rw [List.getElem?_eq_none (by simpa using q), q]
          · rw [List.getElem?_set_ne hj]
      refine h1 vs _ fun v hv => ?_
      cases z : (wipe σ vs)[v]? with
      | none => exact .inr rfl
      | some o =>
        cases o with
        | none => exact .inl rfl
        | some w => exact absurd hv (wipe_some z).2
    refine hg _ _ _ _ ⟨_, F2, ρ, wipeS vs S, xs[i], R2, emx, ?_⟩
    cases z : gm xs[i] (wipeS vs S) with
    | stuck => rw [z] at hr; cases hr
    | exn cc s => rw [z] at hr; cases hr
    | ok u S3 =>
      simp only [z] at hr
      intro F3 ρ3 σ3 H3 s3 q3 r3 k3
      have k3 : wipe σ3 vs = wipe σ vs := (show wipe σ3 vs = wipe (wipe σ vs) vs from k3).trans wt
      refine ⟨k3.trans wt.symm |> fun q => by rw [k3], htt _ _ _ ⟨_, F3, ρ3, S3, r3, ?_⟩⟩
      cases z2 : c S3 with
      | stuck => rw [z2] at hr; cases hr
      | exn cc s => rw [z2] at hr; cases hr
      | ok b S4 =>
        simp only [z2] at hr
        intro F4 ρ4 H4 b' s4 q4 r4 e4
        have e4 : b' = b := e4
        subst e4
        have em4 : EmbL X.K F4 ρ4 acc accv := ((em.mono sm2 (List.prefix_refl _)).mono s3 q3).mono s4 q4
        have sm4 : Same F F4 := (sm2.trans s3).trans s4
        have pr4 : ρ <+: ρ4 := q3.trans q4
        cases b' with
        | false =>
          rw [if_neg Bool.false_ne_true]
          exact ⟨F4, ρ4, S4, σ3, acc, accv, sm.trans sm4, pr.trans pr4, k3, r4, em4, acc', s', hr, fun F' ρ' H' av' s q => gd F' ρ' H' av' (sm4.trans s) (pr4.trans q)⟩
        | true =>
          rw [if_pos rfl]
          refine hte _ _ _ ⟨_, F4, ρ4, S4, r4, ?_⟩
          simp only at hr
          cases z3 : e S4 with
          | stuck => rw [z3] at hr; cases hr
          | exn cc s => rw [z3] at hr; cases hr
          | ok a S5 =>
            simp only [z3] at hr
            by_cases hlen : acc.length < 16777216
            · rw [if_pos hlen] at hr
              intro F5 ρ5 H5 y s5 q5 r5 e5
              have em5 : EmbL X.K F5 ρ5 acc accv := em4.mono s5 q5
              refine ⟨accv, r5.shield0, by rw [sz, em5.length]; exact hlen, F5, ρ5, S5, σ3, acc ++ [a], accv ++ [y], sm.trans (sm4.trans s5), pr.trans (pr4.trans q5), k3, r5.reshield nU (nfr accv), em5.append ?_, acc', s', hr, fun F' ρ' H' av' s q => gd F' ρ' H' av' ((sm4.trans s5).trans s) ((pr4.trans q5).trans q)⟩
              simp only [EmbL]
              exact ⟨y, [], rfl, e5, rfl⟩
            · rw [if_neg hlen] at hr; cases hr
  · have e : i = xs.length := by omega
    subst e
    rw [List.drop_length] at gd
    obtain ⟨acc', s', hr, gd⟩ := gd
    have hr : Res.ok acc (wipeS vs S) = Res.ok acc' s' := hr
    cases hr
    refine .inl ⟨it2, gd F ρ H accv (Same.refl _) (List.prefix_refl _) Rw (fun j x q => (wipeL_get q).1) em sm pr⟩
end
end LM

namespace LM
open PySem PySem.Spec PyProof.Rows L2
section
variable {X : Cx} {pn : Bool} {pos : Pos} {tg : Expr}
abbrev W0 : WX := fun _ _ _ _ => False
def PTsm (X : Cx) (ifs : List Expr) (c : M Bool) : Prop := PTs X ifs (tG X.K W0 (RT X.K) c)
def yesM : M Bool := fun s => .ok true s
theorem PTs.weak {ifs : List Expr} {t t' : TT} (h : PTs X ifs t) (w : ∀ σ H Q, t' σ H Q → t σ H Q) : PTs X ifs t' := ⟨fun pins s σ H Q I q => h.run pins s σ H Q I (w σ H Q q)⟩
theorem ptsm_nil : PTsm X [] yesM := PTs.weak pts_nil fun σ H Q ⟨U, F, ρ, S, R, p⟩ => p F ρ H true (Same.refl _) (List.prefix_refl _) R rfl
theorem ptsm_one {c : Expr} {f : M Bool} (h : PTm X c f) (tk : Takes X W0) : PTsm X [c] f := pts_one (h W0 tk)
/-- the context of a comprehension's block -/
abbrev Blk (X : Cx) (scope : Scope) (P : Cx → Prop) : Prop := ∀ (s : Shared) (H : Hp) (C : Addr) (cl : List (Str × Addr)) (fp : List Addr), P (X.blk s H scope (compEnvC scope cl C X.env) fp)
section
variable {elt iter : Expr} {ifs : List Expr} {scope : Scope} {own : List (Str × Nat)} {it : M (List AV)} {g : AV → M Unit} {c : M Bool} {e : M AV} {i : Nat} {y : Str} {py spos : Pos}
theorem pg_blk (hg : ∀ (s : Shared) (H : Hp) (C : Addr) (cl : List (Str × Addr)) (fp : List Addr), PGm (X.blk s H scope (compEnvC scope cl C X.env) fp) (Zw (own.map (·.2))) tg g) :
    ∀ (s : Shared) (H : Hp) (C : Addr) (cl : List (Str × Addr)) (fp : List Addr), PG (X.blk s H scope (compEnvC scope cl C X.env) fp) tg (tGt X.K (Zw (own.map (·.2))) g) := fun s H C cl fp => by
  obtain ⟨t, h, w⟩ := hg s H C cl fp
  exact ⟨fun pins s' σ H' v u Q I r q => h.run pins s' σ H' v u Q I r (w v σ H' Q q)⟩
theorem pn_lc (hc : X.calm = true) (hN : X.N.Nodup) (hi : PIm X tg iter it) (ok : BlkOk X.N X.env.scope scope own)
    (hg : ∀ (s : Shared) (H : Hp) (C : Addr) (cl : List (Str × Addr)) (fp : List Addr), PGm (X.blk s H scope (compEnvC scope cl C X.env) fp) (Zw (own.map (·.2))) tg g)
    (ht : ∀ (s : Shared) (H : Hp) (C : Addr) (cl : List (Str × Addr)) (fp : List Addr), PTsm (X.blk s H scope (compEnvC scope cl C X.env) fp) ifs c)
    (he : ∀ (s : Shared) (H : Hp) (C : Addr) (cl : List (Str × Addr)) (fp : List Addr), PEm (X.blk s H scope (compEnvC scope cl C X.env) fp) elt e) (hs : ∀ x, foldedSetIterable iter X.env x = pure x := by intro _; rfl) :
    PNm X (.ListComp elt [⟨tg, iter, ifs, 0⟩] scope pos) (compM (own.map (·.2)) it g c e) := fun W tk =>
  PE.weak (pe_lc (own := own) (tt := tG X.K W0 (RT X.K) c) (te := tG X.K W0 (RE X.K) e) hc hN (hi W tk) ok (pg_blk hg) ht (fun s H C cl fp => he s H C cl fp W0 takes0) hs) fun σ H Q h =>
    comp_core (fun _ _ _ h => h) (fun _ _ _ _ h => h) (fun _ _ _ h => h) (fun _ _ _ h => h) h
/-- y = [..] on one line -/
theorem psm_setLcO (hc : X.calm = true) (hN : X.N.Nodup) (hy : X.N[i]? = some y) (hyl : X.env.scope.names.lookup y = some .local)
    (hsw : swapsWith (.ListComp elt [⟨tg, iter, ifs, 0⟩] scope pos) (some (.Name y py)) spos.line X.env = pure true) (hi : PIm X tg iter it) (ok : BlkOk X.N X.env.scope scope own)
    (hg : ∀ (s : Shared) (H : Hp) (C : Addr) (cl : List (Str × Addr)) (fp : List Addr), PGm (X.blk s H scope (compEnvC scope cl C X.env) fp) (Zw (own.map (·.2))) tg g)
    (ht : ∀ (s : Shared) (H : Hp) (C : Addr) (cl : List (Str × Addr)) (fp : List Addr), PTsm (X.blk s H scope (compEnvC scope cl C X.env) fp) ifs c)
    (he : ∀ (s : Shared) (H : Hp) (C : Addr) (cl : List (Str × Addr)) (fp : List Addr), PEm (X.blk s H scope (compEnvC scope cl C X.env) fp) elt e) (hs : ∀ x, foldedSetIterable iter X.env x = pure x := by intro _; rfl) (hp : pn = true → i ≠ 0 := by decide) :
    PSm X pn (.Assign [.Name y py] (.ListComp elt [⟨tg, iter, ifs, 0⟩] scope pos) spos) (asgO i (compM (own.map (·.2)) it g c e)) := fun W tk =>
  PS.weak (ps_setLc (own := own) (tt := tG X.K W0 (RT X.K) c) (te := tG X.K W0 (RE X.K) e) hc hN hy hyl hsw (hi W tk) ok (pg_blk hg) ht (fun s H C cl fp => he s H C cl fp W0 takes0) hs) fun σ H D ⟨U, F, ρ, S, R, p⟩ =>
    comp_core (fun _ _ _ h => h) (fun _ _ _ _ h => h) (fun _ _ _ h => h) (fun _ _ _ h => h) ⟨U, F, ρ, S, R, SPost.seq p fun F1 ρ1 S1 H1 o v s1 q1 r1 e1 p1 => by
      obtain ⟨n, rfl, L⟩ := e1
      exact p1 F1 ρ1 _ H1 (Same.refl _) (List.prefix_refl _) (r1.setOwn L) (set_pin hp)⟩
theorem psm_setLc (hc : X.calm = true) (hN : X.N.Nodup) (hy : X.N[i]? = some y) (hyl : X.env.scope.names.lookup y = some .local)
    (hsw : swapsWith (.ListComp elt [⟨tg, iter, ifs, 0⟩] scope pos) (some (.Name y py)) spos.line X.env = pure true) (hi : PIm X tg iter it) (ok : BlkOk X.N X.env.scope scope own)
    (hg : ∀ (s : Shared) (H : Hp) (C : Addr) (cl : List (Str × Addr)) (fp : List Addr), PGm (X.blk s H scope (compEnvC scope cl C X.env) fp) (Zw (own.map (·.2))) tg g)
    (ht : ∀ (s : Shared) (H : Hp) (C : Addr) (cl : List (Str × Addr)) (fp : List Addr), PTsm (X.blk s H scope (compEnvC scope cl C X.env) fp) ifs c)
    (he : ∀ (s : Shared) (H : Hp) (C : Addr) (cl : List (Str × Addr)) (fp : List Addr), PEm (X.blk s H scope (compEnvC scope cl C X.env) fp) elt e) (hs : ∀ x, foldedSetIterable iter X.env x = pure x := by intro _; rfl) (hp : pn = true → i ≠ 0 := by decide) :
    PSm X pn (.Assign [.Name y py] (.ListComp elt [⟨tg, iter, ifs, 0⟩] scope pos) spos) (asgM (setV i) (frM (compM (own.map (·.2)) it g c e))) := fun W tk =>
  PS.weak (ps_setLc (own := own) (tt := tG X.K W0 (RT X.K) c) (te := tG X.K W0 (RE X.K) e) hc hN hy hyl hsw (hi W tk) ok (pg_blk hg) ht (fun s H C cl fp => he s H C cl fp W0 takes0) hs) fun σ H D ⟨U, F, ρ, S, R, p⟩ =>
    comp_core (fun _ _ _ h => h) (fun _ _ _ _ h => h) (fun _ _ _ h => h) (fun _ _ _ h => h) ⟨U, F, ρ, S, R, by
      have p : SPost X.K U F ρ σ pn D W (bindR (bindR (compM (own.map (·.2)) it g c e S) fun o s => .ok o.frz s) fun a s => match setV i a s with | .ok _ s => .ok .nx s | _ => .stuck) := p
      cases z : compM (own.map (·.2)) it g c e S with
      | stuck => rw [z] at p; exact p.elim
      | exn cc s => rw [z] at p; exact fun F' ρ' H' s' q' r' => p F' ρ' σ H' s' q' r'
      | ok o S1 =>
        rw [z] at p
        intro F1 ρ1 H1 v s1 q1 r1 e1
        obtain ⟨n, rfl, L⟩ := e1
        obtain ⟨u, hu⟩ := L.some
        obtain ⟨R2, em, sm⟩ := r1.freeze L hu
        exact p _ ρ1 _ H1 (s1.trans sm) q1 (R2.set em) (set_pin hp)⟩
end
/-! ## stores -/
def obP (pv : PV) (s : SS) : Option AO := match pv with
  | .av (.ref j) => s.hp[j]?
  | .sl i => match s.sl[i]? with
    | some (some (.own o)) => some o
    | some (some (.val (.ref j))) => s.hp[j]?
    | _ => none
  | _ => none
def wrP (pv : PV) (o : AO) (s : SS) : SS := match pv with
  | .av (.ref j) => { s with hp := s.hp.set j o }
  | .sl i => match s.sl[i]? with
    | some (some (.own _)) => { s with sl := s.sl.set i (some (.own o)) }
    | some (some (.val (.ref j))) => { s with hp := s.hp.set j o }
    | _ => s
  | _ => s
theorem wr_ok {K : PySem.W.Frag} {U F H : Hp} {ρ : List Addr} {S : SS} {σ : St} (R : Rep K U F ρ S σ H) {pv : PV} {v : V} {o : AO} (h : EmbP K F ρ σ pv v) (e : obP pv S = some o) :
    ∃ p, v = .ref p ∧ EmbO K F ρ H p o ∧ ∀ u o', EmbO K F ρ (upd H p u) p o' → Rep K U F ρ (wrP pv o' S) σ (upd H p u) := by
  cases pv with
  | av a =>
    cases a with
    | ref j =>
      have h : Emb K F ρ (.ref j) v := h
      simp only [Emb] at h
      obtain ⟨p, rfl, hp⟩ := h
      exact ⟨p, rfl, R.hp j o p e hp, fun u o' eo => R.write hp eo⟩
    | _ => cases e
  | sl i =>
    have hσ : σ[i]? = some (some v) := h
    have e : (match S.sl[i]? with | some (some (.own o)) => some o | some (some (.val (.ref j))) => S.hp[j]? | _ => none) = some o := e
    cases z : S.sl[i]? with
    | none => rw [z] at e; cases e
    | some ov =>
      rw [z] at e
      cases ov with
      | none => cases e
      | some sv =>
        cases sv with
        | own o₂ =>
          cases e
          obtain ⟨p, e1, e2, _⟩ := R.own i o z
          rw [hσ] at e1; cases e1
          refine ⟨p, rfl, e2, fun u o' eo => ?_⟩
          have := R.writeOwn z hσ eo
          show Rep K U F ρ (match S.sl[i]? with | some (some (.own _)) => { S with sl := S.sl.set i (some (.own o')) } | some (some (.val (.ref j))) => { S with hp := S.hp.set j o' } | _ => S) σ _
          rw [z]
          exact this
        | val a =>
          cases a with
          | ref j =>
            obtain ⟨v', e1, e2⟩ := R.val i (.ref j) z
            rw [hσ] at e1; cases e1
            simp only [Emb] at e2
            obtain ⟨p, rfl, hp⟩ := e2
            refine ⟨p, rfl, R.hp j o p e hp, fun u o' eo => ?_⟩
            show Rep K U F ρ (match S.sl[i]? with | some (some (.own _)) => { S with sl := S.sl.set i (some (.own o')) } | some (some (.val (.ref j))) => { S with hp := S.hp.set j o' } | _ => S) σ _
            rw [z]
            exact R.write hp eo
          | _ => cases e
/-- x.append(e) -/
def appM (f : M PV) (g : M AV) : M AV := bindM f fun p => bindM g fun a s => match obP p s with
  | some (.lst xs) => if xs.length < 16777216 then .ok .non (wrP p (.lst (xs ++ [a])) s) else .stuck
  | _ => .stuck
theorem obP_lst_ty {K : PySem.W.Frag} {U F H : Hp} {ρ : List Addr} {S : SS} {σ : St} (R : Rep K U F ρ S σ H) {pv : PV} {v : V} {xs : List AV} (h : EmbP K F ρ σ pv v) (e : coP pv S = .ob (.lst xs)) : tyV K "list" v H := by
  have c := coP_ok R h
  rw [e] at c
  obtain ⟨p, vs, rfl, h1, h2⟩ := c
  exact .inl ⟨rfl, vs, h1⟩
/-- a place that holds a list, ahead of the arguments -/
def isLst (f : M PV) : M PV := bindM f fun p s => match coP p s with
  | .ob (.lst _) => .ok p s
  | _ => .stuck
theorem pm_append {o e : Expr} {apos cpos : Pos} {f : M PV} {g : M AV} (ho : PPm X o f) (he : PEm X e g) (hbase : attributeBase o "append" X.env (eval o X.env) = eval o X.env := by rfl)
    (hfew : ((backTo cpos (starEach (e :: []) X.env)).all (fun x => !x.1) && (backToKw cpos (keywordEach [] X.env)).all (fun x => x.1.isSome)
      && decide ((e :: []).length + ([] : List Keyword).length + (if ([] : List Keyword).isEmpty then 0 else 1) < 30)) = true := by rfl)
    (hline : (apos.endLine == cpos.line) = true := by rfl) (hs : starEach (e :: []) X.env = (false, eval e X.env) :: starEach [] X.env := by rfl) (hplain : (backTo cpos (starEach [] X.env)).any (·.1) = false := by rfl) :
    PEm X (.Call (.Attribute o "append" apos) [e] [] cpos) (appM (isLst f) g) := fun W tk =>
  PE.weak (pe_bm PySem.F.plainAttrs_list PySem.F.slot_list_append PySem.F.type_list_append mt_append (ho W tk) (pam_cons he pam_nil hs W tk) hbase hfew hline hs hplain) fun σ H Q ⟨U, F, ρ, S, R, p⟩ => by
    have p : Post X.K U F ρ σ (RE X.K U σ) W Q (bindR (bindR (f S) fun p s => match coP p s with | .ob (.lst _) => .ok p s | _ => .stuck) fun p => bindM g fun a s => match obP p s with
      | some (.lst xs) => if xs.length < 16777216 then .ok .non (wrP p (.lst (xs ++ [a])) s) else .stuck
      | _ => .stuck) := p
    refine ⟨U, F, ρ, S, R, ?_⟩
    cases z : f S with
    | stuck => rw [z] at p; exact p.elim
    | exn c s => rw [z] at p; exact p
    | ok pv S1 =>
      rw [z] at p
      intro F1 ρ1 H1 v s1 q1 r1 e1
      have p := Post.up s1 q1 p
      have p : Post X.K U F1 ρ1 σ (RE X.K U σ) W Q (bindR (match coP pv S1 with | .ob (.lst _) => .ok pv S1 | _ => .stuck) fun p => bindM g fun a s => match obP p s with
        | some (.lst xs) => if xs.length < 16777216 then .ok .non (wrP p (.lst (xs ++ [a])) s) else .stuck
        | _ => .stuck) := p
      split at p
      · rename_i xs hco
        refine ⟨obP_lst_ty r1 e1 hco, U, F1, ρ1, S1, r1, ?_⟩
        have p : Post X.K U F1 ρ1 σ (RE X.K U σ) W Q (bindR (g S1) fun a s => match obP pv s with
          | some (.lst xs) => if xs.length < 16777216 then .ok .non (wrP pv (.lst (xs ++ [a])) s) else .stuck
          | _ => .stuck) := p
        show Post X.K U F1 ρ1 σ (RL X.K U σ) W _ (bindR (g S1) fun a => bindM nilM fun as s => .ok (a :: as) s)
        cases z2 : g S1 with
        | stuck => rw [z2] at p; exact p.elim
        | exn c s => rw [z2] at p; exact p
        | ok a S2 =>
          rw [z2] at p
          intro F2 ρ2 H2 vs s2 q2 r2 e2
          change EmbL X.K F2 ρ2 [a] vs at e2
          simp only [EmbL] at e2
          obtain ⟨w, r', rfl, ea, rfl⟩ := e2
          have p := Post.up s2 q2 p
          have e1' := EmbP.mono s2 q2 e1
          have p : Post X.K U F2 ρ2 σ (RE X.K U σ) W Q (match obP pv S2 with
            | some (.lst xs) => if xs.length < 16777216 then .ok .non (wrP pv (.lst (xs ++ [a])) S2) else .stuck
            | _ => .stuck) := p
          split at p
          · rename_i ys hob
            split at p
            · rename_i hl
              obtain ⟨n, rfl, ⟨vs, c1, c2⟩, wr⟩ := wr_ok r2 e1' hob
              refine ⟨n, vs, w, rfl, rfl, c1, by rw [sz, c2.length]; exact hl, ?_⟩
              refine p F2 ρ2 _ _ (Same.refl _) (List.prefix_refl _) (wr _ _ ⟨vs ++ [w], upd_same, c2.append ?_⟩) emb_non'
              simp only [EmbL]
              exact ⟨w, [], rfl, ea, rfl⟩
            · exact p.elim
          · exact p.elim
      · exact p.elim
/-- o[i] = v : a list, a dict -/
def putG (fo fi : M PV) (a : AV) : M Unit := bindM fo fun p => bindM fi fun i s => match obP p s, plP i s with
  | some (.lst xs), some (.int k) => match ixN xs.length k with
    | some j => .ok () (wrP p (.lst (xs.set j a)) s)
    | none => .stuck
  | some (.dic t kvs), some k => if (kk t k).isSome && decide (kvs.length < 16777216) then .ok () (wrP p (.dic t (dPut t kvs k a)) s) else .stuck
  | _, _ => .stuck
theorem set_dict (hu : X.A.units + 1 < cLine) : PSet X (fun o i v H Q => ∃ a H', o = .ref a ∧ DPut H a i v H' ∧ Q H') := by
  intro pins s σ H o i v ov iv u Q I ro ri rv h
  obtain ⟨a, H', rfl, g, q⟩ := h
  obtain rfl : ov = Value.ref a := ro
  exact d_setItem hu I g ri rv fun s' I' => ⟨H', I', q⟩
theorem PSet.or {t t' : TSet} (h : PSet X t) (h' : PSet X t') : PSet X (fun o i v H Q => t o i v H Q ∨ t' o i v H Q) := by
  intro pins s σ H o i v ov iv u Q I ro ri rv q
  rcases q with q | q
  · exact h pins s σ H o i v ov iv u Q I ro ri rv q
  · exact h' pins s σ H o i v ov iv u Q I ro ri rv q
theorem pgm_sub {Z : St → St → Prop} (hZ : ∀ a, Z a a) {o i : Expr} {fo fi : M PV} (hu : X.A.units + 1 < cLine) (ho : PPm X o fo) (hi : PPm X i fi)
    (ha : ∀ v, assign (.Subscript o i pos) X.env v = (do
      let ov ← holding [v] (eval o X.env)
      let iv ← holding [v, ov] (eval i X.env)
      standAt pos
      holding [v, ov, iv] (setItem ov iv v)
      release [v, ov, iv] []) := by intro _; rfl) : PGm X Z (.Subscript o i pos) (putG fo fi) := by
  refine ⟨_, pg_sub (ho W0 takes0) (hi W0 takes0) (PSet.or set_list (set_dict hu)) ha, fun v σ H Q ⟨U, F, ρ, S, a, R, e, p⟩ => ?_⟩
  have p : (match bindR (fo S) (fun p => bindM fi fun i s => match obP p s, plP i s with
    | some (.lst xs), some (.int k) => match ixN xs.length k with
      | some j => .ok () (wrP p (.lst (xs.set j a)) s)
      | none => .stuck
    | some (.dic t kvs), some k => if (kk t k).isSome && decide (kvs.length < 16777216) then .ok () (wrP p (.dic t (dPut t kvs k a)) s) else .stuck
    | _, _ => .stuck) with
    | .ok _ S' => ∀ F' ρ' σ' H', Same F F' → ρ <+: ρ' → Rep X.K U F' ρ' S' σ' H' → Z σ σ' → Q σ' H'
    | _ => False) := p
  refine ⟨U, F, ρ, S, R, ?_⟩
  cases z : fo S with
  | stuck => rw [z] at p; exact p.elim
  | exn c s => rw [z] at p; exact p.elim
  | ok pv S1 =>
    rw [z] at p
    intro F1 ρ1 H1 ov s1 q1 r1 e1
    refine ⟨U, F1, ρ1, S1, r1, ?_⟩
    have p : (match bindR (fi S1) (fun i s => match obP pv s, plP i s with
      | some (.lst xs), some (.int k) => match ixN xs.length k with
        | some j => .ok () (wrP pv (.lst (xs.set j a)) s)
        | none => .stuck
      | some (.dic t kvs), some k => if (kk t k).isSome && decide (kvs.length < 16777216) then .ok () (wrP pv (.dic t (dPut t kvs k a)) s) else .stuck
      | _, _ => .stuck) with
      | .ok _ S' => ∀ F' ρ' σ' H', Same F F' → ρ <+: ρ' → Rep X.K U F' ρ' S' σ' H' → Z σ σ' → Q σ' H'
      | _ => False) := p
    cases z2 : fi S1 with
    | stuck => rw [z2] at p; exact p.elim
    | exn c s => rw [z2] at p; exact p.elim
    | ok iv S2 =>
      rw [z2] at p
      intro F2 ρ2 H2 iw s2 q2 r2 e2
      have e1' := EmbP.mono s2 q2 e1
      have ev := Emb.mono (s1.trans s2) (q1.trans q2) a v e
      have p : (match (match obP pv S2, plP iv S2 with
        | some (.lst xs), some (.int k) => match ixN xs.length k with
          | some j => .ok () (wrP pv (.lst (xs.set j a)) S2)
          | none => .stuck
        | some (.dic t kvs), some k => if (kk t k).isSome && decide (kvs.length < 16777216) then .ok () (wrP pv (.dic t (dPut t kvs k a)) S2) else .stuck
        | _, _ => .stuck : Res Unit) with
        | .ok _ S' => ∀ F' ρ' σ' H', Same F F' → ρ <+: ρ' → Rep X.K U F' ρ' S' σ' H' → Z σ σ' → Q σ' H'
        | _ => False) := p
      cases hob : obP pv S2 with
      | none => rw [hob] at p; exact p.elim
      | some ob =>
        obtain ⟨n, rfl, em, wr⟩ := wr_ok r2 e1' hob
        cases ob with
        | ins c fs => simp only [hob] at p
        | lst xs =>
          obtain ⟨vs, c1, c2⟩ := em
          cases hpl : plP iv S2 with
          | none => simp only [hob, hpl] at p
          | some kv =>
            cases kv with
            | int k =>
              simp only [hob, hpl] at p
              cases hix : ixN xs.length k with
              | none => simp only [hix] at p
              | some j =>
                simp only [hix] at p
                refine .inl ⟨n, vs, k, j, rfl, emb_int (avP_ok r2 e2 (plP_int hpl)), c1, by rw [c2.length]; exact hix, ?_⟩
                exact p F2 ρ2 σ _ (s1.trans s2) (q1.trans q2) (wr _ _ ⟨_, upd_same, EmbL.set ev j c2⟩) (hZ _)
            | _ => simp only [hob, hpl] at p
        | dic t kvs =>
          cases hpl : plP iv S2 with
          | none => simp only [hob, hpl] at p
          | some k =>
            simp only [hob, hpl] at p
            by_cases hk : ((kk t k).isSome && decide (kvs.length < 16777216)) = true
            · rw [if_pos hk] at p
              simp only [Bool.and_eq_true, decide_eq_true_eq] at hk
              obtain ⟨hk1, hk2⟩ := hk
              have ek := plP_emb r2 e2 hpl hk1
              rcases em with ⟨rfl, kv, c1, c2⟩ | ⟨rfl, kv, c1, c2⟩
              · cases hko : kOf k with
                | none => simp [kk, hko] at hk1
                | some k' =>
                  have := emb_kV hko ek
                  subst this
                  refine .inr ⟨n, _, rfl, .inl ⟨kv, k', c1, rfl, by rw [sz, c2.length]; exact hk2, rfl⟩, ?_⟩
                  exact p F2 ρ2 σ _ (s1.trans s2) (q1.trans q2) (wr _ _ (.inl ⟨rfl, _, upd_same, EmbK.put hko ev c2⟩)) (hZ _)
              · cases hko : tkOf k with
                | none => simp [kk, hko] at hk1
                | some k' =>
                  obtain ⟨b, rfl, hb⟩ := emb_tkV r2 hko ek
                  refine .inr ⟨n, _, rfl, .inr ⟨kv, k', b, c1, rfl, hb, by rw [sz, c2.length]; exact hk2, rfl⟩, ?_⟩
                  exact p F2 ρ2 σ _ (s1.trans s2) (q1.trans q2) (wr _ _ (.inr ⟨rfl, _, upd_same, EmbT.put hko ev c2⟩)) (hZ _)
            · rw [if_neg hk] at p
              exact p.elim
end
end LM

namespace LM
open PySem PySem.Spec PyProof.Rows L2
/-! ## fields stored -/
def putFA (f : Str) (a : AV) : List (Str × AV) → List (Str × AV)
  | [] => [(f, a)]
  | (g, b) :: r => if g = f then (g, a) :: r else (g, b) :: putFA f a r
theorem EmbF.put {K : PySem.W.Frag} {F : Hp} {ρ : List Addr} {f : Str} {a : AV} {v : V} (ha : Emb K F ρ a v) : ∀ {fs : List (Str × AV)} {fs' : List (Str × V)}, EmbF K F ρ fs fs' → EmbF K F ρ (putFA f a fs) (putF f v fs')
  | [], _, h => by simp only [EmbF] at h; subst h; simp only [putFA, putF, EmbF]; exact ⟨v, [], rfl, ha, rfl⟩
  | (g, b) :: r, _, h => by
    simp only [EmbF] at h
    obtain ⟨w, r', rfl, h1, h2⟩ := h
    have ih := EmbF.put (f := f) ha h2
    unfold putFA putF
    split
    · simp only [EmbF]; exact ⟨v, r', rfl, ha, h2⟩
    · simp only [EmbF]; exact ⟨w, _, rfl, h1, ih⟩
theorem EmbF.length {K : PySem.W.Frag} {F : Hp} {ρ : List Addr} : ∀ {fs : List (Str × AV)} {fs' : List (Str × V)}, EmbF K F ρ fs fs' → fs'.length = fs.length
  | [], _, h => by simp only [EmbF] at h; subst h; rfl
  | (g, b) :: r, _, h => by
    simp only [EmbF] at h
    obtain ⟨w, r', rfl, h1, h2⟩ := h
    simp [EmbF.length h2]
section
variable {X : Cx} {pn : Bool} {pos : Pos}
def stM (cs : List Str) (f : Str) (fo : M PV) (fe : M AV) : M Fl := bindM fe fun a => bindM fo fun p s => match obP p s with
  | some (.ins c fs) => if decide (c ∈ cs) && decide (fs.length < 1000) then .ok .nx (wrP p (.ins c (putFA f a fs)) s) else .stuck
  | _ => .stuck
theorem psm_fld {o value : Expr} {pos' : Pos} {cs : List Str} {f : Str} {fo : M PV} {fe : M AV} (hc : FldOk X.K cs f) (ho : PPm X o fo) (hv : PEm X value fe) (hs : swapsWith value (some (.Attribute o f pos')) pos.line X.env = pure false := by rfl) :
    PSm X pn (.Assign [.Attribute o f pos'] value pos) (stM cs f fo fe) := fun W tk =>
  PS.weak (ps_fld (ho W tk) (hv W tk) hs) fun σ H D ⟨U, F, ρ, S, R, p⟩ => ⟨U, F, ρ, S, R, SPost.seq p fun F1 ρ1 S1 H1 a v s1 q1 r1 e1 p1 => ⟨U, F1, ρ1, S1, r1, SPost.seq p1 fun F2 ρ2 S2 H2 pv w s2 q2 r2 e2 p2 => by
    have e1' := Emb.mono s2 q2 _ _ e1
    split at p2
    · rename_i c fs hob
      split at p2
      · rename_i hk
        simp only [Bool.and_eq_true, decide_eq_true_eq] at hk
        obtain ⟨n, rfl, ⟨dx, fs', c1, c2⟩, wr⟩ := wr_ok r2 e2 hob
        obtain ⟨k1, k2⟩ := hc c hk.1
        exact ⟨n, _, dx, fs', rfl, c1, k1, k2, by rw [c2.length]; exact hk.2, p2 F2 ρ2 σ _ (Same.refl _) (List.prefix_refl _) (wr _ _ ⟨dx, _, upd_same, c2.put e1'⟩) fun _ => rfl⟩
      · exact p2.elim
    · exact p2.elim⟩⟩
/-- o.f += e -/
def augFM (cs : List Str) (f : Str) (op : AV → AV → Option AV) (fo : M PV) (fe : M AV) : M Fl := bindM fo fun p s => match obP p s with
  | some (.ins c fs) => if c ∈ cs then (match fs.lookup f with
    | some a => bindM fe (fun b s => match op a b, obP p s with
      | some v, some (.ins c' fs') => if decide (c' = c) && decide (fs'.length < 1000) then .ok .nx (wrP p (.ins c (putFA f v fs')) s) else .stuck
      | _, _ => .stuck) s
    | none => .stuck) else .stuck
  | _ => .stuck
theorem psm_fldaug {o value : Expr} {tpos : Pos} {cs : List Str} {f : Str} {oper : Operator} {op : AV → AV → Option AV} {rd : V → V → Hp → VK → Prop} {fo : M PV} {fe : M AV} (hop : InOp X oper rd)
    (hgo : ∀ F ρ H a b c x y Q, Emb X.K F ρ a x → Emb X.K F ρ b y → op a b = some c → (∀ z, Emb X.K F ρ c z → Q z H) → rd x y H Q) (hc : FldOk X.K cs f) (ho : PPm X o fo) (hv : PEm X value fe) : PSm X pn (.AugAssign (.Attribute o f tpos) oper value pos) (augFM cs f op fo fe) := fun W tk =>
  PS.weak (ps_fldaug (ho W tk) (hv W tk) hop) fun σ H D ⟨U, F, ρ, S, R, p⟩ => ⟨U, F, ρ, S, R, SPost.seq p fun F1 ρ1 S1 H1 pv v s1 q1 r1 e1 p1 => by
    split at p1
    · rename_i c fs hob
      split at p1
      · rename_i hm
        split at p1
        · rename_i a ha
          obtain ⟨n, rfl, ⟨dx, fs', c1, c2⟩, wr⟩ := wr_ok r1 e1 hob
          obtain ⟨k1, k2⟩ := hc c hm
          obtain ⟨w, hw, ew⟩ := c2.lookup.1 a ha
          refine ⟨n, _, dx, fs', w, rfl, c1, k1, k2, hw, U, F1, ρ1, S1, r1, SPost.seq p1 fun F2 ρ2 S2 H2 b y s2 q2 r2 e2 p2 => ?_⟩
          have e1' := EmbP.mono s2 q2 e1
          split at p2
          · rename_i v' c' fs2 ho1 ho2
            split at p2
            · rename_i hk
              simp only [Bool.and_eq_true, decide_eq_true_eq] at hk
              obtain ⟨hk1, hk2⟩ := hk
              subst hk1
              obtain ⟨n2, en, ⟨dx2, fs2', d1, d2⟩, wr2⟩ := wr_ok r2 e1' ho2
              cases en
              exact hgo F2 ρ2 H2 a b v' w y _ (Emb.mono s2 q2 _ _ ew) e2 ho1 fun z ez => ⟨dx2, fs2', d1, by rw [d2.length]; exact hk2, p2 F2 ρ2 σ _ (Same.refl _) (List.prefix_refl _) (wr2 _ _ ⟨dx2, _, upd_same, d2.put ez⟩) fun _ => rfl⟩
            · exact p2.elim
          · exact p2.elim
        · exact p1.elim
      · exact p1.elim
    · exact p1.elim⟩
theorem psm_fldadd {o value : Expr} {tpos : Pos} {cs : List Str} {f : Str} {fo : M PV} {fe : M AV} (hc : FldOk X.K cs f) (ho : PPm X o fo) (hv : PEm X value fe) : PSm X pn (.AugAssign (.Attribute o f tpos) .Add value pos) (augFM cs f addI fo fe) :=
  psm_fldaug in_add (fun F ρ H a b c x y Q ea eb e q => by
    unfold addI at e
    split at e
    · cases e
      exact ⟨_, _, emb_int ea, emb_int eb, q _ emb_int'⟩
    · cases e) hc ho hv
end
/-! ## defs -/
def slots0 (n : Nat) (as : List AV) : List (Option SV) := as.map (fun a => some (.val a)) ++ List.replicate (n - as.length) none
def fnM (n : Nat) (m : M Fl) : MF := fun as hp => match m ⟨slots0 n as, hp⟩ with
  | .ok (.rt v) s => .ok v s.hp
  | .ok .nx s => .ok .non s.hp
  | .exn c s => .exn c s.hp
  | _ => .stuck
section
variable {K : PySem.W.Frag} {U F H : Hp} {ρ : List Addr} {S : SS} {σ : St}
theorem slots0_get {n : Nat} {as : List AV} {i : Nat} {x : SV} (h : (slots0 n as)[i]? = some (some x)) : ∃ a, x = .val a ∧ as[i]? = some a := by
  unfold slots0 at h
  by_cases hi : i < as.length
  · rw [List.getElem?_append_left (by simpa using hi), List.getElem?_map, List.getElem?_eq_getElem hi] at h
    exact ⟨as[i], by simpa using h.symm, List.getElem?_eq_getElem hi⟩
  · rw [List.getElem?_append_right (by simpa using hi), List.getElem?_replicate] at h
    split at h <;> cases h
theorem start_get {N : List Str} {vs : List V} {i : Nat} {v : V} (h : vs[i]? = some v) : (L2.start N vs)[i]? = some (some v) := by
  unfold L2.start
  have hi := (List.getElem?_eq_some_iff.mp h).1
  rw [List.getElem?_append_left (by simpa using hi), List.getElem?_map, h]
  rfl
theorem Rep.start {N : List Str} {as : List AV} {vs : List V} {hp : AH} (R : Rep K U F ρ ⟨[], hp⟩ [] H) (e : EmbL K F ρ as vs) : Rep K U F ρ ⟨slots0 N.length as, hp⟩ (L2.start N vs) H := by
  refine ⟨?_, R.fro, R.unt, R.rln, R.rnd, R.rF, R.FU, R.hp, fun i a h => ?_, fun i o h => ?_⟩
  · unfold L2.start slots0
    simp [e.length]
  · obtain ⟨b, eb, h2⟩ := slots0_get h
    cases eb
    obtain ⟨v, hv, ev⟩ := e.get h2
    exact ⟨v, start_get hv, ev⟩
  · obtain ⟨b, eb, h2⟩ := slots0_get h
    cases eb
theorem Rep.noslots (R : Rep K U F ρ S σ H) : Rep K U F ρ ⟨[], S.hp⟩ [] H :=
  ⟨rfl, R.fro, R.unt, R.rln, R.rnd, R.rF, R.FU, R.hp, fun i a e => by simp at e, fun i o e => by simp at e⟩
end
section
variable {P : Program} {w : World} {K : PySem.W.Frag} {mg : Str → Option Value} {base : Heap} {x qual : Str} {params : Arguments} {body : List Stmt} {scope : Scope} {dvs : List V} {kws : List (Str × V)} {f : Addr} {fd : FuncData} {N ps : List Str} {k : Nat} {m : M Fl}
abbrev DX (P : Program) (w : World) (K : PySem.W.Frag) (mg : Str → Option Value) (base : Heap) (N : List Str) (qual : Str) (scope : Scope) (f : Addr) (cdv : Value) (A : Around) (outer : List Env) (s : Shared) (H : Hp) (E : XK) : Cx := cxOf (L2.CX P w) P w K mg base N qual scope f cdv A outer s H E
theorem spM_len {n : Nat} {mf : MF} (hn : ps.length = n) : ∀ vs H Q E, spM K n mf vs H Q E → vs.length = ps.length := fun vs H Q E h => by
  obtain ⟨U, F, ρ, as, hp, hl, _, e, _⟩ := h
  rw [e.length, hl, hn]
/-- THE RULE for a def: its body's function -/
theorem fn_ok (Fn : FunD K x qual params body scope dvs kws f fd) (Sc : FnScope N ps scope)
    (hb : ∀ (cdv : Value) (A : Around) (outer : List Env) (s : Shared) (H : Hp) (E : XK), Room k (A.deeper (envOfC qual scope s.heap.objs.size f cdv)) → PSsm (DX P w K mg base N qual scope f cdv A outer s H E) false body m) :
    FnM P w K mg base (k + 1) f fd ps (fnM N.length m) := by
  refine Fn.ok Sc (spM_len rfl) fun cdv A outer s H vs Q E hr h => ?_
  refine ⟨_, hb cdv A outer s H E hr (fun cls d _ H => E cls d H) (takes_of rfl rfl rfl rfl), ?_⟩
  obtain ⟨U, F, ρ, as, hp, hl, R, e, p⟩ := h
  refine ⟨U, F, ρ, _, R.start e, ?_⟩
  have p : FPost K U F ρ Q E (match m ⟨slots0 N.length as, hp⟩ with
    | .ok (.rt v) s => .ok v s.hp
    | .ok .nx s => .ok .non s.hp
    | .exn c s => .exn c s.hp
    | _ => .stuck) := p
  cases z : m ⟨slots0 N.length as, hp⟩ with
  | stuck => rw [z] at p; exact p
  | exn c S' => rw [z] at p; exact fun F' ρ' σ' H' s' q' r' => p F' ρ' H' s' q' r'.noslots
  | ok a S' =>
    rw [z] at p
    cases a with
    | nx => exact fun F' ρ' σ' H' s' q' r' _ => p F' ρ' H' .non s' q' r'.noslots emb_non'
    | rt v => exact fun F' ρ' σ' H' u s' q' r' e' => p F' ρ' H' u s' q' r'.noslots e'
    | bk => exact p.elim
    | ct => exact p.elim
theorem takes_dx {cdv : Value} {A : Around} {outer : List Env} {s : Shared} {H : Hp} {E : XK} : Takes (DX P w K mg base N qual scope f cdv A outer s H E) (fun cls d _ H => E cls d H) := takes_of rfl rfl rfl rfl
theorem passes_dx {cdv : Value} {A : Around} {outer : List Env} {s : Shared} {H : Hp} {E : XK} : PassesOwn (model (DX P w K mg base N qual scope f cdv A outer s H E).prog (DX P w K mg base N qual scope f cdv A outer s H E).w) (DX P w K mg base N qual scope f cdv A outer s H E).A (DX P w K mg base N qual scope f cdv A outer s H E).env (DX P w K mg base N qual scope f cdv A outer s H E).xe := passes_of rfl
/-! ## classes whose instances stay as __init__ leaves them -/
abbrev MI := List AV → AH → Option (AO × AH)
def initM (n : Nat) (c : Str) (m : M Fl) : MI := fun as hp => match m ⟨some (.own (.ins c [])) :: slots0 (n - 1) as, hp⟩ with
  | Res.ok Fl.nx s => match (s : SS).sl[0]? with
    | some (some (SV.own o)) => some (o, (s : SS).hp)
    | _ => none
  | _ => none
def spI (K : PySem.W.Frag) (n : Nat) (c : Str) (m : MI) : Sp := fun vs H Q E => ∃ U F ρ as hp x dx vs', vs = .ref x :: vs' ∧ as.length + 1 = n ∧ Rep K U F ρ ⟨[], hp⟩ [] H ∧ H x = some (.ins (He.ga K c) dx []) ∧ F x = none ∧ U x = none ∧ x ∉ ρ ∧ EmbL K F ρ as vs' ∧
  match m as hp with
  | some (o, h) => ∀ F' ρ' H', Same F F' → ρ <+: ρ' → Rep K U F' ρ' ⟨[], h⟩ [] H' → EmbO K F' ρ' H' x o → F' x = none → x ∉ ρ' → Q .non H'
  | none => False
abbrev FnI (P : Program) (w : World) (K : PySem.W.Frag) (mg : Str → Option Value) (base : Heap) (k : Nat) (f : Addr) (fd : FuncData) (ps : List Str) (c : Str) (m : MI) : Prop := FnOk P w K mg base (L2.CX P w) k f fd ps (spI K ps.length c m)
theorem init_ok {c : Str} (Fn : FunD K x qual params body scope dvs kws f fd) (Sc : FnScope N ps scope) (hps : 0 < ps.length) (hN : ps.length ≤ N.length)
    (hb : ∀ (cdv : Value) (A : Around) (outer : List Env) (s : Shared) (H : Hp) (E : XK), Room k (A.deeper (envOfC qual scope s.heap.objs.size f cdv)) → PSsm (DX P w K mg base N qual scope f cdv A outer s H E) true body m) :
    FnI P w K mg base (k + 1) f fd ps c (initM N.length c m) := by
  refine Fn.ok Sc (fun vs H Q E h => ?_) fun cdv A outer s H vs Q E hr h => ?_
  · obtain ⟨U, F, ρ, as, hp, y, dx, vs', rfl, hl, _, _, _, _, _, e, _⟩ := h
    rw [List.length_cons, e.length, hl]
  refine ⟨_, hb cdv A outer s H E hr (fun cls d _ H => E cls d H) (takes_of rfl rfl rfl rfl), ?_⟩
  obtain ⟨U, F, ρ, as, hp, y, dx, vs', rfl, hl, R, hy, hF, hU, hρ, e, p⟩ := h
  have hl' := e.length
  have hst : L2.start N (.ref y :: vs') = some (.ref y) :: L2.start (N.drop 1) vs' := by
    unfold L2.start
    rw [List.map_cons, List.cons_append, List.length_cons, List.length_drop]
    have : N.length - (vs'.length + 1) = N.length - 1 - vs'.length := by omega
    rw [this]
  have R0 : Rep K U F ρ ⟨some (.own (.ins c [])) :: slots0 (N.length - 1) as, hp⟩ (L2.start N (.ref y :: vs')) H := by
    rw [hst]
    refine ⟨?_, R.fro, R.unt, R.rln, R.rnd, R.rF, R.FU, R.hp, fun i a h => ?_, fun i o h => ?_⟩
    · unfold L2.start slots0
      simp [e.length]
    · cases i with
      | zero => simp at h
      | succ i =>
        rw [List.getElem?_cons_succ] at h ⊢
        obtain ⟨b, eb, h2⟩ := slots0_get h
        cases eb
        obtain ⟨v, hv, ev⟩ := e.get h2
        exact ⟨v, start_get hv, ev⟩
    · cases i with
      | zero =>
        have : o = .ins c [] := by simpa using h.symm
        subst this
        refine ⟨y, rfl, ⟨dx, [], hy, by simp [EmbF]⟩, hF, hU, hρ, fun j o' h' _ => ?_⟩
        cases j with
        | zero => rfl
        | succ j =>
          rw [List.getElem?_cons_succ] at h'
          obtain ⟨b, eb, h2⟩ := slots0_get h'
          cases eb
      | succ i =>
        rw [List.getElem?_cons_succ] at h
        obtain ⟨b, eb, h2⟩ := slots0_get h
        cases eb
  refine ⟨U, F, ρ, _, R0, ?_⟩
  have p : (match (match m ⟨some (.own (.ins c [])) :: slots0 (N.length - 1) as, hp⟩ with
    | Res.ok Fl.nx s => match (s : SS).sl[0]? with
      | some (some (SV.own o)) => some (o, (s : SS).hp)
      | _ => none
    | _ => none) with
    | some (o, h) => ∀ F' ρ' H', Same F F' → ρ <+: ρ' → Rep K U F' ρ' ⟨[], h⟩ [] H' → EmbO K F' ρ' H' y o → F' y = none → y ∉ ρ' → Q .non H'
    | none => False) := p
  cases z : m ⟨some (.own (.ins c [])) :: slots0 (N.length - 1) as, hp⟩ with
  | stuck => rw [z] at p; exact p
  | exn cc S' => rw [z] at p; exact p.elim
  | ok a S' =>
    rw [z] at p
    cases a with
    | rt v => exact p.elim
    | bk => exact p.elim
    | ct => exact p.elim
    | nx =>
      intro F' ρ' σ' H' s' q' r' k'
      simp only at p
      cases z2 : S'.sl[0]? with
      | none => rw [z2] at p; exact p.elim
      | some ov =>
        rw [z2] at p
        cases ov with
        | none => exact p.elim
        | some sv =>
          cases sv with
          | val a => exact p.elim
          | own o =>
            obtain ⟨y', e1, e2, e3, _, e5, _⟩ := r'.own 0 o z2
            have k2 := k' rfl
            rw [hst, List.getElem?_cons_zero] at k2
            rw [k2] at e1
            cases e1
            exact p F' ρ' H' s' q' r'.noslots e2 e3 e5
end
section
variable {X : Cx} {pos p : Pos} {k : Nat} {f : Addr} {fd : FuncData} {ps : List Str} {mi : MI} {m : MF} {c : Str} {dvs : List V} {ds : List Value} {dv : List AV} {e : Expr} {es : List Expr} {g : M (List AV)}
def mkM (n : Nat) (mi : MI) (dv : List AV) (g : M (List AV)) : M AO := bindM g fun as s => if (as ++ dv).length + 1 = n then (match mi (as ++ dv) s.hp with
  | some (o, h) => .ok o { s with hp := h }
  | none => .stuck) else .stuck
theorem Rep.made {K : PySem.W.Frag} {U F H : Hp} {ρ : List Addr} {S : SS} {σ : St} {x dx C : Addr} (R : Rep K U F ρ S σ H) (h1 : H x = none) (h2 : H dx = none) (ne : dx ≠ x) : Rep K U F ρ S σ (upd (upd H dx (.own x)) x (.ins C dx [])) := by
  refine (R.laid (u := .own x) h2).laid ?_
  rw [upd_ne (Ne.symm ne)]; exact h1
theorem mk_core {K : PySem.W.Frag} {U F H : Hp} {ρ : List Addr} {S : SS} {σ : St} {W : WX} {Q : VK} {n : Nat} {as : List AV} {vs : List V} {x dx : Addr} (R : Rep K U F ρ S σ H) (e : EmbL K F ρ as vs) (hn : as.length + 1 = n)
    (p : Post K U F ρ σ (RN K U σ) W Q (match mi as S.hp with | some (o, h) => .ok o { S with hp := h } | none => .stuck)) (h1 : H x = none) (h2 : H dx = none) (ne : dx ≠ x) :
    spI K n c mi (.ref x :: vs) (upd (upd H dx (.own x)) x (.ins (He.ga K c) dx [])) (fun v H2 => v = .non ∧ Q (.ref x) H2) E0 := by
  have R2 := R.made (C := He.ga K c) h1 h2 ne
  obtain ⟨n1, n2, n3, n4⟩ := R.new h1
  have hcu : callU U S σ (upd (upd H dx (.own x)) x (.ins (He.ga K c) dx [])) x = none := by
    unfold callU
    rw [if_neg (fun ⟨i, o, e1, e2⟩ => n4 i o e1 e2)]
    exact n2
  refine ⟨callU U S σ (upd (upd H dx (.own x)) x (.ins (He.ga K c) dx [])), F, ρ, as, S.hp, x, dx, vs, rfl, hn, R2.call, upd_same, n1, hcu, n3, e, ?_⟩
  cases z : mi as S.hp with
  | none => rw [z] at p; exact p.elim
  | some oh =>
    obtain ⟨o, h⟩ := oh
    rw [z] at p
    exact fun F' ρ' H' sm pr R' eo f1 f2 => ⟨rfl, p F' ρ' H' (.ref x) sm pr (R2.back sm pr R') ⟨x, rfl, eo, f1, n2, f2, n4⟩⟩
theorem pn_make (M : Mk X.K (He.ga X.K c) f) (F : FnI X.prog X.w X.K X.mg X.base k f fd ps c mi) (hr : Room (k + 1) X.A) (hg : Gl X c) (hm : X.mg c = some (.ref (He.ga X.K c))) (hb : Binds X.K fd ps ds) (hd : Vals dvs ds) (hdv : ∀ F ρ, EmbL X.K F ρ dv dvs)
    (ha : PAm X (e :: es) g) (hdb : (c == ("__debug__" : Str)) = false := by decide) (he : starEach (e :: es) X.env = (false, eval e X.env) :: starEach es X.env := by rfl) (hpl : (backTo pos (starEach es X.env)).any (·.1) = false := by rfl) :
    PNm X (.Call (.Name c p) (e :: es) [] pos) (mkM ps.length mi dv g) := fun W tk =>
  PE.weak (pe_make M F hr hg hm hb hd passL (ha W tk) hdb he hpl) fun σ H Q ⟨U, F, ρ, S, R, p⟩ => ⟨U, F, ρ, S, R, Post.seq p fun F1 ρ1 S1 H1 as vs s1 q1 r1 e1 p1 => by
    split at p1
    · rename_i hl
      exact fun x dx h1 h2 ne => mk_core r1 (EmbL.append e1 (hdv F1 ρ1)) hl p1 h1 h2 ne
    · exact p1.elim⟩
theorem pn_make0 (M : Mk X.K (He.ga X.K c) f) (F : FnI X.prog X.w X.K X.mg X.base k f fd ps c mi) (hr : Room (k + 1) X.A) (hg : Gl X c) (hm : X.mg c = some (.ref (He.ga X.K c))) (hb : Binds X.K fd ps ds) (hd : Vals dvs ds) (hdv : ∀ F ρ, EmbL X.K F ρ dv dvs)
    (hdb : (c == ("__debug__" : Str)) = false := by decide) : PNm X (.Call (.Name c p) [] [] pos) (mkM ps.length mi dv nilM) := fun W tk =>
  PE.weak (pe_make0 M F hr hg hm hb hd passL hdb) fun σ H Q ⟨U, F, ρ, S, R, p⟩ => by
    have p1 : Post X.K U F ρ σ (RN X.K U σ) W Q (if (([] : List AV) ++ dv).length + 1 = ps.length then (match mi ([] ++ dv) S.hp with | some (o, h) => .ok o { S with hp := h } | none => .stuck) else .stuck) := p
    split at p1
    · rename_i hl
      exact fun x dx h1 h2 ne => mk_core (as := [] ++ dv) R (hdv F ρ) hl p1 h1 h2 ne
    · exact p1.elim
/-! ## classes whose instances change: laid on the heap -/
def mkHM (n : Nat) (c : Str) (m : MF) (dv : List AV) (g : M (List AV)) : M AV := bindM g fun as s => if (as ++ dv).length + 1 = n then (match m (.ref s.hp.length :: (as ++ dv)) (s.hp ++ [.ins c []]) with
  | .ok .non h => .ok (.ref s.hp.length) { s with hp := h }
  | _ => .stuck) else .stuck
theorem mkH_core {K : PySem.W.Frag} {U F H : Hp} {ρ : List Addr} {S : SS} {σ : St} {W : WX} {Q : VK} {n : Nat} {as : List AV} {vs : List V} {x dx : Addr} (R : Rep K U F ρ S σ H) (e : EmbL K F ρ as vs) (hn : as.length + 1 = n)
    (p : Post K U F ρ σ (RE K U σ) W Q (match m (.ref S.hp.length :: as) (S.hp ++ [.ins c []]) with | .ok .non h => .ok (.ref S.hp.length) { S with hp := h } | _ => .stuck)) (h1 : H x = none) (h2 : H dx = none) (ne : dx ≠ x) :
    spM K n m (.ref x :: vs) (upd (upd H dx (.own x)) x (.ins (He.ga K c) dx [])) (fun v H2 => v = .non ∧ Q (.ref x) H2) E0 := by
  have R2 := R.made (C := He.ga K c) h1 h2 ne
  obtain ⟨n1, n2, n3, n4⟩ := R.new h1
  obtain ⟨R3, em, pr⟩ := R2.toHeap (o := .ins c []) ⟨⟨dx, [], upd_same, by simp [EmbF]⟩, n1, n2, n3, n4⟩
  refine ⟨callU U { S with hp := S.hp ++ [.ins c []] } σ (upd (upd H dx (.own x)) x (.ins (He.ga K c) dx [])), F, ρ ++ [x], .ref S.hp.length :: as, S.hp ++ [.ins c []], by simp [← hn], R3.call, ?_, ?_⟩
  · simp only [EmbL]
    exact ⟨_, _, rfl, em, EmbL.mono (Same.refl _) pr _ _ e⟩
  · cases z : m (.ref S.hp.length :: as) (S.hp ++ [.ins c []]) with
    | stuck => rw [z] at p; exact p.elim
    | exn cc h => rw [z] at p; exact p.elim
    | ok v h =>
      rw [z] at p
      cases v with
      | non => exact fun F' ρ' H' u sm pr' R' eu => ⟨emb_non eu, p F' ρ' H' (.ref x) sm (pr.trans pr') (R3.back sm pr' R') (Emb.mono sm pr' _ _ em)⟩
      | _ => exact p.elim
theorem pm_makeH (M : Mk X.K (He.ga X.K c) f) (F : FnM X.prog X.w X.K X.mg X.base k f fd ps m) (hr : Room (k + 1) X.A) (hg : Gl X c) (hm : X.mg c = some (.ref (He.ga X.K c))) (hb : Binds X.K fd ps ds) (hd : Vals dvs ds) (hdv : ∀ F ρ, EmbL X.K F ρ dv dvs)
    (ha : PAm X (e :: es) g) (hdb : (c == ("__debug__" : Str)) = false := by decide) (he : starEach (e :: es) X.env = (false, eval e X.env) :: starEach es X.env := by rfl) (hpl : (backTo pos (starEach es X.env)).any (·.1) = false := by rfl) :
    PEm X (.Call (.Name c p) (e :: es) [] pos) (mkHM ps.length c m dv g) := fun W tk =>
  PE.weak (pe_make M F hr hg hm hb hd passL (ha W tk) hdb he hpl) fun σ H Q ⟨U, F, ρ, S, R, p⟩ => ⟨U, F, ρ, S, R, Post.seq p fun F1 ρ1 S1 H1 as vs s1 q1 r1 e1 p1 => by
    split at p1
    · rename_i hl
      exact fun x dx h1 h2 ne => mkH_core r1 (EmbL.append e1 (hdv F1 ρ1)) hl p1 h1 h2 ne
    · exact p1.elim⟩
theorem pm_makeH0 (M : Mk X.K (He.ga X.K c) f) (F : FnM X.prog X.w X.K X.mg X.base k f fd ps m) (hr : Room (k + 1) X.A) (hg : Gl X c) (hm : X.mg c = some (.ref (He.ga X.K c))) (hb : Binds X.K fd ps ds) (hd : Vals dvs ds) (hdv : ∀ F ρ, EmbL X.K F ρ dv dvs)
    (hdb : (c == ("__debug__" : Str)) = false := by decide) : PEm X (.Call (.Name c p) [] [] pos) (mkHM ps.length c m dv nilM) := fun W tk =>
  PE.weak (pe_make0 M F hr hg hm hb hd passL hdb) fun σ H Q ⟨U, F, ρ, S, R, p⟩ => by
    have p1 : Post X.K U F ρ σ (RE X.K U σ) W Q (if (([] : List AV) ++ dv).length + 1 = ps.length then (match m (.ref S.hp.length :: ([] ++ dv)) (S.hp ++ [.ins c []]) with | .ok .non h => .ok (.ref S.hp.length) { S with hp := h } | _ => .stuck) else .stuck) := p
    split at p1
    · rename_i hl
      exact fun x dx h1 h2 ne => mkH_core (as := [] ++ dv) R (hdv F ρ) hl p1 h1 h2 ne
    · exact p1.elim
end
end LM

namespace LM
open PySem PySem.Spec PyProof.Rows L2
section
variable {X : Cx} {pos : Pos}
/-! ## <= ; a < b < c -/
theorem gc_le : OpR X (compareOp .LtE) (fun x y H Q => rI0 (fun i j => .bl (decide (i ≤ j))) x y H Q ∨ ∃ i j, x = .str i ∧ y = .str j ∧ Q (.bl (!decide (j.cps.toList < i.cps.toList))) H) := OpR.or op_le op_le_str
theorem pt_le {a b : Expr} {f g : M PV} (ha : PPm X a f) (hb : PPm X b g) : PTm X (.Compare a [.LtE] [b] pos) (cmpM leC f g) := pt_cm gc_le (gc_int.or gc_str) ha hb (nomark _)
theorem pm_le {a b : Expr} {f g : M PV} (ha : PPm X a f) (hb : PPm X b g) : PEm X (.Compare a [.LtE] [b] pos) (bvM (cmpM leC f g)) := pm_cm gc_le (gc_int.or gc_str) ha hb (nomark _)
def CmpOk (X : Cx) (o : CmpOp) (c : SS → PV → PV → Option Bool) : Prop := ∃ r, OpR X (compareOp o) r ∧ GoodC X c r
theorem ck_lt : CmpOk X .Lt ltC := ⟨_, gc_lt, gc_int.or gc_str⟩
theorem ck_le : CmpOk X .LtE leC := ⟨_, gc_le, gc_int.or gc_str⟩
theorem ck_gt : CmpOk X .Gt gtC := ⟨_, op_gt, gc_int⟩
theorem ck_ge : CmpOk X .GtE geC := ⟨_, op_ge, gc_int⟩
theorem pt_chn {o1 o2 : CmpOp} {c1 c2 : SS → PV → PV → Option Bool} {a b c : Expr} {f g h : M PV} (h1 : CmpOk X o1 c1) (h2 : CmpOk X o2 c2) (ha : PPm X a f) (hb : PPm X b g) (hc : PPm X c h)
    (hm : lastMarks [o1, o2] [b, c] = false := by with_unfolding_all rfl) : PTm X (.Compare a [o1, o2] [b, c] pos) (chainM c1 c2 f g h) := fun W tk => by
  obtain ⟨r1, p1, g1⟩ := h1
  obtain ⟨r2, p2, g2⟩ := h2
  exact PT.weak (pt_chain p1 p2 (ha W tk) (hb W tk) (hc W tk) hm) fun σ H Q hh => chain_core g1 g2 hh
theorem pm_chn {o1 o2 : CmpOp} {c1 c2 : SS → PV → PV → Option Bool} {a b c : Expr} {f g h : M PV} (h1 : CmpOk X o1 c1) (h2 : CmpOk X o2 c2) (ha : PPm X a f) (hb : PPm X b g) (hc : PPm X c h)
    (hm : lastMarks [o1, o2] [b, c] = false := by with_unfolding_all rfl) : PEm X (.Compare a [o1, o2] [b, c] pos) (bvM (chainM c1 c2 f g h)) := fun W tk => by
  obtain ⟨r1, p1, g1⟩ := h1
  obtain ⟨r2, p2, g2⟩ := h2
  refine PE.weak (pe_chain p1 p2 (ha W tk) (hb W tk) (hc W tk) hm) fun σ H Q ⟨U, F, ρ, S, R, p⟩ => ?_
  have h3 : tG X.K W (RT X.K) (chainM c1 c2 f g h) σ H (fun c H' => Q (.bl c) H') := ⟨U, F, ρ, S, R, Post.seq p fun F1 ρ1 S1 H' a1 v s1 q1 r1 e1 p1 => by
    have e1 : v = a1 := e1
    subst e1
    exact p1 F1 ρ1 H' _ (Same.refl _) (List.prefix_refl _) r1 emb_bl'⟩
  obtain ⟨U, F, ρ, S, R, p⟩ := h3
  refine ⟨U, F, ρ, S, R, Post.seq p fun F1 ρ1 S1 H1 a1 x s1 q1 r1' e1 p1' => ?_⟩
  refine ⟨U, F1, ρ1, S1, r1', Post.seq p1' fun F2 ρ2 S2 H2 b1 y s2 q2 r2' e2 p2' => ?_⟩
  have p2' : Post X.K U F2 ρ2 σ (RT X.K U σ) W (fun c H' => Q (.bl c) H') (match c1 S2 a1 b1 with
    | some true => bindM h (fun c s => match c2 s b1 c with
      | some k => .ok k s
      | none => .stuck) S2
    | some false => .ok false S2
    | none => .stuck) := p2'
  cases z : c1 S2 a1 b1 with
  | none => rw [z] at p2'; exact p2'.elim
  | some k =>
    rw [z] at p2'
    refine g1 U F2 ρ2 S2 σ H2 a1 b1 k x y _ r2' (e1.mono s2 q2) e2 z ⟨k, rfl, ?_⟩
    cases k with
    | true =>
      rw [if_pos rfl]
      refine ⟨U, F2, ρ2, S2, r2', Post.seq p2' fun F3 ρ3 S3 H3 c3 w s3 q3 r3 e3 p3 => ?_⟩
      have p3 : Post X.K U F3 ρ3 σ (RT X.K U σ) W (fun c H' => Q (.bl c) H') (match c2 S3 b1 c3 with | some k => .ok k S3 | none => .stuck) := p3
      cases z2 : c2 S3 b1 c3 with
      | none => rw [z2] at p3; exact p3.elim
      | some k2 =>
        rw [z2] at p3
        exact g2 U F3 ρ3 S3 σ H3 b1 c3 k2 y w _ r3 (e2.mono s3 q3) e3 z2 (p3 F3 ρ3 H3 k2 (Same.refl _) (List.prefix_refl _) r3 rfl)
    | false =>
      rw [if_neg Bool.false_ne_true]
      exact p2' F2 ρ2 H2 false (Same.refl _) (List.prefix_refl _) r2' rfl
/-! ## {k: v, ..} -/
def EmbVV (K : PySem.W.Frag) (F : Hp) (ρ : List Addr) : List (AV × AV) → List (V × V) → Prop
  | [], vs => vs = []
  | (a, b) :: r, vs => ∃ v w r', vs = (v, w) :: r' ∧ Emb K F ρ a v ∧ Emb K F ρ b w ∧ EmbVV K F ρ r r'
theorem EmbVV.mono {K : PySem.W.Frag} {F F' : Hp} {ρ ρ' : List Addr} (s : Same F F') (q : ρ <+: ρ') : ∀ {a : List (AV × AV)} {v : List (V × V)}, EmbVV K F ρ a v → EmbVV K F' ρ' a v
  | [], _, h => h
  | (a, b) :: r, _, ⟨v, w, r', e, h1, h2, h3⟩ => ⟨v, w, r', e, Emb.mono s q _ _ h1, Emb.mono s q _ _ h2, EmbVV.mono s q h3⟩
def RVV (K : PySem.W.Frag) (_ : Hp) (_ : St) : RR (List (AV × AV)) (List (V × V)) := fun F ρ _ _ a v => EmbVV K F ρ a v
def prM (f g : M AV) (r : M (List (AV × AV))) : M (List (AV × AV)) := bindM f fun a => bindM g fun b => bindM r fun ps s => .ok ((a, b) :: ps) s
def PPsm (X : Cx) (pos : Pos) (keys : List (Option Expr)) (values : List Expr) (f : M (List (AV × AV))) : Prop := ∀ W, Takes X W → ∃ trs, PPs X pos keys values trs ∧ ∀ U F ρ S σ H Q, Rep X.K U F ρ S σ H → Post X.K U F ρ σ (RVV X.K U σ) W Q (f S) → tPairs trs σ H Q
theorem pps_n : PPsm X pos [] [] nilM := fun W tk => ⟨[], pps_nil, fun U F ρ S σ H Q R p => p F ρ H [] (Same.refl _) (List.prefix_refl _) R rfl⟩
theorem pps_c {k v : Expr} {ks : List (Option Expr)} {vs : List Expr} {f g : M AV} {r : M (List (AV × AV))} (hk : PEm X k f) (hv : PEm X v g) (hr : PPsm X pos ks vs r) : PPsm X pos (some k :: ks) (v :: vs) (prM f g r) := fun W tk => by
  obtain ⟨trs, h, w⟩ := hr W tk
  refine ⟨_, pps_cons (hk W tk) (hv W tk) h, fun U F ρ S σ H Q R p => ⟨U, F, ρ, S, R, Post.seq p fun F1 ρ1 S1 H1 a1 x s1 q1 r1 e1 p1 => ⟨U, F1, ρ1, S1, r1, Post.seq p1 fun F2 ρ2 S2 H2 b1 y s2 q2 r2 e2 p2 => ?_⟩⟩⟩
  refine w U F2 ρ2 S2 σ H2 _ r2 (Post.seq p2 fun F3 ρ3 S3 H3 ps zs s3 q3 r3 e3 p3 => ?_)
  exact p3 F3 ρ3 H3 _ (Same.refl _) (List.prefix_refl _) r3 ⟨x, y, zs, rfl, Emb.mono (s2.trans s3) (q2.trans q3) _ _ e1, Emb.mono s3 q3 _ _ e2, e3⟩
def dMrg (acc ps : List (AV × AV)) : List (AV × AV) := ps.foldl (fun acc p => dPut false acc p.1 p.2) acc
def disM (f : M (List (AV × AV))) : M AO := bindM f fun ps s => if (ps.all (fun p => (kOf p.1).isSome) && decide (ps.length ≤ 15)) = true then .ok (.dic false (dMrg [] ps)) s else .stuck
theorem EmbVV.keys {K : PySem.W.Frag} {F : Hp} {ρ : List Addr} : ∀ {ps : List (AV × AV)} {vs : List (V × V)}, EmbVV K F ρ ps vs → (∀ p ∈ ps, (kOf p.1).isSome = true) → ∃ kv : List (Key × V), vs = kv.map (fun kv => (kV kv.1, kv.2)) ∧ kv.length = ps.length ∧ ∀ acc av, EmbK K F ρ acc av → EmbK K F ρ (dMrg acc ps) (mergeK av kv)
  | [], _, h, _ => ⟨[], h, rfl, fun acc av e => e⟩
  | (a, b) :: r, _, ⟨v, w, r', e, h1, h2, h3⟩, hk => by
    subst e
    obtain ⟨kv, e1, e2, e3⟩ := EmbVV.keys h3 fun p hp => hk p (List.mem_cons_of_mem _ hp)
    have ha := hk (a, b) List.mem_cons_self
    cases z : kOf a with
    | none => rw [z] at ha; cases ha
    | some k =>
      have := emb_kV z h1
      subst this
      exact ⟨(k, w) :: kv, by rw [List.map_cons, ← e1], by simp [e2], fun acc av e => e3 _ _ (EmbK.put z h2 e)⟩
theorem pn_dis {keys : List (Option Expr)} {values : List Expr} {f : M (List (AV × AV))} (h : PPsm X pos keys values f) (hall : keys.all (·.isSome) = true := by rfl) (hl : keys.length = values.length := by rfl) (h0 : keys ≠ [] := by (intro h; cases h))
    (h15 : keys.length ≤ 15 := by decide) : PNm X (.Dict keys values pos) (disM f) := fun W tk => by
  obtain ⟨trs, h, w⟩ := h W tk
  refine PE.weak (pe_disp h hall hl h0 h15) fun σ H Q ⟨U, F, ρ, S, R, p⟩ x hx => ?_
  obtain ⟨nF, nU, nρ, nO⟩ := R.new hx
  have nfr : ∀ o y, HO.dK [] ≠ .frz o y := fun _ _ z => by cases z
  have p : Post X.K U F ρ σ (RN X.K U σ) W Q (bindR (f S) fun ps s => if (ps.all (fun p => (kOf p.1).isSome) && decide (ps.length ≤ 15)) = true then .ok (.dic false (dMrg [] ps)) s else .stuck) := p
  refine w (upd U x (.dK [])) F ρ S σ _ _ (R.shield hx) ?_
  cases z : f S with
  | stuck => rw [z] at p; exact p.elim
  | exn c s => rw [z] at p; exact fun F' ρ' H' sm pr R' => p F' ρ' H' sm pr (R'.unshield nU)
  | ok ps s =>
    rw [z] at p
    intro F' ρ' H' vs sm pr R' e
    have e : EmbVV X.K F' ρ' ps vs := e
    simp only [bindR] at p
    split at p
    · rename_i hh
      simp only [Bool.and_eq_true, List.all_eq_true, decide_eq_true_eq] at hh
      obtain ⟨kv, e1, e2, e3⟩ := e.keys hh.1
      obtain ⟨u1, u2, u3⟩ := R'.shut nU nfr
      have R2 := R'.reshield (u' := .dK (mergeK [] kv)) nU nfr
      refine ⟨R'.shield0, kv, e1, by rw [e2]; exact hh.2, p F' ρ' _ _ sm pr (R2.unshield nU) ⟨x, rfl, .inl ⟨rfl, _, upd_same, e3 [] [] (by simp [EmbK])⟩, u1, nU, u2, u3⟩⟩
    · exact p.elim
/-! ## enumerate, zip -/
def enumF (k : Int) : List AV → List AV
  | [] => []
  | x :: xs => .tup [.int k, x] :: enumF (k + 1) xs
theorem enumF_get : ∀ {xs : List AV} {k : Int} {i : Nat}, (enumF k xs)[i]? = xs[i]?.map fun x => .tup [.int (k + i), x]
  | [], _, _ => by simp [enumF]
  | x :: xs, k, 0 => by simp [enumF]
  | x :: xs, k, i + 1 => by
    simp only [enumF, List.getElem?_cons_succ]
    rw [enumF_get]
    congr 1
    funext y
    congr 3
    push_cast
    omega
theorem enumF_length : ∀ {xs : List AV} {k : Int}, (enumF k xs).length = xs.length
  | [], _ => rfl
  | x :: xs, k => by simp [enumF, enumF_length]
def zipF : List AV → List AV → List AV
  | x :: xs, y :: ys => .tup [x, y] :: zipF xs ys
  | _, _ => []
theorem zipF_get : ∀ {xs ys : List AV} {i : Nat} {a : AV}, (zipF xs ys)[i]? = some a → ∃ x y, xs[i]? = some x ∧ ys[i]? = some y ∧ a = .tup [x, y]
  | [], _, _, _, h => by simp [zipF] at h
  | x :: xs, [], _, _, h => by simp [zipF] at h
  | x :: xs, y :: ys, 0, a, h => by simp [zipF] at h; exact ⟨x, y, rfl, rfl, h.symm⟩
  | x :: xs, y :: ys, i + 1, a, h => by
    simp only [zipF, List.getElem?_cons_succ] at h ⊢
    exact zipF_get h
theorem zipF_length : ∀ {xs ys : List AV}, xs.length ≤ (zipF xs ys).length ∨ ys.length ≤ (zipF xs ys).length
  | [], _ => .inl (by simp)
  | x :: xs, [] => .inr (by simp)
  | x :: xs, y :: ys => by
    rcases zipF_length (xs := xs) (ys := ys) with h | h
    · exact .inl (by simp [zipF, h])
    · exact .inr (by simp [zipF, h])
end
section
variable {K : PySem.W.Frag} {U F H : Hp} {ρ : List Addr} {S : SS} {σ : St}
theorem itok_enum {p : Addr} {vs : List V} {xs : List AV} (h : SqL K F p vs) (e : EmbL K F ρ xs vs) : ItOk K F ρ (enumF 0 xs) (Ite K p) := by
  intro U F' ρ' S' σ' H' sm pr R
  have hs : SqL K H' p vs := R.lstF (sm.seq h)
  have e' := e.mono sm pr
  refine ⟨fun i a ha => ?_, vs, hs, by rw [e.length, enumF_length]; exact Nat.le_refl _⟩
  rw [enumF_get] at ha
  cases hx : xs[i]? with
  | none => rw [hx] at ha; cases ha
  | some x =>
    rw [hx] at ha
    cases ha
    obtain ⟨v, hv, ev⟩ := e'.get hx
    refine ⟨⟨vs, v, hs, hv⟩, fun y H'' hy => ?_⟩
    obtain ⟨T, w, rfl, hT, rfl, f⟩ := hy
    have q := f vs hs
    rw [hv] at q; cases q
    obtain ⟨R2, s2⟩ := R.newF (u := .tup [.int (i : Nat), v]) hT
    refine ⟨_, s2, R2, ?_⟩
    simp only [Emb]
    refine ⟨T, _, rfl, upd_same, ?_⟩
    simp only [EmbL]
    exact ⟨_, _, rfl, by simp [Emb], v, [], rfl, Emb.mono s2 (List.prefix_refl _) _ _ ev, rfl⟩
theorem itok_zip {p p' : Addr} {vs ws : List V} {xs ys : List AV} (h : SqL K F p vs) (h' : SqL K F p' ws) (e : EmbL K F ρ xs vs) (e' : EmbL K F ρ ys ws) : ItOk K F ρ (zipF xs ys) (Itz K p p') := by
  intro U F' ρ' S' σ' H' sm pr R
  have hs : SqL K H' p vs := R.lstF (sm.seq h)
  have hs' : SqL K H' p' ws := R.lstF (sm.seq h')
  have e1 := e.mono sm pr
  have e2 := e'.mono sm pr
  refine ⟨fun i a ha => ?_, vs, ws, hs, hs', by rw [e.length, e'.length]; exact zipF_length⟩
  obtain ⟨x, y, hx, hy, rfl⟩ := zipF_get ha
  obtain ⟨v, hv, ev⟩ := e1.get hx
  obtain ⟨w, hw, ew⟩ := e2.get hy
  refine ⟨⟨vs, ws, v, w, hs, hs', hv, hw⟩, fun z H'' hz => ?_⟩
  obtain ⟨T, x2, y2, rfl, hT, rfl, f, g⟩ := hz
  have q := f vs hs
  rw [hv] at q; cases q
  have q := g ws hs'
  rw [hw] at q; cases q
  obtain ⟨R2, s2⟩ := R.newF (u := .tup [v, w]) hT
  refine ⟨_, s2, R2, ?_⟩
  simp only [Emb]
  refine ⟨T, _, rfl, upd_same, ?_⟩
  simp only [EmbL]
  exact ⟨_, _, rfl, Emb.mono s2 (List.prefix_refl _) _ _ ev, w, [], rfl, Emb.mono s2 (List.prefix_refl _) _ _ ew, rfl⟩
theorem itok_zipT {p p' : Addr} {vs ws : List V} {xs ys : List AV} (h : F p = some (.tup vs) ∨ SqT K (fun _ => none) p vs) (h' : F p' = some (.tup ws) ∨ SqT K (fun _ => none) p' ws) (e : EmbL K F ρ xs vs) (e' : EmbL K F ρ ys ws) : ItOk K F ρ (zipF xs ys) (RZ.ItzT K p p') := by
  intro U F' ρ' S' σ' H' sm pr R
  have hs : SqT K H' p vs := by
    rcases h with h | h
    · exact SqT.of (R.tupF (sm _ _ h))
    · exact seqT0 h
  have hs' : SqT K H' p' ws := by
    rcases h' with h | h
    · exact SqT.of (R.tupF (sm _ _ h))
    · exact seqT0 h
  have e1 := e.mono sm pr
  have e2 := e'.mono sm pr
  refine ⟨fun i a ha => ?_, vs, ws, hs, hs', by rw [e.length, e'.length]; exact zipF_length⟩
  obtain ⟨x, y, hx, hy, rfl⟩ := zipF_get ha
  obtain ⟨v, hv, ev⟩ := e1.get hx
  obtain ⟨w, hw, ew⟩ := e2.get hy
  refine ⟨⟨vs, ws, v, w, hs, hs', hv, hw⟩, fun z H'' hz => ?_⟩
  obtain ⟨T, x2, y2, rfl, hT, rfl, f, g⟩ := hz
  have q := f vs hs
  rw [hv] at q; cases q
  have q := g ws hs'
  rw [hw] at q; cases q
  obtain ⟨R2, s2⟩ := R.newF (u := .tup [v, w]) hT
  refine ⟨_, s2, R2, ?_⟩
  simp only [Emb]
  refine ⟨T, _, rfl, upd_same, ?_⟩
  simp only [EmbL]
  exact ⟨_, _, rfl, Emb.mono s2 (List.prefix_refl _) _ _ ev, w, [], rfl, Emb.mono s2 (List.prefix_refl _) _ _ ew, rfl⟩
end
section
variable {X : Cx} {pos : Pos}
def lsA : AV → Option (List AV)
  | .vl xs => some xs
  | .cl xs => some xs
  | _ => none
def tpA : AV → Option (List AV)
  | .tup xs => some xs
  | .ct xs => some xs
  | _ => none
theorem lsA_ok {K : PySem.W.Frag} {F : Hp} {ρ : List Addr} {a : AV} {v : V} {xs : List AV} (h : Emb K F ρ a v) (e : lsA a = some xs) : ∃ p vs, v = .ref p ∧ SqL K F p vs ∧ EmbL K F ρ xs vs := by
  cases a with
  | vl ys => cases e; simp only [Emb] at h; obtain ⟨p, vs, rfl, h1, h2⟩ := h; exact ⟨p, vs, rfl, SqL.of h1, h2⟩
  | cl ys => cases e; simp only [Emb] at h; obtain ⟨p, vs, rfl, h1, h2⟩ := h; exact ⟨p, vs, rfl, h1, h2⟩
  | _ => cases e
theorem tpA_ok {K : PySem.W.Frag} {F : Hp} {ρ : List Addr} {a : AV} {v : V} {xs : List AV} (h : Emb K F ρ a v) (e : tpA a = some xs) : ∃ p vs, v = .ref p ∧ (F p = some (.tup vs) ∨ SqT K (fun _ => none) p vs) ∧ EmbL K F ρ xs vs := by
  cases a with
  | tup ys => cases e; simp only [Emb] at h; obtain ⟨p, vs, rfl, h1, h2⟩ := h; exact ⟨p, vs, rfl, .inl h1, h2⟩
  | ct ys => cases e; simp only [Emb] at h; obtain ⟨p, vs, rfl, h1, h2⟩ := h; exact ⟨p, vs, rfl, .inr h1, h2⟩
  | _ => cases e
def enM (f : M (List AV)) : M (List AV) := bindM f fun as => match as with
  | [a] => optM ((lsA a).map (enumF 0))
  | _ => fun _ => .stuck
theorem pim_enum {e : Expr} {f : M (List AV)} {elts : List Expr} {kk : Nat} {tpos p : Pos} (hg : Gl X "enumerate") (hm : X.mg "enumerate" = none) (h : PAm X [e] f) (hs : starEach [e] X.env = [(false, eval e X.env)] := by rfl) :
    PIm X (.Tuple elts kk tpos) (.Call (.Name "enumerate" p) [e] [] pos) (enM f) := fun W tk =>
  PI.weak (pi_enum hg hm (h W tk) hs) fun σ H Q ⟨U, F, ρ, S, R, p⟩ => ⟨U, F, ρ, S, R, Post.seq p fun F1 ρ1 S1 H1 as vs s1 q1 r1 e1 p1 => by
    change EmbL X.K F1 ρ1 as vs at e1
    split at p1
    · rename_i a
      simp only [EmbL] at e1
      obtain ⟨v, r, rfl, e1, rfl⟩ := e1
      cases z : lsA a with
      | none => rw [z] at p1; exact p1.elim
      | some xs =>
        rw [z] at p1
        obtain ⟨q, vs, rfl, h1, h2⟩ := lsA_ok e1 z
        exact ⟨q, vs, rfl, r1.lstF h1, p1 F1 ρ1 H1 _ (Same.refl _) (List.prefix_refl _) r1 (itok_enum h1 h2)⟩
    · exact p1.elim⟩
def zpM (f : M (List AV)) : M (List AV) := bindM f fun as => match as with
  | [a, b] => optM ((match lsA a, lsA b with
    | some xs, some ys => some (zipF xs ys)
    | _, _ => none).or (match tpA a, tpA b with
    | some xs, some ys => some (zipF xs ys)
    | _, _ => none))
  | _ => fun _ => .stuck
theorem pim_zip {e e2 : Expr} {f : M (List AV)} {elts : List Expr} {kk : Nat} {tpos p : Pos} (hg : Gl X "zip") (hm : X.mg "zip" = none) (h : PAm X [e, e2] f)
    (hs : starEach [e, e2] X.env = (false, eval e X.env) :: starEach [e2] X.env := by rfl) (hpl : (backTo pos (starEach [e2] X.env)).any (·.1) = false := by rfl) :
    PIm X (.Tuple elts kk tpos) (.Call (.Name "zip" p) [e, e2] [] pos) (zpM f) := fun W tk =>
  PI.weak (RZ.pi_zipA hg hm (h W tk) hs hpl) fun σ H Q ⟨U, F, ρ, S, R, p⟩ => ⟨U, F, ρ, S, R, Post.seq p fun F1 ρ1 S1 H1 as vs s1 q1 r1 e1 p1 => by
    change EmbL X.K F1 ρ1 as vs at e1
    split at p1
    · rename_i a b
      simp only [EmbL] at e1
      obtain ⟨v, r, rfl, e1, w, r', rfl, e2, rfl⟩ := e1
      cases z1 : lsA a with
      | some xs =>
        cases z2 : lsA b with
        | some ys =>
          rw [z1, z2] at p1
          obtain ⟨q, vs, rfl, h1, h2⟩ := lsA_ok e1 z1
          obtain ⟨q', ws, rfl, h3, h4⟩ := lsA_ok e2 z2
          exact ⟨q, q', vs, ws, rfl, .inl ⟨r1.lstF h1, r1.lstF h3, p1 F1 ρ1 H1 _ (Same.refl _) (List.prefix_refl _) r1 (itok_zip h1 h3 h2 h4)⟩⟩
        | none =>
          have : tpA a = none := by cases a <;> first | rfl | cases z1
          rw [z1, z2, this] at p1; exact p1.elim
      | none =>
        rw [z1] at p1
        cases z3 : tpA a with
        | none => rw [z3] at p1; exact p1.elim
        | some xs =>
          cases z4 : tpA b with
          | none => rw [z3, z4] at p1; exact p1.elim
          | some ys =>
            rw [z3, z4] at p1
            obtain ⟨q, vs, rfl, h1, h2⟩ := tpA_ok e1 z3
            obtain ⟨q', ws, rfl, h3, h4⟩ := tpA_ok e2 z4
            have g1 : SqT X.K H1 q vs := by
              rcases h1 with h | h
              · exact SqT.of (r1.tupF h)
              · exact seqT0 h
            have g2 : SqT X.K H1 q' ws := by
              rcases h3 with h | h
              · exact SqT.of (r1.tupF h)
              · exact seqT0 h
            exact ⟨q, q', vs, ws, rfl, .inr ⟨g1, g2, p1 F1 ρ1 H1 _ (Same.refl _) (List.prefix_refl _) r1 (itok_zipT h1 h3 h2 h4)⟩⟩
    · exact p1.elim⟩
end
end LM

namespace LM
open PySem PySem.Spec PyProof.Rows L2
/-! ## what a row's head tells, by names -/
structure Fc (fa : List He.Fa) (fn : List He.DefD) (K : PySem.W.Frag) (mg : Str → Option Value) : Prop where
  h : ∃ h : Heap, K.In h ∧ h.Ns mainGlobals mg
  c : He.SaysD fa fn K
section
variable {fa : List He.Fa} {fn : List He.DefD} {K : PySem.W.Frag} {mg : Str → Option Value}
theorem Fc.glo (e : Fc fa fn K mg) (i : Nat) {x : Str} (h : fa[i]? = some (.glo x)) : mg x = some (.ref (He.ga K x)) := by
  obtain ⟨hh, h1, h2⟩ := e.h
  exact He.glo_ok h1 h2 (e.c.fact i h)
theorem Fc.free (e : Fc fa fn K mg) (i : Nat) {x : Str} (h : fa[i]? = some (.free x)) : mg x = none := by
  obtain ⟨hh, h1, h2⟩ := e.h
  exact He.free_ok h1 h2 (e.c.fact i h)
theorem Fc.cls (e : Fc fa fn K mg) (i : Nat) {x : Str} (h : fa[i]? = some (.cls x)) : Cls K (He.ga K x) := He.cls_ok (e.c.fact i h)
theorem Fc.noat (e : Fc fa fn K mg) (i : Nat) {x f : Str} (h : fa[i]? = some (.noat x f)) : NoAttr K (He.ga K x) f := He.noat_ok (e.c.fact i h)
theorem Fc.meth (e : Fc fa fn K mg) (i : Nat) {x f : Str} (h : fa[i]? = some (.meth x f)) : Meth K (He.ga K x) f (He.ma K (He.ga K x) f) := He.meth_ok (e.c.fact i h)
theorem Fc.mkr (e : Fc fa fn K mg) (i : Nat) {x : Str} (h : fa[i]? = some (.mkr x)) : Mk K (He.ga K x) (He.ma K (He.ga K x) "__init__") := He.mkr_ok (e.c.fact i h)
theorem fo_n {f : Str} : FldOk K [] f := fun c h => by cases h
theorem fo_c {f c : Str} {cs : List Str} (h1 : Cls K (He.ga K c)) (h2 : NoAttr K (He.ga K c) f) (h : FldOk K cs f) : FldOk K (c :: cs) f := fun d hd => by
  rcases List.mem_cons.mp hd with rfl | hd
  · exact ⟨h1, h2⟩
  · exact h d hd
end
/-! ## defs that may be called -/
structure CallOk (P : Program) (w : World) (K : PySem.W.Frag) (mg : Str → Option Value) (base : Heap) (k : Nat) (a : Str × Option Str) (n : Nat) (m : MF) (dv : List AV) : Prop where
  ex : ∃ fd ps ds dvs, ps.length = n ∧ FnM P w K mg base k (He.fAd K a) fd ps m ∧ PySem.W.keepIn K (.ref (He.fAd K a)) = true ∧ Binds K fd ps ds ∧ Vals dvs ds ∧ ∀ F ρ, EmbL K F ρ dv dvs
structure MkOk (P : Program) (w : World) (K : PySem.W.Frag) (mg : Str → Option Value) (base : Heap) (k : Nat) (c : Str) (n : Nat) (m : MI) (dv : List AV) : Prop where
  ex : ∃ f fd ps ds dvs, Mk K (He.ga K c) f ∧ ps.length = n ∧ FnI P w K mg base k f fd ps c m ∧ Binds K fd ps ds ∧ Vals dvs ds ∧ ∀ F ρ, EmbL K F ρ dv dvs
structure MkHOk (P : Program) (w : World) (K : PySem.W.Frag) (mg : Str → Option Value) (base : Heap) (k : Nat) (c : Str) (n : Nat) (m : MF) (dv : List AV) : Prop where
  ex : ∃ f fd ps ds dvs, Mk K (He.ga K c) f ∧ ps.length = n ∧ FnM P w K mg base k f fd ps m ∧ Binds K fd ps ds ∧ Vals dvs ds ∧ ∀ F ρ, EmbL K F ρ dv dvs
section
variable {P : Program} {w : World} {K : PySem.W.Frag} {mg : Str → Option Value} {base : Heap} {qual : Str} {params : Arguments} {body : List Stmt} {scope : Scope} {dvs : List V} {kws : List (Str × V)} {fd : FuncData} {k n : Nat} {m : MF} {mi : MI} {dv : List AV} {a : Str × Option Str} {x c : Str} {ps : List Str} {ds : List Value} {f : Addr}
theorem CallOk.of (F : FunD K x qual params body scope dvs kws (He.fAd K a) fd) (h : FnM P w K mg base k (He.fAd K a) fd ps m) (hb : Binds K fd ps []) : CallOk P w K mg base k a ps.length m [] :=
  ⟨fd, ps, [], [], rfl, h, F.kp, hb, .nil, fun _ _ => by simp [EmbL]⟩
theorem CallOk.ofD {dvs' : List V} (F : FunD K x qual params body scope dvs kws (He.fAd K a) fd) (h : FnM P w K mg base k (He.fAd K a) fd ps m) (hb : ∃ ds, Vals dvs' ds ∧ Binds K fd ps ds) (hdv : ∀ F ρ, EmbL K F ρ dv dvs') : CallOk P w K mg base k a ps.length m dv := by
  obtain ⟨ds, h1, h2⟩ := hb
  exact ⟨fd, ps, ds, dvs', rfl, h, F.kp, h2, h1, hdv⟩
theorem MkOk.of (M : Mk K (He.ga K c) f) (h : FnI P w K mg base k f fd ps c mi) (hb : Binds K fd ps []) : MkOk P w K mg base k c ps.length mi [] :=
  ⟨f, fd, ps, [], [], M, rfl, h, hb, .nil, fun _ _ => by simp [EmbL]⟩
theorem MkOk.ofD {dvs' : List V} (M : Mk K (He.ga K c) f) (h : FnI P w K mg base k f fd ps c mi) (hb : ∃ ds, Vals dvs' ds ∧ Binds K fd ps ds) (hdv : ∀ F ρ, EmbL K F ρ dv dvs') : MkOk P w K mg base k c ps.length mi dv := by
  obtain ⟨ds, h1, h2⟩ := hb
  exact ⟨f, fd, ps, ds, dvs', M, rfl, h, h2, h1, hdv⟩
theorem MkHOk.of (M : Mk K (He.ga K c) f) (h : FnM P w K mg base k f fd ps m) (hb : Binds K fd ps []) : MkHOk P w K mg base k c ps.length m [] :=
  ⟨f, fd, ps, [], [], M, rfl, h, hb, .nil, fun _ _ => by simp [EmbL]⟩
theorem MkHOk.ofD {dvs' : List V} (M : Mk K (He.ga K c) f) (h : FnM P w K mg base k f fd ps m) (hb : ∃ ds, Vals dvs' ds ∧ Binds K fd ps ds) (hdv : ∀ F ρ, EmbL K F ρ dv dvs') : MkHOk P w K mg base k c ps.length m dv := by
  obtain ⟨ds, h1, h2⟩ := hb
  exact ⟨f, fd, ps, ds, dvs', M, rfl, h, h2, h1, hdv⟩
end
section
variable {X : Cx} {pos p : Pos} {k n : Nat} {m : MF} {mi : MI} {dv : List AV} {x c : Str} {e : Expr} {es : List Expr} {g : M (List AV)}
theorem pm_cl (C : CallOk X.prog X.w X.K X.mg X.base k (x, none) n m dv) (hr : Room k X.A) (hm : X.mg x = some (.ref (He.ga X.K x))) (ha : PAm X (e :: es) g) (hg : Gl X x := by rfl)
    (hdb : (x == ("__debug__" : Str)) = false := by decide) (he : starEach (e :: es) X.env = (false, eval e X.env) :: starEach es X.env := by rfl) (hpl : (backTo pos (starEach es X.env)).any (·.1) = false := by rfl) :
    PEm X (.Call (.Name x p) (e :: es) [] pos) (callM n m dv g) := by
  obtain ⟨fd, ps, ds, dvs, rfl, h1, h2, h3, h4, h5⟩ := C.ex
  exact pm_call h1 hr hg hm h2 h3 h4 h5 ha hdb he hpl
theorem pm_cl0 (C : CallOk X.prog X.w X.K X.mg X.base k (x, none) n m dv) (hr : Room k X.A) (hm : X.mg x = some (.ref (He.ga X.K x))) (hg : Gl X x := by rfl)
    (hdb : (x == ("__debug__" : Str)) = false := by decide) : PEm X (.Call (.Name x p) [] [] pos) (callM n m dv nilM) := by
  obtain ⟨fd, ps, ds, dvs, rfl, h1, h2, h3, h4, h5⟩ := C.ex
  exact pm_call0 h1 hr hg hm h2 h3 h4 h5 hdb
theorem pn_mk (C : MkOk X.prog X.w X.K X.mg X.base k c n mi dv) (hr : Room (k + 1) X.A) (hm : X.mg c = some (.ref (He.ga X.K c))) (ha : PAm X (e :: es) g) (hg : Gl X c := by rfl)
    (hdb : (c == ("__debug__" : Str)) = false := by decide) (he : starEach (e :: es) X.env = (false, eval e X.env) :: starEach es X.env := by rfl) (hpl : (backTo pos (starEach es X.env)).any (·.1) = false := by rfl) :
    PNm X (.Call (.Name c p) (e :: es) [] pos) (mkM n mi dv g) := by
  obtain ⟨f, fd, ps, ds, dvs, h0, rfl, h1, h3, h4, h5⟩ := C.ex
  exact pn_make h0 h1 hr hg hm h3 h4 h5 ha hdb he hpl
theorem pn_mk0 (C : MkOk X.prog X.w X.K X.mg X.base k c n mi dv) (hr : Room (k + 1) X.A) (hm : X.mg c = some (.ref (He.ga X.K c))) (hg : Gl X c := by rfl)
    (hdb : (c == ("__debug__" : Str)) = false := by decide) : PNm X (.Call (.Name c p) [] [] pos) (mkM n mi dv nilM) := by
  obtain ⟨f, fd, ps, ds, dvs, h0, rfl, h1, h3, h4, h5⟩ := C.ex
  exact pn_make0 h0 h1 hr hg hm h3 h4 h5 hdb
theorem pm_mkH (C : MkHOk X.prog X.w X.K X.mg X.base k c n m dv) (hr : Room (k + 1) X.A) (hm : X.mg c = some (.ref (He.ga X.K c))) (ha : PAm X (e :: es) g) (hg : Gl X c := by rfl)
    (hdb : (c == ("__debug__" : Str)) = false := by decide) (he : starEach (e :: es) X.env = (false, eval e X.env) :: starEach es X.env := by rfl) (hpl : (backTo pos (starEach es X.env)).any (·.1) = false := by rfl) :
    PEm X (.Call (.Name c p) (e :: es) [] pos) (mkHM n c m dv g) := by
  obtain ⟨f, fd, ps, ds, dvs, h0, rfl, h1, h3, h4, h5⟩ := C.ex
  exact pm_makeH h0 h1 hr hg hm h3 h4 h5 ha hdb he hpl
theorem pm_mkH0 (C : MkHOk X.prog X.w X.K X.mg X.base k c n m dv) (hr : Room (k + 1) X.A) (hm : X.mg c = some (.ref (He.ga X.K c))) (hg : Gl X c := by rfl)
    (hdb : (c == ("__debug__" : Str)) = false := by decide) : PEm X (.Call (.Name c p) [] [] pos) (mkHM n c m dv nilM) := by
  obtain ⟨f, fd, ps, ds, dvs, h0, rfl, h1, h3, h4, h5⟩ := C.ex
  exact pm_makeH0 h0 h1 hr hg hm h3 h4 h5 hdb
theorem mo_n {mn : Str} : ∀ t ∈ ([] : List ME), METOk X mn t := fun t h => by cases h
theorem mo_c {mn : Str} {t : ME} {ts : List ME} (hc : Cls X.K (He.ga X.K t.c)) (hm : Meth X.K (He.ga X.K t.c) mn (He.ma X.K (He.ga X.K t.c) mn)) (C : CallOk X.prog X.w X.K X.mg X.base k (t.c, some mn) t.n t.m t.dv) (hr : Room k X.A)
    (h : ∀ t ∈ ts, METOk X mn t) : ∀ u ∈ t :: ts, METOk X mn u := fun u hu => by
  rcases List.mem_cons.mp hu with rfl | hu
  · obtain ⟨fd, ps, ds, dvs, h0, h1, h2, h3, h4, h5⟩ := C.ex
    exact ⟨_, fd, ps, k, dvs, ds, hc, hm, h0, h1, hr, h3, h4, h5⟩
  · exact h u hu
/-! ## + with lists, frozen -/
def catF (a b : AV) : Option AV := (catL a b).map AO.frz
theorem ga_cat : GoodOp X catF rCat := by
  intro U F ρ S σ H a b c x y Q R ea eb e q
  unfold catF at e
  cases z : catL a b with
  | none => rw [z] at e; cases e
  | some o =>
    rw [z] at e
    cases e
    refine gn_cat U F ρ S σ H a b o x y Q R ea eb z fun H' p R' L => ?_
    obtain ⟨u, hu⟩ := L.some
    obtain ⟨R2, em, sm⟩ := R'.freeze L hu
    exact q _ H' _ sm R2 em
def addX (a b : AV) : Option AV := (((addI a b).or ((addS a b).or (addT a b)))).or (catF a b)
theorem pm_addX {a b : Expr} {f g : M AV} (ha : PEm X a f) (hb : PEm X b g) : PEm X (.BinOp a .Add b pos) (op2 addX f g) :=
  pm_op (OpR.or (OpR.or op_add (OpR.or op_add_str op_catA)) op_cat) ((ga_add.or (ga_adds.or ga_addt)).or ga_cat) ha hb
end
end LM
namespace LM
open PySem PySem.Spec PyProof.Rows L2
theorem embL_ints {K : PySem.W.Frag} {F : Hp} {ρ : List Addr} : ∀ ns : List Int, EmbL K F ρ (ns.map AV.int) (ns.map V.int)
  | [] => by simp [EmbL]
  | n :: ns => by simp only [List.map_cons, EmbL]; exact ⟨_, _, rfl, emb_int', embL_ints ns⟩
theorem law_sp {K : PySem.W.Frag} {H : Hp} {a : Addr} {ns : List Int} {m : MF} (hS : SqL K H a (ns.map V.int)) (h : ∃ hp, m [.cl (ns.map AV.int)] [] = .ok (.bl true) hp) :
    spM K 1 m [.ref a] H (fun v _ => v = .bl true) (fun _ _ _ => False) := by
  obtain ⟨hp, h⟩ := h
  have R : Rep K (fun _ => none) H [] ⟨[], []⟩ [] H := ⟨rfl, fun b o e => .inl e, fun b o e => (by cases e), rfl, List.nodup_nil, fun p hp => (by simp at hp), fun b o _ => .inl rfl, fun i o p e => (by simp at e), fun i a e => (by simp at e), fun i o e => (by simp at e)⟩
  refine ⟨fun _ => none, H, [], [.cl (ns.map AV.int)], [], rfl, R, ?_, ?_⟩
  · simp only [EmbL, Emb]
    exact ⟨_, _, rfl, ⟨a, _, rfl, hS, embL_ints ns⟩, rfl⟩
  · rw [h]
    exact fun F' ρ' H' u _ _ _ e => emb_bl e
/-- the end of a law's head -/
theorem walk_m {l : PySem.W.OpenLaw} {n k : Nat} {q : Program} {loose : List Str} {XP : (Str → Option Value) → Heap → Prop} {YP : World → Heap → Prop} {d : DefRec} {x : Str} {m : MF}
    (hn : l.most = some n) (hn2 : n ≤ sizeLine) (hdf : d.params.defaults = []) (hr : Room k callerA)
    (F : ∀ (w : World) (mg : Str → Option Value) (fa : Addr) (h : Heap), YP w h → h.Ns mainGlobals mg → mg d.name = some (.ref fa) →
      ∃ (K : PySem.W.Frag) (fd : FuncData), K.In h ∧ (∀ (s : Shared) (u : Value), BindsTo s fd ⟨[u], []⟩ [(x, u)]) ∧ ∀ base : Heap, K.In base → base.Ns mainGlobals mg → FnM l.prog w K mg base k fa fd [x] m)
    (hm : ∀ ns : List Int, ns.length ≤ n → ∃ hp, m [.cl (ns.map AV.int)] [] = .ok (.bl true) hp) :
    PySem.W.WalkO q loose XP YP l.row.toRowW d [] (fun f vs => PySem.call f vs) := by
  refine Att.attach_call hn hdf fun w s₀ s₁ mg mb fa o pm cd doc a vs ns G Y ho hd hcd hmg hobj hints hlen hg => ?_
  obtain ⟨K, fd, KX, hb, hF⟩ := F w mg fa _ Y G.T.g hmg
  exact law_call KX G.T.g G.T.b G.T.builtins G.T.nolimit hg hobj hints (Nat.le_trans hlen hn2) hr hF hb (fun H _ hS => law_sp hS (hm ns hlen)) fun H e s' ⟨_, _, _, _, _, _, _, _, _, _, _, _, h⟩ => h
end LM
namespace LM
open PySem PySem.Spec PyProof.Rows L2
theorem hu65 {k : Nat} {A : Around} (h : Room k A) : A.units + 65 < cLine := by have := h.un; omega
theorem hu1 {k : Nat} {A : Around} (h : Room k A) : A.units + 1 < cLine := by have := h.un; omega
end LM
namespace LM
open PySem PySem.Spec PyProof.Rows L2
/-! ## lists compared by their lengths alone -/
def lenEq (a b : Option AV) : Option Bool := match a, b with
  | some (.vl xs), some (.vl ys) => if xs.length ≠ ys.length then some false else if xs.length = 0 then some true else none
  | _, _ => none
def eqX (s : SS) (a b : PV) : Option Bool := (eqC s a b).or (lenEq (plP a s) (plP b s))
def rLenEq (K : PySem.W.Frag) : R2 := fun x y H Q => ∃ a b xs ys k, x = .ref a ∧ y = .ref b ∧ SqL K H a xs ∧ SqL K H b ys ∧ ((xs.length ≠ ys.length ∧ k = false) ∨ (xs = [] ∧ ys = [] ∧ k = true)) ∧ Q (.bl k) H
theorem op_lenEq {X : Cx} (hu : X.A.units < cLine) : OpR X (compareOp .Eq) (rLenEq X.K) := by
  intro pins s σ H x y v u Q I rx ry h
  obtain ⟨a, b, xs, ys, k, rfl, rfl, h1, h2, h3, q⟩ := h
  cases (show v = Value.ref a from rx)
  cases (show u = Value.ref b from ry)
  obtain ⟨its, r1, p1, _⟩ := I.list h1
  obtain ⟨its2, r2, p2, _⟩ := I.list h2
  rcases h3 with ⟨hne, rfl⟩ | ⟨rfl, rfl, rfl⟩
  · refine SeqAt.eq_list_lengthsAt p1.isList p2.isList ?_ hu ⟨.bl false, H, I, rfl, q⟩
    have l1 := r1.length
    have l2 := r2.length
    rw [bne_iff_ne, List.size_toArray, List.size_toArray, ← l1, ← l2]
    exact hne
  · cases r1
    cases r2
    exact SeqAt.eq_listAt (e := fun _ => true) p1.isList p2.isList rfl hu (fun j h _ => absurd h (Nat.not_lt_zero j)) ⟨.bl true, H, I, rfl, q⟩
theorem plP_lst {K : PySem.W.Frag} {U F H : Hp} {ρ : List Addr} {S : SS} {σ : St} (R : Rep K U F ρ S σ H) {p : PV} {v : V} {xs : List AV} (h : EmbP K F ρ σ p v) (e : plP p S = some (.vl xs)) : ∃ a vs, v = .ref a ∧ SqL K H a vs ∧ vs.length = xs.length := by
  have c := coP_ok R h
  unfold plP at e
  split at e
  · rename_i ys hc
    cases e
    rw [hc] at c
    obtain ⟨a, vs, rfl, c1, c2⟩ := c
    exact ⟨a, vs, rfl, c1, c2.length⟩
  · have ev := avP_ok R h e
    simp only [Emb] at ev
    obtain ⟨a, vs, rfl, h1, h2⟩ := ev
    exact ⟨a, vs, rfl, R.lstF (SqL.of h1), h2.length⟩
theorem gc_lenEq {X : Cx} : GoodC X (fun s a b => lenEq (plP a s) (plP b s)) (rLenEq X.K) := by
  intro U F ρ S σ H a b k x y Q R ea eb e q
  dsimp only at e
  unfold lenEq at e
  split at e
  · rename_i xs ys h1 h2
    obtain ⟨p, vs, rfl, c1, l1⟩ := plP_lst R ea h1
    obtain ⟨p', ws, rfl, c2, l2⟩ := plP_lst R eb h2
    by_cases hl : xs.length ≠ ys.length
    · rw [if_pos hl] at e
      cases e
      exact ⟨p, p', vs, ws, false, rfl, rfl, c1, c2, .inl ⟨by rw [l1, l2]; exact hl, rfl⟩, q⟩
    · rw [if_neg hl] at e
      by_cases h0 : xs.length = 0
      · rw [if_pos h0] at e
        cases e
        have h0' : ys.length = 0 := by omega
        exact ⟨p, p', vs, ws, true, rfl, rfl, c1, c2, .inr ⟨List.eq_nil_of_length_eq_zero (by omega), List.eq_nil_of_length_eq_zero (by omega), rfl⟩, q⟩
      · rw [if_neg h0] at e
        cases e
  · cases e
section
variable {X : Cx} {pos : Pos}
theorem pt_eqX {a b : Expr} {f g : M PV} (hu : X.A.units + 64 < cLine) (ha : PPm X a f) (hb : PPm X b g) : PTm X (.Compare a [.Eq] [b] pos) (cmpM eqX f g) := pt_cm (OpR.or (op_eqD hu) (op_lenEq (by omega))) (gc_eq.or gc_lenEq) ha hb (nomark _)
theorem pm_eqX {a b : Expr} {f g : M PV} (hu : X.A.units + 64 < cLine) (ha : PPm X a f) (hb : PPm X b g) : PEm X (.Compare a [.Eq] [b] pos) (bvM (cmpM eqX f g)) := pm_cm (OpR.or (op_eqD hu) (op_lenEq (by omega))) (gc_eq.or gc_lenEq) ha hb (nomark _)
end
end LM

/-! # plain reckoning with the functions: no program in sight -/
namespace LM
open PySem
/-! ## texts -/
theorem str_inj {a b : String} : (Str.ofString a = Str.ofString b) ↔ a = b := by
  constructor
  · intro h
    rw [Str.ofString_eq_toList, Str.ofString_eq_toList] at h
    have h1 := congrArg Str.cps h
    have h2 : a.toList.map Char.toNat = b.toList.map Char.toNat := by simpa using h1
    have h3 : ∀ (l m : List Char), l.map Char.toNat = m.map Char.toNat → l = m := by
      intro l
      induction l with
      | nil => intro m e; cases m <;> simp at e ⊢
      | cons c l ih =>
        intro m e
        cases m with
        | nil => simp at e
        | cons d m =>
          simp only [List.map_cons, List.cons.injEq] at e
          rw [ih m e.2]
          congr 1
          exact Char.ext (UInt32.toNat_inj.mp e.1)
    exact String.toList_inj.mp (h3 _ _ h2)
  · intro h; rw [h]
theorem str_len (a : String) : (Str.ofString a).length = a.length := by
  rw [Str.ofString_eq_toList]
  unfold Str.length
  simp [String.length_toList]
theorem str_ok (a : String) : (Str.ofString a).cps.all (fun x => decide (x < 0x110000)) = true := by
  rw [Str.ofString_eq_toList]
  rw [Array.all_eq_true']
  intro x hx
  simp only [List.mem_toArray, List.mem_map] at hx
  obtain ⟨c, _, rfl⟩ := hx
  have := c.valid
  simp only [decide_eq_true_eq]
  rcases this with h | h
  · have : c.toNat < 0xd800 := h
    omega
  · have : c.toNat < 0x110000 := h.2
    omega
end LM

namespace LM
open PySem L2
/-! ## steps -/
/-- what comes behind: a class, for simp leaves such arguments alone -/
class Cont (α β : Type) where
  run : α → M β
def bnd {α β : Type} (r : Res α) [c : Cont α β] : Res β := bindR r c.run
@[simp] theorem bindR_ok {α β : Type} {a : α} {s : SS} {c : Cont α β} : @bnd α β (.ok a s) c = c.run a s := Eq.trans rfl rfl
@[simp] theorem bindR_exn {α β : Type} {e : Str} {s : SS} {c : Cont α β} : @bnd α β (.exn e s) c = .exn e s := Eq.trans rfl rfl
@[simp] theorem bindR_stuck {α β : Type} {c : Cont α β} : @bnd α β .stuck c = .stuck := Eq.trans rfl rfl
theorem bnd_mk {α β : Type} {r : Res α} {k : α → M β} : @bnd α β r ⟨k⟩ = bindR r k := rfl
@[simp] theorem bindM_at {α β : Type} {f : M α} {k : α → M β} {s : SS} : LM.bindM f k s = @bnd α β (f s) ⟨k⟩ := Eq.trans rfl rfl
def seqR (r : Res Fl) (k : M Fl) : Res Fl := match r with
  | .ok .nx s' => k s'
  | r => r
@[simp] theorem seqR_nx {s : SS} {k : M Fl} : seqR (.ok .nx s) k = k s := Eq.trans rfl rfl
@[simp] theorem seqR_rt {v : AV} {s : SS} {k : M Fl} : seqR (.ok (.rt v) s) k = .ok (.rt v) s := Eq.trans rfl rfl
@[simp] theorem seqR_bk {s : SS} {k : M Fl} : seqR (.ok .bk s) k = .ok .bk s := Eq.trans rfl rfl
@[simp] theorem seqR_ct {s : SS} {k : M Fl} : seqR (.ok .ct s) k = .ok .ct s := Eq.trans rfl rfl
@[simp] theorem seqR_exn {c : Str} {s : SS} {k : M Fl} : seqR (.exn c s) k = .exn c s := Eq.trans rfl rfl
@[simp] theorem seqR_stuck {k : M Fl} : seqR .stuck k = .stuck := Eq.trans rfl rfl
@[simp] theorem seqM_at {a b : M Fl} {s : SS} : seqM a b s = seqR (a s) b := Eq.trans rfl rfl
def optR {α : Type} (o : Option α) (s : SS) : Res α := match o with
  | some a => .ok a s
  | none => .stuck
@[simp] theorem optR_some {α : Type} {a : α} {s : SS} : optR (some a) s = .ok a s := Eq.trans rfl rfl
@[simp] theorem optR_none {α : Type} {s : SS} : optR (none : Option α) s = .stuck := Eq.trans rfl rfl
@[simp] theorem optM_at {α : Type} {o : Option α} {s : SS} : optM o s = optR o s := Eq.trans rfl rfl
@[simp] theorem cM_at {a : AV} {s : SS} : cM a s = .ok a s := Eq.trans rfl rfl
@[simp] theorem nxM_at {s : SS} : nxM s = .ok .nx s := Eq.trans rfl rfl
@[simp] theorem bkM_at {s : SS} : bkM s = .ok .bk s := Eq.trans rfl rfl
@[simp] theorem ctM_at {s : SS} : ctM s = .ok .ct s := Eq.trans rfl rfl
@[simp] theorem retN_at {s : SS} : retN s = .ok (.rt .non) s := Eq.trans rfl rfl
@[simp] theorem retM_at {f : M AV} {s : SS} : retM f s = @bnd _ _ (f s) ⟨fun a s => .ok (.rt a) s⟩ := Eq.trans rfl rfl
@[simp] theorem expM_at {f : M AV} {s : SS} : expM f s = @bnd _ _ (f s) ⟨fun a s => .ok .nx s⟩ := Eq.trans rfl rfl
def slR (x : Option (Option SV)) (i : Nat) (s : SS) : Res AV := match x with
  | some (some (.val a)) => .ok a s
  | some (some (.own o)) => .ok o.frz { s with sl := s.sl.set i (some (.val o.frz)) }
  | _ => .stuck
@[simp] theorem slR_val {a : AV} {i : Nat} {s : SS} : slR (some (some (.val a))) i s = .ok a s := Eq.trans rfl rfl
@[simp] theorem slR_own {o : AO} {i : Nat} {s : SS} : slR (some (some (.own o))) i s = .ok o.frz { s with sl := s.sl.set i (some (.val o.frz)) } := Eq.trans rfl rfl
@[simp] theorem vM_at {i : Nat} {s : SS} : vM i s = slR s.sl[i]? i s := Eq.trans rfl rfl
def pkR (x : Option (Option SV)) (i : Nat) (s : SS) : Res PV := match x with
  | some (some _) => .ok (.sl i) s
  | _ => .stuck
@[simp] theorem pkR_some {a : SV} {i : Nat} {s : SS} : pkR (some (some a)) i s = .ok (.sl i) s := Eq.trans rfl rfl
@[simp] theorem pkV_at {i : Nat} {s : SS} : pkV i s = pkR s.sl[i]? i s := Eq.trans rfl rfl
@[simp] theorem pkE_at {f : M AV} {s : SS} : pkE f s = @bnd _ _ (f s) ⟨fun a s => .ok (.av a) s⟩ := Eq.trans rfl rfl
@[simp] theorem frM_at {f : M AO} {s : SS} : frM f s = @bnd _ _ (f s) ⟨fun o s => .ok o.frz s⟩ := Eq.trans rfl rfl
@[simp] theorem laM_at {f : M AO} {s : SS} : laM f s = @bnd _ _ (f s) ⟨fun o s => .ok (.ref s.hp.length) { s with hp := s.hp ++ [o] }⟩ := Eq.trans rfl rfl
@[simp] theorem op2_at {op : AV → AV → Option AV} {f g : M AV} {s : SS} : op2 op f g s = @bnd _ _ (f s) ⟨fun a s => @bnd _ _ (g s) ⟨fun b s => optR (op a b) s⟩⟩ := Eq.trans rfl rfl
@[simp] theorem op2N_at {op : AV → AV → Option AO} {f g : M AV} {s : SS} : op2N op f g s = @bnd _ _ (f s) ⟨fun a s => @bnd _ _ (g s) ⟨fun b s => optR (op a b) s⟩⟩ := Eq.trans rfl rfl
@[simp] theorem op1_at {op : AV → Option AV} {f : M AV} {s : SS} : op1 op f s = @bnd _ _ (f s) ⟨fun a s => optR (op a) s⟩ := Eq.trans rfl rfl
@[simp] theorem cmpM_at {op : SS → PV → PV → Option Bool} {f g : M PV} {s : SS} : cmpM op f g s = @bnd _ _ (f s) ⟨fun a s => @bnd _ _ (g s) ⟨fun b s => optR (op s a b) s⟩⟩ := by
  simp only [bnd_mk]
  show bindR (f s) _ = bindR (f s) _
  congr 1
  funext a s
  show bindR (g s) _ = bindR (g s) _
  congr 1
  funext b s
  show (match op s a b with | some k => Res.ok k s | none => .stuck) = _
  cases op s a b <;> rfl
@[simp] theorem bvM_at {f : M Bool} {s : SS} : bvM f s = @bnd _ _ (f s) ⟨fun k s => .ok (.bl k) s⟩ := Eq.trans rfl rfl
@[simp] theorem andM_at {f g : M Bool} {s : SS} : LM.andM f g s = @bnd _ _ (f s) ⟨fun k s => if k = true then g s else .ok false s⟩ := by
  simp only [bnd_mk]
  unfold LM.andM LM.bindM
  show bindR (f s) _ = bindR (f s) _
  congr 1
  funext k s
  cases k <;> rfl
@[simp] theorem orM_at {f g : M Bool} {s : SS} : LM.orM f g s = @bnd _ _ (f s) ⟨fun k s => if k = true then .ok true s else g s⟩ := by
  simp only [bnd_mk]
  unfold LM.orM LM.bindM
  show bindR (f s) _ = bindR (f s) _
  congr 1
  funext k s
  cases k <;> rfl
@[simp] theorem notM_at {f : M Bool} {s : SS} : LM.notM f s = @bnd _ _ (f s) ⟨fun k s => .ok (!k) s⟩ := Eq.trans rfl rfl
@[simp] theorem ifM_at {α : Type} {c : M Bool} {f g : M α} {s : SS} : ifM c f g s = @bnd _ _ (c s) ⟨fun k s => if k = true then f s else g s⟩ := by
  simp only [bnd_mk]
  unfold ifM LM.bindM
  show bindR (c s) _ = bindR (c s) _
  congr 1
  funext k s
  cases k <;> rfl
@[simp] theorem truM_at {f : M PV} {s : SS} : truM f s = @bnd _ _ (f s) ⟨fun p s => optR (truP p s) s⟩ := by
  simp only [bnd_mk]
  show bindR (f s) _ = bindR (f s) _
  congr 1
  funext p s
  show (match truP p s with | some k => Res.ok k s | none => .stuck) = _
  cases truP p s <;> rfl
@[simp] theorem chainM_at {c1 c2 : SS → PV → PV → Option Bool} {f g h : M PV} {s : SS} : chainM c1 c2 f g h s = @bnd _ _ (f s) ⟨fun a s => @bnd _ _ (g s) ⟨fun b s => @bnd _ _ (optR (c1 s a b) s) ⟨fun k s => if k = true then @bnd _ _ (h s) ⟨fun c s => optR (c2 s b c) s⟩ else .ok false s⟩⟩⟩ := by
  simp only [bnd_mk]
  show bindR (f s) _ = bindR (f s) _
  congr 1
  funext a s
  show bindR (g s) _ = bindR (g s) _
  congr 1
  funext b s
  show (match c1 s a b with
    | some true => LM.bindM h (fun c s => match c2 s b c with
      | some k => .ok k s
      | none => .stuck) s
    | some false => .ok false s
    | none => .stuck) = _
  cases z : c1 s a b with
  | none => rfl
  | some k =>
    cases k with
    | false => rfl
    | true =>
      show bindR (h s) _ = bindR (h s) _
      congr 1
      funext c s
      show (match c2 s b c with | some k => Res.ok k s | none => .stuck) = _
      cases c2 s b c <;> rfl
@[simp] theorem nilM_at {α : Type} {s : SS} : (nilM : M (List α)) s = .ok [] s := Eq.trans rfl rfl
@[simp] theorem consM_at {α : Type} {f : M α} {g : M (List α)} {s : SS} : consM f g s = @bnd _ _ (f s) ⟨fun a s => @bnd _ _ (g s) ⟨fun as s => .ok (a :: as) s⟩⟩ := Eq.trans rfl rfl
@[simp] theorem tupM_at {f : M (List AV)} {s : SS} : tupM f s = @bnd _ _ (f s) ⟨fun xs s => if xs.length ≤ 16777216 then .ok (.tup xs) s else .stuck⟩ := Eq.trans rfl rfl
@[simp] theorem lstM_at {f : M (List AV)} {s : SS} : lstM f s = @bnd _ _ (f s) ⟨fun xs s => if xs.length ≤ 16777216 then .ok (.lst xs) s else .stuck⟩ := Eq.trans rfl rfl
@[simp] theorem dicM_at {t : Bool} {s : SS} : dicM t s = .ok (.dic t []) s := Eq.trans rfl rfl
@[simp] theorem cbM_at {α : Type} {op : SS → List PV → Option α} {f : M (List PV)} {s : SS} : cbM op f s = @bnd _ _ (f s) ⟨fun as s => optR (op s as) s⟩ := by
  simp only [bnd_mk]
  unfold cbM LM.bindM optR
  rfl
@[simp] theorem noPartM_at {s : SS} : noPartM s = .ok none s := Eq.trans rfl rfl
def partR (a : AV) (s : SS) : Res (Option Int) := match a with
  | .int i => .ok (some i) s
  | _ => .stuck
@[simp] theorem partR_int {i : Int} {s : SS} : partR (.int i) s = .ok (some i) s := Eq.trans rfl rfl
@[simp] theorem partM_at {f : M AV} {s : SS} : partM f s = @bnd _ _ (f s) ⟨fun a s => partR a s⟩ := Eq.trans rfl rfl
def retX (s : SS) (r : RF) : Res AV := retR s r
@[simp] theorem retX_ok {s : SS} {v : AV} {h : AH} : retX s (.ok v h) = .ok v { s with hp := h } := Eq.trans rfl rfl
@[simp] theorem retX_exn {s : SS} {c : Str} {h : AH} : retX s (.exn c h) = .exn c { s with hp := h } := Eq.trans rfl rfl
@[simp] theorem callM_at {n : Nat} {m : MF} {dv : List AV} {f : M (List AV)} {s : SS} : callM n m dv f s = @bnd _ _ (f s) ⟨fun as s => if (as ++ dv).length = n then retX s (m (as ++ dv) s.hp) else .stuck⟩ := Eq.trans rfl rfl
def asgR (r : Res Unit) : Res Fl := match r with
  | .ok _ s => .ok .nx s
  | _ => .stuck
@[simp] theorem asgR_ok {u : Unit} {s : SS} : asgR (.ok u s) = .ok .nx s := Eq.trans rfl rfl
@[simp] theorem asgM_at {g : AV → M Unit} {f : M AV} {s : SS} : asgM g f s = @bnd _ _ (f s) ⟨fun a s => asgR (g a s)⟩ := by
  simp only [bnd_mk]
  unfold asgM LM.bindM asgR
  rfl
@[simp] theorem asgO_at {i : Nat} {f : M AO} {s : SS} : asgO i f s = @bnd _ _ (f s) ⟨fun o s => .ok .nx { s with sl := s.sl.set i (some (.own o)) }⟩ := Eq.trans rfl rfl
@[simp] theorem setV_at {i : Nat} {a : AV} {s : SS} : setV i a s = .ok () { s with sl := s.sl.set i (some (.val a)) } := Eq.trans rfl rfl
@[simp] theorem yesM_at {s : SS} : yesM s = .ok true s := Eq.trans rfl rfl
@[simp] theorem forM_at {it : M (List AV)} {g : AV → M Unit} {b : M Fl} {s : SS} : LM.forM it g b s = @bnd _ _ (it s) ⟨fun xs s => forL g b xs s⟩ := Eq.trans rfl rfl
@[simp] theorem itM_at {f : M AV} {s : SS} : itM f s = @bnd _ _ (f s) ⟨fun a s => optR (itA a) s⟩ := Eq.trans rfl rfl
def fnR (r : Res Fl) : RF := match r with
  | .ok (.rt v) s => .ok v s.hp
  | .ok .nx s => .ok .non s.hp
  | .exn c s => .exn c s.hp
  | _ => .stuck
@[simp] theorem fnR_rt {v : AV} {s : SS} : fnR (.ok (.rt v) s) = .ok v s.hp := Eq.trans rfl rfl
@[simp] theorem fnR_nx {s : SS} : fnR (.ok .nx s) = .ok .non s.hp := Eq.trans rfl rfl
@[simp] theorem fnR_exn {c : Str} {s : SS} : fnR (.exn c s) = .exn c s.hp := Eq.trans rfl rfl
@[simp] theorem fnM_at {n : Nat} {m : M Fl} {as : List AV} {hp : AH} : fnM n m as hp = fnR (m ⟨slots0 n as, hp⟩) := Eq.trans rfl rfl
/-- a loop's turn -/
def turnR (r : Res Fl) (k : M Fl) : Res Fl := match r with
  | .ok .nx s => k s
  | .ok .ct s => k s
  | .ok .bk s => .ok .nx s
  | r => r
@[simp] theorem turnR_nx {s : SS} {k : M Fl} : turnR (.ok .nx s) k = k s := Eq.trans rfl rfl
@[simp] theorem turnR_ct {s : SS} {k : M Fl} : turnR (.ok .ct s) k = k s := Eq.trans rfl rfl
@[simp] theorem turnR_bk {s : SS} {k : M Fl} : turnR (.ok .bk s) k = .ok .nx s := Eq.trans rfl rfl
@[simp] theorem turnR_rt {v : AV} {s : SS} {k : M Fl} : turnR (.ok (.rt v) s) k = .ok (.rt v) s := Eq.trans rfl rfl
theorem forL_nil {g : AV → M Unit} {b : M Fl} {s : SS} : forL g b [] s = .ok .nx s := rfl
theorem forL_cons {g : AV → M Unit} {b : M Fl} {x : AV} {xs : List AV} {s s' : SS} {u : Unit} (h : g x s = .ok u s') : forL g b (x :: xs) s = turnR (b s') (forL g b xs) := by
  show (match g x s with
    | .ok _ s => (match b s with
      | .ok .nx s => forL g b xs s
      | .ok .ct s => forL g b xs s
      | .ok .bk s => .ok .nx s
      | r => r)
    | _ => .stuck) = _
  rw [h]
  unfold turnR
  rfl
theorem forL_setV {i : Nat} {b : M Fl} {x : AV} {xs : List AV} {s : SS} : forL (setV i) b (x :: xs) s = turnR (b { s with sl := s.sl.set i (some (.val x)) }) (forL (setV i) b xs) := forL_cons (setV_at)
theorem whileM_at {c : M Bool} {b : M Fl} {n : Nat} {s : SS} : whileM c b (n + 1) s = @bnd _ _ (c s) ⟨fun k s => if k = true then turnR (b s) (whileM c b n) else .ok .nx s⟩ := by
  simp only [bnd_mk]
  show (match c s with
    | .ok true s => (match b s with
      | .ok .nx s => whileM c b n s
      | .ok .ct s => whileM c b n s
      | .ok .bk s => .ok .nx s
      | r => r)
    | .ok false s => .ok .nx s
    | .exn c s => .exn c s
    | .stuck => .stuck) = _
  cases z : c s with
  | ok k s' => cases k <;> rfl
  | exn cc s' => rfl
  | stuck => rfl
/-- a comprehension's turn -/
theorem compL_nil {vs : List Nat} {g : AV → M Unit} {c : M Bool} {e : M AV} {acc : List AV} {s : SS} : compL vs g c e [] acc s = .ok acc (wipeS vs s) := rfl
theorem compL_yes {vs : List Nat} {g : AV → M Unit} {c : M Bool} {e : M AV} {x a : AV} {xs acc : List AV} {s s1 s2 s3 : SS} {u : Unit} (h1 : g x (wipeS vs s) = .ok u s1) (h2 : c s1 = .ok true s2) (h3 : e s2 = .ok a s3) (hl : acc.length < 16777216) :
    compL vs g c e (x :: xs) acc s = compL vs g c e xs (acc ++ [a]) s3 := by
  show (match g x (wipeS vs s) with
    | .ok _ s => (match c s with
      | .ok true s => (match e s with
        | .ok a s => if acc.length < 16777216 then compL vs g c e xs (acc ++ [a]) s else .stuck
        | _ => .stuck)
      | .ok false s => compL vs g c e xs acc s
      | _ => .stuck)
    | _ => .stuck) = _
  simp only [h1, h2, h3, if_pos hl]
theorem compL_no {vs : List Nat} {g : AV → M Unit} {c : M Bool} {e : M AV} {x : AV} {xs acc : List AV} {s s1 s2 : SS} {u : Unit} (h1 : g x (wipeS vs s) = .ok u s1) (h2 : c s1 = .ok false s2) :
    compL vs g c e (x :: xs) acc s = compL vs g c e xs acc s2 := by
  show (match g x (wipeS vs s) with
    | .ok _ s => (match c s with
      | .ok true s => (match e s with
        | .ok a s => if acc.length < 16777216 then compL vs g c e xs (acc ++ [a]) s else .stuck
        | _ => .stuck)
      | .ok false s => compL vs g c e xs acc s
      | _ => .stuck)
    | _ => .stuck) = _
  simp only [h1, h2]
end LM
namespace LM
open PySem L2
/-! ## what stands there -/
@[simp] theorem coP_av {a : AV} {s : SS} : coP (.av a) s = coA s.hp a := Eq.trans rfl rfl
def coS (x : Option (Option SV)) (hp : AH) : Co := match x with
  | some (some (.own o)) => .ob o
  | some (some (.val a)) => coA hp a
  | _ => .no
@[simp] theorem coP_sl {i : Nat} {s : SS} : coP (.sl i) s = coS s.sl[i]? s.hp := Eq.trans rfl rfl
@[simp] theorem coS_val {a : AV} {hp : AH} : coS (some (some (.val a))) hp = coA hp a := Eq.trans rfl rfl
@[simp] theorem coS_own {o : AO} {hp : AH} : coS (some (some (.own o))) hp = .ob o := Eq.trans rfl rfl
def coH (x : Option AO) : Co := match x with
  | some o => .ob o
  | none => .no
@[simp] theorem coH_some {o : AO} : coH (some o) = .ob o := Eq.trans rfl rfl
@[simp] theorem coA_tup {h : AH} {xs : List AV} : coA h (.tup xs) = .tup xs := Eq.trans rfl rfl
@[simp] theorem coA_ct {h : AH} {xs : List AV} : coA h (.ct xs) = .tup xs := Eq.trans rfl rfl
@[simp] theorem coA_vl {h : AH} {xs : List AV} : coA h (.vl xs) = .ob (.lst xs) := Eq.trans rfl rfl
@[simp] theorem coA_cl {h : AH} {xs : List AV} : coA h (.cl xs) = .ob (.lst xs) := Eq.trans rfl rfl
@[simp] theorem coA_vd {h : AH} {t : Bool} {kvs : List (AV × AV)} : coA h (.vd t kvs) = .ob (.dic t kvs) := Eq.trans rfl rfl
@[simp] theorem coA_ob {h : AH} {c : Str} {fs : List (Str × AV)} : coA h (.ob c fs) = .ob (.ins c fs) := Eq.trans rfl rfl
@[simp] theorem coA_str {h : AH} {x : Str} : coA h (.str x) = .str x := Eq.trans rfl rfl
@[simp] theorem coA_non {h : AH} : coA h .non = .no := Eq.trans rfl rfl
@[simp] theorem coA_bl {h : AH} {b : Bool} : coA h (.bl b) = .no := Eq.trans rfl rfl
@[simp] theorem coA_int {h : AH} {i : Int} : coA h (.int i) = .no := Eq.trans rfl rfl
@[simp] theorem coA_ref {h : AH} {i : Nat} : coA h (.ref i) = coH h[i]? := Eq.trans rfl rfl
@[simp] theorem avP_av {a : AV} {s : SS} : avP (.av a) s = some a := Eq.trans rfl rfl
def avS (x : Option (Option SV)) : Option AV := match x with
  | some (some (.val a)) => some a
  | _ => none
@[simp] theorem avP_sl {i : Nat} {s : SS} : avP (.sl i) s = avS s.sl[i]? := Eq.trans rfl rfl
@[simp] theorem avS_val {a : AV} : avS (some (some (.val a))) = some a := Eq.trans rfl rfl
@[simp] theorem avS_own {o : AO} : avS (some (some (.own o))) = none := Eq.trans rfl rfl
def plC (c : Co) (a : Option AV) : Option AV := match c with
  | .ob (.lst xs) => some (.vl xs)
  | _ => a
@[simp] theorem plP_at {p : PV} {s : SS} : plP p s = plC (coP p s) (avP p s) := Eq.trans rfl rfl
@[simp] theorem plC_lst {xs : List AV} {a : Option AV} : plC (.ob (.lst xs)) a = some (.vl xs) := Eq.trans rfl rfl
@[simp] theorem plC_dic {t : Bool} {xs : List (AV × AV)} {a : Option AV} : plC (.ob (.dic t xs)) a = a := Eq.trans rfl rfl
@[simp] theorem plC_ins {c : Str} {xs : List (Str × AV)} {a : Option AV} : plC (.ob (.ins c xs)) a = a := Eq.trans rfl rfl
@[simp] theorem plC_tup {xs : List AV} {a : Option AV} : plC (.tup xs) a = a := Eq.trans rfl rfl
@[simp] theorem plC_str {x : Str} {a : Option AV} : plC (.str x) a = a := Eq.trans rfl rfl
@[simp] theorem plC_no {a : Option AV} : plC .no a = a := Eq.trans rfl rfl
/-! ## comparing -/
def eqO (x y : Option AV) : Option Bool := match x, y with
  | some x, some y => if okA 60 x && okA 60 y then some (eqA x y) else none
  | _, _ => none
@[simp] theorem eqC_at {s : SS} {a b : PV} : eqC s a b = eqO (plP a s) (plP b s) := Eq.trans rfl rfl
@[simp] theorem neC_at {s : SS} {a b : PV} : neC s a b = (eqO (plP a s) (plP b s)).map (!·) := Eq.trans rfl rfl
@[simp] theorem eqO_some {x y : AV} : eqO (some x) (some y) = if okA 60 x && okA 60 y then some (eqA x y) else none := Eq.trans rfl rfl
@[simp] theorem okA_non {n : Nat} : okA n .non = true := by simp only [okA]
@[simp] theorem okA_bl {n : Nat} {b : Bool} : okA n (.bl b) = true := by simp only [okA]
@[simp] theorem okA_int {n : Nat} {i : Int} : okA n (.int i) = true := by simp only [okA]
@[simp] theorem okA_str {n : Nat} {x : String} : okA n (.str (Str.ofString x)) = true := by simp only [okA]; exact str_ok x
@[simp] theorem okA_vl {n : Nat} {xs : List AV} : okA (n + 1) (.vl xs) = okL n xs := by simp only [okA]
@[simp] theorem okA_cl {n : Nat} {xs : List AV} : okA (n + 1) (.cl xs) = okL n xs := by simp only [okA]
@[simp] theorem okA_tup {n : Nat} {xs : List AV} : okA (n + 1) (.tup xs) = okL n xs := by simp only [okA]
@[simp] theorem okA_ct {n : Nat} {xs : List AV} : okA (n + 1) (.ct xs) = okL n xs := by simp only [okA]
@[simp] theorem okL_nil {n : Nat} : okL n [] = true := by simp only [okL]
@[simp] theorem okL_cons {n : Nat} {x : AV} {xs : List AV} : okL n (x :: xs) = (okA n x && okL n xs) := by simp only [okL]
@[simp] theorem eqA_non : eqA .non .non = true := by simp only [eqA]
@[simp] theorem eqA_bl {a b : Bool} : eqA (.bl a) (.bl b) = (a == b) := by simp only [eqA]
@[simp] theorem eqA_int {a b : Int} : eqA (.int a) (.int b) = decide (a = b) := by simp only [eqA]
@[simp] theorem eqA_str {a b : Str} : eqA (.str a) (.str b) = decide (a = b) := by simp only [eqA]
@[simp] theorem eqA_vl {a b : List AV} : eqA (.vl a) (.vl b) = eqL a b := by simp only [eqA]
@[simp] theorem eqA_tup {a b : List AV} : eqA (.tup a) (.tup b) = eqL a b := by simp only [eqA]
@[simp] theorem eqA_int_str {a : Int} {b : Str} : eqA (.int a) (.str b) = false := by simp only [eqA]
@[simp] theorem eqA_str_int {a : Int} {b : Str} : eqA (.str b) (.int a) = false := by simp only [eqA]
@[simp] theorem eqL_nil : eqL [] [] = true := by simp only [eqL]
@[simp] theorem eqL_cons {x y : AV} {xs ys : List AV} : eqL (x :: xs) (y :: ys) = (eqA x y && eqL xs ys) := by simp only [eqL]
@[simp] theorem eqL_nc {y : AV} {ys : List AV} : eqL [] (y :: ys) = false := by simp only [eqL]
@[simp] theorem eqL_cn {y : AV} {ys : List AV} : eqL (y :: ys) [] = false := by simp only [eqL]
def intO (c : Int → Int → Bool) (x y : Option AV) : Option Bool := match x, y with
  | some (.int i), some (.int j) => some (c i j)
  | _, _ => none
def strO (c : Str → Str → Bool) (x y : Option AV) : Option Bool := match x, y with
  | some (.str i), some (.str j) => some (c i j)
  | _, _ => none
@[simp] theorem intC_at {c : Int → Int → Bool} {s : SS} {a b : PV} : intC c s a b = intO c (avP a s) (avP b s) := Eq.trans rfl rfl
@[simp] theorem strC_at {c : Str → Str → Bool} {s : SS} {a b : PV} : strC c s a b = strO c (avP a s) (avP b s) := Eq.trans rfl rfl
@[simp] theorem intO_int {c : Int → Int → Bool} {i j : Int} : intO c (some (.int i)) (some (.int j)) = some (c i j) := Eq.trans rfl rfl
@[simp] theorem intO_str {c : Int → Int → Bool} {i j : Str} : intO c (some (.str i)) (some (.str j)) = none := Eq.trans rfl rfl
@[simp] theorem strO_str {c : Str → Str → Bool} {i j : Str} : strO c (some (.str i)) (some (.str j)) = some (c i j) := Eq.trans rfl rfl
@[simp] theorem ltC_at {s : SS} {a b : PV} : ltC s a b = (intO (fun i j => decide (i < j)) (avP a s) (avP b s)).or (strO (fun i j => decide (i.cps.toList < j.cps.toList)) (avP a s) (avP b s)) := Eq.trans rfl rfl
@[simp] theorem leC_at {s : SS} {a b : PV} : leC s a b = (intO (fun i j => decide (i ≤ j)) (avP a s) (avP b s)).or (strO (fun i j => !decide (j.cps.toList < i.cps.toList)) (avP a s) (avP b s)) := Eq.trans rfl rfl
end LM
namespace LM
open PySem L2
/-! ## places, fields, calls of methods -/
def ixO (c : Co) (k : Option AV) : Option AV := match c, k with
  | .ob (.lst xs), some (.int i) => atI xs i
  | .tup xs, some (.int i) => atI xs i
  | .str z, some (.int i) => if z.length ≤ 16777216 then (atI z.cps.toList i).map (fun c => .str ⟨#[c]⟩) else none
  | .ob (.dic t kvs), some k => if (kk t k).isSome then dGet t kvs k else none
  | _, _ => none
@[simp] theorem ixO_lst {xs : List AV} {i : Int} : ixO (.ob (.lst xs)) (some (.int i)) = atI xs i := Eq.trans rfl rfl
@[simp] theorem ixO_tup {xs : List AV} {i : Int} : ixO (.tup xs) (some (.int i)) = atI xs i := Eq.trans rfl rfl
@[simp] theorem ixO_str {z : Str} {i : Int} : ixO (.str z) (some (.int i)) = if z.length ≤ 16777216 then (atI z.cps.toList i).map (fun c => .str ⟨#[c]⟩) else none := Eq.trans rfl rfl
@[simp] theorem ixO_dic {t : Bool} {kvs : List (AV × AV)} {k : AV} : ixO (.ob (.dic t kvs)) (some k) = if (kk t k).isSome then dGet t kvs k else none := Eq.trans rfl rfl
theorem ixO_eq (c : Co) (k : Option AV) (s : SS) : (match c, k with
  | .ob (.lst xs), some (.int i) => match atI xs i with
    | some x => Res.ok x s
    | none => .stuck
  | .tup xs, some (.int i) => match atI xs i with
    | some x => .ok x s
    | none => .stuck
  | .str z, some (.int i) => if z.length ≤ 16777216 then (match atI z.cps.toList i with
    | some c => .ok (.str ⟨#[c]⟩) s
    | none => .stuck) else .stuck
  | .ob (.dic t kvs), some k => if (kk t k).isSome then (match dGet t kvs k with
    | some x => .ok x s
    | none => .stuck) else .stuck
  | _, _ => .stuck) = optR (ixO c k) s := by
  unfold ixO
  split
  · rename_i xs i; cases atI xs i <;> rfl
  · rename_i xs i; cases atI xs i <;> rfl
  · rename_i z i
    split
    · cases atI z.cps.toList i <;> rfl
    · rfl
  · rename_i t kvs k
    split
    · cases dGet t kvs k <;> rfl
    · rfl
  · rfl
@[simp] theorem ixM_at {f g : M PV} {s : SS} : ixM f g s = @bnd _ _ (f s) ⟨fun a s => @bnd _ _ (g s) ⟨fun b s => optR (ixO (coP a s) (plP b s)) s⟩⟩ := by
  simp only [bnd_mk]
  show bindR (f s) _ = bindR (f s) _
  congr 1
  funext a s
  show bindR (g s) _ = bindR (g s) _
  congr 1
  funext b s
  exact ixO_eq _ _ _
def fldO (cs : List Str) (f : Str) (c : Co) : Option AV := match c with
  | .ob (.ins c fs) => if c ∈ cs then fs.lookup f else none
  | _ => none
@[simp] theorem fldO_ins {cs : List Str} {f c : Str} {fs : List (Str × AV)} : fldO cs f (.ob (.ins c fs)) = if c ∈ cs then fs.lookup f else none := Eq.trans rfl rfl
@[simp] theorem fldM_at {cs : List Str} {f : Str} {g : M PV} {s : SS} : fldM cs f g s = @bnd _ _ (g s) ⟨fun p s => optR (fldO cs f (coP p s)) s⟩ := by
  simp only [bnd_mk]
  show bindR (g s) _ = bindR (g s) _
  congr 1
  funext p s
  show (match coP p s with
    | .ob (.ins c fs) => if c ∈ cs then (match fs.lookup f with
      | some a => Res.ok a s
      | none => .stuck) else .stuck
    | _ => .stuck) = _
  unfold fldO
  split
  · rename_i c fs h
    split
    · cases fs.lookup f <;> rfl
    · rfl
  · rfl
def methR (name : Str) (tb : List ME) (a : AV) (g : M (List AV)) (c : Option (Str × List (Str × AV))) (s : SS) : Res AV := match c with
  | some (c, fs) => match tb.find? (fun t => decide (t.c = c)), fs.lookup name with
    | some t, none => @bnd _ _ (g s) ⟨fun as s => if (a :: (as ++ t.dv)).length = t.n then retX s (t.m (a :: (as ++ t.dv)) s.hp) else .stuck⟩
    | _, _ => .stuck
  | none => .stuck
@[simp] theorem methM_at {name : Str} {tb : List ME} {f : M AV} {g : M (List AV)} {s : SS} : methM name tb f g s = @bnd _ _ (f s) ⟨fun a s => methR name tb a g (clsOf s.hp a) s⟩ := Eq.trans rfl rfl
@[simp] theorem clsOf_ob {h : AH} {c : Str} {fs : List (Str × AV)} : clsOf h (.ob c fs) = some (c, fs) := Eq.trans rfl rfl
def clsH (x : Option AO) : Option (Str × List (Str × AV)) := match x with
  | some (.ins c fs) => some (c, fs)
  | _ => none
@[simp] theorem clsOf_ref {h : AH} {i : Nat} : clsOf h (.ref i) = clsH h[i]? := Eq.trans rfl rfl
@[simp] theorem clsH_ins {c : Str} {fs : List (Str × AV)} : clsH (some (.ins c fs)) = some (c, fs) := Eq.trans rfl rfl
def methQ (a : AV) (g : M (List AV)) (t : Option ME) (l : Option AV) (s : SS) : Res AV := match t, l with
  | some t, none => @bnd _ _ (g s) ⟨fun as s => if (a :: (as ++ t.dv)).length = t.n then retX s (t.m (a :: (as ++ t.dv)) s.hp) else .stuck⟩
  | _, _ => .stuck
@[simp] theorem methR_some {name : Str} {tb : List ME} {a : AV} {g : M (List AV)} {c : Str} {fs : List (Str × AV)} {s : SS} : methR name tb a g (some (c, fs)) s = methQ a g (tb.find? (fun t => decide (t.c = c))) (fs.lookup name) s := Eq.trans rfl rfl
@[simp] theorem methQ_ok {a : AV} {g : M (List AV)} {t : ME} {s : SS} : methQ a g (some t) none s = @bnd _ _ (g s) ⟨fun as s => if (a :: (as ++ t.dv)).length = t.n then retX s (t.m (a :: (as ++ t.dv)) s.hp) else .stuck⟩ := Eq.trans rfl rfl
/-! ## stores -/
def obS (x : Option (Option SV)) (hp : AH) : Option AO := match x with
  | some (some (.own o)) => some o
  | some (some (.val (.ref j))) => hp[j]?
  | _ => none
@[simp] theorem obP_ref {j : Nat} {s : SS} : obP (.av (.ref j)) s = s.hp[j]? := Eq.trans rfl rfl
@[simp] theorem obP_sl {i : Nat} {s : SS} : obP (.sl i) s = obS s.sl[i]? s.hp := Eq.trans rfl rfl
@[simp] theorem obS_own {o : AO} {hp : AH} : obS (some (some (.own o))) hp = some o := Eq.trans rfl rfl
@[simp] theorem obS_ref {j : Nat} {hp : AH} : obS (some (some (.val (.ref j)))) hp = hp[j]? := Eq.trans rfl rfl
def wrS (x : Option (Option SV)) (i : Nat) (o : AO) (s : SS) : SS := match x with
  | some (some (.own _)) => { s with sl := s.sl.set i (some (.own o)) }
  | some (some (.val (.ref j))) => { s with hp := s.hp.set j o }
  | _ => s
@[simp] theorem wrP_ref {j : Nat} {o : AO} {s : SS} : wrP (.av (.ref j)) o s = { s with hp := s.hp.set j o } := Eq.trans rfl rfl
@[simp] theorem wrP_sl {i : Nat} {o : AO} {s : SS} : wrP (.sl i) o s = wrS s.sl[i]? i o s := Eq.trans rfl rfl
@[simp] theorem wrS_own {i : Nat} {o o' : AO} {s : SS} : wrS (some (some (.own o'))) i o s = { s with sl := s.sl.set i (some (.own o)) } := Eq.trans rfl rfl
@[simp] theorem wrS_ref {i j : Nat} {o : AO} {s : SS} : wrS (some (some (.val (.ref j)))) i o s = { s with hp := s.hp.set j o } := Eq.trans rfl rfl
def putO (o : Option AO) (k : Option AV) (a : AV) : Option AO := match o, k with
  | some (.lst xs), some (.int k) => (ixN xs.length k).map fun j => .lst (xs.set j a)
  | some (.dic t kvs), some k => if (kk t k).isSome && decide (kvs.length < 16777216) then some (.dic t (dPut t kvs k a)) else none
  | _, _ => none
@[simp] theorem putO_lst {xs : List AV} {k : Int} {a : AV} : putO (some (.lst xs)) (some (.int k)) a = (ixN xs.length k).map fun j => .lst (xs.set j a) := Eq.trans rfl rfl
@[simp] theorem putO_dic {t : Bool} {kvs : List (AV × AV)} {k a : AV} : putO (some (.dic t kvs)) (some k) a = if (kk t k).isSome && decide (kvs.length < 16777216) then some (.dic t (dPut t kvs k a)) else none := Eq.trans rfl rfl
def wrR (p : PV) (o : Option AO) (s : SS) : Res Unit := match o with
  | some o => .ok () (wrP p o s)
  | none => .stuck
@[simp] theorem wrR_some {p : PV} {o : AO} {s : SS} : wrR p (some o) s = .ok () (wrP p o s) := Eq.trans rfl rfl
theorem putO_eq (p : PV) (o : Option AO) (k : Option AV) (a : AV) (s : SS) : (match o, k with
  | some (.lst xs), some (.int k) => match ixN xs.length k with
    | some j => Res.ok () (wrP p (.lst (xs.set j a)) s)
    | none => .stuck
  | some (.dic t kvs), some k => if (kk t k).isSome && decide (kvs.length < 16777216) then .ok () (wrP p (.dic t (dPut t kvs k a)) s) else .stuck
  | _, _ => .stuck) = wrR p (putO o k a) s := by
  unfold putO
  split
  · rename_i xs k; cases ixN xs.length k <;> rfl
  · split <;> rfl
  · rfl
@[simp] theorem putG_at {fo fi : M PV} {a : AV} {s : SS} : putG fo fi a s = @bnd _ _ (fo s) ⟨fun p s => @bnd _ _ (fi s) ⟨fun i s => wrR p (putO (obP p s) (plP i s) a) s⟩⟩ := by
  simp only [bnd_mk]
  show bindR (fo s) _ = bindR (fo s) _
  congr 1
  funext p s
  show bindR (fi s) _ = bindR (fi s) _
  congr 1
  funext i s
  exact putO_eq _ _ _ _ _
/-! ## ranges, slices, pairs -/
def rngO (as : List AV) : Option (List AV) := match as with
  | [.int j] => if decide (-(2 ^ 62) ≤ j) && decide (j < 2 ^ 62) then some (ixsR 0 j.toNat) else none
  | _ => none
theorem rngO_1 {j : Int} : rngO [.int j] = if decide (-(2 ^ 62) ≤ j) && decide (j < 2 ^ 62) then some (ixsR 0 j.toNat) else none := rfl
@[simp] theorem rng1_at {f : M (List AV)} {s : SS} : rng1 f s = @bnd _ _ (f s) ⟨fun as s => optR (rngO as) s⟩ := by
  simp only [bnd_mk]
  show bindR (f s) _ = bindR (f s) _
  congr 1
  funext as s
  show (match as with
    | [.int j] => if decide (-(2 ^ 62) ≤ j) && decide (j < 2 ^ 62) then Res.ok (ixsR 0 j.toNat) s else Res.stuck
    | _ => Res.stuck) = _
  unfold rngO
  split
  · split <;> rfl
  · rfl
def nats (i m : Nat) : List AV := (List.range' i m).map fun (j : Nat) => .int (j : Int)
theorem ixsR_nats (n : Nat) : ixsR 0 n = nats 0 n := by
  unfold ixsR nats
  rw [List.range_eq_range']
  apply List.map_congr_left
  intro j _
  simp
theorem nats_zero (i : Nat) : nats i 0 = [] := rfl
theorem nats_succ (i m : Nat) : nats i (m + 1) = .int (i : Int) :: nats (i + 1) m := by
  unfold nats
  rw [List.range'_succ, List.map_cons]
theorem nats_length (i m : Nat) : (nats i m).length = m := by simp [nats]
theorem rngO_int {j : Int} (h1 : 0 ≤ j) (h2 : j ≤ 1000000) : rngO [.int j] = some (nats 0 j.toNat) := by
  rw [rngO_1]
  have e1 : -(2 ^ 62) ≤ j := Int.le_trans (by decide) h1
  have e2 : j < 2 ^ 62 := Int.lt_of_le_of_lt h2 (by decide)
  rw [decide_eq_true e1, decide_eq_true e2]
  rw [ixsR_nats]
  rfl
theorem rngO_nat {n : Nat} (h : n ≤ 1000000) : rngO [.int (n : Int)] = some (nats 0 n) := by
  rw [rngO_int (by omega) (by omega)]
  rfl
def slO (c : Co) (x : Option AV) (l h : Option Int) : Option AV := match c with
  | .ob (.lst xs) => some (.vl (cutG xs l h))
  | .tup xs => if HT.sIx xs.length 0 l = 0 ∧ HT.sIx xs.length xs.length h = xs.length then x else some (.tup (cutG xs l h))
  | .str z => if z.length ≤ 16777216 then some (.str (cutS z l h)) else none
  | _ => none
@[simp] theorem slO_lst {xs : List AV} {x : Option AV} {l h : Option Int} : slO (.ob (.lst xs)) x l h = some (.vl (cutG xs l h)) := Eq.trans rfl rfl
@[simp] theorem slM_at {f : M PV} {l h : M (Option Int)} {s : SS} : slM f l h s = @bnd _ _ (f s) ⟨fun a s => @bnd _ _ (l s) ⟨fun l s => @bnd _ _ (h s) ⟨fun h s => optR (slO (coP a s) (avP a s) l h) s⟩⟩⟩ := by
  simp only [bnd_mk]
  show bindR (f s) _ = bindR (f s) _
  congr 1
  funext a s
  show bindR (l s) _ = bindR (l s) _
  congr 1
  funext l s
  show bindR (h s) _ = bindR (h s) _
  congr 1
  funext h s
  show (match coP a s with
    | .ob (.lst xs) => Res.ok (AV.vl (cutG xs l h)) s
    | .tup xs => if HT.sIx xs.length 0 l = 0 ∧ HT.sIx xs.length xs.length h = xs.length then (match avP a s with
      | some x => .ok x s
      | none => .stuck) else .ok (.tup (cutG xs l h)) s
    | .str z => if z.length ≤ 16777216 then .ok (.str (cutS z l h)) s else .stuck
    | _ => .stuck) = _
  cases coP a s with
  | ob o => cases o <;> rfl
  | tup xs =>
    simp only [slO]
    split
    · cases avP a s <;> rfl
    · rfl
  | str z => simp only [slO]; split <;> rfl
  | no => rfl
def parR (i j : Nat) (as : List AV) (s : SS) : Res Fl := match as with
  | [a, b] => .ok .nx { s with sl := (s.sl.set i (some (.val a))).set j (some (.val b)) }
  | _ => .stuck
@[simp] theorem parR_2 {i j : Nat} {a b : AV} {s : SS} : parR i j [a, b] s = .ok .nx { s with sl := (s.sl.set i (some (.val a))).set j (some (.val b)) } := Eq.trans rfl rfl
@[simp] theorem parM_at {i j : Nat} {f : M (List AV)} {s : SS} : parM i j f s = @bnd _ _ (f s) ⟨fun as s => parR i j as s⟩ := Eq.trans rfl rfl
def augR (i : Nat) (op : AV → AV → Option AV) (f : M AV) (x : Option (Option SV)) (s : SS) : Res Fl := match x with
  | some (some (.val a)) => @bnd _ _ (f s) ⟨fun b s => @bnd _ _ (optR (op a b) s) ⟨fun c s => .ok .nx { s with sl := s.sl.set i (some (.val c)) }⟩⟩
  | _ => .stuck
@[simp] theorem augR_val {i : Nat} {op : AV → AV → Option AV} {f : M AV} {a : AV} {s : SS} : augR i op f (some (some (.val a))) s = @bnd _ _ (f s) ⟨fun b s => @bnd _ _ (optR (op a b) s) ⟨fun c s => .ok .nx { s with sl := s.sl.set i (some (.val c)) }⟩⟩ := Eq.trans rfl rfl
@[simp] theorem augM_at {i : Nat} {op : AV → AV → Option AV} {f : M AV} {s : SS} : augM i op f s = augR i op f s.sl[i]? s := by
  show (match s.sl[i]? with
    | some (some (.val a)) => LM.bindM f (fun b s => match op a b with
      | some c => Res.ok Fl.nx { s with sl := s.sl.set i (some (.val c)) }
      | none => .stuck) s
    | _ => .stuck) = _
  cases s.sl[i]? with
  | none => rfl
  | some x =>
    cases x with
    | none => rfl
    | some sv =>
      cases sv with
      | own o => rfl
      | val a =>
        rw [augR_val, bnd_mk]
        show bindR (f s) _ = bindR (f s) _
        congr 1
        funext b s
        rw [bnd_mk]
        cases op a b <;> rfl
/-! ## values -/
@[simp] theorem addX_int {i j : Int} : addX (.int i) (.int j) = some (.int (i + j)) := Eq.trans rfl rfl
@[simp] theorem addX_vl {xs ys : List AV} : addX (.vl xs) (.vl ys) = if xs.length + ys.length ≤ 16777216 then some (.vl (xs ++ ys)) else none := by
  show (catL (.vl xs) (.vl ys)).map AO.frz = _
  unfold catL
  simp only
  split <;> rfl
@[simp] theorem addX_tup {xs ys : List AV} : addX (.tup xs) (.tup ys) = if xs.length + ys.length ≤ 16777216 then some (.tup (xs ++ ys)) else none := by
  show ((addT (.tup xs) (.tup ys)).or none) = _
  unfold addT
  simp only
  split <;> rfl
@[simp] theorem addX_str {xs ys : Str} : addX (.str xs) (.str ys) = if xs.length + ys.length ≤ 16777216 then some (.str (xs ++ ys)) else none := by
  show ((((addS (.str xs) (.str ys))).or none).or none) = _
  unfold addS
  simp only
  split <;> rfl
@[simp] theorem intOp_int {c : Int → Int → Bool} {g : Int → Int → Int} {i j : Int} : intOp c g (.int i) (.int j) = if c i j then some (.int (g i j)) else none := Eq.trans rfl rfl
@[simp] theorem negA_int {i : Int} : negA (.int i) = some (.int (-i)) := Eq.trans rfl rfl
@[simp] theorem itA_vl {xs : List AV} : itA (.vl xs) = some xs := Eq.trans rfl rfl
@[simp] theorem itA_cl {xs : List AV} : itA (.cl xs) = some xs := Eq.trans rfl rfl
@[simp] theorem itA_tup {xs : List AV} : itA (.tup xs) = some xs := Eq.trans rfl rfl
@[simp] theorem itA_ct {xs : List AV} : itA (.ct xs) = some xs := Eq.trans rfl rfl
@[simp] theorem frz_lst {xs : List AV} : (AO.lst xs).frz = .vl xs := Eq.trans rfl rfl
@[simp] theorem frz_dic {t : Bool} {xs : List (AV × AV)} : (AO.dic t xs).frz = .vd t xs := Eq.trans rfl rfl
@[simp] theorem frz_ins {c : Str} {fs : List (Str × AV)} : (AO.ins c fs).frz = .ob c fs := Eq.trans rfl rfl
def absO (x : Option AV) : Option AV := match x with
  | some (.int i) => some (.int (if i < 0 then -i else i))
  | _ => none
@[simp] theorem absO_int {i : Int} : absO (some (.int i)) = some (.int (if i < 0 then -i else i)) := Eq.trans rfl rfl
@[simp] theorem absA_at {s : SS} {a : PV} : absA s [a] = absO (avP a s) := Eq.trans rfl rfl
def intoO (x : Option AV) : Option AV := match x with
  | some (.int i) => some (.int i)
  | some (.bl k) => some (.int (if k then 1 else 0))
  | _ => none
@[simp] theorem intoO_int {i : Int} : intoO (some (.int i)) = some (.int i) := Eq.trans rfl rfl
@[simp] theorem intoO_bl {k : Bool} : intoO (some (.bl k)) = some (.int (if k then 1 else 0)) := Eq.trans rfl rfl
@[simp] theorem intA_at {s : SS} {a : PV} : intA s [a] = intoO (avP a s) := Eq.trans rfl rfl
def lenO (c : Co) : Option AV := match c with
  | .ob (.lst xs) => some (.int xs.length)
  | .tup xs => some (.int xs.length)
  | .ob (.dic _ kvs) => some (.int kvs.length)
  | .str x => if x.length ≤ 16777216 then some (.int x.length) else none
  | _ => none
@[simp] theorem lenA_at {s : SS} {a : PV} : lenA s [a] = lenO (coP a s) := Eq.trans rfl rfl
@[simp] theorem lenO_lst {xs : List AV} : lenO (.ob (.lst xs)) = some (.int xs.length) := Eq.trans rfl rfl
@[simp] theorem lenO_tup {xs : List AV} : lenO (.tup xs) = some (.int xs.length) := Eq.trans rfl rfl
@[simp] theorem lenO_dic {t : Bool} {xs : List (AV × AV)} : lenO (.ob (.dic t xs)) = some (.int xs.length) := Eq.trans rfl rfl
@[simp] theorem lenO_str {x : Str} : lenO (.str x) = if x.length ≤ 16777216 then some (.int x.length) else none := Eq.trans rfl rfl
def tupO (c : Co) (x : Option AV) : Option AV := match c with
  | .ob (.lst xs) => some (.tup xs)
  | .tup xs => x
  | _ => none
@[simp] theorem tupA_at {s : SS} {a : PV} : tupA s [a] = tupO (coP a s) (avP a s) := Eq.trans rfl rfl
@[simp] theorem tupO_lst {xs : List AV} {x : Option AV} : tupO (.ob (.lst xs)) x = some (.tup xs) := Eq.trans rfl rfl
@[simp] theorem tupO_tup {xs : List AV} {x : Option AV} : tupO (.tup xs) x = x := Eq.trans rfl rfl
def lisO (c : Co) : Option AO := match c with
  | .ob (.lst xs) => some (.lst xs)
  | .tup xs => some (.lst xs)
  | _ => none
@[simp] theorem lisA_at {s : SS} {a : PV} : lisA s [a] = lisO (coP a s) := Eq.trans rfl rfl
@[simp] theorem lisO_lst {xs : List AV} : lisO (.ob (.lst xs)) = some (.lst xs) := Eq.trans rfl rfl
@[simp] theorem lisO_tup {xs : List AV} : lisO (.tup xs) = some (.lst xs) := Eq.trans rfl rfl
end LM
namespace LM
open PySem L2
/-! ## comprehensions -/
def compR (old : List (Option SV)) (vs : List Nat) (r : Res (List AV)) : Res AO := match r with
  | .ok acc s' => .ok (.lst acc) { s' with sl := putBack old s'.sl vs }
  | _ => .stuck
@[simp] theorem compR_ok {old : List (Option SV)} {vs : List Nat} {acc : List AV} {s : SS} : compR old vs (.ok acc s) = .ok (.lst acc) { s with sl := putBack old s.sl vs } := Eq.trans rfl rfl
@[simp] theorem compM_at {vs : List Nat} {it : M (List AV)} {g : AV → M Unit} {c : M Bool} {e : M AV} {s : SS} : compM vs it g c e s = @bnd _ _ (it s) ⟨fun xs s => if ownAt s.sl vs = true then .stuck else compR s.sl vs (compL vs g c e xs [] s)⟩ := by
  rfl
theorem wipeL_idem (l : List (Option SV)) (vs : List Nat) : wipeL (wipeL l vs) vs = wipeL l vs := by
  apply List.ext_getElem?
  intro j
  have len : ∀ (l : List (Option SV)) (ws : List Nat), (wipeL l ws).length = l.length := by
    intro l ws
    induction ws with
    | nil => rfl
    | cons w ws ih => show ((wipeL l ws).set w none).length = _; rw [List.length_set, ih]
  have at_ : ∀ (l : List (Option SV)) (ws : List Nat) (j : Nat), (wipeL l ws)[j]? = if j ∈ ws then (l[j]?).map (fun _ => none) else l[j]? := by
    intro l ws j
    induction ws with
    | nil => simp [wipeL]
    | cons w ws ih =>
      show ((wipeL l ws).set w none)[j]? = _
      by_cases h : w = j
      · subst h
        by_cases hi : w < l.length
        · rw [List.getElem?_set_self (by rw [len]; exact hi)]
          simp [hi]
        · rw [List.getElem?_eq_none (by simpa [len] using hi), List.getElem?_eq_none (by simpa using hi)]
          simp
      · rw [List.getElem?_set_ne h, ih]
        have : (j ∈ w :: ws) ↔ j ∈ ws := by simp; intro e; exact absurd e.symm h
        simp only [this]
  rw [at_, at_]
  by_cases h : j ∈ vs
  · simp only [h, if_true]
    cases l[j]? <;> rfl
  · simp only [h, if_false]
/-- a map (and a sieve) that leaves the state -/
theorem compL_pure {vs : List Nat} {g : AV → M Unit} {c : M Bool} {e : M AV} {sl : List (Option SV)} {hp : AH} {f : AV → Option AV} : ∀ {xs acc : List AV}, acc.length + xs.length ≤ 16777216 →
    (∀ x ∈ xs, ∃ u s1 k s2, g x ⟨wipeL sl vs, hp⟩ = .ok u s1 ∧ c s1 = .ok k s2 ∧ (match f x with
      | some a => k = true ∧ ∃ s3, e s2 = .ok a s3 ∧ wipeS vs s3 = ⟨wipeL sl vs, hp⟩
      | none => k = false ∧ wipeS vs s2 = ⟨wipeL sl vs, hp⟩)) →
    ∀ s, wipeS vs s = ⟨wipeL sl vs, hp⟩ → compL vs g c e xs acc s = .ok (acc ++ xs.filterMap f) ⟨wipeL sl vs, hp⟩
  | [], acc, _, _, s, hs => by rw [compL_nil, hs]; simp
  | x :: xs, acc, hl, h, s, hs => by
    obtain ⟨u, s1, k, s2, h1, h2, h3⟩ := h x List.mem_cons_self
    rw [List.length_cons] at hl
    cases z : f x with
    | some a =>
      rw [z] at h3
      obtain ⟨rfl, s3, h4, h5⟩ := h3
      rw [compL_yes (by rw [hs]; exact h1) h2 h4 (by omega), compL_pure (by simp; omega) (fun y hy => h y (List.mem_cons_of_mem _ hy)) s3 h5]
      simp [z]
    | none =>
      rw [z] at h3
      obtain ⟨rfl, h5⟩ := h3
      rw [compL_no (by rw [hs]; exact h1) h2, compL_pure (by omega) (fun y hy => h y (List.mem_cons_of_mem _ hy)) s2 h5]
      simp [z]
/-- items made one by one, the heap changing under an invariant -/
theorem compL_inv {vs : List Nat} {g : AV → M Unit} {c : M Bool} {e : M AV} {sl : List (Option SV)} (I : AH → Prop) (P : AV → AV → Prop) : ∀ {xs acc : List AV}, acc.length + xs.length ≤ 16777216 →
    (∀ x ∈ xs, ∀ hp, I hp → ∃ u s1 s2 a s3 hp', g x ⟨wipeL sl vs, hp⟩ = .ok u s1 ∧ c s1 = .ok true s2 ∧ e s2 = .ok a s3 ∧ wipeS vs s3 = ⟨wipeL sl vs, hp'⟩ ∧ I hp' ∧ P x a) →
    ∀ s hp, wipeS vs s = ⟨wipeL sl vs, hp⟩ → I hp → ∃ as hp', compL vs g c e xs acc s = .ok (acc ++ as) ⟨wipeL sl vs, hp'⟩ ∧ I hp' ∧ as.length = xs.length ∧ ∀ (i : Nat) (x a : AV), xs[i]? = some x → as[i]? = some a → P x a
  | [], acc, _, _, s, hp, hs, hI => ⟨[], hp, by rw [compL_nil, hs]; simp, hI, rfl, fun i x a h => by simp at h⟩
  | x :: xs, acc, hl, h, s, hp, hs, hI => by
    obtain ⟨u, s1, s2, a, s3, hp', h1, h2, h3, h4, h5, h6⟩ := h x List.mem_cons_self hp hI
    rw [List.length_cons] at hl
    obtain ⟨as, hp2, k1, k2, k3, k4⟩ := compL_inv I P (acc := acc ++ [a]) (xs := xs) (by simp; omega) (fun y hy => h y (List.mem_cons_of_mem _ hy)) s3 hp' h4 h5
    refine ⟨a :: as, hp2, ?_, k2, by simp [k3], fun i y b e1 e2 => ?_⟩
    · rw [compL_yes (by rw [hs]; exact h1) h2 h3 (by omega), k1]
      simp
    · cases i with
      | zero => simp at e1 e2; subst e1 e2; exact h6
      | succ i => simp at e1 e2; exact k4 i y b e1 e2
end LM
namespace LM
open PySem L2
@[simp] theorem str_inj' {a b : String} : (Str.ofString a = Str.ofString b) ↔ a = b := str_inj
@[simp] theorem str_beq {a b : String} : (Str.ofString a == Str.ofString b) = decide (a = b) := by
  rw [Bool.eq_iff_iff]
  simp
@[simp] theorem look_nil {β : Type} {a : Str} : ([] : List (Str × β)).lookup a = none := Eq.trans rfl rfl
@[simp] theorem look_cons {β : Type} {a k : Str} {v : β} {r : List (Str × β)} : ((k, v) :: r).lookup a = if a = k then some v else r.lookup a := by
  rw [List.lookup_cons]
  by_cases h : a = k
  · subst h; simp
  · have : (a == k) = false := by simpa using h
    rw [this, if_neg h]
@[simp] theorem findM_cons {a : Str} {t : ME} {r : List ME} : (t :: r).find? (fun t => decide (t.c = a)) = if t.c = a then some t else r.find? (fun t => decide (t.c = a)) := by
  rw [List.find?_cons]
  by_cases h : t.c = a
  · simp [h]
  · simp [h]
/-! ## making -/
def mkX (s : SS) (r : Option (AO × AH)) : Res AO := match r with
  | some (o, h) => .ok o { s with hp := h }
  | none => .stuck
@[simp] theorem mkX_some {s : SS} {o : AO} {h : AH} : mkX s (some (o, h)) = .ok o { s with hp := h } := Eq.trans rfl rfl
@[simp] theorem mkM_at {n : Nat} {mi : MI} {dv : List AV} {g : M (List AV)} {s : SS} : mkM n mi dv g s = @bnd _ _ (g s) ⟨fun as s => if (as ++ dv).length + 1 = n then mkX s (mi (as ++ dv) s.hp) else .stuck⟩ := Eq.trans rfl rfl
def iniS (x : Option (Option SV)) (h : AH) : Option (AO × AH) := match x with
  | some (some (.own o)) => some (o, h)
  | _ => none
@[simp] theorem iniS_own {o : AO} {h : AH} : iniS (some (some (.own o))) h = some (o, h) := Eq.trans rfl rfl
def iniR (r : Res Fl) : Option (AO × AH) := match r with
  | .ok .nx s => iniS s.sl[0]? s.hp
  | _ => none
@[simp] theorem iniR_nx {s : SS} : iniR (.ok .nx s) = iniS s.sl[0]? s.hp := Eq.trans rfl rfl
@[simp] theorem initM_at {n : Nat} {c : Str} {m : M Fl} {as : List AV} {hp : AH} : initM n c m as hp = iniR (m ⟨some (.own (.ins c [])) :: slots0 (n - 1) as, hp⟩) := by
  unfold initM
  cases m ⟨some (.own (.ins c [])) :: slots0 (n - 1) as, hp⟩ with
  | ok a s => cases a <;> rfl
  | exn c s => rfl
  | stuck => rfl
def stR (cs : List Str) (f : Str) (a : AV) (p : PV) (o : Option AO) (s : SS) : Res Fl := match o with
  | some (.ins c fs) => if decide (c ∈ cs) && decide (fs.length < 1000) then .ok .nx (wrP p (.ins c (putFA f a fs)) s) else .stuck
  | _ => .stuck
@[simp] theorem stR_ins {cs : List Str} {f c : Str} {a : AV} {p : PV} {fs : List (Str × AV)} {s : SS} : stR cs f a p (some (.ins c fs)) s = if decide (c ∈ cs) && decide (fs.length < 1000) then .ok .nx (wrP p (.ins c (putFA f a fs)) s) else .stuck := Eq.trans rfl rfl
@[simp] theorem stM_at {cs : List Str} {f : Str} {fo : M PV} {fe : M AV} {s : SS} : LM.stM cs f fo fe s = @bnd _ _ (fe s) ⟨fun a s => @bnd _ _ (fo s) ⟨fun p s => stR cs f a p (obP p s) s⟩⟩ := Eq.trans rfl rfl
@[simp] theorem putFA_nil {f : Str} {a : AV} : putFA f a [] = [(f, a)] := Eq.trans rfl rfl
@[simp] theorem putFA_cons {f g : Str} {a b : AV} {r : List (Str × AV)} : putFA f a ((g, b) :: r) = if g = f then (g, a) :: r else (g, b) :: putFA f a r := Eq.trans rfl rfl
end LM
namespace LM
open PySem L2
/-! ## truth, in, is -/
def truO (c : Co) (a : Option AV) : Option Bool := match c with
  | .ob (.lst xs) => some (!xs.isEmpty)
  | .tup xs => some (!xs.isEmpty)
  | .ob (.dic _ _) => none
  | .str x => if x.length ≤ 16777216 then some (x.length != 0) else none
  | _ => match a with
    | some .non => some false
    | some (.bl b) => some b
    | some (.int i) => some (i != 0)
    | _ => none
@[simp] theorem truP_at {p : PV} {s : SS} : truP p s = truO (coP p s) (avP p s) := by
  unfold truP truO
  cases coP p s with
  | ob o => cases o <;> rfl
  | tup xs => rfl
  | str x => rfl
  | no => rfl
@[simp] theorem truO_lst {xs : List AV} {a : Option AV} : truO (.ob (.lst xs)) a = some (!xs.isEmpty) := Eq.trans rfl rfl
@[simp] theorem truO_tup {xs : List AV} {a : Option AV} : truO (.tup xs) a = some (!xs.isEmpty) := Eq.trans rfl rfl
@[simp] theorem truO_str {x : Str} {a : Option AV} : truO (.str x) a = if x.length ≤ 16777216 then some (x.length != 0) else none := Eq.trans rfl rfl
@[simp] theorem truO_non : truO .no (some .non) = some false := Eq.trans rfl rfl
@[simp] theorem truO_bl {b : Bool} : truO .no (some (.bl b)) = some b := Eq.trans rfl rfl
@[simp] theorem truO_int {i : Int} : truO .no (some (.int i)) = some (i != 0) := Eq.trans rfl rfl
def inO (a : Option AV) (c : Co) : Option Bool := match a, c with
  | some k, .ob (.dic t kvs) => if (kk t k).isSome then some (dGet t kvs k).isSome else none
  | some x, .ob (.lst xs) => if okA 60 x && okA 60 (.vl xs) then some (inL x xs) else none
  | some x, .tup xs => if okA 60 x && okA 60 (.tup xs) then some (inL x xs) else none
  | some (.str i), .str j => some (!(Builtin.Str.occurrences j i 0 j.length 1).isEmpty)
  | _, _ => none
theorem inC_eq {neg : Bool} {a : Option AV} {c : Co} : (((match a, c with
    | some k, .ob (.dic t kvs) => if (kk t k).isSome then some (dGet t kvs k).isSome else none
    | some x, .ob (.lst xs) => if okA 60 x && okA 60 (.vl xs) then some (inL x xs) else none
    | some x, .tup xs => if okA 60 x && okA 60 (.tup xs) then some (inL x xs) else none
    | _, _ => none : Option Bool).map fun k => ng neg k).or ((match a, c with
    | some (.str i), .str j => some (!(Builtin.Str.occurrences j i 0 j.length 1).isEmpty)
    | _, _ => none : Option Bool).map fun k => ng neg k)) = (inO a c).map (ng neg) := by
  cases a with
  | none => rfl
  | some a =>
    cases c with
    | ob o =>
      cases o with
      | lst xs => cases a <;> simp only [inO] <;> split <;> rfl
      | dic t xs => cases a <;> simp only [inO] <;> split <;> rfl
      | ins c xs => cases a <;> rfl
    | tup xs => cases a <;> simp only [inO] <;> split <;> rfl
    | str x => cases a <;> rfl
    | no => cases a <;> rfl
theorem map_ngf {o : Option Bool} : o.map (ng false) = o := by cases o <;> rfl
theorem map_ngt {o : Option Bool} : o.map (ng true) = o.map (!·) := by cases o <;> rfl
@[simp] theorem inC_at {s : SS} {a b : PV} : inC s a b = inO (plP a s) (coP b s) := by
  rw [← map_ngf (o := inO _ _)]
  exact inC_eq
@[simp] theorem ninC_at {s : SS} {a b : PV} : ninC s a b = (inO (plP a s) (coP b s)).map (!·) := by
  rw [← map_ngt (o := inO _ _)]
  exact inC_eq
@[simp] theorem inO_dic {k : AV} {t : Bool} {kvs : List (AV × AV)} : inO (some k) (.ob (.dic t kvs)) = if (kk t k).isSome then some (dGet t kvs k).isSome else none := by cases k <;> rfl
@[simp] theorem inO_lst {x : AV} {xs : List AV} : inO (some x) (.ob (.lst xs)) = if okA 60 x && okA 60 (.vl xs) then some (inL x xs) else none := by cases x <;> rfl
@[simp] theorem inO_tup {x : AV} {xs : List AV} : inO (some x) (.tup xs) = if okA 60 x && okA 60 (.tup xs) then some (inL x xs) else none := by cases x <;> rfl
@[simp] theorem inO_str {x z : Str} : inO (some (.str x)) (.str z) = some (!(Builtin.Str.occurrences z x 0 z.length 1).isEmpty) := Eq.trans rfl rfl
def nonO (a : Option AV) (c : Co) : Option Bool := match a with
  | some a => some (nonV a)
  | none => match c with
    | .ob _ => some false
    | _ => none
@[simp] theorem nonP_at {p : PV} {s : SS} : nonP p s = nonO (avP p s) (coP p s) := Eq.trans rfl rfl
@[simp] theorem nonO_some {a : AV} {c : Co} : nonO (some a) c = some (nonV a) := Eq.trans rfl rfl
@[simp] theorem nonO_none {o : AO} : nonO none (.ob o) = some false := Eq.trans rfl rfl
@[simp] theorem nonV_non : nonV .non = true := Eq.trans rfl rfl
@[simp] theorem nonV_ref {i : Nat} : nonV (.ref i) = false := Eq.trans rfl rfl
@[simp] theorem nonV_int {i : Int} : nonV (.int i) = false := Eq.trans rfl rfl
@[simp] theorem nonV_str {i : Str} : nonV (.str i) = false := Eq.trans rfl rfl
@[simp] theorem nonV_bl {i : Bool} : nonV (.bl i) = false := Eq.trans rfl rfl
@[simp] theorem nonV_tup {i : List AV} : nonV (.tup i) = false := Eq.trans rfl rfl
@[simp] theorem nonV_vl {i : List AV} : nonV (.vl i) = false := Eq.trans rfl rfl
@[simp] theorem nonV_vd {t : Bool} {i : List (AV × AV)} : nonV (.vd t i) = false := Eq.trans rfl rfl
@[simp] theorem nonV_ob {c : Str} {i : List (Str × AV)} : nonV (.ob c i) = false := Eq.trans rfl rfl
def isNO (b : Option AV) (r : Option Bool) : Option Bool := match b with
  | some .non => r
  | _ => none
@[simp] theorem isNC_at {s : SS} {a b : PV} : isNC s a b = isNO (avP b s) (nonP a s) := by
  unfold isNC isNO
  cases avP b s with
  | none => rfl
  | some x => cases x <;> rfl
@[simp] theorem isNO_non {r : Option Bool} : isNO (some .non) r = r := Eq.trans rfl rfl
theorem any_congr_mem {α : Type} {f g : α → Bool} : ∀ {l : List α}, (∀ x ∈ l, f x = g x) → l.any f = l.any g
  | [], _ => rfl
  | x :: l, h => by
    rw [List.any_cons, List.any_cons, h x List.mem_cons_self, any_congr_mem fun y hy => h y (List.mem_cons_of_mem _ hy)]
theorem all_congr_mem {α : Type} {f g : α → Bool} : ∀ {l : List α}, (∀ x ∈ l, f x = g x) → l.all f = l.all g
  | [], _ => rfl
  | x :: l, h => by
    rw [List.all_cons, List.all_cons, h x List.mem_cons_self, all_congr_mem fun y hy => h y (List.mem_cons_of_mem _ hy)]
end LM
namespace LM
open PySem L2
theorem compL_map {τ : Type} {enc : τ → AV} {vs : List Nat} {g : AV → M Unit} {c : M Bool} {e : M AV} {sl : List (Option SV)} {hp : AH} (f : τ → AV) : ∀ {ts : List τ} {acc : List AV}, acc.length + ts.length ≤ 16777216 →
    (∀ t ∈ ts, ∃ u s1 s2 s3, g (enc t) ⟨wipeL sl vs, hp⟩ = .ok u s1 ∧ c s1 = .ok true s2 ∧ e s2 = .ok (f t) s3 ∧ wipeS vs s3 = ⟨wipeL sl vs, hp⟩) →
    ∀ s, wipeS vs s = ⟨wipeL sl vs, hp⟩ → compL vs g c e (ts.map enc) acc s = .ok (acc ++ ts.map f) ⟨wipeL sl vs, hp⟩
  | [], acc, _, _, s, hs => by rw [List.map_nil, compL_nil, hs]; simp
  | t :: ts, acc, hl, h, s, hs => by
    obtain ⟨u, s1, s2, s3, h1, h2, h3, h4⟩ := h t List.mem_cons_self
    rw [List.length_cons] at hl
    rw [List.map_cons, compL_yes (by rw [hs]; exact h1) h2 h3 (by omega), compL_map f (by simp; omega) (fun y hy => h y (List.mem_cons_of_mem _ hy)) s3 h4]
    simp
theorem compL_sieve {τ : Type} {enc : τ → AV} {vs : List Nat} {g : AV → M Unit} {c : M Bool} {e : M AV} {sl : List (Option SV)} {hp : AH} (k : τ → Bool) (f : τ → AV) : ∀ {ts : List τ} {acc : List AV}, acc.length + ts.length ≤ 16777216 →
    (∀ t ∈ ts, ∃ u s1 s2, g (enc t) ⟨wipeL sl vs, hp⟩ = .ok u s1 ∧ c s1 = .ok (k t) s2 ∧ (k t = false → wipeS vs s2 = ⟨wipeL sl vs, hp⟩) ∧ (k t = true → ∃ s3, e s2 = .ok (f t) s3 ∧ wipeS vs s3 = ⟨wipeL sl vs, hp⟩)) →
    ∀ s, wipeS vs s = ⟨wipeL sl vs, hp⟩ → compL vs g c e (ts.map enc) acc s = .ok (acc ++ (ts.filter k).map f) ⟨wipeL sl vs, hp⟩
  | [], acc, _, _, s, hs => by rw [List.map_nil, compL_nil, hs]; simp
  | t :: ts, acc, hl, h, s, hs => by
    obtain ⟨u, s1, s2, h1, h2, h3, h4⟩ := h t List.mem_cons_self
    rw [List.length_cons] at hl
    cases z : k t with
    | true =>
      obtain ⟨s3, h5, h6⟩ := h4 z
      rw [List.map_cons, compL_yes (by rw [hs]; exact h1) (by rw [h2, z]) h5 (by omega), compL_sieve k f (by simp; omega) (fun y hy => h y (List.mem_cons_of_mem _ hy)) s3 h6]
      simp [z]
    | false =>
      rw [List.map_cons, compL_no (by rw [hs]; exact h1) (by rw [h2, z]), compL_sieve k f (by omega) (fun y hy => h y (List.mem_cons_of_mem _ hy)) s2 (h3 z)]
      simp [z]
theorem compL_draw {τ : Type} {enc : τ → AV} {vs : List Nat} {g : AV → M Unit} {c : M Bool} {e : M AV} {sl : List (Option SV)} (I : AH → Prop) : ∀ {xs acc : List AV}, acc.length + xs.length ≤ 16777216 →
    (∀ x ∈ xs, ∀ hp, I hp → ∃ u s1 s2 t s3 hp', g x ⟨wipeL sl vs, hp⟩ = .ok u s1 ∧ c s1 = .ok true s2 ∧ e s2 = .ok (enc t) s3 ∧ wipeS vs s3 = ⟨wipeL sl vs, hp'⟩ ∧ I hp') →
    ∀ s hp, wipeS vs s = ⟨wipeL sl vs, hp⟩ → I hp → ∃ (ts : List τ) (hp' : AH), compL vs g c e xs acc s = .ok (acc ++ ts.map enc) ⟨wipeL sl vs, hp'⟩ ∧ I hp' ∧ ts.length = xs.length
  | [], acc, _, _, s, hp, hs, hI => ⟨[], hp, by rw [compL_nil, hs]; simp, hI, rfl⟩
  | x :: xs, acc, hl, h, s, hp, hs, hI => by
    obtain ⟨u, s1, s2, t, s3, hp', h1, h2, h3, h4, h5⟩ := h x List.mem_cons_self hp hI
    rw [List.length_cons] at hl
    obtain ⟨ts, hp2, k1, k2, k3⟩ := compL_draw (enc := enc) I (acc := acc ++ [enc t]) (xs := xs) (by simp; omega) (fun y hy => h y (List.mem_cons_of_mem _ hy)) s3 hp' h4 h5
    refine ⟨t :: ts, hp2, ?_, k2, by simp [k3]⟩
    rw [compL_yes (by rw [hs]; exact h1) h2 h3 (by omega), k1]
    simp
/-- targets of two -/
def tupR (n : Nat) (gs : List (AV → M Unit)) (c : Co) (s : SS) : Res Unit := match c with
  | .tup xs => if xs.length = n then unpM gs xs s else .stuck
  | _ => .stuck
@[simp] theorem tupG_at {n : Nat} {gs : List (AV → M Unit)} {a : AV} {s : SS} : tupG n gs a s = tupR n gs (coA s.hp a) s := Eq.trans rfl rfl
@[simp] theorem tupR_tup {n : Nat} {gs : List (AV → M Unit)} {xs : List AV} {s : SS} : tupR n gs (.tup xs) s = if xs.length = n then unpM gs xs s else .stuck := Eq.trans rfl rfl
@[simp] theorem unpM_nil {s : SS} : unpM [] [] s = .ok () s := Eq.trans rfl rfl
@[simp] theorem unpM_cons {g : AV → M Unit} {gs : List (AV → M Unit)} {x : AV} {xs : List AV} {s : SS} : unpM (g :: gs) (x :: xs) s = @bnd _ _ (g x s) ⟨fun _ => unpM gs xs⟩ := Eq.trans rfl rfl
def appR (p : PV) (a : AV) (o : Option AO) (s : SS) : Res AV := match o with
  | some (.lst xs) => if xs.length < 16777216 then .ok .non (wrP p (.lst (xs ++ [a])) s) else .stuck
  | _ => .stuck
@[simp] theorem appR_lst {p : PV} {a : AV} {xs : List AV} {s : SS} : appR p a (some (.lst xs)) s = if xs.length < 16777216 then .ok .non (wrP p (.lst (xs ++ [a])) s) else .stuck := Eq.trans rfl rfl
@[simp] theorem appM_at {f : M PV} {g : M AV} {s : SS} : appM f g s = @bnd _ _ (f s) ⟨fun p s => @bnd _ _ (g s) ⟨fun a s => appR p a (obP p s) s⟩⟩ := Eq.trans rfl rfl
def isLR (c : Co) (p : PV) (s : SS) : Res PV := match c with
  | .ob (.lst _) => .ok p s
  | _ => .stuck
@[simp] theorem isLR_lst {xs : List AV} {p : PV} {s : SS} : isLR (.ob (.lst xs)) p s = .ok p s := Eq.trans rfl rfl
@[simp] theorem isLst_at {f : M PV} {s : SS} : isLst f s = @bnd _ _ (f s) ⟨fun p s => isLR (coP p s) p s⟩ := Eq.trans rfl rfl
@[simp] theorem prM_at {f g : M AV} {r : M (List (AV × AV))} {s : SS} : prM f g r s = @bnd _ _ (f s) ⟨fun a s => @bnd _ _ (g s) ⟨fun b s => @bnd _ _ (r s) ⟨fun ps s => .ok ((a, b) :: ps) s⟩⟩⟩ := Eq.trans rfl rfl
@[simp] theorem disM_at {f : M (List (AV × AV))} {s : SS} : disM f s = @bnd _ _ (f s) ⟨fun ps s => if (ps.all (fun p => (kOf p.1).isSome) && decide (ps.length ≤ 15)) = true then .ok (.dic false (dMrg [] ps)) s else .stuck⟩ := Eq.trans rfl rfl
@[simp] theorem kOf_int {i : Int} : kOf (.int i) = some (.inl i) := Eq.trans rfl rfl
@[simp] theorem kOf_str {i : Str} : kOf (.str i) = some (.inr i) := Eq.trans rfl rfl
@[simp] theorem kk_f {a : AV} : kk false a = (kOf a).map .inl := Eq.trans rfl rfl
@[simp] theorem kk_t {a : AV} : kk true a = (tkOf a).map .inr := Eq.trans rfl rfl
end LM
namespace LM
open PySem L2
@[simp] theorem eqX_at {s : SS} {a b : PV} : eqX s a b = (eqO (plP a s) (plP b s)).or (lenEq (plP a s) (plP b s)) := Eq.trans rfl rfl
@[simp] theorem lenEq_vl {xs ys : List AV} : lenEq (some (.vl xs)) (some (.vl ys)) = if xs.length ≠ ys.length then some false else if xs.length = 0 then some true else none := Eq.trans rfl rfl
end LM

/-! # what every law starts with: dice -/
namespace LM
open PySem L2
def b__law_dice : M Fl := (seqM
 (ifM (chainM ltC ltC (pkE (op2 subA (cM (.int 0)) (cM (.int 10)))) (pkV 0) (pkE (cM (.int 10)))) (retM (laM (lstM (consM (cbM absA (consM (pkV 0) nilM)) (consM (cM (.int 0)) (consM (cM (.int 2)) nilM)))))) nxM)
 (retM (laM (lstM (consM (vM 0) (consM (op2 addX (cM (.int 1)) (op2 modA (cbM intA (consM (pkV 0) nilM)) (cM (.int 1009)))) (consM (cbM intA (consM (pkE (bvM (cmpM geC (pkV 0) (pkE (op2 powA (cM (.int 10)) (cM (.int 18))))))) nilM)) nilM)))))))
def m__law_dice : MF := fnM 1 b__law_dice
def b__law_rounds : M Fl := (seqM
 (asgM (setV 2) (slM (pkV 0) noPartM (partM (vM 1))))
 (seqM
 (ifM (cmpM eqX (pkV 2) (pkE (frM (lstM nilM)))) (asgM (setV 2) (frM (lstM (consM (cM (.int 0)) nilM)))) nxM)
 (retM (frM (compM [3] (itM (vM 2)) (setV 3) yesM (callM 1 m__law_dice [] (consM (vM 3) nilM)))))))
def m__law_rounds : MF := fnM 4 b__law_rounds
def b__law_roll : M Fl := (seqM
 (ifM (orM (cmpM eqX (pkE (ixM (pkV 0) (pkE (cM (.int 2))))) (pkE (cM (.int 2)))) (andM (cmpM eqX (pkE (ixM (pkV 0) (pkE (cM (.int 2))))) (pkE (cM (.int 1)))) (cmpM gtC (pkE (ixM (pkV 0) (pkE (cM (.int 0))))) (pkE (cM (.int 0)))))) (seqM
 (asgM (setV 2) (op2 modA (cbM intA (consM (pkE (ixM (pkV 0) (pkE (cM (.int 0))))) nilM)) (vM 1)))
 (seqM
 (asgM (putG (pkV 0) (pkE (cM (.int 0)))) (op2 fdivA (ixM (pkV 0) (pkE (cM (.int 0)))) (vM 1)))
 (retM (vM 2)))) nxM)
 (seqM
 (asgM (putG (pkV 0) (pkE (cM (.int 2)))) (cM (.int 0)))
 (seqM
 (asgM (putG (pkV 0) (pkE (cM (.int 0)))) (op2 modA (cbM intA (consM (pkE (op2 addX (op2 addX (op2 mulA (ixM (pkV 0) (pkE (cM (.int 0)))) (cM (.int 48271))) (op2 mulA (ixM (pkV 0) (pkE (cM (.int 1)))) (cM (.int 69621)))) (cM (.int 11)))) nilM)) (cM (.int 2147483647))))
 (seqM
 (asgM (putG (pkV 0) (pkE (cM (.int 1)))) (op2 addX (ixM (pkV 0) (pkE (cM (.int 1)))) (cM (.int 1))))
 (retM (op2 modA (cbM intA (consM (pkE (op2 addX (op2 fdivA (ixM (pkV 0) (pkE (cM (.int 0)))) (cM (.int 7))) (ixM (pkV 0) (pkE (cM (.int 0)))))) nilM)) (vM 1)))))))
def m__law_roll : MF := fnM 3 b__law_roll
def isD (o : AO) : Prop := ∃ a b c : Int, o = .lst [.int a, .int b, .int c]
theorem roll_ok {d : AO} (hd : isD d) (t : AH) (n : Int) (hn : 0 < n) (hn2 : n < 1073741824) : ∃ v d', 0 ≤ v ∧ v < n ∧ isD d' ∧ m__law_roll [.ref 0, .int n] (d :: t) = .ok (.int v) (d' :: t) := by
  obtain ⟨a, b, c, rfl⟩ := hd
  have e1 : (0 : Int) ≤ a % n := Int.emod_nonneg _ (by omega)
  have e2 : a % n < n := Int.emod_lt_of_pos _ hn
  by_cases h1 : c = 2 ∨ (c = 1 ∧ 0 < a)
  · refine ⟨a % n, .lst [.int (a / n), .int b, .int c], e1, e2, ⟨_, _, _, rfl⟩, ?_⟩
    rcases h1 with rfl | ⟨rfl, h2⟩
    · simp [m__law_roll, b__law_roll, slots0, atI, ixN, hn, hn2]
    · simp [m__law_roll, b__law_roll, slots0, atI, ixN, hn, hn2, h2]
  · refine ⟨((a * 48271 + b * 69621 + 11) % 2147483647 / 7 + (a * 48271 + b * 69621 + 11) % 2147483647) % n, .lst [.int ((a * 48271 + b * 69621 + 11) % 2147483647), .int (b + 1), .int 0], Int.emod_nonneg _ (by omega), Int.emod_lt_of_pos _ hn, ⟨_, _, _, rfl⟩, ?_⟩
    have h2 : ¬ c = 2 := fun z => h1 (.inl z)
    by_cases h3 : c = 1
    · have h4 : ¬ 0 < a := fun z => h1 (.inr ⟨h3, z⟩)
      subst h3
      simp [m__law_roll, b__law_roll, slots0, atI, ixN, hn, hn2, h2, h4]
    · simp [m__law_roll, b__law_roll, slots0, atI, ixN, hn, hn2, h2, h3]
theorem dice_ok (i : Int) (t : AH) : ∃ d, isD d ∧ m__law_dice [.int i] t = .ok (.ref t.length) (t ++ [d]) := by
  by_cases h1 : -10 < i ∧ i < 10
  · obtain ⟨h2, h3⟩ := h1
    exact ⟨.lst [.int (if i < 0 then -i else i), .int 0, .int 2], ⟨_, _, _, rfl⟩, by simp [m__law_dice, b__law_dice, slots0, h2, h3]⟩
  · refine ⟨.lst [.int i, .int (1 + i % 1009), .int (if decide (10 ^ 18 ≤ i) then 1 else 0)], ⟨_, _, _, rfl⟩, ?_⟩
    by_cases h2 : -10 < i
    · have h3 : ¬ i < 10 := fun z => h1 ⟨h2, z⟩
      simp [m__law_dice, b__law_dice, slots0, h2, h3]
    · simp [m__law_dice, b__law_dice, slots0, h2]
theorem rounds_ok (ns : List Int) : ∃ d, isD d ∧ m__law_rounds [.cl (ns.map AV.int), .int 1] [] = .ok (.vl [.ref 0]) [d] := by
  have go : ∀ (i : Int) (d : AO) (sl : List (Option SV)), m__law_dice [.int i] [] = .ok (.ref 0) [d] → compL [3] (setV 3) yesM (callM 1 m__law_dice [] (consM (vM 3) nilM)) [.int i] [] ⟨[sl.getD 0 none, sl.getD 1 none, sl.getD 2 none, none], []⟩ = .ok [.ref 0] ⟨[sl.getD 0 none, sl.getD 1 none, sl.getD 2 none, none], [d]⟩ := by
    intro i d sl h
    rw [compL_yes (setV_at) (yesM_at) (by simp [wipeS, wipeL, h]; exact ⟨rfl, rfl⟩) (by decide), compL_nil]
    rfl
  cases ns with
  | nil =>
    obtain ⟨d, h1, h2⟩ := dice_ok 0 []
    refine ⟨d, h1, ?_⟩
    have := go 0 d [some (.val (.cl [])), some (.val (.int 1)), some (.val (.vl [.int 0]))] h2
    simp [m__law_rounds, b__law_rounds, slots0, cutG, HT.sIx, ownAt]
    simp at this
    rw [this]
    simp [putBack]
  | cons n ns =>
    obtain ⟨d, h1, h2⟩ := dice_ok n []
    refine ⟨d, h1, ?_⟩
    have := go n d [some (.val (.cl ((n :: ns).map AV.int))), some (.val (.int 1)), some (.val (.vl [.int n]))] h2
    simp [m__law_rounds, b__law_rounds, slots0, cutG, HT.sIx, ownAt]
    simp at this
    rw [this]
    simp [putBack]
end LM
namespace LM
open PySem L2
/-- a law's turn: it goes through, or says True -/
def DoneOk (r : Res Fl) : Prop := match r with
  | .ok .nx _ => True
  | .ok (.rt (.bl true)) _ => True
  | _ => False
theorem done_nx {s : SS} : DoneOk (.ok .nx s) = True := rfl
theorem done_rt {s : SS} : DoneOk (.ok (.rt (.bl true)) s) = True := rfl
theorem law_run {k : Nat} {b body : M Fl} (hb : b = seqM (LM.forM (itM (callM 2 m__law_rounds [] (consM (vM 0) (consM (cM (.int 1)) nilM)))) (setV 1) body) (retM (cM (.bl true)))) (ns : List Int)
    (h : ∀ d, isD d → DoneOk (body ⟨some (.val (.cl (ns.map AV.int))) :: some (.val (.ref 0)) :: List.replicate k none, [d]⟩)) : ∃ hp, fnM (k + 2) b [.cl (ns.map AV.int)] [] = .ok (.bl true) hp := by
  obtain ⟨d, hd, e0⟩ := rounds_ok ns
  have h := h d hd
  subst hb
  have e1 : slots0 (k + 2) [.cl (ns.map AV.int)] = some (.val (.cl (ns.map AV.int))) :: none :: List.replicate k none := by
    unfold slots0
    simp [List.replicate_succ]
  rw [fnM_at, e1, seqM_at]
  have e2 : (LM.forM (itM (callM 2 m__law_rounds [] (consM (vM 0) (consM (cM (.int 1)) nilM)))) (setV 1) body) ⟨some (.val (.cl (ns.map AV.int))) :: none :: List.replicate k none, []⟩ = turnR (body ⟨some (.val (.cl (ns.map AV.int))) :: some (.val (.ref 0)) :: List.replicate k none, [d]⟩) (forL (setV 1) body []) := by
    simp only [forM_at, itM_at, callM_at, consM_at, vM_at, cM_at, nilM_at, List.getElem?_cons_zero, slR_val, bindR_ok]
    simp [e0, forL_setV]
  rw [e2]
  revert h
  cases body ⟨some (.val (.cl (ns.map AV.int))) :: some (.val (.ref 0)) :: List.replicate k none, [d]⟩ with
  | exn c s => intro h; exact h.elim
  | stuck => intro h; exact h.elim
  | ok a s =>
    cases a with
    | nx => intro _; exact ⟨s.hp, rfl⟩
    | bk => intro h; exact h.elim
    | ct => intro h; exact h.elim
    | rt v =>
      cases v with
      | bl b =>
        cases b with
        | true => intro _; exact ⟨s.hp, rfl⟩
        | false => intro h; exact h.elim
      | _ => intro h; exact h.elim
end LM

namespace My
open PySem PySem.Spec PyProof.Rows L2 LM
def b__law_drawn : M Fl := (retM (frM (compM [1] (rng1 (consM (callM 2 m__law_roll [] (consM (vM 0) (consM (cM (.int 5)) nilM))) nilM)) (setV 1) yesM (ifM (cmpM gtC (pkE (callM 2 m__law_roll [] (consM (vM 0) (consM (cM (.int 3)) nilM)))) (pkE (cM (.int 0)))) (tupM (consM (cM (.str "var")) (consM (ixM (pkE (cM (.str "XYZ"))) (pkE (callM 2 m__law_roll [] (consM (vM 0) (consM (cM (.int 3)) nilM))))) nilM))) (tupM (consM (cM (.str "val")) (consM (ixM (pkE (frM (lstM (consM (cM (.int 0)) (consM (cM (.int 1)) (consM (cM (.str "a")) nilM)))))) (pkE (callM 2 m__law_roll [] (consM (vM 0) (consM (cM (.int 3)) nilM))))) nilM)))))))
def m__law_drawn : MF := fnM 2 b__law_drawn
def b_Term_init : M Fl := (seqM
 (stM ["Term"] "name" (pkV 0) (vM 1))
 (stM ["Term"] "value" (pkV 0) (vM 2)))
def m_Term_init : MI := initM 3 "Term" b_Term_init
def b_var : M Fl := (retM (frM (mkM 3 m_Term_init [.non] (consM (vM 0) nilM))))
def m_var : MF := fnM 1 b_var
def b_val : M Fl := (retM (frM (mkM 3 m_Term_init [] (consM (cM (.str "")) (consM (vM 0) nilM)))))
def m_val : MF := fnM 1 b_val
def b__law_make : M Fl := (retM (ifM (cmpM eqX (pkE (ixM (pkV 0) (pkE (cM (.int 0))))) (pkE (cM (.str "var")))) (callM 1 m_var [] (consM (ixM (pkV 0) (pkE (cM (.int 1)))) nilM)) (callM 1 m_val [] (consM (ixM (pkV 0) (pkE (cM (.int 1)))) nilM))))
def m__law_make : MF := fnM 1 b__law_make
def b__law_fits : M Fl := (seqM
 (asgO 2 (lstM nilM))
 (seqM
 (forM (rng1 (consM (cM (.int 27)) nilM)) (setV 3) (seqM
 (asgM (setV 4) (frM (disM (prM (cM (.str "X")) (ixM (pkE (frM (lstM (consM (cM (.int 0)) (consM (cM (.int 1)) (consM (cM (.str "a")) nilM)))))) (pkE (op2 modA (vM 3) (cM (.int 3))))) (prM (cM (.str "Y")) (ixM (pkE (frM (lstM (consM (cM (.int 0)) (consM (cM (.int 1)) (consM (cM (.str "a")) nilM)))))) (pkE (op2 modA (op2 fdivA (vM 3) (cM (.int 3))) (cM (.int 3))))) (prM (cM (.str "Z")) (ixM (pkE (frM (lstM (consM (cM (.int 0)) (consM (cM (.int 1)) (consM (cM (.str "a")) nilM)))))) (pkE (op2 fdivA (vM 3) (cM (.int 9))))) nilM))))))
 (seqM
 (asgM (setV 5) (frM (compM [7, 8] (itM (vM 0)) (tupG 2 [(setV 7), (setV 8)]) yesM (ifM (cmpM eqX (pkV 7) (pkE (cM (.str "var")))) (ixM (pkV 4) (pkV 8)) (vM 8)))))
 (seqM
 (asgM (setV 6) (frM (compM [7, 8] (itM (vM 1)) (tupG 2 [(setV 7), (setV 8)]) yesM (ifM (cmpM eqX (pkV 7) (pkE (cM (.str "var")))) (ixM (pkV 4) (pkV 8)) (vM 8)))))
 (ifM (cmpM eqX (pkV 5) (pkV 6)) (expM (appM (isLst (pkV 2)) (vM 4))) nxM)))))
 (retM (vM 2))))
def m__law_fits : MF := fnM 9 b__law_fits
def b_Term_is_variable : M Fl := (retM (bvM (cmpM neC (pkE (fldM ["Term"] "name" (pkV 0))) (pkE (cM (.str ""))))))
def m_Term_is_variable : MF := fnM 1 b_Term_is_variable
def b_led_to : M Fl := (seqM
 (asgM (setV 2) (cM (.int 0)))
 (seqM
 (whileM (andM (truM (pkE (methM "is_variable" [⟨"Term", 1, m_Term_is_variable, []⟩] (vM 0) nilM))) (andM (cmpM inC (pkE (fldM ["Term"] "name" (pkV 0))) (pkV 1)) (cmpM leC (pkV 2) (pkE (cbM lenA (consM (pkV 1) nilM)))))) (seqM
 (asgM (setV 0) (ixM (pkV 1) (pkE (fldM ["Term"] "name" (pkV 0)))))
 (augM 2 (fun a b => (addI a b).or (addS a b)) (cM (.int 1)))) 1000000)
 (retM (vM 0))))
def m_led_to : MF := fnM 3 b_led_to
def b_Term_shown : M Fl := (retM (ifM (cmpM neC (pkE (fldM ["Term"] "name" (pkV 0))) (pkE (cM (.str "")))) (tupM (consM (cM (.str "var")) (consM (fldM ["Term"] "name" (pkV 0)) nilM))) (tupM (consM (cM (.str "val")) (consM (fldM ["Term"] "value" (pkV 0)) nilM)))))
def m_Term_shown : MF := fnM 1 b_Term_shown
def b_made_alike : M Fl := (seqM
 (ifM (cmpM neC (pkE (cbM lenA (consM (pkV 0) nilM))) (pkE (cbM lenA (consM (pkV 1) nilM)))) (retM (cM .non)) nxM)
 (seqM
 (asgM (setV 2) (laM (dicM false)))
 (seqM
 (forM (rng1 (consM (cbM lenA (consM (pkV 0) nilM)) nilM)) (setV 3) (seqM
 (parM 4 5 (consM (callM 2 m_led_to [] (consM (ixM (pkV 0) (pkV 3)) (consM (vM 2) nilM))) (consM (callM 2 m_led_to [] (consM (ixM (pkV 1) (pkV 3)) (consM (vM 2) nilM))) nilM)))
 (ifM (truM (pkE (methM "is_variable" [⟨"Term", 1, m_Term_is_variable, []⟩] (vM 4) nilM))) (ifM (cmpM neC (pkE (methM "shown" [⟨"Term", 1, m_Term_shown, []⟩] (vM 4) nilM)) (pkE (methM "shown" [⟨"Term", 1, m_Term_shown, []⟩] (vM 5) nilM))) (asgM (putG (pkV 2) (pkE (fldM ["Term"] "name" (pkV 4)))) (vM 5)) nxM) (ifM (truM (pkE (methM "is_variable" [⟨"Term", 1, m_Term_is_variable, []⟩] (vM 5) nilM))) (asgM (putG (pkV 2) (pkE (fldM ["Term"] "name" (pkV 5)))) (vM 4)) (ifM (cmpM neC (pkE (methM "shown" [⟨"Term", 1, m_Term_shown, []⟩] (vM 4) nilM)) (pkE (methM "shown" [⟨"Term", 1, m_Term_shown, []⟩] (vM 5) nilM))) (retM (cM .non)) nxM)))))
 (retM (vM 2)))))
def m_made_alike : MF := fnM 6 b_made_alike
def b_shown_all : M Fl := (retM (cbM tupA (consM (pkE (frM (compM [1] (itM (vM 0)) (setV 1) yesM (methM "shown" [⟨"Term", 1, m_Term_shown, []⟩] (vM 1) nilM)))) nilM)))
def m_shown_all : MF := fnM 2 b_shown_all
def b_put_in : M Fl := (retM (cbM tupA (consM (pkE (frM (compM [2] (itM (vM 0)) (setV 2) yesM (callM 2 m_led_to [] (consM (vM 2) (consM (vM 1) nilM)))))) nilM)))
def m_put_in : MF := fnM 3 b_put_in
def b_law : M Fl := (seqM
 (forM (itM (callM 2 m__law_rounds [] (consM (vM 0) (consM (cM (.int 1)) nilM)))) (setV 1) (seqM
 (parM 2 3 (consM (callM 1 m__law_drawn [] (consM (vM 1) nilM)) (consM (callM 1 m__law_drawn [] (consM (vM 1) nilM)) nilM)))
 (seqM
 (ifM (cmpM eqX (pkE (callM 2 m__law_roll [] (consM (vM 1) (consM (cM (.int 2)) nilM)))) (pkE (cM (.int 0)))) (asgM (setV 3) (slM (pkE (op2 addX (vM 3) (frM (op2N repL (frM (lstM (consM (tupM (consM (cM (.str "var")) (consM (cM (.str "X")) nilM))) nilM))) (cM (.int 4)))))) noPartM (partM (cbM lenA (consM (pkV 2) nilM))))) nxM)
 (seqM
 (parM 4 5 (consM (frM (compM [16] (itM (vM 2)) (setV 16) yesM (callM 1 m__law_make [] (consM (vM 16) nilM)))) (consM (frM (compM [16] (itM (vM 3)) (setV 16) yesM (callM 1 m__law_make [] (consM (vM 16) nilM)))) nilM)))
 (seqM
 (asgM (tupG 2 [(setV 6), (setV 7)]) (tupM (consM (callM 2 m_made_alike [] (consM (vM 4) (consM (vM 5) nilM))) (consM (callM 2 m__law_fits [] (consM (vM 2) (consM (vM 3) nilM))) nilM))))
 (seqM
 (ifM (cmpM neC (pkE (bvM (cmpM isNC (pkV 6) (pkE (cM .non))))) (pkE (bvM (cmpM eqX (pkV 7) (pkE (frM (lstM nilM))))))) (retM (cM (.bl false))) nxM)
 (seqM
 (ifM (cmpM isNC (pkV 6) (pkE (cM .non))) (retM (cM (.bl true))) nxM)
 (seqM
 (ifM (cmpM neC (pkE (callM 1 m_shown_all [] (consM (callM 2 m_put_in [] (consM (vM 4) (consM (vM 6) nilM))) nilM))) (pkE (callM 1 m_shown_all [] (consM (callM 2 m_put_in [] (consM (vM 5) (consM (vM 6) nilM))) nilM)))) (retM (cM (.bl false))) nxM)
 (seqM
 (forM (itM (vM 7)) (setV 8) (forM (itM (frM (lstM (consM (cM (.str "X")) (consM (cM (.str "Y")) (consM (cM (.str "Z")) nilM)))))) (setV 9) (seqM
 (asgM (tupG 2 [(setV 10), (setV 11)]) (methM "shown" [⟨"Term", 1, m_Term_shown, []⟩] (callM 2 m_led_to [] (consM (callM 1 m_var [] (consM (vM 9) nilM)) (consM (vM 6) nilM))) nilM))
 (ifM (cmpM neC (pkE (ifM (cmpM eqX (pkV 10) (pkE (cM (.str "var")))) (ixM (pkV 8) (pkV 11)) (vM 11))) (pkE (ixM (pkV 8) (pkV 9)))) (retM (cM (.bl false))) nxM))))
 (seqM
 (asgM (setV 12) (frM (compM [9] (itM (frM (lstM (consM (cM (.str "X")) (consM (cM (.str "Y")) (consM (cM (.str "Z")) nilM)))))) (setV 9) yesM (methM "shown" [⟨"Term", 1, m_Term_shown, []⟩] (callM 2 m_led_to [] (consM (callM 1 m_var [] (consM (vM 9) nilM)) (consM (vM 6) nilM))) nilM))))
 (seqM
 (asgM (setV 13) (frM (compM [14, 15] (enM (consM (vM 12) nilM)) (tupG 2 [(setV 14), (setV 15)]) (andM (cmpM eqX (pkE (ixM (pkV 15) (pkE (cM (.int 0))))) (pkE (cM (.str "var")))) (cmpM ninC (pkV 15) (pkE (slM (pkV 12) noPartM (partM (vM 14)))))) (vM 15))))
 (ifM (cmpM neC (pkE (ixM (pkE (frM (lstM (consM (cM (.int 1)) (consM (cM (.int 3)) (consM (cM (.int 9)) (consM (cM (.int 27)) nilM))))))) (pkE (cbM lenA (consM (pkV 13) nilM))))) (pkE (cbM lenA (consM (pkV 7) nilM)))) (retM (cM (.bl false))) nxM))))))))))))
 (retM (cM (.bl true))))
def m_law : MF := fnM 17 b_law

def top (i : Nat) : Stmt := PySem.Challenge.pw_deducehall_k02_terms_made_alike.main.body.getD i (.Pass ⟨0, 0, 0, 0⟩)
abbrev d__law_dice : He.DefD := ⟨("_law_dice", none), "_law_dice", "_law_dice", defArgs (top 10), defBody (top 10), defScope (top 10), [], []⟩
abbrev d__law_rounds : He.DefD := ⟨("_law_rounds", none), "_law_rounds", "_law_rounds", defArgs (top 12), defBody (top 12), defScope (top 12), [], []⟩
abbrev d__law_roll : He.DefD := ⟨("_law_roll", none), "_law_roll", "_law_roll", defArgs (top 11), defBody (top 11), defScope (top 11), [], []⟩
abbrev d__law_drawn : He.DefD := ⟨("_law_drawn", none), "_law_drawn", "_law_drawn", defArgs (top 14), defBody (top 14), defScope (top 14), [], []⟩
abbrev d_Term_init : He.DefD := ⟨("Term", some "__init__"), "__init__", "Term.__init__", defArgs (inClass (top 2) 0), defBody (inClass (top 2) 0), defScope (inClass (top 2) 0), [.non], []⟩
abbrev d_var : He.DefD := ⟨("var", none), "var", "var", defArgs (top 3), defBody (top 3), defScope (top 3), [], []⟩
abbrev d_val : He.DefD := ⟨("val", none), "val", "val", defArgs (top 4), defBody (top 4), defScope (top 4), [], []⟩
abbrev d__law_make : He.DefD := ⟨("_law_make", none), "_law_make", "_law_make", defArgs (top 13), defBody (top 13), defScope (top 13), [], []⟩
abbrev d__law_fits : He.DefD := ⟨("_law_fits", none), "_law_fits", "_law_fits", defArgs (top 15), defBody (top 15), defScope (top 15), [], []⟩
abbrev d_Term_is_variable : He.DefD := ⟨("Term", some "is_variable"), "is_variable", "Term.is_variable", defArgs (inClass (top 2) 1), defBody (inClass (top 2) 1), defScope (inClass (top 2) 1), [], []⟩
abbrev d_led_to : He.DefD := ⟨("led_to", none), "led_to", "led_to", defArgs (top 5), defBody (top 5), defScope (top 5), [], []⟩
abbrev d_Term_shown : He.DefD := ⟨("Term", some "shown"), "shown", "Term.shown", defArgs (inClass (top 2) 2), defBody (inClass (top 2) 2), defScope (inClass (top 2) 2), [], []⟩
abbrev d_made_alike : He.DefD := ⟨("made_alike", none), "made_alike", "made_alike", defArgs (top 6), defBody (top 6), defScope (top 6), [], []⟩
abbrev d_shown_all : He.DefD := ⟨("shown_all", none), "shown_all", "shown_all", defArgs (top 8), defBody (top 8), defScope (top 8), [], []⟩
abbrev d_put_in : He.DefD := ⟨("put_in", none), "put_in", "put_in", defArgs (top 7), defBody (top 7), defScope (top 7), [], []⟩
abbrev d_law : He.DefD := ⟨("law", none), "law", "law", defArgs (top 16), defBody (top 16), defScope (top 16), [], []⟩
def fn : List He.DefD := ([d__law_dice, d__law_rounds, d__law_roll, d__law_drawn, d_Term_init, d_var, d_val, d__law_make, d__law_fits, d_Term_is_variable, d_led_to, d_Term_shown, d_made_alike, d_shown_all, d_put_in, d_law] : List He.DefD)
def fa : List He.Fa := ([.free "abs", .free "int", .glo "_law_dice", .glo "_law_rounds", .glo "_law_roll", .free "range", .glo "_law_drawn", .free "len", .cls "Term", .noat "Term" "name", .noat "Term" "value", .glo "Term", .glo "var", .glo "val", .glo "_law_make", .glo "_law_fits"] : List He.Fa) ++ ([.meth "Term" "is_variable", .glo "led_to", .meth "Term" "shown", .glo "made_alike", .free "tuple", .glo "put_in", .glo "shown_all", .free "enumerate", .mkr "Term", .glo "law"] : List He.Fa)

section
variable {P : Program} {w : World} {K : PySem.W.Frag} {mg : Str → Option Value} {base : Heap}
theorem sc__law_dice : FnScope ["_law_cell"] ["_law_cell"] (defScope (top 10)) := ⟨rfl, rfl, rfl, by decide +kernel, rfl, by decide +kernel, by decide +kernel⟩
theorem w__law_dice (e : Fc fa fn K mg) {fd : FuncData} (F : FunD K d__law_dice.name d__law_dice.qual d__law_dice.params d__law_dice.body d__law_dice.scope (d__law_dice.dvs K) (d__law_dice.kws K) (He.fAd K d__law_dice.at_) fd) : FnM P w K mg base 1 (He.fAd K d__law_dice.at_) fd ["_law_cell"] m__law_dice := fn_ok F sc__law_dice fun cdv A outer s H E hr =>
   (pssm_cons
 (psm_if (pt_chn ck_lt ck_lt (pp_e (pm_sub pm_int pm_int)) (pp_v 0) (pp_e pm_int)) (pssm_one (psm_ret (pm_la (pn_lst (pam_cons (pm_abs (e.free 0 rfl) (pp_v 0)) (pam_cons pm_int (pam_cons pm_int pam_nil))))))) pssm_nil)
 (pssm_one (psm_ret (pm_la (pn_lst (pam_cons (pm_v 0) (pam_cons (pm_addX pm_int (pm_mod (pm_int1 (e.free 1 rfl) (pp_v 0)) pm_int)) (pam_cons (pm_int1 (e.free 1 rfl) (pp_e (pm_ge (pp_v 0) (pp_e (pm_pow pm_int pm_int))))) pam_nil))))))))
theorem ok__law_dice_0 (e : Fc fa fn K mg) : CallOk P w K mg base 1 ("_law_dice", none) 1 m__law_dice [] := by
  obtain ⟨fd, F⟩ := e.c.def_ 0 (d := d__law_dice) rfl
  have h := w__law_dice (P := P) (w := w) (base := base) e F
  exact CallOk.of F h (F.bindsN fun _ _ _ _ _ _ us hl => match us, hl with | [_], _ => rfl)
theorem sc__law_rounds : FnScope ["_law_script", "_law_most", "_law_cells", "_law_cell"] ["_law_script", "_law_most"] (defScope (top 12)) := ⟨rfl, rfl, rfl, by decide +kernel, rfl, by decide +kernel, by decide +kernel⟩
theorem w__law_rounds (e : Fc fa fn K mg) {fd : FuncData} (F : FunD K d__law_rounds.name d__law_rounds.qual d__law_rounds.params d__law_rounds.body d__law_rounds.scope (d__law_rounds.dvs K) (d__law_rounds.kws K) (He.fAd K d__law_rounds.at_) fd) : FnM P w K mg base 2 (He.fAd K d__law_rounds.at_) fd ["_law_script", "_law_most"] m__law_rounds := fn_ok F sc__law_rounds fun cdv A outer s H E hr =>
   (pssm_cons
 (psm_set sc__law_rounds.nd rfl (.inl rfl) (pm_sl (pp_v 0) pom_none (pom_some (pm_v 1))))
 (pssm_cons
 (psm_if (pt_eqX hr.units (pp_v 2) (pp_e (pm_fr (pn_lst pam_nil)))) (pssm_one (psm_set sc__law_rounds.nd rfl (.inl rfl) (pm_fr (pn_lst (pam_cons pm_int pam_nil))))) pssm_nil)
 (pssm_one (psm_ret (pm_fr (pn_lc rfl sc__law_rounds.nd (pim_seq (pm_v 2)) (own := [("_law_cell", 3)]) (blkOk_by (by rfl)) (fun s H C cl fp => (pgm_name sc__law_rounds.nd rfl (.inl rfl) zw_set)) (fun s H C cl fp => ptsm_nil) (fun s H C cl fp => (pm_cl (ok__law_dice_0 e) (hr.mono (by decide)) (e.glo 2 rfl) (pam_cons (pm_v 3) pam_nil)))))))))
theorem ok__law_rounds_0 (e : Fc fa fn K mg) : CallOk P w K mg base 2 ("_law_rounds", none) 2 m__law_rounds [] := by
  obtain ⟨fd, F⟩ := e.c.def_ 1 (d := d__law_rounds) rfl
  have h := w__law_rounds (P := P) (w := w) (base := base) e F
  exact CallOk.of F h (F.bindsN fun _ _ _ _ _ _ us hl => match us, hl with | [_, _], _ => rfl)
theorem sc__law_roll : FnScope ["_law_dice_here", "_law_many", "_law_found"] ["_law_dice_here", "_law_many"] (defScope (top 11)) := ⟨rfl, rfl, rfl, by decide +kernel, rfl, by decide +kernel, by decide +kernel⟩
theorem w__law_roll (e : Fc fa fn K mg) {fd : FuncData} (F : FunD K d__law_roll.name d__law_roll.qual d__law_roll.params d__law_roll.body d__law_roll.scope (d__law_roll.dvs K) (d__law_roll.kws K) (He.fAd K d__law_roll.at_) fd) : FnM P w K mg base 1 (He.fAd K d__law_roll.at_) fd ["_law_dice_here", "_law_many"] m__law_roll := fn_ok F sc__law_roll fun cdv A outer s H E hr =>
   (pssm_cons
 (psm_if (pt_w (pw_oM (pt_eqX hr.units (pp_e (pm_ix (hu1 hr) (pp_v 0) (pp_e pm_int))) (pp_e pm_int)) (pw_o1 (pt_w (pw_aM (pt_eqX hr.units (pp_e (pm_ix (hu1 hr) (pp_v 0) (pp_e pm_int))) (pp_e pm_int)) (pw_a1 (pt_gt (pp_e (pm_ix (hu1 hr) (pp_v 0) (pp_e pm_int))) (pp_e pm_int)))))))) (pssm_cons
 (psm_set sc__law_roll.nd rfl (.inl rfl) (pm_mod (pm_int1 (e.free 1 rfl) (pp_e (pm_ix (hu1 hr) (pp_v 0) (pp_e pm_int)))) (pm_v 1)))
 (pssm_cons
 (psm_asg (pm_fdiv (pm_ix (hu1 hr) (pp_v 0) (pp_e pm_int)) (pm_v 1)) (pgm_sub zp_ok.rf (hu1 hr) (pp_v 0) (pp_e pm_int)))
 (pssm_one (psm_ret (pm_v 2))))) pssm_nil)
 (pssm_cons
 (psm_asg pm_int (pgm_sub zp_ok.rf (hu1 hr) (pp_v 0) (pp_e pm_int)))
 (pssm_cons
 (psm_asg (pm_mod (pm_int1 (e.free 1 rfl) (pp_e (pm_addX (pm_addX (pm_mulI (pm_ix (hu1 hr) (pp_v 0) (pp_e pm_int)) pm_int) (pm_mulI (pm_ix (hu1 hr) (pp_v 0) (pp_e pm_int)) pm_int)) pm_int))) pm_int) (pgm_sub zp_ok.rf (hu1 hr) (pp_v 0) (pp_e pm_int)))
 (pssm_cons
 (psm_asg (pm_addX (pm_ix (hu1 hr) (pp_v 0) (pp_e pm_int)) pm_int) (pgm_sub zp_ok.rf (hu1 hr) (pp_v 0) (pp_e pm_int)))
 (pssm_one (psm_ret (pm_mod (pm_int1 (e.free 1 rfl) (pp_e (pm_addX (pm_fdiv (pm_ix (hu1 hr) (pp_v 0) (pp_e pm_int)) pm_int) (pm_ix (hu1 hr) (pp_v 0) (pp_e pm_int))))) (pm_v 1))))))))
theorem ok__law_roll_0 (e : Fc fa fn K mg) : CallOk P w K mg base 1 ("_law_roll", none) 2 m__law_roll [] := by
  obtain ⟨fd, F⟩ := e.c.def_ 2 (d := d__law_roll) rfl
  have h := w__law_roll (P := P) (w := w) (base := base) e F
  exact CallOk.of F h (F.bindsN fun _ _ _ _ _ _ us hl => match us, hl with | [_, _], _ => rfl)
theorem sc__law_drawn : FnScope ["_law_dice_here", "_law_k"] ["_law_dice_here"] (defScope (top 14)) := ⟨rfl, rfl, rfl, by decide +kernel, rfl, by decide +kernel, by decide +kernel⟩
theorem w__law_drawn (e : Fc fa fn K mg) {fd : FuncData} (F : FunD K d__law_drawn.name d__law_drawn.qual d__law_drawn.params d__law_drawn.body d__law_drawn.scope (d__law_drawn.dvs K) (d__law_drawn.kws K) (He.fAd K d__law_drawn.at_) fd) : FnM P w K mg base 2 (He.fAd K d__law_drawn.at_) fd ["_law_dice_here"] m__law_drawn := fn_ok F sc__law_drawn fun cdv A outer s H E hr =>
   (pssm_one (psm_ret (pm_fr (pn_lc rfl sc__law_drawn.nd (pim_range1 (e.free 5 rfl) (pam_cons (pm_cl (ok__law_roll_0 e) (hr.mono (by decide)) (e.glo 4 rfl) (pam_cons (pm_v 0) (pam_cons pm_int pam_nil))) pam_nil)) (own := [("_law_k", 1)]) (blkOk_by (by rfl)) (fun s H C cl fp => (pgm_name sc__law_drawn.nd rfl (.inl rfl) zw_set)) (fun s H C cl fp => ptsm_nil) (fun s H C cl fp => (pm_if (pt_gt (pp_e (pm_cl (ok__law_roll_0 e) (hr.mono (by decide)) (e.glo 4 rfl) (pam_cons (pm_v 0) (pam_cons pm_int pam_nil)))) (pp_e pm_int)) (pm_tup (pam_cons pm_str (pam_cons (pm_ix (hu1 hr) (pp_e pm_str) (pp_e (pm_cl (ok__law_roll_0 e) (hr.mono (by decide)) (e.glo 4 rfl) (pam_cons (pm_v 0) (pam_cons pm_int pam_nil))))) pam_nil))) (pm_tup (pam_cons pm_str (pam_cons (pm_ix (hu1 hr) (pp_e (pm_fr (pn_lst (pam_cons pm_int (pam_cons pm_int (pam_cons pm_str pam_nil)))))) (pp_e (pm_cl (ok__law_roll_0 e) (hr.mono (by decide)) (e.glo 4 rfl) (pam_cons (pm_v 0) (pam_cons pm_int pam_nil))))) pam_nil)))))))))
theorem ok__law_drawn_0 (e : Fc fa fn K mg) : CallOk P w K mg base 2 ("_law_drawn", none) 1 m__law_drawn [] := by
  obtain ⟨fd, F⟩ := e.c.def_ 3 (d := d__law_drawn) rfl
  have h := w__law_drawn (P := P) (w := w) (base := base) e F
  exact CallOk.of F h (F.bindsN fun _ _ _ _ _ _ us hl => match us, hl with | [_], _ => rfl)
theorem sc_Term_init : FnScope ["self", "name", "value"] ["self", "name", "value"] (defScope (inClass (top 2) 0)) := ⟨rfl, rfl, rfl, by decide +kernel, rfl, by decide +kernel, by decide +kernel⟩
theorem w_Term_init (e : Fc fa fn K mg) {fd : FuncData} (F : FunD K d_Term_init.name d_Term_init.qual d_Term_init.params d_Term_init.body d_Term_init.scope (d_Term_init.dvs K) (d_Term_init.kws K) (He.fAd K d_Term_init.at_) fd) : FnI P w K mg base 1 (He.fAd K d_Term_init.at_) fd ["self", "name", "value"] "Term" m_Term_init := init_ok F sc_Term_init (by decide) (by decide) fun cdv A outer s H E hr =>
   (pssm_cons
 (psm_fld (fo_c (e.cls 8 rfl) (e.noat 9 rfl) fo_n) (pp_v 0) (pm_v 1))
 (pssm_one (psm_fld (fo_c (e.cls 8 rfl) (e.noat 10 rfl) fo_n) (pp_v 0) (pm_v 2))))
theorem ok_Term_init_0 (e : Fc fa fn K mg) : MkOk P w K mg base 1 "Term" 3 m_Term_init [.non] := by
  obtain ⟨fd, F⟩ := e.c.def_ 4 (d := d_Term_init) rfl
  have h := w_Term_init (P := P) (w := w) (base := base) e F
  exact MkOk.ofD (e.mkr 24 rfl) h (F.binds1 2 0 (by intro h; cases h) rfl fun _ _ _ _ _ _ _ us its h1 h2 => match us, its, h1, h2 with | [_, _], [_], _, _ => ⟨_, rfl, rfl⟩) (fun _ _ => by simp [EmbL, Emb, He.DefD.dvs, He.Dv.v])
theorem ok_Term_init_1 (e : Fc fa fn K mg) : MkOk P w K mg base 1 "Term" 3 m_Term_init [] := by
  obtain ⟨fd, F⟩ := e.c.def_ 4 (d := d_Term_init) rfl
  have h := w_Term_init (P := P) (w := w) (base := base) e F
  exact MkOk.ofD (e.mkr 24 rfl) h (F.binds1 3 1 (by intro h; cases h) rfl fun _ _ _ _ _ _ _ us its h1 h2 => match us, its, h1, h2 with | [_, _, _], [_], _, _ => ⟨_, rfl, rfl⟩) (fun _ _ => by simp [EmbL, Emb, He.DefD.dvs, He.Dv.v])
theorem sc_var : FnScope ["name"] ["name"] (defScope (top 3)) := ⟨rfl, rfl, rfl, by decide +kernel, rfl, by decide +kernel, by decide +kernel⟩
theorem w_var (e : Fc fa fn K mg) {fd : FuncData} (F : FunD K d_var.name d_var.qual d_var.params d_var.body d_var.scope (d_var.dvs K) (d_var.kws K) (He.fAd K d_var.at_) fd) : FnM P w K mg base 3 (He.fAd K d_var.at_) fd ["name"] m_var := fn_ok F sc_var fun cdv A outer s H E hr =>
   (pssm_one (psm_ret (pm_fr (pn_mk (ok_Term_init_0 e) (hr.mono (by decide)) (e.glo 11 rfl) (pam_cons (pm_v 0) pam_nil)))))
theorem ok_var_0 (e : Fc fa fn K mg) : CallOk P w K mg base 3 ("var", none) 1 m_var [] := by
  obtain ⟨fd, F⟩ := e.c.def_ 5 (d := d_var) rfl
  have h := w_var (P := P) (w := w) (base := base) e F
  exact CallOk.of F h (F.bindsN fun _ _ _ _ _ _ us hl => match us, hl with | [_], _ => rfl)
theorem sc_val : FnScope ["value"] ["value"] (defScope (top 4)) := ⟨rfl, rfl, rfl, by decide +kernel, rfl, by decide +kernel, by decide +kernel⟩
theorem w_val (e : Fc fa fn K mg) {fd : FuncData} (F : FunD K d_val.name d_val.qual d_val.params d_val.body d_val.scope (d_val.dvs K) (d_val.kws K) (He.fAd K d_val.at_) fd) : FnM P w K mg base 3 (He.fAd K d_val.at_) fd ["value"] m_val := fn_ok F sc_val fun cdv A outer s H E hr =>
   (pssm_one (psm_ret (pm_fr (pn_mk (ok_Term_init_1 e) (hr.mono (by decide)) (e.glo 11 rfl) (pam_cons pm_str (pam_cons (pm_v 0) pam_nil))))))
theorem ok_val_0 (e : Fc fa fn K mg) : CallOk P w K mg base 3 ("val", none) 1 m_val [] := by
  obtain ⟨fd, F⟩ := e.c.def_ 6 (d := d_val) rfl
  have h := w_val (P := P) (w := w) (base := base) e F
  exact CallOk.of F h (F.bindsN fun _ _ _ _ _ _ us hl => match us, hl with | [_], _ => rfl)
theorem sc__law_make : FnScope ["_law_term"] ["_law_term"] (defScope (top 13)) := ⟨rfl, rfl, rfl, by decide +kernel, rfl, by decide +kernel, by decide +kernel⟩
theorem w__law_make (e : Fc fa fn K mg) {fd : FuncData} (F : FunD K d__law_make.name d__law_make.qual d__law_make.params d__law_make.body d__law_make.scope (d__law_make.dvs K) (d__law_make.kws K) (He.fAd K d__law_make.at_) fd) : FnM P w K mg base 4 (He.fAd K d__law_make.at_) fd ["_law_term"] m__law_make := fn_ok F sc__law_make fun cdv A outer s H E hr =>
   (pssm_one (psm_ret (pm_if (pt_eqX hr.units (pp_e (pm_ix (hu1 hr) (pp_v 0) (pp_e pm_int))) (pp_e pm_str)) (pm_cl (ok_var_0 e) (hr.mono (by decide)) (e.glo 12 rfl) (pam_cons (pm_ix (hu1 hr) (pp_v 0) (pp_e pm_int)) pam_nil)) (pm_cl (ok_val_0 e) (hr.mono (by decide)) (e.glo 13 rfl) (pam_cons (pm_ix (hu1 hr) (pp_v 0) (pp_e pm_int)) pam_nil)))))
theorem ok__law_make_0 (e : Fc fa fn K mg) : CallOk P w K mg base 4 ("_law_make", none) 1 m__law_make [] := by
  obtain ⟨fd, F⟩ := e.c.def_ 7 (d := d__law_make) rfl
  have h := w__law_make (P := P) (w := w) (base := base) e F
  exact CallOk.of F h (F.bindsN fun _ _ _ _ _ _ us hl => match us, hl with | [_], _ => rfl)
theorem sc__law_fits : FnScope ["_law_one", "_law_other", "_law_found", "_law_number", "_law_table", "_law_left", "_law_right", "_law_kind", "_law_said"] ["_law_one", "_law_other"] (defScope (top 15)) := ⟨rfl, rfl, rfl, by decide +kernel, rfl, by decide +kernel, by decide +kernel⟩
theorem w__law_fits (e : Fc fa fn K mg) {fd : FuncData} (F : FunD K d__law_fits.name d__law_fits.qual d__law_fits.params d__law_fits.body d__law_fits.scope (d__law_fits.dvs K) (d__law_fits.kws K) (He.fAd K d__law_fits.at_) fd) : FnM P w K mg base 1 (He.fAd K d__law_fits.at_) fd ["_law_one", "_law_other"] m__law_fits := fn_ok F sc__law_fits fun cdv A outer s H E hr =>
   (pssm_cons
 (psm_setO sc__law_fits.nd rfl (.inl rfl) (pn_lst pam_nil))
 (pssm_cons
 (psm_for passes_dx rfl (pim_range1 (e.free 5 rfl) (pam_cons pm_int pam_nil)) (pgm_name sc__law_fits.nd rfl (.inl rfl) zp_set) (pssm_cons
 (psm_set sc__law_fits.nd rfl (.inr rfl) (pm_fr (pn_dis (pps_c pm_str (pm_ix (hu1 hr) (pp_e (pm_fr (pn_lst (pam_cons pm_int (pam_cons pm_int (pam_cons pm_str pam_nil)))))) (pp_e (pm_mod (pm_v 3) pm_int))) (pps_c pm_str (pm_ix (hu1 hr) (pp_e (pm_fr (pn_lst (pam_cons pm_int (pam_cons pm_int (pam_cons pm_str pam_nil)))))) (pp_e (pm_mod (pm_fdiv (pm_v 3) pm_int) pm_int))) (pps_c pm_str (pm_ix (hu1 hr) (pp_e (pm_fr (pn_lst (pam_cons pm_int (pam_cons pm_int (pam_cons pm_str pam_nil)))))) (pp_e (pm_fdiv (pm_v 3) pm_int))) pps_n))))))
 (pssm_cons
 (psm_setLc rfl sc__law_fits.nd rfl rfl rfl (pim_seq (pm_v 0)) (own := [("_law_kind", 7), ("_law_said", 8)]) (blkOk_by (by rfl)) (fun s H C cl fp => (pgm_tup rfl (pgsm_cons zw_ok (pgm_name sc__law_fits.nd rfl (.inl rfl) zw_set) (pgsm_cons zw_ok (pgm_name sc__law_fits.nd rfl (.inl rfl) zw_set) (pgsm_nil zw_ok))))) (fun s H C cl fp => ptsm_nil) (fun s H C cl fp => (pm_if (pt_eqX hr.units (pp_v 7) (pp_e pm_str)) (pm_ix (hu1 hr) (pp_v 4) (pp_v 8)) (pm_v 8))))
 (pssm_cons
 (psm_setLc rfl sc__law_fits.nd rfl rfl rfl (pim_seq (pm_v 1)) (own := [("_law_kind", 7), ("_law_said", 8)]) (blkOk_by (by rfl)) (fun s H C cl fp => (pgm_tup rfl (pgsm_cons zw_ok (pgm_name sc__law_fits.nd rfl (.inl rfl) zw_set) (pgsm_cons zw_ok (pgm_name sc__law_fits.nd rfl (.inl rfl) zw_set) (pgsm_nil zw_ok))))) (fun s H C cl fp => ptsm_nil) (fun s H C cl fp => (pm_if (pt_eqX hr.units (pp_v 7) (pp_e pm_str)) (pm_ix (hu1 hr) (pp_v 4) (pp_v 8)) (pm_v 8))))
 (pssm_one (psm_if (pt_eqX hr.units (pp_v 5) (pp_v 6)) (pssm_one (psm_expr (pm_append (pp_v 2) (pm_v 4)))) pssm_nil))))))
 (pssm_one (psm_ret (pm_v 2)))))
theorem ok__law_fits_0 (e : Fc fa fn K mg) : CallOk P w K mg base 1 ("_law_fits", none) 2 m__law_fits [] := by
  obtain ⟨fd, F⟩ := e.c.def_ 8 (d := d__law_fits) rfl
  have h := w__law_fits (P := P) (w := w) (base := base) e F
  exact CallOk.of F h (F.bindsN fun _ _ _ _ _ _ us hl => match us, hl with | [_, _], _ => rfl)
theorem sc_Term_is_variable : FnScope ["self"] ["self"] (defScope (inClass (top 2) 1)) := ⟨rfl, rfl, rfl, by decide +kernel, rfl, by decide +kernel, by decide +kernel⟩
theorem w_Term_is_variable (e : Fc fa fn K mg) {fd : FuncData} (F : FunD K d_Term_is_variable.name d_Term_is_variable.qual d_Term_is_variable.params d_Term_is_variable.body d_Term_is_variable.scope (d_Term_is_variable.dvs K) (d_Term_is_variable.kws K) (He.fAd K d_Term_is_variable.at_) fd) : FnM P w K mg base 1 (He.fAd K d_Term_is_variable.at_) fd ["self"] m_Term_is_variable := fn_ok F sc_Term_is_variable fun cdv A outer s H E hr =>
   (pssm_one (psm_ret (pm_ne hr.units (pp_e (pm_fld (fo_c (e.cls 8 rfl) (e.noat 9 rfl) fo_n) (pp_v 0))) (pp_e pm_str))))
theorem ok_Term_is_variable_0 (e : Fc fa fn K mg) : CallOk P w K mg base 1 ("Term", some "is_variable") 1 m_Term_is_variable [] := by
  obtain ⟨fd, F⟩ := e.c.def_ 9 (d := d_Term_is_variable) rfl
  have h := w_Term_is_variable (P := P) (w := w) (base := base) e F
  exact CallOk.of F h (F.bindsN fun _ _ _ _ _ _ us hl => match us, hl with | [_], _ => rfl)
theorem sc_led_to : FnScope ["term", "links", "seen"] ["term", "links"] (defScope (top 5)) := ⟨rfl, rfl, rfl, by decide +kernel, rfl, by decide +kernel, by decide +kernel⟩
theorem w_led_to (e : Fc fa fn K mg) {fd : FuncData} (F : FunD K d_led_to.name d_led_to.qual d_led_to.params d_led_to.body d_led_to.scope (d_led_to.dvs K) (d_led_to.kws K) (He.fAd K d_led_to.at_) fd) : FnM P w K mg base 2 (He.fAd K d_led_to.at_) fd ["term", "links"] m_led_to := fn_ok F sc_led_to fun cdv A outer s H E hr =>
   (pssm_cons
 (psm_set sc_led_to.nd rfl (.inl rfl) pm_int)
 (pssm_cons
 (psm_while passes_dx (pt_w (pw_aM (pt_tru (pp_e (pm_meth0 (mo_c (t := ⟨"Term", 1, m_Term_is_variable, []⟩) (e.cls 8 rfl) (e.meth 16 rfl) (ok_Term_is_variable_0 e) (hr.mono (by decide)) mo_n) (pm_v 0)))) (pw_aM (pt_in (hu65 hr) (pp_e (pm_fld (fo_c (e.cls 8 rfl) (e.noat 9 rfl) fo_n) (pp_v 0))) (pp_v 1)) (pw_a1 (pt_le (pp_v 2) (pp_e (pm_len (e.free 7 rfl) (pp_v 1)))))))) (pssm_cons
 (psm_set sc_led_to.nd rfl (.inl rfl) (pm_ix (hu1 hr) (pp_v 1) (pp_e (pm_fld (fo_c (e.cls 8 rfl) (e.noat 9 rfl) fo_n) (pp_v 0)))))
 (pssm_one (psm_augadd sc_led_to.nd rfl (.inl rfl) pm_int))))
 (pssm_one (psm_ret (pm_v 0)))))
theorem ok_led_to_0 (e : Fc fa fn K mg) : CallOk P w K mg base 2 ("led_to", none) 2 m_led_to [] := by
  obtain ⟨fd, F⟩ := e.c.def_ 10 (d := d_led_to) rfl
  have h := w_led_to (P := P) (w := w) (base := base) e F
  exact CallOk.of F h (F.bindsN fun _ _ _ _ _ _ us hl => match us, hl with | [_, _], _ => rfl)
theorem sc_Term_shown : FnScope ["self"] ["self"] (defScope (inClass (top 2) 2)) := ⟨rfl, rfl, rfl, by decide +kernel, rfl, by decide +kernel, by decide +kernel⟩
theorem w_Term_shown (e : Fc fa fn K mg) {fd : FuncData} (F : FunD K d_Term_shown.name d_Term_shown.qual d_Term_shown.params d_Term_shown.body d_Term_shown.scope (d_Term_shown.dvs K) (d_Term_shown.kws K) (He.fAd K d_Term_shown.at_) fd) : FnM P w K mg base 1 (He.fAd K d_Term_shown.at_) fd ["self"] m_Term_shown := fn_ok F sc_Term_shown fun cdv A outer s H E hr =>
   (pssm_one (psm_ret (pm_if (pt_ne hr.units (pp_e (pm_fld (fo_c (e.cls 8 rfl) (e.noat 9 rfl) fo_n) (pp_v 0))) (pp_e pm_str)) (pm_tup (pam_cons pm_str (pam_cons (pm_fld (fo_c (e.cls 8 rfl) (e.noat 9 rfl) fo_n) (pp_v 0)) pam_nil))) (pm_tup (pam_cons pm_str (pam_cons (pm_fld (fo_c (e.cls 8 rfl) (e.noat 10 rfl) fo_n) (pp_v 0)) pam_nil))))))
theorem ok_Term_shown_0 (e : Fc fa fn K mg) : CallOk P w K mg base 1 ("Term", some "shown") 1 m_Term_shown [] := by
  obtain ⟨fd, F⟩ := e.c.def_ 11 (d := d_Term_shown) rfl
  have h := w_Term_shown (P := P) (w := w) (base := base) e F
  exact CallOk.of F h (F.bindsN fun _ _ _ _ _ _ us hl => match us, hl with | [_], _ => rfl)
theorem sc_made_alike : FnScope ["one", "other", "links", "place", "left", "right"] ["one", "other"] (defScope (top 6)) := ⟨rfl, rfl, rfl, by decide +kernel, rfl, by decide +kernel, by decide +kernel⟩
theorem w_made_alike (e : Fc fa fn K mg) {fd : FuncData} (F : FunD K d_made_alike.name d_made_alike.qual d_made_alike.params d_made_alike.body d_made_alike.scope (d_made_alike.dvs K) (d_made_alike.kws K) (He.fAd K d_made_alike.at_) fd) : FnM P w K mg base 3 (He.fAd K d_made_alike.at_) fd ["one", "other"] m_made_alike := fn_ok F sc_made_alike fun cdv A outer s H E hr =>
   (pssm_cons
 (psm_if (pt_ne hr.units (pp_e (pm_len (e.free 7 rfl) (pp_v 0))) (pp_e (pm_len (e.free 7 rfl) (pp_v 1)))) (pssm_one (psm_ret pm_non)) pssm_nil)
 (pssm_cons
 (psm_set sc_made_alike.nd rfl (.inl rfl) (pm_la pn_dK))
 (pssm_cons
 (psm_for passes_dx rfl (pim_range1 (e.free 5 rfl) (pam_cons (pm_len (e.free 7 rfl) (pp_v 0)) pam_nil)) (pgm_name sc_made_alike.nd rfl (.inl rfl) zp_set) (pssm_cons
 (psm_par rfl sc_made_alike.nd rfl rfl (by decide) rfl rfl (pam_cons (pm_cl (ok_led_to_0 e) (hr.mono (by decide)) (e.glo 17 rfl) (pam_cons (pm_ix (hu1 hr) (pp_v 0) (pp_v 3)) (pam_cons (pm_v 2) pam_nil))) (pam_cons (pm_cl (ok_led_to_0 e) (hr.mono (by decide)) (e.glo 17 rfl) (pam_cons (pm_ix (hu1 hr) (pp_v 1) (pp_v 3)) (pam_cons (pm_v 2) pam_nil))) pam_nil)) rfl)
 (pssm_one (psm_if (pt_tru (pp_e (pm_meth0 (mo_c (t := ⟨"Term", 1, m_Term_is_variable, []⟩) (e.cls 8 rfl) (e.meth 16 rfl) (ok_Term_is_variable_0 e) (hr.mono (by decide)) mo_n) (pm_v 4)))) (pssm_one (psm_if (pt_ne hr.units (pp_e (pm_meth0 (mo_c (t := ⟨"Term", 1, m_Term_shown, []⟩) (e.cls 8 rfl) (e.meth 18 rfl) (ok_Term_shown_0 e) (hr.mono (by decide)) mo_n) (pm_v 4))) (pp_e (pm_meth0 (mo_c (t := ⟨"Term", 1, m_Term_shown, []⟩) (e.cls 8 rfl) (e.meth 18 rfl) (ok_Term_shown_0 e) (hr.mono (by decide)) mo_n) (pm_v 5)))) (pssm_one (psm_asg (pm_v 5) (pgm_sub zp_ok.rf (hu1 hr) (pp_v 2) (pp_e (pm_fld (fo_c (e.cls 8 rfl) (e.noat 9 rfl) fo_n) (pp_v 4)))))) pssm_nil)) (pssm_one (psm_if (pt_tru (pp_e (pm_meth0 (mo_c (t := ⟨"Term", 1, m_Term_is_variable, []⟩) (e.cls 8 rfl) (e.meth 16 rfl) (ok_Term_is_variable_0 e) (hr.mono (by decide)) mo_n) (pm_v 5)))) (pssm_one (psm_asg (pm_v 4) (pgm_sub zp_ok.rf (hu1 hr) (pp_v 2) (pp_e (pm_fld (fo_c (e.cls 8 rfl) (e.noat 9 rfl) fo_n) (pp_v 5)))))) (pssm_one (psm_if (pt_ne hr.units (pp_e (pm_meth0 (mo_c (t := ⟨"Term", 1, m_Term_shown, []⟩) (e.cls 8 rfl) (e.meth 18 rfl) (ok_Term_shown_0 e) (hr.mono (by decide)) mo_n) (pm_v 4))) (pp_e (pm_meth0 (mo_c (t := ⟨"Term", 1, m_Term_shown, []⟩) (e.cls 8 rfl) (e.meth 18 rfl) (ok_Term_shown_0 e) (hr.mono (by decide)) mo_n) (pm_v 5)))) (pssm_one (psm_ret pm_non)) pssm_nil))))))))
 (pssm_one (psm_ret (pm_v 2))))))
theorem ok_made_alike_0 (e : Fc fa fn K mg) : CallOk P w K mg base 3 ("made_alike", none) 2 m_made_alike [] := by
  obtain ⟨fd, F⟩ := e.c.def_ 12 (d := d_made_alike) rfl
  have h := w_made_alike (P := P) (w := w) (base := base) e F
  exact CallOk.of F h (F.bindsN fun _ _ _ _ _ _ us hl => match us, hl with | [_, _], _ => rfl)
theorem sc_shown_all : FnScope ["terms", "term"] ["terms"] (defScope (top 8)) := ⟨rfl, rfl, rfl, by decide +kernel, rfl, by decide +kernel, by decide +kernel⟩
theorem w_shown_all (e : Fc fa fn K mg) {fd : FuncData} (F : FunD K d_shown_all.name d_shown_all.qual d_shown_all.params d_shown_all.body d_shown_all.scope (d_shown_all.dvs K) (d_shown_all.kws K) (He.fAd K d_shown_all.at_) fd) : FnM P w K mg base 2 (He.fAd K d_shown_all.at_) fd ["terms"] m_shown_all := fn_ok F sc_shown_all fun cdv A outer s H E hr =>
   (pssm_one (psm_ret (pm_tuple (e.free 20 rfl) (pp_e (pm_fr (pn_lc rfl sc_shown_all.nd (pim_seq (pm_v 0)) (own := [("term", 1)]) (blkOk_by (by rfl)) (fun s H C cl fp => (pgm_name sc_shown_all.nd rfl (.inl rfl) zw_set)) (fun s H C cl fp => ptsm_nil) (fun s H C cl fp => (pm_meth0 (mo_c (t := ⟨"Term", 1, m_Term_shown, []⟩) (e.cls 8 rfl) (e.meth 18 rfl) (ok_Term_shown_0 e) (hr.mono (by decide)) mo_n) (pm_v 1)))))))))
theorem ok_shown_all_0 (e : Fc fa fn K mg) : CallOk P w K mg base 2 ("shown_all", none) 1 m_shown_all [] := by
  obtain ⟨fd, F⟩ := e.c.def_ 13 (d := d_shown_all) rfl
  have h := w_shown_all (P := P) (w := w) (base := base) e F
  exact CallOk.of F h (F.bindsN fun _ _ _ _ _ _ us hl => match us, hl with | [_], _ => rfl)
theorem sc_put_in : FnScope ["terms", "links", "term"] ["terms", "links"] (defScope (top 7)) := ⟨rfl, rfl, rfl, by decide +kernel, rfl, by decide +kernel, by decide +kernel⟩
theorem w_put_in (e : Fc fa fn K mg) {fd : FuncData} (F : FunD K d_put_in.name d_put_in.qual d_put_in.params d_put_in.body d_put_in.scope (d_put_in.dvs K) (d_put_in.kws K) (He.fAd K d_put_in.at_) fd) : FnM P w K mg base 3 (He.fAd K d_put_in.at_) fd ["terms", "links"] m_put_in := fn_ok F sc_put_in fun cdv A outer s H E hr =>
   (pssm_one (psm_ret (pm_tuple (e.free 20 rfl) (pp_e (pm_fr (pn_lc rfl sc_put_in.nd (pim_seq (pm_v 0)) (own := [("term", 2)]) (blkOk_by (by rfl)) (fun s H C cl fp => (pgm_name sc_put_in.nd rfl (.inl rfl) zw_set)) (fun s H C cl fp => ptsm_nil) (fun s H C cl fp => (pm_cl (ok_led_to_0 e) (hr.mono (by decide)) (e.glo 17 rfl) (pam_cons (pm_v 2) (pam_cons (pm_v 1) pam_nil))))))))))
theorem ok_put_in_0 (e : Fc fa fn K mg) : CallOk P w K mg base 3 ("put_in", none) 2 m_put_in [] := by
  obtain ⟨fd, F⟩ := e.c.def_ 14 (d := d_put_in) rfl
  have h := w_put_in (P := P) (w := w) (base := base) e F
  exact CallOk.of F h (F.bindsN fun _ _ _ _ _ _ us hl => match us, hl with | [_, _], _ => rfl)
theorem sc_law : FnScope ["_law_script", "_law_dice_here", "_law_one", "_law_other", "_law_left", "_law_right", "_law_links_now", "_law_fits_here", "_law_table", "_law_name", "_law_kind", "_law_said", "_law_ends", "_law_free", "_law_k", "_law_end", "_law_term"] ["_law_script"] (defScope (top 16)) := ⟨rfl, rfl, rfl, by decide +kernel, rfl, by decide +kernel, by decide +kernel⟩
theorem w_law (e : Fc fa fn K mg) {fd : FuncData} (F : FunD K d_law.name d_law.qual d_law.params d_law.body d_law.scope (d_law.dvs K) (d_law.kws K) (He.fAd K d_law.at_) fd) : FnM P w K mg base 5 (He.fAd K d_law.at_) fd ["_law_script"] m_law := fn_ok F sc_law fun cdv A outer s H E hr =>
   (pssm_cons
 (psm_for passes_dx rfl (pim_seq (pm_cl (ok__law_rounds_0 e) (hr.mono (by decide)) (e.glo 3 rfl) (pam_cons (pm_v 0) (pam_cons pm_int pam_nil)))) (pgm_name sc_law.nd rfl (.inl rfl) zp_set) (pssm_cons
 (psm_par rfl sc_law.nd rfl rfl (by decide) rfl rfl (pam_cons (pm_cl (ok__law_drawn_0 e) (hr.mono (by decide)) (e.glo 6 rfl) (pam_cons (pm_v 1) pam_nil)) (pam_cons (pm_cl (ok__law_drawn_0 e) (hr.mono (by decide)) (e.glo 6 rfl) (pam_cons (pm_v 1) pam_nil)) pam_nil)) rfl)
 (pssm_cons
 (psm_if (pt_eqX hr.units (pp_e (pm_cl (ok__law_roll_0 e) (hr.mono (by decide)) (e.glo 4 rfl) (pam_cons (pm_v 1) (pam_cons pm_int pam_nil)))) (pp_e pm_int)) (pssm_one (psm_set sc_law.nd rfl (.inl rfl) (pm_sl (pp_e (pm_addX (pm_v 3) (pm_fr (pn_rep (pm_fr (pn_lst (pam_cons (pm_tup (pam_cons pm_str (pam_cons pm_str pam_nil))) pam_nil))) pm_int)))) pom_none (pom_some (pm_len (e.free 7 rfl) (pp_v 2)))))) pssm_nil)
 (pssm_cons
 (psm_par rfl sc_law.nd rfl rfl (by decide) rfl rfl (pam_cons (pm_fr (pn_lc rfl sc_law.nd (pim_seq (pm_v 2)) (own := [("_law_term", 16)]) (blkOk_by (by rfl)) (fun s H C cl fp => (pgm_name sc_law.nd rfl (.inl rfl) zw_set)) (fun s H C cl fp => ptsm_nil) (fun s H C cl fp => (pm_cl (ok__law_make_0 e) (hr.mono (by decide)) (e.glo 14 rfl) (pam_cons (pm_v 16) pam_nil))))) (pam_cons (pm_fr (pn_lc rfl sc_law.nd (pim_seq (pm_v 3)) (own := [("_law_term", 16)]) (blkOk_by (by rfl)) (fun s H C cl fp => (pgm_name sc_law.nd rfl (.inl rfl) zw_set)) (fun s H C cl fp => ptsm_nil) (fun s H C cl fp => (pm_cl (ok__law_make_0 e) (hr.mono (by decide)) (e.glo 14 rfl) (pam_cons (pm_v 16) pam_nil))))) pam_nil)) rfl)
 (pssm_cons
 (psm_asg (pm_tup (pam_cons (pm_cl (ok_made_alike_0 e) (hr.mono (by decide)) (e.glo 19 rfl) (pam_cons (pm_v 4) (pam_cons (pm_v 5) pam_nil))) (pam_cons (pm_cl (ok__law_fits_0 e) (hr.mono (by decide)) (e.glo 15 rfl) (pam_cons (pm_v 2) (pam_cons (pm_v 3) pam_nil))) pam_nil))) (pgm_tup rfl (pgsm_cons zp_ok (pgm_name sc_law.nd rfl (.inr rfl) zp_set) (pgsm_cons zp_ok (pgm_name sc_law.nd rfl (.inl rfl) zp_set) (pgsm_nil zp_ok)))))
 (pssm_cons
 (psm_if (pt_ne hr.units (pp_e (pm_isN (pp_v 6) (pp_e pm_non))) (pp_e (pm_eqX hr.units (pp_v 7) (pp_e (pm_fr (pn_lst pam_nil)))))) (pssm_one (psm_ret pm_bl)) pssm_nil)
 (pssm_cons
 (psm_if (pt_isN (pp_v 6) (pp_e pm_non)) (pssm_one (psm_ret pm_bl)) pssm_nil)
 (pssm_cons
 (psm_if (pt_ne hr.units (pp_e (pm_cl (ok_shown_all_0 e) (hr.mono (by decide)) (e.glo 22 rfl) (pam_cons (pm_cl (ok_put_in_0 e) (hr.mono (by decide)) (e.glo 21 rfl) (pam_cons (pm_v 4) (pam_cons (pm_v 6) pam_nil))) pam_nil))) (pp_e (pm_cl (ok_shown_all_0 e) (hr.mono (by decide)) (e.glo 22 rfl) (pam_cons (pm_cl (ok_put_in_0 e) (hr.mono (by decide)) (e.glo 21 rfl) (pam_cons (pm_v 5) (pam_cons (pm_v 6) pam_nil))) pam_nil)))) (pssm_one (psm_ret pm_bl)) pssm_nil)
 (pssm_cons
 (psm_for passes_dx rfl (pim_seq (pm_v 7)) (pgm_name sc_law.nd rfl (.inl rfl) zp_set) (pssm_one (psm_for passes_dx rfl (pim_seq (pm_fr (pn_lst (pam_cons pm_str (pam_cons pm_str (pam_cons pm_str pam_nil)))))) (pgm_name sc_law.nd rfl (.inl rfl) zp_set) (pssm_cons
 (psm_asg (pm_meth0 (mo_c (t := ⟨"Term", 1, m_Term_shown, []⟩) (e.cls 8 rfl) (e.meth 18 rfl) (ok_Term_shown_0 e) (hr.mono (by decide)) mo_n) (pm_cl (ok_led_to_0 e) (hr.mono (by decide)) (e.glo 17 rfl) (pam_cons (pm_cl (ok_var_0 e) (hr.mono (by decide)) (e.glo 12 rfl) (pam_cons (pm_v 9) pam_nil)) (pam_cons (pm_v 6) pam_nil)))) (pgm_tup rfl (pgsm_cons zp_ok (pgm_name sc_law.nd rfl (.inl rfl) zp_set) (pgsm_cons zp_ok (pgm_name sc_law.nd rfl (.inl rfl) zp_set) (pgsm_nil zp_ok)))))
 (pssm_one (psm_if (pt_ne hr.units (pp_e (pm_if (pt_eqX hr.units (pp_v 10) (pp_e pm_str)) (pm_ix (hu1 hr) (pp_v 8) (pp_v 11)) (pm_v 11))) (pp_e (pm_ix (hu1 hr) (pp_v 8) (pp_v 9)))) (pssm_one (psm_ret pm_bl)) pssm_nil))))))
 (pssm_cons
 (psm_set sc_law.nd rfl (.inr rfl) (pm_fr (pn_lc rfl sc_law.nd (pim_seq (pm_fr (pn_lst (pam_cons pm_str (pam_cons pm_str (pam_cons pm_str pam_nil)))))) (own := [("_law_name", 9)]) (blkOk_by (by rfl)) (fun s H C cl fp => (pgm_name sc_law.nd rfl (.inl rfl) zw_set)) (fun s H C cl fp => ptsm_nil) (fun s H C cl fp => (pm_meth0 (mo_c (t := ⟨"Term", 1, m_Term_shown, []⟩) (e.cls 8 rfl) (e.meth 18 rfl) (ok_Term_shown_0 e) (hr.mono (by decide)) mo_n) (pm_cl (ok_led_to_0 e) (hr.mono (by decide)) (e.glo 17 rfl) (pam_cons (pm_cl (ok_var_0 e) (hr.mono (by decide)) (e.glo 12 rfl) (pam_cons (pm_v 9) pam_nil)) (pam_cons (pm_v 6) pam_nil))))))))
 (pssm_cons
 (psm_setLc rfl sc_law.nd rfl rfl rfl (pim_enum rfl (e.free 23 rfl) (pam_cons (pm_v 12) pam_nil)) (own := [("_law_k", 14), ("_law_end", 15)]) (blkOk_by (by rfl)) (fun s H C cl fp => (pgm_tup rfl (pgsm_cons zw_ok (pgm_name sc_law.nd rfl (.inl rfl) zw_set) (pgsm_cons zw_ok (pgm_name sc_law.nd rfl (.inl rfl) zw_set) (pgsm_nil zw_ok))))) (fun s H C cl fp => (ptsm_one (pt_w (pw_aM (pt_eqX hr.units (pp_e (pm_ix (hu1 hr) (pp_v 15) (pp_e pm_int))) (pp_e pm_str)) (pw_a1 (pt_nin (hu65 hr) (pp_v 15) (pp_e (pm_sl (pp_v 12) pom_none (pom_some (pm_v 14)))))))) takes0)) (fun s H C cl fp => (pm_v 15)))
 (pssm_one (psm_if (pt_ne hr.units (pp_e (pm_ix (hu1 hr) (pp_e (pm_fr (pn_lst (pam_cons pm_int (pam_cons pm_int (pam_cons pm_int (pam_cons pm_int pam_nil))))))) (pp_e (pm_len (e.free 7 rfl) (pp_v 13))))) (pp_e (pm_len (e.free 7 rfl) (pp_v 7)))) (pssm_one (psm_ret pm_bl)) pssm_nil)))))))))))))
 (pssm_one (psm_ret pm_bl)))
end

inductive T6 | X | Y | Z | p | q | r
deriving DecidableEq
namespace T6
def isV : T6 → Bool
  | X => true | Y => true | Z => true | _ => false
def nm : T6 → String
  | X => "X" | Y => "Y" | Z => "Z" | _ => ""
def va : T6 → AV
  | p => .int 0 | q => .int 1 | r => .str "a" | _ => .non
def av (t : T6) : AV := .ob "Term" [("name", .str t.nm), ("value", t.va)]
def sh (t : T6) : AV := if t.isV then .tup [.str "var", .str t.nm] else .tup [.str "val", t.va]
def ix : T6 → Nat
  | X => 0 | Y => 1 | Z => 2 | p => 3 | q => 4 | r => 5
end T6
open T6
theorem isv_ok (t : T6) (hp : AH) : m_Term_is_variable [t.av] hp = .ok (.bl t.isV) hp := by
  cases t <;> simp [m_Term_is_variable, b_Term_is_variable, slots0, av, nm, isV]
theorem sh_ok (t : T6) (hp : AH) : m_Term_shown [t.av] hp = .ok t.sh hp := by
  cases t <;> simp [m_Term_shown, b_Term_shown, slots0, av, nm, isV, sh, va]
theorem var_ok (x : String) (hp : AH) : m_var [.str x] hp = .ok (.ob "Term" [("name", .str x), ("value", .non)]) hp := by
  simp [m_var, b_var, slots0, m_Term_init, b_Term_init]
theorem val_ok (x : AV) (hp : AH) : m_val [x] hp = .ok (.ob "Term" [("name", .str ""), ("value", x)]) hp := by
  simp [m_val, b_val, slots0, m_Term_init, b_Term_init]
theorem make_ok (t : T6) (hp : AH) : m__law_make [t.sh] hp = .ok t.av hp := by
  cases t <;> simp [m__law_make, b__law_make, slots0, sh, av, nm, isV, va, atI, ixN, var_ok, val_ok]

abbrev Lk := List (T6 × T6)
def encK (L : Lk) : List (AV × AV) := L.map fun e => (.str e.1.nm, e.2.av)
def Good (L : Lk) : Prop := ∀ e ∈ L, e.1.isV = true
theorem nm_inj {a b : T6} (ha : a.isV = true) (hb : b.isV = true) : (a.nm = b.nm) ↔ a = b := by
  cases a <;> cases b <;> simp [isV] at ha hb <;> simp [nm]
theorem keq_nm {a b : T6} (ha : a.isV = true) (hb : b.isV = true) : keq false (.str a.nm) (.str b.nm) = decide (a = b) := by
  simp [keq, kk, kOf, nm_inj ha hb]
theorem get_enc {t : T6} (ht : t.isV = true) : ∀ {L : Lk}, Good L → dGet false (encK L) (.str t.nm) = (L.lookup t).map av
  | [], _ => rfl
  | (k, u) :: L, g => by
    have hk := g (k, u) (by simp)
    have ih := get_enc ht (L := L) fun e he => g e (List.mem_cons_of_mem _ he)
    unfold dGet at ih ⊢
    simp only [encK, List.map_cons, List.find?_cons, keq_nm hk ht]
    by_cases h : k = t
    · subst h; simp
    · have h2 : (t == k) = false := by simpa using Ne.symm h
      simp only [h, decide_false, List.lookup_cons, h2]
      exact ih
theorem kk_str (x : Str) : (kk false (.str x)).isSome = true := rfl
def putL (L : Lk) (k v : T6) : Lk := if L.any (fun e => decide (e.1 = k)) then L.map (fun e => if e.1 = k then (e.1, v) else e) else L ++ [(k, v)]
theorem put_enc {k v : T6} (hk : k.isV = true) {L : Lk} (g : Good L) : dPut false (encK L) (.str k.nm) v.av = encK (putL L k v) := by
  have h1 : (encK L).any (fun p => keq false p.1 (.str k.nm)) = L.any fun e => decide (e.1 = k) := by
    unfold encK
    rw [List.any_map]
    exact LM.any_congr_mem fun e he => keq_nm (g e he) hk
  unfold dPut putL
  rw [h1]
  split
  · unfold encK
    rw [List.map_map, List.map_map]
    apply List.map_congr_left
    intro e he
    simp only [Function.comp]
    rw [keq_nm (g e he) hk]
    by_cases h : e.1 = k
    · simp [h]
    · simp [h]
  · simp [encK]
theorem put_good {k v : T6} (hk : k.isV = true) {L : Lk} (g : Good L) : Good (putL L k v) := by
  unfold putL
  split
  · intro e he
    obtain ⟨e', h1, rfl⟩ := List.mem_map.mp he
    split
    · exact g e' h1
    · exact g e' h1
  · intro e he
    rcases List.mem_append.mp he with h | h
    · exact g e h
    · simp at h; subst h; exact hk
def led (L : Lk) : Nat → T6 → T6
  | 0, t => t
  | n + 1, t => if t.isV then (match L.lookup t with
    | some u => led L n u
    | none => t) else t
theorem nm_fld (t : T6) (sl : List (Option SV)) (hp : AH) : fldO ["Term"] "name" (coA hp t.av) = some (.str t.nm) := by
  simp [av]
theorem led_loop {L : Lk} (g : Good L) (hl : L.length ≤ 100) (i : Nat) {hp : AH} (h : hp[i]? = some (.dic false (encK L))) : ∀ (m n k : Nat) (t : T6), m + k = L.length + 1 → m + 1 ≤ n →
    ∃ z : Int, whileM (LM.andM (truM (pkE (methM "is_variable" [⟨"Term", 1, m_Term_is_variable, []⟩] (vM 0) nilM))) (LM.andM (cmpM inC (pkE (fldM ["Term"] "name" (pkV 0))) (pkV 1)) (cmpM leC (pkV 2) (pkE (cbM lenA (consM (pkV 1) nilM)))))) (seqM
      (asgM (setV 0) (ixM (pkV 1) (pkE (fldM ["Term"] "name" (pkV 0)))))
      (augM 2 (fun a b => (addI a b).or (addS a b)) (cM (.int 1)))) n ⟨[some (.val t.av), some (.val (.ref i)), some (.val (.int k))], hp⟩ = .ok .nx ⟨[some (.val (led L m t).av), some (.val (.ref i)), some (.val (.int z))], hp⟩
  | m, n + 1, k, t, hk, hn => by
    have e1 : clsOf hp t.av = some (("Term" : Str), [(("name" : Str), .str t.nm), (("value" : Str), t.va)]) := rfl
    have e2 : coA hp t.av = .ob (.ins "Term" [("name", .str t.nm), ("value", t.va)]) := rfl
    rw [whileM_at]
    cases hv : t.isV with
    | false =>
      refine ⟨k, ?_⟩
      have : led L m t = t := by cases m <;> simp [led, hv]
      rw [this]
      simp [e1, isv_ok, hv]
    | true =>
      cases hg : L.lookup t with
      | none =>
        refine ⟨k, ?_⟩
        have : led L m t = t := by cases m <;> simp [led, hv, hg]
        rw [this]
        simp [e1, e2, isv_ok, hv, h, kk_str, get_enc hv g, hg]
      | some u =>
        cases m with
        | zero =>
          refine ⟨k, ?_⟩
          have : ¬ (k : Int) ≤ L.length := by omega
          simp [e1, e2, isv_ok, hv, h, kk_str, get_enc hv g, hg, led, encK, this]
        | succ m =>
          have hle : k ≤ L.length := by omega
          obtain ⟨z, ih⟩ := led_loop g hl i h m n (k + 1) u (by omega) (by omega)
          refine ⟨z, ?_⟩
          have e3 : led L (m + 1) t = led L m u := by simp [led, hv, hg]
          rw [e3, ← ih]
          have hle2 : (k : Int) ≤ (encK L).length := by simp [encK]; omega
          simp [e1, e2, isv_ok, hv, h, kk_str, get_enc hv g, hg, hle2, addI]
theorem led_ok {L : Lk} (g : Good L) (hl : L.length ≤ 100) (t : T6) (i : Nat) {hp : AH} (h : hp[i]? = some (.dic false (encK L))) : m_led_to [t.av, .ref i] hp = .ok (led L (L.length + 1) t).av hp := by
  obtain ⟨z, hz⟩ := led_loop g hl i h (L.length + 1) 1000000 0 t (by omega) (by omega)
  simp only [m_led_to, fnM_at, b_led_to, seqM_at]
  simp [slots0]
  simp at hz
  rw [hz]
  simp

theorem eq_sh (a b : T6) : eqA a.sh b.sh = decide (a = b) := by
  cases a <;> cases b <;> simp [sh, isV, nm, va]
theorem okA_sh (a : T6) : okA 60 a.sh = true := by
  cases a <;> simp [sh, isV, nm, va]
theorem plC_sh {a : T6} {h : AH} : plC (coA h a.sh) (some a.sh) = some a.sh := by
  cases a <;> rfl
def stepL (L : Lk) (l r : T6) : Option Lk :=
  if (led L (L.length + 1) l).isV then (if led L (L.length + 1) l = led L (L.length + 1) r then some L else some (putL L (led L (L.length + 1) l) (led L (L.length + 1) r)))
  else if (led L (L.length + 1) r).isV then some (putL L (led L (L.length + 1) r) (led L (L.length + 1) l))
  else if led L (L.length + 1) l = led L (L.length + 1) r then some L else none
def runL (L : Lk) : List (T6 × T6) → Option Lk
  | [] => some L
  | e :: ps => (stepL L e.1 e.2).bind fun L => runL L ps
theorem runL_cons (L : Lk) (l u : T6) (ps : List (T6 × T6)) : runL L ((l, u) :: ps) = (stepL L l u).bind fun L => runL L ps := rfl
theorem putL_len (L : Lk) (k v : T6) : (putL L k v).length ≤ L.length + 1 := by
  unfold putL
  split <;> simp
theorem stepL_ok {L L' : Lk} {l r : T6} (g : Good L) (h : stepL L l r = some L') : Good L' ∧ L'.length ≤ L.length + 1 := by
  unfold stepL at h
  split at h
  · rename_i h1
    split at h
    · cases h; exact ⟨g, by omega⟩
    · cases h; exact ⟨put_good h1 g, putL_len _ _ _⟩
  · split at h
    · rename_i h1
      cases h; exact ⟨put_good h1 g, putL_len _ _ _⟩
    · split at h
      · cases h; exact ⟨g, by omega⟩
      · cases h
abbrev aBody : M Fl := (seqM
 (parM 4 5 (consM (callM 2 m_led_to [] (consM (ixM (pkV 0) (pkV 3)) (consM (vM 2) nilM))) (consM (callM 2 m_led_to [] (consM (ixM (pkV 1) (pkV 3)) (consM (vM 2) nilM))) nilM)))
 (ifM (truM (pkE (methM "is_variable" [⟨"Term", 1, m_Term_is_variable, []⟩] (vM 4) nilM))) (ifM (cmpM neC (pkE (methM "shown" [⟨"Term", 1, m_Term_shown, []⟩] (vM 4) nilM)) (pkE (methM "shown" [⟨"Term", 1, m_Term_shown, []⟩] (vM 5) nilM))) (asgM (putG (pkV 2) (pkE (fldM ["Term"] "name" (pkV 4)))) (vM 5)) nxM) (ifM (truM (pkE (methM "is_variable" [⟨"Term", 1, m_Term_is_variable, []⟩] (vM 5) nilM))) (asgM (putG (pkV 2) (pkE (fldM ["Term"] "name" (pkV 5)))) (vM 4)) (ifM (cmpM neC (pkE (methM "shown" [⟨"Term", 1, m_Term_shown, []⟩] (vM 4) nilM)) (pkE (methM "shown" [⟨"Term", 1, m_Term_shown, []⟩] (vM 5) nilM))) (retM (cM .non)) nxM))))
theorem atI_map {α β : Type} (f : α → β) (xs : List α) (i : Nat) (h : i < xs.length) : atI (xs.map f) (i : Int) = some (f xs[i]) := by
  unfold atI ixN
  simp [h]
theorem body_ok {L : Lk} (g : Good L) (hl : L.length ≤ 50) (one other : List T6) (i : Nat) (h1 : i < one.length) (h2 : i < other.length) (hp0 : AH) (b c : Option SV) :
    ∃ b' c', aBody ⟨[some (.val (.vl (one.map av))), some (.val (.vl (other.map av))), some (.val (.ref hp0.length)), some (.val (.int i)), b, c], hp0 ++ [.dic false (encK L)]⟩ = match stepL L one[i] other[i] with
      | some L' => .ok .nx ⟨[some (.val (.vl (one.map av))), some (.val (.vl (other.map av))), some (.val (.ref hp0.length)), some (.val (.int i)), b', c'], hp0 ++ [.dic false (encK L')]⟩
      | none => .ok (.rt .non) ⟨[some (.val (.vl (one.map av))), some (.val (.vl (other.map av))), some (.val (.ref hp0.length)), some (.val (.int i)), b', c'], hp0 ++ [.dic false (encK L)]⟩ := by
  have hi : (hp0 ++ [AO.dic false (encK L)])[hp0.length]? = some (.dic false (encK L)) := by simp
  have l1 := led_ok g (by omega) one[i] hp0.length hi
  have l2 := led_ok g (by omega) other[i] hp0.length hi
  have e1 := atI_map av one i h1
  have e2 := atI_map av other i h2
  have hle : (encK L).length < 16777216 := by simp [encK]; omega
  have ec : ∀ (t : T6) (hp : AH), clsOf hp t.av = some (("Term" : Str), [(("name" : Str), .str t.nm), (("value" : Str), t.va)]) := fun _ _ => rfl
  have ek : ∀ (t : T6) (hp : AH), coA hp t.av = .ob (.ins "Term" [("name", .str t.nm), ("value", t.va)]) := fun _ _ => rfl
  refine ⟨some (.val (led L (L.length + 1) one[i]).av), some (.val (led L (L.length + 1) other[i]).av), ?_⟩
  unfold stepL
  cases ha : (led L (L.length + 1) one[i]).isV with
  | true =>
    by_cases hab : led L (L.length + 1) one[i] = led L (L.length + 1) other[i]
    · rw [hab] at ha
      simp [e1, e2, l1, l2, ec, isv_ok, ha, sh_ok, plC_sh, okA_sh, eq_sh, hab]
    · simp [e1, e2, l1, l2, ec, ek, isv_ok, ha, sh_ok, plC_sh, okA_sh, eq_sh, hab, kk_str, hle, put_enc ha g]
  | false =>
    cases hb : (led L (L.length + 1) other[i]).isV with
    | true => simp [e1, e2, l1, l2, ec, ek, isv_ok, ha, hb, sh_ok, plC_sh, okA_sh, eq_sh, kk_str, hle, put_enc hb g]
    | false =>
      by_cases hab : led L (L.length + 1) one[i] = led L (L.length + 1) other[i]
      · rw [hab] at ha
        simp [e1, e2, l1, l2, ec, isv_ok, ha, hb, sh_ok, plC_sh, okA_sh, eq_sh, hab]
      · simp [e1, e2, l1, l2, ec, isv_ok, ha, hb, sh_ok, plC_sh, okA_sh, eq_sh, hab]
theorem zip_drop {α β : Type} (xs : List α) (ys : List β) (i : Nat) (h1 : i < xs.length) (h2 : i < ys.length) : (xs.zip ys).drop i = (xs[i], ys[i]) :: (xs.zip ys).drop (i + 1) := by
  rw [List.drop_eq_getElem_cons (by simp; omega)]
  simp
theorem loop_ok (one other : List T6) (hlen : one.length = other.length) (h50 : one.length ≤ 40) (hp0 : AH) : ∀ (m i : Nat) (L : Lk) (a b c : Option SV), i + m = one.length → Good L → L.length ≤ i →
    match runL L ((one.zip other).drop i) with
      | some L' => Good L' ∧ L'.length ≤ one.length ∧ ∃ a' b' c', forL (setV 3) aBody (nats i m) ⟨[some (.val (.vl (one.map av))), some (.val (.vl (other.map av))), some (.val (.ref hp0.length)), a, b, c], hp0 ++ [.dic false (encK L)]⟩ = .ok .nx ⟨[some (.val (.vl (one.map av))), some (.val (.vl (other.map av))), some (.val (.ref hp0.length)), a', b', c'], hp0 ++ [.dic false (encK L')]⟩
      | none => ∃ a' b' c' L', forL (setV 3) aBody (nats i m) ⟨[some (.val (.vl (one.map av))), some (.val (.vl (other.map av))), some (.val (.ref hp0.length)), a, b, c], hp0 ++ [.dic false (encK L)]⟩ = .ok (.rt .non) ⟨[some (.val (.vl (one.map av))), some (.val (.vl (other.map av))), some (.val (.ref hp0.length)), a', b', c'], hp0 ++ [.dic false (encK L')]⟩
  | 0, i, L, a, b, c, hi, g, hL => by
    rw [List.drop_of_length_le (by simp; omega)]
    exact ⟨g, by omega, a, b, c, rfl⟩
  | m + 1, i, L, a, b, c, hi, g, hL => by
    rw [zip_drop one other i (by omega) (by omega)]
    obtain ⟨b', c', hb⟩ := body_ok g (by omega) one other i (by omega) (by omega) hp0 b c
    rw [nats_succ, forL_setV]
    simp only [List.set_cons_succ, List.set_cons_zero]
    rw [hb]
    rw [runL_cons]
    cases z : stepL L one[i] other[i] with
    | none =>
      simp only [z, Option.bind_none]
      exact ⟨_, _, _, _, rfl⟩
    | some L' =>
      obtain ⟨g', hl'⟩ := stepL_ok g z
      simp only [z, Option.bind_some, turnR_nx]
      exact loop_ok one other hlen h50 hp0 m (i + 1) L' _ _ _ (by omega) g' (by omega)
theorem alike_ok (one other : List T6) (h50 : one.length ≤ 40) (hp0 : AH) :
    (one.length ≠ other.length → m_made_alike [.vl (one.map av), .vl (other.map av)] hp0 = .ok .non hp0) ∧
    (one.length = other.length → match runL [] (one.zip other) with
      | some L' => Good L' ∧ L'.length ≤ one.length ∧ m_made_alike [.vl (one.map av), .vl (other.map av)] hp0 = .ok (.ref hp0.length) (hp0 ++ [.dic false (encK L')])
      | none => ∃ L', m_made_alike [.vl (one.map av), .vl (other.map av)] hp0 = .ok .non (hp0 ++ [.dic false (encK L')])) := by
  constructor
  · intro h
    have : ¬ (one.length : Int) = other.length := by omega
    simp [m_made_alike, b_made_alike, slots0, this]
  · intro h
    have e := loop_ok one other h h50 hp0 one.length 0 [] none none none (by omega) (by simp [Good]) (by simp)
    rw [List.drop_zero] at e
    have e0 : AO.dic false (encK []) = .dic false [] := rfl
    have e1 : rngO [.int (one.length : Int)] = some (nats 0 one.length) := rngO_nat (by omega)
    rw [e0] at e
    cases z : runL [] (one.zip other) with
    | some L' =>
      rw [z] at e
      obtain ⟨g, hl, a', b', c', e⟩ := e
      refine ⟨g, hl, ?_⟩
      rw [h] at e e1
      simp [m_made_alike, b_made_alike, slots0, h, e1]
      rw [e]
      simp
    | none =>
      rw [z] at e
      obtain ⟨a', b', c', L', e⟩ := e
      refine ⟨L', ?_⟩
      rw [h] at e e1
      simp [m_made_alike, b_made_alike, slots0, h, e1]
      rw [e]
      simp

theorem xyz0 : ixO (.str (Str.ofString "XYZ")) (some (.int 0)) = some (.str (Str.ofString "X")) := by kernel_rfl
theorem xyz1 : ixO (.str (Str.ofString "XYZ")) (some (.int 1)) = some (.str (Str.ofString "Y")) := by kernel_rfl
theorem xyz2 : ixO (.str (Str.ofString "XYZ")) (some (.int 2)) = some (.str (Str.ofString "Z")) := by kernel_rfl
theorem drawn_ok {d : AO} (hd : isD d) (t : AH) : ∃ (row : List T6) (d' : AO), row.length ≤ 4 ∧ isD d' ∧ m__law_drawn [.ref 0] (d :: t) = .ok (.vl (row.map sh)) (d' :: t) := by
  obtain ⟨v, d1, h0, h1, hd1, e1⟩ := roll_ok hd t 5 (by decide) (by decide)
  have key := compL_draw (enc := sh) (vs := [1]) (g := setV 1) (c := yesM) (e := (ifM (cmpM gtC (pkE (callM 2 m__law_roll [] (consM (vM 0) (consM (cM (.int 3)) nilM)))) (pkE (cM (.int 0)))) (tupM (consM (cM (.str "var")) (consM (ixM (pkE (cM (.str "XYZ"))) (pkE (callM 2 m__law_roll [] (consM (vM 0) (consM (cM (.int 3)) nilM))))) nilM))) (tupM (consM (cM (.str "val")) (consM (ixM (pkE (frM (lstM (consM (cM (.int 0)) (consM (cM (.int 1)) (consM (cM (.str "a")) nilM)))))) (pkE (callM 2 m__law_roll [] (consM (vM 0) (consM (cM (.int 3)) nilM))))) nilM)))))
    (sl := [some (.val (.ref 0)), none]) (fun hp => ∃ d, isD d ∧ hp = d :: t) (xs := nats 0 v.toNat) (acc := []) (by rw [nats_length]; simp; omega) ?_ ⟨[some (.val (.ref 0)), none], d1 :: t⟩ (d1 :: t) rfl ⟨d1, hd1, rfl⟩
  · obtain ⟨ts, hp', k1, ⟨d', hd', rfl⟩, k3⟩ := key
    refine ⟨ts, d', by rw [k3, nats_length]; omega, hd', ?_⟩
    simp [m__law_drawn, b__law_drawn, slots0, e1, rngO_int h0 (by omega), ownAt]
    simp at k1
    rw [k1]
    simp [putBack, wipeL]
  · rintro x hx hp ⟨d, hd, rfl⟩
    obtain ⟨v, d1, h0, h1, hd1, e1⟩ := roll_ok hd t 3 (by decide) (by decide)
    obtain ⟨v2, d2, h2, h3, hd2, e2⟩ := roll_ok hd1 t 3 (by decide) (by decide)
    by_cases hv : 0 < v
    · have : v2 = 0 ∨ v2 = 1 ∨ v2 = 2 := by omega
      rcases this with rfl | rfl | rfl
      · exact ⟨(), _, _, X, ⟨[some (.val (.ref 0)), some (.val x)], d2 :: t⟩, d2 :: t, rfl, rfl, by simp [wipeL, e1, e2, hv, sh, isV, nm, xyz0, xyz1, xyz2, -ixO_str], rfl, d2, hd2, rfl⟩
      · exact ⟨(), _, _, Y, ⟨[some (.val (.ref 0)), some (.val x)], d2 :: t⟩, d2 :: t, rfl, rfl, by simp [wipeL, e1, e2, hv, sh, isV, nm, xyz0, xyz1, xyz2, -ixO_str], rfl, d2, hd2, rfl⟩
      · exact ⟨(), _, _, Z, ⟨[some (.val (.ref 0)), some (.val x)], d2 :: t⟩, d2 :: t, rfl, rfl, by simp [wipeL, e1, e2, hv, sh, isV, nm, xyz0, xyz1, xyz2, -ixO_str], rfl, d2, hd2, rfl⟩
    · have : v2 = 0 ∨ v2 = 1 ∨ v2 = 2 := by omega
      rcases this with rfl | rfl | rfl
      · exact ⟨(), _, _, p, ⟨[some (.val (.ref 0)), some (.val x)], d2 :: t⟩, d2 :: t, rfl, rfl, by simp [wipeL, e1, e2, hv, sh, isV, va, atI, ixN], rfl, d2, hd2, rfl⟩
      · exact ⟨(), _, _, q, ⟨[some (.val (.ref 0)), some (.val x)], d2 :: t⟩, d2 :: t, rfl, rfl, by simp [wipeL, e1, e2, hv, sh, isV, va, atI, ixN], rfl, d2, hd2, rfl⟩
      · exact ⟨(), _, _, T6.r, ⟨[some (.val (.ref 0)), some (.val x)], d2 :: t⟩, d2 :: t, rfl, rfl, by simp [wipeL, e1, e2, hv, sh, isV, va, atI, ixN], rfl, d2, hd2, rfl⟩

def cst (k : Nat) : T6 := if k = 0 then .p else if k = 1 then .q else .r
def gA (n : Nat) : T6 → T6
  | .X => cst (n % 3)
  | .Y => cst (n / 3 % 3)
  | .Z => cst (n / 9)
  | t => t
def tab (n : Nat) : AV := .vd false [(.str "X", (gA n .X).va), (.str "Y", (gA n .Y).va), (.str "Z", (gA n .Z).va)]
theorem atC0 (n : Nat) : atI [AV.int 0, .int 1, .str "a"] ((n : Int) % 3) = some (gA n .X).va := by
  have h : n % 3 = 0 ∨ n % 3 = 1 ∨ n % 3 = 2 := by omega
  rcases h with h | h | h
  · have : (n : Int) % 3 = 0 := by omega
    simp [this, gA, h, cst, va, atI, ixN]
  · have : (n : Int) % 3 = 1 := by omega
    simp [this, gA, h, cst, va, atI, ixN]
  · have : (n : Int) % 3 = 2 := by omega
    simp [this, gA, h, cst, va, atI, ixN]
theorem atC1 (n : Nat) : atI [AV.int 0, .int 1, .str "a"] ((n : Int) / 3 % 3) = some (gA n .Y).va := by
  have h : n / 3 % 3 = 0 ∨ n / 3 % 3 = 1 ∨ n / 3 % 3 = 2 := by omega
  rcases h with h | h | h
  · have : (n : Int) / 3 % 3 = 0 := by omega
    simp [this, gA, h, cst, va, atI, ixN]
  · have : (n : Int) / 3 % 3 = 1 := by omega
    simp [this, gA, h, cst, va, atI, ixN]
  · have : (n : Int) / 3 % 3 = 2 := by omega
    simp [this, gA, h, cst, va, atI, ixN]
theorem atC2 (n : Nat) (hn : n < 27) : atI [AV.int 0, .int 1, .str "a"] ((n : Int) / 9) = some (gA n .Z).va := by
  have h : n / 9 = 0 ∨ n / 9 = 1 ∨ n / 9 = 2 := by omega
  rcases h with h | h | h
  · have : (n : Int) / 9 = 0 := by omega
    simp [this, gA, h, cst, va, atI, ixN]
  · have : (n : Int) / 9 = 1 := by omega
    simp [this, gA, h, cst, va, atI, ixN]
  · have : (n : Int) / 9 = 2 := by omega
    simp [this, gA, h, cst, va, atI, ixN]
theorem dMrg3 (a b c : AV) : dMrg [] [(.str "X", a), (.str "Y", b), (.str "Z", c)] = [(.str "X", a), (.str "Y", b), (.str "Z", c)] := by
  simp [dMrg, dPut, keq]
theorem getT (n : Nat) (t : T6) (h : t.isV = true) : dGet false [(.str "X", (gA n .X).va), (.str "Y", (gA n .Y).va), (.str "Z", (gA n .Z).va)] (.str t.nm) = some (gA n t).va := by
  cases t <;> simp [isV] at h <;> simp [dGet, keq, nm]
theorem gA_c (n : Nat) (t : T6) : (gA n t).isV = false := by
  cases t <;> simp only [gA, cst] <;> (repeat' split) <;> rfl
theorem va_inj {a b : T6} (ha : a.isV = false) (hb : b.isV = false) : eqA a.va b.va = decide (a = b) := by
  cases a <;> cases b <;> simp [isV] at ha hb <;> simp [va]
theorem va_ok {n : Nat} (a : T6) : okA n a.va = true := by cases a <;> simp [va]
theorem okL_va {n m : Nat} (ts : List T6) : okL n (ts.map fun t => (gA m t).va) = true := by
  induction ts with
  | nil => simp
  | cons t ts ih => simp [va_ok, ih]
theorem eqL_va {m : Nat} : ∀ (ts us : List T6), eqL (ts.map fun t => (gA m t).va) (us.map fun t => (gA m t).va) = decide (ts.map (gA m) = us.map (gA m))
  | [], [] => by simp
  | [], u :: us => by simp
  | t :: ts, [] => by simp
  | t :: ts, u :: us => by
    rw [List.map_cons, List.map_cons, eqL_cons, va_inj (gA_c _ _) (gA_c _ _), eqL_va ts us]
    by_cases h : gA m t = gA m u <;> simp [h]
abbrev fElt : M AV := (ifM (cmpM eqX (pkV 7) (pkE (cM (.str "var")))) (ixM (pkV 4) (pkV 8)) (vM 8))
theorem row_ok (n : Nat) (ts : List T6) (hl : ts.length ≤ 50) (a b c d e f : Option SV) (hp : AH) :
    compL [7, 8] (tupG 2 [(setV 7), (setV 8)]) yesM fElt (ts.map sh) [] ⟨[a, b, c, d, some (.val (tab n)), e, f, none, none], hp⟩ = .ok (ts.map fun t => (gA n t).va) ⟨[a, b, c, d, some (.val (tab n)), e, f, none, none], hp⟩ := by
  have := compL_map (enc := sh) (vs := [7, 8]) (g := tupG 2 [(setV 7), (setV 8)]) (c := yesM) (e := fElt) (sl := [a, b, c, d, some (.val (tab n)), e, f, none, none]) (hp := hp) (fun t => (gA n t).va) (ts := ts) (acc := []) (by simp; omega) ?_ ⟨[a, b, c, d, some (.val (tab n)), e, f, none, none], hp⟩ rfl
  · rw [this]
    simp [wipeL]
  · intro t ht
    cases hv : t.isV with
    | true => exact ⟨(), _, _, ⟨[a, b, c, d, some (.val (tab n)), e, f, some (.val (.str "var")), some (.val (.str t.nm))], hp⟩, by simp [sh, hv, wipeL]; exact rfl, rfl, by simp [tab, getT n t hv], rfl⟩
    | false =>
      have : gA n t = t := by cases t <;> simp [isV] at hv <;> rfl
      exact ⟨(), _, _, ⟨[a, b, c, d, some (.val (tab n)), e, f, some (.val (.str "val")), some (.val t.va)], hp⟩, by simp [sh, hv, wipeL]; exact rfl, rfl, by simp [tab, this], rfl⟩
def fits (one other : List T6) : List Nat := (List.range 27).filter fun n => decide (one.map (gA n) = other.map (gA n))
abbrev fBody : M Fl := (seqM
 (asgM (setV 4) (frM (disM (prM (cM (.str "X")) (ixM (pkE (frM (lstM (consM (cM (.int 0)) (consM (cM (.int 1)) (consM (cM (.str "a")) nilM)))))) (pkE (op2 modA (vM 3) (cM (.int 3))))) (prM (cM (.str "Y")) (ixM (pkE (frM (lstM (consM (cM (.int 0)) (consM (cM (.int 1)) (consM (cM (.str "a")) nilM)))))) (pkE (op2 modA (op2 fdivA (vM 3) (cM (.int 3))) (cM (.int 3))))) (prM (cM (.str "Z")) (ixM (pkE (frM (lstM (consM (cM (.int 0)) (consM (cM (.int 1)) (consM (cM (.str "a")) nilM)))))) (pkE (op2 fdivA (vM 3) (cM (.int 9))))) nilM))))))
 (seqM
 (asgM (setV 5) (frM (compM [7, 8] (itM (vM 0)) (tupG 2 [(setV 7), (setV 8)]) yesM fElt)))
 (seqM
 (asgM (setV 6) (frM (compM [7, 8] (itM (vM 1)) (tupG 2 [(setV 7), (setV 8)]) yesM fElt)))
 (ifM (cmpM eqX (pkV 5) (pkV 6)) (expM (appM (isLst (pkV 2)) (vM 4))) nxM))))
theorem fBody_ok (n : Nat) (hn : n < 27) (one other : List T6) (h1 : one.length ≤ 50) (h2 : other.length ≤ 50) (acc : List AV) (hacc : acc.length ≤ 100) (a b c : Option SV) (hp : AH)
    (hb : ownAt [a, b, c] [0, 1, 2] = false) :
    ∃ a' b' c', ownAt [a', b', c'] [0, 1, 2] = false ∧ fBody ⟨[some (.val (.vl (one.map sh))), some (.val (.vl (other.map sh))), some (.own (.lst acc)), some (.val (.int n)), a, b, c, none, none], hp⟩ =
      .ok .nx ⟨[some (.val (.vl (one.map sh))), some (.val (.vl (other.map sh))), some (.own (.lst (if one.map (gA n) = other.map (gA n) then acc ++ [tab n] else acc))), some (.val (.int n)), a', b', c', none, none], hp⟩ := by
  refine ⟨some (.val (tab n)), some (.val (.vl (one.map fun t => (gA n t).va))), some (.val (.vl (other.map fun t => (gA n t).va))), rfl, ?_⟩
  have r1 := row_ok n one h1
  have r2 := row_ok n other h2
  have e4 : AV.vd false [(.str "X", (gA n .X).va), (.str "Y", (gA n .Y).va), (.str "Z", (gA n .Z).va)] = tab n := rfl
  have hlt : acc.length < 16777216 := by omega
  by_cases h : one.map (gA n) = other.map (gA n)
  · simp [atC0, atC1, atC2 n hn, dMrg3, e4, ownAt, r1, r2, putBack, eqL_va, okL_va, h, hlt]
  · simp [atC0, atC1, atC2 n hn, dMrg3, e4, ownAt, r1, r2, putBack, eqL_va, okL_va, h, hlt]
theorem fLoop_ok (one other : List T6) (h1 : one.length ≤ 50) (h2 : other.length ≤ 50) (hp : AH) : ∀ (m i : Nat) (acc : List AV) (z a b c : Option SV), i + m ≤ 27 → acc.length ≤ i → ownAt [a, b, c] [0, 1, 2] = false →
    ∃ z' a' b' c', forL (setV 3) fBody (nats i m) ⟨[some (.val (.vl (one.map sh))), some (.val (.vl (other.map sh))), some (.own (.lst acc)), z, a, b, c, none, none], hp⟩ =
      .ok .nx ⟨[some (.val (.vl (one.map sh))), some (.val (.vl (other.map sh))), some (.own (.lst (acc ++ ((List.range' i m).filter fun n => decide (one.map (gA n) = other.map (gA n))).map tab))), z', a', b', c', none, none], hp⟩
  | 0, i, acc, z, a, b, c, _, _, _ => ⟨z, a, b, c, by simp [nats_zero, forL_nil]⟩
  | m + 1, i, acc, z, a, b, c, hi, hacc, ho => by
    rw [nats_succ, forL_setV]
    simp only [List.set_cons_succ, List.set_cons_zero]
    obtain ⟨a', b', c', ho', e⟩ := fBody_ok i (by omega) one other h1 h2 acc (by omega) a b c hp ho
    rw [e, turnR_nx]
    obtain ⟨z2, a2, b2, c2, ih⟩ := fLoop_ok one other h1 h2 hp m (i + 1) (if one.map (gA i) = other.map (gA i) then acc ++ [tab i] else acc) (some (.val (.int i))) a' b' c' (by omega) (by split <;> (try simp) <;> omega) ho'
    refine ⟨z2, a2, b2, c2, ?_⟩
    rw [ih, List.range'_succ, List.filter_cons]
    by_cases h : one.map (gA i) = other.map (gA i)
    · simp [h]
    · simp [h]
theorem fits_ok (one other : List T6) (h1 : one.length ≤ 50) (h2 : other.length ≤ 50) (hp : AH) : m__law_fits [.vl (one.map sh), .vl (other.map sh)] hp = .ok (.vl ((fits one other).map tab)) hp := by
  obtain ⟨z, a, b, c, e⟩ := fLoop_ok one other h1 h2 hp 27 0 [] none none none none (by omega) (by simp) rfl
  have e1 : rngO [.int 27] = some (nats 0 27) := rngO_nat (n := 27) (by decide)
  simp [m__law_fits, b__law_fits, slots0, e1]
  rw [e]
  simp [fits, List.range_eq_range']

abbrev S3 := Option T6 × Option T6 × Option T6
def at3 (s : S3) : T6 → Option T6
  | .X => s.1
  | .Y => s.2.1
  | .Z => s.2.2
  | _ => none
def one1 (o : Option T6) : Nat := if o.isSome then 1 else 0
def cnt (s : S3) : Nat := one1 s.1 + one1 s.2.1 + one1 s.2.2
def ledS (s : S3) : Nat → T6 → T6
  | 0, t => t
  | n + 1, t => if t.isV then (match at3 s t with
    | some u => ledS s n u
    | none => t) else t
def upd3 (s : S3) (k v : T6) : S3 := match k with
  | .X => (some v, s.2.1, s.2.2)
  | .Y => (s.1, some v, s.2.2)
  | .Z => (s.1, s.2.1, some v)
  | _ => s
def lf (s : S3) (t : T6) : T6 := ledS s (cnt s + 1) t
def stepS (s : S3) (l u : T6) : Option S3 :=
  if (lf s l).isV then (if lf s l = lf s u then some s else some (upd3 s (lf s l) (lf s u)))
  else if (lf s u).isV then some (upd3 s (lf s u) (lf s l))
  else if lf s l = lf s u then some s else none
def all6 : List T6 := [.X, .Y, .Z, .p, .q, .r]
theorem mem6 (t : T6) : t ∈ all6 := by cases t <;> simp [all6]
def inv3 (s : S3) : Bool := all6.all fun t => !(lf s t).isV || (at3 s (lf s t)).isNone
def mods (s : S3) (n : Nat) : Bool := [T6.X, .Y, .Z].all fun v => match at3 s v with
  | some u => decide (gA n v = gA n u)
  | none => true
def f1 (s : S3) : Bool := !inv3 s || all6.all fun l => all6.all fun u => match stepS s l u with
  | some s' => inv3 s' && ((List.range 27).all fun n => mods s' n == (mods s n && decide (gA n l = gA n u))) && decide (lf s' l = lf s' u) && (all6.all fun a => all6.all fun b => !decide (lf s a = lf s b) || decide (lf s' a = lf s' b))
  | none => (List.range 27).all fun n => !(mods s n && decide (gA n l = gA n u))
def opt7 : List (Option T6) := none :: all6.map some
def allS : List S3 := opt7.flatMap fun a => opt7.flatMap fun b => opt7.map fun c => (a, b, c)
theorem mem7 (o : Option T6) : o ∈ opt7 := by
  cases o with
  | none => simp [opt7]
  | some t => cases t <;> simp [opt7, all6]
theorem memS (s : S3) : s ∈ allS := by
  obtain ⟨a, b, c⟩ := s
  unfold allS
  rw [List.mem_flatMap]
  refine ⟨a, mem7 a, ?_⟩
  rw [List.mem_flatMap]
  refine ⟨b, mem7 b, ?_⟩
  rw [List.mem_map]
  exact ⟨c, mem7 c, rfl⟩
theorem f1_all : allS.all f1 = true := by kernel_rfl
def free3 (es : List T6) : List (Nat × T6) := (es.zipIdx.map fun e => (e.2, e.1)).filter fun e => e.2.isV && !(es.take e.1).contains e.2
def f2 (s : S3) : Bool := !inv3 s || decide (([1, 3, 9, 27] : List Nat)[(free3 ([T6.X, .Y, .Z].map (lf s))).length]? = some ((List.range 27).filter (mods s)).length)
theorem f2_all : allS.all f2 = true := by kernel_rfl
def f3 (s : S3) : Bool := !inv3 s || (List.range 27).all fun n => !mods s n || all6.all fun v => decide (gA n (lf s v) = gA n v)
theorem f3_all : allS.all f3 = true := by kernel_rfl

def SL (L : Lk) : S3 := (L.lookup .X, L.lookup .Y, L.lookup .Z)
theorem at_SL (L : Lk) {t : T6} (h : t.isV = true) : at3 (SL L) t = L.lookup t := by
  cases t <;> simp [T6.isV] at h <;> rfl
theorem led_S (L : Lk) : ∀ (n : Nat) (t : T6), led L n t = ledS (SL L) n t
  | 0, t => rfl
  | n + 1, t => by
    unfold led ledS
    cases h : t.isV with
    | false => rfl
    | true =>
      rw [if_pos rfl, if_pos rfl, at_SL L h]
      cases L.lookup t with
      | none => rfl
      | some u => exact led_S L n u
def Nd (L : Lk) : Prop := (L.map (·.1)).Nodup
theorem look_none {L : Lk} {k : T6} (h : k ∉ L.map (·.1)) : L.lookup k = none := by
  induction L with
  | nil => rfl
  | cons e L ih =>
    obtain ⟨a, b⟩ := e
    simp only [List.map_cons, List.mem_cons, not_or] at h
    rw [List.lookup_cons]
    have : (k == a) = false := by simpa using h.1
    rw [this]
    exact ih h.2
theorem look_self {L : Lk} {a b : T6} : List.lookup a ((a, b) :: L) = some b := by
  rw [List.lookup_cons]; simp
theorem look_other {L : Lk} {a b k : T6} (h : k ≠ a) : List.lookup k ((a, b) :: L) = L.lookup k := by
  rw [List.lookup_cons]
  have : (k == a) = false := by simpa using h
  rw [this]
theorem look_c {L : Lk} {a b k : T6} : List.lookup k ((a, b) :: L) = if k = a then some b else L.lookup k := by
  by_cases h : k = a
  · subst h; rw [if_pos rfl]; exact look_self
  · rw [if_neg h]; exact look_other h
theorem len_SL : ∀ {L : Lk}, Good L → Nd L → L.length = cnt (SL L)
  | [], _, _ => rfl
  | (a, b) :: L, g, nd => by
    have ih := len_SL (L := L) (fun e he => g e (List.mem_cons_of_mem _ he)) (List.nodup_cons.mp nd).2
    have hn := look_none (List.nodup_cons.mp nd).1
    have hv := g (a, b) (by simp)
    rw [List.length_cons, ih]
    have o : ∀ k : T6, k ≠ a → List.lookup k ((a, b) :: L) = L.lookup k := fun k h => look_other h
    have o2 : List.lookup a ((a, b) :: L) = some b := look_self
    unfold cnt SL
    cases a <;> simp [T6.isV] at hv
    · rw [o .Y (by decide), o .Z (by decide), o2, hn]; simp [one1]; omega
    · rw [o .X (by decide), o .Z (by decide), o2, hn]; simp [one1]; omega
    · rw [o .X (by decide), o .Y (by decide), o2, hn]; simp [one1]
theorem look_put (L : Lk) (k v t : T6) : (putL L k v).lookup t = if t = k then some v else L.lookup t := by
  unfold putL
  split
  · rename_i h
    have go : ∀ (L : Lk), (L.map fun e => if e.1 = k then (e.1, v) else e).lookup t = if t = k ∧ (L.any (fun e => decide (e.1 = k)) = true) then some v else L.lookup t := by
      intro L
      induction L with
      | nil => simp
      | cons e L ih =>
        obtain ⟨a, b⟩ := e
        rw [List.map_cons]
        by_cases ha : a = k
        · subst ha
          by_cases ht : t = a
          · subst ht; simp [look_self]
          · simp [look_other ht, ih, ht]
        · by_cases ht : t = a
          · subst ht
            simp [ha, look_self]
          · have hd : decide (a = k) = false := by simpa using ha
            rw [if_neg ha, look_other ht, look_other ht, ih, List.any_cons, hd, Bool.false_or]
    rw [go L, h]
    simp
  · rename_i h
    have hn : k ∉ L.map (·.1) := by
      intro hm
      obtain ⟨e, h1, h2⟩ := List.mem_map.mp hm
      exact h (List.any_eq_true.mpr ⟨e, h1, by simpa using h2⟩)
    have go : ∀ (L : Lk), (L ++ [(k, v)]).lookup t = (L.lookup t).or (if t = k then some v else none) := by
      intro L
      induction L with
      | nil =>
        by_cases ht : t = k
        · subst ht; simp [look_self]
        · simp [look_other ht, ht]
      | cons e L ih =>
        obtain ⟨a, b⟩ := e
        by_cases ht : t = a
        · subst ht; simp [look_self]
        · simp [look_other ht, ih]
    rw [go L]
    by_cases ht : t = k
    · subst ht
      simp [look_none hn]
    · simp [ht]
theorem SL_put (L : Lk) (v : T6) {k : T6} (h : k.isV = true) : SL (putL L k v) = upd3 (SL L) k v := by
  cases k <;> simp [T6.isV] at h <;> simp [SL, upd3, look_put]
theorem nd_put {L : Lk} {k v : T6} (nd : Nd L) : Nd (putL L k v) := by
  unfold putL
  split
  · unfold Nd
    rw [List.map_map]
    have : ((fun e : T6 × T6 => e.1) ∘ fun e => if e.1 = k then (e.1, v) else e) = fun e => e.1 := by
      funext e
      simp only [Function.comp]
      split <;> rfl
    rw [this]
    exact nd
  · rename_i h
    unfold Nd
    rw [List.map_append]
    refine List.nodup_append.mpr ⟨nd, by simp, ?_⟩
    intro a ha b hb
    simp at hb
    subst hb
    intro e
    subst e
    obtain ⟨e, h1, h2⟩ := List.mem_map.mp ha
    exact h (List.any_eq_true.mpr ⟨e, h1, by simpa using h2⟩)
theorem lf_SL {L : Lk} (g : Good L) (nd : Nd L) (t : T6) : led L (L.length + 1) t = lf (SL L) t := by
  rw [led_S, len_SL g nd]
  rfl
theorem step_SL {L : Lk} (g : Good L) (nd : Nd L) (l u : T6) : (stepL L l u).map SL = stepS (SL L) l u ∧ ∀ L', stepL L l u = some L' → Nd L' := by
  unfold stepL stepS
  rw [lf_SL g nd, lf_SL g nd]
  by_cases h1 : (lf (SL L) l).isV = true
  · rw [if_pos h1, if_pos h1]
    by_cases h2 : lf (SL L) l = lf (SL L) u
    · rw [if_pos h2, if_pos h2]
      exact ⟨rfl, fun L' e => by cases e; exact nd⟩
    · rw [if_neg h2, if_neg h2]
      exact ⟨by rw [Option.map_some, SL_put _ _ h1], fun L' e => by cases e; exact nd_put nd⟩
  · rw [if_neg h1, if_neg h1]
    by_cases h2 : (lf (SL L) u).isV = true
    · rw [if_pos h2, if_pos h2]
      exact ⟨by rw [Option.map_some, SL_put _ _ h2], fun L' e => by cases e; exact nd_put nd⟩
    · rw [if_neg h2, if_neg h2]
      split
      · exact ⟨rfl, fun L' e => by cases e; exact nd⟩
      · exact ⟨rfl, fun L' e => by cases e⟩
/-- what a step does, by the table of all -/
theorem step_law {s : S3} (hi : inv3 s = true) (l u : T6) : match stepS s l u with
    | some s' => inv3 s' = true ∧ (∀ n, n < 27 → mods s' n = (mods s n && decide (gA n l = gA n u))) ∧ lf s' l = lf s' u ∧ ∀ a b, lf s a = lf s b → lf s' a = lf s' b
    | none => ∀ n, n < 27 → (mods s n && decide (gA n l = gA n u)) = false := by
  have h := List.all_eq_true.mp f1_all s (memS s)
  unfold f1 at h
  rw [hi] at h
  simp only [Bool.not_true, Bool.false_or] at h
  have h := List.all_eq_true.mp (List.all_eq_true.mp h l (mem6 l)) u (mem6 u)
  cases z : stepS s l u with
  | none =>
    rw [z] at h
    intro n hn
    have := List.all_eq_true.mp h n (List.mem_range.mpr hn)
    rw [Bool.not_eq_true'] at this
    exact this
  | some s' =>
    rw [z] at h
    simp only [Bool.and_eq_true] at h
    obtain ⟨⟨⟨h1, h2⟩, h3⟩, h4⟩ := h
    refine ⟨h1, fun n hn => ?_, by simpa using h3, fun a b hab => ?_⟩
    · have := List.all_eq_true.mp h2 n (List.mem_range.mpr hn)
      simpa using this
    · have := List.all_eq_true.mp (List.all_eq_true.mp h4 a (mem6 a)) b (mem6 b)
      simpa [hab] using this
theorem run_law : ∀ (ps : List (T6 × T6)) (L : Lk), Good L → Nd L → inv3 (SL L) = true → match runL L ps with
    | some L' => Good L' ∧ Nd L' ∧ inv3 (SL L') = true ∧ (∀ n, n < 27 → mods (SL L') n = (mods (SL L) n && ps.all fun e => decide (gA n e.1 = gA n e.2))) ∧ (∀ e ∈ ps, lf (SL L') e.1 = lf (SL L') e.2) ∧ ∀ a b, lf (SL L) a = lf (SL L) b → lf (SL L') a = lf (SL L') b
    | none => ∀ n, n < 27 → (mods (SL L) n && ps.all fun e => decide (gA n e.1 = gA n e.2)) = false
  | [], L, g, nd, hi => ⟨g, nd, hi, fun n _ => by simp, fun e he => by simp at he, fun a b h => h⟩
  | (l, u) :: ps, L, g, nd, hi => by
    obtain ⟨h1, h2⟩ := step_SL g nd l u
    have h3 := step_law hi l u
    rw [runL_cons]
    cases z : stepL L l u with
    | none =>
      rw [z, Option.map_none] at h1
      rw [← h1] at h3
      intro n hn
      have := h3 n hn
      rw [List.all_cons, ← Bool.and_assoc, this, Bool.false_and]
    | some L1 =>
      rw [z, Option.map_some] at h1
      rw [← h1] at h3
      obtain ⟨k1, k2, k3, k4⟩ := h3
      have ih := run_law ps L1 (stepL_ok g z).1 (h2 L1 z) k1
      rw [Option.bind_some]
      cases z2 : runL L1 ps with
      | none =>
        rw [z2] at ih
        intro n hn
        have := ih n hn
        rw [k2 n hn] at this
        rw [List.all_cons, ← Bool.and_assoc]
        exact this
      | some L2 =>
        rw [z2] at ih
        obtain ⟨i1, i2, i3, i4, i5, i6⟩ := ih
        refine ⟨i1, i2, i3, fun n hn => ?_, fun e he => ?_, fun a b hab => i6 _ _ (k4 a b hab)⟩
        · rw [i4 n hn, k2 n hn, List.all_cons, ← Bool.and_assoc]
        · rcases List.mem_cons.mp he with rfl | he
          · exact i6 _ _ k3
          · exact i5 e he
theorem zip_all (f : T6 → T6) : ∀ (xs ys : List T6), xs.length = ys.length → ((xs.zip ys).all fun e => decide (f e.1 = f e.2)) = decide (xs.map f = ys.map f)
  | [], [], _ => rfl
  | [], _ :: _, h => by simp at h
  | _ :: _, [], h => by simp at h
  | x :: xs, y :: ys, h => by
    rw [List.zip_cons_cons, List.all_cons, zip_all f xs ys (by simpa using h)]
    by_cases e : f x = f y <;> simp [e]
theorem zip_map (f : T6 → T6) : ∀ (xs ys : List T6), xs.length = ys.length → (∀ e ∈ xs.zip ys, f e.1 = f e.2) → xs.map f = ys.map f
  | [], [], _, _ => rfl
  | [], _ :: _, h, _ => by simp at h
  | _ :: _, [], h, _ => by simp at h
  | x :: xs, y :: ys, h, g => by
    rw [List.map_cons, List.map_cons, g (x, y) (by simp), zip_map f xs ys (by simpa using h) fun e he => g e (by rw [List.zip_cons_cons]; exact List.mem_cons_of_mem _ he)]
theorem alike_math (one other : List T6) (h : one.length = other.length) : match runL [] (one.zip other) with
    | some L' => Good L' ∧ Nd L' ∧ inv3 (SL L') = true ∧ fits one other = (List.range 27).filter (mods (SL L')) ∧ one.map (lf (SL L')) = other.map (lf (SL L'))
    | none => fits one other = [] := by
  have r := run_law (one.zip other) [] (by simp [Good]) (by simp [Nd]) (by decide)
  have e0 : ∀ n, mods (SL []) n = true := fun n => rfl
  cases z : runL [] (one.zip other) with
  | none =>
    rw [z] at r
    unfold fits
    rw [List.filter_eq_nil_iff]
    intro n hn
    have := r n (List.mem_range.mp hn)
    rw [e0, Bool.true_and, zip_all _ _ _ h] at this
    simpa using this
  | some L' =>
    rw [z] at r
    obtain ⟨g, nd, hi, h1, h2, _⟩ := r
    refine ⟨g, nd, hi, ?_, zip_map _ _ _ h h2⟩
    unfold fits
    apply List.filter_congr
    intro n hn
    have := h1 n (List.mem_range.mp hn)
    rw [e0, Bool.true_and, zip_all _ _ _ h] at this
    exact this.symm

open T6
theorem put_in_ok {L : Lk} (g : Good L) (hl : L.length ≤ 100) (ts : List T6) (h50 : ts.length ≤ 50) (i : Nat) {hp : AH} (h : hp[i]? = some (.dic false (encK L))) :
    m_put_in [.vl (ts.map av), .ref i] hp = .ok (.tup (ts.map fun t => (led L (L.length + 1) t).av)) hp := by
  have k := compL_map (enc := av) (vs := [2]) (g := setV 2) (c := yesM) (e := callM 2 m_led_to [] (consM (vM 2) (consM (vM 1) nilM))) (sl := [some (.val (.vl (ts.map av))), some (.val (.ref i)), none]) (hp := hp) (fun t => (led L (L.length + 1) t).av) (ts := ts) (acc := []) (by simp; omega)
    (fun t _ => ⟨(), _, _, _, rfl, rfl, by simp [wipeL, led_ok g hl t i h]; exact rfl, rfl⟩) ⟨[some (.val (.vl (ts.map av))), some (.val (.ref i)), none], hp⟩ rfl
  simp [m_put_in, b_put_in, slots0, ownAt]
  rw [k]
  simp [putBack, wipeL]
theorem shown_all_ok (ts : List T6) (h50 : ts.length ≤ 50) (hp : AH) : m_shown_all [.tup (ts.map av)] hp = .ok (.tup (ts.map sh)) hp := by
  have ec : ∀ (t : T6) (hp : AH), clsOf hp t.av = some (("Term" : Str), [(("name" : Str), .str t.nm), (("value" : Str), t.va)]) := fun _ _ => rfl
  have k := compL_map (enc := av) (vs := [1]) (g := setV 1) (c := yesM) (e := methM "shown" [⟨"Term", 1, m_Term_shown, []⟩] (vM 1) nilM) (sl := [some (.val (.tup (ts.map av))), none]) (hp := hp) (fun t => t.sh) (ts := ts) (acc := []) (by simp; omega)
    (fun t _ => ⟨(), _, _, _, rfl, rfl, by simp [wipeL, ec, sh_ok]; exact rfl, rfl⟩) ⟨[some (.val (.tup (ts.map av))), none], hp⟩ rfl
  simp [m_shown_all, b_shown_all, slots0, ownAt]
  rw [k]
  simp [putBack, wipeL]
theorem okL_sh {n : Nat} (ts : List T6) : okL (n + 1) (ts.map sh) = true := by
  induction ts with
  | nil => simp
  | cons t ts ih =>
    have : okA (n + 1) t.sh = true := by cases t <;> simp [sh, isV, va]
    simp [this, ih]
theorem eqL_sh : ∀ (ts us : List T6), eqL (ts.map sh) (us.map sh) = decide (ts = us)
  | [], [] => by simp
  | [], u :: us => by simp
  | t :: ts, [] => by simp
  | t :: ts, u :: us => by
    rw [List.map_cons, List.map_cons, eqL_cons, eq_sh, eqL_sh ts us]
    by_cases h : t = u <;> simp [h]
theorem cut_take {α : Type} (xs : List α) (n : Nat) : cutG xs none (some (n : Int)) = xs.take n := by
  unfold cutG
  have h1 : HT.sIx xs.length 0 none = 0 := rfl
  have h2 : HT.sIx xs.length xs.length (some (n : Int)) = min n xs.length := by
    simp only [HT.sIx]
    split <;> omega
  rw [h1, h2, List.drop_zero, Nat.sub_zero]
  by_cases h : n ≤ xs.length
  · rw [Nat.min_eq_left h]
  · rw [Nat.min_eq_right (by omega), List.take_length, List.take_of_length_le (by omega)]
theorem make_all (ts : List T6) (h50 : ts.length ≤ 50) (sl : List (Option SV)) (v : Nat) (hp : AH) (hv : v < sl.length) (hs : sl[v]? = some none) :
    compL [v] (setV v) yesM (callM 1 m__law_make [] (consM (vM v) nilM)) (ts.map sh) [] ⟨sl, hp⟩ = .ok (ts.map av) ⟨sl, hp⟩ := by
  have hw : wipeL sl [v] = sl := by
    show sl.set v none = sl
    apply List.ext_getElem?
    intro j
    by_cases h : v = j
    · subst h; rw [List.getElem?_set_self hv, hs]
    · rw [List.getElem?_set_ne h]
  have k := compL_map (enc := sh) (vs := [v]) (g := setV v) (c := yesM) (e := callM 1 m__law_make [] (consM (vM v) nilM)) (sl := sl) (hp := hp) (fun t => t.av) (ts := ts) (acc := []) (by simp; omega)
    (fun t _ => ⟨(), ⟨(wipeL sl [v]).set v (some (.val t.sh)), hp⟩, ⟨(wipeL sl [v]).set v (some (.val t.sh)), hp⟩, ⟨(wipeL sl [v]).set v (some (.val t.sh)), hp⟩, setV_at, yesM_at, by
      rw [hw]
      simp [List.getElem?_set_self hv, make_ok], by
      show SS.mk (((wipeL sl [v]).set v _).set v none) hp = _
      rw [List.set_set, hw]
      show SS.mk (sl.set v none) hp = _
      rw [show sl.set v none = wipeL sl [v] from rfl, hw]⟩) ⟨sl, hp⟩ (by rw [hw]; show SS.mk (wipeL sl [v]) hp = _; rw [hw])
  rw [k, hw]
  simp

open T6
/-- one table, one name -/
abbrev nBody : M Fl := (seqM
 (asgM (tupG 2 [(setV 10), (setV 11)]) (methM "shown" [⟨"Term", 1, m_Term_shown, []⟩] (callM 2 m_led_to [] (consM (callM 1 m_var [] (consM (vM 9) nilM)) (consM (vM 6) nilM))) nilM))
 (ifM (cmpM neC (pkE (ifM (cmpM eqX (pkV 10) (pkE (cM (.str "var")))) (ixM (pkV 8) (pkV 11)) (vM 11))) (pkE (ixM (pkV 8) (pkV 9)))) (retM (cM (.bl false))) nxM))
theorem var_av (v : T6) (h : v.isV = true) (hp : AH) : m_var [.str v.nm] hp = .ok v.av hp := by
  rw [var_ok]
  cases v <;> simp [isV] at h <;> rfl
theorem plC_va {a : T6} {h : AH} : plC (coA h a.va) (some a.va) = some a.va := by
  cases a <;> rfl
theorem name_ok {L : Lk} (g : Good L) (nd : Nd L) (hl : L.length ≤ 100) {n : Nat} (hv : T6) (hV : hv.isV = true) (heq : gA n (lf (SL L) hv) = gA n hv) (i : Nat) {hp : AH} (h : hp[i]? = some (.dic false (encK L))) (a0 a1 a2 a3 a4 a5 a7 a9 a10 a11 a12 a13 a14 a15 a16 : Option SV) :
    ∃ b10 b11, nBody ⟨[a0, a1, a2, a3, a4, a5, some (.val (.ref i)), a7, some (.val (tab n)), some (.val (.str hv.nm)), a10, a11, a12, a13, a14, a15, a16], hp⟩ = .ok .nx ⟨[a0, a1, a2, a3, a4, a5, some (.val (.ref i)), a7, some (.val (tab n)), some (.val (.str hv.nm)), b10, b11, a12, a13, a14, a15, a16], hp⟩ := by
  have ec : ∀ (t : T6) (hp : AH), clsOf hp t.av = some (("Term" : Str), [(("name" : Str), .str t.nm), (("value" : Str), t.va)]) := fun _ _ => rfl
  have e1 := led_ok g hl hv i h
  rw [lf_SL g nd] at e1
  cases hc : (lf (SL L) hv).isV with
  | true =>
    refine ⟨some (.val (.str "var")), some (.val (.str (lf (SL L) hv).nm)), ?_⟩
    have k1 := getT n _ hc
    have k2 := getT n _ hV
    have k3 := va_inj (gA_c n (lf (SL L) hv)) (gA_c n hv)
    simp [var_av hv hV, e1, ec, sh_ok, sh, hc, tab, k1, k2, k3, va_ok, heq, plC_va, gA_c, va_inj]
  | false =>
    refine ⟨some (.val (.str "val")), some (.val (lf (SL L) hv).va), ?_⟩
    have k2 := getT n _ hV
    have k0 : gA n (lf (SL L) hv) = lf (SL L) hv := by cases z : lf (SL L) hv <;> simp [z, isV] at hc <;> rfl
    have k3 := va_inj hc (gA_c n hv)
    rw [k0] at heq
    simp [var_av hv hV, e1, ec, sh_ok, sh, hc, tab, k2, k3, va_ok, heq, plC_va, gA_c, va_inj]
abbrev nLoop : M Fl := (forM (itM (frM (lstM (consM (cM (.str "X")) (consM (cM (.str "Y")) (consM (cM (.str "Z")) nilM)))))) (setV 9) nBody)
theorem tab_ok {L : Lk} (g : Good L) (nd : Nd L) (hl : L.length ≤ 100) {n : Nat} (hm : ∀ v, gA n (lf (SL L) v) = gA n v) (i : Nat) {hp : AH} (h : hp[i]? = some (.dic false (encK L))) (a0 a1 a2 a3 a4 a5 a7 a9 a10 a11 a12 a13 a14 a15 a16 : Option SV) :
    ∃ b10 b11, nLoop ⟨[a0, a1, a2, a3, a4, a5, some (.val (.ref i)), a7, some (.val (tab n)), a9, a10, a11, a12, a13, a14, a15, a16], hp⟩ = .ok .nx ⟨[a0, a1, a2, a3, a4, a5, some (.val (.ref i)), a7, some (.val (tab n)), some (.val (.str T6.Z.nm)), b10, b11, a12, a13, a14, a15, a16], hp⟩ := by
  obtain ⟨x10, x11, e1⟩ := name_ok g nd hl .X rfl (hm .X) i h a0 a1 a2 a3 a4 a5 a7 a9 a10 a11 a12 a13 a14 a15 a16
  obtain ⟨y10, y11, e2⟩ := name_ok g nd hl .Y rfl (hm .Y) i h a0 a1 a2 a3 a4 a5 a7 a9 x10 x11 a12 a13 a14 a15 a16
  obtain ⟨z10, z11, e3⟩ := name_ok g nd hl .Z rfl (hm .Z) i h a0 a1 a2 a3 a4 a5 a7 a9 y10 y11 a12 a13 a14 a15 a16
  refine ⟨z10, z11, ?_⟩
  simp only [forM_at, itM_at, frM_at, lstM_at, consM_at, cM_at, nilM_at, bindR_ok, List.length_cons, List.length_nil]
  rw [if_pos (by decide)]
  simp only [bindR_ok, frz_lst, itA_vl, optR_some, forL_setV, forL_nil, List.set_cons_succ, List.set_cons_zero, turnR_nx]
  rw [show (Str.ofString "X") = Str.ofString T6.X.nm from rfl, e1, turnR_nx, forL_setV]
  simp only [List.set_cons_succ, List.set_cons_zero]
  rw [show (Str.ofString "Y") = Str.ofString T6.Y.nm from rfl, e2, turnR_nx, forL_setV]
  simp only [List.set_cons_succ, List.set_cons_zero]
  rw [show (Str.ofString "Z") = Str.ofString T6.Z.nm from rfl, e3, turnR_nx, forL_nil]
theorem tabs_ok {L : Lk} (g : Good L) (nd : Nd L) (hl : L.length ≤ 100) (i : Nat) {hp : AH} (h : hp[i]? = some (.dic false (encK L))) (a0 a1 a2 a3 a4 a5 a7 a12 a13 a14 a15 a16 : Option SV) : ∀ (ns : List Nat) (a8 : Option SV) (a9 : Option AV) (a10 a11 : Option SV), (∀ n ∈ ns, ∀ v, gA n (lf (SL L) v) = gA n v) →
    ∃ (b8 : Option SV) (b9 : Option AV) (b10 b11 : Option SV), forL (setV 8) nLoop (ns.map tab) ⟨[a0, a1, a2, a3, a4, a5, some (.val (.ref i)), a7, a8, a9.map .val, a10, a11, a12, a13, a14, a15, a16], hp⟩ = .ok .nx ⟨[a0, a1, a2, a3, a4, a5, some (.val (.ref i)), a7, b8, b9.map .val, b10, b11, a12, a13, a14, a15, a16], hp⟩
  | [], a8, a9, a10, a11, _ => ⟨a8, a9, a10, a11, rfl⟩
  | n :: ns, a8, a9, a10, a11, hm => by
    obtain ⟨b10, b11, e⟩ := tab_ok g nd hl (hm n (by simp)) i h a0 a1 a2 a3 a4 a5 a7 (a9.map .val) a10 a11 a12 a13 a14 a15 a16
    rw [List.map_cons, forL_setV]
    simp only [List.set_cons_succ, List.set_cons_zero]
    rw [e, turnR_nx]
    exact tabs_ok g nd hl i h a0 a1 a2 a3 a4 a5 a7 a12 a13 a14 a15 a16 ns _ (some (.str T6.Z.nm)) b10 b11 fun m hm' => hm m (List.mem_cons_of_mem _ hm')

open T6
theorem ends_ok {L : Lk} (g : Good L) (nd : Nd L) (hl : L.length ≤ 100) (i : Nat) {hp : AH} (h : hp[i]? = some (.dic false (encK L))) (a0 a1 a2 a3 a4 a5 a7 a8 a9 a10 a11 a12 a13 a14 a15 a16 : Option SV) :
    compL [9] (setV 9) yesM (methM "shown" [⟨"Term", 1, m_Term_shown, []⟩] (callM 2 m_led_to [] (consM (callM 1 m_var [] (consM (vM 9) nilM)) (consM (vM 6) nilM))) nilM) [.str "X", .str "Y", .str "Z"] [] ⟨[a0, a1, a2, a3, a4, a5, some (.val (.ref i)), a7, a8, a9, a10, a11, a12, a13, a14, a15, a16], hp⟩ =
      .ok (([T6.X, .Y, .Z].map (lf (SL L))).map sh) ⟨[a0, a1, a2, a3, a4, a5, some (.val (.ref i)), a7, a8, none, a10, a11, a12, a13, a14, a15, a16], hp⟩ := by
  have ec : ∀ (t : T6) (hp : AH), clsOf hp t.av = some (("Term" : Str), [(("name" : Str), .str t.nm), (("value" : Str), t.va)]) := fun _ _ => rfl
  have k := compL_map (enc := fun v : T6 => .str v.nm) (vs := [9]) (g := setV 9) (c := yesM) (e := methM "shown" [⟨"Term", 1, m_Term_shown, []⟩] (callM 2 m_led_to [] (consM (callM 1 m_var [] (consM (vM 9) nilM)) (consM (vM 6) nilM))) nilM)
    (sl := [a0, a1, a2, a3, a4, a5, some (.val (.ref i)), a7, a8, a9, a10, a11, a12, a13, a14, a15, a16]) (hp := hp) (fun v => (lf (SL L) v).sh) (ts := [.X, .Y, .Z]) (acc := []) (by simp)
    (fun t ht => by
      have hV : t.isV = true := by simp at ht; rcases ht with rfl | rfl | rfl <;> rfl
      have e1 := led_ok g hl t i h
      rw [lf_SL g nd] at e1
      exact ⟨(), _, _, ⟨[a0, a1, a2, a3, a4, a5, some (.val (.ref i)), a7, a8, some (.val (.str t.nm)), a10, a11, a12, a13, a14, a15, a16], hp⟩, rfl, rfl, by simp [wipeL, var_av t hV, e1, ec, sh_ok], rfl⟩) ⟨[a0, a1, a2, a3, a4, a5, some (.val (.ref i)), a7, a8, a9, a10, a11, a12, a13, a14, a15, a16], hp⟩ rfl
  exact k
theorem enum_map (es : List T6) : ∀ k : Nat, enumF (k : Int) (es.map sh) = (es.zipIdx k).map fun e => .tup [.int (e.2 : Int), e.1.sh] := by
  induction es with
  | nil => intro k; rfl
  | cons e es ih =>
    intro k
    rw [List.map_cons, List.zipIdx_cons, List.map_cons]
    show AV.tup [.int k, e.sh] :: enumF (k + 1) _ = _
    congr 1
    exact ih (k + 1)
theorem inL_sh (e : T6) (es : List T6) : inL e.sh (es.map sh) = es.contains e := by
  unfold inL
  rw [List.any_map]
  induction es with
  | nil => rfl
  | cons x es ih =>
    rw [List.any_cons, ih, List.contains_cons]
    simp only [Function.comp, eq_sh]
    congr 1
    by_cases h : x = e
    · subst h; simp
    · have : ¬ e = x := fun z => h z.symm
      simp [h, this]
theorem sh0 (t : T6) : ∃ x : AV, t.sh = .tup [.str (if t.isV then "var" else "val"), x] := by
  cases t <;> exact ⟨_, rfl⟩
theorem free_ok (es : List T6) (h50 : es.length ≤ 50) (a0 a1 a2 a3 a4 a5 a6 a7 a8 a9 a10 a11 a13 a16 : Option SV) (hp : AH) :
    compL [14, 15] (tupG 2 [(setV 14), (setV 15)]) (LM.andM (cmpM eqX (pkE (ixM (pkV 15) (pkE (cM (.int 0))))) (pkE (cM (.str "var")))) (cmpM ninC (pkV 15) (pkE (slM (pkV 12) noPartM (partM (vM 14)))))) (vM 15) (enumF 0 (es.map sh)) [] ⟨[a0, a1, a2, a3, a4, a5, a6, a7, a8, a9, a10, a11, some (.val (.vl (es.map sh))), a13, none, none, a16], hp⟩ =
      .ok ((free3 es).map fun e => e.2.sh) ⟨[a0, a1, a2, a3, a4, a5, a6, a7, a8, a9, a10, a11, some (.val (.vl (es.map sh))), a13, none, none, a16], hp⟩ := by
  have e0 : enumF 0 (es.map sh) = (es.zipIdx.map fun e => (e.2, e.1)).map fun e : Nat × T6 => AV.tup [.int (e.1 : Int), e.2.sh] := by
    have := enum_map es 0
    rw [List.map_map]
    exact this
  rw [e0]
  have k := compL_sieve (enc := fun e : Nat × T6 => AV.tup [.int (e.1 : Int), e.2.sh]) (vs := [14, 15]) (g := tupG 2 [(setV 14), (setV 15)]) (c := (LM.andM (cmpM eqX (pkE (ixM (pkV 15) (pkE (cM (.int 0))))) (pkE (cM (.str "var")))) (cmpM ninC (pkV 15) (pkE (slM (pkV 12) noPartM (partM (vM 14)))))))
    (e := vM 15) (sl := [a0, a1, a2, a3, a4, a5, a6, a7, a8, a9, a10, a11, some (.val (.vl (es.map sh))), a13, none, none, a16]) (hp := hp) (fun e => e.2.isV && !(es.take e.1).contains e.2) (fun e => e.2.sh) (ts := es.zipIdx.map fun e => (e.2, e.1)) (acc := []) (by simp; omega)
    (fun e _ => by
      obtain ⟨x, hx⟩ := sh0 e.2
      have hc : coA hp e.2.sh = .tup [.str (if e.2.isV then "var" else "val"), x] := by rw [hx]; rfl
      have hp1 := plC_sh (a := e.2) (h := hp)
      have ho := okA_sh e.2
      have hol := okL_sh (n := 58) (es.take e.1)
      have hin := inL_sh e.2 (es.take e.1)
      rw [List.map_take] at hol hin
      rw [hc] at hp1
      refine ⟨(), ⟨[a0, a1, a2, a3, a4, a5, a6, a7, a8, a9, a10, a11, some (.val (.vl (es.map sh))), a13, some (.val (.int e.1)), some (.val e.2.sh), a16], hp⟩, ⟨[a0, a1, a2, a3, a4, a5, a6, a7, a8, a9, a10, a11, some (.val (.vl (es.map sh))), a13, some (.val (.int e.1)), some (.val e.2.sh), a16], hp⟩, by simp [wipeL], ?_, fun _ => rfl, fun _ => ⟨_, by simp; exact rfl, rfl⟩⟩
      cases hv : e.2.isV with
      | true =>
        rw [hv, if_pos rfl] at hc hp1
        simp [hc, atI, ixN, cut_take, hp1, ho, hol, hin, hv]
      | false =>
        rw [hv, if_neg Bool.false_ne_true] at hc hp1
        simp [hc, atI, ixN, hv]) ⟨[a0, a1, a2, a3, a4, a5, a6, a7, a8, a9, a10, a11, some (.val (.vl (es.map sh))), a13, none, none, a16], hp⟩ rfl
  exact k

open T6
abbrev lBody : M Fl := (seqM
 (parM 2 3 (consM (callM 1 m__law_drawn [] (consM (vM 1) nilM)) (consM (callM 1 m__law_drawn [] (consM (vM 1) nilM)) nilM)))
 (seqM
 (ifM (cmpM eqX (pkE (callM 2 m__law_roll [] (consM (vM 1) (consM (cM (.int 2)) nilM)))) (pkE (cM (.int 0)))) (asgM (setV 3) (slM (pkE (op2 addX (vM 3) (frM (op2N repL (frM (lstM (consM (tupM (consM (cM (.str "var")) (consM (cM (.str "X")) nilM))) nilM))) (cM (.int 4)))))) noPartM (partM (cbM lenA (consM (pkV 2) nilM))))) nxM)
 (seqM
 (parM 4 5 (consM (frM (compM [16] (itM (vM 2)) (setV 16) yesM (callM 1 m__law_make [] (consM (vM 16) nilM)))) (consM (frM (compM [16] (itM (vM 3)) (setV 16) yesM (callM 1 m__law_make [] (consM (vM 16) nilM)))) nilM)))
 (seqM
 (asgM (tupG 2 [(setV 6), (setV 7)]) (tupM (consM (callM 2 m_made_alike [] (consM (vM 4) (consM (vM 5) nilM))) (consM (callM 2 m__law_fits [] (consM (vM 2) (consM (vM 3) nilM))) nilM))))
 (seqM
 (ifM (cmpM neC (pkE (bvM (cmpM isNC (pkV 6) (pkE (cM .non))))) (pkE (bvM (cmpM eqX (pkV 7) (pkE (frM (lstM nilM))))))) (retM (cM (.bl false))) nxM)
 (seqM
 (ifM (cmpM isNC (pkV 6) (pkE (cM .non))) (retM (cM (.bl true))) nxM)
 (seqM
 (ifM (cmpM neC (pkE (callM 1 m_shown_all [] (consM (callM 2 m_put_in [] (consM (vM 4) (consM (vM 6) nilM))) nilM))) (pkE (callM 1 m_shown_all [] (consM (callM 2 m_put_in [] (consM (vM 5) (consM (vM 6) nilM))) nilM)))) (retM (cM (.bl false))) nxM)
 (seqM
 (forM (itM (vM 7)) (setV 8) nLoop)
 (seqM
 (asgM (setV 12) (frM (compM [9] (itM (frM (lstM (consM (cM (.str "X")) (consM (cM (.str "Y")) (consM (cM (.str "Z")) nilM)))))) (setV 9) yesM (methM "shown" [⟨"Term", 1, m_Term_shown, []⟩] (callM 2 m_led_to [] (consM (callM 1 m_var [] (consM (vM 9) nilM)) (consM (vM 6) nilM))) nilM))))
 (seqM
 (asgM (setV 13) (frM (compM [14, 15] (enM (consM (vM 12) nilM)) (tupG 2 [(setV 14), (setV 15)]) (LM.andM (cmpM eqX (pkE (ixM (pkV 15) (pkE (cM (.int 0))))) (pkE (cM (.str "var")))) (cmpM ninC (pkV 15) (pkE (slM (pkV 12) noPartM (partM (vM 14)))))) (vM 15))))
 (ifM (cmpM neC (pkE (ixM (pkE (frM (lstM (consM (cM (.int 1)) (consM (cM (.int 3)) (consM (cM (.int 9)) (consM (cM (.int 27)) nilM))))))) (pkE (cbM lenA (consM (pkV 13) nilM))))) (pkE (cbM lenA (consM (pkV 7) nilM)))) (retM (cM (.bl false))) nxM)))))))))))
theorem b_law_eq : b_law = seqM (forM (itM (callM 2 m__law_rounds [] (consM (vM 0) (consM (cM (.int 1)) nilM)))) (setV 1) lBody) (retM (cM (.bl true))) := rfl
/-- behind the rows are made -/
abbrev lRest : M Fl := (seqM
 (parM 4 5 (consM (frM (compM [16] (itM (vM 2)) (setV 16) yesM (callM 1 m__law_make [] (consM (vM 16) nilM)))) (consM (frM (compM [16] (itM (vM 3)) (setV 16) yesM (callM 1 m__law_make [] (consM (vM 16) nilM)))) nilM)))
 (seqM
 (asgM (tupG 2 [(setV 6), (setV 7)]) (tupM (consM (callM 2 m_made_alike [] (consM (vM 4) (consM (vM 5) nilM))) (consM (callM 2 m__law_fits [] (consM (vM 2) (consM (vM 3) nilM))) nilM))))
 (seqM
 (ifM (cmpM neC (pkE (bvM (cmpM isNC (pkV 6) (pkE (cM .non))))) (pkE (bvM (cmpM eqX (pkV 7) (pkE (frM (lstM nilM))))))) (retM (cM (.bl false))) nxM)
 (seqM
 (ifM (cmpM isNC (pkV 6) (pkE (cM .non))) (retM (cM (.bl true))) nxM)
 (seqM
 (ifM (cmpM neC (pkE (callM 1 m_shown_all [] (consM (callM 2 m_put_in [] (consM (vM 4) (consM (vM 6) nilM))) nilM))) (pkE (callM 1 m_shown_all [] (consM (callM 2 m_put_in [] (consM (vM 5) (consM (vM 6) nilM))) nilM)))) (retM (cM (.bl false))) nxM)
 (seqM
 (forM (itM (vM 7)) (setV 8) nLoop)
 (seqM
 (asgM (setV 12) (frM (compM [9] (itM (frM (lstM (consM (cM (.str "X")) (consM (cM (.str "Y")) (consM (cM (.str "Z")) nilM)))))) (setV 9) yesM (methM "shown" [⟨"Term", 1, m_Term_shown, []⟩] (callM 2 m_led_to [] (consM (callM 1 m_var [] (consM (vM 9) nilM)) (consM (vM 6) nilM))) nilM))))
 (seqM
 (asgM (setV 13) (frM (compM [14, 15] (enM (consM (vM 12) nilM)) (tupG 2 [(setV 14), (setV 15)]) (LM.andM (cmpM eqX (pkE (ixM (pkV 15) (pkE (cM (.int 0))))) (pkE (cM (.str "var")))) (cmpM ninC (pkV 15) (pkE (slM (pkV 12) noPartM (partM (vM 14)))))) (vM 15))))
 (ifM (cmpM neC (pkE (ixM (pkE (frM (lstM (consM (cM (.int 1)) (consM (cM (.int 3)) (consM (cM (.int 9)) (consM (cM (.int 27)) nilM))))))) (pkE (cbM lenA (consM (pkV 13) nilM))))) (pkE (cbM lenA (consM (pkV 7) nilM)))) (retM (cM (.bl false))) nxM)))))))))
abbrev lFin : M Fl := (seqM
 (forM (itM (vM 7)) (setV 8) nLoop)
 (seqM
 (asgM (setV 12) (frM (compM [9] (itM (frM (lstM (consM (cM (.str "X")) (consM (cM (.str "Y")) (consM (cM (.str "Z")) nilM)))))) (setV 9) yesM (methM "shown" [⟨"Term", 1, m_Term_shown, []⟩] (callM 2 m_led_to [] (consM (callM 1 m_var [] (consM (vM 9) nilM)) (consM (vM 6) nilM))) nilM))))
 (seqM
 (asgM (setV 13) (frM (compM [14, 15] (enM (consM (vM 12) nilM)) (tupG 2 [(setV 14), (setV 15)]) (LM.andM (cmpM eqX (pkE (ixM (pkV 15) (pkE (cM (.int 0))))) (pkE (cM (.str "var")))) (cmpM ninC (pkV 15) (pkE (slM (pkV 12) noPartM (partM (vM 14)))))) (vM 15))))
 (ifM (cmpM neC (pkE (ixM (pkE (frM (lstM (consM (cM (.int 1)) (consM (cM (.int 3)) (consM (cM (.int 9)) (consM (cM (.int 27)) nilM))))))) (pkE (cbM lenA (consM (pkV 13) nilM))))) (pkE (cbM lenA (consM (pkV 7) nilM)))) (retM (cM (.bl false))) nxM))))
theorem fin_ok {L : Lk} (g : Good L) (nd : Nd L) (hi : inv3 (SL L) = true) (hl : L.length ≤ 100) (a0 a1 a2 a3 a4 a5 : Option SV) (d : AO) :
    DoneOk (lFin ⟨[a0, a1, a2, a3, a4, a5, some (.val (.ref 1)), some (.val (.vl (((List.range 27).filter (mods (SL L))).map tab))), none, none, none, none, none, none, none, none, none], [d, .dic false (encK L)]⟩) := by
  have h : ([d, .dic false (encK L)] : AH)[1]? = some (.dic false (encK L)) := rfl
  have hm : ∀ n ∈ (List.range 27).filter (mods (SL L)), ∀ v, gA n (lf (SL L) v) = gA n v := by
    intro n hn v
    obtain ⟨h1, h2⟩ := List.mem_filter.mp hn
    have := List.all_eq_true.mp f3_all (SL L) (memS _)
    unfold f3 at this
    rw [hi] at this
    simp only [Bool.not_true, Bool.false_or] at this
    have := List.all_eq_true.mp this n h1
    rw [h2] at this
    simp only [Bool.not_true, Bool.false_or] at this
    have := List.all_eq_true.mp this v (mem6 v)
    simpa using this
  have hc := List.all_eq_true.mp f2_all (SL L) (memS _)
  unfold f2 at hc
  rw [hi] at hc
  simp only [Bool.not_true, Bool.false_or, decide_eq_true_eq] at hc
  obtain ⟨b8, b9, b10, b11, e1⟩ := tabs_ok g nd hl 1 h a0 a1 a2 a3 a4 a5 (some (.val (.vl (((List.range 27).filter (mods (SL L))).map tab)))) none none none none none _ none none none none hm
  have s1 : (forM (itM (vM 7)) (setV 8) nLoop) ⟨[a0, a1, a2, a3, a4, a5, some (.val (.ref 1)), some (.val (.vl (((List.range 27).filter (mods (SL L))).map tab))), none, none, none, none, none, none, none, none, none], [d, .dic false (encK L)]⟩ = .ok .nx ⟨[a0, a1, a2, a3, a4, a5, some (.val (.ref 1)), some (.val (.vl (((List.range 27).filter (mods (SL L))).map tab))), b8, b9.map .val, b10, b11, none, none, none, none, none], [d, .dic false (encK L)]⟩ := by
    simp only [forM_at, itM_at, vM_at, List.getElem?_cons_succ, List.getElem?_cons_zero, slR_val, bindR_ok, itA_vl, optR_some]
    exact e1
  rw [show lFin = seqM _ _ from rfl, seqM_at, s1, seqR_nx, seqM_at]
  have k1 := ends_ok g nd hl 1 h a0 a1 a2 a3 a4 a5 (some (.val (.vl (((List.range 27).filter (mods (SL L))).map tab)))) b8 (b9.map .val) b10 b11 none none none none none
  have k2 := free_ok ([T6.X, .Y, .Z].map (lf (SL L))) (by simp) a0 a1 a2 a3 a4 a5 (some (.val (.ref 1))) (some (.val (.vl (((List.range 27).filter (mods (SL L))).map tab)))) b8 (b9.map .val) b10 b11 none none [d, .dic false (encK L)]
  have s2 : (asgM (setV 12) (frM (compM [9] (itM (frM (lstM (consM (cM (.str "X")) (consM (cM (.str "Y")) (consM (cM (.str "Z")) nilM)))))) (setV 9) yesM (methM "shown" [⟨"Term", 1, m_Term_shown, []⟩] (callM 2 m_led_to [] (consM (callM 1 m_var [] (consM (vM 9) nilM)) (consM (vM 6) nilM))) nilM)))) ⟨[a0, a1, a2, a3, a4, a5, some (.val (.ref 1)), some (.val (.vl (((List.range 27).filter (mods (SL L))).map tab))), b8, b9.map .val, b10, b11, none, none, none, none, none], [d, .dic false (encK L)]⟩ =
      .ok .nx ⟨[a0, a1, a2, a3, a4, a5, some (.val (.ref 1)), some (.val (.vl (((List.range 27).filter (mods (SL L))).map tab))), b8, b9.map .val, b10, b11, some (.val (.vl (([T6.X, .Y, .Z].map (lf (SL L))).map sh))), none, none, none, none], [d, .dic false (encK L)]⟩ := by
    cases b9 <;> simp [ownAt] at k1 ⊢ <;> rw [k1] <;> simp [putBack]
  have s3 : (asgM (setV 13) (frM (compM [14, 15] (enM (consM (vM 12) nilM)) (tupG 2 [(setV 14), (setV 15)]) (LM.andM (cmpM eqX (pkE (ixM (pkV 15) (pkE (cM (.int 0))))) (pkE (cM (.str "var")))) (cmpM ninC (pkV 15) (pkE (slM (pkV 12) noPartM (partM (vM 14)))))) (vM 15)))) ⟨[a0, a1, a2, a3, a4, a5, some (.val (.ref 1)), some (.val (.vl (((List.range 27).filter (mods (SL L))).map tab))), b8, b9.map .val, b10, b11, some (.val (.vl (([T6.X, .Y, .Z].map (lf (SL L))).map sh))), none, none, none, none], [d, .dic false (encK L)]⟩ =
      .ok .nx ⟨[a0, a1, a2, a3, a4, a5, some (.val (.ref 1)), some (.val (.vl (((List.range 27).filter (mods (SL L))).map tab))), b8, b9.map .val, b10, b11, some (.val (.vl (([T6.X, .Y, .Z].map (lf (SL L))).map sh))), some (.val (.vl ((free3 ([T6.X, .Y, .Z].map (lf (SL L)))).map fun e => e.2.sh))), none, none, none], [d, .dic false (encK L)]⟩ := by
    simp only [asgM_at, frM_at, compM_at]
    have e0 : (enM (consM (vM 12) nilM)) ⟨[a0, a1, a2, a3, a4, a5, some (.val (.ref 1)), some (.val (.vl (((List.range 27).filter (mods (SL L))).map tab))), b8, b9.map .val, b10, b11, some (.val (.vl (([T6.X, .Y, .Z].map (lf (SL L))).map sh))), none, none, none, none], [d, .dic false (encK L)]⟩ = .ok (enumF 0 (([T6.X, .Y, .Z].map (lf (SL L))).map sh)) ⟨[a0, a1, a2, a3, a4, a5, some (.val (.ref 1)), some (.val (.vl (((List.range 27).filter (mods (SL L))).map tab))), b8, b9.map .val, b10, b11, some (.val (.vl (([T6.X, .Y, .Z].map (lf (SL L))).map sh))), none, none, none, none], [d, .dic false (encK L)]⟩ := rfl
    rw [e0]
    simp only [bindR_ok]
    rw [if_neg (by simp [ownAt]), k2]
    simp [putBack]
  rw [s2, seqR_nx, seqM_at, s3, seqR_nx]
  have k4 := atI_map (fun n : Nat => AV.int (n : Int)) [1, 3, 9, 27] _ (List.getElem?_eq_some_iff.mp hc).1
  have k5 := (List.getElem?_eq_some_iff.mp hc).2
  rw [k5] at k4
  simp at k4
  simp [k4, done_nx]
theorem rest_ok (one other : List T6) (h1 : one.length ≤ 20) (h2 : other.length ≤ 20) (d : AO) (x : AV) : DoneOk (lRest ⟨[some (.val x), some (.val (.ref 0)), some (.val (.vl (one.map sh))), some (.val (.vl (other.map sh))), none, none, none, none, none, none, none, none, none, none, none, none, none], [d]⟩) := by
  have m1 := make_all one (by omega)
  have m2 := make_all other (by omega)
  obtain ⟨a1, a2⟩ := alike_ok one other (by omega) [d]
  have f := fits_ok one other (by omega) (by omega)
  by_cases hl : one.length = other.length
  · have am := alike_math one other hl
    have a2 := a2 hl
    cases z : runL [] (one.zip other) with
    | none =>
      rw [z] at am a2
      obtain ⟨L', a2⟩ := a2
      rw [am] at f
      simp [ownAt, m1, m2, putBack, a2, f, done_rt]
    | some L =>
      rw [z] at am a2
      obtain ⟨g, nd, hi, hf, hmap⟩ := am
      obtain ⟨_, hl2, a2⟩ := a2
      have hL : ([d, .dic false (encK L)] : AH)[1]? = some (.dic false (encK L)) := rfl
      have p1 := put_in_ok g (by omega) one (by omega) 1 hL
      have p2 := put_in_ok g (by omega) other (by omega) 1 hL
      have q1 := shown_all_ok (one.map (lf (SL L))) (by simp; omega) [d, .dic false (encK L)]
      have q2 := shown_all_ok (other.map (lf (SL L))) (by simp; omega) [d, .dic false (encK L)]
      have fin := fun a0 a1 a2 a3 a4 a5 => fin_ok g nd hi (by omega) a0 a1 a2 a3 a4 a5 d
      have hne : ((List.range 27).filter (mods (SL L))).length ≠ 0 := by
        have hc := List.all_eq_true.mp f2_all (SL L) (memS _)
        unfold f2 at hc
        rw [hi] at hc
        simp only [Bool.not_true, Bool.false_or, decide_eq_true_eq] at hc
        intro h0
        rw [h0] at hc
        obtain ⟨h1, h2⟩ := List.getElem?_eq_some_iff.mp hc
        have : ∀ (k : Nat) (hk : k < 4), ([1, 3, 9, 27] : List Nat)[k] ≠ 0 := by decide
        exact this _ h1 h2
      rw [hf] at f
      simp only [lf_SL g nd] at p1 p2
      simp only [List.map_map, Function.comp_def] at q1 q2
      have s1 : (parM 4 5 (consM (frM (compM [16] (itM (vM 2)) (setV 16) yesM (callM 1 m__law_make [] (consM (vM 16) nilM)))) (consM (frM (compM [16] (itM (vM 3)) (setV 16) yesM (callM 1 m__law_make [] (consM (vM 16) nilM)))) nilM))) ⟨[some (.val x), some (.val (.ref 0)), some (.val (.vl (one.map sh))), some (.val (.vl (other.map sh))), none, none, none, none, none, none, none, none, none, none, none, none, none], [d]⟩ =
          .ok .nx ⟨[some (.val x), some (.val (.ref 0)), some (.val (.vl (one.map sh))), some (.val (.vl (other.map sh))), some (.val (.vl (one.map av))), some (.val (.vl (other.map av))), none, none, none, none, none, none, none, none, none, none, none], [d]⟩ := by
        simp [ownAt, m1, m2, putBack]
      have s2 : (asgM (tupG 2 [(setV 6), (setV 7)]) (tupM (consM (callM 2 m_made_alike [] (consM (vM 4) (consM (vM 5) nilM))) (consM (callM 2 m__law_fits [] (consM (vM 2) (consM (vM 3) nilM))) nilM)))) ⟨[some (.val x), some (.val (.ref 0)), some (.val (.vl (one.map sh))), some (.val (.vl (other.map sh))), some (.val (.vl (one.map av))), some (.val (.vl (other.map av))), none, none, none, none, none, none, none, none, none, none, none], [d]⟩ =
          .ok .nx ⟨[some (.val x), some (.val (.ref 0)), some (.val (.vl (one.map sh))), some (.val (.vl (other.map sh))), some (.val (.vl (one.map av))), some (.val (.vl (other.map av))), some (.val (.ref 1)), some (.val (.vl (((List.range 27).filter (mods (SL L))).map tab))), none, none, none, none, none, none, none, none, none], [d, .dic false (encK L)]⟩ := by
        simp [a2, f]
      have hne2 : ¬ ((List.range 27).filter (mods (SL L))).length = 0 := hne
      have s3 : ∀ a0 a1 a2 a3 a4 a5 : Option SV, (ifM (cmpM neC (pkE (bvM (cmpM isNC (pkV 6) (pkE (cM .non))))) (pkE (bvM (cmpM eqX (pkV 7) (pkE (frM (lstM nilM))))))) (retM (cM (.bl false))) nxM) ⟨[a0, a1, a2, a3, a4, a5, some (.val (.ref 1)), some (.val (.vl (((List.range 27).filter (mods (SL L))).map tab))), none, none, none, none, none, none, none, none, none], [d, .dic false (encK L)]⟩ = .ok .nx ⟨[a0, a1, a2, a3, a4, a5, some (.val (.ref 1)), some (.val (.vl (((List.range 27).filter (mods (SL L))).map tab))), none, none, none, none, none, none, none, none, none], [d, .dic false (encK L)]⟩ := by
        intro a0 a1 a2 a3 a4 a5
        cases zz : (List.range 27).filter (mods (SL L)) with
        | nil => rw [zz] at hne; exact absurd rfl hne
        | cons n ns => simp [tab, okA]
      have s4 : ∀ a0 a1 a2 a3 a4 a5 : Option SV, (ifM (cmpM isNC (pkV 6) (pkE (cM .non))) (retM (cM (.bl true))) nxM) ⟨[a0, a1, a2, a3, a4, a5, some (.val (.ref 1)), some (.val (.vl (((List.range 27).filter (mods (SL L))).map tab))), none, none, none, none, none, none, none, none, none], [d, .dic false (encK L)]⟩ = .ok .nx ⟨[a0, a1, a2, a3, a4, a5, some (.val (.ref 1)), some (.val (.vl (((List.range 27).filter (mods (SL L))).map tab))), none, none, none, none, none, none, none, none, none], [d, .dic false (encK L)]⟩ := by
        intro a0 a1 a2 a3 a4 a5
        simp
      have s5 : ∀ a0 a1 a2 a3 : Option SV, (ifM (cmpM neC (pkE (callM 1 m_shown_all [] (consM (callM 2 m_put_in [] (consM (vM 4) (consM (vM 6) nilM))) nilM))) (pkE (callM 1 m_shown_all [] (consM (callM 2 m_put_in [] (consM (vM 5) (consM (vM 6) nilM))) nilM)))) (retM (cM (.bl false))) nxM) ⟨[a0, a1, a2, a3, some (.val (.vl (one.map av))), some (.val (.vl (other.map av))), some (.val (.ref 1)), some (.val (.vl (((List.range 27).filter (mods (SL L))).map tab))), none, none, none, none, none, none, none, none, none], [d, .dic false (encK L)]⟩ = .ok .nx ⟨[a0, a1, a2, a3, some (.val (.vl (one.map av))), some (.val (.vl (other.map av))), some (.val (.ref 1)), some (.val (.vl (((List.range 27).filter (mods (SL L))).map tab))), none, none, none, none, none, none, none, none, none], [d, .dic false (encK L)]⟩ := by
        intro a0 a1 a2 a3
        have k1 := okL_sh (n := 58) (one.map (lf (SL L)))
        have k2 := okL_sh (n := 58) (other.map (lf (SL L)))
        have k3 := eqL_sh (one.map (lf (SL L))) (other.map (lf (SL L)))
        simp only [hmap, List.map_map, Function.comp_def] at k1 k2 k3
        have hm2 : (one.map fun t => (lf (SL L) t).sh) = other.map fun t => (lf (SL L) t).sh := by
          have := congrArg (List.map sh) hmap
          simpa only [List.map_map, Function.comp_def] using this
        simp [p1, p2, q1, q2, hm2, k2, k3]
      rw [show lRest = seqM _ (seqM _ (seqM _ (seqM _ (seqM _ lFin)))) from rfl, seqM_at, s1, seqR_nx, seqM_at, s2, seqR_nx, seqM_at, s3, seqR_nx, seqM_at, s4, seqR_nx, seqM_at, s5, seqR_nx]
      exact fin _ _ _ _ _ _
  · have hf : fits one other = [] := by
      unfold fits
      rw [List.filter_eq_nil_iff]
      intro n _
      have : one.map (gA n) ≠ other.map (gA n) := fun e => hl (by simpa using congrArg List.length e)
      simpa using this
    rw [hf] at f
    simp [ownAt, m1, m2, putBack, a1 hl, f, done_rt]
theorem law_plain : ∀ ns : List Int, ns.length ≤ 63 → ∃ hp, m_law [.cl (ns.map AV.int)] [] = .ok (.bl true) hp := by
  intro ns _
  refine law_run (k := 15) b_law_eq ns fun d hd => ?_
  obtain ⟨row1, d1, l1, hd1, e1⟩ := drawn_ok hd []
  obtain ⟨row2, d2, l2, hd2, e2⟩ := drawn_ok hd1 []
  obtain ⟨v, d3, h0, h1, hd3, e3⟩ := roll_ok hd2 [] 2 (by decide) (by decide)
  · show DoneOk (lBody ⟨[some (.val (.cl (ns.map AV.int))), some (.val (.ref 0)), none, none, none, none, none, none, none, none, none, none, none, none, none, none, none], [d]⟩)
    have s1 : (parM 2 3 (consM (callM 1 m__law_drawn [] (consM (vM 1) nilM)) (consM (callM 1 m__law_drawn [] (consM (vM 1) nilM)) nilM))) ⟨[some (.val (.cl (ns.map AV.int))), some (.val (.ref 0)), none, none, none, none, none, none, none, none, none, none, none, none, none, none, none], [d]⟩ =
        .ok .nx ⟨[some (.val (.cl (ns.map AV.int))), some (.val (.ref 0)), some (.val (.vl (row1.map sh))), some (.val (.vl (row2.map sh))), none, none, none, none, none, none, none, none, none, none, none, none, none], [d2]⟩ := by
      simp [e1, e2]
    have s2 : ∃ other : List T6, other.length ≤ 20 ∧ (ifM (cmpM eqX (pkE (callM 2 m__law_roll [] (consM (vM 1) (consM (cM (.int 2)) nilM)))) (pkE (cM (.int 0)))) (asgM (setV 3) (slM (pkE (op2 addX (vM 3) (frM (op2N repL (frM (lstM (consM (tupM (consM (cM (.str "var")) (consM (cM (.str "X")) nilM))) nilM))) (cM (.int 4)))))) noPartM (partM (cbM lenA (consM (pkV 2) nilM))))) nxM) ⟨[some (.val (.cl (ns.map AV.int))), some (.val (.ref 0)), some (.val (.vl (row1.map sh))), some (.val (.vl (row2.map sh))), none, none, none, none, none, none, none, none, none, none, none, none, none], [d2]⟩ =
        .ok .nx ⟨[some (.val (.cl (ns.map AV.int))), some (.val (.ref 0)), some (.val (.vl (row1.map sh))), some (.val (.vl (other.map sh))), none, none, none, none, none, none, none, none, none, none, none, none, none], [d3]⟩ := by
      by_cases hv : v = 0
      · subst hv
        refine ⟨(row2 ++ [X, X, X, X]).take row1.length, by simp; omega, ?_⟩
        have e4 : AV.tup [.str "var", .str "X"] = X.sh := rfl
        have e5 : row2.length + 4 ≤ 16777216 := by omega
        simp [e3, repL, e4, cut_take, e5]
      · exact ⟨row2, by omega, by simp [e3, hv]⟩
    obtain ⟨other, l3, s2⟩ := s2
    rw [show lBody = seqM _ (seqM _ lRest) from rfl, seqM_at, s1, seqR_nx, seqM_at, s2, seqR_nx]
    exact rest_ok row1 other (by omega) l3 d3 _

abbrev R : PySem.W.OpenRow := PySem.W.OpenLaw.row PySem.Challenge.rw_deducehall_k02_terms_made_alike
abbrev hk : PySem.W.Hook := He.hookD 5 fa fn
def ob (s : PySem.W.SharedT) : He.AlD := He.obsDG 5 fa fn (HandSHeadRun.getT s)
theorem ob_eq (s : PySem.W.SharedT) : ob s = hk.obs s.abs := He.obsDG_eq (HandSHeadRun.getT_eq s)
def loose : List PySem.Str := (["_wall", "Term", "var", "val", "led_to", "made_alike", "put_in", "shown_all", "_law_dice", "_law_roll", "_law_rounds", "_law_make", "_law_drawn", "_law_fits"] : List PySem.Str)
theorem run (w : World) : HandSHeadRun.RunEq R (PySem.W.view R.prog [16]) hk ob 2000 loose w := by
  intro os
  kernel_rfl

end My
open PySem PySem.W PySem.Calls PyProof.Rows
theorem PySem.Challenge.cw_deducehall_k02_terms_made_alike_holds : PySem.Challenge.rw_deducehall_k02_terms_made_alike.Holds := by
  w_on; o_law
  refine HandSHeadRun.head_any (r := OpenLaw.row PySem.Challenge.rw_deducehall_k02_terms_made_alike) (q := view (OpenLaw.row PySem.Challenge.rw_deducehall_k02_terms_made_alike).prog [16]) (H := My.hk) (ob := My.ob) (M := 2000) (loose := My.loose) (d := HandSHeadRun.topDef (OpenLaw.row PySem.Challenge.rw_deducehall_k02_terms_made_alike).prog 16) (kwd := []) My.ob_eq
    (by kernel_rfl) (fun s => by kernel_rfl) My.run (by kernel_rfl) (by kernel_rfl) (by kernel_rfl) (by rfl) (by first | assumption | decide +kernel) (by decide +kernel) ⟨rfl, rfl, rfl, rfl, rfl, by decide +kernel⟩ ?hw ?hc
  case hw => w_witness2
  case hc =>
    refine LM.walk_m (l := PySem.Challenge.rw_deducehall_k02_terms_made_alike) (n := 63) (k := 5) (x := "_law_script") (m := My.m_law) rfl (by decide) (by kernel_rfl) ⟨rfl, by decide, by decide⟩ ?F My.law_plain
    intro w mg fa h Y G hmg0
    obtain ⟨K, KX, c⟩ := Y
    have hmg : mg ("law" : PySem.Str) = some (.ref fa) := by
      have e : (HandSHeadRun.topDef (OpenLaw.row PySem.Challenge.rw_deducehall_k02_terms_made_alike).prog 16).name = ("law" : PySem.Str) := by kernel_rfl
      rw [← e]
      exact hmg0
    have e : LM.Fc My.fa My.fn K mg := ⟨⟨h, KX, G⟩, c⟩
    have ea := hmg.symm.trans (e.glo 25 rfl)
    cases ea
    obtain ⟨fd, F⟩ := c.def_ 15 (d := My.d_law) rfl
    have b := L2.FunD.bindsA (ps := ["_law_script"]) F fun _ _ _ _ _ _ us hl => match us, hl with | [_], _ => rfl
    exact ⟨K, fd, KX, fun s v => b s [v] rfl, fun base _ _ => My.w_law e F⟩

