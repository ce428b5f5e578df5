import PyProof.Rows.All
import Wide.All
import OpenK.AllK
import Wide.FinOn
import HandS.ForExc
import HandS.Dict
import HandS.Iter
import HandS.Comp
import HandS.HeadHook2
import HandS.Lambda
import HandS.Style
import HandS.TupAny
import HandS.Text
import HandS.Flow
import HandS.Star
import HandS.NoneIn
import HandS.DictComp
import HandS.IsInst
import HandS.More
import HandS.Conv
import KE.SortData
import KE.SortKeyHeap
import KE.DataMinMax
import KE.DataEq
import HandS.CallSlots
import HandS.Defaults
import HandS.HeadHook4
import HandS.ExcIs
import HandS.ExcField
import HandS.TryMany
import HandS.ExcInit
import HandS.Small
import KE.KExcInit
import HandS.ListItems
import KE.KSortKey
import KE.KStateDown
import HandS.Head0
import HandS.Head1
import HandS.Head2
import HandS.HeadEnd
import HandS.HeadWalk
import PySem.Challenge.RW_schedbench_k77_queues_and_settle
set_option Elab.async false
set_option linter.all false
set_option maxRecDepth 100000
set_option maxHeartbeats 2000000
namespace Mw
open PySem PySem.Spec PyProof.Rows L2

abbrev AK := Sum Int (List Nat)
inductive AV where
  | non | bl (b : Bool) | int (i : Int) | str (x : List Nat)
  | tup (xs : List AV) | lst (xs : List AV) | rol (xs : List AV) | dct (kvs : List (AK × AV))
  | ref (i : Nat) | glo (g : Nat) | exh (c : Nat) (fs : List (Nat × AV))
inductive AO where
  | lst (xs : List AV) | dct (kvs : List (AK × AV)) | ins (c : Nat) (fs : List (Nat × AV)) | gone
abbrev AH := List AO
abbrev AE := List (Option AV)

inductive Out (α : Type) where
  | ok (a : α) (A : AH) | exc (c : Nat) (fs : List (Nat × AV)) (A : AH) | stuck
def Out.bind {α β : Type} (o : Out α) (k : α → AH → Out β) : Out β := match o with
  | .ok a A => k a A
  | .exc c fs A => .exc c fs A
  | .stuck => .stuck
inductive SR where
  | nx (τ : AE) (A : AH) | rt (v : AV) (A : AH) | bk (τ : AE) (A : AH) | ct (τ : AE) (A : AH)
  | exc (c : Nat) (fs : List (Nat × AV)) (τ : AE) (A : AH) | stuck
abbrev EM := AE → AH → Out AV
abbrev TM := AE → AH → Out Bool
abbrev AM := AE → AH → Out (List AV)
abbrev SM := AE → AH → SR
abbrev FM := List AV → AH → Out AV
structure Gm where
  K : PySem.W.Frag
  nm : Nat → Str
  inj : ∀ i j, nm i = nm j → i = j
  ξ : Option (Addr × Value × Option Addr)
  hid : List Addr
  tabs : List (Addr × Str)
abbrev Gm.ad (Γ : Gm) (g : Nat) : Addr := He.ga Γ.K (Γ.nm g)
def ntb : HO → Bool
  | .tbl _ => false
  | _ => true
def kK : AK → Key
  | .inl i => .inl i
  | .inr x => .inr ⟨x.toArray⟩
def Tr (Γ : Gm) (ρ : Nat → Addr) (A : AH) (a : Addr) : Prop := (∃ i o, A[i]? = some o ∧ o ≠ .gone ∧ ρ i = a) ∨ a ∈ Γ.hid

section
variable (Γ : Gm) (ρ : Nat → Addr) (A : AH) (H : Hp)
mutual
def VR : AV → V → Prop
  | .non, u => u = .non
  | .bl b, u => u = .bl b
  | .int i, u => u = .int i
  | .str x, u => u = .str ⟨x.toArray⟩
  | .tup xs, u => ∃ a us, u = .ref a ∧ SqT Γ.K H a us ∧ VRs xs us
  | .lst xs, u => ∃ a us, u = .ref a ∧ ¬ Tr Γ ρ A a ∧ H a = some (.lst us) ∧ VRs xs us
  | .rol xs, u => ∃ a us, u = .ref a ∧ ((¬ Tr Γ ρ A a ∧ Rd H a (.lst us)) ∨ SqL Γ.K (fun _ => none) a us) ∧ VRs xs us
  | .dct kvs, u => ∃ a o kus, u = .ref a ∧ ¬ Tr Γ ρ A a ∧ H a = some (.frz o (.dK kus)) ∧ KRs kvs kus
  | .ref i, u => i < A.length ∧ u = .ref (ρ i)
  | .glo g, u => u = .ref (Γ.ad g)
  | .exh c fs, u => ∃ a cls d fus, Γ.ξ = some (a, cls, d) ∧ u = .ref a ∧ cls = .ref (Γ.ad c) ∧ XRs fs fus ∧ ((fs = [] ∧ d = none) ∨ ∃ b, d = some b ∧ ¬ Tr Γ ρ A b ∧ H b = some (.xd fus))
def VRs : List AV → List V → Prop
  | [], us => us = []
  | x :: xs, us => ∃ u r, us = u :: r ∧ VR x u ∧ VRs xs r
def KRs : List (AK × AV) → List (Key × V) → Prop
  | [], us => us = []
  | (k, x) :: xs, us => ∃ u r, us = (kK k, u) :: r ∧ VR x u ∧ KRs xs r
def XRs : List (Nat × AV) → List (Str × V) → Prop
  | [], us => us = []
  | (f, x) :: xs, us => ∃ u r, us = (Γ.nm f, u) :: r ∧ VR x u ∧ XRs xs r
end
def XR (c : Nat) (fs : List (Nat × AV)) (cls : Value) (d : Option Addr) : Prop :=
  ∃ fus, cls = .ref (Γ.ad c) ∧ XRs Γ ρ A H fs fus ∧ ((fs = [] ∧ d = none) ∨ ∃ b, d = some b ∧ ¬ Tr Γ ρ A b ∧ H b = some (.xd fus))
def OR (a : Addr) : AO → Prop
  | .lst xs => ∃ us, H a = some (.lst us) ∧ VRs Γ ρ A H xs us
  | .dct kvs => ∃ kus, H a = some (.dK kus) ∧ KRs Γ ρ A H kvs kus
  | .ins c fs => ∃ dx fus, H a = some (.ins (Γ.ad c) dx fus) ∧ XRs Γ ρ A H fs fus
  | .gone => True
structure Rel : Prop where
  inj : ∀ i j oi oj, A[i]? = some oi → A[j]? = some oj → oi ≠ .gone → oj ≠ .gone → ρ i = ρ j → i = j
  obj : ∀ i o, A[i]? = some o → OR Γ ρ A H (ρ i) o
  hn : ∀ a, a ∈ Γ.hid → ∃ o, H a = some o ∧ (ntb o = true ∨ ∃ p ∈ Γ.tabs, p.1 = a)
  hs : ∀ i o, A[i]? = some o → o ≠ .gone → ρ i ∉ Γ.hid
  tb : LamX.Tabs Γ.tabs H
  th : ∀ p ∈ Γ.tabs, p.1 ∈ Γ.hid
def ER (τ : AE) (σ : List (Option V)) : Prop := τ.length = σ.length ∧ ∀ (i : Nat) (v : AV), τ[i]? = some (some v) → ∃ u : V, σ[i]? = some (some u) ∧ VR Γ ρ A H v u
end
structure Ext (Γ : Gm) (ρ : Nat → Addr) (A : AH) (H : Hp) (ρ' : Nat → Addr) (A' : AH) (H' : Hp) : Prop where
  le : A.length ≤ A'.length
  ag : ∀ i, i < A.length → ρ' i = ρ i
  tp : ∀ a us, SqT Γ.K H a us → SqT Γ.K H' a us
  un : ∀ b o, ntb o = true → H b = some o → ¬ Tr Γ ρ A b → H' b = some o ∧ ¬ Tr Γ ρ' A' b
  hd : ∀ b o, ntb o = true → b ∈ Γ.hid → H b = some o → H' b = some o
section
variable {Γ : Gm} {ρ ρ' ρ'' : Nat → Addr} {A A' A'' : AH} {H H' H'' : Hp}
theorem Ext.refl : Ext Γ ρ A H ρ A H := ⟨Nat.le_refl _, fun _ _ => rfl, fun _ _ h => h, fun _ _ _ h n => ⟨h, n⟩, fun _ _ _ _ h => h⟩
theorem Ext.trans (x : Ext Γ ρ A H ρ' A' H') (y : Ext Γ ρ' A' H' ρ'' A'' H'') : Ext Γ ρ A H ρ'' A'' H'' :=
  ⟨Nat.le_trans x.le y.le, fun i h => (y.ag i (Nat.lt_of_lt_of_le h x.le)).trans (x.ag i h), fun a us h => y.tp a us (x.tp a us h),
   fun b o t h n => y.un b o t (x.un b o t h n).1 (x.un b o t h n).2, fun b o t hb h => y.hd b o t hb (x.hd b o t hb h)⟩
end

section
variable {Γ : Gm} {ρ ρ' : Nat → Addr} {A A' : AH} {H H' : Hp}
mutual
theorem VR.ext (x : Ext Γ ρ A H ρ' A' H') : ∀ (v : AV) {u : V}, VR Γ ρ A H v u → VR Γ ρ' A' H' v u
  | .non, _, h => h
  | .bl _, _, h => h
  | .int _, _, h => h
  | .str _, _, h => h
  | .glo _, _, h => h
  | .tup xs, _, ⟨a, us, e, s, r⟩ => ⟨a, us, e, x.tp a us s, VRs.ext x xs r⟩
  | .lst xs, _, ⟨a, us, e, n, s, r⟩ => ⟨a, us, e, (x.un a _ rfl s n).2, (x.un a _ rfl s n).1, VRs.ext x xs r⟩
  | .rol xs, _, ⟨a, us, e, s, r⟩ => ⟨a, us, e, s.elim (fun ⟨n, q⟩ => .inl (q.elim (fun q => ⟨(x.un a _ rfl q n).2, .inl (x.un a _ rfl q n).1⟩) fun ⟨o, q⟩ => ⟨(x.un a _ rfl q n).2, .inr ⟨o, (x.un a _ rfl q n).1⟩⟩)) .inr, VRs.ext x xs r⟩
  | .dct kvs, _, ⟨a, o, kus, e, n, s, r⟩ => ⟨a, o, kus, e, (x.un a _ rfl s n).2, (x.un a _ rfl s n).1, KRs.ext x kvs r⟩
  | .ref i, _, ⟨l, e⟩ => ⟨Nat.lt_of_lt_of_le l x.le, by rw [x.ag i l]; exact e⟩
  | .exh c fs, _, ⟨a, cls, d, fus, e1, e2, e3, r, s⟩ => ⟨a, cls, d, fus, e1, e2, e3, XRs.ext x fs r, s.elim .inl fun ⟨b, e, n, q⟩ => .inr ⟨b, e, (x.un b _ rfl q n).2, (x.un b _ rfl q n).1⟩⟩
theorem VRs.ext (x : Ext Γ ρ A H ρ' A' H') : ∀ (xs : List AV) {us : List V}, VRs Γ ρ A H xs us → VRs Γ ρ' A' H' xs us
  | [], _, h => h
  | y :: ys, _, ⟨u, r, e, h, t⟩ => ⟨u, r, e, VR.ext x y h, VRs.ext x ys t⟩
theorem KRs.ext (x : Ext Γ ρ A H ρ' A' H') : ∀ (xs : List (AK × AV)) {us : List (Key × V)}, KRs Γ ρ A H xs us → KRs Γ ρ' A' H' xs us
  | [], _, h => h
  | (k, y) :: ys, _, ⟨u, r, e, h, t⟩ => ⟨u, r, e, VR.ext x y h, KRs.ext x ys t⟩
theorem XRs.ext (x : Ext Γ ρ A H ρ' A' H') : ∀ (xs : List (Nat × AV)) {us : List (Str × V)}, XRs Γ ρ A H xs us → XRs Γ ρ' A' H' xs us
  | [], _, h => h
  | (k, y) :: ys, _, ⟨u, r, e, h, t⟩ => ⟨u, r, e, VR.ext x y h, XRs.ext x ys t⟩
end
theorem XR.ext (x : Ext Γ ρ A H ρ' A' H') {c fs cls d} : XR Γ ρ A H c fs cls d → XR Γ ρ' A' H' c fs cls d
  | ⟨fus, e, r, s⟩ => ⟨fus, e, XRs.ext x fs r, s.elim .inl fun ⟨b, e, n, q⟩ => .inr ⟨b, e, (x.un b _ rfl q n).2, (x.un b _ rfl q n).1⟩⟩
theorem ER.ext (x : Ext Γ ρ A H ρ' A' H') {τ : AE} {σ : L2.St} (e : ER Γ ρ A H τ σ) : ER Γ ρ' A' H' τ σ :=
  ⟨e.1, fun i v h => let ⟨u, h1, h2⟩ := e.2 i v h; ⟨u, h1, h2.ext x⟩⟩
theorem VRs.length : ∀ {xs : List AV} {us : List V}, VRs Γ ρ A H xs us → us.length = xs.length
  | [], _, h => by rw [show _ = ([] : List V) from h]; rfl
  | _ :: _, _, ⟨u, r, e, _, t⟩ => by rw [e, List.length_cons, List.length_cons, VRs.length t]
theorem VRs.get : ∀ {xs : List AV} {us : List V} {i : Nat} {v : AV}, VRs Γ ρ A H xs us → xs[i]? = some v → ∃ u, us[i]? = some u ∧ VR Γ ρ A H v u
  | [], _, _, _, _, e => by simp at e
  | _ :: _, _, 0, _, ⟨u, r, e, h, t⟩, e1 => by simp at e1; subst e1; exact ⟨u, by rw [e]; rfl, h⟩
  | _ :: _, _, i + 1, v, ⟨u, r, e, h, t⟩, e1 => by
    obtain ⟨w, h1, h2⟩ := VRs.get (i := i) (v := v) t (by simpa using e1)
    exact ⟨w, by rw [e]; simpa using h1, h2⟩
theorem VRs.append : ∀ {xs ys : List AV} {us ws : List V}, VRs Γ ρ A H xs us → VRs Γ ρ A H ys ws → VRs Γ ρ A H (xs ++ ys) (us ++ ws)
  | [], _, _, _, h, k => by rw [show _ = ([] : List V) from h]; exact k
  | _ :: _, _, _, _, ⟨u, r, e, h, t⟩, k => by rw [e]; exact ⟨u, r ++ _, rfl, h, VRs.append t k⟩
theorem VRs.set {v : AV} {w : V} (hv : VR Γ ρ A H v w) : ∀ {xs : List AV} {us : List V} (i : Nat), VRs Γ ρ A H xs us → VRs Γ ρ A H (xs.set i v) (us.set i w)
  | [], _, _, h => by rw [show _ = ([] : List V) from h]; rfl
  | _ :: _, _, 0, ⟨u, r, e, h, t⟩ => by rw [e]; exact ⟨w, r, rfl, hv, t⟩
  | _ :: _, _, i + 1, ⟨u, r, e, h, t⟩ => by rw [e]; exact ⟨u, r.set i w, rfl, h, VRs.set hv i t⟩
end

abbrev EK := Value → Option Addr → Hp → Prop
def Post {α β : Type} (RR : Gm → (Nat → Addr) → AH → Hp → α → β → Prop) (Γ : Gm) (E : EK) (ρ : Nat → Addr) (A : AH) (H : Hp) (Q : β → Hp → Prop) : Out α → Prop
  | .ok v A' => ∀ ρ' H' u, Ext Γ ρ A H ρ' A' H' → Rel Γ ρ' A' H' → RR Γ ρ' A' H' v u → Q u H'
  | .exc c fs A' => ∀ ρ' H' cls d, Ext Γ ρ A H ρ' A' H' → Rel Γ ρ' A' H' → XR Γ ρ' A' H' c fs cls d → E cls d H'
  | .stuck => False
def BR (_ : Gm) (_ : Nat → Addr) (_ : AH) (_ : Hp) (b c : Bool) : Prop := b = c
abbrev PostE := Post VR
abbrev PostT := Post BR
abbrev PostA := Post VRs
theorem Post.mono {α β : Type} {RR : Gm → (Nat → Addr) → AH → Hp → α → β → Prop} {Γ : Gm} {E : EK} {ρ ρ1 : Nat → Addr} {A A1 : AH} {H H1 : Hp} {Q : β → Hp → Prop} {o : Out α}
    (x : Ext Γ ρ A H ρ1 A1 H1) (h : Post RR Γ E ρ A H Q o) : Post RR Γ E ρ1 A1 H1 Q o := by
  cases o with
  | ok v A' => exact fun ρ' H' u y R r => h ρ' H' u (x.trans y) R r
  | exc c fs A' => exact fun ρ' H' cls d y R r => h ρ' H' cls d (x.trans y) R r
  | stuck => exact h
def PostS (Γ : Gm) (W : WX) (ρ : Nat → Addr) (A : AH) (H : Hp) (D : Ends) : SR → Prop
  | .nx τ A' => ∀ ρ' H' σ', Ext Γ ρ A H ρ' A' H' → Rel Γ ρ' A' H' → ER Γ ρ' A' H' τ σ' → D.nx σ' H'
  | .rt v A' => ∀ ρ' H' u, Ext Γ ρ A H ρ' A' H' → Rel Γ ρ' A' H' → VR Γ ρ' A' H' v u → D.rt u H'
  | .bk τ A' => ∀ ρ' H' σ', Ext Γ ρ A H ρ' A' H' → Rel Γ ρ' A' H' → ER Γ ρ' A' H' τ σ' → D.bk σ' H'
  | .ct τ A' => ∀ ρ' H' σ', Ext Γ ρ A H ρ' A' H' → Rel Γ ρ' A' H' → ER Γ ρ' A' H' τ σ' → D.ct σ' H'
  | .exc c fs τ A' => ∀ ρ' H' σ' cls d, Ext Γ ρ A H ρ' A' H' → Rel Γ ρ' A' H' → ER Γ ρ' A' H' τ σ' → XR Γ ρ' A' H' c fs cls d → W cls d σ' H'
  | .stuck => False
theorem PostS.mono {Γ : Gm} {W : WX} {ρ ρ1 : Nat → Addr} {A A1 : AH} {H H1 : Hp} {D : Ends} {o : SR}
    (x : Ext Γ ρ A H ρ1 A1 H1) (h : PostS Γ W ρ A H D o) : PostS Γ W ρ1 A1 H1 D o := by
  cases o with
  | nx τ A' => exact fun ρ' H' u y R r => h ρ' H' u (x.trans y) R r
  | rt τ A' => exact fun ρ' H' u y R r => h ρ' H' u (x.trans y) R r
  | bk τ A' => exact fun ρ' H' u y R r => h ρ' H' u (x.trans y) R r
  | ct τ A' => exact fun ρ' H' u y R r => h ρ' H' u (x.trans y) R r
  | exc c fs τ A' => exact fun ρ' H' u cls d y R r k => h ρ' H' u cls d (x.trans y) R r k
  | stuck => exact h
structure At (Γ : Gm) (ρ : Nat → Addr) (A : AH) (τ : AE) (σ : List (Option V)) (H : Hp) : Prop where
  rel : Rel Γ ρ A H
  er : ER Γ ρ A H τ σ
theorem At.to {Γ : Gm} {ρ ρ' : Nat → Addr} {A A' : AH} {τ : AE} {σ : List (Option V)} {H H' : Hp} (a : At Γ ρ A τ σ H) (x : Ext Γ ρ A H ρ' A' H') (R : Rel Γ ρ' A' H') : At Γ ρ' A' τ σ H' := ⟨R, a.er.ext x⟩
def wpG {α β : Type} (RR : Gm → (Nat → Addr) → AH → Hp → α → β → Prop) (Γ : Gm) (W : WX) (m : AE → AH → Out α) (σ : List (Option V)) (H : Hp) (Q : β → Hp → Prop) : Prop :=
  ∃ ρ A τ, At Γ ρ A τ σ H ∧ Post RR Γ (fun c d H' => W c d σ H') ρ A H Q (m τ A)
abbrev wpE (Γ : Gm) (W : WX) (m : EM) : TE := fun σ H Q => wpG VR Γ W m σ H Q
abbrev wpT (Γ : Gm) (W : WX) (m : TM) : TT := fun σ H Q => wpG BR Γ W m σ H Q
abbrev wpA (Γ : Gm) (W : WX) (m : AM) : TA := fun σ H Q => wpG VRs Γ W m σ H Q
def wpS (Γ : Gm) (W : WX) (m : SM) : TS := fun D σ H => ∃ ρ A τ, At Γ ρ A τ σ H ∧ PostS Γ W ρ A H D (m τ A)
theorem wpG.step {α β γ δ : Type} {R1 : Gm → (Nat → Addr) → AH → Hp → α → β → Prop} {R2 : Gm → (Nat → Addr) → AH → Hp → γ → δ → Prop} {Γ : Gm} {W : WX} {m : AE → AH → Out α} {k : α → AH → Out γ} {ρ : Nat → Addr} {A : AH} {τ : AE} {σ : List (Option V)} {H : Hp} {Q : δ → Hp → Prop} {Q1 : β → Hp → Prop}
    (a : At Γ ρ A τ σ H) (h : Post R2 Γ (fun c d H' => W c d σ H') ρ A H Q ((m τ A).bind k))
    (hk : ∀ v A1 ρ1 H1 u, m τ A = .ok v A1 → Ext Γ ρ A H ρ1 A1 H1 → At Γ ρ1 A1 τ σ H1 → R1 Γ ρ1 A1 H1 v u → Post R2 Γ (fun c d H' => W c d σ H') ρ1 A1 H1 Q (k v A1) → Q1 u H1) : wpG R1 Γ W m σ H Q1 := by
  refine ⟨ρ, A, τ, a, ?_⟩
  cases e : m τ A with
  | ok v A1 => rw [e] at h; exact fun ρ1 H1 u x R r => hk v A1 ρ1 H1 u e x (a.to x R) r (Post.mono x h)
  | exc c fs A1 => rw [e] at h; exact h
  | stuck => rw [e] at h; exact h
theorem wpG.stepS {α β : Type} {R1 : Gm → (Nat → Addr) → AH → Hp → α → β → Prop} {Γ : Gm} {W : WX} {m : AE → AH → Out α} {k : α → AH → SR} {ρ : Nat → Addr} {A : AH} {τ : AE} {σ : List (Option V)} {H : Hp} {D : Ends} {Q1 : β → Hp → Prop}
    (a : At Γ ρ A τ σ H) (h : PostS Γ W ρ A H D (match m τ A with | .ok v A1 => k v A1 | .exc c fs A1 => .exc c fs τ A1 | .stuck => .stuck))
    (hk : ∀ v A1 ρ1 H1 u, m τ A = .ok v A1 → Ext Γ ρ A H ρ1 A1 H1 → At Γ ρ1 A1 τ σ H1 → R1 Γ ρ1 A1 H1 v u → PostS Γ W ρ1 A1 H1 D (k v A1) → Q1 u H1) : wpG R1 Γ W m σ H Q1 := by
  refine ⟨ρ, A, τ, a, ?_⟩
  cases e : m τ A with
  | ok v A1 => rw [e] at h; exact fun ρ1 H1 u x R r => hk v A1 ρ1 H1 u e x (a.to x R) r (PostS.mono x h)
  | exc c fs A1 => rw [e] at h; exact fun ρ1 H1 cls d x R r => h ρ1 H1 σ cls d x R (a.er.ext x) r
  | stuck => rw [e] at h; exact h
theorem _root_.L2.PE.imp {X : Cx} {e : Expr} {t t' : TE} (h : PE X e t) (i : ∀ σ H Q, t' σ H Q → t σ H Q) : PE X e t' := ⟨fun pins s σ H Q I q => h.run pins s σ H Q I (i σ H Q q)⟩
theorem _root_.L2.PT.imp {X : Cx} {e : Expr} {t t' : TT} (h : PT X e t) (i : ∀ σ H Q, t' σ H Q → t σ H Q) : PT X e t' := ⟨fun pins s σ H Q I q => h.run pins s σ H Q I (i σ H Q q)⟩
theorem _root_.L2.PW.imp {X : Cx} {e : Expr} {t t' : TT} (h : PW X e t) (i : ∀ σ H Q, t' σ H Q → t σ H Q) : PW X e t' := ⟨fun wh pins s σ H Q I q => h.run wh pins s σ H Q I (i σ H Q q)⟩
theorem _root_.L2.PA.imp {X : Cx} {e : List Expr} {t t' : TA} (h : PA X e t) (i : ∀ σ H Q, t' σ H Q → t σ H Q) : PA X e t' := ⟨fun p pins s σ H Q I q => h.run p pins s σ H Q I (i σ H Q q)⟩
theorem _root_.L2.PS.imp {X : Cx} {e : Stmt} {t t' : TS} (h : PS X e t) (i : ∀ D σ H, t' D σ H → t D σ H) : PS X e t' := ⟨fun pins s σ H D I q => h.run pins s σ H D I (i D σ H q)⟩
theorem _root_.L2.PSs.imp {X : Cx} {e : List Stmt} {t t' : TS} (h : PSs X e t) (i : ∀ D σ H, t' D σ H → t D σ H) : PSs X e t' := ⟨fun pins s σ H D I q => h.run pins s σ H D I (i D σ H q)⟩

abbrev DE (X : Cx) (Γ : Gm) (W : WX) (e : Expr) (m : EM) : Prop := PE X e (wpE Γ W m)
abbrev DT (X : Cx) (Γ : Gm) (W : WX) (e : Expr) (m : TM) : Prop := PT X e (wpT Γ W m)
abbrev DA (X : Cx) (Γ : Gm) (W : WX) (e : List Expr) (m : AM) : Prop := PA X e (wpA Γ W m)
abbrev DS (X : Cx) (Γ : Gm) (W : WX) (e : Stmt) (m : SM) : Prop := PS X e (wpS Γ W m)
abbrev DSs (X : Cx) (Γ : Gm) (W : WX) (e : List Stmt) (m : SM) : Prop := PSs X e (wpS Γ W m)
end Mw
set_option Elab.async false
set_option linter.all false
set_option maxRecDepth 100000
set_option maxHeartbeats 2000000
namespace Mw
open PySem PySem.Spec PyProof.Rows L2
section
variable {Γ : Gm} {ρ ρ' : Nat → Addr} {A A' : AH} {H H' : Hp} {p : Addr} {o : HO} {ao : AO} {i : Nat}
theorem OR.ext (x : Ext Γ ρ A H ρ' A' H') {a : Addr} (hH : ∀ o, H a = some o → H' a = some o) : ∀ {ao : AO}, OR Γ ρ A H a ao → OR Γ ρ' A' H' a ao
  | .lst xs, ⟨us, h, r⟩ => ⟨us, hH _ h, r.ext x⟩
  | .dct xs, ⟨us, h, r⟩ => ⟨us, hH _ h, r.ext x⟩
  | .ins c fs, ⟨dx, us, h, r⟩ => ⟨dx, us, hH _ h, r.ext x⟩
  | .gone, _ => trivial
theorem OR.some {a : Addr} : ∀ {ao : AO}, OR Γ ρ A H a ao → ao ≠ .gone → ∃ o, H a = some o
  | .lst xs, ⟨us, h, r⟩, _ => ⟨_, h⟩
  | .dct xs, ⟨us, h, r⟩, _ => ⟨_, h⟩
  | .ins c fs, ⟨dx, us, h, r⟩, _ => ⟨_, h⟩
  | .gone, _, n => absurd rfl n
theorem Rel.tr (R : Rel Γ ρ A H) {a : Addr} (t : Tr Γ ρ A a) : ∃ o, H a = Option.some o := by
  rcases t with ⟨i, o, e, n, rfl⟩ | t
  · exact (R.obj i o e).some n
  · exact (R.hn a t).imp fun _ h => h.1
theorem Rel.notTr (R : Rel Γ ρ A H) {a : Addr} (h : H a = none) : ¬ Tr Γ ρ A a := fun t => by
  obtain ⟨o, e⟩ := R.tr t
  rw [h] at e; cases e
theorem sqT_upd {K : PySem.W.Frag} {H : Hp} {p : Addr} {o : HO} (hp : H p = none) {a : Addr} {us : List V} (h : SqT K H a us) : SqT K (upd H p o) a us := by
  rcases h with (h | ⟨q, h⟩) | h
  · exact .inl (.inl (by rw [upd_ne (ne_of_none h hp)]; exact h))
  · exact .inl (.inr ⟨q, by rw [upd_ne (ne_of_none h hp)]; exact h⟩)
  · exact .inr h
theorem sqT_updM {K : PySem.W.Frag} {H : Hp} {p : Addr} {o : HO} (hp : ∀ us, H p ≠ some (.tup us)) (hp2 : ∀ q us, H p ≠ some (.frz q us)) {a : Addr} {us : List V} (h : SqT K H a us) : SqT K (upd H p o) a us := by
  rcases h with (h | ⟨q, h⟩) | h
  · exact .inl (.inl (by rw [upd_ne (fun (e : a = p) => hp us (e ▸ h))]; exact h))
  · exact .inl (.inr ⟨q, by rw [upd_ne (fun (e : a = p) => hp2 q _ (e ▸ h))]; exact h⟩)
  · exact .inr h
theorem Ext.fresh (R : Rel Γ ρ A H) (hp : H p = none) : Ext Γ ρ A H ρ A (upd H p o) :=
  ⟨Nat.le_refl _, fun _ _ => rfl, fun _ _ h => sqT_upd hp h, fun b q _ h n => ⟨by rw [upd_ne (ne_of_none h hp)]; exact h, n⟩, fun b q _ _ h => by rw [upd_ne (ne_of_none h hp)]; exact h⟩
theorem Rel.fresh (R : Rel Γ ρ A H) (hp : H p = none) : Rel Γ ρ A (upd H p o) :=
  ⟨R.inj, fun i ao e => (R.obj i ao e).ext (Ext.fresh R hp) fun q h => (by rw [upd_ne (ne_of_none h hp)]; exact h), fun a h => (let ⟨q, e, z⟩ := R.hn a h; ⟨q, by rw [upd_ne (ne_of_none e hp)]; exact e, z⟩), R.hs, R.tb.ext fun b q h => (by rw [upd_ne (ne_of_none h hp)]; exact h), R.th⟩
def rho (ρ : Nat → Addr) (n : Nat) (p : Addr) : Nat → Addr := fun i => if i = n then p else ρ i
theorem rho_at {ρ : Nat → Addr} {n : Nat} {p : Addr} : rho ρ n p n = p := if_pos rfl
theorem rho_lt {ρ : Nat → Addr} {n i : Nat} {p : Addr} (h : i < n) : rho ρ n p i = ρ i := if_neg (Nat.ne_of_lt h)
theorem snoc_get {α : Type} {l : List α} {x y : α} {i : Nat} (h : (l ++ [x])[i]? = some y) : (i < l.length ∧ l[i]? = some y) ∨ (i = l.length ∧ y = x) := by
  by_cases hi : i < l.length
  · rw [List.getElem?_append_left hi] at h; exact .inl ⟨hi, h⟩
  · rw [List.getElem?_append_right (by omega)] at h
    have : i - l.length = 0 := by
      cases e : i - l.length with
      | zero => rfl
      | succ k => rw [e] at h; simp at h
    rw [this] at h
    exact .inr ⟨by omega, by simpa using h.symm⟩
theorem Ext.track (R : Rel Γ ρ A H) (hp : H p = none) : Ext Γ ρ A H (rho ρ A.length p) (A ++ [ao]) (upd H p o) :=
  ⟨by simp, fun i h => rho_lt h, fun _ _ h => sqT_upd hp h, fun b q _ h n => ⟨by rw [upd_ne (ne_of_none h hp)]; exact h, fun t => by
    rcases t with ⟨j, oj, e, nj, ej⟩ | t
    · rcases snoc_get e with ⟨hj, e⟩ | ⟨rfl, _⟩
      · exact n (.inl ⟨j, oj, e, nj, by rw [← ej, rho_lt hj]⟩)
      · rw [rho_at] at ej; subst ej; rw [hp] at h; cases h
    · exact n (.inr t)⟩, fun b q _ _ h => by rw [upd_ne (ne_of_none h hp)]; exact h⟩
theorem Rel.track (R : Rel Γ ρ A H) (hp : H p = none) (new : OR Γ (rho ρ A.length p) (A ++ [ao]) (upd H p o) p ao) : Rel Γ (rho ρ A.length p) (A ++ [ao]) (upd H p o) := by
  refine ⟨fun i j oi oj ei ej ni nj e => ?_, fun i q e => ?_, fun a h => (let ⟨q, e, z⟩ := R.hn a h; ⟨q, by rw [upd_ne (ne_of_none e hp)]; exact e, z⟩), fun i q e n => ?_, R.tb.ext fun b q h => (by rw [upd_ne (ne_of_none h hp)]; exact h), R.th⟩
  · rcases snoc_get ei with ⟨hi, ei⟩ | ⟨rfl, _⟩
    · rcases snoc_get ej with ⟨hj, ej⟩ | ⟨rfl, _⟩
      · rw [rho_lt hi, rho_lt hj] at e; exact R.inj i j oi oj ei ej ni nj e
      · rw [rho_lt hi, rho_at] at e
        exact absurd (.inl ⟨i, oi, ei, ni, e⟩) (R.notTr hp)
    · rcases snoc_get ej with ⟨hj, ej⟩ | ⟨rfl, _⟩
      · rw [rho_lt hj, rho_at] at e
        exact absurd (.inl ⟨j, oj, ej, nj, e.symm⟩) (R.notTr hp)
      · rfl
  · rcases snoc_get e with ⟨hi, e⟩ | ⟨rfl, rfl⟩
    · rw [rho_lt hi]
      exact (R.obj i q e).ext (Ext.track R hp) fun q h => by rw [upd_ne (ne_of_none h hp)]; exact h
    · rw [rho_at]; exact new
  · rcases snoc_get e with ⟨hi, e⟩ | ⟨rfl, rfl⟩
    · rw [rho_lt hi]; exact R.hs i q e n
    · rw [rho_at]; exact fun h => R.notTr hp (.inr h)
theorem Tr.set {a : Addr} (hi : ∃ o : AO, A[i]? = some o ∧ o ≠ .gone) (h : Tr Γ ρ (A.set i ao) a) : Tr Γ ρ A a := by
  rcases h with ⟨j, oj, e, nj, ej⟩ | h
  · by_cases hj : j = i
    · subst hj
      obtain ⟨q, e1, n1⟩ := hi
      exact .inl ⟨j, q, e1, n1, ej⟩
    · rw [List.getElem?_set_ne (Ne.symm hj)] at e
      exact .inl ⟨j, oj, e, nj, ej⟩
  · exact .inr h
theorem Ext.write (R : Rel Γ ρ A H) {oi : AO} (ei : A[i]? = some oi) (ni : oi ≠ .gone) (h1 : ∀ us, H (ρ i) ≠ some (.tup us)) (h2 : ∀ q us, H (ρ i) ≠ some (.frz q us)) : Ext Γ ρ A H ρ (A.set i ao) (upd H (ρ i) o) :=
  ⟨by simp, fun _ _ => rfl, fun _ _ h => sqT_updM h1 h2 h, fun b q _ h n => by
    have nb : b ≠ ρ i := fun e => n (.inl ⟨i, oi, ei, ni, e.symm⟩)
    exact ⟨by rw [upd_ne nb]; exact h, fun t => n (Tr.set ⟨oi, ei, ni⟩ t)⟩, fun b q _ hb h => by
    have nb : b ≠ ρ i := fun e => R.hs i oi ei ni (e ▸ hb)
    rw [upd_ne nb]; exact h⟩
theorem back {oi : AO} (ei : A[i]? = some oi) (ni : oi ≠ .gone) : ∀ {j : Nat} {oj : AO}, (A.set i ao)[j]? = some oj → oj ≠ .gone → ∃ q, A[j]? = some q ∧ q ≠ .gone := fun {j oj} e n => by
  by_cases hj : j = i
  · exact ⟨oi, hj ▸ ei, ni⟩
  · rw [List.getElem?_set_ne (Ne.symm hj)] at e
    exact ⟨oj, e, n⟩
theorem tabs_upd {T : List (Addr × Str)} {H : Hp} {a : Addr} {q o : HO} (t : LamX.Tabs T H) (h : H a = some q) (n1 : ∀ ps, q ≠ .tbl ps) (n2 : ∀ φ, q ≠ .ext φ) : LamX.Tabs T (upd H a o) := fun p hp => by
  obtain ⟨ps, h1, h2, h3⟩ := t p hp
  refine ⟨ps, by rw [upd_ne (fun e => n1 ps (by rw [e, h] at h1; exact Option.some.inj h1))]; exact h1, h2, fun pos cv hc => ?_⟩
  obtain ⟨c, e1, e2⟩ := h3 pos cv hc
  exact ⟨c, e1, by rw [upd_ne (fun e => n2 _ (by rw [e, h] at e2; exact Option.some.inj e2))]; exact e2⟩
theorem OR.shape {a : Addr} : ∀ {ao : AO}, OR Γ ρ A H a ao → ao ≠ .gone → ∃ o, H a = Option.some o ∧ (∀ ps, o ≠ .tbl ps) ∧ ∀ φ, o ≠ .ext φ
  | .lst xs, ⟨us, h, r⟩, _ => ⟨_, h, (fun _ e => by cases e), (fun _ e => by cases e)⟩
  | .dct xs, ⟨us, h, r⟩, _ => ⟨_, h, (fun _ e => by cases e), (fun _ e => by cases e)⟩
  | .ins c fs, ⟨dx, us, h, r⟩, _ => ⟨_, h, (fun _ e => by cases e), (fun _ e => by cases e)⟩
  | .gone, _, n => absurd rfl n
theorem Rel.write (R : Rel Γ ρ A H) {oi : AO} (ei : A[i]? = some oi) (ni : oi ≠ .gone) (h1 : ∀ us, H (ρ i) ≠ some (.tup us)) (h2 : ∀ q us, H (ρ i) ≠ some (.frz q us))
    (new : OR Γ ρ (A.set i ao) (upd H (ρ i) o) (ρ i) ao) : Rel Γ ρ (A.set i ao) (upd H (ρ i) o) := by
  have hl : i < A.length := (List.getElem?_eq_some_iff.mp ei).1
  obtain ⟨q0, hq0, n01, n02⟩ := OR.shape (R.obj i oi ei) ni
  refine ⟨fun j k oj ok ej ek nj nk e => ?_, fun j q e => ?_, fun a h => ?_, fun j q e n => ?_, tabs_upd R.tb hq0 n01 n02, R.th⟩
  · obtain ⟨qj, e1, n1⟩ := back ei ni ej nj
    obtain ⟨qk, e2, n2⟩ := back ei ni ek nk
    exact R.inj j k qj qk e1 e2 n1 n2 e
  · by_cases hj : j = i
    · subst hj
      rw [List.getElem?_set_self hl] at e
      cases e
      exact new
    · rw [List.getElem?_set_ne (Ne.symm hj)] at e
      by_cases hg : q = .gone
      · subst hg; trivial
      · refine (R.obj j q e).ext (Ext.write R ei ni h1 h2) fun u h => ?_
        rw [upd_ne (fun z => hj (R.inj j i q oi e ei hg ni z))]; exact h
  · obtain ⟨q, e, z0⟩ := R.hn a h
    have nb : a ≠ ρ i := fun z => R.hs i oi ei ni (z ▸ h)
    exact ⟨q, by rw [upd_ne nb]; exact e, z0⟩
  · obtain ⟨qj, e1, n1⟩ := back ei ni e n
    exact R.hs j qj e1 n1
theorem Ext.freeze (R : Rel Γ ρ A H) {oi : AO} (ei : A[i]? = some oi) (ni : oi ≠ .gone) : Ext Γ ρ A H ρ (A.set i .gone) H :=
  ⟨by simp, fun _ _ => rfl, fun _ _ h => h, fun b q _ h n => ⟨h, fun t => n (Tr.set ⟨oi, ei, ni⟩ t)⟩, fun _ _ _ _ h => h⟩
theorem Rel.freeze (R : Rel Γ ρ A H) {oi : AO} (ei : A[i]? = some oi) (ni : oi ≠ .gone) : Rel Γ ρ (A.set i .gone) H := by
  have hl : i < A.length := (List.getElem?_eq_some_iff.mp ei).1
  have bk : ∀ {j : Nat} {oj : AO}, (A.set i .gone)[j]? = some oj → oj ≠ .gone → j ≠ i ∧ A[j]? = some oj := fun {j oj} e n => by
    by_cases hj : j = i
    · subst hj
      rw [List.getElem?_set_self hl] at e
      cases e; exact absurd rfl n
    · rw [List.getElem?_set_ne (Ne.symm hj)] at e
      exact ⟨hj, e⟩
  refine ⟨fun j k oj ok ej ek nj nk e => R.inj j k oj ok (bk ej nj).2 (bk ek nk).2 nj nk e, fun j q e => ?_, R.hn, fun j q e n => R.hs j q (bk e n).2 n, R.tb, R.th⟩
  by_cases hg : q = .gone
  · subst hg; trivial
  · exact (R.obj j q (bk e hg).2).ext (Ext.freeze R ei ni) fun _ h => h
theorem notTr_set (R : Rel Γ ρ A H) {oi : AO} (ei : A[i]? = some oi) (ni : oi ≠ .gone) : ¬ Tr Γ ρ (A.set i .gone) (ρ i) := fun t => by
  have hl : i < A.length := (List.getElem?_eq_some_iff.mp ei).1
  rcases t with ⟨j, oj, e, nj, ej⟩ | t
  · by_cases hj : j = i
    · subst hj
      rw [List.getElem?_set_self hl] at e
      cases e; exact nj rfl
    · rw [List.getElem?_set_ne (Ne.symm hj)] at e
      exact hj (R.inj j i oj oi e ei nj ni ej)
  · exact R.hs i oi ei ni t
end

def newL (fz : Bool) (xs : List AV) (A : AH) : Out AV := if fz then .ok (.lst xs) A else .ok (.ref A.length) (A ++ [.lst xs])
section
variable {Γ : Gm} {E : EK} {ρ : Nat → Addr} {A : AH} {H : Hp} {Q : VK} {xs : List AV} {us : List V}
theorem post_newL {fz : Bool} (R : Rel Γ ρ A H) (h : PostE Γ E ρ A H Q (newL fz xs A)) (r : VRs Γ ρ A H xs us) : ∀ p, H p = none → Q (.ref p) (upd H p (.lst us)) := fun p hp => by
  unfold newL at h
  cases fz with
  | true => exact h ρ _ _ (Ext.fresh R hp) (R.fresh hp) ⟨p, us, rfl, (R.fresh (o := .lst us) hp |> fun _ => R.notTr hp), upd_same, r.ext (Ext.fresh R hp)⟩
  | false =>
    have x : Ext Γ ρ A H (rho ρ A.length p) (A ++ [.lst xs]) (upd H p (.lst us)) := Ext.track R hp
    exact h _ _ _ x (R.track hp ⟨us, upd_same, r.ext x⟩) ⟨by simp, by rw [rho_at]⟩
theorem post_newT (R : Rel Γ ρ A H) (h : PostE Γ E ρ A H Q (.ok (.tup xs) A)) (r : VRs Γ ρ A H xs us) : ∀ p, H p = none → Q (.ref p) (upd H p (.tup us)) := fun p hp =>
  h ρ _ _ (Ext.fresh R hp) (R.fresh hp) ⟨p, us, rfl, .inl (.inl upd_same), r.ext (Ext.fresh R hp)⟩
theorem post_val {v : AV} {u : V} (R : Rel Γ ρ A H) (h : PostE Γ E ρ A H Q (.ok v A)) (r : VR Γ ρ A H v u) : Q u H := h ρ H u Ext.refl R r
end
end Mw
set_option Elab.async false
set_option linter.all false
set_option maxRecDepth 100000
set_option maxHeartbeats 2000000
namespace Mw
open PySem PySem.Spec PyProof.Rows L2
abbrev B2 := AV → AV → AH → Out AV
def orE (f g : B2) : B2 := fun x y A => match f x y A with
  | .stuck => g x y A
  | r => r
structure OpM (X : Cx) (Γ : Gm) (f : Value → Value → Sem Value) (m : B2) : Prop where
  run : ∀ (pins : List (Addr × Obj)) (s : Shared) (σ : List (Option V)) (H : Hp) (Q : VK) (E : EK) (ρ : Nat → Addr) (A : AH) (x y : AV) (u w : V) (v1 v2 : Value), Inv X pins σ H s → Rel Γ ρ A H → VR Γ ρ A H x u → VR Γ ρ A H y w → RelV u v1 → RelV w v2 →
    PostE Γ E ρ A H Q (m x y A) → wpAny (model X.prog X.w) X.A (f v1 v2) (EP X pins σ Q) X.xe s
section
variable {X : Cx} {Γ : Gm} {f : Value → Value → Sem Value}
theorem OpM.or {m n : B2} (a : OpM X Γ f m) (b : OpM X Γ f n) : OpM X Γ f (orE m n) := ⟨fun pins s σ H Q E ρ A x y u w v1 v2 I R r1 r2 q1 q2 h => by
  unfold orE at h
  cases e : m x y A with
  | ok v A' => exact a.run pins s σ H Q E ρ A x y u w v1 v2 I R r1 r2 q1 q2 (by rw [e] at h ⊢; exact h)
  | exc c fs A' => exact a.run pins s σ H Q E ρ A x y u w v1 v2 I R r1 r2 q1 q2 (by rw [e] at h ⊢; exact h)
  | stuck => rw [e] at h; exact b.run pins s σ H Q E ρ A x y u w v1 v2 I R r1 r2 q1 q2 h⟩
theorem OpM.of {r : R2} {m : B2} (o : OpR X f r) (h : ∀ (Q : VK) (E : EK) (ρ : Nat → Addr) (A : AH) (H : Hp) (x y : AV) (u w : V), Rel Γ ρ A H → VR Γ ρ A H x u → VR Γ ρ A H y w → PostE Γ E ρ A H Q (m x y A) → r u w H Q) : OpM X Γ f m :=
  ⟨fun pins s σ H Q E ρ A x y u w v1 v2 I R r1 r2 q1 q2 k => o pins s σ H u w v1 v2 Q I q1 q2 (h Q E ρ A H x y u w R r1 r2 k)⟩
def ii (C : Int → Int → Bool) (g : Int → Int → AV) : B2 := fun x y A => match x, y with
  | .int i, .int j => if C i j = true then .ok (g i j) A else .stuck
  | _, _ => .stuck
theorem op_ii {r : R2} {C : Int → Int → Bool} {g : Int → Int → AV} (o : OpR X f r) (h : ∀ (i j : Int) (H : Hp) (Q : VK) (ρ : Nat → Addr) (A : AH), C i j = true → (∀ u, VR Γ ρ A H (g i j) u → Q u H) → r (.int i) (.int j) H Q) : OpM X Γ f (ii C g) :=
  .of o fun Q E ρ A H x y u w R r1 r2 k => by
    unfold ii at k
    cases x <;> try exact k.elim
    cases y <;> try exact k.elim
    rename_i i j
    have e1 : u = .int i := r1
    have e2 : w = .int j := r2
    subst e1 e2
    simp only at k
    split at k
    · rename_i hc
      exact h i j H Q ρ A hc fun u ru => post_val R k ru
    · exact k.elim
def yes : Int → Int → Bool := fun _ _ => true
def addI : B2 := ii yes fun i j => .int (i + j)
def subI : B2 := ii yes fun i j => .int (i - j)
def CMulB (i j : Int) : Bool := decide (-(2 ^ 64) < i ∧ i < 2 ^ 64) || decide (-(2 ^ 64) < j ∧ j < 2 ^ 64)
def mulI : B2 := ii CMulB fun i j => .int (i * j)
def fdivI : B2 := ii (fun _ j => decide (0 < j ∧ j < 1073741824)) fun i j => .int (i / j)
def modI : B2 := ii (fun _ j => decide (0 < j)) fun i j => .int (i % j)
def CPowB (i j : Int) : Bool := decide (0 ≤ j ∧ j ≤ 1000000) && decide (i.natAbs < 2 ^ 64)
def powI : B2 := ii CPowB fun i j => .int (i ^ j.toNat)
def ltI : B2 := ii yes fun i j => .bl (decide (i < j))
def leI : B2 := ii yes fun i j => .bl (decide (i ≤ j))
def gtI : B2 := ii yes fun i j => .bl (decide (j < i))
def geI : B2 := ii yes fun i j => .bl (decide (j ≤ i))
theorem m_addI : OpM X Γ (binaryOp .Add) addI := op_ii op_add fun i j H Q ρ A _ k => ⟨i, j, rfl, rfl, k _ rfl⟩
theorem m_iaddI : OpM X Γ (inplaceOp .Add) addI := op_ii iop_add fun i j H Q ρ A _ k => ⟨i, j, rfl, rfl, k _ rfl⟩
theorem m_subI : OpM X Γ (binaryOp .Sub) subI := op_ii op_sub fun i j H Q ρ A _ k => ⟨i, j, rfl, rfl, k _ rfl⟩
theorem m_mulI : OpM X Γ (binaryOp .Mult) mulI := op_ii op_mul fun i j H Q ρ A c k => ⟨i, j, rfl, rfl, (Bool.or_eq_true_iff.mp c).imp of_decide_eq_true of_decide_eq_true, k _ rfl⟩
theorem m_fdivI : OpM X Γ (binaryOp .FloorDiv) fdivI := op_ii op_fdiv fun i j H Q ρ A c k =>
  have c' : 0 < j ∧ j < 1073741824 := of_decide_eq_true c
  ⟨i, j, rfl, rfl, c', k _ rfl⟩
theorem m_modI : OpM X Γ (binaryOp .Mod) modI := op_ii op_mod fun i j H Q ρ A c k => ⟨i, j, rfl, rfl, of_decide_eq_true c, k _ rfl⟩
theorem m_powI : OpM X Γ (binaryOp .Pow) powI := op_ii op_pow fun i j H Q ρ A c k =>
  let ⟨c1, c2⟩ := Bool.and_eq_true_iff.mp c
  ⟨i, j, rfl, rfl, ⟨(of_decide_eq_true c1).1, (of_decide_eq_true c1).2, of_decide_eq_true c2⟩, k _ rfl⟩
theorem m_ltI : OpM X Γ (compareOp .Lt) ltI := op_ii op_lt fun i j H Q ρ A _ k => ⟨i, j, rfl, rfl, k _ rfl⟩
theorem m_leI : OpM X Γ (compareOp .LtE) leI := op_ii op_le fun i j H Q ρ A _ k => ⟨i, j, rfl, rfl, k _ rfl⟩
theorem m_gtI : OpM X Γ (compareOp .Gt) gtI := op_ii op_gt fun i j H Q ρ A _ k => ⟨i, j, rfl, rfl, k _ rfl⟩
theorem m_geI : OpM X Γ (compareOp .GtE) geI := op_ii op_ge fun i j H Q ρ A _ k => ⟨i, j, rfl, rfl, k _ rfl⟩

abbrev big : Nat := 16777216
theorem big_eq : big = sizeLine := sizeLine_eq.symm
def dirL (v : AV) (A : AH) : Option (List AV) := match v with
  | .lst xs => some xs
  | .ref i => (match A[i]? with
    | some (.lst xs) => some xs
    | _ => none)
  | _ => none
def rdL (v : AV) (A : AH) : Option (List AV) := match v with
  | .rol xs => some xs
  | v => dirL v A
def rdS (v : AV) (A : AH) : Option (List AV) := match v with
  | .tup xs => some xs
  | v => rdL v A
theorem dirL_ok {ρ : Nat → Addr} {A : AH} {H : Hp} {v : AV} {u : V} {xs : List AV} (R : Rel Γ ρ A H) (e : dirL v A = some xs) (r : VR Γ ρ A H v u) : ∃ a us, u = .ref a ∧ H a = some (.lst us) ∧ VRs Γ ρ A H xs us := by
  cases v with
  | lst ys =>
    obtain ⟨a, us, e1, _, e2, r2⟩ := r
    cases e
    exact ⟨a, us, e1, e2, r2⟩
  | ref i =>
    obtain ⟨_, e1⟩ := r
    unfold dirL at e
    simp only at e
    split at e
    · rename_i ys hy
      cases e
      obtain ⟨us, e2, r2⟩ := R.obj i _ hy
      exact ⟨ρ i, us, e1, e2, r2⟩
    · cases e
  | _ => cases e
theorem rdL_ok {ρ : Nat → Addr} {A : AH} {H : Hp} {v : AV} {u : V} {xs : List AV} (R : Rel Γ ρ A H) (e : rdL v A = some xs) (r : VR Γ ρ A H v u) : ∃ a us, u = .ref a ∧ SqL Γ.K H a us ∧ VRs Γ ρ A H xs us := by
  have dir : dirL v A = some xs → ∃ a us, u = .ref a ∧ SqL Γ.K H a us ∧ VRs Γ ρ A H xs us := fun e => by
    obtain ⟨a, us, e1, e2, r2⟩ := dirL_ok R e r
    exact ⟨a, us, e1, SqL.of e2, r2⟩
  cases v with
  | rol ys =>
    obtain ⟨a, us, e1, e2, r2⟩ := r
    cases e
    refine ⟨a, us, e1, ?_, r2⟩
    rcases e2 with ⟨_, e2⟩ | (e2 | ⟨_, e2⟩) | e2
    · exact .inl e2
    · cases e2
    · cases e2
    · exact .inr e2
  | _ => exact dir e
theorem rdS_ok {ρ : Nat → Addr} {A : AH} {H : Hp} {v : AV} {u : V} {xs : List AV} (R : Rel Γ ρ A H) (e : rdS v A = some xs) (r : VR Γ ρ A H v u) : ∃ a us, u = .ref a ∧ (SqL Γ.K H a us ∨ SqT Γ.K H a us) ∧ VRs Γ ρ A H xs us := by
  have dir : rdL v A = some xs → ∃ a us, u = .ref a ∧ (SqL Γ.K H a us ∨ SqT Γ.K H a us) ∧ VRs Γ ρ A H xs us := fun e => by
    obtain ⟨a, us, e1, e2, r2⟩ := rdL_ok R e r
    exact ⟨a, us, e1, .inl e2, r2⟩
  cases v with
  | tup ys =>
    obtain ⟨a, us, e1, e2, r2⟩ := r
    cases e
    exact ⟨a, us, e1, .inr e2, r2⟩
  | _ => exact dir e

def addS : B2 := fun x y A => match x, y with
  | .str a, .str b => if Nat.ble (a.length + b.length) big = true then .ok (.str (a ++ b)) A else .stuck
  | _, _ => .stuck
theorem str_len {a : List Nat} : (⟨a.toArray⟩ : Str).length = a.length := by show a.toArray.size = _; simp
theorem m_addS : OpM X Γ (binaryOp .Add) addS := .of op_add_str fun Q E ρ A H x y u w R r1 r2 k => by
  unfold addS at k
  cases x <;> try exact k.elim
  cases y <;> try exact k.elim
  rename_i a b
  simp only at k
  split at k
  · rename_i hl
    refine ⟨_, _, r1, r2, ?_, ?_⟩
    · rw [str_len, str_len, ← big_eq]; exact Nat.le_of_ble_eq_true hl
    · refine post_val R k ?_
      show V.str _ = V.str _
      congr 1
      show (⟨a.toArray ++ b.toArray⟩ : Str) = _
      simp
  · exact k.elim
def catL (fz : Bool) : B2 := fun x y A => match dirL x A, dirL y A with
  | some xs, some ys => if Nat.ble (xs.length + ys.length) big = true then newL fz (xs ++ ys) A else .stuck
  | _, _ => .stuck
theorem m_catL {fz : Bool} : OpM X Γ (binaryOp .Add) (catL fz) := .of op_cat fun Q E ρ A H x y u w R r1 r2 k => by
  unfold catL at k
  split at k
  · rename_i xs ys e1 e2
    split at k
    · rename_i hl
      obtain ⟨a, us, rfl, h1, v1⟩ := dirL_ok R e1 r1
      obtain ⟨b, ws, rfl, h2, v2⟩ := dirL_ok R e2 r2
      exact ⟨a, b, us, ws, rfl, rfl, h1, h2, by rw [v1.length, v2.length, ← big_eq]; exact Nat.le_of_ble_eq_true hl, post_newL R k (v1.append v2)⟩
    · exact k.elim
  · exact k.elim
def catT : B2 := fun x y A => match x, y with
  | .tup xs, .tup ys => if Nat.ble (xs.length + ys.length) big = true then .ok (.tup (xs ++ ys)) A else .stuck
  | _, _ => .stuck
theorem VRs.nil_iff {ρ : Nat → Addr} {A : AH} {H : Hp} {xs : List AV} {us : List V} (r : VRs Γ ρ A H xs us) : us = [] ↔ xs = [] := by
  have := r.length
  constructor
  · intro e; subst e; exact List.length_eq_zero_iff.mp this.symm
  · intro e; subst e; exact List.length_eq_zero_iff.mp this
theorem m_catT (hK : X.K = Γ.K) : OpM X Γ (binaryOp .Add) catT := .of op_catA fun Q E ρ A H x y u w R r1 r2 k => by
  unfold catT at k
  cases x <;> try exact k.elim
  cases y <;> try exact k.elim
  rename_i xs ys
  simp only at k
  split at k
  · rename_i hl
    obtain ⟨a, us, rfl, h1, v1⟩ := r1
    obtain ⟨b, ws, rfl, h2, v2⟩ := r2
    refine ⟨a, b, us, ws, rfl, rfl, by rw [hK]; exact h1, by rw [hK]; exact h2, by rw [v1.length, v2.length, ← big_eq]; exact Nat.le_of_ble_eq_true hl, fun e => ?_, fun _ e => ?_, fun _ _ => post_newT R k (v1.append v2)⟩
    · have := v1.nil_iff.mp e; subst this
      exact post_val R k ⟨b, ws, rfl, h2, v2⟩
    · have := v2.nil_iff.mp e; subst this
      rw [List.append_nil] at k
      exact post_val R k ⟨a, us, rfl, h1, v1⟩
  · exact k.elim
def repL (fz : Bool) : B2 := fun x y A => match dirL x A, y with
  | some xs, .int k => if (decide (-(2 ^ 63) ≤ k ∧ k < 2 ^ 63) && Nat.ble (xs.length * k.toNat) big) = true then newL fz (List.replicate k.toNat xs).flatten A else .stuck
  | _, _ => .stuck
theorem VRs.rep {ρ : Nat → Addr} {A : AH} {H : Hp} {xs : List AV} {us : List V} (r : VRs Γ ρ A H xs us) : ∀ k : Nat, VRs Γ ρ A H (List.replicate k xs).flatten (List.replicate k us).flatten
  | 0 => rfl
  | k + 1 => by
    rw [List.replicate_succ, List.replicate_succ, List.flatten_cons, List.flatten_cons]
    exact r.append (VRs.rep r k)
theorem m_repL {fz : Bool} : OpM X Γ (binaryOp .Mult) (repL fz) := .of op_rep fun Q E ρ A H x y u w R r1 r2 k => by
  unfold repL at k
  split at k
  · rename_i xs j e1
    split at k
    · rename_i hl
      obtain ⟨c1, c2⟩ := Bool.and_eq_true_iff.mp hl
      obtain ⟨a, us, rfl, h1, v1⟩ := dirL_ok R e1 r1
      have e2 : w = .int j := r2
      subst e2
      refine ⟨a, j, us, rfl, rfl, h1, (of_decide_eq_true c1).1, (of_decide_eq_true c1).2, by rw [v1.length, ← big_eq]; exact Nat.le_of_ble_eq_true c2, ?_⟩
      exact post_newL R k (v1.rep j.toNat)
    · exact k.elim
  · exact k.elim
end
end Mw
set_option Elab.async false
set_option linter.all false
set_option maxRecDepth 100000
set_option maxHeartbeats 2000000
namespace Mw
open PySem PySem.Spec PyProof.Rows L2
section
variable {X : Cx} {Γ : Gm} {f : Value → Value → Sem Value}
def sEq : AV → AV → Option Bool
  | .non, .non => some true | .non, .int _ => some false | .int _, .non => some false | .non, .bl _ => some false | .bl _, .non => some false | .non, .str _ => some false | .str _, .non => some false
  | .int i, .int j => some (decide (i = j)) | .bl b, .bl c => some (b == c) | .str x, .str y => some (decide (x = y))
  | .int _, .str _ => some false | .str _, .int _ => some false | .bl _, .str _ => some false | .str _, .bl _ => some false
  | _, _ => none
def toV : AV → V
  | .bl b => .bl b | .int i => .int i | .str x => .str ⟨x.toArray⟩ | _ => .non
theorem str_inj {x y : List Nat} : ((⟨x.toArray⟩ : Str) = ⟨y.toArray⟩) ↔ x = y := by
  constructor
  · intro e; injection e with e; injection e
  · rintro rfl; rfl
theorem vstr_inj {x y : List Nat} : (V.str ⟨x.toArray⟩ = V.str ⟨y.toArray⟩) ↔ x = y := by
  constructor
  · intro e; injection e with e; exact str_inj.mp e
  · rintro rfl; rfl
theorem sEq_ok {ρ : Nat → Addr} {A : AH} {H : Hp} {x y : AV} {u w : V} {b : Bool} (e : sEq x y = some b) (r1 : VR Γ ρ A H x u) (r2 : VR Γ ρ A H y w) : scal u w = true ∧ b = decide (u = w) := by
  cases x <;> cases y <;> first
    | (cases e; done)
    | (have e1 := r1; have e2 := r2; simp only [VR] at e1 e2; subst e1 e2; simp only [sEq, Option.some.injEq] at e; subst e; refine ⟨rfl, ?_⟩; first | (simp; done) | (rw [Bool.eq_iff_iff]; simp [vstr_inj]))
def eqS : B2 := fun x y A => match sEq x y with
  | some b => .ok (.bl b) A
  | none => .stuck
def neS : B2 := fun x y A => match sEq x y with
  | some b => .ok (.bl (!b)) A
  | none => .stuck
theorem m_eqS : OpM X Γ (compareOp .Eq) eqS := .of op_eq fun Q E ρ A H x y u w R r1 r2 k => by
  unfold eqS at k
  split at k
  · rename_i b e
    obtain ⟨h1, rfl⟩ := sEq_ok e r1 r2
    exact ⟨h1, post_val R k rfl⟩
  · exact k.elim
theorem m_neS : OpM X Γ (compareOp .NotEq) neS := .of op_ne fun Q E ρ A H x y u w R r1 r2 k => by
  unfold neS at k
  split at k
  · rename_i b e
    obtain ⟨h1, rfl⟩ := sEq_ok e r1 r2
    exact ⟨h1, post_val R k rfl⟩
  · exact k.elim
def allM (f : AV → Option PyData) : List AV → Option (List PyData)
  | [] => some []
  | x :: xs => (match f x, allM f xs with
    | some d, some ds => some (d :: ds)
    | _, _ => none)
def toD (A : AH) : Nat → AV → Option PyData
  | 0, _ => none
  | n + 1, v => (match v with
    | .non => some .none
    | .bl b => some (.bool b)
    | .int i => some (.int i)
    | .str x => if x.all (fun c => Nat.blt c 0x110000) = true then some (.str ⟨x.toArray⟩) else none
    | .tup xs => (allM (toD A n) xs).map .tuple
    | v => (match rdL v A with
      | some xs => (allM (toD A n) xs).map .list
      | none => none))
theorem allM_ok {K : PySem.W.Frag} {ρ : Nat → Addr} {A : AH} {H : Hp} {f : AV → Option PyData} {n : Nat} (hf : ∀ v u d, f v = some d → VR Γ ρ A H v u → Dp K H u d ∧ d.canLay0 = true ∧ d.depth ≤ n) :
    ∀ {xs : List AV} {us : List V} {ds : List PyData}, allM f xs = some ds → VRs Γ ρ A H xs us → DpAll K H us ds ∧ PyData.canLayAll0 ds = true ∧ PyData.depthAll ds ≤ n
  | [], us, ds, e, r => by
    cases e
    have : us = [] := r
    subst this
    exact ⟨.nil, rfl, Nat.zero_le _⟩
  | x :: xs, us, ds, e, ⟨u, r, eu, hu, ht⟩ => by
    subst eu
    unfold allM at e
    split at e
    · rename_i d ds' e1 e2
      cases e
      obtain ⟨a1, a2, a3⟩ := hf x u d e1 hu
      obtain ⟨b1, b2, b3⟩ := allM_ok hf e2 ht
      refine ⟨.cons a1 b1, ?_, ?_⟩
      · show (PyData.canLay0 d && PyData.canLayAll0 ds') = true
        rw [a2, b2]; rfl
      · show max (PyData.depth d) (PyData.depthAll ds') ≤ n
        omega
    · cases e
theorem toD_ok {ρ : Nat → Addr} {A : AH} {H : Hp} (R : Rel Γ ρ A H) : ∀ (n : Nat) (v : AV) (u : V) (d : PyData), toD A n v = some d → VR Γ ρ A H v u → Dp Γ.K H u d ∧ d.canLay0 = true ∧ d.depth ≤ n
  | 0, _, _, _, e, _ => by cases e
  | n + 1, v, u, d, e, r => by
    have lists : ∀ w, VR Γ ρ A H w u → (match rdL w A with | some xs => (allM (toD A n) xs).map PyData.list | none => none) = some d → Dp Γ.K H u d ∧ d.canLay0 = true ∧ d.depth ≤ n + 1 := fun w r e => by
      split at e
      · rename_i xs ex
        obtain ⟨ds, e1, rfl⟩ := Option.map_eq_some_iff.mp e
        obtain ⟨a, us, rfl, h1, r1⟩ := rdL_ok R ex r
        obtain ⟨b1, b2, b3⟩ := allM_ok (toD_ok R n) e1 r1
        refine ⟨.lst h1 b1, b2, ?_⟩
        show PyData.depthAll ds + 1 ≤ n + 1
        omega
      · cases e
    unfold toD at e
    cases v with
    | non => cases e; have : u = _ := r; subst this; exact ⟨.non, rfl, Nat.zero_le _⟩
    | bl b => cases e; have : u = _ := r; subst this; exact ⟨.bl _, rfl, Nat.zero_le _⟩
    | int b => cases e; have : u = _ := r; subst this; exact ⟨.int _, rfl, Nat.zero_le _⟩
    | str x =>
      simp only at e
      split at e
      · rename_i hx
        cases e; have : u = _ := r; subst this
        refine ⟨.str _, ?_, Nat.zero_le _⟩
        show PyData.strOk ⟨x.toArray⟩ = true
        unfold PyData.strOk
        rw [Array.all_eq_true']
        intro c hc
        have := List.all_eq_true.mp hx c (by simpa using hc)
        exact decide_eq_true (by simpa [Nat.blt_eq] using this)
      · cases e
    | tup xs =>
      obtain ⟨ds, e1, rfl⟩ := Option.map_eq_some_iff.mp e
      obtain ⟨a, us, rfl, h1, r1⟩ := r
      obtain ⟨b1, b2, b3⟩ := allM_ok (toD_ok R n) e1 r1
      refine ⟨.tup h1 b1, b2, ?_⟩
      show PyData.depthAll ds + 1 ≤ n + 1
      omega
    | lst xs => exact lists _ r e
    | rol xs => exact lists _ r e
    | ref i => exact lists _ r e
    | dct kvs => exact lists _ r e
    | glo g => exact lists _ r e
    | exh c fs => exact lists _ r e
def eqD : B2 := fun x y A => match toD A 60 x, toD A 60 y with
  | some d, some e => .ok (.bl (PyData.eqv d e)) A
  | _, _ => .stuck
def neD : B2 := fun x y A => match toD A 60 x, toD A 60 y with
  | some d, some e => .ok (.bl (!PyData.eqv d e)) A
  | _, _ => .stuck
theorem shaped_of {d : PyData} (h1 : d.canLay0 = true) (h2 : d.depth ≤ 60) : SeqAt.shaped d = true := by
  unfold SeqAt.shaped
  rw [h1, decide_eq_true (Nat.le_trans h2 (by decide))]; rfl
theorem m_eqD (hK : X.K = Γ.K) (hu : X.A.units + 64 < cLine) : OpM X Γ (compareOp .Eq) eqD := .of (op_eqD hu) fun Q E ρ A H x y u w R r1 r2 k => by
  unfold eqD at k
  split at k
  · rename_i d e h1 h2
    obtain ⟨a1, a2, a3⟩ := toD_ok R 60 x u d h1 r1
    obtain ⟨b1, b2, b3⟩ := toD_ok R 60 y w e h2 r2
    exact ⟨d, e, by rw [hK]; exact a1, by rw [hK]; exact b1, shaped_of a2 a3, shaped_of b2 b3, post_val R k rfl⟩
  · exact k.elim
theorem m_neD (hK : X.K = Γ.K) (hu : X.A.units + 64 < cLine) : OpM X Γ (compareOp .NotEq) neD := .of (op_neD hu) fun Q E ρ A H x y u w R r1 r2 k => by
  unfold neD at k
  split at k
  · rename_i d e h1 h2
    obtain ⟨a1, a2, a3⟩ := toD_ok R 60 x u d h1 r1
    obtain ⟨b1, b2, b3⟩ := toD_ok R 60 y w e h2 r2
    exact ⟨d, e, by rw [hK]; exact a1, by rw [hK]; exact b1, shaped_of a2 a3, shaped_of b2 b3, post_val R k rfl⟩
  · exact k.elim
def isN : B2 := fun x y A => match y with
  | .non => (match x with
    | .non => .ok (.bl true) A
    | _ => .ok (.bl false) A)
  | _ => .stuck
def isNN : B2 := fun x y A => match y with
  | .non => (match x with
    | .non => .ok (.bl false) A
    | _ => .ok (.bl true) A)
  | _ => .stuck
def isObj : AV → Bool
  | .non | .bl _ | .int _ | .str _ => false
  | _ => true
theorem VR.addr {ρ : Nat → Addr} {A : AH} {H : Hp} : ∀ {x : AV} {u : V}, VR Γ ρ A H x u → isObj x = true → ∃ a, u = .ref a
  | .non, _, _, h | .bl _, _, _, h | .int _, _, _, h | .str _, _, _, h => by cases h
  | .tup _, _, ⟨a, _, e, _⟩, _ => ⟨a, e⟩
  | .lst _, _, ⟨a, _, e, _⟩, _ => ⟨a, e⟩
  | .rol _, _, ⟨a, _, e, _⟩, _ => ⟨a, e⟩
  | .dct _, _, ⟨a, _, _, e, _⟩, _ => ⟨a, e⟩
  | .ref _, _, ⟨_, e⟩, _ => ⟨_, e⟩
  | .glo _, _, e, _ => ⟨_, e⟩
  | .exh _ _, _, ⟨a, _, _, _, _, e, _⟩, _ => ⟨a, e⟩
theorem VR.non_iff {ρ : Nat → Addr} {A : AH} {H : Hp} {x : AV} {u : V} (r : VR Γ ρ A H x u) : u = .non ↔ x = .non := by
  constructor
  · intro e
    cases h : isObj x with
    | true => obtain ⟨a, e2⟩ := r.addr h; rw [e] at e2; cases e2
    | false =>
      subst e
      cases x <;> first | rfl | (cases h; done) | (simp only [VR] at r; cases r)
  · intro e; subst e; exact r
theorem m_isN : OpM X Γ (compareOp .Is) isN := .of op_isN fun Q E ρ A H x y u w R r1 r2 k => by
  unfold isN at k
  cases y <;> try exact k.elim
  refine ⟨r2, ?_⟩
  by_cases e : x = .non
  · subst e
    have e1 : u = .non := r1
    subst e1
    exact post_val R k rfl
  · have e1 : ¬ u = .non := fun z => e (r1.non_iff.mp z)
    rw [decide_eq_false e1]
    cases x <;> first | (exact absurd rfl e) | exact post_val R k rfl
theorem m_isNN : OpM X Γ (compareOp .IsNot) isNN := .of op_notN fun Q E ρ A H x y u w R r1 r2 k => by
  unfold isNN at k
  cases y <;> try exact k.elim
  refine ⟨r2, ?_⟩
  by_cases e : x = .non
  · subst e
    have e1 : u = .non := r1
    subst e1
    exact post_val R k rfl
  · have e1 : ¬ u = .non := fun z => e (r1.non_iff.mp z)
    rw [decide_eq_false e1]
    cases x <;> first | (exact absurd rfl e) | exact post_val R k rfl
def isB : B2 := fun x y A => match x, y with
  | .bl a, .bl b => .ok (.bl (a == b)) A
  | _, _ => .stuck
def isNB : B2 := fun x y A => match x, y with
  | .bl a, .bl b => .ok (.bl (!(a == b))) A
  | _, _ => .stuck
theorem m_isB : OpM X Γ (compareOp .Is) isB := .of op_isBl fun Q E ρ A H x y u w R r1 r2 k => by
  unfold isB at k
  cases x <;> try exact k.elim
  cases y <;> try exact k.elim
  exact ⟨_, _, r1, r2, post_val R k (by show V.bl _ = V.bl _; congr 1)⟩
theorem m_isNB : OpM X Γ (compareOp .IsNot) isNB := .of op_notBl fun Q E ρ A H x y u w R r1 r2 k => by
  unfold isNB at k
  cases x <;> try exact k.elim
  cases y <;> try exact k.elim
  exact ⟨_, _, r1, r2, post_val R k (by show V.bl _ = V.bl _; congr 1)⟩
end
end Mw
set_option Elab.async false
set_option linter.all false
set_option maxRecDepth 100000
set_option maxHeartbeats 2000000
namespace Mw
open PySem PySem.Spec PyProof.Rows L2
section
variable {X : Cx} {Γ : Gm} {f : Value → Value → Sem Value}
def flatA : AV → Bool
  | .non | .bl _ | .int _ | .str _ => true
  | _ => false
def feq : AV → AV → Bool
  | .non, .non => true
  | .bl a, .bl b => a == b
  | .bl a, .int b => decide ((if a then 1 else 0) = b)
  | .int a, .bl b => decide (a = (if b then 1 else 0))
  | .int a, .int b => decide (a = b)
  | .str a, .str b => decide (a = b)
  | _, _ => false
theorem flat_ok {ρ : Nat → Addr} {A : AH} {H : Hp} {x : AV} {u : V} (r : VR Γ ρ A H x u) (h : flatA x = true) : flatV u = true := by
  cases x <;> first | (cases h; done) | (have e : u = _ := r; subst e; rfl)
theorem feq_ok {ρ : Nat → Addr} {A : AH} {H : Hp} {x y : AV} {u w : V} (r1 : VR Γ ρ A H x u) (r2 : VR Γ ρ A H y w) (h1 : flatA x = true) (h2 : flatA y = true) : eqV u w = feq x y := by
  cases x <;> first
    | (cases h1; done)
    | (cases y <;> first
        | (cases h2; done)
        | (have e1 : u = _ := r1; have e2 : w = _ := r2; subst e1 e2; first
            | rfl
            | (simp only [eqV, feq]; rw [Bool.eq_iff_iff]; simp [str_inj])))
theorem flat_all {ρ : Nat → Addr} {A : AH} {H : Hp} : ∀ {xs : List AV} {us : List V}, VRs Γ ρ A H xs us → xs.all flatA = true → us.all flatV = true
  | [], _, r, _ => by rw [show _ = ([] : List V) from r]; rfl
  | x :: xs, _, ⟨u, r, e, h, t⟩, hf => by
    rw [List.all_cons, Bool.and_eq_true_iff] at hf
    rw [e, List.all_cons, flat_ok h hf.1, flat_all t hf.2]; rfl
theorem in_ok {ρ : Nat → Addr} {A : AH} {H : Hp} {x : AV} {u : V} (rx : VR Γ ρ A H x u) (fx : flatA x = true) : ∀ {xs : List AV} {us : List V}, VRs Γ ρ A H xs us → xs.all flatA = true → inV u us = xs.any fun y => feq y x
  | [], _, r, _ => by rw [show _ = ([] : List V) from r]; rfl
  | y :: xs, _, ⟨w, r, e, h, t⟩, hf => by
    rw [List.all_cons, Bool.and_eq_true_iff] at hf
    have := in_ok rx fx t hf.2
    unfold inV at this ⊢
    rw [e, List.any_cons, List.any_cons, feq_ok h rx hf.1 fx, this]
def inS : B2 := fun x y A => match rdS y A with
  | some xs => if (flatA x && xs.all flatA) = true then .ok (.bl (xs.any fun y => feq y x)) A else .stuck
  | none => .stuck
def niS : B2 := fun x y A => match rdS y A with
  | some xs => if (flatA x && xs.all flatA) = true then .ok (.bl (!xs.any fun y => feq y x)) A else .stuck
  | none => .stuck
theorem m_inS (hK : X.K = Γ.K) : OpM X Γ (compareOp .In) inS := .of op_in_seq fun Q E ρ A H x y u w R r1 r2 k => by
  unfold inS at k
  split at k
  · rename_i xs e
    split at k
    · rename_i hf
      obtain ⟨f1, f2⟩ := Bool.and_eq_true_iff.mp hf
      obtain ⟨a, us, rfl, h1, v1⟩ := rdS_ok R e r2
      refine ⟨a, us, rfl, by rw [hK]; exact h1, flat_ok r1 f1, flat_all v1 f2, ?_⟩
      exact post_val R k (by show V.bl _ = V.bl _; rw [in_ok r1 f1 v1 f2]; rfl)
    · exact k.elim
  · exact k.elim
theorem m_niS (hK : X.K = Γ.K) : OpM X Γ (compareOp .NotIn) niS := .of op_notIn_seq fun Q E ρ A H x y u w R r1 r2 k => by
  unfold niS at k
  split at k
  · rename_i xs e
    split at k
    · rename_i hf
      obtain ⟨f1, f2⟩ := Bool.and_eq_true_iff.mp hf
      obtain ⟨a, us, rfl, h1, v1⟩ := rdS_ok R e r2
      refine ⟨a, us, rfl, by rw [hK]; exact h1, flat_ok r1 f1, flat_all v1 f2, ?_⟩
      exact post_val R k (by show V.bl _ = V.bl _; rw [in_ok r1 f1 v1 f2]; rfl)
    · exact k.elim
  · exact k.elim
def inC : B2 := fun x y A => match x, y with
  | .str [c], .str z => .ok (.bl (decide (c ∈ z))) A
  | _, _ => .stuck
def niC : B2 := fun x y A => match x, y with
  | .str [c], .str z => .ok (.bl (!decide (c ∈ z))) A
  | _, _ => .stuck
theorem m_inC : OpM X Γ (compareOp .In) inC := .of op_in_sign fun Q E ρ A H x y u w R r1 r2 k => by
  unfold inC at k
  split at k
  · exact ⟨_, _, r1, r2, post_val R k (by show V.bl _ = V.bl _; simp)⟩
  · exact k.elim
theorem m_niC : OpM X Γ (compareOp .NotIn) niC := .of op_notIn_sign fun Q E ρ A H x y u w R r1 r2 k => by
  unfold niC at k
  split at k
  · exact ⟨_, _, r1, r2, post_val R k (by show V.bl _ = V.bl _; simp)⟩
  · exact k.elim
def dOf (v : AV) (A : AH) : Option (List (AK × AV)) := match v with
  | .dct kvs => some kvs
  | .ref i => (match A[i]? with
    | some (.dct kvs) => some kvs
    | _ => none)
  | _ => none
theorem dOf_ok {ρ : Nat → Addr} {A : AH} {H : Hp} {v : AV} {u : V} {kvs : List (AK × AV)} (R : Rel Γ ρ A H) (e : dOf v A = some kvs) (r : VR Γ ρ A H v u) : ∃ a kus, u = .ref a ∧ Rd H a (.dK kus) ∧ KRs Γ ρ A H kvs kus := by
  cases v with
  | dct ys =>
    obtain ⟨a, o, us, e1, _, e2, r2⟩ := r
    cases e
    exact ⟨a, us, e1, .inr ⟨o, e2⟩, r2⟩
  | ref i =>
    obtain ⟨_, e1⟩ := r
    unfold dOf at e
    simp only at e
    split at e
    · rename_i ys hy
      cases e
      obtain ⟨us, e2, r2⟩ := R.obj i _ hy
      exact ⟨ρ i, us, e1, .inl e2, r2⟩
    · cases e
  | _ => cases e
def keyOf : AV → Option AK
  | .int i => some (.inl i)
  | .str x => some (.inr x)
  | _ => none
theorem keyOf_ok {ρ : Nat → Addr} {A : AH} {H : Hp} {v : AV} {u : V} {k : AK} (e : keyOf v = some k) (r : VR Γ ρ A H v u) : u = kV (kK k) := by
  cases v <;> first | (cases e; done) | (cases e; exact r)
theorem kK_inj {a b : AK} : kK a = kK b ↔ a = b := by
  constructor
  · intro e
    cases a <;> cases b <;> first
      | (cases e; done)
      | (injection e with e; first | (subst e; rfl) | (rw [str_inj.mp e]))
  · rintro rfl; rfl
def lookK (k : AK) : List (AK × AV) → Option AV
  | [] => none
  | (j, v) :: r => if j = k then some v else lookK k r
theorem lookK_ok {ρ : Nat → Addr} {A : AH} {H : Hp} {k : AK} : ∀ {kvs : List (AK × AV)} {kus : List (Key × V)}, KRs Γ ρ A H kvs kus →
    (∀ v, lookK k kvs = some v → ∃ u, valV kus (kK k) = some u ∧ VR Γ ρ A H v u) ∧ (lookK k kvs = none → valV kus (kK k) = none)
  | [], _, r => by rw [show _ = ([] : List (Key × V)) from r]; exact ⟨fun _ e => (by cases e), fun _ => rfl⟩
  | (j, w) :: kvs, _, ⟨u, r, e, h, t⟩ => by
    obtain ⟨i1, i2⟩ := lookK_ok (k := k) t
    subst e
    unfold lookK
    by_cases hj : j = k
    · subst hj
      rw [if_pos rfl]
      exact ⟨fun v e => (by cases e; exact ⟨u, valV_pos rfl, h⟩), fun e => (by cases e)⟩
    · rw [if_neg hj]
      have hj' : ¬ (kK j, u).1 = kK k := fun e => hj (kK_inj.mp e)
      exact ⟨fun v e => (by rw [valV_neg hj']; exact i1 v e), fun e => (by rw [valV_neg hj']; exact i2 e)⟩
theorem look_isSome {ρ : Nat → Addr} {A : AH} {H : Hp} {k : AK} {kvs : List (AK × AV)} {kus : List (Key × V)} (r : KRs Γ ρ A H kvs kus) : (valV kus (kK k)).isSome = (lookK k kvs).isSome := by
  obtain ⟨i1, i2⟩ := lookK_ok (k := k) r
  cases e : lookK k kvs with
  | some v => obtain ⟨u, h, _⟩ := i1 v e; rw [h]; rfl
  | none => rw [i2 e]; rfl
theorem op_dIn (hu : X.A.units + 1 < cLine) : OpR X (compareOp .In) (fun y x H Q => ∃ a o, x = .ref a ∧ DGet H a y o ∧ Q (.bl o.isSome) H) := by
  intro pins s σ H y x iv u Q I ry rx h
  obtain ⟨a, o, ex, g, q⟩ := h
  subst ex
  obtain rfl : u = Value.ref a := rx
  exact d_in hu I g ry fun s3 I3 => ⟨.bl o.isSome, H, I3, rfl, q⟩
theorem op_dNotIn (hu : X.A.units + 1 < cLine) : OpR X (compareOp .NotIn) (fun y x H Q => ∃ a o, x = .ref a ∧ DGet H a y o ∧ Q (.bl (!o.isSome)) H) := by
  intro pins s σ H y x iv u Q I ry rx h
  obtain ⟨a, o, ex, g, q⟩ := h
  subst ex
  obtain rfl : u = Value.ref a := rx
  exact d_notIn hu I g ry fun s3 I3 => ⟨.bl (!o.isSome), H, I3, rfl, q⟩
def inD : B2 := fun x y A => match dOf y A, keyOf x with
  | some kvs, some k => .ok (.bl (lookK k kvs).isSome) A
  | _, _ => .stuck
def niD : B2 := fun x y A => match dOf y A, keyOf x with
  | some kvs, some k => .ok (.bl (!(lookK k kvs).isSome)) A
  | _, _ => .stuck
theorem m_inD (hu : X.A.units + 1 < cLine) : OpM X Γ (compareOp .In) inD := .of (op_dIn hu) fun Q E ρ A H x y u w R r1 r2 k => by
  unfold inD at k
  split at k
  · rename_i kvs key e1 e2
    obtain ⟨a, kus, rfl, h1, v1⟩ := dOf_ok R e1 r2
    exact ⟨a, valV kus (kK key), rfl, .inl ⟨kus, kK key, h1, keyOf_ok e2 r1, rfl⟩, post_val R k (by show V.bl _ = V.bl _; rw [look_isSome v1])⟩
  · exact k.elim
theorem m_niD (hu : X.A.units + 1 < cLine) : OpM X Γ (compareOp .NotIn) niD := .of (op_dNotIn hu) fun Q E ρ A H x y u w R r1 r2 k => by
  unfold niD at k
  split at k
  · rename_i kvs key e1 e2
    obtain ⟨a, kus, rfl, h1, v1⟩ := dOf_ok R e1 r2
    exact ⟨a, valV kus (kK key), rfl, .inl ⟨kus, kK key, h1, keyOf_ok e2 r1, rfl⟩, post_val R k (by show V.bl _ = V.bl _; rw [look_isSome v1])⟩
  · exact k.elim
def putKA (kvs : List (AK × AV)) (k : AK) (v : AV) : List (AK × AV) :=
  if (kvs.any fun kv => decide (kv.1 = k)) = true then kvs.map (fun kv => if kv.1 = k then (kv.1, v) else kv) else kvs ++ [(k, v)]
theorem KRs.any {ρ : Nat → Addr} {A : AH} {H : Hp} {k : AK} : ∀ {kvs : List (AK × AV)} {kus : List (Key × V)}, KRs Γ ρ A H kvs kus → (kus.any fun kv => decide (kv.1 = kK k)) = kvs.any fun kv => decide (kv.1 = k)
  | [], _, r => by rw [show _ = ([] : List (Key × V)) from r]; rfl
  | (j, w) :: kvs, _, ⟨u, r, e, h, t⟩ => by
    rw [e, List.any_cons, List.any_cons, KRs.any t]
    congr 1
    rw [Bool.eq_iff_iff]; simp [kK_inj]
theorem KRs.map {ρ : Nat → Addr} {A : AH} {H : Hp} {k : AK} {v : AV} {z : V} (hv : VR Γ ρ A H v z) : ∀ {kvs : List (AK × AV)} {kus : List (Key × V)}, KRs Γ ρ A H kvs kus →
    KRs Γ ρ A H (kvs.map fun kv => if kv.1 = k then (kv.1, v) else kv) (kus.map fun kv => if kv.1 = kK k then (kv.1, z) else kv)
  | [], _, r => by rw [show _ = ([] : List (Key × V)) from r]; rfl
  | (j, w) :: kvs, _, ⟨u, r, e, h, t⟩ => by
    subst e
    have ih := KRs.map (k := k) hv t
    rw [List.map_cons, List.map_cons]
    by_cases hj : j = k
    · subst hj
      rw [if_pos rfl, if_pos rfl]
      exact ⟨z, _, rfl, hv, ih⟩
    · rw [if_neg hj, if_neg (fun e => hj (kK_inj.mp e))]
      exact ⟨u, _, rfl, h, ih⟩
theorem KRs.snoc {ρ : Nat → Addr} {A : AH} {H : Hp} {k : AK} {v : AV} {z : V} (hv : VR Γ ρ A H v z) : ∀ {kvs : List (AK × AV)} {kus : List (Key × V)}, KRs Γ ρ A H kvs kus → KRs Γ ρ A H (kvs ++ [(k, v)]) (kus ++ [(kK k, z)])
  | [], _, r => by rw [show _ = ([] : List (Key × V)) from r]; exact ⟨z, [], rfl, hv, rfl⟩
  | (j, w) :: kvs, _, ⟨u, r, e, h, t⟩ => by rw [e]; exact ⟨u, _, rfl, h, KRs.snoc hv t⟩
theorem KRs.put {ρ : Nat → Addr} {A : AH} {H : Hp} {k : AK} {v : AV} {z : V} {kvs : List (AK × AV)} {kus : List (Key × V)} (r : KRs Γ ρ A H kvs kus) (hv : VR Γ ρ A H v z) : KRs Γ ρ A H (putKA kvs k v) (putK kus (kK k) z) := by
  unfold putKA putK
  rw [r.any]
  split
  · exact r.map hv
  · exact r.snoc hv
theorem KRs.length {ρ : Nat → Addr} {A : AH} {H : Hp} : ∀ {kvs : List (AK × AV)} {kus : List (Key × V)}, KRs Γ ρ A H kvs kus → kus.length = kvs.length
  | [], _, r => by rw [show _ = ([] : List (Key × V)) from r]; rfl
  | (j, w) :: kvs, _, ⟨u, r, e, h, t⟩ => by rw [e, List.length_cons, List.length_cons, KRs.length t]
end
end Mw
set_option Elab.async false
set_option linter.all false
set_option maxRecDepth 100000
set_option maxHeartbeats 2000000
namespace Mw
open PySem PySem.Spec PyProof.Rows L2
def eVar (i : Nat) : EM := fun τ A => match τ[i]? with
  | some (some v) => .ok v A
  | _ => .stuck
def eC (v : AV) : EM := fun _ A => .ok v A
def eBin (f : B2) (a b : EM) : EM := fun τ A => (a τ A).bind fun x A1 => (b τ A1).bind fun y A2 => f x y A2
def toB : AV → AH → Out Bool := fun v A => match v with
  | .bl b => .ok b A
  | _ => .stuck
def truA (v : AV) (A : AH) : Option Bool := match v with
  | .non => some false
  | .bl b => some b
  | .int i => some (i != 0)
  | .str x => if Nat.ble x.length big = true then some (!x.isEmpty) else none
  | .tup xs => some (!xs.isEmpty)
  | v => (rdL v A).map fun xs => !xs.isEmpty
def tB' (a : EM) : TM := fun τ A => (a τ A).bind toB
def tTru (a : EM) : TM := fun τ A => (a τ A).bind fun v A1 => match truA v A1 with
  | some b => .ok b A1
  | none => .stuck
def tNot (a : TM) : TM := fun τ A => (a τ A).bind fun b A1 => .ok (!b) A1
def tAnd (a b : TM) : TM := fun τ A => (a τ A).bind fun c A1 => if c = true then b τ A1 else .ok false A1
def tOr (a b : TM) : TM := fun τ A => (a τ A).bind fun c A1 => if c = true then .ok true A1 else b τ A1
def eIf (c : TM) (a b : EM) : EM := fun τ A => (c τ A).bind fun k A1 => if k = true then a τ A1 else b τ A1
def eAnd (a b : EM) : EM := fun τ A => (a τ A).bind fun v A1 => match truA v A1 with
  | some true => b τ A1
  | some false => .ok v A1
  | none => .stuck
def eOr (a b : EM) : EM := fun τ A => (a τ A).bind fun v A1 => match truA v A1 with
  | some true => .ok v A1
  | some false => b τ A1
  | none => .stuck
def eNot (a : EM) : EM := fun τ A => (a τ A).bind fun v A1 => match truA v A1 with
  | some b => .ok (.bl (!b)) A1
  | none => .stuck
def eNeg (a : EM) : EM := fun τ A => (a τ A).bind fun v A1 => match v with
  | .int i => .ok (.int (-i)) A1
  | _ => .stuck
def eChain (f g : B2) (a b c : EM) : EM := fun τ A => (a τ A).bind fun x A1 => (b τ A1).bind fun y A2 => (f x y A2).bind fun z A3 => match z with
  | .bl true => (c τ A3).bind fun w A4 => g y w A4
  | .bl false => .ok (.bl false) A3
  | _ => .stuck
def aNil : AM := fun _ A => .ok [] A
def aCons (a : EM) (r : AM) : AM := fun τ A => (a τ A).bind fun x A1 => (r τ A1).bind fun xs A2 => .ok (x :: xs) A2
def aStar (a : EM) (r : AM) : AM := fun τ A => (a τ A).bind fun x A1 => match rdS x A1 with
  | some ys => (r τ A1).bind fun xs A2 => .ok (ys ++ xs) A2
  | none => .stuck
def eTup (a : AM) : EM := fun τ A => (a τ A).bind fun xs A1 => if Nat.ble xs.length big = true then .ok (.tup xs) A1 else .stuck
def eLst (fz : Bool) (a : AM) : EM := fun τ A => (a τ A).bind fun xs A1 => if Nat.ble xs.length big = true then newL fz xs A1 else .stuck
section
variable {X : Cx} {Γ : Gm} {W : WX} {e e1 e2 e3 : Expr} {m m1 m2 m3 : EM} {t t1 t2 : TM} {f g : B2} {pos : Pos}
def rM (Γ : Gm) (m : B2) : R2 := fun u w H Q => ∃ (E : EK) (ρ : Nat → Addr) (A : AH) (x y : AV), Rel Γ ρ A H ∧ VR Γ ρ A H x u ∧ VR Γ ρ A H y w ∧ PostE Γ E ρ A H Q (m x y A)
theorem OpM.r {fn : Value → Value → Sem Value} (o : OpM X Γ fn f) : OpR X fn (rM Γ f) := fun pins s σ H x y v u Q I rx ry ⟨E, ρ, A, a, b, R, r1, r2, k⟩ => o.run pins s σ H Q E ρ A a b x y v u I R r1 r2 rx ry k
theorem de_var {i : Nat} {x : Str} (hN : X.N[i]? = some x) (hv : Vis X.env.scope x) (hd : (x == ("__debug__" : Str)) = false := by decide) (hcd : (x == ("__classdict__" : Str)) = false := by decide) : DE X Γ W (.Name x pos) (eVar i) :=
  (pe_var hN hv hd hcd).imp fun σ H Q ⟨ρ, A, τ, a, h⟩ => by
    unfold eVar at h
    split at h
    · rename_i v e
      obtain ⟨u, h1, h2⟩ := a.er.2 i v e
      exact ⟨u, h1, post_val a.rel h h2⟩
    · exact h.elim
theorem de_con {v : AV} {u : V} (h : PE X e (tC u)) (r : ∀ ρ A H, VR Γ ρ A H v u) : DE X Γ W e (eC v) :=
  h.imp fun σ H Q ⟨ρ, A, τ, a, k⟩ => post_val (E := fun c d H' => W c d σ H') a.rel k (r ρ A H)
theorem de_int {i : Int} {j : Nat} : DE X Γ W (.Constant (.int i) j pos) (eC (.int i)) := de_con pe_int fun _ _ _ => rfl
theorem de_bl {b : Bool} {j : Nat} : DE X Γ W (.Constant (.bool b) j pos) (eC (.bl b)) := de_con pe_bl fun _ _ _ => rfl
theorem de_non {j : Nat} : DE X Γ W (.Constant .none j pos) (eC .non) := de_con pe_non fun _ _ _ => rfl
theorem de_str {x : Str} {l : List Nat} {j : Nat} (h : x = ⟨l.toArray⟩) : DE X Γ W (.Constant (.str x) j pos) (eC (.str l)) := de_con pe_str fun _ _ _ => by rw [h]; rfl
theorem de_bin {op : Operator} (o : OpM X Γ (binaryOp op) f) (ha : DE X Γ W e1 m1) (hb : DE X Γ W e2 m2) : DE X Γ W (.BinOp e1 op e2 pos) (eBin f m1 m2) :=
  (pe_op o.r ha hb).imp fun σ H Q ⟨ρ, A, τ, a, h⟩ => wpG.step a h fun x A1 ρ1 H1 u _ x1 a1 r1 h1 => wpG.step a1 h1 fun y A2 ρ2 H2 w _ x2 a2 r2 h2 =>
    ⟨_, ρ2, A2, x, y, a2.rel, r1.ext x2, r2, h2⟩
theorem de_cmp {op : CmpOp} (o : OpM X Γ (compareOp op) f) (ha : DE X Γ W e1 m1) (hb : DE X Γ W e2 m2) (hm : behindInMarks op e2 = false) : DE X Γ W (.Compare e1 [op] [e2] pos) (eBin f m1 m2) :=
  (pe_cmpR o.r ha hb hm).imp fun σ H Q ⟨ρ, A, τ, a, h⟩ => wpG.step a h fun x A1 ρ1 H1 u _ x1 a1 r1 h1 => wpG.step a1 h1 fun y A2 ρ2 H2 w _ x2 a2 r2 h2 =>
    ⟨_, ρ2, A2, x, y, a2.rel, r1.ext x2, r2, h2⟩
theorem toB_ok {E : EK} {ρ : Nat → Addr} {A : AH} {H : Hp} {Q : Bool → Hp → Prop} {v : AV} {u : V} (R : Rel Γ ρ A H) (h : PostT Γ E ρ A H Q (toB v A)) (r : VR Γ ρ A H v u) : ∃ k, u = .bl k ∧ Q k H := by
  unfold toB at h
  cases v <;> try exact h.elim
  exact ⟨_, r, h ρ H _ Ext.refl R rfl⟩
theorem step2 {α β : Type} {RR : Gm → (Nat → Addr) → AH → Hp → α → β → Prop} {E : EK} {ρ : Nat → Addr} {A : AH} {H : Hp} {Q : β → Hp → Prop} {Q1 : VK} {o : Out AV} {k : AV → AH → Out α}
    (h : Post RR Γ E ρ A H Q (o.bind k)) (hk : ∀ v A1 ρ1 H1 u, Ext Γ ρ A H ρ1 A1 H1 → Rel Γ ρ1 A1 H1 → VR Γ ρ1 A1 H1 v u → Post RR Γ E ρ1 A1 H1 Q (k v A1) → Q1 u H1) : PostE Γ E ρ A H Q1 o := by
  cases o with
  | ok v A1 => exact fun ρ1 H1 u x R r => hk v A1 ρ1 H1 u x R r (Post.mono x h)
  | exc c fs A1 => exact h
  | stuck => exact h
theorem bind_assoc' {α β γ : Type} {o : Out α} {k : α → AH → Out β} {l : β → AH → Out γ} : (o.bind k).bind l = o.bind fun a A => (k a A).bind l := by cases o <;> rfl
theorem dt_cmp {op : CmpOp} (o : OpM X Γ (compareOp op) f) (ha : DE X Γ W e1 m1) (hb : DE X Γ W e2 m2) (hm : behindInMarks op e2 = false) : DT X Γ W (.Compare e1 [op] [e2] pos) (tB' (eBin f m1 m2)) :=
  (pt_cmpR o.r ha hb hm).imp fun σ H Q ⟨ρ, A, τ, a, h⟩ => by
    unfold tB' eBin at h
    rw [bind_assoc'] at h
    refine wpG.step a h fun x A1 ρ1 H1 u _ x1 a1 r1 h1 => ?_
    rw [bind_assoc'] at h1
    refine wpG.step a1 h1 fun y A2 ρ2 H2 w _ x2 a2 r2 h2 => ?_
    exact ⟨_, ρ2, A2, x, y, a2.rel, r1.ext x2, r2, step2 h2 fun v A3 ρ3 H3 z x3 R3 r3 h3 => toB_ok R3 h3 r3⟩
theorem chain_wp {σ : List (Option V)} {H : Hp} {Q : VK} (h : wpE Γ W (eChain f g m1 m2 m3) σ H Q) :
    tChain (rM Γ f) (rM Γ g) (wpE Γ W m1) (wpE Γ W m2) (wpE Γ W m3) σ H Q := by
  obtain ⟨ρ, A, τ, a, h⟩ := h
  refine wpG.step a h fun x A1 ρ1 H1 u _ x1 a1 r1 h1 => wpG.step a1 h1 fun y A2 ρ2 H2 w _ x2 a2 r2 h2 => ?_
  refine ⟨_, ρ2, A2, x, y, a2.rel, r1.ext x2, r2, step2 h2 fun v A3 ρ3 H3 z x3 R3 r3 h3 => ?_⟩
  have a3 : At Γ ρ3 A3 τ σ H3 := a2.to x3 R3
  cases v <;> try exact h3.elim
  rename_i b
  refine ⟨b, r3, ?_⟩
  cases b with
  | true =>
    rw [if_pos rfl]
    exact wpG.step a3 h3 fun v4 A4 ρ4 H4 w4 _ x4 a4 r4 h4 => ⟨_, ρ4, A4, y, v4, a4.rel, (r2.ext x3).ext x4, r4, h4⟩
  | false =>
    rw [if_neg Bool.false_ne_true]
    exact post_val R3 h3 rfl
theorem de_chain {op op' : CmpOp} (o : OpM X Γ (compareOp op) f) (o' : OpM X Γ (compareOp op') g) (ha : DE X Γ W e1 m1) (hb : DE X Γ W e2 m2) (hc : DE X Γ W e3 m3) (hm : lastMarks [op, op'] [e2, e3] = false) : DE X Γ W (.Compare e1 [op, op'] [e2, e3] pos) (eChain f g m1 m2 m3) :=
  (pe_chain o.r o'.r ha hb hc hm).imp fun σ H Q h => chain_wp h
theorem wp_bind_toB {σ : List (Option V)} {H : Hp} {Q : Bool → Hp → Prop} (h : wpT Γ W (tB' m) σ H Q) : wpE Γ W m σ H fun x H1 => ∃ k, x = .bl k ∧ Q k H1 := by
  obtain ⟨ρ, A, τ, a, h⟩ := h
  exact wpG.step a h fun v A1 ρ1 H1 u _ x1 a1 r1 h1 => toB_ok a1.rel h1 r1
theorem dt_chain {op op' : CmpOp} (o : OpM X Γ (compareOp op) f) (o' : OpM X Γ (compareOp op') g) (ha : DE X Γ W e1 m1) (hb : DE X Γ W e2 m2) (hc : DE X Γ W e3 m3) (hm : lastMarks [op, op'] [e2, e3] = false) : DT X Γ W (.Compare e1 [op, op'] [e2, e3] pos) (tB' (eChain f g m1 m2 m3)) :=
  (pt_chain o.r o'.r ha hb hc hm).imp fun σ H Q h => chain_wp (wp_bind_toB h)
theorem dt_val (h : DE X Γ W e m) (he : ∀ whole, isTrue e X.env whole = (do let v ← whole; standAt e.pos; holding [v] (truthy v)) := by intro _; rfl) : DT X Γ W e (tB' m) :=
  (pt_val h he).imp fun σ H Q h => wp_bind_toB h
theorem tru_is (hK : X.K = Γ.K) {ρ : Nat → Addr} {A : AH} {H : Hp} {v : AV} {u : V} {b : Bool} (R : Rel Γ ρ A H) (e : truA v A = some b) (r : VR Γ ρ A H v u) : TruV X.K u H b := by
  have lists : ∀ w, VR Γ ρ A H w u → (rdL w A).map (fun xs => !xs.isEmpty) = some b → TruV X.K u H b := fun w r e => by
    obtain ⟨xs, e1, rfl⟩ := Option.map_eq_some_iff.mp e
    obtain ⟨a, us, rfl, h1, r1⟩ := rdL_ok R e1 r
    refine .inl ⟨us, by rw [hK]; exact h1, ?_⟩
    have := r1.length
    cases us <;> cases xs <;> first | rfl | (cases this; done)
  unfold truA at e
  cases v with
  | non => cases e; have : u = _ := r; subst this; rfl
  | bl c => cases e; have : u = _ := r; subst this; rfl
  | int c => cases e; have : u = _ := r; subst this; rfl
  | str x =>
    simp only at e
    split at e
    · rename_i hl
      cases e
      have : u = _ := r
      subst this
      refine ⟨by rw [str_len, ← big_eq]; exact Nat.le_of_ble_eq_true hl, ?_⟩
      rw [str_len]
      cases x <;> simp <;> first | rfl | omega
    · cases e
  | tup xs =>
    cases e
    obtain ⟨a, us, rfl, h1, r1⟩ := r
    refine .inr (.inl ⟨us, by rw [hK]; exact h1, ?_⟩)
    have := r1.length
    cases us <;> cases xs <;> first | rfl | (cases this; done)
  | lst xs => exact lists _ r e
  | rol xs => exact lists _ r e
  | ref i => exact lists _ r e
  | dct kvs => exact lists _ r e
  | glo g => exact lists _ r e
  | exh c fs => exact lists _ r e
theorem dt_tru (hK : X.K = Γ.K) (h : DE X Γ W e m) (he : ∀ whole, isTrue e X.env whole = (do let v ← whole; standAt e.pos; holding [v] (truthy v)) := by intro _; rfl) : DT X Γ W e (tTru m) :=
  (pt_truth h he).imp fun σ H Q ⟨ρ, A, τ, a, h⟩ => wpG.step a h fun v A1 ρ1 H1 u _ x1 a1 r1 h1 => by
    split at h1
    · rename_i b eb
      exact ⟨b, tru_is hK a1.rel eb r1, h1 ρ1 H1 b Ext.refl a1.rel rfl⟩
    · exact h1.elim
theorem dt_not (h : DT X Γ W e t) : DT X Γ W (.UnaryOp .Not e pos) (tNot t) :=
  (pt_not h).imp fun σ H Q ⟨ρ, A, τ, a, h⟩ => wpG.step a h fun b A1 ρ1 H1 c _ x1 a1 r1 h1 => h1 ρ1 H1 (!c) Ext.refl a1.rel (by rw [show b = c from r1]; rfl)
abbrev DW (X : Cx) (Γ : Gm) (W : WX) (e : Expr) (m : TM) : Prop := PW X e (wpT Γ W m)
theorem dw_and1 (h : DT X Γ W e t) : DW X Γ W (.BoolOp .And [e] pos) t := pw_and1 h
theorem dw_or1 (h : DT X Γ W e t) : DW X Γ W (.BoolOp .Or [e] pos) t := pw_or1 h
theorem dw_and {rest : List Expr} (h : DT X Γ W e1 t1) (k : DW X Γ W (.BoolOp .And (e2 :: rest) pos) t2) : DW X Γ W (.BoolOp .And (e1 :: e2 :: rest) pos) (tAnd t1 t2) :=
  (pw_and h k).imp fun σ H Q ⟨ρ, A, τ, a, h⟩ => wpG.step a h fun b A1 ρ1 H1 c _ x1 a1 r1 h1 => by
    have e : b = c := r1
    subst e
    cases b with
    | true => exact ⟨ρ1, A1, τ, a1, h1⟩
    | false => exact h1 ρ1 H1 false Ext.refl a1.rel rfl
theorem dw_or {rest : List Expr} (h : DT X Γ W e1 t1) (k : DW X Γ W (.BoolOp .Or (e2 :: rest) pos) t2) : DW X Γ W (.BoolOp .Or (e1 :: e2 :: rest) pos) (tOr t1 t2) :=
  (pw_or h k).imp fun σ H Q ⟨ρ, A, τ, a, h⟩ => wpG.step a h fun b A1 ρ1 H1 c _ x1 a1 r1 h1 => by
    have e : b = c := r1
    subst e
    cases b with
    | true => exact h1 ρ1 H1 true Ext.refl a1.rel rfl
    | false => exact ⟨ρ1, A1, τ, a1, h1⟩
theorem dt_w (h : DW X Γ W e t) : DT X Γ W e t := h.pt
theorem de_if (h : DT X Γ W e t) (ha : DE X Γ W e1 m1) (hb : DE X Γ W e2 m2) : DE X Γ W (.IfExp e e1 e2 pos) (eIf t m1 m2) :=
  (pe_ifExp h ha hb).imp fun σ H Q ⟨ρ, A, τ, a, h⟩ => wpG.step a h fun b A1 ρ1 H1 c _ x1 a1 r1 h1 => by
    have e : b = c := r1
    subst e
    cases b with
    | true => exact ⟨ρ1, A1, τ, a1, h1⟩
    | false => exact ⟨ρ1, A1, τ, a1, h1⟩
theorem de_one {op : PySem.BoolOp} (h : DE X Γ W e m) : DE X Γ W (.BoolOp op [e] pos) m := pe_one h
theorem de_and {rest : List Expr} (hK : X.K = Γ.K) (h : DE X Γ W e1 m1) (k : DE X Γ W (.BoolOp .And (e2 :: rest) pos) m2) : DE X Γ W (.BoolOp .And (e1 :: e2 :: rest) pos) (eAnd m1 m2) :=
  (pe_andT h k).imp fun σ H Q ⟨ρ, A, τ, a, h⟩ => wpG.step a h fun v A1 ρ1 H1 u _ x1 a1 r1 h1 => by
    split at h1
    · rename_i eb; exact ⟨true, tru_is hK a1.rel eb r1, by rw [if_pos rfl]; exact ⟨ρ1, A1, τ, a1, h1⟩⟩
    · rename_i eb; exact ⟨false, tru_is hK a1.rel eb r1, by rw [if_neg Bool.false_ne_true]; exact post_val a1.rel h1 r1⟩
    · exact h1.elim
theorem de_or {rest : List Expr} (hK : X.K = Γ.K) (h : DE X Γ W e1 m1) (k : DE X Γ W (.BoolOp .Or (e2 :: rest) pos) m2) : DE X Γ W (.BoolOp .Or (e1 :: e2 :: rest) pos) (eOr m1 m2) :=
  (pe_orT h k).imp fun σ H Q ⟨ρ, A, τ, a, h⟩ => wpG.step a h fun v A1 ρ1 H1 u _ x1 a1 r1 h1 => by
    split at h1
    · rename_i eb; exact ⟨true, tru_is hK a1.rel eb r1, by rw [if_pos rfl]; exact post_val a1.rel h1 r1⟩
    · rename_i eb; exact ⟨false, tru_is hK a1.rel eb r1, by rw [if_neg Bool.false_ne_true]; exact ⟨ρ1, A1, τ, a1, h1⟩⟩
    · exact h1.elim
theorem de_not (hK : X.K = Γ.K) (h : DE X Γ W e m) : DE X Γ W (.UnaryOp .Not e pos) (eNot m) :=
  (pe_notT h).imp fun σ H Q ⟨ρ, A, τ, a, h⟩ => wpG.step a h fun v A1 ρ1 H1 u _ x1 a1 r1 h1 => by
    split at h1
    · rename_i b eb; exact ⟨b, tru_is hK a1.rel eb r1, post_val a1.rel h1 rfl⟩
    · exact h1.elim
theorem de_neg (h : DE X Γ W e m) : DE X Γ W (.UnaryOp .USub e pos) (eNeg m) :=
  (pe_un un_neg h).imp fun σ H Q ⟨ρ, A, τ, a, h⟩ => wpG.step a h fun v A1 ρ1 H1 u _ x1 a1 r1 h1 => by
    cases v <;> try exact h1.elim
    exact ⟨_, r1, post_val a1.rel h1 rfl⟩
variable {es : List Expr} {ma : AM}
theorem da_nil : DA X Γ W [] aNil := pa_nil.imp fun σ H Q ⟨ρ, A, τ, a, h⟩ => h ρ H [] Ext.refl a.rel rfl
theorem da_cons (h : DE X Γ W e m) (k : DA X Γ W es ma) (hs : starEach (e :: es) X.env = (false, eval e X.env) :: starEach es X.env := by rfl) : DA X Γ W (e :: es) (aCons m ma) :=
  (pa_cons h k hs).imp fun σ H Q ⟨ρ, A, τ, a, h⟩ => wpG.step a h fun v A1 ρ1 H1 u _ x1 a1 r1 h1 => wpG.step a1 h1 fun vs A2 ρ2 H2 us _ x2 a2 r2 h2 =>
    h2 ρ2 H2 (u :: us) Ext.refl a2.rel ⟨u, us, rfl, r1.ext x2, r2⟩
theorem da_star {p : Pos} (hK : X.K = Γ.K) (h : DE X Γ W e m) (k : DA X Γ W es ma) (hs : starEach (.Starred e p :: es) X.env = (true, eval e X.env) :: starEach es X.env := by rfl) : DA X Γ W (.Starred e p :: es) (aStar m ma) :=
  (StX.pa_star h k hs).imp fun σ H Q ⟨ρ, A, τ, a, h⟩ => wpG.step a h fun v A1 ρ1 H1 u _ x1 a1 r1 h1 => by
    split at h1
    · rename_i ys ey
      obtain ⟨b, ws, rfl, hb, rb⟩ := rdS_ok a1.rel ey r1
      refine ⟨b, ws, rfl, by rw [hK]; exact hb.symm, wpG.step a1 h1 fun vs A2 ρ2 H2 us _ x2 a2 r2 h2 => ?_⟩
      exact h2 ρ2 H2 (ws ++ us) Ext.refl a2.rel ((VRs.ext x2 _ rb).append r2)
    · exact h1.elim
theorem de_tup {j : Nat} (h : DA X Γ W es ma) : DE X Γ W (.Tuple es j pos) (eTup ma) :=
  (pe_tup h).imp fun σ H Q ⟨ρ, A, τ, a, h⟩ => wpG.step a h fun vs A1 ρ1 H1 us _ x1 a1 r1 h1 => by
    split at h1
    · rename_i hl
      exact ⟨by rw [VRs.length r1, ← big_eq]; exact Nat.le_of_ble_eq_true hl, post_newT a1.rel h1 r1⟩
    · exact h1.elim
theorem de_lst {fz : Bool} (h : DA X Γ W es ma) : DE X Γ W (.List es pos) (eLst fz ma) :=
  (pe_lst h).imp fun σ H Q ⟨ρ, A, τ, a, h⟩ => wpG.step a h fun vs A1 ρ1 H1 us _ x1 a1 r1 h1 => by
    split at h1
    · rename_i hl
      exact ⟨by rw [VRs.length r1, ← big_eq]; exact Nat.le_of_ble_eq_true hl, post_newL a1.rel h1 r1⟩
    · exact h1.elim
end
end Mw
set_option Elab.async false
set_option linter.all false
set_option maxRecDepth 100000
set_option maxHeartbeats 2000000
namespace Mw
open PySem PySem.Spec PyProof.Rows L2
section
variable {X : Cx} {Γ : Gm} {W : WX}
def rIxD : R2 := fun x y H Q => ∃ a v, x = .ref a ∧ DGet H a y (some v) ∧ Q v H
theorem ix_dict (hu : X.A.units + 1 < cLine) : IxR X rIxD := by
  intro value slice pins s σ H x y v u Q I rx ry h hs
  obtain ⟨a, z, rfl, g, q⟩ := h
  cases rx
  have hT := dict_typeIs I g
  unfold subscriptTail
  refine wpAny_bind ?_
  rw [getitemInPython_of_ne hT.not_modules]
  refine wpAny_bind (wpAny_specialOf hT PySem.F.slot_dict_getitem.lookup ?_)
  have fin : wpAny (model X.prog X.w) X.A (subscripted slice false (.ref a) u) (fun r s₃ => wpAny (model X.prog X.w) X.A (letTemporaryGo value (.ref a) r >>= fun _ => pure r) (EP X pins σ Q) X.xe s₃) X.xe s := by
    rw [hs]
    refine wpAny_operating (d_getItem hu I g ry fun w' s3 I3 rw' => wpAny_bind (wpAny_letTemporaryGo (wpAny_pure ⟨z, H, I3, rw', q⟩)))
  first
    | exact wpAny_pure (wpAny_bind fin)
    | exact wpAny_bind (wpAny_pure (wpAny_bind fin))
    | exact wpAny_bind fin
def fIx : B2 := fun x y A => match rdS x A, dOf x A with
  | some xs, _ => (match y with
    | .int i => (match atI xs i with
      | some v => .ok v A
      | none => .stuck)
    | _ => .stuck)
  | none, some kvs => (match keyOf y with
    | some k => (match lookK k kvs with
      | some v => .ok v A
      | none => .stuck)
    | none => .stuck)
  | none, none => (match x, y with
    | .str z, .int i => if Nat.ble z.length big = true then (match atI z i with
      | some c => .ok (.str [c]) A
      | none => .stuck) else .stuck
    | _, _ => .stuck)
theorem VRs.atI {ρ : Nat → Addr} {A : AH} {H : Hp} {xs : List AV} {us : List V} {i : Int} {v : AV} (r : VRs Γ ρ A H xs us) (e : L2.atI xs i = some v) : ∃ u, L2.atI us i = some u ∧ VR Γ ρ A H v u := by
  unfold L2.atI at e ⊢
  rw [r.length]
  cases hn : ixN xs.length i with
  | none => rw [hn] at e; cases e
  | some j =>
    rw [hn] at e
    exact r.get e
theorem fIx_ok (hK : X.K = Γ.K) {E : EK} {ρ : Nat → Addr} {A : AH} {H : Hp} {Q : VK} {x y : AV} {u w : V} (R : Rel Γ ρ A H) (r1 : VR Γ ρ A H x u) (r2 : VR Γ ρ A H y w) (h : PostE Γ E ρ A H Q (fIx x y A)) : rIx X.K u w H Q ∨ rIxD u w H Q := by
  unfold fIx at h
  split at h
  · rename_i xs _ ex
    split at h
    · rename_i i
      split at h
      · rename_i v ev
        obtain ⟨a, us, rfl, hs, rs⟩ := rdS_ok R ex r1
        obtain ⟨z, ez, rz⟩ := rs.atI ev
        have e2 : w = .int i := r2
        subst e2
        refine .inl ?_
        rcases hs with hs | hs
        · exact .inl ⟨a, us, i, z, rfl, rfl, by rw [hK]; exact hs, ez, post_val R h rz⟩
        · exact .inr (.inl ⟨a, us, i, z, rfl, rfl, by rw [hK]; exact hs, ez, post_val R h rz⟩)
      · exact h.elim
    · exact h.elim
  · rename_i kvs _ ed
    split at h
    · rename_i k ek
      split at h
      · rename_i v ev
        obtain ⟨a, kus, rfl, hd, rd⟩ := dOf_ok R ed r1
        obtain ⟨z, ez, rz⟩ := (lookK_ok rd).1 v ev
        exact .inr ⟨a, z, rfl, .inl ⟨kus, kK k, hd, keyOf_ok ek r2, ez.symm⟩, post_val R h rz⟩
      · exact h.elim
    · exact h.elim
  · split at h
    · rename_i z i _ _
      split at h
      · rename_i hl
        split at h
        · rename_i c ec
          exact .inl (.inr (.inr ⟨⟨z.toArray⟩, i, c, r1, r2, by rw [str_len, ← big_eq]; exact Nat.le_of_ble_eq_true hl, by simpa using ec, post_val R h (by show V.str _ = V.str _; rfl)⟩))
        · exact h.elim
      · exact h.elim
    · exact h.elim
variable {e e1 e2 e3 : Expr} {m m1 m2 m3 : EM} {pos p2 : Pos}
theorem de_ix (hK : X.K = Γ.K) (hu : X.A.units + 1 < cLine) (ha : DE X Γ W e1 m1) (hb : DE X Γ W e2 m2) (hs : PlainIx e2) : DE X Γ W (.Subscript e1 e2 pos) (eBin fIx m1 m2) :=
  (pe_ix (ix_seq.or (ix_dict hu)) ha hb hs).imp fun σ H Q ⟨ρ, A, τ, a, h⟩ => wpG.step a h fun x A1 ρ1 H1 u _ x1 a1 r1 h1 => wpG.step a1 h1 fun y A2 ρ2 H2 w _ x2 a2 r2 h2 =>
    fIx_ok hK a2.rel (r1.ext x2) r2 h2
abbrev OM := AE → AH → Out (Option Int)
def OR' (_ : Gm) (_ : Nat → Addr) (_ : AH) (_ : Hp) (b c : Option Int) : Prop := b = c
abbrev wpO (Γ : Gm) (W : WX) (m : OM) : TO := fun σ H Q => wpG OR' Γ W m σ H Q
abbrev DO (X : Cx) (Γ : Gm) (W : WX) (e : Option Expr) (m : OM) : Prop := PO X e (wpO Γ W m)
def oNone : OM := fun _ A => .ok none A
def oSome (m : EM) : OM := fun τ A => (m τ A).bind fun v A1 => match v with
  | .int i => .ok (some i) A1
  | _ => .stuck
theorem _root_.L2.PO.imp {X : Cx} {e : Option Expr} {t t' : TO} (h : PO X e t) (i : ∀ σ H Q, t' σ H Q → t σ H Q) : PO X e t' := ⟨fun pins s σ H Q I q => h.run pins s σ H Q I (i σ H Q q)⟩
theorem do_none : DO X Γ W none oNone := po_none.imp fun σ H Q ⟨ρ, A, τ, a, h⟩ => h ρ H none Ext.refl a.rel rfl
theorem do_some (h : DE X Γ W e m) : DO X Γ W (some e) (oSome m) :=
  (po_some h).imp fun σ H Q ⟨ρ, A, τ, a, h⟩ => wpG.step a h fun v A1 ρ1 H1 u _ x1 a1 r1 h1 => by
    cases v <;> try exact h1.elim
    exact ⟨_, r1, h1 ρ1 H1 _ Ext.refl a1.rel rfl⟩
def cutL {α : Type} (xs : List α) (lo hi : Option Int) : List α := (xs.drop (HT.sIx xs.length 0 lo)).take (HT.sIx xs.length xs.length hi - HT.sIx xs.length 0 lo)
theorem VRs.drop {ρ : Nat → Addr} {A : AH} {H : Hp} : ∀ (n : Nat) {xs : List AV} {us : List V}, VRs Γ ρ A H xs us → VRs Γ ρ A H (xs.drop n) (us.drop n)
  | 0, _, _, r => r
  | n + 1, [], _, r => by rw [show _ = ([] : List V) from r]; rfl
  | n + 1, x :: xs, _, ⟨u, r, e, h, t⟩ => by rw [e]; exact VRs.drop n t
theorem VRs.take {ρ : Nat → Addr} {A : AH} {H : Hp} : ∀ (n : Nat) {xs : List AV} {us : List V}, VRs Γ ρ A H xs us → VRs Γ ρ A H (xs.take n) (us.take n)
  | 0, _, _, r => by rw [List.take_zero, List.take_zero]; rfl
  | n + 1, [], _, r => by rw [show _ = ([] : List V) from r]; rfl
  | n + 1, x :: xs, _, ⟨u, r, e, h, t⟩ => by rw [e]; exact ⟨u, _, rfl, h, VRs.take n t⟩
theorem VRs.cut {ρ : Nat → Addr} {A : AH} {H : Hp} {xs : List AV} {us : List V} (r : VRs Γ ρ A H xs us) (lo hi : Option Int) : VRs Γ ρ A H (cutL xs lo hi) (cutV us lo hi) := by
  unfold cutL cutV
  rw [r.length]
  exact (r.drop _).take _
def fSl (fz : Bool) (v : AV) (lo hi : Option Int) (A : AH) : Out AV := match v with
  | .str z => if Nat.ble z.length big = true then .ok (.str (cutL z lo hi)) A else .stuck
  | .tup xs => .ok (.tup (cutL xs lo hi)) A
  | v => (match rdL v A with
    | some xs => newL fz (cutL xs lo hi) A
    | none => .stuck)
def eSl (fz : Bool) (a : EM) (lo hi : OM) : EM := fun τ A => (a τ A).bind fun v A1 => (lo τ A1).bind fun l A2 => (hi τ A2).bind fun u A3 => fSl fz v l u A3
theorem cut_all {α : Type} {xs : List α} {lo hi : Option Int} (h : HT.sIx xs.length 0 lo = 0 ∧ HT.sIx xs.length xs.length hi = xs.length) : cutL xs lo hi = xs := by
  unfold cutL
  rw [h.1, h.2]; simp
theorem de_sl {fz : Bool} {lo hi : Option Expr} {ml mh : OM} (hK : X.K = Γ.K) (ha : DE X Γ W e m) (hl : DO X Γ W lo ml) (hh : DO X Γ W hi mh) : DE X Γ W (.Subscript e (.Slice lo hi none p2) pos) (eSl fz m ml mh) :=
  (pe_slice (sl_list.or (sl_tupA.or sl_str)) ha hl hh).imp fun σ H Q ⟨ρ, A, τ, a, h⟩ => wpG.step a h fun v A1 ρ1 H1 u _ x1 a1 r1 h1 => wpG.step a1 h1 fun l A2 ρ2 H2 l' _ x2 a2 r2 h2 => wpG.step a2 h2 fun k A3 ρ3 H3 k' _ x3 a3 r3 h3 => by
    have el : l = l' := r2
    have ek : k = k' := r3
    subst el ek
    have rv := (r1.ext x2).ext x3
    have lists : ∀ w, VR Γ ρ3 A3 H3 w u → PostE Γ (fun c d H' => W c d σ H') ρ3 A3 H3 Q (match rdL w A3 with | some xs => newL fz (cutL xs l k) A3 | none => .stuck) → rSlL X.K u l k H3 Q := fun w r h3 => by
      split at h3
      · rename_i xs ex
        obtain ⟨b, us, rfl, hb, rb⟩ := rdL_ok a3.rel ex r
        exact ⟨b, us, rfl, by rw [hK]; exact hb, post_newL a3.rel h3 (rb.cut l k)⟩
      · exact h3.elim
    unfold fSl at h3
    cases v with
    | str z =>
      simp only at h3
      split at h3
      · rename_i hz
        refine .inr (.inr ⟨_, rv, by rw [str_len, ← big_eq]; exact Nat.le_of_ble_eq_true hz, post_val a3.rel h3 ?_⟩)
        show V.str _ = V.str _
        unfold cutS cutL
        rw [str_len]
      · exact h3.elim
    | tup xs =>
      obtain ⟨b, us, rfl, hb, rb⟩ := rv
      refine .inr (.inl ⟨b, us, rfl, by rw [hK]; exact hb, fun hw => ?_, fun _ => post_newT a3.rel h3 (VRs.cut rb l k)⟩)
      have hw' : HT.sIx xs.length 0 l = 0 ∧ HT.sIx xs.length xs.length k = xs.length := by rw [← VRs.length rb]; exact hw
      simp only [cut_all hw'] at h3
      exact post_val a3.rel h3 ⟨b, us, rfl, hb, rb⟩
    | lst xs => exact .inl (lists _ rv h3)
    | rol xs => exact .inl (lists _ rv h3)
    | ref i => exact .inl (lists _ rv h3)
    | _ => exact h3.elim
def lookF (f : Nat) : List (Nat × AV) → Option AV
  | [] => none
  | (g, v) :: r => if g = f then some v else lookF f r
theorem lookF_ok {ρ : Nat → Addr} {A : AH} {H : Hp} {f : Nat} : ∀ {fs : List (Nat × AV)} {fus : List (Str × V)}, XRs Γ ρ A H fs fus → (∀ v, lookF f fs = some v → ∃ u, fus.lookup (Γ.nm f) = some u ∧ VR Γ ρ A H v u) ∧ (lookF f fs = none → fus.lookup (Γ.nm f) = none)
  | [], _, r => by rw [show _ = ([] : List (Str × V)) from r]; exact ⟨fun _ e => (by cases e), fun _ => rfl⟩
  | (g, w) :: fs, _, ⟨u, r, e, h, t⟩ => by
    obtain ⟨i1, i2⟩ := lookF_ok (f := f) t
    subst e
    unfold lookF
    by_cases hg : g = f
    · subst hg
      rw [if_pos rfl]
      refine ⟨fun v e => ?_, fun e => (by cases e)⟩
      cases e
      exact ⟨u, by rw [List.lookup_cons, beq_self_eq_true], h⟩
    · rw [if_neg hg]
      have hn : (Γ.nm f == Γ.nm g) = false := beq_eq_false_iff_ne.mpr fun e => hg (Γ.inj _ _ e.symm)
      rw [List.lookup_cons, hn]
      exact ⟨i1, i2⟩
def eAttr (cs : List Nat) (f : Nat) (a : EM) : EM := fun τ A => (a τ A).bind fun v A1 => match v with
  | .ref i => (match A1[i]? with
    | some (.ins c fs) => if cs.contains c = true then (match lookF f fs with
      | some v => .ok v A1
      | none => .stuck) else .stuck
    | _ => .stuck)
  | _ => .stuck
theorem de_attr {cs : List Nat} {f : Nat} {x : Str} (hx : x = Γ.nm f) (hK : X.K = Γ.K) (hc : ∀ c ∈ cs, Cls Γ.K (Γ.ad c) ∧ NoAttr Γ.K (Γ.ad c) (Γ.nm f)) (ha : DE X Γ W e m) (hb : attributeBase e x X.env (eval e X.env) = eval e X.env) : DE X Γ W (.Attribute e x pos) (eAttr cs f m) :=
  (pe_fld ha hb).imp fun σ H Q ⟨ρ, A, τ, a, h⟩ => wpG.step a h fun v A1 ρ1 H1 u _ x1 a1 r1 h1 => by
    subst hx
    cases v <;> try exact h1.elim
    rename_i i _
    simp only at h1
    split at h1
    · rename_i c fs ei
      split at h1
      · rename_i hcs
        split at h1
        · rename_i v ev
          obtain ⟨dx, fus, hi, rf⟩ := a1.rel.obj i _ ei
          obtain ⟨w, hw, rw'⟩ := (lookF_ok rf).1 v ev
          obtain ⟨k1, k2⟩ := hc c (by simpa using hcs)
          exact ⟨ρ1 i, Γ.ad c, dx, fus, w, r1.2, hi, by rw [hK]; exact k1, by rw [hK]; exact k2, hw, post_val a1.rel h1 rw'⟩
        · exact h1.elim
      · exact h1.elim
    · exact h1.elim
end
end Mw
set_option Elab.async false
set_option linter.all false
set_option maxRecDepth 100000
set_option maxHeartbeats 2000000
namespace Mw
open PySem PySem.Spec PyProof.Rows L2
def lift {α : Type} (m : AE → AH → Out α) (k : α → AE → AH → SR) : SM := fun τ A => match m τ A with
  | .ok v A1 => k v τ A1
  | .exc c fs A1 => .exc c fs τ A1
  | .stuck => .stuck
def sSeq (s t : SM) : SM := fun τ A => match s τ A with
  | .nx τ1 A1 => t τ1 A1
  | r => r
def sNil : SM := fun τ A => .nx τ A
def sExpr (m : EM) : SM := lift m fun _ τ A => .nx τ A
def sRet (m : EM) : SM := lift m fun v _ A => .rt v A
def sRetN : SM := fun _ A => .rt .non A
def sBk : SM := fun τ A => .bk τ A
def sCt : SM := fun τ A => .ct τ A
def sNever : SM := fun _ _ => .stuck
def sIf (t : TM) (a b : SM) : SM := lift t fun c τ A => if c = true then a τ A else b τ A
abbrev GM := AV → AE → AH → Option (AE × AH)
abbrev GMs := List AV → AE → AH → Option (AE × AH)
def gN (i : Nat) : GM := fun v τ A => some (τ.set i (some v), A)
def gNil' : GMs := fun vs τ A => match vs with
  | [] => some (τ, A)
  | _ => none
def gCons' (g : GM) (r : GMs) : GMs := fun vs τ A => match vs with
  | v :: vs => (match g v τ A with
    | some (τ1, A1) => r vs τ1 A1
    | none => none)
  | [] => none
def gSeq (n : Nat) (r : GMs) : GM := fun v τ A => match rdS v A with
  | some xs => if xs.length = n then r xs τ A else none
  | none => none
def sAsg (m : EM) (g : GM) : SM := lift m fun v τ A => match g v τ A with
  | some (τ1, A1) => .nx τ1 A1
  | none => .stuck
def sSet (i : Nat) (m : EM) : SM := lift m fun v τ A => .nx (τ.set i (some v)) A
def sPar (i j : Nat) (a b : EM) : SM := lift (aCons a (aCons b aNil)) fun vs τ A => match vs with
  | [v, w] => .nx ((τ.set i (some v)).set j (some w)) A
  | _ => .stuck
def sPar3 (i j l : Nat) (a b c : EM) : SM := lift (aCons a (aCons b (aCons c aNil))) fun vs τ A => match vs with
  | [u, v, w] => .nx (((τ.set i (some u)).set j (some v)).set l (some w)) A
  | _ => .stuck
def sAug (f : B2) (i : Nat) (m : EM) : SM := fun τ A => match τ[i]? with
  | some (some x) => lift (fun τ A => (m τ A).bind fun y A1 => f x y A1) (fun z τ A => .nx (τ.set i (some z)) A) τ A
  | _ => .stuck
def putFA (f : Nat) (v : AV) : List (Nat × AV) → List (Nat × AV)
  | [] => [(f, v)]
  | (g, x) :: r => if g = f then (g, v) :: r else (g, x) :: putFA f v r
def sAttr (cs : List Nat) (f : Nat) (o e : EM) : SM := lift (fun τ A => (e τ A).bind fun y A1 => (o τ A1).bind fun x A2 => .ok (x, y) A2) fun xy τ A => match xy.1 with
  | .ref i => (match A[i]? with
    | some (.ins c fs) => if (cs.contains c && Nat.blt fs.length 1000) = true then .nx τ (A.set i (.ins c (putFA f xy.2 fs))) else .stuck
    | _ => .stuck)
  | _ => .stuck
def fPut (o i v : AV) (A : AH) : Option AH := match o with
  | .ref p => (match A[p]? with
    | some (.lst xs) => (match i with
      | .int k => (match ixN xs.length k with
        | some j => some (A.set p (.lst (xs.set j v)))
        | none => none)
      | _ => none)
    | some (.dct kvs) => (match keyOf i with
      | some k => if Nat.blt kvs.length big = true then some (A.set p (.dct (putKA kvs k v))) else none
      | none => none)
    | _ => none)
  | _ => none
def sSub (o i e : EM) : SM := lift (fun τ A => (e τ A).bind fun v A1 => (o τ A1).bind fun x A2 => (i τ A2).bind fun y A3 => .ok (v, x, y) A3) fun t τ A => match fPut t.2.1 t.2.2 t.1 A with
  | some A1 => .nx τ A1
  | none => .stuck
section
variable {X : Cx} {Γ : Gm} {W : WX} {e e1 e2 e3 : Expr} {m m1 m2 m3 : EM} {t : TM} {pos pos' : Pos} {st : Stmt} {sts : List Stmt} {s s1 s2 : SM}
theorem ER.set {ρ : Nat → Addr} {A : AH} {H : Hp} {τ : AE} {σ : List (Option V)} {i : Nat} {v : AV} {u : V} (e : ER Γ ρ A H τ σ) (r : VR Γ ρ A H v u) : ER Γ ρ A H (τ.set i (some v)) (σ.set i (some u)) := by
  refine ⟨by rw [List.length_set, List.length_set]; exact e.1, fun j w h => ?_⟩
  by_cases hj : j = i
  · subst hj
    have hl : j < τ.length := by
      have := (List.getElem?_eq_some_iff.mp h).1
      rwa [List.length_set] at this
    rw [List.getElem?_set_self hl] at h
    cases h
    exact ⟨u, by rw [List.getElem?_set_self (by rw [← e.1]; exact hl)], r⟩
  · rw [List.getElem?_set_ne (Ne.symm hj)] at h
    obtain ⟨z, h1, h2⟩ := e.2 j w h
    exact ⟨z, by rw [List.getElem?_set_ne (Ne.symm hj)]; exact h1, h2⟩
theorem posts_nx {ρ : Nat → Addr} {A : AH} {H : Hp} {D : Ends} {τ : AE} {σ : List (Option V)} (a : At Γ ρ A τ σ H) (h : PostS Γ W ρ A H D (.nx τ A)) : D.nx σ H := h ρ H σ Ext.refl a.rel a.er
theorem posts_rt {ρ : Nat → Addr} {A : AH} {H : Hp} {D : Ends} {v : AV} {u : V} (R : Rel Γ ρ A H) (h : PostS Γ W ρ A H D (.rt v A)) (r : VR Γ ρ A H v u) : D.rt u H := h ρ H u Ext.refl R r
theorem dss_nil : DSs X Γ W [] sNil := pss_nil.imp fun D σ H ⟨ρ, A, τ, a, h⟩ => posts_nx a h
theorem dss_one (h : DS X Γ W st s) : DSs X Γ W [st] s := pss_one h
theorem dss_cons (h : DS X Γ W st s1) (k : DSs X Γ W sts s2) : DSs X Γ W (st :: sts) (sSeq s1 s2) :=
  (pss_cons h k).imp fun D σ H ⟨ρ, A, τ, a, h⟩ => by
    refine ⟨ρ, A, τ, a, ?_⟩
    unfold sSeq at h
    cases e : s1 τ A with
    | nx τ1 A1 => rw [e] at h; exact fun ρ1 H1 σ1 x R r => ⟨ρ1, A1, τ1, ⟨R, r⟩, PostS.mono x h⟩
    | rt v A1 => rw [e] at h; exact h
    | bk τ1 A1 => rw [e] at h; exact h
    | ct τ1 A1 => rw [e] at h; exact h
    | exc c fs τ1 A1 => rw [e] at h; exact h
    | stuck => rw [e] at h; exact h
theorem ds_never : DS X Γ W st sNever := ps_never.imp fun D σ H ⟨ρ, A, τ, a, h⟩ => h
theorem dss_never : DSs X Γ W sts sNever := pss_never.imp fun D σ H ⟨ρ, A, τ, a, h⟩ => h
theorem ds_pass : DS X Γ W (.Pass pos) sNil := ps_pass.imp fun D σ H ⟨ρ, A, τ, a, h⟩ => posts_nx a h
theorem ds_break : DS X Γ W (.Break pos) sBk := ps_break.imp fun D σ H ⟨ρ, A, τ, a, h⟩ => h ρ H σ Ext.refl a.rel a.er
theorem ds_continue : DS X Γ W (.Continue pos) sCt := ps_continue.imp fun D σ H ⟨ρ, A, τ, a, h⟩ => h ρ H σ Ext.refl a.rel a.er
theorem ds_expr (h : DE X Γ W e m) (hs : swapsWith e none pos.line X.env = pure false := by rfl) : DS X Γ W (.Expr e pos) (sExpr m) :=
  (ps_expr h hs).imp fun D σ H ⟨ρ, A, τ, a, h⟩ => wpG.stepS a h fun v A1 ρ1 H1 u _ x1 a1 r1 h1 => posts_nx a1 h1
theorem ds_ret (h : DE X Γ W e m) : DS X Γ W (.Return (some e) pos) (sRet m) :=
  (ps_ret h).imp fun D σ H ⟨ρ, A, τ, a, h⟩ => wpG.stepS a h fun v A1 ρ1 H1 u _ x1 a1 r1 h1 => posts_rt a1.rel h1 r1
theorem ds_retN : DS X Γ W (.Return none pos) sRetN := ps_retN.imp fun D σ H ⟨ρ, A, τ, a, h⟩ => posts_rt a.rel h rfl
theorem ds_if {a b : List Stmt} (h : DT X Γ W e t) (ha : DSs X Γ W a s1) (hb : DSs X Γ W b s2) : DS X Γ W (.If e a b pos) (sIf t s1 s2) :=
  (ps_if h ha hb).imp fun D σ H ⟨ρ, A, τ, a, h⟩ => wpG.stepS a h fun c A1 ρ1 H1 c' _ x1 a1 r1 h1 => by
    have e : c = c' := r1
    subst e
    cases c with
    | true => exact ⟨ρ1, A1, τ, a1, h1⟩
    | false => exact ⟨ρ1, A1, τ, a1, h1⟩
def wpGt (Γ : Gm) (g : GM) : TG := fun u σ H Q => ∃ ρ A τ v, At Γ ρ A τ σ H ∧ VR Γ ρ A H v u ∧ ∃ τ1 A1, g v τ A = some (τ1, A1) ∧ ∀ ρ' H' σ', Ext Γ ρ A H ρ' A1 H' → At Γ ρ' A1 τ1 σ' H' → Q σ' H'
def wpGs (Γ : Gm) (g : GMs) : TGs := fun us σ H Q => ∃ ρ A τ vs, At Γ ρ A τ σ H ∧ VRs Γ ρ A H vs us ∧ ∃ τ1 A1, g vs τ A = some (τ1, A1) ∧ ∀ ρ' H' σ', Ext Γ ρ A H ρ' A1 H' → At Γ ρ' A1 τ1 σ' H' → Q σ' H'
abbrev DG (X : Cx) (Γ : Gm) (e : Expr) (g : GM) : Prop := PG X e (wpGt Γ g)
abbrev DGs (X : Cx) (Γ : Gm) (e : List Expr) (g : GMs) : Prop := PGs X e (wpGs Γ g)
theorem _root_.L2.PG.imp {X : Cx} {e : Expr} {t t' : TG} (h : PG X e t) (i : ∀ v σ H Q, t' v σ H Q → t v σ H Q) : PG X e t' := ⟨fun pins s σ H v u Q I r q => h.run pins s σ H v u Q I r (i v σ H Q q)⟩
theorem _root_.L2.PGs.imp {X : Cx} {e : List Expr} {t t' : TGs} (h : PGs X e t) (i : ∀ v σ H Q, t' v σ H Q → t v σ H Q) : PGs X e t' := ⟨fun pins s σ H v u Q I r q => h.run pins s σ H v u Q I r (i v σ H Q q)⟩
theorem _root_.L2.PG.or {X : Cx} {e : Expr} {t t' : TG} (h : PG X e t) (h' : PG X e t') : PG X e (fun v σ H Q => t v σ H Q ∨ t' v σ H Q) := ⟨fun pins s σ H v u Q I r q => q.elim (fun q => h.run pins s σ H v u Q I r q) (fun q => h'.run pins s σ H v u Q I r q)⟩
theorem dg_name {i : Nat} {x : Str} (hN : X.N.Nodup) (hi : X.N[i]? = some x) (hx : Loc X.env.scope x) (hf : X.fn x = true ∨ X.env.scope.names.lookup x = some .local := by first | exact .inl rfl | exact .inr rfl | assumption) : DG X Γ (.Name x pos) (gN i) :=
  (pg_name hN hi hx hf).imp fun u σ H Q ⟨ρ, A, τ, v, a, r, τ1, A1, e, k⟩ => by
    cases e
    exact k ρ H _ Ext.refl ⟨a.rel, a.er.set r⟩
theorem dgs_nil : DGs X Γ [] gNil' := pgs_nil.imp fun us σ H Q ⟨ρ, A, τ, vs, a, r, τ1, A1, e, k⟩ => by
  unfold gNil' at e
  cases vs with
  | nil => cases e; exact ⟨r, k ρ H σ Ext.refl a⟩
  | cons _ _ => cases e
theorem dgs_cons {es : List Expr} {g : GM} {gs : GMs} (h : DG X Γ e g) (k : DGs X Γ es gs)
    (hs : (assignEach (e :: es) X.env).map (·.2) = assign e X.env :: (assignEach es X.env).map (·.2) := by rfl) : DGs X Γ (e :: es) (gCons' g gs) :=
  (pgs_cons h k hs).imp fun us σ H Q ⟨ρ, A, τ, vs, a, r, τ1, A1, e, k⟩ => by
    unfold gCons' at e
    cases vs with
    | nil => cases e
    | cons v vs =>
      simp only at e
      split at e
      · rename_i τ2 A2 e2
        obtain ⟨u, ur, rfl, hu, hr⟩ := r
        refine ⟨u, ur, rfl, ρ, A, τ, v, a, hu, τ2, A2, e2, fun ρ2 H2 σ2 x2 a2 => ?_⟩
        exact ⟨ρ2, A2, τ2, vs, a2, hr.ext x2, τ1, A1, e, fun ρ3 H3 σ3 x3 a3 => k ρ3 H3 σ3 (x2.trans x3) a3⟩
      · cases e
theorem dg_seq {es : List Expr} {k n : Nat} {gs : GMs} (hK : X.K = Γ.K) (hc : X.calm = true) (h : DGs X Γ es gs)
    (hn : (assignEach es X.env).length = n := by rfl) (hst : (assignEach es X.env).findIdx? (·.1) = none := by rfl) : DG X Γ (.Tuple es k pos) (gSeq n gs) :=
  ((pg_tup hc h hn hst).or (pg_unl hc h hn hst)).imp fun u σ H Q ⟨ρ, A, τ, v, a, r, τ1, A1, e, kk⟩ => by
    unfold gSeq at e
    split at e
    · rename_i xs ex
      split at e
      · rename_i hl
        obtain ⟨b, us, rfl, hb, rb⟩ := rdS_ok a.rel ex r
        have hw : wpGs Γ gs us σ H Q := ⟨ρ, A, τ, xs, a, rb, τ1, A1, e, kk⟩
        rcases hb with hb | hb
        · exact .inr ⟨b, us, rfl, by rw [hK]; exact hb, by rw [rb.length]; exact hl, hw⟩
        · exact .inl ⟨b, us, rfl, by rw [hK]; exact hb, by rw [rb.length]; exact hl, hw⟩
      · cases e
    · cases e
theorem ds_asg {tg : Expr} {g : GM} (h : DE X Γ W e m) (hg : DG X Γ tg g) (hs : swapsWithSole [tg] e pos.line X.env = pure false := by rfl) (hw : swappedStores [tg] e X.env = pure none := by rfl)
    (h1 : (assignEach [tg] X.env).map (·.2) = [assign tg X.env] := by rfl) : DS X Γ W (.Assign [tg] e pos) (sAsg m g) :=
  (ps_asg h hg hs hw h1).imp fun D σ H ⟨ρ, A, τ, a, h⟩ => wpG.stepS a h fun v A1 ρ1 H1 u _ x1 a1 r1 h1 => by
    dsimp only at h1
    split at h1
    · rename_i τ2 A2 e2
      exact ⟨ρ1, A1, τ, v, a1, r1, τ2, A2, e2, fun ρ2 H2 σ2 x2 a2 => posts_nx a2 (PostS.mono x2 h1)⟩
    · exact h1.elim
theorem ds_set {i : Nat} {x : Str} (hN : X.N.Nodup) (hi : X.N[i]? = some x) (hx : Loc X.env.scope x) (h : DE X Γ W e m) (hs : swapsWith e (some (.Name x pos')) pos.line X.env = pure false := by rfl) (hf : X.fn x = true ∨ X.env.scope.names.lookup x = some .local := by first | exact .inl rfl | exact .inr rfl | assumption) :
    DS X Γ W (.Assign [.Name x pos'] e pos) (sSet i m) :=
  (ps_set hN hi hx h hs hf).imp fun D σ H ⟨ρ, A, τ, a, h⟩ => wpG.stepS a h fun v A1 ρ1 H1 u _ x1 a1 r1 h1 => posts_nx ⟨a1.rel, a1.er.set r1⟩ h1
theorem ds_par {i j : Nat} {x y : Str} {px py pt : Pos} {kt k2 : Nat} {pt2 : Pos} (hc : X.calm = true) (hN : X.N.Nodup) (hi : X.N[i]? = some x) (hj : X.N[j]? = some y) (hij : i ≠ j)
    (hx : X.env.scope.names.lookup x = some .local) (hy : X.env.scope.names.lookup y = some .local) (ha : DE X Γ W e1 m1) (hb : DE X Γ W e2 m2)
    (hw : swappedStores [.Tuple [.Name x px, .Name y py] kt pt] (.Tuple [e1, e2] k2 pt2) X.env = pure (some [x, y]))
    (hs : swapsWithSole [.Tuple [.Name x px, .Name y py] kt pt] (.Tuple [e1, e2] k2 pt2) pos.line X.env = pure false := by rfl)
    (h1 : starEach (e1 :: [e2]) X.env = (false, eval e1 X.env) :: starEach [e2] X.env := by rfl) (h2 : starEach (e2 :: []) X.env = (false, eval e2 X.env) :: starEach [] X.env := by rfl) :
    DS X Γ W (.Assign [.Tuple [.Name x px, .Name y py] kt pt] (.Tuple [e1, e2] k2 pt2) pos) (sPar i j m1 m2) :=
  (ps_par hc hN hi hj hij hx hy (da_cons ha (da_cons hb da_nil h2) h1) hw hs).imp fun D σ H ⟨ρ, A, τ, a, h⟩ => wpG.stepS a h fun vs A1 ρ1 H1 us _ x1 a1 r1 h1 => by
    dsimp only at h1
    split at h1
    · rename_i v w
      obtain ⟨u1, r, rfl, g1, u2, r', rfl, g2, rfl⟩ := r1
      exact ⟨u1, u2, rfl, posts_nx ⟨a1.rel, (a1.er.set g1).set g2⟩ h1⟩
    · exact h1.elim
theorem ds_par3 {i j l : Nat} {x y z : Str} {px py pz pt : Pos} {kt k2 : Nat} {pt2 : Pos} (hc : X.calm = true) (hN : X.N.Nodup) (hi : X.N[i]? = some x) (hj : X.N[j]? = some y) (hl : X.N[l]? = some z) (hij : i ≠ j) (hil : i ≠ l) (hjl : j ≠ l)
    (hx : X.env.scope.names.lookup x = some .local) (hy : X.env.scope.names.lookup y = some .local) (hz : X.env.scope.names.lookup z = some .local) (ha : DE X Γ W e1 m1) (hb : DE X Γ W e2 m2) (hd : DE X Γ W e3 m3)
    (hw : swappedStores [.Tuple [.Name x px, .Name y py, .Name z pz] kt pt] (.Tuple [e1, e2, e3] k2 pt2) X.env = pure (some [x, y, z]))
    (hs : swapsWithSole [.Tuple [.Name x px, .Name y py, .Name z pz] kt pt] (.Tuple [e1, e2, e3] k2 pt2) pos.line X.env = pure false := by rfl)
    (h1 : starEach (e1 :: [e2, e3]) X.env = (false, eval e1 X.env) :: starEach [e2, e3] X.env := by rfl) (h2 : starEach (e2 :: [e3]) X.env = (false, eval e2 X.env) :: starEach [e3] X.env := by rfl) (h3 : starEach (e3 :: []) X.env = (false, eval e3 X.env) :: starEach [] X.env := by rfl) :
    DS X Γ W (.Assign [.Tuple [.Name x px, .Name y py, .Name z pz] kt pt] (.Tuple [e1, e2, e3] k2 pt2) pos) (sPar3 i j l m1 m2 m3) :=
  (ps_par3 hc hN hi hj hl hij hil hjl hx hy hz (da_cons ha (da_cons hb (da_cons hd da_nil h3) h2) h1) hw hs).imp fun D σ H ⟨ρ, A, τ, a, h⟩ => wpG.stepS a h fun vs A1 ρ1 H1 us _ x1 a1 r1 h1 => by
    dsimp only at h1
    split at h1
    · rename_i u v w
      obtain ⟨u1, r, rfl, g1, u2, r', rfl, g2, u3, r'', rfl, g3, rfl⟩ := r1
      exact ⟨u1, u2, u3, rfl, posts_nx ⟨a1.rel, ((a1.er.set g1).set g2).set g3⟩ h1⟩
    · exact h1.elim
theorem ds_aug {op : Operator} {f : B2} {i : Nat} {x : Str} (o : OpM X Γ (inplaceOp op) f) (hN : X.N.Nodup) (hi : X.N[i]? = some x) (hx : Loc X.env.scope x) (h : DE X Γ W e m) (hf : X.fn x = true ∨ X.env.scope.names.lookup x = some .local := by first | exact .inl rfl | exact .inr rfl | assumption) :
    DS X Γ W (.AugAssign (.Name x pos') op e pos) (sAug f i m) :=
  (ps_aug hN hi hx h (ti := rM Γ f) (fun pins s σ H x y v u Q I rx ry q => o.r pins s σ H x y v u Q I rx ry q) hf).imp fun D σ H ⟨ρ, A, τ, a, h⟩ => by
    unfold sAug at h
    split at h
    · rename_i xv ex
      obtain ⟨u, h1, r⟩ := a.er.2 i xv ex
      refine ⟨u, h1, ?_⟩
      unfold lift at h
      dsimp only at h
      refine ⟨ρ, A, τ, a, ?_⟩
      cases em : m τ A with
      | ok y A1 =>
        rw [em] at h
        intro ρ1 H1 w x1 R1 r1
        refine ⟨fun c d H' => W c d σ H', ρ1, A1, xv, y, R1, r.ext x1, r1, ?_⟩
        simp only [Out.bind] at h
        cases ef : f xv y A1 with
        | ok z A2 =>
          rw [ef] at h
          exact fun ρ2 H2 q x2 R2 r2 => h ρ2 H2 _ (x1.trans x2) R2 ((a.er.ext (x1.trans x2)).set r2)
        | exc c fs A2 =>
          rw [ef] at h
          exact fun ρ2 H2 cls d x2 R2 r2 => h ρ2 H2 σ cls d (x1.trans x2) R2 (a.er.ext (x1.trans x2)) r2
        | stuck => rw [ef] at h; exact h
      | exc c fs A1 =>
        rw [em] at h
        exact fun ρ1 H1 cls d x1 R1 r1 => h ρ1 H1 σ cls d x1 R1 (a.er.ext x1) r1
      | stuck => rw [em] at h; exact h
    · exact h.elim
end
end Mw
set_option Elab.async false
set_option linter.all false
set_option maxRecDepth 100000
set_option maxHeartbeats 2000000
namespace Mw
open PySem PySem.Spec PyProof.Rows L2
section
variable {X : Cx} {Γ : Gm} {W : WX} {e e1 e2 e3 : Expr} {m m1 m2 m3 : EM} {t : TM} {pos pos' : Pos} {st : Stmt} {sts : List Stmt} {s s1 s2 : SM}
theorem XRs.put {ρ : Nat → Addr} {A : AH} {H : Hp} {f : Nat} {v : AV} {z : V} (hv : VR Γ ρ A H v z) : ∀ {fs : List (Nat × AV)} {fus : List (Str × V)}, XRs Γ ρ A H fs fus → XRs Γ ρ A H (putFA f v fs) (putF (Γ.nm f) z fus)
  | [], _, r => by rw [show _ = ([] : List (Str × V)) from r]; exact ⟨z, [], rfl, hv, rfl⟩
  | (g, w) :: fs, _, ⟨u, r, e, h, t⟩ => by
    subst e
    unfold putFA putF
    by_cases hg : g = f
    · subst hg
      rw [if_pos rfl, if_pos rfl]
      exact ⟨z, r, rfl, hv, t⟩
    · rw [if_neg hg, if_neg (fun e => hg (Γ.inj _ _ e))]
      exact ⟨u, _, rfl, h, XRs.put hv t⟩
theorem XRs.length {ρ : Nat → Addr} {A : AH} {H : Hp} : ∀ {fs : List (Nat × AV)} {fus : List (Str × V)}, XRs Γ ρ A H fs fus → fus.length = fs.length
  | [], _, r => by rw [show _ = ([] : List (Str × V)) from r]; rfl
  | (j, w) :: kvs, _, ⟨u, r, e, h, t⟩ => by rw [e, List.length_cons, List.length_cons, XRs.length t]
theorem blt_lt {a b : Nat} (h : Nat.blt a b = true) : a < b := by simpa [Nat.blt_eq] using h
theorem ds_attr {cs : List Nat} {f : Nat} {x : Str} (hx : x = Γ.nm f) (hK : X.K = Γ.K) (hc : ∀ c ∈ cs, Cls Γ.K (Γ.ad c) ∧ NoAttr Γ.K (Γ.ad c) (Γ.nm f)) (ho : DE X Γ W e1 m1) (he : DE X Γ W e2 m2)
    (hs : swapsWith e2 (some (.Attribute e1 x pos')) pos.line X.env = pure false) : DS X Γ W (.Assign [.Attribute e1 x pos'] e2 pos) (sAttr cs f m1 m2) :=
  (ps_fld ho he hs).imp fun D σ H ⟨ρ, A, τ, a, h⟩ => by
    subst hx
    unfold sAttr lift at h
    dsimp only at h
    refine ⟨ρ, A, τ, a, ?_⟩
    cases e1' : m2 τ A with
    | stuck => rw [e1'] at h; exact h
    | exc c fs A1 => rw [e1'] at h; exact fun ρ1 H1 cls d x R r => h ρ1 H1 σ cls d x R (a.er.ext x) r
    | ok y A1 =>
      rw [e1'] at h
      intro ρ1 H1 u x1 R1 r1
      simp only [Out.bind] at h
      refine ⟨ρ1, A1, τ, a.to x1 R1, ?_⟩
      cases e2' : m1 τ A1 with
      | stuck => rw [e2'] at h; exact h
      | exc c fs A2 => rw [e2'] at h; exact fun ρ2 H2 cls d x R r => h ρ2 H2 σ cls d (x1.trans x) R (a.er.ext (x1.trans x)) r
      | ok v A2 =>
        rw [e2'] at h
        intro ρ2 H2 w x2 R2 r2
        cases v <;> try exact h.elim
        rename_i i
        simp only at h
        split at h
        · rename_i c fs ei
          split at h
          · rename_i hcs
            obtain ⟨c1, c2⟩ := Bool.and_eq_true_iff.mp hcs
            obtain ⟨k1, k2⟩ := hc c (by simpa using c1)
            obtain ⟨dx, fus, hi, rf⟩ := R2.obj i _ ei
            have x12 := x1.trans x2
            refine ⟨ρ2 i, Γ.ad c, dx, fus, r2.2, hi, by rw [hK]; exact k1, by rw [hK]; exact k2, by rw [XRs.length rf]; exact blt_lt c2, ?_⟩
            have ni : (AO.ins c fs) ≠ .gone := by intro z; cases z
            have h1 : ∀ us, H2 (ρ2 i) ≠ some (.tup us) := fun us z => by rw [hi] at z; cases z
            have h2 : ∀ q us, H2 (ρ2 i) ≠ some (.frz q us) := fun q us z => by rw [hi] at z; cases z
            have xw := Ext.write (o := .ins (Γ.ad c) dx (putF (Γ.nm f) u fus)) (ao := .ins c (putFA f y fs)) R2 ei ni h1 h2
            refine h ρ2 _ σ (x12.trans xw) (R2.write ei ni h1 h2 ⟨dx, _, upd_same, ?_⟩) (a.er.ext (x12.trans xw))
            exact XRs.ext xw _ (XRs.put (r1.ext x2) rf)
          · exact h.elim
        · exact h.elim
def rSetD : V → V → V → Hp → (Hp → Prop) → Prop := fun o i v H Q => ∃ a H', o = .ref a ∧ DPut H a i v H' ∧ Q H'
theorem set_dict (hu : X.A.units + 1 < cLine) : PSet X rSetD := by
  intro pins s σ H o i v ov iv u Q I ro ri rv h
  obtain ⟨a, H', rfl, g, q⟩ := h
  cases ro
  exact d_setItem hu I g ri rv fun s4 I4 => ⟨H', I4, q⟩
theorem PSet.or {t t' : TSet} (h : PSet X t) (h' : PSet X t') : PSet X (fun o i v H Q => t o i v H Q ∨ t' o i v H Q) := fun pins s σ H o i v ov iv u Q I ro ri rv q =>
  q.elim (fun q => h pins s σ H o i v ov iv u Q I ro ri rv q) (fun q => h' pins s σ H o i v ov iv u Q I ro ri rv q)
theorem fPut_ok {ρ : Nat → Addr} {A A1 : AH} {H : Hp} {Q : Hp → Prop} {o i v : AV} {uo ui uv : V} (R : Rel Γ ρ A H) (ro : VR Γ ρ A H o uo) (ri : VR Γ ρ A H i ui) (rv : VR Γ ρ A H v uv) (h : fPut o i v A = some A1)
    (k : ∀ H', Ext Γ ρ A H ρ A1 H' → Rel Γ ρ A1 H' → Q H') : rSetL uo ui uv H Q ∨ rSetD uo ui uv H Q := by
  unfold fPut at h
  cases o <;> try cases h
  rename_i p
  simp only at h
  split at h
  · rename_i xs ep
    split at h
    · rename_i j
      split at h
      · rename_i n en
        cases h
        obtain ⟨us, hp, rp⟩ := R.obj p _ ep
        have h1 : ∀ us, H (ρ p) ≠ some (.tup us) := fun us z => by rw [hp] at z; cases z
        have h2 : ∀ q us, H (ρ p) ≠ some (.frz q us) := fun q us z => by rw [hp] at z; cases z
        have ni : (AO.lst xs) ≠ .gone := by intro z; cases z
        have xw := Ext.write (o := .lst (us.set n uv)) (ao := .lst (xs.set n v)) R ep ni h1 h2
        refine .inl ⟨ρ p, us, j, n, ro.2, ri, hp, by rw [rp.length]; exact en, k _ xw (R.write ep ni h1 h2 ⟨_, upd_same, ?_⟩)⟩
        exact VRs.ext xw _ (rp.set rv n)
      · cases h
    · cases h
  · rename_i kvs ep
    split at h
    · rename_i key ek
      split at h
      · rename_i hl
        cases h
        obtain ⟨kus, hp, rp⟩ := R.obj p _ ep
        have h1 : ∀ us, H (ρ p) ≠ some (.tup us) := fun us z => by rw [hp] at z; cases z
        have h2 : ∀ q us, H (ρ p) ≠ some (.frz q us) := fun q us z => by rw [hp] at z; cases z
        have ni : (AO.dct kvs) ≠ .gone := by intro z; cases z
        have xw := Ext.write (o := .dK (putK kus (kK key) uv)) (ao := .dct (putKA kvs key v)) R ep ni h1 h2
        refine .inr ⟨ρ p, _, ro.2, .inl ⟨kus, kK key, hp, keyOf_ok ek ri, by rw [KRs.length rp, ← big_eq]; exact blt_lt hl, rfl⟩, k _ xw (R.write ep ni h1 h2 ⟨_, upd_same, ?_⟩)⟩
        exact KRs.ext xw _ (rp.put rv)
      · cases h
    · cases h
  · cases h
theorem ds_sub (hu : X.A.units + 1 < cLine) (ho : DE X Γ W e1 m1) (hi : DE X Γ W e2 m2) (he : DE X Γ W e3 m3)
    (ha : ∀ v, assign (.Subscript e1 e2 pos') X.env v = (do
      let ov ← holding [v] (eval e1 X.env)
      let iv ← holding [v, ov] (eval e2 X.env)
      standAt pos'
      holding [v, ov, iv] (setItem ov iv v)
      release [v, ov, iv] []) := by intros; rfl)
    (hs : swapsWithSole [.Subscript e1 e2 pos'] e3 pos.line X.env = pure false := by rfl) (hw : swappedStores [.Subscript e1 e2 pos'] e3 X.env = pure none := by rfl)
    (h1 : (assignEach [.Subscript e1 e2 pos'] X.env).map (·.2) = [assign (.Subscript e1 e2 pos') X.env] := by rfl) : DS X Γ W (.Assign [.Subscript e1 e2 pos'] e3 pos) (sSub m1 m2 m3) :=
  (ps_asg he (pg_sub ho hi (PSet.or set_list (set_dict hu)) ha) hs hw h1).imp fun D σ H ⟨ρ, A, τ, a, h⟩ => by
    unfold sSub lift at h
    dsimp only at h
    refine ⟨ρ, A, τ, a, ?_⟩
    cases e3' : m3 τ A with
    | stuck => rw [e3'] at h; exact h
    | exc c fs A1 => rw [e3'] at h; exact fun ρ1 H1 cls d x R r => h ρ1 H1 σ cls d x R (a.er.ext x) r
    | ok v A1 =>
      rw [e3'] at h
      intro ρ1 H1 u x1 R1 r1
      simp only [Out.bind] at h
      refine ⟨ρ1, A1, τ, a.to x1 R1, ?_⟩
      cases e1' : m1 τ A1 with
      | stuck => rw [e1'] at h; exact h
      | exc c fs A2 => rw [e1'] at h; exact fun ρ2 H2 cls d x R r => h ρ2 H2 σ cls d (x1.trans x) R (a.er.ext (x1.trans x)) r
      | ok o A2 =>
        rw [e1'] at h
        intro ρ2 H2 w x2 R2 r2
        simp only at h
        have x12 := x1.trans x2
        refine ⟨ρ2, A2, τ, a.to x12 R2, ?_⟩
        cases e2' : m2 τ A2 with
        | stuck => rw [e2'] at h; exact h
        | exc c fs A3 => rw [e2'] at h; exact fun ρ3 H3 cls d x R r => h ρ3 H3 σ cls d (x12.trans x) R (a.er.ext (x12.trans x)) r
        | ok i A3 =>
          rw [e2'] at h
          intro ρ3 H3 z x3 R3 r3
          simp only at h
          split at h
          · rename_i A4 e4
            refine fPut_ok R3 (r2.ext x3) r3 ((r1.ext x2).ext x3) e4 fun H4 x4 R4 => ?_
            have xx := (x12.trans x3).trans x4
            exact h ρ3 H4 σ xx R4 (a.er.ext xx)
          · exact h.elim
end
end Mw
set_option Elab.async false
set_option linter.all false
set_option maxRecDepth 100000
set_option maxHeartbeats 2000000
namespace Mw
open PySem PySem.Spec PyProof.Rows L2
abbrev Gm.hd (Γ : Gm) (h : List Addr) : Gm := { Γ with hid := h ++ Γ.hid }
structure ExtH (Γ : Gm) (h : List Addr) (ρ : Nat → Addr) (A : AH) (H : Hp) (ρ' : Nat → Addr) (A' : AH) (H' : Hp) : Prop where
  le : A.length ≤ A'.length
  ag : ∀ i, i < A.length → ρ' i = ρ i
  tp : ∀ a us, SqT Γ.K H a us → SqT Γ.K H' a us
  un : ∀ b o, ntb o = true → H b = some o → ¬ Tr Γ ρ A b → H' b = some o ∧ ¬ Tr (Γ.hd h) ρ' A' b
section
variable {Γ : Gm} {h : List Addr} {ρ ρ' ρ'' : Nat → Addr} {A A' A'' : AH} {H H' H'' : Hp}
theorem ExtH.of (x : Ext Γ ρ A H ρ' A' H') : ExtH Γ [] ρ A H ρ' A' H' := ⟨x.le, x.ag, x.tp, x.un⟩
theorem ExtH.trans (x : ExtH Γ h ρ A H ρ' A' H') (y : Ext (Γ.hd h) ρ' A' H' ρ'' A'' H'') : ExtH Γ h ρ A H ρ'' A'' H'' :=
  ⟨Nat.le_trans x.le y.le, fun i h => (y.ag i (Nat.lt_of_lt_of_le h x.le)).trans (x.ag i h), fun a us h => y.tp a us (x.tp a us h), fun b o t h n => y.un b o t (x.un b o t h n).1 (x.un b o t h n).2⟩
theorem ExtH.after (x : Ext Γ ρ A H ρ' A' H') (y : ExtH Γ h ρ' A' H' ρ'' A'' H'') : ExtH Γ h ρ A H ρ'' A'' H'' :=
  ⟨Nat.le_trans x.le y.le, fun i h => (y.ag i (Nat.lt_of_lt_of_le h x.le)).trans (x.ag i h), fun a us h => y.tp a us (x.tp a us h), fun b o t h n => y.un b o t (x.un b o t h n).1 (x.un b o t h n).2⟩
mutual
theorem VR.extH (x : ExtH Γ h ρ A H ρ' A' H') : ∀ (v : AV) {u : V}, VR Γ ρ A H v u → VR (Γ.hd h) ρ' A' H' v u
  | .non, _, h => h
  | .bl _, _, h => h
  | .int _, _, h => h
  | .str _, _, h => h
  | .glo _, _, h => h
  | .tup xs, _, ⟨a, us, e, s, r⟩ => ⟨a, us, e, x.tp a us s, VRs.extH x xs r⟩
  | .lst xs, _, ⟨a, us, e, n, s, r⟩ => ⟨a, us, e, (x.un a _ rfl s n).2, (x.un a _ rfl s n).1, VRs.extH x xs r⟩
  | .rol xs, _, ⟨a, us, e, s, r⟩ => ⟨a, us, e, s.elim (fun ⟨n, q⟩ => .inl (q.elim (fun q => ⟨(x.un a _ rfl q n).2, .inl (x.un a _ rfl q n).1⟩) fun ⟨o, q⟩ => ⟨(x.un a _ rfl q n).2, .inr ⟨o, (x.un a _ rfl q n).1⟩⟩)) .inr, VRs.extH x xs r⟩
  | .dct kvs, _, ⟨a, o, kus, e, n, s, r⟩ => ⟨a, o, kus, e, (x.un a _ rfl s n).2, (x.un a _ rfl s n).1, KRs.extH x kvs r⟩
  | .ref i, _, ⟨l, e⟩ => ⟨Nat.lt_of_lt_of_le l x.le, by rw [x.ag i l]; exact e⟩
  | .exh c fs, _, ⟨a, cls, d, fus, e1, e2, e3, r, s⟩ => ⟨a, cls, d, fus, e1, e2, e3, XRs.extH x fs r, s.elim .inl fun ⟨b, e, n, q⟩ => .inr ⟨b, e, (x.un b _ rfl q n).2, (x.un b _ rfl q n).1⟩⟩
theorem VRs.extH (x : ExtH Γ h ρ A H ρ' A' H') : ∀ (xs : List AV) {us : List V}, VRs Γ ρ A H xs us → VRs (Γ.hd h) ρ' A' H' xs us
  | [], _, h => h
  | y :: ys, _, ⟨u, r, e, h, t⟩ => ⟨u, r, e, VR.extH x y h, VRs.extH x ys t⟩
theorem KRs.extH (x : ExtH Γ h ρ A H ρ' A' H') : ∀ (xs : List (AK × AV)) {us : List (Key × V)}, KRs Γ ρ A H xs us → KRs (Γ.hd h) ρ' A' H' xs us
  | [], _, h => h
  | (k, y) :: ys, _, ⟨u, r, e, h, t⟩ => ⟨u, r, e, VR.extH x y h, KRs.extH x ys t⟩
theorem XRs.extH (x : ExtH Γ h ρ A H ρ' A' H') : ∀ (xs : List (Nat × AV)) {us : List (Str × V)}, XRs Γ ρ A H xs us → XRs (Γ.hd h) ρ' A' H' xs us
  | [], _, h => h
  | (k, y) :: ys, _, ⟨u, r, e, h, t⟩ => ⟨u, r, e, VR.extH x y h, XRs.extH x ys t⟩
end
theorem ER.extH (x : ExtH Γ h ρ A H ρ' A' H') {τ : AE} {σ : L2.St} (e : ER Γ ρ A H τ σ) : ER (Γ.hd h) ρ' A' H' τ σ :=
  ⟨e.1, fun i v h => let ⟨u, h1, h2⟩ := e.2 i v h; ⟨u, h1, VR.extH x v h2⟩⟩
end

mutual
def beqV : AV → AV → Bool
  | .non, .non => true
  | .bl a, .bl b => a == b
  | .int a, .int b => decide (a = b)
  | .str a, .str b => decide (a = b)
  | .tup a, .tup b => beqVs a b
  | .lst a, .lst b => beqVs a b
  | .rol a, .rol b => beqVs a b
  | .ref a, .ref b => Nat.beq a b
  | .glo a, .glo b => Nat.beq a b
  | .dct a, .dct b => beqKs a b
  | _, _ => false
def beqVs : List AV → List AV → Bool
  | [], [] => true
  | x :: xs, y :: ys => beqV x y && beqVs xs ys
  | _, _ => false
def beqKs : List (AK × AV) → List (AK × AV) → Bool
  | [], [] => true
  | (j, x) :: xs, (k, y) :: ys => decide (j = k) && (beqV x y && beqKs xs ys)
  | _, _ => false
end
mutual
theorem beqV_eq : ∀ {a b : AV}, beqV a b = true → a = b
  | .non, b, h => by cases b <;> first | rfl | (cases h; done)
  | .bl x, b, h => by cases b <;> first | (have := eq_of_beq (show (x == _) = true from h); subst this; rfl) | (cases h; done)
  | .int x, b, h => by cases b <;> first | (have := of_decide_eq_true (show decide (x = _) = true from h); subst this; rfl) | (cases h; done)
  | .str x, b, h => by cases b <;> first | (have := of_decide_eq_true (show decide (x = _) = true from h); subst this; rfl) | (cases h; done)
  | .tup x, b, h => by cases b <;> first | (rw [beqVs_eq (show beqVs x _ = true from h)]) | (cases h; done)
  | .lst x, b, h => by cases b <;> first | (rw [beqVs_eq (show beqVs x _ = true from h)]) | (cases h; done)
  | .rol x, b, h => by cases b <;> first | (rw [beqVs_eq (show beqVs x _ = true from h)]) | (cases h; done)
  | .ref x, b, h => by cases b <;> first | (rw [Nat.eq_of_beq_eq_true (show Nat.beq x _ = true from h)]) | (cases h; done)
  | .glo x, b, h => by cases b <;> first | (rw [Nat.eq_of_beq_eq_true (show Nat.beq x _ = true from h)]) | (cases h; done)
  | .dct x, b, h => by cases b <;> first | (rw [beqKs_eq (show beqKs x _ = true from h)]) | (cases h; done)
  | .exh c fs, b, h => by cases b <;> (cases h; done)
theorem beqVs_eq : ∀ {a b : List AV}, beqVs a b = true → a = b
  | [], [], _ => rfl
  | [], _ :: _, h => by cases h
  | _ :: _, [], h => by cases h
  | x :: xs, y :: ys, h => by
    obtain ⟨h1, h2⟩ := Bool.and_eq_true_iff.mp (show (beqV x y && beqVs xs ys) = true from h)
    rw [beqV_eq h1, beqVs_eq h2]
theorem beqKs_eq : ∀ {a b : List (AK × AV)}, beqKs a b = true → a = b
  | [], [], _ => rfl
  | [], _ :: _, h => by cases h
  | _ :: _, [], h => by cases h
  | (j, x) :: xs, (k, y) :: ys, h => by
    obtain ⟨h1, h2⟩ := Bool.and_eq_true_iff.mp (show (decide (j = k) && (beqV x y && beqKs xs ys)) = true from h)
    obtain ⟨h3, h4⟩ := Bool.and_eq_true_iff.mp h2
    rw [of_decide_eq_true h1, beqV_eq h3, beqKs_eq h4]
end

structure Src where
  xs : List AV
  ck : AH → Bool
abbrev IM := AE → AH → Out Src
structure Wk (Γ : Gm) (J : It) (ρ : Nat → Addr) (A : AH) (H : Hp) (S : Src) : Prop where
  go : ∀ h ρ' A' H', ExtH Γ h ρ A H ρ' A' H' → Rel (Γ.hd h) ρ' A' H' → S.ck A' = true → ∀ i, (i < S.xs.length → J.go i H') ∧ (S.xs.length ≤ i → J.stop i H')
  yld : ∀ h ρ' A' H', ExtH Γ h ρ A H ρ' A' H' → Rel (Γ.hd h) ρ' A' H' → S.ck A' = true → ∀ i v u H'', S.xs[i]? = some v → J.yld i H' u H'' → Ext (Γ.hd h) ρ' A' H' ρ' A' H'' ∧ Rel (Γ.hd h) ρ' A' H'' ∧ VR (Γ.hd h) ρ' A' H'' v u
def wpI (Γ : Gm) (W : WX) (m : IM) : TI := fun σ H R => ∃ ρ A τ, At Γ ρ A τ σ H ∧ (match m τ A with
  | .ok S A1 => ∀ ρ1 H1, Ext Γ ρ A H ρ1 A1 H1 → Rel Γ ρ1 A1 H1 → ∀ J, Wk Γ J ρ1 A1 H1 S → R J H1
  | .exc c fs A1 => ∀ ρ1 H1 cls d, Ext Γ ρ A H ρ1 A1 H1 → Rel Γ ρ1 A1 H1 → XR Γ ρ1 A1 H1 c fs cls d → W cls d σ H1
  | .stuck => False)
abbrev DI (X : Cx) (Γ : Gm) (W : WX) (tg iter : Expr) (m : IM) : Prop := PI X tg iter (wpI Γ W m)
theorem _root_.L2.PI.imp {X : Cx} {tg e : Expr} {t t' : TI} (h : PI X tg e t) (i : ∀ σ H R, t' σ H R → t σ H R) : PI X tg e t' := ⟨fun pins s σ H R I q => h.run pins s σ H R I (i σ H R q)⟩
theorem wpI.step {Γ : Gm} {W : WX} {α β : Type} {RR : Gm → (Nat → Addr) → AH → Hp → α → β → Prop} {m : AE → AH → Out α} {k : α → AH → Out Src} {σ : List (Option V)} {H : Hp} {R : It → Hp → Prop} {Q1 : β → Hp → Prop}
    (h : wpI Γ W (fun τ A => (m τ A).bind k) σ H R)
    (hk : ∀ v A1 ρ1 H1 u S, Rel Γ ρ1 A1 H1 → RR Γ ρ1 A1 H1 v u → k v A1 = .ok S A1 → (∀ J, Wk Γ J ρ1 A1 H1 S → R J H1) → Q1 u H1) (hp : ∀ v A, (∃ S, k v A = .ok S A) ∨ k v A = .stuck) : wpG RR Γ W m σ H Q1 := by
  obtain ⟨ρ, A, τ, a, h⟩ := h
  refine ⟨ρ, A, τ, a, ?_⟩
  dsimp only at h
  cases e : m τ A with
  | stuck => rw [e] at h; exact h
  | exc c fs A1 => rw [e] at h; exact h
  | ok v A1 =>
    rw [e] at h
    intro ρ1 H1 u x R1 r
    simp only [Out.bind] at h
    rcases hp v A1 with ⟨S, es⟩ | es
    · rw [es] at h
      exact hk v A1 ρ1 H1 u S R1 r es fun J w => h ρ1 H1 x R1 J w
    · rw [es] at h; exact h.elim
def always : AH → Bool := fun _ => true
def srcS (v : AV) (A : AH) : Option Src := match v with
  | .lst xs => some ⟨xs, always⟩
  | .tup xs => some ⟨xs, always⟩
  | .rol xs => some ⟨xs, always⟩
  | .ref i => (match A[i]? with
    | some (.lst xs) => some ⟨xs, fun A' => match A'[i]? with
      | some (.lst ys) => beqVs ys xs
      | _ => false⟩
    | _ => none)
  | _ => none
def isL (v : AV) : Bool := match v with
  | .tup _ => false
  | _ => true
section
variable {Γ : Gm} {ρ : Nat → Addr} {A : AH} {H : Hp}
theorem srcL_ok {v : AV} {u : V} {S : Src} (R : Rel Γ ρ A H) (l : isL v = true) (e : srcS v A = some S) (r : VR Γ ρ A H v u) :
    ∃ a us, u = .ref a ∧ SqL Γ.K H a us ∧ VRs Γ ρ A H S.xs us ∧ ∀ h ρ' A' H', ExtH Γ h ρ A H ρ' A' H' → Rel (Γ.hd h) ρ' A' H' → S.ck A' = true → ∃ us, SqL Γ.K H' a us ∧ VRs (Γ.hd h) ρ' A' H' S.xs us := by
  cases v with
  | lst xs =>
    obtain ⟨a, us, e1, n, e2, r2⟩ := r
    cases e
    exact ⟨a, us, e1, SqL.of e2, r2, fun h ρ' A' H' x R' _ => ⟨us, SqL.of (x.un a _ rfl e2 n).1, VRs.extH x xs r2⟩⟩
  | tup xs => cases l
  | rol xs =>
    obtain ⟨a, us, e1, e2, r2⟩ := r
    cases e
    have to : ∀ {H : Hp}, SqL Γ.K (fun _ => none) a us → SqL Γ.K H a us := fun {H} e2 => by
      rcases e2 with (e2 | ⟨_, e2⟩) | e2
      · cases e2
      · cases e2
      · exact .inr e2
    refine ⟨a, us, e1, e2.elim (fun z => .inl z.2) to, r2, fun h ρ' A' H' x R' _ => ⟨us, ?_, VRs.extH x xs r2⟩⟩
    rcases e2 with ⟨n, q | ⟨o, q⟩⟩ | e2
    · exact .inl (.inl (x.un a _ rfl q n).1)
    · exact .inl (.inr ⟨o, (x.un a _ rfl q n).1⟩)
    · exact to e2
  | ref i =>
    obtain ⟨l, e1⟩ := r
    unfold srcS at e
    simp only at e
    split at e
    · rename_i xs ex
      cases e
      obtain ⟨us, h1, r1⟩ := R.obj i _ ex
      refine ⟨ρ i, us, e1, SqL.of h1, r1, fun h ρ' A' H' x R' ck => ?_⟩
      simp only at ck
      split at ck
      · rename_i ys ey
        have := beqVs_eq ck
        subst this
        obtain ⟨us', h2, r2⟩ := R'.obj i _ ey
        rw [x.ag i l] at h2
        exact ⟨us', SqL.of h2, r2⟩
      · cases ck
    · cases e
  | _ => cases e
theorem wk_list {a : Addr} {S : Src} (k : ∀ h ρ' A' H', ExtH Γ h ρ A H ρ' A' H' → Rel (Γ.hd h) ρ' A' H' → S.ck A' = true → ∃ us, SqL Γ.K H' a us ∧ VRs (Γ.hd h) ρ' A' H' S.xs us) : Wk Γ (Itl Γ.K a) ρ A H S where
  go := fun h ρ' A' H' x R ck i => by
    obtain ⟨us, s, r⟩ := k h ρ' A' H' x R ck
    refine ⟨fun hi => ?_, fun hi => ⟨us, s, by rw [r.length]; exact hi⟩⟩
    obtain ⟨u, e, _⟩ := r.get (List.getElem?_eq_getElem hi)
    exact ⟨us, u, s, e⟩
  yld := fun h ρ' A' H' x R ck i v u H'' e y => by
    obtain ⟨us, s, r⟩ := k h ρ' A' H' x R ck
    obtain ⟨rfl, y⟩ := y
    obtain ⟨w, e1, rw'⟩ := r.get e
    have := y us s
    rw [e1] at this
    cases this
    exact ⟨Ext.refl, R, rw'⟩
theorem wk_tup {a : Addr} {S : Src} (k : ∀ h ρ' A' H', ExtH Γ h ρ A H ρ' A' H' → Rel (Γ.hd h) ρ' A' H' → S.ck A' = true → ∃ us, SqT Γ.K H' a us ∧ VRs (Γ.hd h) ρ' A' H' S.xs us) : Wk Γ (Itt Γ.K a) ρ A H S where
  go := fun h ρ' A' H' x R ck i => by
    obtain ⟨us, s, r⟩ := k h ρ' A' H' x R ck
    refine ⟨fun hi => ?_, fun hi => ⟨us, s, by rw [r.length]; exact hi⟩⟩
    obtain ⟨u, e, _⟩ := r.get (List.getElem?_eq_getElem hi)
    exact ⟨us, u, s, e⟩
  yld := fun h ρ' A' H' x R ck i v u H'' e y => by
    obtain ⟨us, s, r⟩ := k h ρ' A' H' x R ck
    obtain ⟨rfl, y⟩ := y
    obtain ⟨w, e1, rw'⟩ := r.get e
    have := y us s
    rw [e1] at this
    cases this
    exact ⟨Ext.refl, R, rw'⟩
def intsFrom (lo : Int) : Nat → List AV
  | 0 => []
  | n + 1 => .int lo :: intsFrom (lo + 1) n
theorem intsFrom_length : ∀ {n : Nat} {lo : Int}, (intsFrom lo n).length = n
  | 0, _ => rfl
  | n + 1, _ => by unfold intsFrom; rw [List.length_cons, intsFrom_length]
theorem intsFrom_get : ∀ {n i : Nat} {lo : Int}, i < n → (intsFrom lo n)[i]? = some (.int (lo + i))
  | n + 1, 0, lo, _ => by simp [intsFrom]
  | n + 1, i + 1, lo, h => by
    unfold intsFrom
    rw [List.getElem?_cons_succ, intsFrom_get (Nat.lt_of_succ_lt_succ h)]
    congr 2
    omega
theorem wk_range {lo : Int} {n : Nat} : Wk Γ (Itr lo n) ρ A H ⟨intsFrom lo n, always⟩ where
  go := fun h ρ' A' H' x R ck i => ⟨fun hi => by rw [intsFrom_length] at hi; exact hi, fun hi => by rw [intsFrom_length] at hi; exact hi⟩
  yld := fun h ρ' A' H' x R ck i v u H'' e y => by
    obtain ⟨rfl, rfl⟩ := y
    have hi : i < n := by
      have := (List.getElem?_eq_some_iff.mp e).1
      rwa [intsFrom_length] at this
    rw [intsFrom_get hi] at e
    cases e
    exact ⟨Ext.refl, R, rfl⟩
theorem wk_str {z : List Nat} : Wk Γ (Its ⟨z.toArray⟩) ρ A H ⟨z.map fun c => .str [c], always⟩ where
  go := fun h ρ' A' H' x R ck i => ⟨fun hi => by simpa [Its] using hi, fun hi => by simpa [Its] using hi⟩
  yld := fun h ρ' A' H' x R ck i v u H'' e y => by
    obtain ⟨rfl, c, hc, rfl⟩ := y
    rw [List.getElem?_map] at e
    have hc' : z[i]? = some c := by simpa using hc
    rw [hc'] at e
    cases e
    exact ⟨Ext.refl, R, rfl⟩
def kA : AK → AV
  | .inl i => .int i
  | .inr x => .str x
theorem kA_ok {k : AK} : VR Γ ρ A H (kA k) (kV (kK k)) := by cases k <;> rfl
theorem KRs.get : ∀ {kvs : List (AK × AV)} {kus : List (Key × V)} {i : Nat} {k : AK} {v : AV}, KRs Γ ρ A H kvs kus → kvs[i]? = some (k, v) → ∃ u, kus[i]? = some (kK k, u) ∧ VR Γ ρ A H v u
  | [], _, _, _, _, _, e => by simp at e
  | _ :: _, _, 0, _, _, ⟨u, r, e, h, t⟩, e1 => by simp at e1; cases e1; exact ⟨u, by rw [e]; rfl, h⟩
  | _ :: _, _, i + 1, k, v, ⟨u, r, e, h, t⟩, e1 => by
    obtain ⟨w, h1, h2⟩ := KRs.get (i := i) (k := k) (v := v) t (by simpa using e1)
    exact ⟨w, by rw [e]; simpa using h1, h2⟩
theorem wk_keys {a : Addr} {o : Obj} {kvs : List (AK × AV)} {kus : List (Key × V)} (hd : H a = some (.frz o (.dK kus))) (n : ¬ Tr Γ ρ A a) (r : KRs Γ ρ A H kvs kus) : Wk Γ (Itk a o kus) ρ A H ⟨kvs.map fun kv => kA kv.1, always⟩ where
  go := fun h ρ' A' H' x R ck i => by
    have z := (x.un a _ rfl hd n).1
    refine ⟨fun hi => ⟨z, ?_⟩, fun hi => ⟨z, ?_⟩⟩
    · rw [List.length_map] at hi; rw [r.length]; exact hi
    · rw [List.length_map] at hi; rw [r.length]; exact hi
  yld := fun h ρ' A' H' x R ck i v u H'' e y => by
    obtain ⟨rfl, k, w, hk, rfl⟩ := y
    rw [List.getElem?_map] at e
    cases ek : kvs[i]? with
    | none => rw [ek] at e; cases e
    | some kv =>
      obtain ⟨k0, v0⟩ := kv
      rw [ek] at e
      cases e
      obtain ⟨u0, e0, _⟩ := r.get ek
      rw [e0] at hk
      cases hk
      exact ⟨Ext.refl, R, kA_ok⟩
theorem wk_items {a : Addr} {o : Obj} {kvs : List (AK × AV)} {kus : List (Key × V)} (hd : H a = some (.frz o (.dK kus))) (n : ¬ Tr Γ ρ A a) (r : KRs Γ ρ A H kvs kus) : Wk Γ (Iti a o kus) ρ A H ⟨kvs.map fun kv => .tup [kA kv.1, kv.2], always⟩ where
  go := fun h ρ' A' H' x R ck i => by
    have z := (x.un a _ rfl hd n).1
    refine ⟨fun hi => ⟨z, ?_⟩, fun hi => ⟨z, ?_⟩⟩
    · rw [List.length_map] at hi; rw [r.length]; exact hi
    · rw [List.length_map] at hi; rw [r.length]; exact hi
  yld := fun h ρ' A' H' x R ck i v u H'' e y => by
    obtain ⟨T, k, w, hk, rfl, hT, rfl⟩ := y
    rw [List.getElem?_map] at e
    cases ek : kvs[i]? with
    | none => rw [ek] at e; cases e
    | some kv =>
      obtain ⟨k0, v0⟩ := kv
      rw [ek] at e
      cases e
      obtain ⟨u0, e0, r0⟩ := r.get ek
      rw [e0] at hk
      cases hk
      have xf : Ext (Γ.hd h) ρ' A' H' ρ' A' (upd H' T (.tup [kV (kK k0), w])) := Ext.fresh R hT
      exact ⟨xf, R.fresh hT, ⟨T, _, rfl, .inl (.inl upd_same), _, _, rfl, kA_ok, _, _, rfl, VR.ext xf _ (VR.extH x _ r0), rfl⟩⟩
def numd : Nat → List AV → List AV
  | _, [] => []
  | i, x :: xs => .tup [.int i, x] :: numd (i + 1) xs
theorem numd_length : ∀ {xs : List AV} {i : Nat}, (numd i xs).length = xs.length
  | [], _ => rfl
  | x :: xs, i => by unfold numd; rw [List.length_cons, List.length_cons, numd_length]
theorem numd_get : ∀ {xs : List AV} {i j : Nat}, (numd i xs)[j]? = xs[j]?.map fun x => .tup [.int ((i + j : Nat) : Int), x]
  | [], _, _ => by simp [numd]
  | x :: xs, i, 0 => by simp [numd]
  | x :: xs, i, j + 1 => by
    unfold numd
    rw [List.getElem?_cons_succ, List.getElem?_cons_succ, numd_get]
    congr 1
    funext y
    rw [show i + 1 + j = i + (j + 1) by omega]
theorem wk_enum {a : Addr} {S : Src} (k : ∀ h ρ' A' H', ExtH Γ h ρ A H ρ' A' H' → Rel (Γ.hd h) ρ' A' H' → S.ck A' = true → ∃ us, SqL Γ.K H' a us ∧ VRs (Γ.hd h) ρ' A' H' S.xs us) : Wk Γ (Ite Γ.K a) ρ A H ⟨numd 0 S.xs, S.ck⟩ where
  go := fun h ρ' A' H' x R ck i => by
    obtain ⟨us, s, r⟩ := k h ρ' A' H' x R ck
    refine ⟨fun hi => ?_, fun hi => ⟨us, s, by rw [r.length]; rw [numd_length] at hi; exact hi⟩⟩
    rw [numd_length] at hi
    obtain ⟨u, e, _⟩ := r.get (List.getElem?_eq_getElem hi)
    exact ⟨us, u, s, e⟩
  yld := fun h ρ' A' H' x R ck i v u H'' e y => by
    obtain ⟨us, s, r⟩ := k h ρ' A' H' x R ck
    obtain ⟨T, w, rfl, hT, rfl, y⟩ := y
    rw [numd_get] at e
    cases ex : S.xs[i]? with
    | none => rw [ex] at e; cases e
    | some x0 =>
      rw [ex] at e
      cases e
      obtain ⟨w', e1, rw'⟩ := r.get ex
      have := y us s
      rw [e1] at this
      cases this
      have xf : Ext (Γ.hd h) ρ' A' H' ρ' A' (upd H' T (.tup [.int (i : Nat), w])) := Ext.fresh R hT
      refine ⟨xf, R.fresh hT, ⟨T, _, rfl, .inl (.inl upd_same), _, _, rfl, ?_, _, _, rfl, VR.ext xf _ rw', rfl⟩⟩
      show V.int _ = V.int _
      rw [Nat.zero_add]
def pairs : List AV → List AV → List AV
  | x :: xs, y :: ys => .tup [x, y] :: pairs xs ys
  | _, _ => []
theorem pairs_length : ∀ {xs ys : List AV}, (pairs xs ys).length = min xs.length ys.length
  | [], _ => by simp [pairs]
  | _ :: _, [] => by simp [pairs]
  | x :: xs, y :: ys => by unfold pairs; rw [List.length_cons, List.length_cons, List.length_cons, pairs_length]; omega
theorem pairs_get : ∀ {xs ys : List AV} {i : Nat} {v : AV}, (pairs xs ys)[i]? = some v → ∃ x y, xs[i]? = some x ∧ ys[i]? = some y ∧ v = .tup [x, y]
  | [], _, _, _, e => by simp [pairs] at e
  | _ :: _, [], _, _, e => by simp [pairs] at e
  | x :: xs, y :: ys, 0, v, e => by simp [pairs] at e; exact ⟨x, y, rfl, rfl, e.symm⟩
  | x :: xs, y :: ys, i + 1, v, e => by
    unfold pairs at e
    rw [List.getElem?_cons_succ] at e
    obtain ⟨x', y', h1, h2, h3⟩ := pairs_get e
    exact ⟨x', y', by simpa using h1, by simpa using h2, h3⟩
theorem wk_zip {a b : Addr} {S T : Src} (k : ∀ h ρ' A' H', ExtH Γ h ρ A H ρ' A' H' → Rel (Γ.hd h) ρ' A' H' → S.ck A' = true → ∃ us, SqL Γ.K H' a us ∧ VRs (Γ.hd h) ρ' A' H' S.xs us)
    (l : ∀ h ρ' A' H', ExtH Γ h ρ A H ρ' A' H' → Rel (Γ.hd h) ρ' A' H' → T.ck A' = true → ∃ us, SqL Γ.K H' b us ∧ VRs (Γ.hd h) ρ' A' H' T.xs us) : Wk Γ (Itz Γ.K a b) ρ A H ⟨pairs S.xs T.xs, fun A' => S.ck A' && T.ck A'⟩ where
  go := fun h ρ' A' H' x R ck i => by
    obtain ⟨c1, c2⟩ := Bool.and_eq_true_iff.mp ck
    obtain ⟨us, s, r⟩ := k h ρ' A' H' x R c1
    obtain ⟨ws, s2, r2⟩ := l h ρ' A' H' x R c2
    simp only [pairs_length]
    refine ⟨fun hi => ?_, fun hi => ⟨us, ws, s, s2, by rw [r.length, r2.length]; omega⟩⟩
    obtain ⟨u, e, _⟩ := r.get (List.getElem?_eq_getElem (show i < S.xs.length by omega))
    obtain ⟨w, e2, _⟩ := r2.get (List.getElem?_eq_getElem (show i < T.xs.length by omega))
    exact ⟨us, ws, u, w, s, s2, e, e2⟩
  yld := fun h ρ' A' H' x R ck i v u H'' e y => by
    obtain ⟨c1, c2⟩ := Bool.and_eq_true_iff.mp ck
    obtain ⟨us, s, r⟩ := k h ρ' A' H' x R c1
    obtain ⟨ws, s2, r2⟩ := l h ρ' A' H' x R c2
    obtain ⟨P, z1, z2, rfl, hT, rfl, y1, y2⟩ := y
    obtain ⟨x0, y0, ex, ey, rfl⟩ := pairs_get e
    obtain ⟨w1, e1, q1⟩ := r.get ex
    obtain ⟨w2, e2, q2⟩ := r2.get ey
    have := y1 us s
    rw [e1] at this
    cases this
    have := y2 ws s2
    rw [e2] at this
    cases this
    have xf : Ext (Γ.hd h) ρ' A' H' ρ' A' (upd H' P (.tup [z1, z2])) := Ext.fresh R hT
    exact ⟨xf, R.fresh hT, ⟨P, _, rfl, .inl (.inl upd_same), _, _, rfl, VR.ext xf _ q1, _, _, rfl, VR.ext xf _ q2, rfl⟩⟩
end
def iAny (m : EM) : IM := fun τ A => (m τ A).bind fun v A1 => match srcS v A1, v with
  | some S, _ => .ok S A1
  | none, .dct kvs => .ok ⟨kvs.map fun kv => kA kv.1, always⟩ A1
  | none, .str z => .ok ⟨z.map fun c => .str [c], always⟩ A1
  | none, _ => .stuck
def iItm (m : EM) : IM := fun τ A => (m τ A).bind fun v A1 => match v with
  | .dct kvs => .ok ⟨kvs.map fun kv => .tup [kA kv.1, kv.2], always⟩ A1
  | _ => .stuck
def fitI (i : Int) : Bool := decide (-(2 ^ 62) ≤ i) && decide (i < 2 ^ 62)
def iRg1 (m : AM) : IM := fun τ A => (m τ A).bind fun vs A1 => match vs with
  | [.int j] => if fitI j = true then .ok ⟨intsFrom 0 j.toNat, always⟩ A1 else .stuck
  | _ => .stuck
def iRg2 (m : AM) : IM := fun τ A => (m τ A).bind fun vs A1 => match vs with
  | [.int i, .int j] => if (fitI i && fitI j) = true then .ok ⟨intsFrom i (j - i).toNat, always⟩ A1 else .stuck
  | _ => .stuck
def iEnu (m : AM) : IM := fun τ A => (m τ A).bind fun vs A1 => match vs with
  | [v] => (match isL v, srcS v A1 with
    | true, some S => .ok ⟨numd 0 S.xs, S.ck⟩ A1
    | _, _ => .stuck)
  | _ => .stuck
def iZp (m : AM) : IM := fun τ A => (m τ A).bind fun vs A1 => match vs with
  | [v, w] => (match isL v && isL w, srcS v A1, srcS w A1 with
    | true, some S, some T => .ok ⟨pairs S.xs T.xs, fun A' => S.ck A' && T.ck A'⟩ A1
    | _, _, _ => .stuck)
  | _ => .stuck
section
variable {X : Cx} {Γ : Gm} {W : WX} {tg e : Expr} {m : EM} {ma : AM} {pos p apos cpos : Pos} {es : List Expr}
theorem _root_.L2.PI.or {X : Cx} {tg e : Expr} {t t' : TI} (h : PI X tg e t) (h' : PI X tg e t') : PI X tg e (fun σ H R => t σ H R ∨ t' σ H R) := ⟨fun pins s σ H R I q => q.elim (fun q => h.run pins s σ H R I q) fun q => h'.run pins s σ H R I q⟩
theorem di_any (hK : X.K = Γ.K) (h : DE X Γ W e m) : DI X Γ W tg e (iAny m) :=
  (((pi_list h).or (pi_tup h)).or ((pi_keys h).or (pi_str h))).imp fun σ H R q => by
    obtain ⟨ρ, A, τ, a, q⟩ := q
    unfold iAny at q
    cases em : m τ A with
    | stuck => rw [em] at q; exact q.elim
    | exc c fs A1 => rw [em] at q; exact .inl (.inl ⟨ρ, A, τ, a, by rw [em]; exact q⟩)
    | ok v A1 =>
      rw [em] at q
      simp only [Out.bind] at q
      cases es : srcS v A1 with
      | some S =>
        rw [es] at q
        simp only at q
        by_cases ht : ∃ xs, v = .tup xs
        · obtain ⟨xs, rfl⟩ := ht
          refine .inl (.inr ⟨ρ, A, τ, a, ?_⟩)
          rw [em]
          intro ρ1 H1 u x1 R1 r1
          cases es
          obtain ⟨b, us, rfl, hb, rb⟩ := r1
          refine ⟨b, rfl, ⟨us, by rw [hK]; exact hb⟩, ?_⟩
          rw [hK]
          exact q ρ1 H1 x1 R1 _ (wk_tup fun h ρ' A' H' y R' _ => ⟨us, y.tp b us hb, VRs.extH y xs rb⟩)
        · refine .inl (.inl ⟨ρ, A, τ, a, ?_⟩)
          rw [em]
          intro ρ1 H1 u x1 R1 r1
          have l : isL v = true := by cases v <;> first | rfl | exact absurd ⟨_, rfl⟩ ht
          obtain ⟨b, us, rfl, hb, rb, k⟩ := srcL_ok R1 l es r1
          refine ⟨b, rfl, ⟨us, by rw [hK]; exact hb⟩, ?_⟩
          rw [hK]
          exact q ρ1 H1 x1 R1 _ (wk_list k)
      | none =>
        rw [es] at q
        cases v with
        | dct kvs =>
          refine .inr (.inl ⟨ρ, A, τ, a, ?_⟩)
          rw [em]
          intro ρ1 H1 u x1 R1 r1
          obtain ⟨b, o, kus, rfl, n, hb, rb⟩ := r1
          exact ⟨b, o, rfl, .inl ⟨kus, hb, q ρ1 H1 x1 R1 _ (wk_keys hb n rb)⟩⟩
        | str z =>
          refine .inr (.inr ⟨ρ, A, τ, a, ?_⟩)
          rw [em]
          intro ρ1 H1 u x1 R1 r1
          exact ⟨_, r1, q ρ1 H1 x1 R1 _ wk_str⟩
        | _ => exact q.elim
theorem di_items {elts : List Expr} {kk : Nat} {tpos : Pos} (h : DE X Γ W e m) (hbase : attributeBase e "items" X.env (eval e X.env) = eval e X.env := by rfl) (hline : (apos.endLine == cpos.line) = true := by rfl) :
    DI X Γ W (.Tuple elts kk tpos) (.Call (.Attribute e "items" apos) [] [] cpos) (iItm m) :=
  (pi_items h hbase hline).imp fun σ H R q => wpI.step (RR := VR) q (fun v A1 ρ1 H1 u S R1 r1 es k => by
    cases v <;> try cases es
    obtain ⟨b, o, kus, rfl, n, hb, rb⟩ := r1
    exact ⟨b, o, kus, rfl, hb, k _ (wk_items hb n rb)⟩) (fun v A => by cases v <;> first | exact .inr rfl | exact .inl ⟨_, rfl⟩)
theorem fitI_ok {i : Int} (h : fitI i = true) : -(2 ^ 62) ≤ i ∧ i < 2 ^ 62 := by
  obtain ⟨h1, h2⟩ := Bool.and_eq_true_iff.mp h
  exact ⟨of_decide_eq_true h1, of_decide_eq_true h2⟩
theorem di_range1 {a : Expr} (hg : Gl X "range") (hm : X.mg "range" = none) (ha : DA X Γ W [a] ma) (hs : starEach [a] X.env = [(false, eval a X.env)] := by rfl) : DI X Γ W tg (.Call (.Name "range" p) [a] [] pos) (iRg1 ma) :=
  (pi_range1 hg hm ha hs).imp fun σ H R q => wpI.step (RR := VRs) q (fun vs A1 ρ1 H1 us S R1 r1 es k => by
    split at es
    · rename_i j
      split at es
      · rename_i hf
        cases es
        obtain ⟨u, r, rfl, h1, rfl⟩ := r1
        have e1 : u = .int j := h1
        subst e1
        obtain ⟨f1, f2⟩ := fitI_ok hf
        exact ⟨j, rfl, f1, f2, k _ wk_range⟩
      · cases es
    · cases es) (fun vs A => by split <;> first | exact .inr rfl | (split <;> first | exact .inr rfl | exact .inl ⟨_, rfl⟩))
theorem di_range2 {a b : Expr} (hg : Gl X "range") (hm : X.mg "range" = none) (ha : DA X Γ W [a, b] ma) (hs : starEach [a, b] X.env = [(false, eval a X.env), (false, eval b X.env)] := by rfl) (hs2 : starEach [b] X.env = [(false, eval b X.env)] := by rfl) : DI X Γ W tg (.Call (.Name "range" p) [a, b] [] pos) (iRg2 ma) :=
  (pi_range2 hg hm ha hs hs2).imp fun σ H R q => wpI.step (RR := VRs) q (fun vs A1 ρ1 H1 us S R1 r1 es k => by
    split at es
    · rename_i i j
      split at es
      · rename_i hf
        cases es
        obtain ⟨u, r, rfl, h1, w, r', rfl, h2, rfl⟩ := r1
        have e1 : u = .int i := h1
        have e2 : w = .int j := h2
        subst e1 e2
        obtain ⟨f1, f2⟩ := Bool.and_eq_true_iff.mp hf
        exact ⟨i, j, rfl, ⟨(fitI_ok f1).1, (fitI_ok f1).2, (fitI_ok f2).1, (fitI_ok f2).2⟩, k _ wk_range⟩
      · cases es
    · cases es) (fun vs A => by split <;> first | exact .inr rfl | (split <;> first | exact .inr rfl | exact .inl ⟨_, rfl⟩))
theorem di_enum {a : Expr} {elts : List Expr} {kk : Nat} {tpos : Pos} (hK : X.K = Γ.K) (hg : Gl X "enumerate") (hm : X.mg "enumerate" = none) (ha : DA X Γ W [a] ma) (hs : starEach [a] X.env = [(false, eval a X.env)] := by rfl) : DI X Γ W (.Tuple elts kk tpos) (.Call (.Name "enumerate" p) [a] [] pos) (iEnu ma) :=
  (pi_enum hg hm ha hs).imp fun σ H R q => wpI.step (RR := VRs) q (fun vs A1 ρ1 H1 us S R1 r1 es k => by
    split at es
    · rename_i v
      split at es
      · rename_i S0 el e0
        cases es
        obtain ⟨u, r, rfl, h1, rfl⟩ := r1
        obtain ⟨b, us, rfl, hb, rb, kk⟩ := srcL_ok R1 el e0 h1
        refine ⟨b, us, rfl, by rw [hK]; exact hb, ?_⟩
        rw [hK]
        exact k _ (wk_enum kk)
      · cases es
    · cases es) (fun vs A => by split <;> first | exact .inr rfl | (split <;> first | exact .inr rfl | exact .inl ⟨_, rfl⟩))
theorem di_zip {a b : Expr} {elts : List Expr} {kk : Nat} {tpos : Pos} (hK : X.K = Γ.K) (hg : Gl X "zip") (hm : X.mg "zip" = none) (ha : DA X Γ W [a, b] ma) (hs : starEach [a, b] X.env = (false, eval a X.env) :: starEach [b] X.env := by rfl) (hs2 : (backTo pos (starEach [b] X.env)).any (·.1) = false := by rfl) : DI X Γ W (.Tuple elts kk tpos) (.Call (.Name "zip" p) [a, b] [] pos) (iZp ma) :=
  (pi_zip hg hm ha hs hs2).imp fun σ H R q => wpI.step (RR := VRs) q (fun vs A1 ρ1 H1 us S R1 r1 es k => by
    split at es
    · rename_i v w
      split at es
      · rename_i S0 T0 el e0 e1
        cases es
        obtain ⟨l1, l2⟩ := Bool.and_eq_true_iff.mp el
        obtain ⟨u, r, rfl, h1, z, r', rfl, h2, rfl⟩ := r1
        obtain ⟨b1, us1, rfl, hb1, rb1, kk1⟩ := srcL_ok R1 l1 e0 h1
        obtain ⟨b2, us2, rfl, hb2, rb2, kk2⟩ := srcL_ok R1 l2 e1 h2
        refine ⟨b1, b2, us1, us2, rfl, by rw [hK]; exact hb1, by rw [hK]; exact hb2, ?_⟩
        rw [hK]
        exact k _ (wk_zip kk1 kk2)
      · cases es
    · cases es) (fun vs A => by split <;> first | exact .inr rfl | (split <;> first | exact .inr rfl | exact .inl ⟨_, rfl⟩))
end
end Mw
set_option Elab.async false
set_option linter.all false
set_option maxRecDepth 100000
set_option maxHeartbeats 2000000
namespace Mw
open PySem PySem.Spec PyProof.Rows L2
def forGo (ck : AH → Bool) (g : GM) (b : SM) : List AV → SM
  | [], τ, A => if ck A = true then .nx τ A else .stuck
  | x :: xs, τ, A => if ck A = true then (match g x τ A with
    | some (τ1, A1) => (match b τ1 A1 with
      | .nx τ2 A2 => forGo ck g b xs τ2 A2
      | .ct τ2 A2 => forGo ck g b xs τ2 A2
      | .bk τ2 A2 => .nx τ2 A2
      | r => r)
    | none => .stuck) else .stuck
def sFor (i : IM) (g : GM) (b : SM) : SM := lift i fun S τ A => forGo S.ck g b S.xs τ A
section
variable {X : Cx} {Γ : Gm} {W : WX} {tg e : Expr} {i : IM} {g : GM} {b : SM} {pos : Pos} {body : List Stmt}
theorem for_ok {J : It} {S : Src} {ρ0 ρ1 : Nat → Addr} {A0 A1 : AH} {τ : AE} {σ : List (Option V)} {H0 H1 : Hp} {D : Ends} (x0 : Ext Γ ρ0 A0 H0 ρ1 A1 H1) (a1 : At Γ ρ1 A1 τ σ H1) (w : Wk Γ J ρ1 A1 H1 S) (h : PostS Γ W ρ0 A0 H0 D (forGo S.ck g b S.xs τ A1)) :
    ∃ Wv : Nat → Nat → List (Option V) → Hp → Prop, (∃ m, Wv 0 m σ H1) ∧ ∀ i m σ H, Wv i m σ H →
      (J.stop i H ∧ D.nx σ H) ∨ (J.go i H ∧ ∃ N : List (Option V) → Hp → Prop, (∀ σ' H', N σ' H' → ∃ m', m' < m ∧ Wv (i + 1) m' σ' H') ∧ ∀ x H', J.yld i H x H' → wpGt Γ g x σ H' fun σ2 H2 => wpS Γ W b { D with nx := N, ct := N, bk := D.nx } σ2 H2) := by
  refine ⟨fun i m σ H => m = S.xs.length - i ∧ i ≤ S.xs.length ∧ ∃ ρ A τ, Ext Γ ρ1 A1 H1 ρ A H ∧ At Γ ρ A τ σ H ∧ PostS Γ W ρ A H D (forGo S.ck g b (S.xs.drop i) τ A), ⟨S.xs.length, by simp, Nat.zero_le _, ρ1, A1, τ, Ext.refl, a1, PostS.mono x0 h⟩, ?_⟩
  rintro i m σ H ⟨rfl, hi, ρ, A, τ, x, a, h⟩
  by_cases hl : i < S.xs.length
  · have ed : S.xs.drop i = S.xs[i] :: S.xs.drop (i + 1) := List.drop_eq_getElem_cons hl
    rw [ed] at h
    unfold forGo at h
    split at h
    · rename_i ck
      refine .inr ⟨(w.go [] ρ A H (ExtH.of x) a.rel ck i).1 hl, fun σ' H' => i + 1 ≤ S.xs.length ∧ ∃ ρ A τ, Ext Γ ρ1 A1 H1 ρ A H' ∧ At Γ ρ A τ σ' H' ∧ PostS Γ W ρ A H' D (forGo S.ck g b (S.xs.drop (i + 1)) τ A), fun σ' H' ⟨l, p⟩ => ⟨S.xs.length - (i + 1), by omega, rfl, l, p⟩, fun u H' y => ?_⟩
      obtain ⟨xy, Ry, ry⟩ := w.yld [] ρ A H (ExtH.of x) a.rel ck i _ u H' (List.getElem?_eq_getElem hl) y
      split at h
      · rename_i τ2 A2 eg
        refine ⟨ρ, A, τ, _, a.to xy Ry, ry, τ2, A2, eg, fun ρ3 H3 σ3 x3 a3 => ⟨ρ3, A2, τ2, a3, ?_⟩⟩
        have xx := x.trans (Ext.trans xy x3)
        have h3 := PostS.mono (Ext.trans xy x3) h
        cases eb : b τ2 A2 with
        | nx τ4 A4 => rw [eb] at h3; exact fun ρ4 H4 σ4 x4 R4 r4 => ⟨hl, ρ4, A4, τ4, xx.trans x4, ⟨R4, r4⟩, PostS.mono x4 h3⟩
        | ct τ4 A4 => rw [eb] at h3; exact fun ρ4 H4 σ4 x4 R4 r4 => ⟨hl, ρ4, A4, τ4, xx.trans x4, ⟨R4, r4⟩, PostS.mono x4 h3⟩
        | bk τ4 A4 => rw [eb] at h3; exact h3
        | rt v A4 => rw [eb] at h3; exact h3
        | exc c fs τ4 A4 => rw [eb] at h3; exact h3
        | stuck => rw [eb] at h3; exact h3
      · exact h.elim
    · exact h.elim
  · have e : i = S.xs.length := by omega
    subst e
    rw [List.drop_length] at h
    unfold forGo at h
    split at h
    · rename_i ck
      exact .inl ⟨(w.go [] ρ A H (ExtH.of x) a.rel ck _).2 (Nat.le_refl _), posts_nx a h⟩
    · exact h.elim
theorem ds_for (hp : PassesOwn (model X.prog X.w) X.A X.env X.xe) (hc : X.calm = true) (hi : DI X Γ W tg e i) (hg : DG X Γ tg g) (hb : DSs X Γ W body b)
    (hs : ∀ x, foldedSetIterable e X.env x = pure x := by intro _; rfl) : DS X Γ W (.For tg e body [] pos) (sFor i g b) :=
  (ps_for hp hc hi hg hb hs).imp fun D σ H ⟨ρ, A, τ, a, h⟩ => by
    refine ⟨ρ, A, τ, a, ?_⟩
    unfold sFor lift at h
    cases ei : i τ A with
    | ok S A1 =>
      rw [ei] at h
      exact fun ρ1 H1 x R J w => for_ok x (a.to x R) w h
    | exc c fs A1 =>
      rw [ei] at h
      exact fun ρ1 H1 cls d x R r => h ρ1 H1 σ cls d x R (a.er.ext x) r
    | stuck => rw [ei] at h; exact h
end
def wipeA (τ : AE) : List Nat → AE
  | [] => τ
  | v :: vs => (wipeA τ vs).set v none
def wpGw (Γ : Gm) (vs : List Nat) (g : GM) : TG := fun u σ H Q => ∃ ρ A τ v, At Γ ρ A τ σ H ∧ VR Γ ρ A H v u ∧ ∃ τ1 A1, g v τ A = some (τ1, A1) ∧ ∀ ρ' H' σ', Ext Γ ρ A H ρ' A1 H' → At Γ ρ' A1 τ1 σ' H' → wipe σ' vs = wipe σ vs → Q σ' H'
def wpGws (Γ : Gm) (vs : List Nat) (g : GMs) : TGs := fun us σ H Q => ∃ ρ A τ xs, At Γ ρ A τ σ H ∧ VRs Γ ρ A H xs us ∧ ∃ τ1 A1, g xs τ A = some (τ1, A1) ∧ ∀ ρ' H' σ', Ext Γ ρ A H ρ' A1 H' → At Γ ρ' A1 τ1 σ' H' → wipe σ' vs = wipe σ vs → Q σ' H'
theorem wipe_get (σ : List (Option V)) (j : Nat) : ∀ vs : List Nat, j < σ.length → (wipe σ vs)[j]? = some (if j ∈ vs then none else σ.getD j none)
  | [], h => by
    show σ[j]? = _
    rw [if_neg (by simp), List.getD_eq_getElem?_getD, List.getElem?_eq_getElem h]; rfl
  | v :: vs, h => by
    unfold wipe
    by_cases e : j = v
    · subst e
      rw [List.getElem?_set_self (by rw [wipe_length]; exact h), if_pos (by simp)]
    · rw [List.getElem?_set_ne (Ne.symm e), wipe_get σ j vs h]
      simp [e]
theorem wipe_set {σ : List (Option V)} {i : Nat} {x : Option V} {vs : List Nat} (h : i ∈ vs) : wipe (σ.set i x) vs = wipe σ vs := by
  refine List.ext_getElem? fun j => ?_
  by_cases hj : j < σ.length
  · rw [wipe_get _ j vs (by rw [List.length_set]; exact hj), wipe_get _ j vs hj]
    by_cases hm : j ∈ vs
    · rw [if_pos hm, if_pos hm]
    · rw [if_neg hm, if_neg hm]
      have : j ≠ i := fun e => hm (e ▸ h)
      rw [List.getD_eq_getElem?_getD, List.getD_eq_getElem?_getD, List.getElem?_set_ne (Ne.symm this)]
  · rw [List.getElem?_eq_none (by rw [wipe_length, List.length_set]; omega), List.getElem?_eq_none (by rw [wipe_length]; omega)]
section
variable {X : Cx} {Γ : Gm} {W : WX} {tg e : Expr} {vs : List Nat} {g : GM} {gs : GMs} {pos : Pos} {es : List Expr}
abbrev DGw (X : Cx) (Γ : Gm) (vs : List Nat) (e : Expr) (g : GM) : Prop := PG X e (wpGw Γ vs g)
abbrev DGws (X : Cx) (Γ : Gm) (vs : List Nat) (e : List Expr) (g : GMs) : Prop := PGs X e (wpGws Γ vs g)
theorem dw_name {i : Nat} {x : Str} (hm : i ∈ vs) (hN : X.N.Nodup) (hi : X.N[i]? = some x) (hx : Loc X.env.scope x) (hf : X.fn x = true ∨ X.env.scope.names.lookup x = some .local := by first | exact .inl rfl | exact .inr rfl | assumption) : DGw X Γ vs (.Name x pos) (gN i) :=
  (pg_name hN hi hx hf).imp fun u σ H Q ⟨ρ, A, τ, v, a, r, τ1, A1, e, k⟩ => by
    cases e
    exact k ρ H _ Ext.refl ⟨a.rel, a.er.set r⟩ (wipe_set hm)
theorem dws_nil : DGws X Γ vs [] gNil' := pgs_nil.imp fun us σ H Q ⟨ρ, A, τ, xs, a, r, τ1, A1, e, k⟩ => by
  unfold gNil' at e
  cases xs with
  | nil => cases e; exact ⟨r, k ρ H σ Ext.refl a rfl⟩
  | cons _ _ => cases e
theorem dws_cons (h : DGw X Γ vs e g) (k : DGws X Γ vs es gs) (hs : (assignEach (e :: es) X.env).map (·.2) = assign e X.env :: (assignEach es X.env).map (·.2) := by rfl) : DGws X Γ vs (e :: es) (gCons' g gs) :=
  (pgs_cons h k hs).imp fun us σ H Q ⟨ρ, A, τ, xs, a, r, τ1, A1, e, k⟩ => by
    unfold gCons' at e
    cases xs with
    | nil => cases e
    | cons v xs =>
      simp only at e
      split at e
      · rename_i τ2 A2 e2
        obtain ⟨u, ur, rfl, hu, hr⟩ := r
        refine ⟨u, ur, rfl, ρ, A, τ, v, a, hu, τ2, A2, e2, fun ρ2 H2 σ2 x2 a2 w2 => ?_⟩
        exact ⟨ρ2, A2, τ2, xs, a2, VRs.ext x2 _ hr, τ1, A1, e, fun ρ3 H3 σ3 x3 a3 w3 => k ρ3 H3 σ3 (x2.trans x3) a3 (w3.trans w2)⟩
      · cases e
theorem dw_seq {k n : Nat} (hK : X.K = Γ.K) (hc : X.calm = true) (h : DGws X Γ vs es gs)
    (hn : (assignEach es X.env).length = n := by rfl) (hst : (assignEach es X.env).findIdx? (·.1) = none := by rfl) : DGw X Γ vs (.Tuple es k pos) (gSeq n gs) :=
  ((pg_tup hc h hn hst).or (pg_unl hc h hn hst)).imp fun u σ H Q ⟨ρ, A, τ, v, a, r, τ1, A1, e, kk⟩ => by
    unfold gSeq at e
    split at e
    · rename_i xs ex
      split at e
      · rename_i hl
        obtain ⟨b, us, rfl, hb, rb⟩ := rdS_ok a.rel ex r
        have hw : wpGws Γ vs gs us σ H Q := ⟨ρ, A, τ, xs, a, rb, τ1, A1, e, kk⟩
        rcases hb with hb | hb
        · exact .inr ⟨b, us, rfl, by rw [hK]; exact hb, by rw [rb.length]; exact hl, hw⟩
        · exact .inl ⟨b, us, rfl, by rw [hK]; exact hb, by rw [rb.length]; exact hl, hw⟩
      · cases e
    · cases e
abbrev WF : WX := fun _ _ _ _ => False
theorem PE.some {e : Expr} {m : EM} (h : ∀ l, DE X (Γ.hd l) W e m) : PE X e fun σ H Q => ∃ l, wpE (Γ.hd l) W m σ H Q := ⟨fun pins s σ H Q I ⟨l, q⟩ => (h l).run pins s σ H Q I q⟩
theorem PG.some {e : Expr} {g : GM} (h : ∀ l, DGw X (Γ.hd l) vs e g) : PG X e fun u σ H Q => ∃ l, wpGw (Γ.hd l) vs g u σ H Q := ⟨fun pins s σ H v u Q I r ⟨l, q⟩ => (h l).run pins s σ H v u Q I r q⟩
abbrev DTs (X : Cx) (Γ : Gm) (W : WX) (ifs : List Expr) (t : TM) : Prop := PTs X ifs (wpT Γ W t)
theorem PTs.some {ifs : List Expr} {t : TM} (h : ∀ l, DTs X (Γ.hd l) W ifs t) : PTs X ifs fun σ H Q => ∃ l, wpT (Γ.hd l) W t σ H Q := ⟨fun pins s σ H Q I ⟨l, q⟩ => (h l).run pins s σ H Q I q⟩
def tYes' : TM := fun _ A => .ok true A
theorem dts_nil : DTs X Γ W [] tYes' := ⟨fun pins s σ H Q I ⟨ρ, A, τ, a, h⟩ => pts_nil.run pins s σ H Q I (h ρ H true Ext.refl a.rel rfl)⟩
theorem dts_one {c : Expr} {t : TM} (h : DT X Γ W c t) : DTs X Γ W [c] t := pts_one h
end
def lcGo (ck : AH → Bool) (g : GM) (t : TM) (e : EM) (vs : List Nat) : List AV → List AV → AE → AH → Out (List AV)
  | [], acc, _, A => if ck A = true then .ok acc A else .stuck
  | x :: xs, acc, τ, A => if ck A = true then (match g x (wipeA τ vs) A with
    | some (τ1, A1) => (match t τ1 A1 with
      | .ok true A2 => (match e τ1 A2 with
        | .ok v A3 => if Nat.blt acc.length big = true then lcGo ck g t e vs xs (acc ++ [v]) τ A3 else .stuck
        | _ => .stuck)
      | .ok false A2 => lcGo ck g t e vs xs acc τ A2
      | _ => .stuck)
    | none => .stuck) else .stuck
def eLc (fz : Bool) (i : IM) (g : GM) (t : TM) (e : EM) (vs : List Nat) : EM := fun τ A => (i τ A).bind fun S A1 => (lcGo S.ck g t e vs S.xs [] τ A1).bind fun xs A2 => newL fz xs A2
section
variable {Γ : Gm}
theorem ER.wipe {ρ : Nat → Addr} {A : AH} {H : Hp} {τ : AE} {σ : List (Option V)} (e : ER Γ ρ A H τ σ) : ∀ vs : List Nat, ER Γ ρ A H (wipeA τ vs) (L2.wipe σ vs)
  | [] => e
  | v :: vs => by
    have ih := e.wipe vs
    unfold wipeA L2.wipe
    refine ⟨by rw [List.length_set, List.length_set]; exact ih.1, fun i w h => ?_⟩
    by_cases hi : i = v
    · subst hi
      have hl : i < (wipeA τ vs).length := by
        have := (List.getElem?_eq_some_iff.mp h).1
        rwa [List.length_set] at this
      rw [List.getElem?_set_self hl] at h
      cases h
    · rw [List.getElem?_set_ne (Ne.symm hi)] at h
      obtain ⟨u, h1, h2⟩ := ih.2 i w h
      exact ⟨u, by rw [List.getElem?_set_ne (Ne.symm hi)]; exact h1, h2⟩
end
end Mw
set_option Elab.async false
set_option linter.all false
set_option maxRecDepth 100000
set_option maxHeartbeats 2000000
namespace Mw
open PySem PySem.Spec PyProof.Rows L2
section
variable {Γ : Gm} {ρ ρ' : Nat → Addr} {A A' : AH} {H H' : Hp}
structure ExtB (Γ : Gm) (h : List Addr) (ρ : Nat → Addr) (A : AH) (H : Hp) (ρ' : Nat → Addr) (A' : AH) (H' : Hp) : Prop where
  le : A.length ≤ A'.length
  ag : ∀ i, i < A.length → ρ' i = ρ i
  tp : ∀ a us, SqT Γ.K H a us → SqT Γ.K H' a us
  un : ∀ b o, ntb o = true → H b = some o → ¬ Tr (Γ.hd h) ρ A b → H' b = some o ∧ ¬ Tr Γ ρ' A' b
mutual
theorem VR.bare {h : List Addr} (x : ExtB Γ h ρ A H ρ' A' H') : ∀ (v : AV) {u : V}, VR (Γ.hd h) ρ A H v u → VR Γ ρ' A' H' v u
  | .non, _, h => h
  | .bl _, _, h => h
  | .int _, _, h => h
  | .str _, _, h => h
  | .glo _, _, h => h
  | .tup xs, _, ⟨a, us, e, s, r⟩ => ⟨a, us, e, x.tp a us s, VRs.bare x xs r⟩
  | .lst xs, _, ⟨a, us, e, n, s, r⟩ => ⟨a, us, e, (x.un a _ rfl s n).2, (x.un a _ rfl s n).1, VRs.bare x xs r⟩
  | .rol xs, _, ⟨a, us, e, s, r⟩ => ⟨a, us, e, s.elim (fun ⟨n, q⟩ => .inl (q.elim (fun q => ⟨(x.un a _ rfl q n).2, .inl (x.un a _ rfl q n).1⟩) fun ⟨o, q⟩ => ⟨(x.un a _ rfl q n).2, .inr ⟨o, (x.un a _ rfl q n).1⟩⟩)) .inr, VRs.bare x xs r⟩
  | .dct kvs, _, ⟨a, o, kus, e, n, s, r⟩ => ⟨a, o, kus, e, (x.un a _ rfl s n).2, (x.un a _ rfl s n).1, KRs.bare x kvs r⟩
  | .ref i, _, ⟨l, e⟩ => ⟨Nat.lt_of_lt_of_le l x.le, by rw [x.ag i l]; exact e⟩
  | .exh c fs, _, ⟨a, cls, d, fus, e1, e2, e3, r, s⟩ => ⟨a, cls, d, fus, e1, e2, e3, XRs.bare x fs r, s.elim .inl fun ⟨b, e, n, q⟩ => .inr ⟨b, e, (x.un b _ rfl q n).2, (x.un b _ rfl q n).1⟩⟩
theorem VRs.bare {h : List Addr} (x : ExtB Γ h ρ A H ρ' A' H') : ∀ (xs : List AV) {us : List V}, VRs (Γ.hd h) ρ A H xs us → VRs Γ ρ' A' H' xs us
  | [], _, h => h
  | y :: ys, _, ⟨u, r, e, h, t⟩ => ⟨u, r, e, VR.bare x y h, VRs.bare x ys t⟩
theorem KRs.bare {h : List Addr} (x : ExtB Γ h ρ A H ρ' A' H') : ∀ (xs : List (AK × AV)) {us : List (Key × V)}, KRs (Γ.hd h) ρ A H xs us → KRs Γ ρ' A' H' xs us
  | [], _, h => h
  | (k, y) :: ys, _, ⟨u, r, e, h, t⟩ => ⟨u, r, e, VR.bare x y h, KRs.bare x ys t⟩
theorem XRs.bare {h : List Addr} (x : ExtB Γ h ρ A H ρ' A' H') : ∀ (xs : List (Nat × AV)) {us : List (Str × V)}, XRs (Γ.hd h) ρ A H xs us → XRs Γ ρ' A' H' xs us
  | [], _, h => h
  | (k, y) :: ys, _, ⟨u, r, e, h, t⟩ => ⟨u, r, e, VR.bare x y h, XRs.bare x ys t⟩
end
theorem ExtB.same {h : List Addr} : ExtB Γ h ρ A H ρ A H := ⟨Nat.le_refl _, fun _ _ => rfl, fun _ _ h => h, fun _ _ _ e n => ⟨e, fun t => n (t.imp_right (List.mem_append_right _))⟩⟩
theorem OR.bare {h : List Addr} (x : ExtB Γ h ρ A H ρ' A' H') {a : Addr} (hH : ∀ o, H a = Option.some o → H' a = Option.some o) : ∀ {o : AO}, OR (Γ.hd h) ρ A H a o → OR Γ ρ' A' H' a o
  | .lst xs, ⟨us, h, r⟩ => ⟨us, hH _ h, VRs.bare x _ r⟩
  | .dct xs, ⟨us, h, r⟩ => ⟨us, hH _ h, KRs.bare x _ r⟩
  | .ins c fs, ⟨dx, us, h, r⟩ => ⟨dx, us, hH _ h, XRs.bare x _ r⟩
  | .gone, _ => trivial
theorem OR.extH {h : List Addr} (x : ExtH Γ h ρ A H ρ' A' H') {a : Addr} (hH : ∀ o, H a = Option.some o → H' a = Option.some o) : ∀ {ao : AO}, OR Γ ρ A H a ao → OR (Γ.hd h) ρ' A' H' a ao
  | .lst xs, ⟨us, h, r⟩ => ⟨us, hH _ h, VRs.extH x _ r⟩
  | .dct xs, ⟨us, h, r⟩ => ⟨us, hH _ h, KRs.extH x _ r⟩
  | .ins c fs, ⟨dx, us, h, r⟩ => ⟨dx, us, hH _ h, XRs.extH x _ r⟩
  | .gone, _ => trivial
structure Fill (Γ : Gm) (D : Addr) (ρ : Nat → Addr) (A : AH) (H : Hp) (ρ' : Nat → Addr) (A' : AH) (H' : Hp) (o : HO) : Prop where
  no : H D = none
  R0 : Rel Γ ρ A H
  x : ExtH Γ [D] ρ A H ρ' A' H'
  hd : ∀ b o, ntb o = true → b ∈ Γ.hid → H b = some o → H' b = some o
  R : Rel (Γ.hd [D]) ρ' A' H'
  dD : H' D = some o
  nt : ntb o = true ∧ (∀ ps, o ≠ .tbl ps) ∧ ∀ φ, o ≠ .ext φ
theorem Fill.start {D : Addr} {o : HO} (R : Rel Γ ρ A H) (hD : H D = none) (nt : ntb o = true ∧ (∀ ps, o ≠ .tbl ps) ∧ ∀ φ, o ≠ .ext φ) : Fill Γ D ρ A H ρ A (upd H D o) o where
  no := hD
  R0 := R
  x := ⟨Nat.le_refl _, fun _ _ => rfl, fun _ _ h => sqT_upd hD h, fun b q _ h n => ⟨by rw [upd_ne (ne_of_none h hD)]; exact h, fun t => by
    rcases t with t | t
    · exact n (.inl t)
    · rcases List.mem_append.mp t with t | t
      · have : b = D := by simpa using t
        subst this; rw [hD] at h; cases h
      · exact n (.inr t)⟩⟩
  hd := fun b q _ _ h => by rw [upd_ne (ne_of_none h hD)]; exact h
  R := by
    have R2 := Rel.fresh (o := o) R hD
    refine ⟨R2.inj, fun i ao e => ?_, fun a h => ?_, fun i ao e n h => ?_, R2.tb, fun p hp => List.mem_append_right _ (R2.th p hp)⟩
    · have x : ExtH Γ [D] ρ A H ρ A (upd H D o) := ⟨Nat.le_refl _, fun _ _ => rfl, fun _ _ h => sqT_upd hD h, fun b q _ h n => ⟨by rw [upd_ne (ne_of_none h hD)]; exact h, fun t => by
        rcases t with t | t
        · exact n (.inl t)
        · rcases List.mem_append.mp t with t | t
          · have : b = D := by simpa using t
            subst this; rw [hD] at h; cases h
          · exact n (.inr t)⟩⟩
      exact OR.extH x (fun q h => by rw [upd_ne (ne_of_none h hD)]; exact h) (R.obj i ao e)
    · rcases List.mem_append.mp h with h | h
      · have : a = D := by simpa using h
        subst this; exact ⟨o, upd_same, .inl nt.1⟩
      · exact R2.hn a h
    · rcases List.mem_append.mp h with h | h
      · have e2 : ρ i = D := by simpa using h
        exact R.notTr hD (.inl ⟨i, ao, e, n, e2⟩)
      · exact R.hs i ao e n h
  dD := upd_same
  nt := nt
variable {D : Addr} {ρ1 : Nat → Addr} {A1 : AH} {H1 : Hp} {o : HO}
theorem Fill.step (F : Fill Γ D ρ A H ρ' A' H' o) (y : Ext (Γ.hd [D]) ρ' A' H' ρ1 A1 H1) (R : Rel (Γ.hd [D]) ρ1 A1 H1) : Fill Γ D ρ A H ρ1 A1 H1 o :=
  ⟨F.no, F.R0, F.x.trans y, fun b q t hb h => y.hd b q t (List.mem_append_right _ hb) (F.hd b q t hb h), R, y.hd D o F.nt.1 (by simp) F.dD, F.nt⟩
theorem hid_write {o' : HO} (R : Rel Γ ρ A H) (hm : D ∈ Γ.hid) (dD : H D = some o) (h1 : ∀ us, o ≠ .tup us) (h2 : ∀ q us, o ≠ .frz q us) (h3 : ∀ ps, o ≠ .tbl ps) (h4 : ∀ φ, o ≠ .ext φ) (h5 : ntb o' = true) : ExtH Γ [] ρ A H ρ A (upd H D o') ∧ Rel Γ ρ A (upd H D o') := by
  have x : ExtH Γ [] ρ A H ρ A (upd H D o') := ⟨Nat.le_refl _, fun _ _ => rfl, fun _ _ h => sqT_updM (fun us e => h1 us (by rw [dD] at e; cases e; rfl)) (fun q us e => h2 q us (by rw [dD] at e; cases e; rfl)) h, fun b q _ h n => ⟨by rw [upd_ne (fun (e : b = D) => n (.inr (e ▸ hm)))]; exact h, n⟩⟩
  refine ⟨x, R.inj, fun i ao e => ?_, fun a h => ?_, R.hs, tabs_upd R.tb dD h3 h4, R.th⟩
  · by_cases hg : ao = .gone
    · subst hg; trivial
    · exact OR.extH x (fun q h => by rw [upd_ne (fun (z : ρ i = D) => R.hs i ao e hg (z ▸ hm))]; exact h) (R.obj i ao e)
  · by_cases e : a = D
    · subst e; exact ⟨o', upd_same, .inl h5⟩
    · rw [upd_ne e]; exact R.hn a h
theorem Fill.write {o' : HO} (F : Fill Γ D ρ A H ρ' A' H' o) (h1 : ∀ us, o ≠ .tup us) (h2 : ∀ q us, o ≠ .frz q us) (nt' : ntb o' = true ∧ (∀ ps, o' ≠ .tbl ps) ∧ ∀ φ, o' ≠ .ext φ) : Fill Γ D ρ A H ρ' A' (upd H' D o') o' ∧ ExtH (Γ.hd [D]) [] ρ' A' H' ρ' A' (upd H' D o') := by
  obtain ⟨x, R⟩ := hid_write (o' := o') F.R (by simp) F.dD h1 h2 F.nt.2.1 F.nt.2.2 nt'.1
  refine ⟨⟨F.no, F.R0, ⟨F.x.le, F.x.ag, fun a us h => x.tp a us (F.x.tp a us h), fun b q t h n => ?_⟩, fun b q t hb h => ?_, R, upd_same, nt'⟩, x⟩
  · obtain ⟨e1, e2⟩ := F.x.un b q t h n
    exact ⟨by rw [upd_ne (ne_of_none h F.no)]; exact e1, e2⟩
  · rw [upd_ne (ne_of_none h F.no)]; exact F.hd b q t hb h
theorem Fill.tr (F : Fill Γ D ρ A H ρ' A' H' o) : ¬ Tr Γ ρ' A' D := fun t => by
  rcases t with ⟨i, q, e, n, ei⟩ | t
  · exact F.R.hs i q e n (by rw [ei]; simp)
  · obtain ⟨q, e, _⟩ := F.R0.hn D t
    rw [F.no] at e; cases e
theorem Fill.done (F : Fill Γ D ρ A H ρ' A' H' o) : Ext Γ ρ A H ρ' A' H' ∧ Rel Γ ρ' A' H' :=
  ⟨⟨F.x.le, F.x.ag, F.x.tp, fun b q z h n => ⟨(F.x.un b q z h n).1, fun t => (F.x.un b q z h n).2 (t.imp_right (List.mem_append_right _))⟩, F.hd⟩,
   F.R.inj, fun i ao e => OR.bare .same (fun _ h => h) (F.R.obj i ao e), fun a h => F.R.hn a (List.mem_append_right _ h), fun i ao e n h => F.R.hs i ao e n (List.mem_append_right _ h), F.R.tb, F.R0.th⟩
theorem Fill.adopt {ao : AO} (F : Fill Γ D ρ A H ρ' A' H' o) (new : OR (Γ.hd [D]) ρ' A' H' D ao) : Ext Γ ρ A H (rho ρ' A'.length D) (A' ++ [ao]) H' ∧ Rel Γ (rho ρ' A'.length D) (A' ++ [ao]) H' := by
  obtain ⟨x, R⟩ := F.done
  have tr : ∀ b, Tr Γ (rho ρ' A'.length D) (A' ++ [ao]) b → b = D ∨ Tr Γ ρ' A' b := fun b t => by
    rcases t with ⟨j, oj, e, nj, ej⟩ | t
    · rcases snoc_get e with ⟨hj, e⟩ | ⟨rfl, _⟩
      · exact .inr (.inl ⟨j, oj, e, nj, by rw [← ej, rho_lt hj]⟩)
      · rw [rho_at] at ej; exact .inl ej.symm
    · exact .inr (.inr t)
  have xb : ExtB Γ [D] ρ' A' H' (rho ρ' A'.length D) (A' ++ [ao]) H' := ⟨by simp, fun i h => rho_lt h, fun _ _ h => h, fun b q _ e n => ⟨e, fun t => (tr b t).elim (fun e => n (.inr (by rw [e]; simp))) fun t => n (t.imp_right (List.mem_append_right _))⟩⟩
  refine ⟨⟨Nat.le_trans x.le xb.le, fun i h => (xb.ag i (Nat.lt_of_lt_of_le h x.le)).trans (x.ag i h), x.tp, fun b q z h n => ⟨(x.un b q z h n).1, fun t => (tr b t).elim (ne_of_none h F.no) (x.un b q z h n).2⟩, F.hd⟩, fun i j oi oj ei ej ni nj e => ?_, fun i q e => ?_, R.hn, fun i q e n => ?_, R.tb, R.th⟩
  · rcases snoc_get ei with ⟨hi, ei⟩ | ⟨rfl, _⟩
    · rcases snoc_get ej with ⟨hj, ej⟩ | ⟨rfl, _⟩
      · rw [rho_lt hi, rho_lt hj] at e; exact R.inj i j oi oj ei ej ni nj e
      · rw [rho_lt hi, rho_at] at e
        exact absurd (.inl ⟨i, oi, ei, ni, e⟩) F.tr
    · rcases snoc_get ej with ⟨hj, ej⟩ | ⟨rfl, _⟩
      · rw [rho_lt hj, rho_at] at e
        exact absurd (.inl ⟨j, oj, ej, nj, e.symm⟩) F.tr
      · rfl
  · rcases snoc_get e with ⟨hi, e⟩ | ⟨rfl, rfl⟩
    · rw [rho_lt hi]
      exact OR.bare xb (fun _ h => h) (F.R.obj i q e)
    · rw [rho_at]; exact OR.bare xb (fun _ h => h) new
  · rcases snoc_get e with ⟨hi, e⟩ | ⟨rfl, rfl⟩
    · rw [rho_lt hi]; exact R.hs i q e n
    · rw [rho_at]; exact fun h => F.tr (.inr h)
end

section
variable {X : Cx} {Γ : Gm} {W : WX}
theorem wipe_wipe (σ : List (Option V)) (vs : List Nat) : wipe (wipe σ vs) vs = wipe σ vs := by
  refine List.ext_getElem? fun j => ?_
  by_cases hj : j < σ.length
  · rw [wipe_get _ j vs (by rw [wipe_length]; exact hj), wipe_get _ j vs hj]
    by_cases hm : j ∈ vs
    · rw [if_pos hm, if_pos hm]
    · rw [if_neg hm, if_neg hm, List.getD_eq_getElem?_getD, wipe_get _ j vs hj, if_neg hm]; rfl
  · rw [List.getElem?_eq_none (by rw [wipe_length, wipe_length]; omega), List.getElem?_eq_none (by rw [wipe_length]; omega)]
def FinL (Γ : Gm) (D : Addr) (ρ1 : Nat → Addr) (A1 : AH) (H1 : Hp) (Q : VK) : Out (List AV) → Prop
  | .ok xs A2 => ∀ ρ2 H2 us, Fill Γ D ρ1 A1 H1 ρ2 A2 H2 (.lst us) → VRs (Γ.hd [D]) ρ2 A2 H2 xs us → Q (.ref D) H2
  | _ => False
theorem lc_ok {J : It} {S : Src} {g : GM} {t : TM} {e : EM} {vs : List Nat} {ρ1 : Nat → Addr} {A1 : AH} {τ : AE} {σ : List (Option V)} {H1 : Hp} {Q : VK} (a1 : At Γ ρ1 A1 τ σ H1) (w : Wk Γ J ρ1 A1 H1 S) {D : Addr} (hD : H1 D = none)
    (h : FinL Γ D ρ1 A1 H1 Q (lcGo S.ck g t e vs S.xs [] τ A1)) :
    ∃ Wv : Nat → Nat → Hp → Prop, (∃ m, Wv 0 m (upd H1 D (.lst []))) ∧ ∀ i m H, Wv i m H →
      (J.stop i H ∧ Q (.ref D) H) ∨ (J.go i H ∧ ∃ Nx : Hp → Prop, (∀ H', Nx H' → ∃ m', m' < m ∧ Wv (i + 1) m' H') ∧ ∀ x H', J.yld i H x H' → (∃ l, wpGw (Γ.hd l) vs g x (wipe σ vs) H' fun σ2 H2 => wipe σ2 vs = wipe σ vs ∧ (∃ l, wpT (Γ.hd l) WF t σ2 H2 fun b H3 =>
        if b = true then (∃ l, wpE (Γ.hd l) WF e σ2 H3 fun y H4 => ∃ acc, H4 D = some (.lst acc) ∧ acc.length < sizeLine ∧ Nx (upd H4 D (.lst (acc ++ [y])))) else Nx H3))) := by
  let P : Nat → Hp → Prop := fun i H => i ≤ S.xs.length ∧ ∃ ρ A acc us, Fill Γ D ρ1 A1 H1 ρ A H (.lst us) ∧ VRs (Γ.hd [D]) ρ A H acc us ∧ FinL Γ D ρ1 A1 H1 Q (lcGo S.ck g t e vs (S.xs.drop i) acc τ A)
  refine ⟨fun i m H => m = S.xs.length - i ∧ P i H, ⟨S.xs.length, by simp, Nat.zero_le _, ρ1, A1, [], [], Fill.start a1.rel hD ⟨rfl, (fun _ e => by cases e), (fun _ e => by cases e)⟩, rfl, h⟩, ?_⟩
  rintro i m H ⟨rfl, hi, ρ, A, acc, us, F, r, h⟩
  by_cases hl : i < S.xs.length
  · have ed : S.xs.drop i = S.xs[i] :: S.xs.drop (i + 1) := List.drop_eq_getElem_cons hl
    rw [ed] at h
    unfold lcGo at h
    split at h
    · rename_i ck
      refine .inr ⟨(w.go [D] ρ A H F.x F.R ck i).1 hl, P (i + 1), fun H' p => ⟨S.xs.length - (i + 1), by omega, rfl, p⟩, fun u H' y => ?_⟩
      obtain ⟨xy, Ry, ry⟩ := w.yld [D] ρ A H F.x F.R ck i _ u H' (List.getElem?_eq_getElem hl) y
      have F' := F.step xy Ry
      have aw : At (Γ.hd [D]) ρ A (wipeA τ vs) (wipe σ vs) H' := ⟨Ry, ER.wipe (a1.er.extH F'.x) vs⟩
      split at h
      · rename_i τ2 A2 eg
        refine ⟨[D], ρ, A, _, _, aw, ry, τ2, A2, eg, fun ρ3 H3 σ3 x3 a3 w3 => ⟨by rw [w3]; exact wipe_wipe _ _, [D], ρ3, A2, τ2, a3, ?_⟩⟩
        have F3 := F'.step x3 a3.rel
        have r3 := VRs.ext x3 _ (VRs.ext xy _ r)
        cases et : t τ2 A2 with
        | ok b A4 =>
          rw [et] at h
          intro ρ4 H4 b' x4 R4 eb
          have eb : b = b' := eb
          subst eb
          have F4 := F3.step x4 R4
          have r4 := VRs.ext x4 _ r3
          cases b with
          | false => rw [if_neg Bool.false_ne_true]; exact ⟨hl, ρ4, A4, acc, us, F4, r4, h⟩
          | true =>
            rw [if_pos rfl]
            refine ⟨[D], ρ4, A4, τ2, a3.to x4 R4, ?_⟩
            simp only at h
            cases ee : e τ2 A4 with
            | ok v A5 =>
              rw [ee] at h
              intro ρ5 H5 z x5 R5 rz
              have F5 := F4.step x5 R5
              have r5 := VRs.ext x5 _ r4
              simp only at h
              split at h
              · rename_i hlen
                obtain ⟨F6, x6⟩ := F5.write (o' := .lst (us ++ [z])) (fun _ e => by cases e) (fun _ _ e => by cases e) ⟨rfl, (fun _ e => by cases e), (fun _ e => by cases e)⟩
                have r6 := r5.append (ys := [v]) ⟨z, [], rfl, rz, rfl⟩
                refine ⟨us, F5.dD, by rw [r5.length, ← big_eq]; exact blt_lt hlen, hl, ρ5, A5, acc ++ [v], us ++ [z], F6, VRs.extH x6 _ r6, h⟩
              · exact h.elim
            | exc c fs A5 => rw [ee] at h; exact h.elim
            | stuck => rw [ee] at h; exact h.elim
        | exc c fs A4 => rw [et] at h; exact h.elim
        | stuck => rw [et] at h; exact h.elim
      · exact h.elim
    · exact h.elim
  · have e : i = S.xs.length := by omega
    subst e
    rw [List.drop_length] at h
    unfold lcGo at h
    split at h
    · rename_i ck
      exact .inl ⟨(w.go [D] ρ A H F.x F.R ck _).2 (Nat.le_refl _), h ρ H us F r⟩
    · exact h.elim
theorem finL {fz : Bool} {E : EK} {ρ0 : Nat → Addr} {A0 : AH} {H0 : Hp} {ρ1 : Nat → Addr} {A1 : AH} {H1 : Hp} {D : Addr} {Q : VK} {o : Out (List AV)} (x0 : Ext Γ ρ0 A0 H0 ρ1 A1 H1) (ho : ∀ c fs A, o ≠ .exc c fs A) (h : PostE Γ E ρ0 A0 H0 Q (o.bind fun xs A2 => newL fz xs A2)) : FinL Γ D ρ1 A1 H1 Q o := by
  cases o with
  | ok xs A2 =>
    intro ρ2 H2 us F r
    simp only [Out.bind] at h
    unfold newL at h
    cases fz with
    | true =>
      obtain ⟨x, R⟩ := F.done
      exact h ρ2 H2 _ (x0.trans x) R ⟨D, us, rfl, F.tr, F.dD, VRs.bare .same _ r⟩
    | false =>
      obtain ⟨x, R⟩ := F.adopt (ao := .lst xs) ⟨us, F.dD, r⟩
      exact h _ H2 _ (x0.trans x) R ⟨by simp, by rw [rho_at]⟩
  | exc c fs A => exact (ho c fs A rfl).elim
  | stuck => exact h.elim
theorem lcGo_exc {ck : AH → Bool} {g : GM} {t : TM} {e : EM} {vs : List Nat} : ∀ {xs acc : List AV} {τ : AE} {A : AH} (c : Nat) (fs : List (Nat × AV)) (A' : AH), lcGo ck g t e vs xs acc τ A ≠ .exc c fs A'
  | [], acc, τ, A, c, fs, A' => by unfold lcGo; split <;> (intro h; cases h)
  | x :: xs, acc, τ, A, c, fs, A' => by
    unfold lcGo
    repeat' split
    all_goals first | exact lcGo_exc c fs A' | (intro h; cases h)
theorem lc_wp {i : IM} {g : GM} {t : TM} {e : EM} {vs : List Nat} {fz : Bool} {σ : List (Option V)} {H : Hp} {Q : VK} (h : wpE Γ W (eLc fz i g t e vs) σ H Q) :
    tLc (wpI Γ W i) (fun u σ H Q => ∃ l, wpGw (Γ.hd l) vs g u σ H Q) (fun σ H Q => ∃ l, wpT (Γ.hd l) WF t σ H Q) (fun σ H Q => ∃ l, wpE (Γ.hd l) WF e σ H Q) vs σ H Q := by
  obtain ⟨ρ, A, τ, a, h⟩ := h
  refine ⟨ρ, A, τ, a, ?_⟩
  unfold eLc at h
  cases ei : i τ A with
  | ok S A1 =>
    rw [ei] at h
    intro ρ1 H1 x R J w D hD
    exact lc_ok (a.to x R) w hD (finL x (fun c fs A => lcGo_exc c fs A) h)
  | exc c fs A1 => rw [ei] at h; exact fun ρ1 H1 cls d x R r => h ρ1 H1 cls d x R r
  | stuck => rw [ei] at h; exact h
abbrev InB (X : Cx) (scope : Scope) (P : Cx → Prop) : Prop := ∀ (s : Shared) (H : Hp) (C : Addr) (cl : List (Str × Addr)) (fp : List Addr), P (X.blk s H scope (compEnvC scope cl C X.env) fp)
theorem de_lc {elt tg iter : Expr} {ifs : List Expr} {scope : Scope} {own : List (Str × Nat)} {pos : Pos} {i : IM} {g : GM} {t : TM} {e : EM} {fz : Bool} (hc : X.calm = true) (hN : X.N.Nodup) (hi : DI X Γ W tg iter i) (ok : BlkOk X.N X.env.scope scope own)
    (hg : ∀ l, InB X scope fun X => DGw X (Γ.hd l) (own.map (·.2)) tg g) (ht : ∀ l, InB X scope fun X => DTs X (Γ.hd l) WF ifs t) (he : ∀ l, InB X scope fun X => DE X (Γ.hd l) WF elt e) (hs : ∀ x, foldedSetIterable iter X.env x = pure x := by intro _; rfl) :
    DE X Γ W (.ListComp elt [⟨tg, iter, ifs, 0⟩] scope pos) (eLc fz i g t e (own.map (·.2))) :=
  (pe_lc hc hN hi ok (fun s H C cl fp => PG.some fun l => hg l s H C cl fp) (fun s H C cl fp => PTs.some fun l => ht l s H C cl fp) (fun s H C cl fp => PE.some fun l => he l s H C cl fp) hs).imp fun σ H Q h => lc_wp h
theorem ds_setLc {j : Nat} {y : Str} {py : Pos} {elt tg iter : Expr} {ifs : List Expr} {scope : Scope} {own : List (Str × Nat)} {pos spos : Pos} {i : IM} {g : GM} {t : TM} {e : EM} {fz : Bool} (hc : X.calm = true) (hN : X.N.Nodup) (hy : X.N[j]? = some y) (hyl : X.env.scope.names.lookup y = some .local)
    (hsw : swapsWith (.ListComp elt [⟨tg, iter, ifs, 0⟩] scope pos) (some (.Name y py)) spos.line X.env = pure true) (hi : DI X Γ W tg iter i) (ok : BlkOk X.N X.env.scope scope own)
    (hg : ∀ l, InB X scope fun X => DGw X (Γ.hd l) (own.map (·.2)) tg g) (ht : ∀ l, InB X scope fun X => DTs X (Γ.hd l) WF ifs t) (he : ∀ l, InB X scope fun X => DE X (Γ.hd l) WF elt e) (hs : ∀ x, foldedSetIterable iter X.env x = pure x := by intro _; rfl) :
    DS X Γ W (.Assign [.Name y py] (.ListComp elt [⟨tg, iter, ifs, 0⟩] scope pos) spos) (sSet j (eLc fz i g t e (own.map (·.2)))) :=
  (ps_setLc hc hN hy hyl hsw hi ok (fun s H C cl fp => PG.some fun l => hg l s H C cl fp) (fun s H C cl fp => PTs.some fun l => ht l s H C cl fp) (fun s H C cl fp => PE.some fun l => he l s H C cl fp) hs).imp fun D σ H ⟨ρ, A, τ, a, h⟩ =>
    lc_wp (wpG.stepS a h fun v A1 ρ1 H1 u _ x1 a1 r1 h1 => posts_nx ⟨a1.rel, a1.er.set r1⟩ h1)
end
end Mw
set_option Elab.async false
set_option linter.all false
set_option maxRecDepth 100000
set_option maxHeartbeats 2000000
namespace Mw
open PySem PySem.Spec PyProof.Rows L2
def tFrz (t : TE) : TE := fun σ H Q => t σ H fun v H' => Q v H' ∨ ∃ d u, v = .ref d ∧ H' d = some u ∧ Mut (some u) ∧ ∀ od, Q v (upd H' d (.frz od u))
theorem pe_frz {X : Cx} {e : Expr} {t : TE} (h : PE X e t) : PE X e (tFrz t) := ⟨fun pins s σ H Q I hw => by
  refine thn (h.run pins s σ H _ I hw) fun v s1 ⟨x, H1, I1, r, q⟩ => ?_
  rcases q with q | ⟨d, u, rfl, hd, mu, q⟩
  · exact ⟨x, H1, I1, r, q⟩
  · obtain ⟨od, I2⟩ := I1.lock hd mu
    exact ⟨_, _, I2, r, q od⟩⟩
def frz (v : AV) (A : AH) : Out AV := match v with
  | .ref i => (match A[i]? with
    | some (.lst xs) => .ok (.lst xs) (A.set i .gone)
    | some (.dct kvs) => .ok (.dct kvs) (A.set i .gone)
    | _ => .ok v A)
  | v => .ok v A
def eFrz (m : EM) : EM := fun τ A => (m τ A).bind frz
section
variable {X : Cx} {Γ : Gm} {W : WX} {e : Expr} {m : EM}
theorem de_frz (h : DE X Γ W e m) : DE X Γ W e (eFrz m) :=
  (pe_frz h).imp fun σ H Q ⟨ρ, A, τ, a, h⟩ => wpG.step a h fun v A1 ρ1 H1 u _ x1 a1 r1 h1 => by
    have same : PostE Γ (fun c d H' => W c d σ H') ρ1 A1 H1 Q (.ok v A1) → Q u H1 := fun h1 => post_val a1.rel h1 r1
    unfold frz at h1
    cases v with
    | ref i =>
      simp only at h1
      obtain ⟨l, rfl⟩ := r1
      split at h1
      · rename_i xs ei
        obtain ⟨us, hd, rd⟩ := a1.rel.obj i _ ei
        have ni : (AO.lst xs) ≠ .gone := by intro z; cases z
        have x := Ext.freeze a1.rel ei ni
        exact .inl (h1 ρ1 H1 _ x (a1.rel.freeze ei ni) ⟨ρ1 i, us, rfl, notTr_set a1.rel ei ni, hd, VRs.ext x _ rd⟩)
      · rename_i kvs ei
        obtain ⟨kus, hd, rd⟩ := a1.rel.obj i _ ei
        have ni : (AO.dct kvs) ≠ .gone := by intro z; cases z
        refine .inr ⟨ρ1 i, _, rfl, hd, trivial, fun od => ?_⟩
        have x1 := Ext.freeze a1.rel ei ni
        have R1 := a1.rel.freeze ei ni
        have nt := notTr_set a1.rel ei ni
        have h1' : ∀ us, H1 (ρ1 i) ≠ some (.tup us) := fun us z => by rw [hd] at z; cases z
        have h2' : ∀ q us, H1 (ρ1 i) ≠ some (.frz q us) := fun q us z => by rw [hd] at z; cases z
        -- the object itself changes, but it is not tracked any more
        have x : Ext Γ ρ1 A1 H1 ρ1 (A1.set i .gone) (upd H1 (ρ1 i) (.frz od (.dK kus))) := Ext.write a1.rel ei ni h1' h2'
        have R : Rel Γ ρ1 (A1.set i .gone) (upd H1 (ρ1 i) (.frz od (.dK kus))) := Rel.write a1.rel ei ni h1' h2' trivial
        exact h1 ρ1 _ _ x R ⟨ρ1 i, od, kus, rfl, nt, upd_same, KRs.ext x _ rd⟩
      · exact .inl (same h1)
    | _ => exact .inl (same h1)
end
def dcGo (ck : AH → Bool) (g : GM) (t : TM) (ke e : EM) (vs : List Nat) : List AV → List (AK × AV) → AE → AH → Out (List (AK × AV))
  | [], acc, _, A => if ck A = true then .ok acc A else .stuck
  | x :: xs, acc, τ, A => if ck A = true then (match g x (wipeA τ vs) A with
    | some (τ1, A1) => (match t τ1 A1 with
      | .ok true A2 => (match ke τ1 A2 with
        | .ok kv A3 => (match keyOf kv, e τ1 A3 with
          | some k, .ok v A4 => if Nat.blt acc.length big = true then dcGo ck g t ke e vs xs (putKA acc k v) τ A4 else .stuck
          | _, _ => .stuck)
        | _ => .stuck)
      | .ok false A2 => dcGo ck g t ke e vs xs acc τ A2
      | _ => .stuck)
    | none => .stuck) else .stuck
def eDc (i : IM) (g : GM) (t : TM) (ke e : EM) (vs : List Nat) : EM := fun τ A => (i τ A).bind fun S A1 => (dcGo S.ck g t ke e vs S.xs [] τ A1).bind fun xs A2 => .ok (.ref A2.length) (A2 ++ [.dct xs])
section
variable {X : Cx} {Γ : Gm} {W : WX}
def FinD (Γ : Gm) (D : Addr) (ρ1 : Nat → Addr) (A1 : AH) (H1 : Hp) (Q : VK) : Out (List (AK × AV)) → Prop
  | .ok xs A2 => ∀ ρ2 H2 us, Fill Γ D ρ1 A1 H1 ρ2 A2 H2 (.dK us) → KRs (Γ.hd [D]) ρ2 A2 H2 xs us → Q (.ref D) H2
  | _ => False
theorem dc_ok {J : It} {S : Src} {g : GM} {t : TM} {ke e : EM} {vs : List Nat} {ρ1 : Nat → Addr} {A1 : AH} {τ : AE} {σ : List (Option V)} {H1 : Hp} {Q : VK} (a1 : At Γ ρ1 A1 τ σ H1) (w : Wk Γ J ρ1 A1 H1 S) {D : Addr} (hD : H1 D = none)
    (h : FinD Γ D ρ1 A1 H1 Q (dcGo S.ck g t ke e vs S.xs [] τ A1)) :
    ∃ Wv : Nat → Nat → Hp → Prop, (∃ m, Wv 0 m (upd H1 D (.dK []))) ∧ ∀ i m H, Wv i m H →
      (J.stop i H ∧ Q (.ref D) H) ∨ (J.go i H ∧ ∃ Nx : Hp → Prop, (∀ H', Nx H' → ∃ m', m' < m ∧ Wv (i + 1) m' H') ∧ ∀ x H', J.yld i H x H' → (∃ l, wpGw (Γ.hd l) vs g x (wipe σ vs) H' fun σ2 H2 => wipe σ2 vs = wipe σ vs ∧ (∃ l, wpT (Γ.hd l) WF t σ2 H2 fun b H3 =>
        if b = true then (∃ l, wpE (Γ.hd l) WF ke σ2 H3 fun y H4 => ∃ l, wpE (Γ.hd l) WF e σ2 H4 fun z H5 => ∃ kvs k, y = kV k ∧ H5 D = some (.dK kvs) ∧ kvs.length < sizeLine ∧ Nx (upd H5 D (.dK (putK kvs k z)))) else Nx H3))) := by
  let P : Nat → Hp → Prop := fun i H => i ≤ S.xs.length ∧ ∃ ρ A acc us, Fill Γ D ρ1 A1 H1 ρ A H (.dK us) ∧ KRs (Γ.hd [D]) ρ A H acc us ∧ FinD Γ D ρ1 A1 H1 Q (dcGo S.ck g t ke e vs (S.xs.drop i) acc τ A)
  refine ⟨fun i m H => m = S.xs.length - i ∧ P i H, ⟨S.xs.length, by simp, Nat.zero_le _, ρ1, A1, [], [], Fill.start a1.rel hD ⟨rfl, (fun _ e => by cases e), (fun _ e => by cases e)⟩, rfl, h⟩, ?_⟩
  rintro i m H ⟨rfl, hi, ρ, A, acc, us, F, r, h⟩
  by_cases hl : i < S.xs.length
  · have ed : S.xs.drop i = S.xs[i] :: S.xs.drop (i + 1) := List.drop_eq_getElem_cons hl
    rw [ed] at h
    unfold dcGo at h
    split at h
    · rename_i ck
      refine .inr ⟨(w.go [D] ρ A H F.x F.R ck i).1 hl, P (i + 1), fun H' p => ⟨S.xs.length - (i + 1), by omega, rfl, p⟩, fun u H' y => ?_⟩
      obtain ⟨xy, Ry, ry⟩ := w.yld [D] ρ A H F.x F.R ck i _ u H' (List.getElem?_eq_getElem hl) y
      have F' := F.step xy Ry
      have aw : At (Γ.hd [D]) ρ A (wipeA τ vs) (wipe σ vs) H' := ⟨Ry, ER.wipe (a1.er.extH F'.x) vs⟩
      split at h
      · rename_i τ2 A2 eg
        refine ⟨[D], ρ, A, _, _, aw, ry, τ2, A2, eg, fun ρ3 H3 σ3 x3 a3 w3 => ⟨by rw [w3]; exact wipe_wipe _ _, [D], ρ3, A2, τ2, a3, ?_⟩⟩
        have F3 := F'.step x3 a3.rel
        have r3 := KRs.ext x3 _ (KRs.ext xy _ r)
        cases et : t τ2 A2 with
        | ok b A4 =>
          rw [et] at h
          intro ρ4 H4 b' x4 R4 eb
          have eb : b = b' := eb
          subst eb
          have F4 := F3.step x4 R4
          have r4 := KRs.ext x4 _ r3
          cases b with
          | false => rw [if_neg Bool.false_ne_true]; exact ⟨hl, ρ4, A4, acc, us, F4, r4, h⟩
          | true =>
            rw [if_pos rfl]
            refine ⟨[D], ρ4, A4, τ2, a3.to x4 R4, ?_⟩
            simp only at h
            cases ee : ke τ2 A4 with
            | ok kv A5 =>
              rw [ee] at h
              intro ρ5 H5 zk x5 R5 rk
              have F5 := F4.step x5 R5
              have r5 := KRs.ext x5 _ r4
              simp only at h
              refine ⟨[D], ρ5, A5, τ2, (a3.to x4 R4).to x5 R5, ?_⟩
              cases ek : keyOf kv with
              | none => rw [ek] at h; exact h.elim
              | some k =>
              rw [ek] at h
              cases ev : e τ2 A5 with
              | ok v A6 =>
                rw [ev] at h
                intro ρ6 H6 z x6 R6 rz
                have F6 := F5.step x6 R6
                have r6 := KRs.ext x6 _ r5
                simp only at h
                split at h
                · rename_i hlen
                  obtain ⟨F7, x7⟩ := F6.write (o' := .dK (putK us (kK k) z)) (fun _ e => by cases e) (fun _ _ e => by cases e) ⟨rfl, (fun _ e => by cases e), (fun _ e => by cases e)⟩
                  have r7 := KRs.put (k := k) r6 rz
                  refine ⟨us, kK k, keyOf_ok ek rk, F6.dD, by rw [KRs.length r6, ← big_eq]; exact blt_lt hlen, hl, ρ6, A6, putKA acc k v, _, F7, KRs.extH x7 _ r7, h⟩
                · exact h.elim
              | exc c fs A5 => rw [ev] at h; exact h.elim
              | stuck => rw [ev] at h; exact h.elim
            | exc c fs A5 => rw [ee] at h; exact h.elim
            | stuck => rw [ee] at h; exact h.elim
        | exc c fs A4 => rw [et] at h; exact h.elim
        | stuck => rw [et] at h; exact h.elim
      · exact h.elim
    · exact h.elim
  · have e : i = S.xs.length := by omega
    subst e
    rw [List.drop_length] at h
    unfold dcGo at h
    split at h
    · rename_i ck
      exact .inl ⟨(w.go [D] ρ A H F.x F.R ck _).2 (Nat.le_refl _), h ρ H us F r⟩
    · exact h.elim
theorem finD {E : EK} {ρ0 : Nat → Addr} {A0 : AH} {H0 : Hp} {ρ1 : Nat → Addr} {A1 : AH} {H1 : Hp} {D : Addr} {Q : VK} {o : Out (List (AK × AV))} (x0 : Ext Γ ρ0 A0 H0 ρ1 A1 H1) (ho : ∀ c fs A, o ≠ .exc c fs A) (h : PostE Γ E ρ0 A0 H0 Q (o.bind fun xs A2 => .ok (.ref A2.length) (A2 ++ [.dct xs]))) : FinD Γ D ρ1 A1 H1 Q o := by
  cases o with
  | ok xs A2 =>
    intro ρ2 H2 us F r
    simp only [Out.bind] at h
    obtain ⟨x, R⟩ := F.adopt (ao := .dct xs) ⟨us, F.dD, r⟩
    exact h _ H2 _ (x0.trans x) R ⟨by simp, by rw [rho_at]⟩
  | exc c fs A => exact (ho c fs A rfl).elim
  | stuck => exact h.elim
theorem dcGo_exc {ck : AH → Bool} {g : GM} {t : TM} {ke e : EM} {vs : List Nat} : ∀ {xs : List AV} {acc : List (AK × AV)} {τ : AE} {A : AH} (c : Nat) (fs : List (Nat × AV)) (A' : AH), dcGo ck g t ke e vs xs acc τ A ≠ .exc c fs A'
  | [], acc, τ, A, c, fs, A' => by unfold dcGo; split <;> (intro h; cases h)
  | x :: xs, acc, τ, A, c, fs, A' => by
    unfold dcGo
    repeat' split
    all_goals first | exact dcGo_exc c fs A' | (intro h; cases h)
theorem de_dc {kx vx tg iter : Expr} {ifs : List Expr} {scope : Scope} {own : List (Str × Nat)} {pos : Pos} {i : IM} {g : GM} {t : TM} {ke e : EM} (hc : X.calm = true) (hN : X.N.Nodup) (hi : DI X Γ W tg iter i) (ok : BlkOk X.N X.env.scope scope own)
    (hg : ∀ l, InB X scope fun X => DGw X (Γ.hd l) (own.map (·.2)) tg g) (ht : ∀ l, InB X scope fun X => DTs X (Γ.hd l) WF ifs t) (hk : ∀ l, InB X scope fun X => DE X (Γ.hd l) WF kx ke) (he : ∀ l, InB X scope fun X => DE X (Γ.hd l) WF vx e) (hs : ∀ x, foldedSetIterable iter X.env x = pure x := by intro _; rfl) :
    DE X Γ W (.DictComp kx vx [⟨tg, iter, ifs, 0⟩] scope pos) (eDc i g t ke e (own.map (·.2))) :=
  (pe_dc hc hN hi ok (fun s H C cl fp => PG.some fun l => hg l s H C cl fp) (fun s H C cl fp => PTs.some fun l => ht l s H C cl fp) (fun s H C cl fp => PE.some fun l => hk l s H C cl fp) (fun s H C cl fp => PE.some fun l => he l s H C cl fp) hs).imp fun σ H Q ⟨ρ, A, τ, a, h⟩ => by
    refine ⟨ρ, A, τ, a, ?_⟩
    unfold eDc at h
    cases ei : i τ A with
    | ok S A1 =>
      rw [ei] at h
      intro ρ1 H1 x R J w D hD
      exact dc_ok (a.to x R) w hD (finD x (fun c fs A => dcGo_exc c fs A) h)
    | exc c fs A1 => rw [ei] at h; exact fun ρ1 H1 cls d x R r => h ρ1 H1 cls d x R r
    | stuck => rw [ei] at h; exact h
end
end Mw
set_option Elab.async false
set_option linter.all false
set_option maxRecDepth 100000
set_option maxHeartbeats 2000000
namespace Mw
open PySem PySem.Spec PyProof.Rows L2
section
variable {prog : Program} {w : World} {K : Type} [DecidableEq K] {knd : KeyKind prog w K} {A : Around} {E : Value → Shared → Prop} {s : Shared}
theorem wpAny_dictPut_pairs {d : Addr} {kvs : List (K × Value)} {k : K} {key v : Value} {Q : Unit → Shared → Prop} (hkey : knd.is k key = true) (hm : s.heap.DictOf knd d kvs)
    (hQ : ∀ h', h'.DictOf knd d (stored kvs k v) → Heap.SameBut d s.heap h' → Q () { s with heap := h' })
    (hsz : kvs.length ≤ sizeLine) :
    wpAny (model prog w) A (dictPut d (knd.hash k) key v) Q E s := by
  obtain ⟨o, es, ep, ho, hc, hd, hk, hp, hn⟩ := hm
  have hes : es.size ≤ sizeLine := by
    have e1 := hp.length
    have e2 : es.toList.length = es.size := by simp
    omega
  unfold dictPut
  refine wpAny_bind (wpAny_dictFind_of hkey ho hd hk ?_)
  have hidx : (es.findIdx? fun e => knd.is k e.key) = kvs.findIdx? fun kv => decide (kv.1 = k) := by
    rw [← hp.findIdx k]; obtain ⟨l⟩ := es; simp
  cases hi : es.findIdx? fun e => knd.is k e.key with
  | some i =>
    refine wpAny_updateDict ho hd (hQ _ ⟨_, _, ep, Heap.get?_update_self _ ho (Obj.isFreed_of_dict (Obj.data_mapDict hd _)), hc.mapDict _, Obj.data_mapDict hd _, hk.modify _ _, ?_, ?_⟩ (Heap.SameBut.update ..))
    · rw [stored, if_pos (any_of_findIdx_some (hidx ▸ hi))]
      have hl : (es.toList.findIdx? fun e => knd.is k e.key) = some i := by rw [← hi]; obtain ⟨l⟩ := es; simp
      have := hp.modify hn hl v
      obtain ⟨l⟩ := es
      simpa using this
    · rw [stored, if_pos (any_of_findIdx_some (hidx ▸ hi)), keys_map_store]; exact hn
  | none =>
    have hnot : k ∉ kvs.map (·.1) := not_mem_of_findIdx_none (hidx ▸ hi)
    have hany : ¬ (kvs.any fun kv => decide (kv.1 = k)) = true := by
      rw [List.any_eq_true]; rintro ⟨kv, hkv, he⟩
      exact hnot (List.mem_map.mpr ⟨kv, hkv, of_decide_eq_true he⟩)
    refine wpAny_updateDictKeys (hz := hes) ho hd (hQ _ ⟨_, _, ep + 1, Heap.get?_update_self _ ho (Obj.isFreed_of_dict (Obj.data_mapDictKeys hd _)), hc.mapDictKeys _, Obj.data_mapDictKeys hd _, hk.push hkey _, ?_, ?_⟩ (Heap.SameBut.update ..))
    · rw [stored, if_neg hany]
      have := hp.append hkey (knd.hash k) v
      obtain ⟨l⟩ := es
      simpa using this
    · rw [stored, if_neg hany, List.map_append, List.nodup_append]
      refine ⟨hn, by simp, ?_⟩
      intro a ha b hb
      simp only [List.map_cons, List.map_nil, List.mem_singleton] at hb
      subst hb
      exact fun e => hnot (e ▸ ha)
theorem wpAny_mergeMapping {d o : Addr} {kvs more : List (K × Value)} {Q : Unit → Shared → Prop} (hdo : d ≠ o) (hoS : (o == sysModules) = false)
    (hd : s.heap.DictOf knd d kvs) (ho : s.heap.DictOf knd o more)
    (hQ : ∀ h', h'.DictOf knd d (merged kvs more) → h'.DictOf knd o more → Heap.SameBut d s.heap h' → Q () { s with heap := h' })
    (hsz : kvs.length + more.length ≤ sizeLine) :
    wpAny (model prog w) A (mergeMapping d (.ref o) false) Q E s := by
  obtain ⟨od, esd, epd, hod, hcd, hdd, hkd, hpd, hnd⟩ := id hd
  obtain ⟨oo, eso, epo, hoo, hco, hdo', hko, hpo, hno⟩ := id ho
  have hlen : more.length = eso.size := by rw [← hpo.length]; simp
  have loop : wpAny (model prog w) A (do
      let l ← dictEntries o
      let epoch ← dictEpoch o
      forIn (List.range l.size) PUnit.unit fun i (_ : PUnit) => (do
          let l' ← dictEntries o
          match l'[i]? with
            | some e => do
              holding [e.key, e.val] (dictPut d e.hash e.key e.val)
              let ep' ← dictEpoch o
              if (ep' != epoch) = true then do
                  (unsupported "dict.changed-during-merge" : Sem PUnit)
                  pure (ForInStep.yield PUnit.unit)
                else pure (ForInStep.yield PUnit.unit)
            | _ => do
              (unsupported "dict.changed-during-merge" : Sem PUnit)
              pure (ForInStep.yield PUnit.unit) : Sem (ForInStep PUnit))
      pure ()) Q E s := by
    refine wpAny_bind (wpAny_dictEntries hoo hdo' ?_)
    refine wpAny_bind (wpAny_dictEpoch hoo hdo' ?_)
    refine wpAny_bind ?_
    rw [List.range_eq_range']
    refine wpAny_forIn_list _
      (fun rest _ s' => ∃ h' i, s' = { s with heap := h' } ∧ rest = List.range' i (eso.size - i) ∧ i ≤ eso.size ∧ h'.DictOf knd d (merged kvs (more.take i)) ∧ h'.get? o = some oo ∧ Heap.SameBut d s.heap h')
      _ ?_ ?_ _ _ ⟨s.heap, 0, rfl, by simp, Nat.zero_le _, by simpa [merged] using hd, hoo, Heap.SameBut.refl _ _⟩
    · rintro x rest b s' ⟨h', i, rfl, hr, hi, hd', hoo', hs'⟩
      have hlt : i < eso.size := by
        rcases Nat.lt_or_ge i eso.size with h | h
        · exact h
        · rw [Nat.sub_eq_zero_of_le h] at hr; simp at hr
      obtain ⟨rfl, hrest⟩ : x = i ∧ rest = List.range' (i + 1) (eso.size - (i + 1)) := by
        have e : eso.size - i = (eso.size - (i + 1)) + 1 := by omega
        rw [e, List.range'_succ] at hr
        injection hr with h1 h2
        exact ⟨h1, h2⟩
      refine wpAny_bind (wpAny_dictEntries hoo' hdo' ?_)
      rw [Array.getElem?_eq_getElem hlt]
      obtain ⟨kv, hkv⟩ : ∃ kv, more[x]? = some kv := ⟨more[x]'(by rw [hlen]; exact hlt), List.getElem?_eq_getElem _⟩
      obtain ⟨k, v⟩ := kv
      obtain ⟨hkey, hval⟩ := hpo.get? (e := eso[x]) (by simp [hlt]) hkv
      obtain ⟨k', hkey', hhash⟩ := hko eso[x] (Array.getElem_mem hlt)
      obtain rfl : k' = k := knd.inj _ _ _ hkey' hkey
      show wpAny _ _ (holding [eso[x].key, eso[x].val] (dictPut d eso[x].hash eso[x].key eso[x].val) >>= _) _ _ _
      rw [hhash, hval]
      have hmx : (merged kvs (more.take x)).length ≤ sizeLine := by
        have e1 := merged_length_le kvs (more.take x)
        have e2 : (more.take x).length ≤ more.length := by rw [List.length_take]; omega
        omega
      refine wpAny_bind (wpAny_holding (wpAny_dictPut_pairs (hsz := hmx) hkey hd' fun h'' hd'' hs'' => ?_))
      have hoo'' : h''.get? o = some oo := (hs''.2 o (Ne.symm hdo)).trans hoo'
      refine wpAny_bind (wpAny_dictEpoch hoo'' hdo' ?_)
      rw [if_neg (by simp)]
      exact wpAny_pure ⟨h'', x + 1, rfl, hrest, hlt, by rw [merged_take_succ kvs more x (k', v) hkv]; exact hd'', hoo'', hs'.trans hs''⟩
    · rintro b s' ⟨h', i, rfl, hr, hi, hd', hoo', hs'⟩
      have hin : i = eso.size := by
        rcases Nat.lt_or_ge i eso.size with h | h
        · have e : eso.size - i = (eso.size - (i + 1)) + 1 := by omega
          rw [e, List.range'_succ] at hr; exact nomatch hr
        · exact Nat.le_antisymm hi h
      refine wpAny_pure (hQ h' ?_ ⟨oo, eso, epo, hoo', hco, hdo', hko, hpo, hno⟩ hs')
      rw [hin, ← hlen, List.take_length] at hd'; exact hd'
  unfold mergeMapping
  refine wpAny_bind ?_
  refine wpAny_isInstance ho.typeIs isSubtype_dict_dict ?_
  simp only [if_true]
  refine wpAny_bind (wpAny_specialOf ho.typeIs F.slot_dict_iter.lookup ?_)
  refine wpAny_bind (wpAny_pure ?_)
  simp only [beq_self_eq_true, hoS, Bool.false_eq_true, if_false]
  refine wpAny_bind (wpAny_dictEntries hod hdd ?_)
  split
  · refine wpAny_bind (wpAny_dictEntries hoo hdo' ?_)
    refine wpAny_bind ?_
    rw [← Array.forIn_toList]
    refine wpAny_forIn_list _ (fun rest _ s' => s' = s ∧ ∀ e ∈ rest, e ∈ eso) _ ?_ ?_ _ _ ⟨rfl, fun e he => by simpa using he⟩
    · rintro x rest b s' ⟨rfl, hr⟩
      obtain ⟨k', hkey', _⟩ := hko x (hr x List.mem_cons_self)
      have hc := knd.byValue _ _ hkey'
      have : ∀ b, x.key ≠ .ref b := fun b e => by rw [e] at hc; cases hc
      split
      · rename_i b e; exact absurd e (this b)
      · exact wpAny_pure ⟨rfl, fun e he => hr e (List.mem_cons_of_mem _ he)⟩
    · rintro b s' ⟨rfl, _⟩
      exact loop
  · exact loop
end

theorem dictDisplay_star (m : Sem Value) (k v : Sem Value) : dictDisplay [(none, m), (some k, v)] = (do
    let d ← alloc { cls := .type "dict", data := .dict #[] }
    let x ← holding [.ref d] m
    (((holding [.ref d, x] (mergeMapping d x false)).onRaise fun y => do let _ ← holding [.ref d, x, y] (runValue (.builtin "proto.let_go" {}))).tryCatch fun e => do
        if ← isInstance e (.type "AttributeError") then
          rule "dict.display.not-a-mapping"; raiseError "TypeError" s!"'{← typeNameOf x}' object is not a mapping"
        throw e).onRaise fun y => do let _ ← holding [.ref d, y] (runValue (.builtin "proto.let_go" {}))
    let sub ← holding [.ref d] (subDict [(k, v)])
    (holding [.ref d, .ref sub] (mergeMapping d (.ref sub) false)).onRaise fun x => do let _ ← holding [.ref d, x] (runValue (.builtin "proto.let_go" {}))
    pure (.ref d)) := by
  unfold dictDisplay
  simp only [List.forIn_cons, List.forIn_nil, List.isEmpty_nil, if_true, pure_bind, bind_assoc]
  simp
section
variable {X : Cx}
def tDStar (td tk tv : TE) : TE := fun σ H Q => ∀ D, H D = none → td σ (upd H D (.dK [])) fun x H1 => H1 D = some (.dK []) ∧ ∃ a kvs, x = .ref a ∧ a ≠ D ∧ Rd H1 a (.dK kvs) ∧
  ∀ S, upd H1 D (.dK kvs) S = none → tk σ (upd (upd H1 D (.dK kvs)) S (.dK [])) fun y H2 => tv σ H2 fun z H3 => H3 S = some (.dK []) ∧ H3 D = some (.dK kvs) ∧ ∃ k, y = kV k ∧ kvs.length < sizeLine ∧ Q (.ref D) (upd (upd H3 S (.dK [(k, z)])) D (.dK (putK kvs k z)))
theorem pe_dstar {dx kx vx : Expr} {pos : Pos} {td tk tv : TE} (hd : PE X dx td) (hk : PE X kx tk) (hv : PE X vx tv) : PE X (.Dict [none, some kx] [dx, vx] pos) (tDStar td tk tv) := ⟨fun pins s σ H Q I q => by
  rw [arm_eval_Dict]
  show wpAny _ _ (do standAt pos; dictDisplay [(none, do let x ← eval dx X.env; standAt pos; pure x), (some (eval kx X.env), do let x ← eval vx X.env; standAt pos; pure x)]) _ _ _
  refine wpAny_bind (wpAny_standAt ?_)
  rw [dictDisplay_star]
  refine wpAny_bind (wpAny_alloc ?_)
  generalize hD : s.heap.objs.size = D
  have hDn : H D = none := I.hok.fresh (Nat.le_of_eq hD)
  have I1 : Inv X pins σ (upd H D (.dK [])) { s with heap := s.heap.push { cls := .type "dict", data := .dict #[] } } := by
    rw [← hD]
    exact I.laid (o := .dK []) (h' := s.heap.push { cls := .type "dict", data := .dict #[] }) (t' := s.toks) (fun _ _ q => Heap.get?_push_of_some _ q) (Nat.le_refl _) (dk_empty s.heap I.big)
  refine wpAny_bind (wpAny_holding (wpAny_bind (thn (hd.run pins _ σ _ _ I1 (q D hDn)) fun m s2 ⟨x, H1, I2, rx, lk, a, kvs, ex, ne, rd, q1⟩ => wpAny_bind (wpAny_standAt (wpAny_pure ?_)))))
  subst ex
  cases (show m = Value.ref a from rx)
  obtain ⟨z, hds, vs, rel, dd⟩ := dk_rd I2.hok rd
  obtain ⟨zD, hdD, vs0, r0, ddD⟩ := dk_of I2.hok lk
  cases r0
  have zl : ([] : List (Key × Value)).length + vs.length ≤ sizeLine := by rw [← rel.length]; simpa using z
  refine wpAny_bind (wpAny_onRaise (wpAny_tryCatch (wpAny_onRaise (wpAny_holding (wpAny_mergeMapping (Ne.symm ne) hds ddD dd (fun h' d1 d2 hs => ?_) zl)))))
  have hnd : (vs.map (·.1)).Nodup := by
    obtain ⟨_, _, _, _, _, _, _, _, hn⟩ := dd
    exact hn
  rw [merged_nil_of_nodup vs hnd] at d1
  have I3 := d_write (t' := s2.toks) I2 (by rw [lk]; exact True.intro) hs (let ⟨q, _, _, hq, _⟩ := d1; ⟨q, hq⟩) (dk_new z hdD rel d1)
  refine wpAny_bind (wpAny_holding (wpAny_subDict (knd := mixKind X.prog X.w) (show 1 ≤ 15 by decide) ?_))
  generalize hS : (({ s2 with heap := h', toks := s2.toks } : Shared)).heap.objs.size = S
  have hS' : h'.objs.size = S := hS
  have hSn : upd H1 D (.dK kvs) S = none := I3.hok.fresh (Nat.le_of_eq hS)
  have I4 : Inv X pins σ (upd (upd H1 D (.dK kvs)) S (.dK [])) { s2 with heap := h'.push { cls := .type "dict", data := .dict #[] } } := by
    rw [← hS]
    exact I3.laid (o := .dK []) (h' := h'.push { cls := .type "dict", data := .dict #[] }) (t' := s2.toks) (fun _ _ q => Heap.get?_push_of_some _ q) (Nat.le_refl _) (dk_empty h' I3.big)
  unfold evalPairs
  refine wpAny_bind (thn (hk.run pins _ σ _ _ I4 (q1 S hSn)) fun u s5 ⟨y, H2, I5, ry, q2⟩ => ?_)
  refine wpAny_bind (wpAny_holding (wpAny_bind (thn (hv.run pins s5 σ H2 _ I5 q2) fun v s6 ⟨z6, H3, I6, rv, e1, e2, k, ey, hlen, qq⟩ => wpAny_bind (wpAny_standAt (wpAny_pure ?_)))))
  refine wpAny_bind (wpAny_holding ?_)
  unfold evalPairs
  refine wpAny_pure (wpAny_pure ?_)
  subst ey
  obtain ⟨zS, hdS, vsS, rS, ddS⟩ := dk_of I6.hok e1
  cases rS
  obtain ⟨rs, c, rk⟩ := carries_of (P := X.prog) (w := X.w) (kvs := [(k, z6)]) (ws := [(u, v)]) (.cons ⟨ry, rv⟩ .nil)
  refine ⟨rs, c, ddS, fun h7 d7 hs7 => ?_⟩
  have d7 : h7.DictOf (mixKind X.prog X.w) S (merged [] rs) := d7
  have hl1 : rs.length = 1 := by
    have := Paired.length rk
    simpa using this.symm
  have hm1 : merged [] rs = rs := by
    match rs, hl1 with
    | [r], _ => rfl
  rw [hm1] at d7
  have hne : D ≠ S := fun e => by rw [← e, upd_same] at hSn; cases hSn
  have I7 := d_write (t' := s6.toks + 1) I6 (by rw [e1]; exact True.intro) hs7 (let ⟨q, _, _, hq, _⟩ := d7; ⟨q, hq⟩) (dk_new (kvs := [(k, z6)]) (by show 1 ≤ sizeLine; decide) hdS rk d7)
  have e8 : upd H3 S (.dK [(k, z6)]) D = some (.dK kvs) := by rw [upd_ne hne]; exact e2
  obtain ⟨z8, hd8, vs8, r8, dd8⟩ := dk_of I7.hok e8
  obtain ⟨z9, hd9, vs9, r9, dd9⟩ := dk_of (a := S) I7.hok upd_same
  have l9 : vs9.length = 1 := by
    have := Paired.length r9
    simpa using this.symm
  refine wpAny_bind (wpAny_onRaise (wpAny_holding (wpAny_mergeMapping hne hd9 dd8 dd9 (fun h' d1 d2 hs => wpAny_pure ?_) (by rw [l9, ← Paired.length r8]; omega))))
  have rr : KV (putK kvs k z6) (merged vs8 vs9) := by
    have := KV.merge (more := [(k, z6)]) r9 r8
    exact this
  refine ⟨.ref D, _, d_write I7 (by rw [e8]; exact True.intro) hs (let ⟨q, _, _, hq, _⟩ := d1; ⟨q, hq⟩) (dk_new ?_ hd8 rr d1), rfl, qq⟩
  have := length_putK kvs k z6
  omega⟩
end
end Mw
set_option Elab.async false
set_option linter.all false
set_option maxRecDepth 100000
set_option maxHeartbeats 2000000
namespace Mw
open PySem PySem.Spec PyProof.Rows L2
section
variable {X : Cx} {Γ : Gm} {W : WX} {pos : Pos}
def eDNew : EM := fun _ A => .ok (.ref A.length) (A ++ [.dct []])
theorem de_dnew : DE X Γ W (.Dict [] [] pos) eDNew :=
  pe_dnewK.imp fun σ H Q ⟨ρ, A, τ, a, h⟩ p hp => by
    have x : Ext Γ ρ A H (rho ρ A.length p) (A ++ [.dct []]) (upd H p (.dK [])) := Ext.track a.rel hp
    exact h _ _ _ x (a.rel.track hp ⟨[], upd_same, rfl⟩) ⟨by simp, by rw [rho_at]⟩
def eDStar (d k v : EM) : EM := fun τ A => match d τ A with
  | .ok x A1 => (match dOf x A1, k τ A1 with
    | some kvs, .ok y A2 => (match keyOf y, v τ A2 with
      | some key, .ok z A3 => if Nat.blt kvs.length big = true then .ok (.ref A3.length) (A3 ++ [.dct (putKA kvs key z)]) else .stuck
      | _, _ => .stuck)
    | _, _ => .stuck)
  | _ => .stuck
theorem dOf_ne {ρ : Nat → Addr} {A : AH} {H : Hp} {v : AV} {a D : Addr} {kvs : List (AK × AV)} (R : Rel Γ ρ A H) (hD : D ∈ Γ.hid) (e : dOf v A = some kvs) (r : VR Γ ρ A H v (.ref a)) : a ≠ D := fun z => by
  subst z
  cases v with
  | dct kvs =>
    obtain ⟨b, o, kus, e1, n, _⟩ := r
    cases e1
    exact n (.inr hD)
  | ref i =>
    obtain ⟨_, e1⟩ := r
    cases e1
    unfold dOf at e
    simp only at e
    split at e
    · rename_i kvs' ei
      exact R.hs i _ ei (by intro z; cases z) hD
    · cases e
  | _ => cases e
theorem de_dstar {dx kx vx : Expr} {md mk mv : EM} (hd : ∀ l, DE X (Γ.hd l) WF dx md) (hk : ∀ l, DE X (Γ.hd l) WF kx mk) (hv : ∀ l, DE X (Γ.hd l) WF vx mv) : DE X Γ W (.Dict [none, some kx] [dx, vx] pos) (eDStar md mk mv) :=
  (pe_dstar (PE.some hd) (PE.some hk) (PE.some hv)).imp fun σ H Q ⟨ρ, A, τ, a, h⟩ D hD => by
    have F0 : Fill Γ D ρ A H ρ A (upd H D (.dK [])) (.dK []) := Fill.start a.rel hD ⟨rfl, (fun _ e => by cases e), (fun _ e => by cases e)⟩
    refine ⟨[D], ρ, A, τ, ⟨F0.R, a.er.extH F0.x⟩, ?_⟩
    unfold eDStar at h
    cases e1 : md τ A with
    | ok x A1 =>
      rw [e1] at h
      intro ρ1 H1 u x1 R1 r1
      have F1 := F0.step x1 R1
      simp only at h
      split at h
      · rename_i kvs y A2 ed ek
        obtain ⟨b, kus, rfl, hb, rb⟩ := dOf_ok R1 ed r1
        have ne := dOf_ne (D := D) R1 (by simp) ed r1
        refine ⟨F1.dD, b, kus, rfl, ne, hb, fun S hS => ?_⟩
        obtain ⟨F2, xw2⟩ := F1.write (o' := .dK kus) (fun _ e => by cases e) (fun _ _ e => by cases e) ⟨rfl, (fun _ e => by cases e), (fun _ e => by cases e)⟩
        have G0 : Fill (Γ.hd [D]) S ρ1 A1 _ ρ1 A1 _ (.dK []) := Fill.start F2.R hS ⟨rfl, (fun _ e => by cases e), (fun _ e => by cases e)⟩
        refine ⟨[S] ++ [D], ρ1, A1, τ, ⟨G0.R, (a.er.extH F2.x).extH G0.x⟩, ?_⟩
        rw [ek]
        intro ρ2 H2 uy x2 R2 r2
        have G1 := G0.step x2 R2
        split at h
        · rename_i key z A3 eky ev
          refine ⟨[S] ++ [D], ρ2, A2, τ, ⟨R2, ((a.er.extH F2.x).extH G0.x).ext x2⟩, ?_⟩
          rw [ev]
          intro ρ3 H3 uz x3 R3 r3
          have G2 := G1.step x3 R3
          split at h
          · rename_i hl
            have hl' := blt_lt hl
            obtain ⟨G3, xw3⟩ := G2.write (o' := .dK [(kK key, uz)]) (fun _ e => by cases e) (fun _ _ e => by cases e) ⟨rfl, (fun _ e => by cases e), (fun _ e => by cases e)⟩
            obtain ⟨xG, RG⟩ := G3.done
            have F3 := F2.step xG RG
            obtain ⟨F4, xw4⟩ := F3.write (o' := .dK (putK kus (kK key) uz)) (fun _ e => by cases e) (fun _ _ e => by cases e) ⟨rfl, (fun _ e => by cases e), (fun _ e => by cases e)⟩
            refine ⟨G2.dD, ?_, kK key, keyOf_ok eky r2, by rw [KRs.length rb, ← big_eq]; exact hl', ?_⟩
            · have hz : S ≠ D := fun e => by subst e; rw [upd_same] at hS; cases hS
              have := F3.dD
              rw [upd_ne (Ne.symm hz)] at this
              exact this
            · have rz : VR (Γ.hd [D]) ρ3 A3 (upd H3 S (.dK [(kK key, uz)])) z uz := VR.bare .same _ (VR.extH xw3 _ r3)
              have rk : KRs (Γ.hd [D]) ρ3 A3 (upd H3 S (.dK [(kK key, uz)])) kvs kus := KRs.ext xG _ (KRs.extH xw2 _ rb)
              obtain ⟨xf, Rf⟩ := F4.adopt (ao := .dct (putKA kvs key z)) ⟨_, F4.dD, KRs.extH xw4 _ (rk.put rz)⟩
              exact h _ _ _ xf Rf ⟨by simp, by rw [rho_at]⟩
          · exact h.elim
        · exact h.elim
      · exact h.elim
    | exc c fs A1 => rw [e1] at h; exact h.elim
    | stuck => rw [e1] at h; exact h.elim
end
end Mw
set_option Elab.async false
set_option linter.all false
set_option maxRecDepth 100000
set_option maxHeartbeats 2000000
namespace Mw
open PySem PySem.Spec PyProof.Rows L2
abbrev CM := List AV → AH → Out AV
structure CallM (X : Cx) (Γ : Gm) (f : Value) (m : CM) : Prop where
  run : ∀ (pins : List (Addr × Obj)) (s : Shared) (σ : L2.St) (H : Hp) (Q : VK) (E : EK) (ρ : Nat → Addr) (A : AH) (xs : List AV) (us : List V) (vs : List Value), Inv X pins σ H s → Rel Γ ρ A H → VRs Γ ρ A H xs us → Vals us vs →
    PostE Γ E ρ A H Q (m xs A) → wpAny (model X.prog X.w) X.A (call f vs) (EP X pins σ Q) X.xe s
def orC (f g : CM) : CM := fun xs A => match f xs A with
  | .stuck => g xs A
  | r => r
def eCall (m : CM) (a : AM) : EM := fun τ A => (a τ A).bind m
section
variable {X : Cx} {Γ : Gm} {W : WX} {f : Value} {m n : CM}
theorem CallM.or (a : CallM X Γ f m) (b : CallM X Γ f n) : CallM X Γ f (orC m n) := ⟨fun pins s σ H Q E ρ A xs us vs I R r q h => by
  unfold orC at h
  cases e : m xs A with
  | ok v A' => exact a.run pins s σ H Q E ρ A xs us vs I R r q (by rw [e] at h ⊢; exact h)
  | exc c fs A' => exact a.run pins s σ H Q E ρ A xs us vs I R r q (by rw [e] at h ⊢; exact h)
  | stuck => rw [e] at h; exact b.run pins s σ H Q E ρ A xs us vs I R r q h⟩
theorem CallM.of {r : List V → Hp → VK → Prop} (c : CallR X f r) (h : ∀ (Q : VK) (E : EK) (ρ : Nat → Addr) (A : AH) (H : Hp) (xs : List AV) (us : List V), Rel Γ ρ A H → VRs Γ ρ A H xs us → PostE Γ E ρ A H Q (m xs A) → r us H Q) : CallM X Γ f m :=
  ⟨fun pins s σ H Q E ρ A xs us vs I R r q k => c pins s σ H us vs Q I q (h Q E ρ A H xs us R r k)⟩
def rC (Γ : Gm) (m : CM) : List V → Hp → VK → Prop := fun us H Q => ∃ (E : EK) (ρ : Nat → Addr) (A : AH) (xs : List AV), Rel Γ ρ A H ∧ VRs Γ ρ A H xs us ∧ PostE Γ E ρ A H Q (m xs A)
theorem CallM.r (c : CallM X Γ f m) : CallR X f (rC Γ m) := fun pins s σ H us vs Q I q ⟨E, ρ, A, xs, R, r, k⟩ => c.run pins s σ H Q E ρ A xs us vs I R r q k
variable {x : Str} {p pos : Pos} {e : Expr} {es : List Expr} {bid T : String} {ma : AM}
theorem call_wp {σ : List (Option V)} {H : Hp} {Q : VK} (h : wpE Γ W (eCall m ma) σ H Q) : tCB (rC Γ m) (wpA Γ W ma) σ H Q := by
  obtain ⟨ρ, A, τ, a, h⟩ := h
  exact wpG.step a h fun vs A1 ρ1 H1 us _ x1 a1 r1 h1 => ⟨_, ρ1, A1, vs, a1.rel, r1, h1⟩
theorem de_callB (c : CallM X Γ (.builtin bid) m) (hg : Gl X x) (hm : X.mg x = none) (hv : bootBuiltins x = some (.builtin bid)) (ha : DA X Γ W (e :: es) ma) (hn : x ≠ "__name__" := by decide) (hdb : (x == ("__debug__" : Str)) = false := by decide)
    (he : starEach (e :: es) X.env = (false, eval e X.env) :: starEach es X.env := by rfl) (hpl : (backTo pos (starEach es X.env)).any (·.1) = false := by rfl) : DE X Γ W (.Call (.Name x p) (e :: es) [] pos) (eCall m ma) :=
  (pe_callB c.r hg hm hv ha hn hdb he hpl).imp fun σ H Q h => call_wp h
theorem de_callTy (c : CallM X Γ (.type T) m) (hg : Gl X x) (hm : X.mg x = none) (hv : bootBuiltins x = some (.type T)) (ha : DA X Γ W (e :: es) ma) (hn : x ≠ "__name__" := by decide) (hdb : (x == ("__debug__" : Str)) = false := by decide)
    (he : starEach (e :: es) X.env = (false, eval e X.env) :: starEach es X.env := by rfl) (hpl : (backTo pos (starEach es X.env)).any (·.1) = false := by rfl) : DE X Γ W (.Call (.Name x p) (e :: es) [] pos) (eCall m ma) :=
  (pe_callTy c.r hg hm hv ha hn hdb he hpl).imp fun σ H Q h => call_wp h
def cLen : CM := fun xs A => match xs with
  | [v] => (match rdS v A with
    | some ys => .ok (.int ys.length) A
    | none => (match dOf v A with
      | some kvs => .ok (.int kvs.length) A
      | none => (match v with
        | .str z => if Nat.ble z.length big = true then .ok (.int z.length) A else .stuck
        | _ => .stuck)))
  | _ => .stuck
theorem call_lenRd : CallR X (.builtin "len") (fun xs H Q => ∃ a kvs, xs = [V.ref a] ∧ Rd H a (.dK kvs) ∧ Q (.int kvs.length) H) := by
  rintro pins s σ H xs us Q I r ⟨a, kvs, rfl, ha, q⟩
  obtain ⟨u, rfl, ru⟩ := vals1 r
  cases ru
  exact d_len I ha fun t s' I' => ⟨.int kvs.length, H, I', ⟨t, rfl⟩, q⟩
theorem CallR.or {r r' : List V → Hp → VK → Prop} (a : CallR X f r) (b : CallR X f r') : CallR X f (fun xs H Q => r xs H Q ∨ r' xs H Q) := fun pins s σ H xs us Q I rr h => h.elim (a pins s σ H xs us Q I rr) (b pins s σ H xs us Q I rr)
theorem c_len (hK : X.K = Γ.K) : CallM X Γ (.builtin "len") cLen := .of (call_len_seq.or (call_lenRd.or call_len_str)) fun Q E ρ A H xs us R r h => by
  unfold cLen at h
  split at h
  · rename_i v
    obtain ⟨u, _, rfl, rv, rfl⟩ := r
    split at h
    · rename_i ys ey
      obtain ⟨a, ws, rfl, hs, rs⟩ := rdS_ok R ey rv
      exact .inl ⟨a, ws, rfl, by rw [hK]; exact hs, by rw [rs.length]; exact post_val R h rfl⟩
    · split at h
      · rename_i kvs ek
        obtain ⟨a, kus, rfl, hd, rd⟩ := dOf_ok R ek rv
        exact .inr (.inl ⟨a, kus, rfl, hd, by rw [KRs.length rd]; exact post_val R h rfl⟩)
      · split at h
        · rename_i z _ _
          split at h
          · rename_i hz
            exact .inr (.inr ⟨_, by rw [show u = _ from rv], by rw [str_len, ← big_eq]; exact Nat.le_of_ble_eq_true hz, by rw [str_len]; exact post_val R h rfl⟩)
          · exact h.elim
        · exact h.elim
  · exact h.elim
def cInt : CM := fun xs A => match xs with
  | [.int i] => .ok (.int i) A
  | [.bl b] => .ok (.int (if b then 1 else 0)) A
  | _ => .stuck
theorem c_int : CallM X Γ (.type "int") cInt := .of call_int1 fun Q E ρ A H xs us R r h => by
  unfold cInt at h
  split at h
  · obtain ⟨u, _, rfl, rv, rfl⟩ := r
    exact .inl ⟨_, by rw [show u = _ from rv], post_val R h rfl⟩
  · obtain ⟨u, _, rfl, rv, rfl⟩ := r
    exact .inr ⟨_, by rw [show u = _ from rv], post_val R h rfl⟩
  · exact h.elim
def cAbs : CM := fun xs A => match xs with
  | [.int i] => .ok (.int (if i < 0 then -i else i)) A
  | _ => .stuck
theorem c_abs : CallM X Γ (.builtin "abs") cAbs := .of call_abs fun Q E ρ A H xs us R r h => by
  unfold cAbs at h
  split at h
  · obtain ⟨u, _, rfl, rv, rfl⟩ := r
    exact ⟨_, by rw [show u = _ from rv], post_val R h rfl⟩
  · exact h.elim
def cMax2 : CM := fun xs A => match xs with
  | [.int i, .int j] => .ok (.int (if j > i then j else i)) A
  | _ => .stuck
theorem c_max2 (hc : X.calm = true) : CallM X Γ (.builtin "max") cMax2 := .of (call_max2 hc) fun Q E ρ A H xs us R r h => by
  unfold cMax2 at h
  split at h
  · obtain ⟨u, _, rfl, rv, w, _, rfl, rw', rfl⟩ := r
    exact ⟨_, _, by rw [show u = _ from rv, show w = _ from rw'], post_val R h rfl⟩
  · exact h.elim
def cMin2 : CM := fun xs A => match xs with
  | [.int i, .int j] => .ok (.int (if j < i then j else i)) A
  | _ => .stuck
theorem c_min2 (hc : X.calm = true) : CallM X Γ (.builtin "min") cMin2 := .of (call_min2 hc) fun Q E ρ A H xs us R r h => by
  unfold cMin2 at h
  split at h
  · obtain ⟨u, _, rfl, rv, w, _, rfl, rw', rfl⟩ := r
    exact ⟨_, _, by rw [show u = _ from rv, show w = _ from rw'], post_val R h rfl⟩
  · exact h.elim
def intsOf : List AV → Option (List Int)
  | [] => some []
  | .int i :: r => (intsOf r).map (i :: ·)
  | _ => none
theorem intsOf_ok {ρ : Nat → Addr} {A : AH} {H : Hp} : ∀ {xs : List AV} {us : List V} {ns : List Int}, VRs Γ ρ A H xs us → intsOf xs = some ns → us = ns.map V.int
  | [], us, ns, r, e => by cases e; exact r
  | x :: xs, us, ns, ⟨u, r, e1, h, t⟩, e => by
    cases x <;> try cases e
    rename_i i
    unfold intsOf at e
    obtain ⟨ms, em, rfl⟩ := Option.map_eq_some_iff.mp e
    rw [e1, intsOf_ok t em, show u = .int i from h]; rfl
def blsOf : List AV → Option (List Bool)
  | [] => some []
  | .bl i :: r => (blsOf r).map (i :: ·)
  | _ => none
theorem blsOf_ok {ρ : Nat → Addr} {A : AH} {H : Hp} : ∀ {xs : List AV} {us : List V} {ns : List Bool}, VRs Γ ρ A H xs us → blsOf xs = some ns → us = ns.map V.bl
  | [], us, ns, r, e => by cases e; exact r
  | x :: xs, us, ns, ⟨u, r, e1, h, t⟩, e => by
    cases x <;> try cases e
    rename_i i
    unfold blsOf at e
    obtain ⟨ms, em, rfl⟩ := Option.map_eq_some_iff.mp e
    rw [e1, blsOf_ok t em, show u = .bl i from h]; rfl
def sumI : List Int → Int
  | [] => 0
  | x :: xs => x + sumI xs
theorem sumI_eq : ∀ ns : List Int, ns.sum = sumI ns
  | [] => rfl
  | x :: xs => by rw [List.sum_cons, sumI_eq xs]; rfl
def cSum : CM := fun xs A => match xs with
  | [v] => (match rdL v A with
    | some ys => (match intsOf ys with
      | some ns => .ok (.int (sumI ns)) A
      | none => .stuck)
    | none => .stuck)
  | _ => .stuck
theorem c_sum (hK : X.K = Γ.K) (hc : X.calm = true) : CallM X Γ (.builtin "sum") cSum := .of (cr_sum hc) fun Q E ρ A H xs us R r h => by
  unfold cSum at h
  split at h
  · obtain ⟨u, _, rfl, rv, rfl⟩ := r
    split at h
    · rename_i ys ey
      obtain ⟨a, ws, rfl, hs, rs⟩ := rdL_ok R ey rv
      split at h
      · rename_i ns en
        have e := intsOf_ok rs en
        exact ⟨a, ns, rfl, by rw [hK, ← e]; exact hs, by rw [sumI_eq]; exact post_val R h rfl⟩
      · exact h.elim
    · exact h.elim
  · exact h.elim
def allB : List Bool → Bool
  | [] => true
  | b :: r => if b = true then allB r else false
theorem allB_eq : ∀ bs : List Bool, bs.all id = allB bs
  | [] => rfl
  | b :: r => by cases b <;> simp [allB, ← allB_eq r]
def anyB : List Bool → Bool
  | [] => false
  | b :: r => if b = true then true else anyB r
theorem anyB_eq : ∀ bs : List Bool, bs.any id = anyB bs
  | [] => rfl
  | b :: r => by cases b <;> simp [anyB, ← anyB_eq r]
def cBls (f : List Bool → Bool) : CM := fun xs A => match xs with
  | [v] => (match rdL v A with
    | some ys => (match blsOf ys with
      | some ns => .ok (.bl (f ns)) A
      | none => .stuck)
    | none => .stuck)
  | _ => .stuck
theorem c_all (hK : X.K = Γ.K) (hc : X.calm = true) : CallM X Γ (.builtin "all") (cBls allB) := .of (cr_all hc) fun Q E ρ A H xs us R r h => by
  unfold cBls at h
  split at h
  · obtain ⟨u, _, rfl, rv, rfl⟩ := r
    split at h
    · rename_i ys ey
      obtain ⟨a, ws, rfl, hs, rs⟩ := rdL_ok R ey rv
      split at h
      · rename_i ns en
        have e := blsOf_ok rs en
        exact ⟨a, ns, rfl, by rw [hK, ← e]; exact hs, by rw [allB_eq]; exact post_val R h rfl⟩
      · exact h.elim
    · exact h.elim
  · exact h.elim
theorem c_any (hK : X.K = Γ.K) (hc : X.calm = true) : CallM X Γ (.builtin "any") (cBls anyB) := .of (cr_any hc) fun Q E ρ A H xs us R r h => by
  unfold cBls at h
  split at h
  · obtain ⟨u, _, rfl, rv, rfl⟩ := r
    split at h
    · rename_i ys ey
      obtain ⟨a, ws, rfl, hs, rs⟩ := rdL_ok R ey rv
      split at h
      · rename_i ns en
        have e := blsOf_ok rs en
        exact ⟨a, ns, rfl, by rw [hK, ← e]; exact hs, by rw [anyB_eq]; exact post_val R h rfl⟩
      · exact h.elim
    · exact h.elim
  · exact h.elim
def maxI (x : Int) : List Int → Int
  | [] => x
  | y :: r => maxI (if y > x then y else x) r
def minI (x : Int) : List Int → Int
  | [] => x
  | y :: r => minI (if y < x then y else x) r
theorem maxI_is : ∀ (ns : List Int) (x m : Int), m ∈ x :: ns → (∀ y, y ∈ x :: ns → y ≤ m) → m = maxI x ns
  | [], x, m, h, _ => by simpa [maxI] using h
  | y :: r, x, m, h, k => by
    have hx := k x (by simp)
    have hy := k y (by simp)
    unfold maxI
    refine maxI_is r _ m ?_ fun z hz => ?_
    · simp only [List.mem_cons] at h ⊢
      rcases h with h | h | h
      · subst h; left; split <;> omega
      · subst h; left; split <;> omega
      · exact .inr h
    · simp only [List.mem_cons] at hz
      rcases hz with h | h
      · subst h; split <;> assumption
      · exact k z (by simp [h])
theorem minI_is : ∀ (ns : List Int) (x m : Int), m ∈ x :: ns → (∀ y, y ∈ x :: ns → m ≤ y) → m = minI x ns
  | [], x, m, h, _ => by simpa [minI] using h
  | y :: r, x, m, h, k => by
    have hx := k x (by simp)
    have hy := k y (by simp)
    unfold minI
    refine minI_is r _ m ?_ fun z hz => ?_
    · simp only [List.mem_cons] at h ⊢
      rcases h with h | h | h
      · subst h; left; split <;> omega
      · subst h; left; split <;> omega
      · exact .inr h
    · simp only [List.mem_cons] at hz
      rcases hz with h | h
      · subst h; split <;> assumption
      · exact k z (by simp [h])
def cBest (f : Int → List Int → Int) : CM := fun xs A => match xs with
  | [v] => (match rdL v A with
    | some ys => (match intsOf ys with
      | some (n :: ns) => .ok (.int (f n ns)) A
      | _ => .stuck)
    | none => .stuck)
  | _ => .stuck
theorem c_max (hK : X.K = Γ.K) (hc : X.calm = true) : CallM X Γ (.builtin "max") (cBest maxI) := .of (cr_max hc) fun Q E ρ A H xs us R r h => by
  unfold cBest at h
  split at h
  · obtain ⟨u, _, rfl, rv, rfl⟩ := r
    split at h
    · rename_i ys ey
      obtain ⟨a, ws, rfl, hs, rs⟩ := rdL_ok R ey rv
      split at h
      · rename_i n ns en
        have e := intsOf_ok rs en
        exact ⟨a, n :: ns, rfl, by rw [hK, ← e]; exact hs, Nat.succ_pos _, fun m h1 h2 => by rw [maxI_is ns n m h1 h2]; exact post_val R h rfl⟩
      · exact h.elim
    · exact h.elim
  · exact h.elim
theorem c_min (hK : X.K = Γ.K) (hc : X.calm = true) : CallM X Γ (.builtin "min") (cBest minI) := .of (cr_min hc) fun Q E ρ A H xs us R r h => by
  unfold cBest at h
  split at h
  · obtain ⟨u, _, rfl, rv, rfl⟩ := r
    split at h
    · rename_i ys ey
      obtain ⟨a, ws, rfl, hs, rs⟩ := rdL_ok R ey rv
      split at h
      · rename_i n ns en
        have e := intsOf_ok rs en
        exact ⟨a, n :: ns, rfl, by rw [hK, ← e]; exact hs, Nat.succ_pos _, fun m h1 h2 => by rw [minI_is ns n m h1 h2]; exact post_val R h rfl⟩
      · exact h.elim
    · exact h.elim
  · exact h.elim
def cTuple : CM := fun xs A => match xs with
  | [.tup ys] => .ok (.tup ys) A
  | [v] => (match rdL v A with
    | some ys => .ok (.tup ys) A
    | none => .stuck)
  | _ => .stuck
theorem c_tuple (hK : X.K = Γ.K) : CallM X Γ (.type "tuple") cTuple := .of call_tuple_of fun Q E ρ A H xs us R r h => by
  unfold cTuple at h
  split at h
  · obtain ⟨u, _, rfl, ⟨a, ws, rfl, hs, rs⟩, rfl⟩ := r
    exact ⟨a, ws, rfl, .inr ⟨by rw [hK]; exact hs, post_val R h ⟨a, ws, rfl, hs, rs⟩⟩⟩
  · obtain ⟨u, _, rfl, rv, rfl⟩ := r
    split at h
    · rename_i ys ey
      obtain ⟨a, ws, rfl, hs, rs⟩ := rdL_ok R ey rv
      exact ⟨a, ws, rfl, .inl ⟨by rw [hK]; exact hs, post_newT R h rs⟩⟩
    · exact h.elim
  · exact h.elim
def cList (fz : Bool) : CM := fun xs A => match xs with
  | [v] => (match rdS v A, dOf v A with
    | some ys, _ => newL fz ys A
    | none, some kvs => newL fz (kvs.map fun kv => kA kv.1) A
    | none, none => .stuck)
  | _ => .stuck
theorem KRs.keys {ρ : Nat → Addr} {A : AH} {H : Hp} : ∀ {kvs : List (AK × AV)} {kus : List (Key × V)}, KRs Γ ρ A H kvs kus → VRs Γ ρ A H (kvs.map fun kv => kA kv.1) (kus.map fun kv => kV kv.1)
  | [], _, r => by rw [show _ = ([] : List (Key × V)) from r]; rfl
  | (k, v) :: kvs, _, ⟨u, r, e, h, t⟩ => by rw [e]; exact ⟨_, _, rfl, kA_ok, KRs.keys t⟩
theorem c_list {fz : Bool} (hK : X.K = Γ.K) (hc : X.calm = true) : CallM X Γ (.type "list") (cList fz) := .of (call_list_of.or (call_listD hc)) fun Q E ρ A H xs us R r h => by
  unfold cList at h
  split at h
  · obtain ⟨u, _, rfl, rv, rfl⟩ := r
    split at h
    · rename_i ys _ ey
      obtain ⟨a, ws, rfl, hs, rs⟩ := rdS_ok R ey rv
      exact .inl ⟨a, ws, rfl, by rw [hK]; exact hs, post_newL R h rs⟩
    · rename_i kvs _ ek
      obtain ⟨a, kus, rfl, hd, rd⟩ := dOf_ok R ek rv
      exact .inr ⟨a, kus, rfl, hd, post_newL R h rd.keys⟩
    · exact h.elim
  · exact h.elim
def pairOf : AV → Option (AK × AV)
  | .tup [k, v] => (match keyOf k with
    | some k => some (k, v)
    | none => none)
  | _ => none
def pairsOf : List AV → Option (List (AK × AV))
  | [] => some []
  | x :: r => (match pairOf x, pairsOf r with
    | some kv, some r => some (kv :: r)
    | _, _ => none)
def mergeKA (kvs more : List (AK × AV)) : List (AK × AV) := more.foldl (fun acc kv => putKA acc kv.1 kv.2) kvs
theorem pairsOf_ok (hK : X.K = Γ.K) {ρ : Nat → Addr} {A : AH} {H : Hp} : ∀ {xs : List AV} {us : List V} {kvs : List (AK × AV)}, VRs Γ ρ A H xs us → pairsOf xs = some kvs → ∃ ps kus, us = ps.map V.ref ∧ Paired (fun p kv => SqT X.K H p [kV kv.1, kv.2]) ps kus ∧ KRs Γ ρ A H kvs kus
  | [], us, kvs, r, e => by cases e; exact ⟨[], [], r, .nil, rfl⟩
  | x :: xs, us, kvs, ⟨u, r, e1, h, t⟩, e => by
    unfold pairsOf at e
    split at e
    · rename_i kv rest ek er
      cases e
      obtain ⟨ps, kus, rfl, pp, rk⟩ := pairsOf_ok hK t er
      unfold pairOf at ek
      split at ek
      · split at ek
        · rename_i key ek
          cases ek
          obtain ⟨a, ws, rfl, hs, w1, r1, rfl, g1, w2, r2, rfl, g2, rfl⟩ := h
          refine ⟨a :: ps, (kK key, w2) :: kus, by rw [e1]; rfl, .cons (by rw [hK]; rw [keyOf_ok ek g1] at hs; exact hs) pp, _, _, rfl, g2, rk⟩
        · cases ek
      · cases ek
    · cases e
theorem KRs.merge {ρ : Nat → Addr} {A : AH} {H : Hp} : ∀ {more : List (AK × AV)} {moru : List (Key × V)} {kvs : List (AK × AV)} {kus : List (Key × V)}, KRs Γ ρ A H more moru → KRs Γ ρ A H kvs kus → KRs Γ ρ A H (mergeKA kvs more) (mergeK kus moru)
  | [], _, kvs, kus, r, q => by rw [show _ = ([] : List (Key × V)) from r]; exact q
  | (k, v) :: more, _, kvs, kus, ⟨u, r, e, h, t⟩, q => by rw [e]; exact (show KRs Γ ρ A H (mergeKA (putKA kvs k v) more) (mergeK (putK kus (kK k) u) r) from KRs.merge t (q.put h))
def newD (kvs : List (AK × AV)) (A : AH) : Out AV := .ok (.ref A.length) (A ++ [.dct kvs])
theorem post_newD {E : EK} {ρ : Nat → Addr} {A : AH} {H : Hp} {Q : VK} {kvs : List (AK × AV)} {kus : List (Key × V)} (R : Rel Γ ρ A H) (h : PostE Γ E ρ A H Q (newD kvs A)) (r : KRs Γ ρ A H kvs kus) : ∀ p, H p = none → Q (.ref p) (upd H p (.dK kus)) := fun p hp => by
  have x : Ext Γ ρ A H (rho ρ A.length p) (A ++ [.dct kvs]) (upd H p (.dK kus)) := Ext.track R hp
  exact h _ _ _ x (R.track hp ⟨kus, upd_same, KRs.ext x _ r⟩) ⟨by simp, by rw [rho_at]⟩
def cDict : CM := fun xs A => match xs with
  | [v] => (match dOf v A, rdL v A with
    | some kvs, _ => newD kvs A
    | none, some ys => (match pairsOf ys with
      | some kvs => newD (mergeKA [] kvs) A
      | none => .stuck)
    | none, none => .stuck)
  | _ => .stuck
theorem c_dict (hK : X.K = Γ.K) (hc : X.calm = true) : CallM X Γ (.type "dict") cDict := .of (call_dictD.or (call_dictP hc)) fun Q E ρ A H xs us R r h => by
  unfold cDict at h
  split at h
  · obtain ⟨u, _, rfl, rv, rfl⟩ := r
    split at h
    · rename_i kvs _ ek
      obtain ⟨a, kus, rfl, hd, rd⟩ := dOf_ok R ek rv
      exact .inl ⟨a, kus, rfl, hd, post_newD R h rd⟩
    · rename_i ys _ ey
      obtain ⟨a, ws, rfl, hs, rs⟩ := rdL_ok R ey rv
      split at h
      · rename_i kvs ek
        obtain ⟨ps, kus, rfl, pp, rk⟩ := pairsOf_ok hK rs ek
        exact .inr ⟨a, ps, kus, rfl, by rw [hK]; exact hs, pp, post_newD R h (KRs.merge rk (show KRs Γ ρ A H [] [] from rfl))⟩
      · exact h.elim
    · exact h.elim
  · exact h.elim
end
end Mw
set_option Elab.async false
set_option linter.all false
set_option maxRecDepth 100000
set_option maxHeartbeats 2000000
namespace Mw
open PySem PySem.Spec PyProof.Rows L2
mutual
def isPD : AV → Bool
  | .non => true
  | .bl _ => true
  | .int _ => true
  | .str _ => true
  | .tup xs => isPDs xs
  | _ => false
def isPDs : List AV → Bool
  | [] => true
  | x :: xs => isPD x && isPDs xs
end
mutual
def pd : AV → PyData
  | .non => .none
  | .bl b => .bool b
  | .int i => .int i
  | .str x => .str ⟨x.toArray⟩
  | .tup xs => .tuple (pds xs)
  | _ => .none
def pds : List AV → List PyData
  | [] => []
  | x :: xs => pd x :: pds xs
end
mutual
theorem pd_inj : ∀ {a b : AV}, isPD a = true → isPD b = true → pd a = pd b → a = b
  | .non, b, _, h, e => by cases b <;> first | rfl | (cases e; done) | (cases h; done)
  | .bl x, b, _, h, e => by cases b <;> first | (cases e; rfl) | (cases e; done) | (cases h; done)
  | .int x, b, _, h, e => by cases b <;> first | (cases e; rfl) | (cases e; done) | (cases h; done)
  | .str x, b, _, h, e => by
    cases b <;> first | (cases e; done) | (cases h; done) | skip
    have e2 := PyData.str.inj e
    have e3 := congrArg (fun z : Str => z.cps.toList) e2
    simp at e3
    rw [e3]
  | .tup x, b, g, h, e => by
    cases b <;> first | (cases e; done) | (cases h; done) | skip
    rw [pds_inj g h (PyData.tuple.inj e)]
  | .lst x, _, g, _, _ => by cases g
  | .rol x, _, g, _, _ => by cases g
  | .dct x, _, g, _, _ => by cases g
  | .ref x, _, g, _, _ => by cases g
  | .glo x, _, g, _, _ => by cases g
  | .exh c fs, _, g, _, _ => by cases g
theorem pds_inj : ∀ {a b : List AV}, isPDs a = true → isPDs b = true → pds a = pds b → a = b
  | [], [], _, _, _ => rfl
  | [], _ :: _, _, _, e => by cases e
  | _ :: _, [], _, _, e => by cases e
  | x :: xs, y :: ys, g, h, e => by
    obtain ⟨g1, g2⟩ := Bool.and_eq_true_iff.mp (show (isPD x && isPDs xs) = true from g)
    obtain ⟨h1, h2⟩ := Bool.and_eq_true_iff.mp (show (isPD y && isPDs ys) = true from h)
    injection (show pd x :: pds xs = pd y :: pds ys from e) with e1 e2
    rw [pd_inj g1 h1 e1, pds_inj g2 h2 e2]
end
section
variable {X : Cx} {Γ : Gm} {pins : List (Addr × Obj)} {σ : L2.St} {H : Hp} {s : Shared} {ρ : Nat → Addr} {A : AH}
mutual
theorem pd_reads (hK : X.K = Γ.K) (I : Inv X pins σ H s) : ∀ (a : AV) {u : V} {v : Value}, VR Γ ρ A H a u → RelV u v → isPD a = true → Reads s.heap v (pd a) []
  | .non, u, v, r, q, _ => by rw [show u = _ from r] at q; cases (show v = .none from q); exact .none
  | .bl b, u, v, r, q, _ => by rw [show u = _ from r] at q; cases (show v = .bool b from q); exact .bool b
  | .int i, u, v, r, q, _ => by rw [show u = _ from r] at q; obtain ⟨t, e⟩ := (show ∃ t, v = .int i t from q); subst e; exact .int i t
  | .str x, u, v, r, q, _ => by rw [show u = _ from r] at q; obtain ⟨t, e⟩ := (show ∃ t, v = .str _ t from q); subst e; exact .str _ t
  | .tup xs, u, v, ⟨a, us, e, hs, rs⟩, q, g => by
    subst e
    cases (show v = .ref a from q)
    obtain ⟨its, rv, ⟨o, h1, h2, n, h3⟩, _⟩ := I.tuple (by rw [hK]; exact hs)
    exact .tuple h1 h2 h3 (pds_reads hK I xs rs (by simpa using rv) g)
  | .lst x, _, _, _, _, g => by cases g
  | .rol x, _, _, _, _, g => by cases g
  | .dct x, _, _, _, _, g => by cases g
  | .ref x, _, _, _, _, g => by cases g
  | .glo x, _, _, _, _, g => by cases g
  | .exh c fs, _, _, _, _, g => by cases g
theorem pds_reads (hK : X.K = Γ.K) (I : Inv X pins σ H s) : ∀ (as : List AV) {us : List V} {vs : List Value}, VRs Γ ρ A H as us → Vals us vs → isPDs as = true → ReadsAll s.heap vs (pds as) []
  | [], us, vs, r, q, _ => by rw [show us = [] from r] at q; cases q; exact .nil
  | x :: xs, us, vs, ⟨u, r, e, h, t⟩, q, g => by
    subst e
    obtain ⟨g1, g2⟩ := Bool.and_eq_true_iff.mp (show (isPD x && isPDs xs) = true from g)
    cases q with
    | cons q1 q2 => exact .cons (as := []) (bs := []) (pd_reads hK I x h q1 g1) (pds_reads hK I xs t q2 g2)
end
def RAv (Γ : Gm) (ρ : Nat → Addr) (A : AH) (H : Hp) (v : Value) (a : AV) : Prop := ∃ u, VR Γ ρ A H a u ∧ RelV u v
theorem each_of : ∀ {as : List AV} {us : List V} {vs : List Value}, VRs Γ ρ A H as us → Vals us vs → PySem.W.EachIs (RAv Γ ρ A H) vs as
  | [], us, vs, r, q => by rw [show us = [] from r] at q; cases q; exact .nil
  | x :: xs, us, vs, ⟨u, r, e, h, t⟩, q => by
    subst e
    cases q with
    | cons q1 q2 => exact .cons ⟨u, h, q1⟩ (each_of t q2)
theorem each_back : ∀ {as : List AV} {vs : List Value}, PySem.W.EachIs (RAv Γ ρ A H) vs as → ∃ us, VRs Γ ρ A H as us ∧ Vals us vs
  | [], vs, r => by cases r; exact ⟨[], rfl, .nil⟩
  | x :: xs, vs, r => by
    cases r with
    | cons h t =>
      obtain ⟨u, h1, h2⟩ := h
      obtain ⟨us, h3, h4⟩ := each_back t
      exact ⟨u :: us, ⟨u, us, rfl, h1, h3⟩, .cons h2 h4⟩
theorem each_pd (hK : X.K = Γ.K) (I : Inv X pins σ H s) : ∀ {as : List AV} {us : List V} {vs : List Value}, VRs Γ ρ A H as us → Vals us vs → isPDs as = true → PySem.W.EachIs (fun v b => ∃ as, Reads s.heap v (pd b) as) vs as
  | [], us, vs, r, q, _ => by rw [show us = [] from r] at q; cases q; exact .nil
  | x :: xs, us, vs, ⟨u, r, e, h, t⟩, q, g => by
    subst e
    obtain ⟨g1, g2⟩ := Bool.and_eq_true_iff.mp (show (isPD x && isPDs xs) = true from g)
    cases q with
    | cons q1 q2 => exact .cons ⟨[], pd_reads hK I x h q1 g1⟩ (each_pd hK I t q2 g2)
end
def alikes (ds : List PyData) : Bool := ds.all fun a => ds.all fun b => PySem.W.alike a b
def tup1 : PyData → Bool
  | .tuple (_ :: _) => true
  | _ => false
def noTup : PyData → Bool
  | .tuple _ => false
  | .none => false
  | _ => true
def shallow (ds : List PyData) : Bool := ds.all fun d => Nat.ble d.depth 8
def sortOk (xs : List AV) : Bool := isPDs xs && (alikes (pds xs) && ((((pds xs).all tup1) || ((pds xs).all noTup)) && (shallow (pds xs) && Nat.ble xs.length big)))
theorem pds_map : ∀ xs : List AV, pds xs = xs.map pd
  | [] => rfl
  | x :: xs => by rw [List.map_cons, ← pds_map xs]; rfl
theorem sortOk_ok {xs : List AV} (h : sortOk xs = true) : isPDs xs = true ∧ PySem.W.AllAlike (xs.map pd) ∧ PySem.W.Sortable (xs.map pd) ∧ (∀ b, b ∈ xs → (pd b).depth ≤ 8) ∧ xs.length ≤ sizeLine := by
  unfold sortOk at h
  rw [pds_map] at h
  simp only [Bool.and_eq_true] at h
  obtain ⟨h1, h2, h3, h4, h5⟩ := h
  refine ⟨h1, fun d hd d' hd' => ?_, ?_, fun b hb => ?_, by rw [← big_eq]; exact Nat.le_of_ble_eq_true h5⟩
  · exact List.all_eq_true.mp (List.all_eq_true.mp h2 d hd) d' hd'
  · rcases Bool.or_eq_true_iff.mp h3 with h | h
    · refine .inl fun d hd => ?_
      have := List.all_eq_true.mp h d hd
      unfold tup1 at this
      split at this
      · exact ⟨_, _, rfl⟩
      · cases this
    · refine .inr fun d hd => ?_
      have := List.all_eq_true.mp h d hd
      unfold noTup at this
      split at this
      · cases this
      · cases this
      · rename_i n1 n2; exact ⟨n2, n1⟩
  · have := List.all_eq_true.mp h4 (pd b) (List.mem_map.mpr ⟨b, hb, rfl⟩)
    exact Nat.le_of_ble_eq_true this
def leAV (a b : AV) : Bool := PySem.W.dataLe false pd a b
def cSorted (fz : Bool) : CM := fun xs A => match xs with
  | [v] => (match rdL v A with
    | some ys => if sortOk ys = true then newL fz (ys.mergeSort leAV) A else .stuck
    | none => .stuck)
  | _ => .stuck
section
variable {X : Cx} {Γ : Gm}
theorem c_sorted {fz : Bool} (hK : X.K = Γ.K) (hu : X.A.units + 16 < cLine) : CallM X Γ (.builtin "sorted") (cSorted fz) := ⟨fun pins s σ H Q E ρ A xs us vs I R r q h => by
  unfold cSorted at h
  split at h
  · obtain ⟨u, _, rfl, rv, rfl⟩ := r
    split at h
    · rename_i ys ey
      obtain ⟨a, ws, rfl, hs, rs⟩ := rdL_ok R ey rv
      split at h
      · rename_i ok
        obtain ⟨o1, o2, o3, o4, o5⟩ := sortOk_ok ok
        obtain ⟨its, rits, hl, _⟩ := I.list (by rw [hK]; exact hs)
        rw [Vals.ref1 q]
        refine PySem.W.sorted_data hl.isList (each_of rs rits) (each_pd hK I rs rits o1) o2 o3 o5 (fun b hb => by have := o4 b hb; omega) fun out hlen he => ?_
        obtain ⟨zs, k1, k2⟩ := each_back he
        obtain ⟨ep, he'⟩ := PyProof.Rows.sortedAll_at s.heap its (List.toArray out)
        have hz : zs.length ≤ sizeLine := by
          rw [k1.length, List.length_mergeSort]
          exact o5
        have hf : H (s.heap.objs.size + 1) = none := I.hok.fresh (Nat.le_succ _)
        exact ⟨.ref (s.heap.objs.size + 1), upd H (s.heap.objs.size + 1) (.lst zs), I.laid (t' := s.toks) (fun _ _ => PyProof.Rows.sortedAll_old) (Nat.le_succ _) ⟨hz, out, ep, k2, he'⟩, rfl, post_newL R h k1 _ hf⟩
      · exact h.elim
    · exact h.elim
  · exact h.elim⟩
def bestV (x : AV) : List AV → AV
  | [] => x
  | y :: r => bestV (if PySem.W.dataLt (pd y) (pd x) = true then y else x) r
def minOk (xs : List AV) : Bool := isPDs xs && (alikes (pds xs) && ((pds xs).all (fun d => match d with | .none => false | _ => true) && Nat.ble (PyData.depthAll (pds xs)) 8))
def cMinD : CM := fun xs A => match xs with
  | [v] => (match rdL v A with
    | some (y :: ys) => if minOk (y :: ys) = true then .ok (bestV y ys) A else .stuck
    | _ => .stuck)
  | _ => .stuck
theorem bestV_pd : ∀ (ys : List AV) (x : AV), pd (bestV x ys) = PySem.W.minD (pd x) (pds ys)
  | [], x => rfl
  | y :: ys, x => by
    unfold bestV
    rw [bestV_pd ys]
    show PySem.W.minD _ _ = PySem.W.minD (pd x) (pd y :: pds ys)
    unfold PySem.W.minD
    rw [List.foldl_cons]
    congr 1
    split <;> rfl
theorem isPDs_mem : ∀ {xs : List AV} {x : AV}, isPDs xs = true → x ∈ xs → isPD x = true
  | y :: ys, x, h, m => by
    obtain ⟨h1, h2⟩ := Bool.and_eq_true_iff.mp (show (isPD y && isPDs ys) = true from h)
    rcases List.mem_cons.mp m with e | m
    · rw [e]; exact h1
    · exact isPDs_mem h2 m
theorem bestV_mem : ∀ (ys : List AV) (x : AV), bestV x ys ∈ x :: ys
  | [], x => by simp [bestV]
  | y :: ys, x => by
    unfold bestV
    have := bestV_mem ys (if PySem.W.dataLt (pd y) (pd x) = true then y else x)
    rcases List.mem_cons.mp this with e | m
    · rw [e]; split <;> simp
    · exact List.mem_cons_of_mem _ (List.mem_cons_of_mem _ m)
mutual
theorem pd_plain : ∀ {a : AV}, isPD a = true → (pd a).plain = true
  | .non, _ => rfl
  | .bl _, _ => rfl
  | .int _, _ => rfl
  | .str _, _ => rfl
  | .tup xs, h => by show PyData.plain (.tuple (pds xs)) = true; unfold PyData.plain; exact pds_plain h
  | .lst _, h => by cases h
  | .rol _, h => by cases h
  | .dct _, h => by cases h
  | .ref _, h => by cases h
  | .glo _, h => by cases h
  | .exh _ _, h => by cases h
theorem pds_plain : ∀ {a : List AV}, isPDs a = true → PyData.plainAll (pds a) = true
  | [], _ => by show PyData.plainAll [] = true; unfold PyData.plainAll; rfl
  | x :: xs, h => by
    obtain ⟨h1, h2⟩ := Bool.and_eq_true_iff.mp (show (isPD x && isPDs xs) = true from h)
    show PyData.plainAll (pd x :: pds xs) = true
    unfold PyData.plainAll
    rw [pd_plain h1, pds_plain h2]; rfl
end
theorem each_at {R : Value → AV → Prop} : ∀ {vs : List Value} {as : List AV} (i : Nat) {v : Value}, PySem.W.EachIs R vs as → vs[i]? = some v → ∃ a, as[i]? = some a ∧ R v a
  | _, _, _, _, .nil, e => by simp at e
  | _, _, 0, v, .cons h t, e => by simp at e; subst e; exact ⟨_, rfl, h⟩
  | _, _, i + 1, v, .cons h t, e => by
    obtain ⟨a, e1, e2⟩ := each_at i t (by simpa using e)
    exact ⟨a, by simpa using e1, e2⟩
theorem c_minD (hK : X.K = Γ.K) (hc : X.calm = true) (hu : X.A.units + 16 < cLine) : CallM X Γ (.builtin "min") cMinD := ⟨fun pins s σ H Q E ρ A xs us vs I R r q h => by
  unfold cMinD at h
  split at h
  · obtain ⟨u, _, rfl, rv, rfl⟩ := r
    split at h
    · rename_i y ys ey
      obtain ⟨a, ws, rfl, hs, rs⟩ := rdL_ok R ey rv
      split at h
      · rename_i ok
        unfold minOk at ok
        simp only [Bool.and_eq_true] at ok
        obtain ⟨o1, o2, o3, o4⟩ := ok
        obtain ⟨its, rits, hl, _⟩ := I.list (by rw [hK]; exact hs)
        rw [Vals.ref1 q]
        have hal : PySem.W.AlikeAll (pds (y :: ys)) := ⟨fun d hd d' hd' => List.all_eq_true.mp (List.all_eq_true.mp o2 d hd) d' hd', fun d hd e => by
          have := List.all_eq_true.mp o3 d hd
          subst e; cases this⟩
        have hr : ReadsAll s.heap its (pd y :: pds ys) [] := pds_reads hK I (y :: ys) rs rits o1
        refine PySem.W.min_list_data (x := pd y) (xs := pds ys) (I.ok.hd hc) hl.isList (by simpa using hr) hal (by have := Nat.le_of_ble_eq_true o4; show X.A.units + 1 + PyData.depthAll (pds (y :: ys)) < cLine; omega) fun i v h' tk bs hv rd kp => ?_
        have hv' : its[i]? = some v := by simpa using hv
        obtain ⟨b, hb, u, hbu, ru⟩ := each_at i (each_of rs rits) hv'
        have hm : b ∈ y :: ys := List.mem_of_getElem? hb
        have pb := isPDs_mem o1 hm
        have rd2 : Reads h' v (pd b) [] := PyProof.Rows.Reads.keeps kp (pd_reads hK I b hbu ru pb)
        have e1 : pd b = PySem.W.minD (pd y) (pds ys) := PySem.SeqAt.plain_unique (pd b) _ v _ _ (pd_plain pb) rd2 rd
        rw [← bestV_pd ys y] at e1
        have e2 := pd_inj pb (isPDs_mem o1 (bestV_mem ys y)) e1
        rw [← e2] at h
        exact ⟨u, H, I.kept kp, ru, post_val R h hbu⟩
      · exact h.elim
    · exact h.elim
  · exact h.elim⟩
end
end Mw
set_option Elab.async false
set_option linter.all false
set_option maxRecDepth 100000
set_option maxHeartbeats 2000000
namespace Mw
open PySem PySem.Spec PyProof.Rows L2
def tyNm : Nat → String
  | 0 => "NoneType"
  | 1 => "bool"
  | 2 => "int"
  | 3 => "str"
  | 4 => "tuple"
  | 5 => "list"
  | 6 => "dict"
  | _ => "float"
def tyB (k t : Nat) : Bool := Nat.beq k t || (Nat.beq k 1 && Nat.beq t 2)
theorem tyB_ok : ∀ k, k < 7 → ∀ t, t < 8 → kitB (tyNm k) (tyNm t) = some (tyB k t) := by decide +kernel
def kindOf (v : AV) (A : AH) : Option Nat := match v with
  | .non => some 0
  | .bl _ => some 1
  | .int _ => some 2
  | .str _ => some 3
  | .tup _ => some 4
  | .lst _ => some 5
  | .rol _ => some 5
  | .dct _ => some 6
  | .ref i => (match A[i]? with
    | some (.lst _) => some 5
    | some (.dct _) => some 6
    | _ => none)
  | _ => none
theorem kindOf_lt {v : AV} {A : AH} {k : Nat} (e : kindOf v A = some k) : k < 7 := by
  unfold kindOf at e
  repeat' split at e
  all_goals first | (injection e with e; subst e; decide) | (cases e; done)
section
variable {X : Cx} {Γ : Gm} {W : WX} {e : Expr} {m : EM}
theorem tyx_list {K : PySem.W.Frag} {H : Hp} {a : Addr} {us : List V} (h : SqL K H a us) : TyX K H (.ref a) (.type "list") := by
  rcases h with (h | ⟨o, h⟩) | ⟨o, its, n, h1, h2, _⟩
  · exact .base (.lst h)
  · exact .base (.frz h)
  · exact .kList h1 h2
theorem tyx_tup {K : PySem.W.Frag} {H : Hp} {a : Addr} {us : List V} (h : SqT K H a us) : TyX K H (.ref a) (.type "tuple") := by
  rcases h with (h | ⟨o, h⟩) | ⟨o, its, n, h1, h2, _⟩
  · exact .base (.tup h)
  · exact .fTuple h
  · exact .kTuple h1 h2
theorem kind_ok {ρ : Nat → Addr} {A : AH} {H : Hp} {v : AV} {u : V} {k : Nat} (R : Rel Γ ρ A H) (e : kindOf v A = some k) (r : VR Γ ρ A H v u) : TyX Γ.K H u (.type (tyNm k)) := by
  cases v with
  | non => cases e; rw [show u = _ from r]; exact .base .non
  | bl b => cases e; rw [show u = _ from r]; exact .base (.bl b)
  | int i => cases e; rw [show u = _ from r]; exact .base (.int i)
  | str x => cases e; rw [show u = _ from r]; exact .base (.str _)
  | tup xs => cases e; obtain ⟨a, us, rfl, hs, _⟩ := r; exact tyx_tup hs
  | lst xs =>
    cases e
    obtain ⟨a, us, rfl, hs, _⟩ := rdL_ok (v := .lst xs) R rfl r
    exact tyx_list hs
  | rol xs =>
    cases e
    obtain ⟨a, us, rfl, hs, _⟩ := rdL_ok (v := .rol xs) R rfl r
    exact tyx_list hs
  | dct kvs =>
    cases e
    obtain ⟨a, o, kus, rfl, _, h, _⟩ := r
    exact .fDict h
  | ref i =>
    unfold kindOf at e
    simp only at e
    obtain ⟨_, rfl⟩ := r
    split at e
    · rename_i xs ei
      cases e
      obtain ⟨us, h, _⟩ := R.obj i _ ei
      exact .base (.lst h)
    · rename_i xs ei
      cases e
      obtain ⟨us, h, _⟩ := R.obj i _ ei
      exact .base (.dK h)
    · cases e
  | glo g => cases e
  | exh c fs => cases e
def anyTy (k : Nat) : List Nat → Bool
  | [] => false
  | t :: r => tyB k t || anyTy k r
def eIsi (ts : List Nat) (m : EM) : EM := fun τ A => (m τ A).bind fun v A1 => match kindOf v A1 with
  | some k => .ok (.bl (anyTy k ts)) A1
  | none => .stuck
variable {p pos p1 p2 : Pos} {x1 : Str} {t : Nat}
theorem de_isi1 (hK : X.K = Γ.K) (hg : Gl X "isinstance") (hm : X.mg "isinstance" = none) (hv : bootBuiltins "isinstance" = some (.builtin "isinstance")) (ht : t < 8) (h1 : Gl X x1) (m1 : X.mg x1 = none) (v1 : bootBuiltins x1 = some (.type (tyNm t)))
    (he : DE X Γ W e m) (hn1 : x1 ≠ "__name__" := by decide) (hd1 : (x1 == ("__debug__" : Str)) = false := by decide)
    (hs : starEach [e, .Name x1 p1] X.env = (false, eval e X.env) :: starEach [.Name x1 p1] X.env := by rfl) :
    DE X Γ W (.Call (.Name "isinstance" p) [e, .Name x1 p1] [] pos) (eIsi [t] m) :=
  (pe_callB call_isi hg hm hv (pa_cons he (pa_cons (pe_bltn (v := .ty (tyNm t)) h1 m1 v1 rfl hn1 hd1) pa_nil) hs) (he := hs)).imp fun σ H Q ⟨ρ, A, τ, a, h⟩ => wpG.step a h fun v A1 ρ1 H1 u _ x a1 r1 h1 => by
    split at h1
    · rename_i k ek
      refine ⟨u, .ty (tyNm t), .type (tyNm k), .type (tyNm t), tyB k t, rfl, .ty _, by rw [hK]; exact kind_ok a1.rel ek r1, kit_ty (tyB_ok k (kindOf_lt ek) t ht), ?_⟩
      have : anyTy k [t] = tyB k t := by simp [anyTy]
      rw [this] at h1
      exact post_val a1.rel h1 rfl
    · exact h1.elim
theorem de_isi2 {x2 : Str} {t2 n2 : Nat} {p3 : Pos} (hK : X.K = Γ.K) (hg : Gl X "isinstance") (hm : X.mg "isinstance" = none) (hv : bootBuiltins "isinstance" = some (.builtin "isinstance")) (ht : t < 8) (ht2 : t2 < 8) (h1 : Gl X x1) (m1 : X.mg x1 = none) (v1 : bootBuiltins x1 = some (.type (tyNm t)))
    (h2 : Gl X x2) (m2 : X.mg x2 = none) (v2 : bootBuiltins x2 = some (.type (tyNm t2))) (he : DE X Γ W e m) (hn1 : x1 ≠ "__name__" := by decide) (hd1 : (x1 == ("__debug__" : Str)) = false := by decide) (hn2 : x2 ≠ "__name__" := by decide) (hd2 : (x2 == ("__debug__" : Str)) = false := by decide)
    (hs : starEach [e, .Tuple [.Name x1 p1, .Name x2 p2] n2 p3] X.env = (false, eval e X.env) :: starEach [.Tuple [.Name x1 p1, .Name x2 p2] n2 p3] X.env := by rfl) :
    DE X Γ W (.Call (.Name "isinstance" p) [e, .Tuple [.Name x1 p1, .Name x2 p2] n2 p3] [] pos) (eIsi [t, t2] m) :=
  (pe_callB call_isiT hg hm hv (pa_cons he (pa_cons (pe_tup (pa_cons (pe_bltn (v := .ty (tyNm t)) h1 m1 v1 rfl hn1 hd1) (pa_cons (pe_bltn (v := .ty (tyNm t2)) h2 m2 v2 rfl hn2 hd2) pa_nil))) pa_nil) hs) (he := hs)).imp fun σ H Q ⟨ρ, A, τ, a, h⟩ => wpG.step a h fun v A1 ρ1 H1 u _ x a1 r1 h1 => by
    split at h1
    · rename_i k ek
      refine ⟨by show 2 ≤ sizeLine; decide, fun q hq => ?_⟩
      have x2 : Ext Γ ρ1 A1 H1 ρ1 A1 (upd H1 q (.tup [.ty (tyNm t), .ty (tyNm t2)])) := Ext.fresh a1.rel hq
      have R2 := Rel.fresh (o := .tup [.ty (tyNm t), .ty (tyNm t2)]) a1.rel hq
      refine ⟨u, q, [.ty (tyNm t), .ty (tyNm t2)], .type (tyNm k), [.type (tyNm t), .type (tyNm t2)], anyTy k [t, t2], rfl, upd_same, .cons (.ty _) (.cons (.ty _) .nil), by rw [hK]; exact kind_ok R2 ek (r1.ext x2), ?_, h1 ρ1 _ _ x2 R2 rfl⟩
      have b1 := kit_ty (K := X.K) (tyB_ok k (kindOf_lt ek) t ht)
      have b2 := kit_ty (K := X.K) (tyB_ok k (kindOf_lt ek) t2 ht2)
      show PySem.W.kitAny X.K _ _ = some (tyB k t || (tyB k t2 || false))
      refine kitAny_cons b1 (fun e1 => kitAny_cons b2 (fun e2 => ?_) fun e2 => ?_) fun e1 => ?_
      · rw [e1, e2]; exact kitAny_nil
      · rw [e2]; simp
      · rw [e1]; simp
    · exact h1.elim
end
end Mw
set_option Elab.async false
set_option linter.all false
set_option maxRecDepth 100000
set_option maxHeartbeats 2000000
namespace Mw
open PySem PySem.Spec PyProof.Rows L2
abbrev Gm.at_ (Γ : Gm) (h : List Addr) : Gm := { Γ with hid := h }
def spM (Γ0 : Gm) (m : FM) : Sp := fun us H Q E => ∃ h ρ A xs, Rel (Γ0.at_ h) ρ A H ∧ VRs (Γ0.at_ h) ρ A H xs us ∧ PostE (Γ0.at_ h) E ρ A H Q (m xs A)
def fnEnd (r : SR) : Out AV := match r with
  | .nx _ A => .ok .non A
  | .rt v A => .ok v A
  | .exc c fs _ A => .exc c fs A
  | _ => .stuck
def fnM (n loc : Nat) (b : SM) : FM := fun xs A => if xs.length = n then fnEnd (b (xs.map some ++ List.replicate loc none) A) else .stuck
def Ar (n : Nat) (m : FM) : Prop := ∀ xs A, xs.length ≠ n → m xs A = .stuck
theorem ar_fnM {n loc : Nat} {b : SM} : Ar n (fnM n loc b) := fun xs A h => if_neg h
section
variable {Γ : Gm} {ρ : Nat → Addr} {A : AH} {H : Hp}
theorem er_start {xs : List AV} {us : List V} {loc : Nat} {N : List Str} (r : VRs Γ ρ A H xs us) (hN : N.length = xs.length + loc) : ER Γ ρ A H (xs.map some ++ List.replicate loc none) (start N us) := by
  have hl : (start N us).length = xs.length + loc := by
    unfold L2.start
    rw [List.length_append, List.length_map, List.length_replicate, r.length]; omega
  refine ⟨by rw [hl]; simp, fun i v e => ?_⟩
  by_cases hi : i < xs.length
  · rw [List.getElem?_append_left (by simpa using hi), List.getElem?_map] at e
    have e2 : xs[i]? = some v := by
      cases q : xs[i]? with
      | none => rw [q] at e; cases e
      | some w => rw [q] at e; simpa using e
    obtain ⟨u, h1, h2⟩ := r.get e2
    refine ⟨u, ?_, h2⟩
    unfold L2.start
    rw [List.getElem?_append_left (by rw [List.length_map, r.length]; exact hi), List.getElem?_map, h1]; rfl
  · rw [List.getElem?_append_right (by simpa using hi)] at e
    rw [List.getElem?_replicate] at e
    split at e <;> cases e
end
section
variable {P : Program} {w : World} {K : PySem.W.Frag} {mg : Str → Option Value} {base : Heap} {Γ0 : Gm}
structure FnE (P : Program) (w : World) (K : PySem.W.Frag) (mg : Str → Option Value) (base : Heap) (Γ0 : Gm) (k : Nat) (d : He.DefD) (ps : List Str) (m : FM) : Prop where
  ex : ∃ fd, FunD K d.name d.qual d.params d.body d.scope [] [] (He.fAd K d.at_) fd ∧ FnOk P w K mg base (L2.CX P w) k (He.fAd K d.at_) fd ps (spM Γ0 m)
theorem FnE.mono {j k : Nat} {d : He.DefD} {ps : List Str} {m : FM} (F : FnE P w K mg base Γ0 j d ps m) (h : j ≤ k) : FnE P w K mg base Γ0 k d ps m := by
  obtain ⟨fd, a, b⟩ := F.ex
  exact ⟨fd, a, b.mono h⟩
abbrev bodyX (P : Program) (w : World) (K : PySem.W.Frag) (mg : Str → Option Value) (base : Heap) (d : He.DefD) (N : List Str) (cdv : Value) (A : Around) (outer : List Env) (s : Shared) (H : Hp) (E : XK) : Cx := cxOf (L2.CX P w) P w K mg base N d.qual d.scope (He.fAd K d.at_) cdv A outer s H E
theorem body_takes {d : He.DefD} {N : List Str} {cdv : Value} {A : Around} {outer : List Env} {s : Shared} {H : Hp} {E : XK} : Takes (bodyX P w K mg base d N cdv A outer s H E) (fun cls d _ H => E cls d H) := takes_of rfl rfl rfl rfl
theorem fnE_ofC {k loc : Nat} {d : He.DefD} {N ps : List Str} {b : SM} (F : ∃ fd, FunD K d.name d.qual d.params d.body d.scope (d.dvs K) (d.kws K) (He.fAd K d.at_) fd) (hd : d.dfl = []) (hk : d.kwd = []) (S : FnScope N ps d.scope) (hN : N.length = ps.length + loc)
    (hb : ∀ (h : List Addr) (cdv : Value) (A : Around) (outer : List Env) (s : Shared) (H : Hp) (E : XK), cdv = .ref (He.codeOf K d.at_) → Room k (bodyX P w K mg base d N cdv A outer s H E).A → DSs (bodyX P w K mg base d N cdv A outer s H E) (Γ0.at_ h) (fun c d _ H => E c d H) d.body b) :
    FnE P w K mg base Γ0 (k + 1) d ps (fnM ps.length loc b) := by
  obtain ⟨fd, F⟩ := F
  have e1 : d.dvs K = [] := by unfold He.DefD.dvs; rw [hd]; rfl
  have e2 : d.kws K = [] := by unfold He.DefD.kws; rw [hk]; rfl
  rw [e1, e2] at F
  have len : ∀ vs H Q E, spM Γ0 (fnM ps.length loc b) vs H Q E → vs.length = ps.length := fun vs H Q E ⟨h, ρ, A, xs, R, r, p⟩ => by
    by_cases hl : xs.length = ps.length
    · rw [r.length]; exact hl
    · rw [ar_fnM xs A hl] at p; exact p.elim
  obtain ⟨oc, od, dV, kV, doc, pm, an, cdv, ct, osl, rfl, lk, hcd, _, _⟩ := F.ex
  have ec : cdv = .ref (He.codeOf K d.at_) := by
    obtain ⟨c, rfl⟩ := He.codeIn_ref hcd
    rw [He.codeOf_eq lk rfl]
  refine ⟨_, F, fn_of (CX := L2.CX P w) (N := N) (ps := ps) (k := k) lk hcd S len fun A outer s H vs Q E hr hsp => ?_⟩
  obtain ⟨h, ρ, A', xs, R, r, p⟩ := hsp
  refine ⟨_, hb h cdv A outer s H E ec hr, ρ, A', xs.map some ++ List.replicate loc none, ⟨R, ?_⟩, ?_⟩
  · by_cases hl : xs.length = ps.length
    · exact er_start r (by rw [hN, hl])
    · rw [ar_fnM xs A' hl] at p; exact p.elim
  · by_cases hl : xs.length = ps.length
    · unfold fnM at p
      rw [if_pos hl] at p
      cases e : b (xs.map some ++ List.replicate loc none) A' with
      | nx τ A1 => rw [e] at p; exact fun ρ1 H1 σ1 x R1 er => p ρ1 H1 .non x R1 rfl
      | rt v A1 => rw [e] at p; exact fun ρ1 H1 u x R1 r1 => p ρ1 H1 u x R1 r1
      | exc c fs τ A1 => rw [e] at p; exact fun ρ1 H1 σ1 cls d x R1 er r1 => p ρ1 H1 cls d x R1 r1
      | bk τ A1 => rw [e] at p; exact p.elim
      | ct τ A1 => rw [e] at p; exact p.elim
      | stuck => rw [e] at p; exact p.elim
    · rw [ar_fnM xs A' hl] at p; exact p.elim
theorem fnE_of {k loc : Nat} {d : He.DefD} {N ps : List Str} {b : SM} (F : ∃ fd, FunD K d.name d.qual d.params d.body d.scope (d.dvs K) (d.kws K) (He.fAd K d.at_) fd) (hd : d.dfl = []) (hk : d.kwd = []) (S : FnScope N ps d.scope) (hN : N.length = ps.length + loc)
    (hb : ∀ (h : List Addr) (cdv : Value) (A : Around) (outer : List Env) (s : Shared) (H : Hp) (E : XK), Room k (bodyX P w K mg base d N cdv A outer s H E).A → DSs (bodyX P w K mg base d N cdv A outer s H E) (Γ0.at_ h) (fun c d _ H => E c d H) d.body b) :
    FnE P w K mg base Γ0 (k + 1) d ps (fnM ps.length loc b) :=
  fnE_ofC F hd hk S hN fun h cdv A outer s H E _ hr => hb h cdv A outer s H E hr
end
section
variable {X : Cx} {Γ0 : Gm} {W : WX} {k : Nat} {d : He.DefD} {ps : List Str} {m : FM}
theorem run_fnG {f : Addr} {fd : FuncData} {sp : Sp} {pins : List (Addr × Obj)} {σ : L2.St} {H : Hp} {s : Shared} {Q : VK} {us ws : List Value} {kw : List (Str × Value)} {vs : List V} (F : FnOk X.prog X.w X.K X.mg X.base (L2.CX X.prog X.w) k f fd ps sp) (hr : Room k X.A) (tk : Takes X W)
    (I : Inv X pins σ H s) (hb : BindsTo s fd ⟨us, kw⟩ (ps.zip ws)) (r : Vals vs ws) (h : sp vs H Q (WE W σ)) : wpAny (model X.prog X.w) X.A (call (.ref f) us kw) (EP X pins σ Q) X.xe s := by
  refine wpAny_call (codeAny_mono (F.run X.A X.stack s H ⟨us, kw⟩ ws vs Q (WE W σ) hr I.env0 hb r h) fun r s' hq => ?_)
  cases r with
  | error e => exact passAt tk σ pins H s e s' I hq
  | ok fl =>
    cases fl with
    | ret u => exact I.after hq
    | next => exact hq.elim
    | brk => exact hq.elim
    | cont => exact hq.elim
def pick {α : Type} : List Nat → List α → List α
  | [], _ => []
  | i :: r, l => (match l[i]? with
    | some x => x :: pick r l
    | none => pick r l)
theorem vals_get : ∀ {vs : List V} {us : List Value} (i : Nat), Vals vs us → (∀ v, vs[i]? = some v → ∃ u, us[i]? = some u ∧ RelV v u) ∧ (vs[i]? = none → us[i]? = none)
  | _, _, i, .nil => ⟨fun v e => by simp at e, fun _ => by simp⟩
  | _, _, 0, .cons h t => ⟨fun v e => by simp at e; subst e; exact ⟨_, rfl, h⟩, fun e => by simp at e⟩
  | _, _, i + 1, .cons h t => by
    obtain ⟨a, b⟩ := vals_get i t
    exact ⟨fun v e => by obtain ⟨u, e1, e2⟩ := a v (by simpa using e); exact ⟨u, by simpa using e1, e2⟩, fun e => by simpa using b (by simpa using e)⟩
theorem pick_vals : ∀ (ix : List Nat) {vs : List V} {us : List Value}, Vals vs us → Vals (pick ix vs) (pick ix us)
  | [], _, _, _ => .nil
  | i :: r, vs, us, h => by
    unfold pick
    obtain ⟨a, b⟩ := vals_get i h
    cases e : vs[i]? with
    | none => rw [b e]; exact pick_vals r h
    | some v => obtain ⟨u, e1, e2⟩ := a v e; rw [e1]; exact .cons e2 (pick_vals r h)
theorem pick_vrs {Γ : Gm} {ρ : Nat → Addr} {A : AH} {H : Hp} : ∀ (ix : List Nat) {xs : List AV} {us : List V}, VRs Γ ρ A H xs us → VRs Γ ρ A H (pick ix xs) (pick ix us)
  | [], _, _, _ => rfl
  | i :: r, xs, us, h => by
    unfold pick
    cases e : xs[i]? with
    | none =>
      have : us[i]? = none := by
        rw [List.getElem?_eq_none_iff] at e ⊢
        rw [h.length]; exact e
      rw [this]; exact pick_vrs r h
    | some v => obtain ⟨u, e1, e2⟩ := h.get e; rw [e1]; exact ⟨u, _, rfl, e2, pick_vrs r h⟩
abbrev BindK (d : He.DefD) (ps : List Str) (np : Nat) (ks : List Str) (ix : List Nat) : Prop := ∀ (kV doc pm : Value) (an : Option Addr) (cdv ct : Value) (us ws : List Value), us.length = np → ws.length = ks.length →
  bindArgs (PySem.W.fnOf d.name d.qual d.params d.body d.scope .none kV doc pm an cdv ct) ⟨us, ks.zip ws⟩ = pure (ps.zip (pick ix (us ++ ws)))
theorem bind_to {K : PySem.W.Frag} {f : Addr} {fd : FuncData} {np : Nat} {ks : List Str} {ix : List Nat} (F : FunD K d.name d.qual d.params d.body d.scope [] [] f fd) (hb : BindK d ps np ks ix) (s : Shared) {us ws : List Value} (h1 : us.length = np) (h2 : ws.length = ks.length) :
    BindsTo s fd ⟨us, ks.zip ws⟩ (ps.zip (pick ix (us ++ ws))) := by
  obtain ⟨oc, od, dV, kV, doc, pm, an, cdv, ct, osl, rfl, lk, hcd, hD, hK⟩ := F.ex
  rcases hD with ⟨_, rfl⟩ | ⟨e, _⟩
  · exact .of_eq (hb kV doc pm an cdv ct us ws h1 h2)
  · exact absurd rfl e
def fK (np nk : Nat) (ix : List Nat) (m : FM) (vs zs : List AV) : AH → Out AV := fun A => if vs.length = np then if zs.length = nk then m (pick ix (vs ++ zs)) A else .stuck else .stuck
def eFn (np : Nat) (ix : List Nat) (m : FM) (a : AM) : EM := fun τ A => (a τ A).bind fun vs A1 => fK np 0 ix m vs [] A1
def eFnK (np nk : Nat) (ix : List Nat) (m : FM) (a b : AM) : EM := fun τ A => (a τ A).bind fun vs A1 => (b τ A1).bind fun zs A2 => fK np nk ix m vs zs A2
theorem run_fK {Γ : Gm} {pins : List (Addr × Obj)} {σ : L2.St} {H : Hp} {s : Shared} {Q : VK} {us ws : List Value} {vs zs : List V} {np : Nat} {ks : List Str} {ix : List Nat} {ρ : Nat → Addr} {A : AH} {xs ys : List AV} (hΓ : Γ0.at_ Γ.hid = Γ) (F : FnE X.prog X.w X.K X.mg X.base Γ0 k d ps m) (hr : Room k X.A) (tk : Takes X W) (hb : BindK d ps np ks ix)
    (I : Inv X pins σ H s) (r : Vals vs us) (rz : Vals zs ws) (R : Rel Γ ρ A H) (r1 : VRs Γ ρ A H xs vs) (r2 : VRs Γ ρ A H ys zs) (h : PostE Γ (fun c d H' => W c d σ H') ρ A H Q (fK np ks.length ix m xs ys A)) :
    wpAny (model X.prog X.w) X.A (call (.ref (He.fAd X.K d.at_)) us (ks.zip ws)) (EP X pins σ Q) X.xe s := by
  obtain ⟨fd, FD, FO⟩ := F.ex
  unfold fK at h
  split at h
  · rename_i hl
    split at h
    · rename_i hk
      have l1 : us.length = np := by rw [← r.length, r1.length]; exact hl
      have l2 : ws.length = ks.length := by rw [← rz.length, r2.length]; exact hk
      refine run_fnG FO hr tk I (bind_to FD hb s l1 l2) (pick_vals ix (r.append rz)) ?_
      refine ⟨Γ.hid, ρ, A, pick ix (xs ++ ys), by rw [hΓ]; exact R, by rw [hΓ]; exact pick_vrs ix (r1.append r2), by rw [hΓ]; exact h⟩
    · exact h.elim
  · exact h.elim
variable {Γ : Gm} {x : Str} {p pos : Pos} {e : Expr} {es : List Expr} {ma mk : AM} {np : Nat} {ks : List Str} {ix : List Nat} {kws : List Keyword}
def rFn (Γ : Gm) (W : WX) (np nk : Nat) (ix : List Nat) (m : FM) (us zs : List V) (σ : L2.St) (H : Hp) (Q : VK) : Prop := ∃ ρ A xs ys, Rel Γ ρ A H ∧ VRs Γ ρ A H xs us ∧ VRs Γ ρ A H ys zs ∧ PostE Γ (fun c d H' => W c d σ H') ρ A H Q (fK np nk ix m xs ys A)
theorem pe_fn (F : FnE X.prog X.w X.K X.mg X.base Γ0 k d ps m) (hΓ : Γ0.at_ Γ.hid = Γ) (hr : Room k X.A) (tk : Takes X W) (hb : BindK d ps np [] ix) (hg : Gl X x) (hm : X.mg x = some (.ref (He.fAd X.K d.at_))) {t : TA}
    (ha : PA X (e :: es) t) (hdb : (x == ("__debug__" : Str)) = false := by decide) (he : starEach (e :: es) X.env = (false, eval e X.env) :: starEach es X.env := by rfl) (hpl : (backTo pos (starEach es X.env)).any (·.1) = false := by rfl) :
    PE X (.Call (.Name x p) (e :: es) [] pos) (fun σ H Q => t σ H fun vs H1 => rFn Γ W np 0 ix m vs [] σ H1 Q) := by
  obtain ⟨fd, FD, FO⟩ := id F.ex
  refine ⟨fun pins s σ H Q I h => ?_⟩
  refine wpAny_Call_Name_kw (ld_glob I hg hm ?_ hdb)
  refine PySem.W.callWith_K (h₀ := X.base) I.ok.mod.kin FD.kp (thn (ha.run pos pins s σ H _ I h) fun us s1 ⟨vs, H1, I1, r, ρ, A, xs, ys, R, r1, r2, q⟩ => ⟨I1.kIn, ?_⟩) he hpl
  exact run_fK (ks := []) (ws := []) hΓ F hr tk hb I1 r .nil R r1 r2 q
theorem pe_fn0 (F : FnE X.prog X.w X.K X.mg X.base Γ0 k d ps m) (hΓ : Γ0.at_ Γ.hid = Γ) (hr : Room k X.A) (tk : Takes X W) (hb : BindK d ps 0 [] ix) (hg : Gl X x) (hm : X.mg x = some (.ref (He.fAd X.K d.at_)))
    (hdb : (x == ("__debug__" : Str)) = false := by decide) :
    PE X (.Call (.Name x p) [] [] pos) (fun σ H Q => rFn Γ W 0 0 ix m [] [] σ H Q) := by
  obtain ⟨fd, FD, FO⟩ := id F.ex
  refine ⟨fun pins s σ H Q I h => ?_⟩
  obtain ⟨ρ, A, xs, ys, R, r1, r2, q⟩ := h
  refine wpAny_Call_Name_kw (ld_glob I hg hm ?_ hdb)
  exact PySem.W.callWith_K0 I.kIn FD.kp (run_fK (us := []) (ws := []) (ks := []) hΓ F hr tk hb I .nil .nil R r1 r2 q)
theorem de_fn (F : FnE X.prog X.w X.K X.mg X.base Γ0 k d ps m) (hr : Room k X.A) (hΓ : Γ0.at_ Γ.hid = Γ) (tk : Takes X W) (hb : BindK d ps np [] ix) (hg : Gl X x) (hm : X.mg x = some (.ref (He.fAd X.K d.at_)))
    (ha : DA X Γ W (e :: es) ma) (hdb : (x == ("__debug__" : Str)) = false := by decide) (he : starEach (e :: es) X.env = (false, eval e X.env) :: starEach es X.env := by rfl) (hpl : (backTo pos (starEach es X.env)).any (·.1) = false := by rfl) :
    DE X Γ W (.Call (.Name x p) (e :: es) [] pos) (eFn np ix m ma) :=
  (pe_fn F hΓ hr tk hb hg hm ha hdb he hpl).imp fun σ H Q ⟨ρ, A, τ, a, h⟩ => wpG.step a h fun vs A1 ρ1 H1 us _ x1 a1 r1 h1 => ⟨ρ1, A1, vs, [], a1.rel, r1, rfl, h1⟩
theorem de_fn0 (F : FnE X.prog X.w X.K X.mg X.base Γ0 k d ps m) (hr : Room k X.A) (hΓ : Γ0.at_ Γ.hid = Γ) (tk : Takes X W) (hb : BindK d ps 0 [] ix) (hg : Gl X x) (hm : X.mg x = some (.ref (He.fAd X.K d.at_)))
    (hdb : (x == ("__debug__" : Str)) = false := by decide) : DE X Γ W (.Call (.Name x p) [] [] pos) (eFn 0 ix m aNil) :=
  (pe_fn0 F hΓ hr tk hb hg hm hdb).imp fun σ H Q ⟨ρ, A, τ, a, h⟩ => ⟨ρ, A, [], [], a.rel, rfl, rfl, h⟩
def isIns (c m : Nat) (v : AV) (A : AH) : Bool := match v with
  | .ref i => (match A[i]? with
    | some (.ins c' fs) => Nat.beq c' c && (lookF m fs).isNone
    | _ => false)
  | _ => false
def eMt (c mn np : Nat) (ix : List Nat) (m : FM) (o : EM) (a : AM) : EM := fun τ A => (o τ A).bind fun v A1 => if isIns c mn v A1 = true then (a τ A1).bind fun vs A2 => fK np 0 ix m (v :: vs) [] A2 else .stuck
def eMtK (c mn np nk : Nat) (ix : List Nat) (m : FM) (o : EM) (b : AM) : EM := fun τ A => (o τ A).bind fun v A1 => if isIns c mn v A1 = true then (b τ A1).bind fun zs A2 => fK np nk ix m [v] zs A2 else .stuck
theorem isIns_ok {ρ : Nat → Addr} {A : AH} {H : Hp} {c mn : Nat} {v : AV} {u : V} (R : Rel Γ ρ A H) (e : isIns c mn v A = true) (r : VR Γ ρ A H v u) : ∃ a dx fs, u = .ref a ∧ H a = some (.ins (Γ.ad c) dx fs) ∧ fs.lookup (Γ.nm mn) = none := by
  unfold isIns at e
  cases v <;> try cases e
  rename_i i
  simp only at e
  split at e
  · rename_i c' fs ei
    obtain ⟨e1, e2⟩ := Bool.and_eq_true_iff.mp e
    have e3 := Nat.eq_of_beq_eq_true e1
    subst e3
    obtain ⟨dx, fus, hi, rf⟩ := R.obj i _ ei
    exact ⟨ρ i, dx, fus, r.2, hi, (lookF_ok rf).2 (by simpa using e2)⟩
  · cases e
variable {o : Expr} {mo : EM} {mname : Str} {apos : Pos} {c mn : Nat} {to : TE}
theorem pe_mt {pl : Sem Bool} (F : FnE X.prog X.w X.K X.mg X.base Γ0 k d ps m) (hΓ : Γ0.at_ Γ.hid = Γ) (hr : Room k X.A) (tk : Takes X W) (hb : BindK d ps np [] ix) {C : Addr} (hc : Cls X.K C) (hm : Meth X.K C mname (He.fAd X.K d.at_)) {t : TA}
    (ho : PE X o to) (ha : PA X (e :: es) t) (hst : starEach (e :: es) X.env = (false, eval e X.env) :: starEach es X.env := by rfl) (hpl : (backTo pos (starEach es X.env)).any (·.1) = false := by rfl)
    (ht : eval (.Call (.Attribute o mname apos) (e :: es) [] pos) X.env = (do
      let ov ← eval o X.env
      standAt apos.atName
      let (f, first) ← holding [ov] (getMethod ov mname pl)
      callWith pos f first (backTo pos (starEach (e :: es) X.env)) (backToKw pos (keywordEach [] X.env))) := by rfl) :
    PE X (.Call (.Attribute o mname apos) (e :: es) [] pos) (fun σ H Q => to σ H fun x H1 => ∃ a dx fs, x = .ref a ∧ H1 a = some (.ins C dx fs) ∧ fs.lookup mname = none ∧ t σ H1 fun vs H2 => rFn Γ W np 0 ix m (x :: vs) [] σ H2 Q) := by
  obtain ⟨fd, FD, FO⟩ := id F.ex
  refine ⟨fun pins s σ H Q I h => ?_⟩
  refine PySem.W.methodCall_KW (pl := pl) (thn (ho.run pins s σ H _ I h) fun u s1 ⟨x, H1, I1, rx, a, dx, fs, ex, ea, l, q⟩ => ?_) ht
  subst ex
  obtain rfl : u = Value.ref a := rx
  refine getmeth_ok I1 ea hc hm l ?_
  refine PySem.W.callWith_K (first := [.ref a]) (h₀ := X.base) I.ok.mod.kin hm.kp (thn (ha.run pos pins s1 σ H1 _ I1 q) fun us s2 ⟨vs, H2, I2, r, ρ, A, xs, ys, R, r1, r2, q2⟩ => ⟨I2.kIn, ?_⟩) hst hpl
  exact run_fK (us := Value.ref a :: us) (vs := V.ref a :: vs) (ws := []) (ks := []) hΓ F hr tk hb I2 (.cons rfl r) .nil R r1 r2 q2
theorem pe_mt0 {pl : Sem Bool} (F : FnE X.prog X.w X.K X.mg X.base Γ0 k d ps m) (hΓ : Γ0.at_ Γ.hid = Γ) (hr : Room k X.A) (tk : Takes X W) (hb : BindK d ps np [] ix) {C : Addr} (hc : Cls X.K C) (hm : Meth X.K C mname (He.fAd X.K d.at_))
    (ho : PE X o to) (ht : eval (.Call (.Attribute o mname apos) [] [] pos) X.env = (do
      let ov ← eval o X.env
      standAt apos.atName
      let (f, first) ← holding [ov] (getMethod ov mname pl)
      callWith pos f first (backTo pos (starEach [] X.env)) (backToKw pos (keywordEach [] X.env))) := by rfl) :
    PE X (.Call (.Attribute o mname apos) [] [] pos) (fun σ H Q => to σ H fun x H1 => ∃ a dx fs, x = .ref a ∧ H1 a = some (.ins C dx fs) ∧ fs.lookup mname = none ∧ rFn Γ W np 0 ix m [x] [] σ H1 Q) := by
  refine ⟨fun pins s σ H Q I h => ?_⟩
  refine PySem.W.methodCall_KW (pl := pl) (thn (ho.run pins s σ H _ I h) fun u s1 ⟨x, H1, I1, rx, a, dx, fs, ex, ea, l, ρ, A, xs, ys, R, r1, r2, q⟩ => ?_) ht
  subst ex
  obtain rfl : u = Value.ref a := rx
  refine getmeth_ok I1 ea hc hm l ?_
  exact PySem.W.callWith_K0 (first := [.ref a]) I1.kIn hm.kp (run_fK (us := [.ref a]) (vs := [.ref a]) (ws := []) (ks := []) hΓ F hr tk hb I1 (.cons rfl .nil) .nil R r1 r2 q)
theorem pe_mtK {pl : Sem Bool} (F : FnE X.prog X.w X.K X.mg X.base Γ0 k d ps m) (hΓ : Γ0.at_ Γ.hid = Γ) (hr : Room k X.A) (tk : Takes X W) (hb : BindK d ps np ks ix) {C : Addr} (hc : Cls X.K C) (hm : Meth X.K C mname (He.fAd X.K d.at_)) {t : TA}
    (ho : PE X o to) (hkw : PK X kws t) (hall : (backToKw pos (keywordEach kws X.env)).all (·.1.isSome) = true := by rfl) (hks : (backToKw pos (keywordEach kws X.env)).filterMap (·.1) = ks := by rfl)
    (hpl : ((backTo pos (starEach [] X.env)).any (·.1) || (backToKw pos (keywordEach kws X.env)).any (·.1.isNone)) = false := by rfl)
    (ht : eval (.Call (.Attribute o mname apos) [] kws pos) X.env = (do
      let ov ← eval o X.env
      standAt apos.atName
      let (f, first) ← holding [ov] (getMethod ov mname pl)
      callWith pos f first (backTo pos (starEach [] X.env)) (backToKw pos (keywordEach kws X.env))) := by rfl) :
    PE X (.Call (.Attribute o mname apos) [] kws pos) (fun σ H Q => to σ H fun x H1 => ∃ a dx fs, x = .ref a ∧ H1 a = some (.ins C dx fs) ∧ fs.lookup mname = none ∧ t σ H1 fun zs H2 => rFn Γ W np ks.length ix m [x] zs σ H2 Q) := by
  refine ⟨fun pins s σ H Q I h => ?_⟩
  refine PySem.W.methodCall_KW (pl := pl) (thn (ho.run pins s σ H _ I h) fun u s1 ⟨x, H1, I1, rx, a, dx, fs, ex, ea, l, q⟩ => ?_) ht
  subst ex
  obtain rfl : u = Value.ref a := rx
  refine getmeth_ok I1 ea hc hm l ?_
  refine PySem.W.callWith_KW0 (first := [.ref a]) (h₀ := X.base) I.ok.mod.kin hm.kp hall (thn (hkw.run pos pins s1 σ H1 _ I1 q) fun ws s2 ⟨zs, H2, I2, rz, ρ, A, xs, ys, R, r1, r2, q2⟩ => ⟨I2.kIn, ?_⟩) hpl
  rw [hks]
  exact run_fK (us := [Value.ref a]) (vs := [V.ref a]) hΓ F hr tk hb I2 (.cons rfl .nil) rz R r1 r2 q2
theorem _root_.L2.PK.imp {X : Cx} {e : List Keyword} {t t' : TA} (h : PK X e t) (i : ∀ σ H Q, t' σ H Q → t σ H Q) : PK X e t' := ⟨fun p pins s σ H Q I q => h.run p pins s σ H Q I (i σ H Q q)⟩
abbrev DK (X : Cx) (Γ : Gm) (W : WX) (e : List Keyword) (m : AM) : Prop := PK X e (wpA Γ W m)
theorem dk_nil : DK X Γ W [] aNil := pk_nil.imp fun σ H Q ⟨ρ, A, τ, a, h⟩ => h ρ H [] Ext.refl a.rel rfl
theorem dk_cons {nm : Option Str} {kpos : Pos} {me : EM} (h : DE X Γ W e me) (k : DK X Γ W kws ma) : DK X Γ W (⟨nm, e, kpos⟩ :: kws) (aCons me ma) :=
  (pk_cons h k).imp fun σ H Q ⟨ρ, A, τ, a, h⟩ => wpG.step a h fun v A1 ρ1 H1 u _ x1 a1 r1 h1 => wpG.step a1 h1 fun vs A2 ρ2 H2 us _ x2 a2 r2 h2 =>
    h2 ρ2 H2 (u :: us) Ext.refl a2.rel ⟨u, us, rfl, r1.ext x2, r2⟩
theorem de_mt {pl : Sem Bool} (F : FnE X.prog X.w X.K X.mg X.base Γ0 k d ps m) (hr : Room k X.A) (hΓ : Γ0.at_ Γ.hid = Γ) (tk : Takes X W) (hb : BindK d ps np [] ix) (hn : mname = Γ.nm mn) (hc : Cls X.K (Γ.ad c)) (hm : Meth X.K (Γ.ad c) mname (He.fAd X.K d.at_))
    (ho : DE X Γ W o mo) (ha : DA X Γ W (e :: es) ma) (hst : starEach (e :: es) X.env = (false, eval e X.env) :: starEach es X.env := by rfl) (hpl : (backTo pos (starEach es X.env)).any (·.1) = false := by rfl)
    (ht : eval (.Call (.Attribute o mname apos) (e :: es) [] pos) X.env = (do
      let ov ← eval o X.env
      standAt apos.atName
      let (f, first) ← holding [ov] (getMethod ov mname pl)
      callWith pos f first (backTo pos (starEach (e :: es) X.env)) (backToKw pos (keywordEach [] X.env))) := by rfl) :
    DE X Γ W (.Call (.Attribute o mname apos) (e :: es) [] pos) (eMt c mn np ix m mo ma) :=
  (pe_mt F hΓ hr tk hb hc hm ho ha hst hpl ht).imp fun σ H Q ⟨ρ, A, τ, a, h⟩ => wpG.step a h fun v A1 ρ1 H1 u _ x1 a1 r1 h1 => by
    split at h1
    · rename_i ei
      obtain ⟨b, dx, fs, rfl, hi, hl⟩ := isIns_ok a1.rel ei r1
      refine ⟨b, dx, fs, rfl, hi, by rw [hn]; exact hl, wpG.step a1 h1 fun vs A2 ρ2 H2 us _ x2 a2 r2 h2 => ⟨ρ2, A2, v :: vs, [], a2.rel, ⟨_, _, rfl, r1.ext x2, r2⟩, rfl, h2⟩⟩
    · exact h1.elim
theorem de_mt0 {pl : Sem Bool} (F : FnE X.prog X.w X.K X.mg X.base Γ0 k d ps m) (hr : Room k X.A) (hΓ : Γ0.at_ Γ.hid = Γ) (tk : Takes X W) (hb : BindK d ps np [] ix) (hn : mname = Γ.nm mn) (hc : Cls X.K (Γ.ad c)) (hm : Meth X.K (Γ.ad c) mname (He.fAd X.K d.at_))
    (ho : DE X Γ W o mo) (ht : eval (.Call (.Attribute o mname apos) [] [] pos) X.env = (do
      let ov ← eval o X.env
      standAt apos.atName
      let (f, first) ← holding [ov] (getMethod ov mname pl)
      callWith pos f first (backTo pos (starEach [] X.env)) (backToKw pos (keywordEach [] X.env))) := by rfl) :
    DE X Γ W (.Call (.Attribute o mname apos) [] [] pos) (eMt c mn np ix m mo aNil) :=
  (pe_mt0 F hΓ hr tk hb hc hm ho ht).imp fun σ H Q ⟨ρ, A, τ, a, h⟩ => wpG.step a h fun v A1 ρ1 H1 u _ x1 a1 r1 h1 => by
    split at h1
    · rename_i ei
      obtain ⟨b, dx, fs, rfl, hi, hl⟩ := isIns_ok a1.rel ei r1
      exact ⟨b, dx, fs, rfl, hi, by rw [hn]; exact hl, ρ1, A1, [v], [], a1.rel, ⟨_, _, rfl, r1, rfl⟩, rfl, h1⟩
    · exact h1.elim
theorem de_mtK {pl : Sem Bool} (F : FnE X.prog X.w X.K X.mg X.base Γ0 k d ps m) (hr : Room k X.A) (hΓ : Γ0.at_ Γ.hid = Γ) (tk : Takes X W) (hb : BindK d ps np ks ix) (hn : mname = Γ.nm mn) (hc : Cls X.K (Γ.ad c)) (hm : Meth X.K (Γ.ad c) mname (He.fAd X.K d.at_))
    (ho : DE X Γ W o mo) (hkw : DK X Γ W kws mk) (hall : (backToKw pos (keywordEach kws X.env)).all (·.1.isSome) = true := by rfl) (hks : (backToKw pos (keywordEach kws X.env)).filterMap (·.1) = ks := by rfl)
    (hpl : ((backTo pos (starEach [] X.env)).any (·.1) || (backToKw pos (keywordEach kws X.env)).any (·.1.isNone)) = false := by rfl)
    (ht : eval (.Call (.Attribute o mname apos) [] kws pos) X.env = (do
      let ov ← eval o X.env
      standAt apos.atName
      let (f, first) ← holding [ov] (getMethod ov mname pl)
      callWith pos f first (backTo pos (starEach [] X.env)) (backToKw pos (keywordEach kws X.env))) := by rfl) :
    DE X Γ W (.Call (.Attribute o mname apos) [] kws pos) (eMtK c mn np ks.length ix m mo mk) :=
  (pe_mtK F hΓ hr tk hb hc hm ho hkw hall hks hpl ht).imp fun σ H Q ⟨ρ, A, τ, a, h⟩ => wpG.step a h fun v A1 ρ1 H1 u _ x1 a1 r1 h1 => by
    split at h1
    · rename_i ei
      obtain ⟨b, dx, fs, rfl, hi, hl⟩ := isIns_ok a1.rel ei r1
      refine ⟨b, dx, fs, rfl, hi, by rw [hn]; exact hl, wpG.step a1 h1 fun zs A2 ρ2 H2 us _ x2 a2 r2 h2 => ⟨ρ2, A2, [v], zs, a2.rel, ⟨_, _, rfl, r1.ext x2, rfl⟩, r2, h2⟩⟩
    · exact h1.elim
end
end Mw
set_option Elab.async false
set_option linter.all false
set_option maxRecDepth 100000
set_option maxHeartbeats 2000000
namespace Mw
open PySem PySem.Spec PyProof.Rows L2
abbrev MM := AV → List AV → AH → Out AV
structure MtdM (X : Cx) (Γ : Gm) (bid : String) (m : MM) : Prop where
  run : ∀ (pins : List (Addr × Obj)) (s : Shared) (σ : L2.St) (H : Hp) (Q : VK) (E : EK) (ρ : Nat → Addr) (A : AH) (x : AV) (xs : List AV) (u : V) (us : List V) (v : Value) (vs : List Value), Inv X pins σ H s → Rel Γ ρ A H → VR Γ ρ A H x u → VRs Γ ρ A H xs us → RelV u v → Vals us vs →
    PostE Γ E ρ A H Q (m x xs A) → wpAny (model X.prog X.w) X.A (call (.builtin bid) (v :: vs)) (EP X pins σ Q) X.xe s
section
variable {X : Cx} {Γ : Gm} {W : WX} {bid : String} {m : MM}
theorem MtdM.of {r : V → List V → Hp → VK → Prop} (c : MtR X bid r) (h : ∀ (Q : VK) (E : EK) (ρ : Nat → Addr) (A : AH) (H : Hp) (x : AV) (xs : List AV) (u : V) (us : List V), Rel Γ ρ A H → VR Γ ρ A H x u → VRs Γ ρ A H xs us → PostE Γ E ρ A H Q (m x xs A) → r u us H Q) : MtdM X Γ bid m :=
  ⟨fun pins s σ H Q E ρ A x xs u us v vs I R r1 r2 q1 q2 k => c pins s σ H u us v vs Q I q1 q2 (h Q E ρ A H x xs u us R r1 r2 k)⟩
def rMt (Γ : Gm) (m : MM) : V → List V → Hp → VK → Prop := fun u us H Q => ∃ (E : EK) (ρ : Nat → Addr) (A : AH) (x : AV) (xs : List AV), Rel Γ ρ A H ∧ VR Γ ρ A H x u ∧ VRs Γ ρ A H xs us ∧ PostE Γ E ρ A H Q (m x xs A)
theorem MtdM.r (c : MtdM X Γ bid m) : MtR X bid (rMt Γ m) := fun pins s σ H u us v vs Q I q1 q2 ⟨E, ρ, A, x, xs, R, r1, r2, k⟩ => c.run pins s σ H Q E ρ A x xs u us v vs I R r1 r2 q1 q2 k
def eMl (m : MM) (o : EM) (a : AM) : EM := fun τ A => (o τ A).bind fun v A1 => match dirL v A1 with
  | some _ => (a τ A1).bind fun vs A2 => m v vs A2
  | none => .stuck
variable {o e : Expr} {es : List Expr} {mo : EM} {ma : AM} {name : Str} {apos cpos : Pos}
theorem de_ml (pa : PlainAttrs "list") (slot : Slot "list" name bid) (hty : typeOf (.builtin bid) = pure (.type "method_descriptor")) (hm : MtdM X Γ bid m) (ho : DE X Γ W o mo) (ha : DA X Γ W (e :: es) ma)
    (hbase : attributeBase o name X.env (eval o X.env) = eval o X.env := by rfl)
    (hfew : ((backTo cpos (starEach (e :: es) X.env)).all (fun x => !x.1) && (backToKw cpos (keywordEach [] X.env)).all (fun x => x.1.isSome)
      && decide ((e :: es).length + ([] : List Keyword).length + (if ([] : List Keyword).isEmpty then 0 else 1) < 30)) = true := by rfl)
    (hline : (apos.endLine == cpos.line) = true := by rfl) (hs : starEach (e :: es) X.env = (false, eval e X.env) :: starEach es X.env := by rfl) (hplain : (backTo cpos (starEach es X.env)).any (·.1) = false := by rfl) :
    DE X Γ W (.Call (.Attribute o name apos) (e :: es) [] cpos) (eMl m mo ma) :=
  (pe_bm pa slot hty hm.r ho ha hbase hfew hline hs hplain).imp fun σ H Q ⟨ρ, A, τ, a, h⟩ => wpG.step a h fun v A1 ρ1 H1 u _ x1 a1 r1 h1 => by
    split at h1
    · rename_i xs ex
      obtain ⟨b, us, rfl, hb, rb⟩ := dirL_ok a1.rel ex r1
      exact ⟨.inl ⟨rfl, us, SqL.of hb⟩, wpG.step a1 h1 fun vs A2 ρ2 H2 us2 _ x2 a2 r2 h2 => ⟨_, ρ2, A2, v, vs, a2.rel, r1.ext x2, r2, h2⟩⟩
    · exact h1.elim
theorem de_ml0 (pa : PlainAttrs "list") (slot : Slot "list" name bid) (hty : typeOf (.builtin bid) = pure (.type "method_descriptor")) (hm : MtdM X Γ bid m) (ho : DE X Γ W o mo)
    (hbase : attributeBase o name X.env (eval o X.env) = eval o X.env := by rfl) (hline : (apos.endLine == cpos.line) = true := by rfl) :
    DE X Γ W (.Call (.Attribute o name apos) [] [] cpos) (eMl m mo aNil) :=
  (pe_bm0 pa slot hty hm.r ho hbase hline).imp fun σ H Q ⟨ρ, A, τ, a, h⟩ => wpG.step a h fun v A1 ρ1 H1 u _ x1 a1 r1 h1 => by
    split at h1
    · rename_i xs ex
      obtain ⟨b, us, rfl, hb, rb⟩ := dirL_ok a1.rel ex r1
      exact ⟨.inl ⟨rfl, us, SqL.of hb⟩, _, ρ1, A1, v, [], a1.rel, r1, rfl, h1⟩
    · exact h1.elim
theorem post_setL {E : EK} {ρ : Nat → Addr} {A : AH} {H : Hp} {Q : VK} {i : Nat} {xs ys : List AV} {v : AV} {us : List V} {z : V} (R : Rel Γ ρ A H) (ei : A[i]? = some (.lst xs)) (h : PostE Γ E ρ A H Q (.ok v (A.set i (.lst ys)))) (r : VRs Γ ρ A H ys us) (rv : VR Γ ρ A H v z) : Q z (upd H (ρ i) (.lst us)) := by
  obtain ⟨us0, hp, rp⟩ := R.obj i _ ei
  have h1 : ∀ us, H (ρ i) ≠ some (.tup us) := fun us z => by rw [hp] at z; cases z
  have h2 : ∀ q us, H (ρ i) ≠ some (.frz q us) := fun q us z => by rw [hp] at z; cases z
  have ni : (AO.lst xs) ≠ .gone := by intro z; cases z
  have xw := Ext.write (o := .lst us) (ao := .lst ys) R ei ni h1 h2
  exact h ρ _ _ xw (R.write ei ni h1 h2 ⟨us, upd_same, VRs.ext xw _ r⟩) (rv.ext xw)
def lstAt (v : AV) (A : AH) : Option (Nat × List AV) := match v with
  | .ref i => (match A[i]? with
    | some (.lst xs) => some (i, xs)
    | _ => none)
  | _ => none
theorem lstAt_ok {v : AV} {A : AH} {i : Nat} {xs : List AV} (e : lstAt v A = some (i, xs)) : v = .ref i ∧ A[i]? = some (.lst xs) := by
  unfold lstAt at e
  cases v <;> try cases e
  simp only at e
  split at e
  · rename_i ys ey
    cases e
    exact ⟨rfl, ey⟩
  · cases e
def mAppend : MM := fun v xs A => match xs, lstAt v A with
  | [y], some (i, ys) => if Nat.blt ys.length big = true then .ok .non (A.set i (.lst (ys ++ [y]))) else .stuck
  | _, _ => .stuck
theorem mt_appendM : MtdM X Γ "list.append" mAppend := .of mt_append fun Q E ρ A H x xs u us R r1 r2 h => by
  unfold mAppend at h
  split at h
  · rename_i y i ys ei
    obtain ⟨rfl, eq⟩ := lstAt_ok ei
    split at h
    · rename_i hl
      obtain ⟨us, hp, rp⟩ := R.obj i _ eq
      obtain ⟨w, _, rfl, rw', rfl⟩ := r2
      exact ⟨ρ i, us, w, r1.2, rfl, hp, by rw [rp.length, ← big_eq]; exact blt_lt hl, post_setL R eq h (rp.append ⟨w, [], rfl, rw', rfl⟩) rfl⟩
    · exact h.elim
  · exact h.elim
def mExtend : MM := fun v xs A => match xs, lstAt v A with
  | [y], some (i, ys) => (match dirL y A with
    | some zs => if Nat.ble (ys.length + zs.length) big = true then .ok .non (A.set i (.lst (ys ++ zs))) else .stuck
    | none => .stuck)
  | _, _ => .stuck
theorem mt_extendM : MtdM X Γ "list.extend" mExtend := .of mt_extend fun Q E ρ A H x xs u us R r1 r2 h => by
  unfold mExtend at h
  split at h
  · rename_i y i ys ei
    obtain ⟨rfl, eq⟩ := lstAt_ok ei
    split at h
    · rename_i zs ez
      split at h
      · rename_i hl
        obtain ⟨us, hp, rp⟩ := R.obj i _ eq
        obtain ⟨w, _, rfl, rw', rfl⟩ := r2
        obtain ⟨b, ws, rfl, hb, rb⟩ := dirL_ok R ez rw'
        exact ⟨ρ i, b, us, ws, r1.2, rfl, hp, hb, by rw [rp.length, rb.length, ← big_eq]; exact Nat.le_of_ble_eq_true hl, post_setL R eq h (rp.append rb) rfl⟩
      · exact h.elim
    · exact h.elim
  · exact h.elim
def mInsert : MM := fun v xs A => match xs, lstAt v A with
  | [.int k, y], some (i, ys) => if (Nat.blt ys.length big && decide (0 ≤ k ∧ k < 2 ^ 63)) = true then .ok .non (A.set i (.lst (ys.take k.toNat ++ [y] ++ ys.drop k.toNat))) else .stuck
  | _, _ => .stuck
theorem mt_insertM : MtdM X Γ "list.insert" mInsert := .of mt_insert fun Q E ρ A H x xs u us R r1 r2 h => by
  unfold mInsert at h
  split at h
  · rename_i k y i ys ei
    obtain ⟨rfl, eq⟩ := lstAt_ok ei
    split at h
    · rename_i hl
      obtain ⟨l1, l2⟩ := Bool.and_eq_true_iff.mp hl
      have l2 := of_decide_eq_true l2
      obtain ⟨us, hp, rp⟩ := R.obj i _ eq
      obtain ⟨wk, _, rfl, rk, w, _, rfl, rw', rfl⟩ := r2
      have : wk = .int k := rk
      subst this
      exact ⟨ρ i, us, k, w, r1.2, rfl, hp, by rw [rp.length, ← big_eq]; exact blt_lt l1, l2.1, l2.2, post_setL R eq h (VRs.append (VRs.append (VRs.take _ rp) (show VRs Γ ρ A H [y] [w] from ⟨w, [], rfl, rw', rfl⟩)) (VRs.drop _ rp)) rfl⟩
    · exact h.elim
  · exact h.elim
end
end Mw
set_option Elab.async false
set_option linter.all false
set_option maxRecDepth 100000
set_option maxHeartbeats 4000000
namespace Mw
open PySem PySem.Spec PyProof.Rows L2
section
open PySem.W PySem.Calls
variable {prog : Program} {w : World} {A : Around} {E : Value → Shared → Prop} {s : Shared} {K : Frag} {x D : Addr} {ox : Obj} {od : Option Obj}
theorem classObj (C : L2.ExcC K D) : findObj K D od "__class__" = some (.bind (.builtin "getset_descriptor.__get__") (.builtin "object.__class__")) := by
  obtain ⟨cd, hc, _⟩ := any_some C.hd
  have h1 := C.ha
  have h2 := C.hn
  have h3 := C.ht
  unfold findObj
  rw [hc, Option.bind_some, h1, Option.bind_some]
  simp [h2, h3]
theorem class_of_exc {Q : Option Value → Shared → Prop} (C : L2.ExcC K D) (X : K.In s.heap) (I : InstAt s.heap x ox D od) (h : Q (some (.ref D)) { s with toks := s.toks + 1 }) : wpAny (model prog w) A (getAttr? (.ref x) "__class__") Q E s := by
  obtain ⟨hp, gg, dd, tt, os⟩ := s
  have look0 := I.type (M := model prog w)
  have look1 := looks_findIn (M := model prog w) X C.hg
  have look2 := looks_findIn (M := model prog w) X C.hk
  have look3 := looks_find (M := model prog w) X I (classObj C)
  have isB : Looks (model prog w) hp (isInstance (.ref x) (.type "BaseException")) true := look0.andThen (looks_subIn X C.hs)
  have z0 : (false && onTheHeap (Value.builtin "BaseException.__getattribute__")) = false := rfl
  have z2 : (Value.builtin "BaseException.__getattribute__" == Value.builtin "object.__getattribute__") = false := by decide +kernel
  have z1 : (onTheHeap (Value.ref D) && Value.builtin "BaseException.__getattribute__" == Value.builtin "object.__getattribute__") = false := by rw [z2]; rfl
  unfold getAttr? getAttrBy? getAttrBy
  refine wpAny_bind (wpAny_mkText ?_); refine wpAny_bind (wpAny_attempt (wpAny_holding ?_)); refine wpAny_bind (look0.at ?_); refine wpAny_bind (look1.at ?_)
  show wpAny _ _ (if (onTheHeap (Value.ref D) && Value.builtin "BaseException.__getattribute__" == Value.builtin "object.__getattribute__") = true then _ else _) _ _ _
  rw [z1, if_neg Bool.false_ne_true]; unfold getAttrByItsOwn hookBefore; refine wpAny_bind ?_
  rw [if_pos (show onTheHeap (Value.ref D) = true from rfl)]; refine look2.at ?_; refine wpAny_bind (wpAny_attempt (wpAny_holding ?_))
  unfold callGetattribute; rw [z0, if_neg Bool.false_ne_true]; unfold boundAndCalled; rw [PySem.F.excAttr_ValueError.ga.bind (.ref x)]; refine wpAny_bind (wpAny_pure ?_)
  show wpAny _ _ (call (.builtin "BaseException.__getattribute__") [.ref x, .str "__class__" tt]) _ _ _
  refine wpAny_call (codeAny_call_builtin PySem.F.excAttr_ValueError.ga.plain PySem.F.entry_bexc_ga ?_)
  refine @check_slot (model prog w) _ _ ⟨hp, gg, dd, tt + 1, os⟩ "BaseException.__getattribute__" "BaseException" "__getattribute__" (.ref x) [.str "__class__" tt] [] _ (by decide +kernel) (by decide +kernel) isB (PySem.F.args_bexc_ga (.ref x) (.str "__class__" tt)) ?_
  unfold Builtin.«object.__getattribute__»
  refine wpAny_bind (wpAny_of_eq (a := ((Value.ref x : Value), [Value.str "__class__" tt])) (by first | rfl | (simp only [slotArgs]; rfl)) ?_)
  refine wpAny_bind (wpAny_pure ?_); refine wpAny_bind (look0.at ?_); refine wpAny_bind (look3.at ?_)
  show wpAny _ _ (holding [Value.builtin "object.__class__"] (call (.builtin "getset_descriptor.__get__") [.builtin "object.__class__", .ref x, .ref D]) >>= ret) _ _ _
  refine wpAny_bind (wpAny_holding (wpAny_call (class_get (s := ⟨hp, gg, dd, tt + 1, os⟩) (ox := ox) (od := od) X I C.hm ?_))); refine wpAny_pure ?_
  show wpAny _ _ (handedOut (.ref D)) _ _ _
  rw [handedOut_of (v := .ref D) rfl]
  first | exact wpAny_pure (wpAny_pure h) | exact wpAny_pure h | exact wpAny_pure (wpAny_bind (wpAny_pure (wpAny_pure h)))
theorem kitx_excD (C : L2.ExcC K D) : KitX K (.ref x) (.ref D) (fun h => ∃ od, InstAt h x ox D od) where
  ty := fun _ _ _ ⟨_, I⟩ => I.type
  it := fun _ _ X _ => by
    obtain ⟨cdD, hcD, _⟩ := any_some C.hd
    unfold clsIn at hcD; split at hcD
    · rename_i c' d' cd' sl' ho; intro A' Q' E' s' k q; unfold isType loadHead; exact wpAny_bind (wpAny_loadPart (k _ _ (X _ _ ho)) (wpAny_pure q))
    · cases hcD
  ne := fun h tp dd its n sl X htp => by
    obtain ⟨cdD, hcD, _⟩ := any_some C.hd
    refine Bool.eq_false_iff.mpr fun q => ?_
    have e : D = tp := Value.ref.inj (beq_iff_eq.mp q)
    subst e; unfold clsIn at hcD; split at hcD
    · rename_i c' d' cd' sl' ho; have z := (X _ _ ho).symm.trans htp; cases z
    · cases hcD
  ca := fun X ⟨_, I⟩ k => class_of_exc C X I k
end
theorem call_isED {X : Cx} {a D : Addr} {oe : Obj} {d : Option Addr} {pn : List (Addr × Obj)} (C : ExcC X.K D) (hz : Zc (.ref D) d oe) (hf : ∃ vs, oe.data = .fields vs) :
    CallR (X.suite a ((a, oe) :: pn)) (.builtin "isinstance") (fun xs H Q => ∃ (c : V) (cv : Value) (b : Bool), xs = [.ref a, c] ∧ (∀ u, RelV c u → u = cv) ∧ PySem.W.kitOne X.K (.ref D) cv = some b ∧ (d = none ∨ ∃ dd fs, d = some dd ∧ H dd = some (.xd fs)) ∧ Q (.bl b) H) := by
  rintro pins s σ H xs us Q I r ⟨c, cv, b, rfl, hcv, e, hd, q⟩
  obtain ⟨u1, u2, rfl, r1, r2⟩ := vals2 r
  cases r1
  have ec := hcv _ r2
  subst ec
  obtain ⟨hget, _⟩ := I.pin (a, oe) (List.mem_append.mpr (.inl List.mem_cons_self))
  obtain ⟨vs, hv⟩ := hf
  have J : ∃ od, PySem.W.InstAt s.heap a oe D od := by
    obtain ⟨oc, odd, oda, osl⟩ := oe
    obtain ⟨h1, h2⟩ := hz
    dsimp only at h1 h2 hv
    subst h1 h2 hv
    rcases hd with rfl | ⟨dd, fs, rfl, hdd⟩
    · exact ⟨none, hget, rfl, rfl, trivial⟩
    · obtain ⟨mA, hns, _⟩ := (show ObjOk X.prog X.w H s.heap dd (.xd fs) from I.hok dd _ hdd)
      obtain ⟨od, ho, _⟩ := lookIn_ns hns
      exact ⟨some od, hget, rfl, rfl, ho⟩
  exact PySem.W.kia_one (kitx_excD C) I.kIn J e (fun z => nomatch z) fun tk => ⟨.bl b, H, I.kept (t' := tk) fun _ _ z => z, rfl, q⟩
end Mw
set_option Elab.async false
set_option linter.all false
set_option maxRecDepth 100000
set_option maxHeartbeats 4000000
namespace Mw
open PySem PySem.Spec PyProof.Rows L2
structure ClA where
  c : Value
  i : Nat
  ts : Addr → Value → Option Addr → TS
abbrev Ends.off (D : Ends) (i : Nat) : Ends := { nx := fun σ' H' => D.nx (σ'.set i none) H', rt := D.rt, bk := fun σ' H' => D.bk (σ'.set i none) H', ct := fun σ' H' => D.ct (σ'.set i none) H' }
def wManyA (K : PySem.W.Frag) (Wout : WX) (D : Ends) : List ClA → WX
  | [] => Wout
  | q :: r => fun cls d σ H => ∃ b, PySem.W.exmOne K cls q.c = some b ∧ (b = true → ∀ a, H a = none → q.ts a cls d (Ends.off D q.i) (σ.set q.i (some (.ref a))) H) ∧ (b = false → wManyA K Wout D r cls d σ H)
inductive HdsA (X : Cx) : List ExceptHandler → List ClA → Prop
  | nil : HdsA X [] []
  | cons {x n : Str} {q : ClA} {b₀ : Stmt} {suite : List Stmt} {np ps : Pos} {hds : List ExceptHandler} {l : List ClA} (hc : Names X x q.c) (hi : X.N[q.i]? = some n) (hl : X.env.kindOf n = some .local)
      (hsu : ∀ (a : Addr) (oe : Obj) (cls : Value) (d : Option Addr) (pn : List (Addr × Obj)), Zc cls d oe → (∃ vs, oe.data = .fields vs) → PSs (X.suite a ((a, oe) :: pn)) (b₀ :: suite) (q.ts a cls d)) (r : HdsA X hds l) :
      HdsA X (.ExceptHandler (some (.Name x np)) (some n) (b₀ :: suite) ps :: hds) (q :: l)
section
variable {X : Cx} {body : List Stmt} {hd0 : ExceptHandler} {hds : List ExceptHandler} {l : List ClA} {pos : Pos} {tb : WX → TS} {Wout : WX}
theorem ps_try_manyA (hs : X.stack = X.env :: X.outer) (hf : X.env.frame = some X.env.locals) (hN : X.N.Nodup) (tk : Takes X Wout)
    (hb : ∀ (W : WX) (pn : List (Addr × Obj)) (xe : Value → Shared → Prop), Takes (X.tr pn xe) W → PassesOwn (model X.prog X.w) X.A X.env xe → PSs (X.tr pn xe) body (tb W))
    (hh : HdsA X (hd0 :: hds) l) : PS X (.Try body (hd0 :: hds) [] [] pos) (fun D σ H => tb (wManyA X.K Wout D l) D σ H) := ⟨fun pins s σ H D I wish => by
  have ok := I.ok
  have frm : X.A.frames = some (X.env :: X.outer) := by rw [ok.frames, hs]
  refine wpAny_Try_except ?_
  let after : Value → Shared → Prop := fun e s₁ => wpAny (model X.prog X.w) X.A (noteFrame e X.env) (fun _ s₂ => wpAny (model X.prog X.w) X.A (setFlight e none) (fun _ s₃ => wpAny (model X.prog X.w) X.A (handleBy e X.env (hd0 :: hds)) (SP X pins D) X.xe s₃) X.xe s₂) X.xe s₁
  have took : Takes (X.tr (X.pn ++ pins) after) (wManyA X.K Wout D l) := by
    rintro u s' ⟨a, B, sI, pins', σ', H', cls, d, rfl, J', nb, up, sky, na, os, ag, w⟩
    have J : Inv X pins σ' H' sI := J'.ofTry ok
    have skyX : Sky B (X.env :: X.outer) a (Zc cls d) X.env.locals s'.heap := hs ▸ sky
    refine Sky.land Zc.steady frm hf skyX fun h3 fl3 up3 => ?_
    have J3 : Inv X pins σ' H' { s' with heap := h3 } := J.landed nb fl3.1 (up.trans up3) os ag
    obtain ⟨oe3, vs3, he3, hz3, hd3⟩ := fl3.there
    have offF : a ∉ frs (X.env :: X.outer) := fun hm => by
      obtain ⟨_, o', e', hnf⟩ := fl3.2.2.1.mem hm
      rw [he3] at e'; cases e'; exact hnf _ hd3
    have nL : a ≠ X.env.locals := fun z => offF (List.mem_filterMap.mpr ⟨X.env, List.mem_cons_self, by rw [hf, z]⟩)
    have nF : a ∉ X.fs := fun hm => let ⟨e, he, q⟩ := List.mem_filterMap.mp hm; offF (List.mem_filterMap.mpr ⟨e, List.mem_cons_of_mem _ he, q⟩)
    have S3 := J3.suite he3 hd3 na nL nF
    have walk : ∀ {hs' : List ExceptHandler} {l' : List ClA}, HdsA X hs' l' → wManyA X.K Wout D l' cls d σ' H' → wpAny (model X.prog X.w) X.A (handleBy (.ref a) X.env hs') (SP X pins D) X.xe { s' with heap := h3 } := by
      intro hs' l' hk
      induction hk with
      | nil =>
        intro w
        refine wpAny_handleBy_nil ?_
        obtain ⟨k1, k2, k3, oe, vs, T, oT, ts', he, hz, hd, h1, hr⟩ := id fl3
        unfold PySem.passOn; refine wpAny_bind (wpAny_field he hd h1 ?_)
        rw [if_neg (show ¬ ((Value.ref T == Value.none) = true) from by simp)]
        have fin : wpAny (model X.prog X.w) X.A (setFlight (.ref a) X.env.frame) (fun _ s4 => wpAny (model X.prog X.w) X.A (throw (.ref a) : Sem Flow) (SP X pins D) X.xe s4) X.xe { s' with heap := h3 } := by
          rw [hf]; refine HandSPX.setFlight_upZ fl3 fun h4 hh4 up4 => wpAny_throw (tk _ _ ?_)
          exact ⟨a, B, sI, pins, σ', H', cls, d, rfl, J, nb, (up.trans up3).trans up4, .inr (.inr (hs ▸ hh4)), na, os, ag, w⟩
        first | exact wpAny_bind (wpAny_pure (wpAny_bind fin)) | exact wpAny_bind fin
      | @cons x n q b₀ suite np ps hs2 l2 hc hi hl hsu r ih =>
        rintro ⟨b, hb1, hyes, hno⟩
        refine wpAny_handleBy_cons (codeAny_handlers_test ?_) (by intro q; cases q)
        have LT : PySem.W.Looks (model X.prog X.w) h3 (typeOf (.ref a)) cls := fun A Q E s k q => wpAny_typeOf_ref (k _ _ he3) (by rw [hz3.1]; exact q)
        have LM := PySem.W.exm_one (M := model X.prog X.w) (J3.kIn) LT hb1
        have named : ∀ {Q : Value → Shared → Prop} {E : Value → Shared → Prop}, Q q.c { s' with heap := h3 } → wpAny (model X.prog X.w) (X.A.mark (some (.ref a))) (eval (.Name x np) X.env) Q E { s' with heap := h3 } := fun {Q E} z => by
          obtain ⟨hg, hdbg, hm | ⟨hm, hv, hnn⟩⟩ := hc
          · exact ld_glob (X := X.suite a ((a, oe3) :: (X.pn ++ pins))) S3 hg hm z hdbg
          · exact ld_blt (X := X.suite a ((a, oe3) :: (X.pn ++ pins))) S3 hg hm hv z hnn hdbg
        refine named (LM.here ?_)
        cases b with
        | false => exact ih (hno rfl)
        | true =>
          refine codeAny_handlers_suite_as ?_
          refine HandSPX.lands_againZ fl3 fun h4 fl4 up4 => ?_
          have J4 : Inv X pins σ' H' { s' with heap := h4 } := J.landed nb fl4.1 ((up.trans up3).trans up4) os ag
          obtain ⟨oe4, vs4, he4, hz4, hd4⟩ := fl4.there
          have S4 := J4.suite he4 hd4 na nL nF
          refine store_ok (X := X.suite a ((a, oe4) :: (X.pn ++ pins))) (v := .ref a) S4 hN hi (.inl hl) rfl (fun s5 S5 => ?_) (.inr hl)
          refine wpAny_mono ((hsu a oe4 cls d (X.pn ++ pins) hz4 ⟨_, hd4⟩).run [] s5 _ H' _ S5 (hyes rfl a na)) (fun f s6 hsp => ?_) (fun _ _ z => False.elim z)
          have done : ∀ {σ6 : L2.St} {H6 : Hp} {Q : Shared → Prop}, Inv (X.suite a ((a, oe4) :: (X.pn ++ pins))) [] σ6 H6 s6 → (∀ s7, Inv X pins (σ6.set q.i none) H6 s7 → Q s7) →
              wpAny (model X.prog X.w) X.A (do bindName X.env n .none; unbindBehindTheSuite X.env n ps) (fun _ s7 => Q s7) X.xe s6 := fun S6 hq => gone_ok (S6.unsuite ok) hN hi hl hq
          cases f with
          | next => obtain ⟨σ6, H6, S6, q6⟩ := hsp; exact done S6 fun s7 J7 => ⟨_, _, J7, q6⟩
          | brk => obtain ⟨σ6, H6, S6, q6⟩ := hsp; exact done S6 fun s7 J7 => ⟨_, _, J7, q6⟩
          | cont => obtain ⟨σ6, H6, S6, q6⟩ := hsp; exact done S6 fun s7 J7 => ⟨_, _, J7, q6⟩
          | ret u => obtain ⟨v6, σ6, H6, S6, r6, q6⟩ := hsp; exact done S6 fun s7 J7 => ⟨_, _, _, J7, r6, q6⟩
    exact walk hh w
  refine wpAny_mono ((hb (wManyA X.K Wout D l) (X.pn ++ pins) after took PassesOwn.looking).run [] s σ H D (I.toTry _) wish) (fun f s1 hsp => ?_) (fun e s1 he => he)
  cases f with
  | next => obtain ⟨σ', H', J', q⟩ := hsp; exact wpAny_execs_nil ⟨σ', H', J'.ofTry ok, q⟩
  | brk => obtain ⟨σ', H', J', q⟩ := hsp; exact ⟨σ', H', J'.ofTry ok, q⟩
  | cont => obtain ⟨σ', H', J', q⟩ := hsp; exact ⟨σ', H', J'.ofTry ok, q⟩
  | ret u => obtain ⟨v, σ', H', J', r, q⟩ := hsp; exact ⟨v, σ', H', J'.ofTry ok, r, q⟩⟩
end
inductive Itm where
  | s (x : List Nat) | n | f (g : Nat) | i (b : Bool)
def itmAV (fs : List (Nat × AV)) : Itm → Option AV
  | .s x => some (.str x)
  | .n => some .non
  | .f g => lookF g fs
  | .i b => some (.bl b)
def itmsAV (fs : List (Nat × AV)) : List Itm → Option (List AV)
  | [] => some []
  | t :: r => (match itmAV fs t, itmsAV fs r with
    | some v, some vs => some (v :: vs)
    | _, _ => none)
section
variable {X : Cx} {Γ : Gm} {a : Addr} {oe : Obj} {cls : Value} {d : Option Addr} {pn : List (Addr × Obj)} {i : Nat} {c : Nat}
def tItm (Γ : Gm) (a : Addr) (cls : Value) (d : Option Addr) (c i : Nat) : Itm → TE
  | .s x => tC (.str ⟨x.toArray⟩)
  | .n => tC .non
  | .f g => tXf a cls d (Γ.ad c) (Γ.nm g) (tVar i)
  | .i b => fun σ H Q => σ[i]? = some (some (.ref a)) ∧ cls = .ref (Γ.ad c) ∧ (d = none ∨ ∃ dd fs, d = some dd ∧ H dd = some (.xd fs)) ∧ Q (.bl b) H
def tItms (Γ : Gm) (a : Addr) (cls : Value) (d : Option Addr) (c i : Nat) : List Itm → TA
  | [] => tNil
  | t :: r => tCons (tItm Γ a cls d c i t) (tItms Γ a cls d c i r)
structure ItmOk (X : Cx) (Γ : Gm) (c i : Nat) (e : Expr) (t : Itm) : Prop where
  pe : ∀ (a : Addr) (oe : Obj) (cls : Value) (d : Option Addr) (pn : List (Addr × Obj)), Zc cls d oe → (∃ vs, oe.data = .fields vs) → PE (X.suite a ((a, oe) :: pn)) e (tItm Γ a cls d c i t)
inductive ItmsOk (X : Cx) (Γ : Gm) (c i : Nat) : List Expr → List Itm → Prop
  | nil : ItmsOk X Γ c i [] []
  | cons {e : Expr} {t : Itm} {es : List Expr} {ts : List Itm} (h : ItmOk X Γ c i e t) (hs : ∀ a pn, starEach (e :: es) (X.suite a pn).env = (false, eval e (X.suite a pn).env) :: starEach es (X.suite a pn).env) (r : ItmsOk X Γ c i es ts) : ItmsOk X Γ c i (e :: es) (t :: ts)
theorem itms_pa : ∀ {es : List Expr} {ts : List Itm}, ItmsOk X Γ c i es ts → Zc cls d oe → (∃ vs, oe.data = .fields vs) → PA (X.suite a ((a, oe) :: pn)) es (tItms Γ a cls d c i ts)
  | [], [], _, _, _ => pa_nil
  | e :: es, t :: ts, .cons h hs r, hz, hf => pa_cons (h.pe a oe cls d pn hz hf) (itms_pa r hz hf) (hs a _)
variable {pos p2 : Pos} {e : Expr}
theorem itm_s {x : Str} {z : List Nat} {j : Nat} (h : x = ⟨z.toArray⟩) : ItmOk X Γ c i (.Constant (.str x) j pos) (.s z) := ⟨fun a oe cls d pn _ _ => by subst h; exact pe_str⟩
theorem itm_n {j : Nat} : ItmOk X Γ c i (.Constant .none j pos) .n := ⟨fun a oe cls d pn _ _ => pe_non⟩
theorem itm_f {n x : Str} {g : Nat} (hK : X.K = Γ.K) (T : XfC Γ.K (Γ.ad c)) (hg : n = Γ.nm g) (hno : PySem.W.findIn Γ.K (.ref (Γ.ad c)) n = some none) (hx : X.N[i]? = some x) (hv : Vis X.env.scope x) (hd : (x == ("__debug__" : Str)) = false := by decide) (hcd : (x == ("__classdict__" : Str)) = false := by decide)
    (hb : attributeBase (.Name x p2) n X.env (eval (.Name x p2) X.env) = eval (.Name x p2) X.env := by rfl) : ItmOk X Γ c i (.Attribute (.Name x p2) n pos) (.f g) :=
  ⟨fun a oe cls d pn hz hf => by subst hg; exact pe_xf (by rw [show (X.K) = Γ.K from hK]; exact T) (by rw [show (X.K) = Γ.K from hK]; exact hno) hz hf (pe_var hx hv hd hcd) hb⟩
theorem itm_i {x C : Str} {g : Nat} {b : Bool} {p p1 p3 : Pos} (hK : X.K = Γ.K) (T : ExcC Γ.K (Γ.ad c)) (hk : PySem.W.kitOne Γ.K (.ref (Γ.ad c)) (.ref (Γ.ad g)) = some b) (hC : X.mg C = some (.ref (Γ.ad g))) (gC : Gl X C) (hx : X.N[i]? = some x) (hv : Vis X.env.scope x)
    (hg : Gl X "isinstance") (hm : X.mg "isinstance" = none) (hbt : bootBuiltins "isinstance" = some (.builtin "isinstance")) (hd : (x == ("__debug__" : Str)) = false := by decide) (hcd : (x == ("__classdict__" : Str)) = false := by decide) (hdC : (C == ("__debug__" : Str)) = false := by decide)
    (hst : ∀ a pn, starEach [.Name x p1, .Name C p3] (X.suite a pn).env = (false, eval (.Name x p1) (X.suite a pn).env) :: starEach [.Name C p3] (X.suite a pn).env := by intros; rfl) :
    ItmOk X Γ c i (.Call (.Name "isinstance" p) [.Name x p1, .Name C p3] [] pos) (.i b) :=
  ⟨fun a oe cls d pn hz hf => by
    refine ⟨fun pins s σ H Q I h => ?_⟩
    obtain ⟨h1, rfl, h3, q⟩ := h
    refine (pe_callB (X := X.suite a ((a, oe) :: pn)) (call_isED (by rw [show (X.K) = Γ.K from hK]; exact T) hz hf) hg hm hbt (pa_cons (pe_var hx hv hd hcd) (pa_cons (pe_glob (v := .ref (Γ.ad g)) gC hC rfl hdC) pa_nil) (hst a _)) (he := hst a _)).run pins s σ H Q I ?_
    exact ⟨_, h1, _, .ref (Γ.ad g), b, rfl, fun u e => e, by rw [show (X.K) = Γ.K from hK]; exact hk, h3, q⟩⟩
end
abbrev ClM := Nat × Nat × List Itm
def trM (fz : Bool) (cs : List Nat) : List ClM → Nat → List (Nat × AV) → AE → AH → SR
  | [], c, fs, τ, A => .exc c fs τ A
  | (g, i, its) :: r, c, fs, τ, A => if (cs.contains c && Nat.blt i τ.length) = true then (if Nat.beq c g = true then (match itmsAV fs its with
    | some vs => if Nat.ble vs.length big = true then (match newL fz vs A with
      | .ok v A1 => .rt v A1
      | _ => .stuck) else .stuck
    | none => .stuck) else trM fz cs r c fs τ A) else .stuck
def sTryR (fz : Bool) (b : SM) (cs : List Nat) (cl : List ClM) : SM := fun τ A => match b τ A with
  | .exc c fs τ1 A1 => trM fz cs cl c fs τ1 A1
  | r => r
inductive HdsM (X : Cx) (Γ : Gm) : List ExceptHandler → List ClM → Prop
  | nil : HdsM X Γ [] []
  | cons {x n : Str} {g i : Nat} {its : List Itm} {es : List Expr} {np ps p1 p2 : Pos} {hds : List ExceptHandler} {l : List ClM} (hc : Names X x (.ref (Γ.ad g))) (hi : X.N[i]? = some n) (hl : X.env.kindOf n = some .local) (h : ItmsOk X Γ g i es its) (r : HdsM X Γ hds l) :
      HdsM X Γ (.ExceptHandler (some (.Name x np)) (some n) [.Return (some (.List es p1)) p2] ps :: hds) ((g, i, its) :: l)
section
variable {X : Cx} {Γ : Gm} {W : WX}
def clA (Γ : Gm) (q : ClM) : ClA := ⟨.ref (Γ.ad q.1), q.2.1, fun a cls d => tRet (tLst (tItms Γ a cls d q.1 q.2.1 q.2.2))⟩
theorem hdsA_of : ∀ {hds : List ExceptHandler} {l : List ClM}, HdsM X Γ hds l → HdsA X hds (l.map (clA Γ))
  | _, _, .nil => .nil
  | _, _, .cons (g := g) (i := i) (its := its) hc hi hl h r => .cons (q := clA Γ (g, i, its)) hc hi hl (fun a oe cls d pn hz hf => pss_one (ps_ret (pe_lst (itms_pa h hz hf)))) (hdsA_of r)
theorem itms_run {ρ : Nat → Addr} {A : AH} {H : Hp} {c i : Nat} {fs : List (Nat × AV)} {cls : Value} {d : Option Addr} {a : Addr} {σ : L2.St} (x : XR Γ ρ A H c fs cls d) (hσ : σ[i]? = some (some (.ref a))) :
    ∀ {its : List Itm} {vs : List AV} {Q : List V → Hp → Prop}, itmsAV fs its = some vs → (∀ us, VRs Γ ρ A H vs us → Q us H) → tItms Γ a cls d c i its σ H Q
  | [], vs, Q, e, q => by cases e; exact q [] rfl
  | t :: r, vs, Q, e, q => by
    unfold itmsAV at e
    split at e
    · rename_i v ws ev ew
      cases e
      obtain ⟨fus, ec, rf, hd⟩ := x
      have rest : ∀ u, VR Γ ρ A H v u → tItms Γ a cls d c i r σ H (fun us H2 => Q (u :: us) H2) := fun u ru => itms_run ⟨fus, ec, rf, hd⟩ hσ ew fun us rus => q (u :: us) ⟨u, us, rfl, ru, rus⟩
      cases t with
      | s x => cases ev; exact rest _ rfl
      | n => cases ev; exact rest _ rfl
      | f g =>
        obtain ⟨u, h1, h2⟩ := (lookF_ok rf).1 v ev
        rcases hd with ⟨rfl, _⟩ | ⟨b, eb, _, hb⟩
        · cases ev
        · exact ⟨.ref a, hσ, rfl, ec, b, fus, u, eb, hb, h1, rest u h2⟩
      | i b =>
        cases ev
        exact ⟨hσ, ec, hd.imp (fun z => z.2) (fun ⟨b, eb, _, hb⟩ => ⟨b, fus, eb, hb⟩), rest _ rfl⟩
    · cases e
theorem trM_ok (hK : X.K = Γ.K) {fz : Bool} {cs : List Nat} {D : Ends} {ρ0 : Nat → Addr} {A0 : AH} {H0 : Hp} {ρ : Nat → Addr} {A : AH} {H : Hp} {τ : AE} {σ : L2.St} {c : Nat} {fs : List (Nat × AV)} {cls : Value} {d : Option Addr} (x0 : Ext Γ ρ0 A0 H0 ρ A H) (R : Rel Γ ρ A H) (er : ER Γ ρ A H τ σ) (x : XR Γ ρ A H c fs cls d) :
    ∀ {cl : List ClM}, (∀ q ∈ cl, ∀ c ∈ cs, PySem.W.exmOne X.K (.ref (Γ.ad c)) (.ref (Γ.ad q.1)) = some (Nat.beq c q.1)) → PostS Γ W ρ0 A0 H0 D (trM fz cs cl c fs τ A) → wManyA X.K W D (cl.map (clA Γ)) cls d σ H
  | [], _, h => h ρ H σ cls d x0 R er x
  | (g, i, its) :: r, hx, h => by
    have hex := hx _ List.mem_cons_self
    unfold trM at h
    split at h
    · rename_i hc'
      obtain ⟨hc, hlt⟩ := Bool.and_eq_true_iff.mp hc'
      have hlen : i < σ.length := by rw [← er.1]; exact blt_lt hlt
      refine ⟨Nat.beq c g, ?_, fun e a ha => ?_, fun e => ?_⟩
      · obtain ⟨fus, ec, _, _⟩ := id x
        rw [ec]; exact hex c (by simpa using hc)
      · rw [if_pos e] at h
        have ecg := Nat.eq_of_beq_eq_true e
        subst ecg
        split at h
        · rename_i vs ev
          split at h
          · rename_i hl
            refine itms_run x (show (σ.set i (some (V.ref a)))[i]? = _ by rw [List.getElem?_set_self hlen]) ev fun us rus => ⟨by rw [rus.length, ← big_eq]; exact Nat.le_of_ble_eq_true hl, fun p hp => ?_⟩
            have h2 : PostE Γ (fun _ _ _ => True) ρ0 A0 H0 D.rt (newL fz vs A) := by
              revert h
              cases newL fz vs A with
              | ok v A1 => exact fun h => h
              | exc c fs A1 => exact fun h => h.elim
              | stuck => exact fun h => h.elim
            exact post_newL R (Post.mono x0 h2) rus p hp
          · exact h.elim
        · exact h.elim
      · rw [if_neg (by rw [e]; exact Bool.false_ne_true)] at h
        exact trM_ok hK x0 R er x (fun q hq => hx q (List.mem_cons_of_mem _ hq)) h
    · exact h.elim
theorem ds_tryR {fz : Bool} {body : List Stmt} {hd0 : ExceptHandler} {hds : List ExceptHandler} {cl : List ClM} {cs : List Nat} {mb : SM} {pos : Pos} (hK : X.K = Γ.K) (hs : X.stack = X.env :: X.outer) (hf : X.env.frame = some X.env.locals) (hN : X.N.Nodup) (tk : Takes X W)
    (hb : ∀ (W : WX) (pn : List (Addr × Obj)) (xe : Value → Shared → Prop), Takes (X.tr pn xe) W → PassesOwn (model X.prog X.w) X.A X.env xe → DSs (X.tr pn xe) Γ W body mb)
    (hh : HdsM X Γ (hd0 :: hds) cl) (hx : ∀ q ∈ cl, ∀ c ∈ cs, PySem.W.exmOne X.K (.ref (Γ.ad c)) (.ref (Γ.ad q.1)) = some (Nat.beq c q.1)) :
    DS X Γ W (.Try body (hd0 :: hds) [] [] pos) (sTryR fz mb cs cl) := by
  refine ⟨fun pins s σ H D I ⟨ρ, A, τ, a, h⟩ => (ps_try_manyA hs hf hN tk hb (hdsA_of hh)).run pins s σ H D I ⟨ρ, A, τ, a, ?_⟩⟩
  unfold sTryR at h
  cases e : mb τ A with
  | exc c fs τ1 A1 =>
    rw [e] at h
    intro ρ1 H1 σ1 cls d x1 R1 er1 xr
    exact trM_ok hK x1 R1 er1 xr hx h
  | nx τ1 A1 => rw [e] at h; exact h
  | rt v A1 => rw [e] at h; exact h
  | bk τ1 A1 => rw [e] at h; exact h
  | ct τ1 A1 => rw [e] at h; exact h
  | stuck => rw [e] at h; exact h
end
end Mw
set_option Elab.async false
set_option linter.all false
set_option maxRecDepth 100000
set_option maxHeartbeats 4000000
namespace Mw
open PySem PySem.Spec PyProof.Rows L2
def spExI (K : PySem.W.Frag) (f : Str) : Sp := fun vs H Q _ => ∃ (a C : Addr) (y : V), vs = [.ref a, y] ∧ OexC K C ∧ PySem.W.findIn K (.ref C) f = some none ∧ H a = some (exo a C none) ∧ ∀ dx, H dx = none → dx ≠ a → Q .non (upd (upd H dx (exd dx [(f, y)])) a (exo a C (some dx)))
section
variable {P : Program} {w : World} {K : PySem.W.Frag} {mg : Str → Option Value} {base : Heap}
theorem exI_ok {x qual : Str} {params : Arguments} {scope : Scope} {f : Addr} {fd : FuncData} {p0 p1 fld : Str} {q1 q2 q3 q4 : Pos} (F : FunD K x qual params [.Assign [.Attribute (.Name p0 q1) fld q2] (.Name p1 q3) q4] scope [] [] f fd) (S : FnScope [p0, p1] [p0, p1] scope)
    (h0 : (p0 == ("__debug__" : Str)) = false := by decide) (h1 : (p0 == ("__classdict__" : Str)) = false := by decide) (h2 : (p1 == ("__debug__" : Str)) = false := by decide) (h3 : (p1 == ("__classdict__" : Str)) = false := by decide)
    (v0 : Vis scope p0) (v1 : Vis scope p1) (hs : ∀ env : Env, swapsWith (.Name p1 q3) (some (.Attribute (.Name p0 q1) fld q2)) q4.line env = pure false) :
    FnOk P w K mg base (L2.CX P w) 1 f fd [p0, p1] (spExI K fld) := by
  refine F.ok (CX := L2.CX P w) (N := [p0, p1]) (k := 0) S (fun vs H Q E ⟨a, C, y, e, _⟩ => by rw [e]; rfl) fun cdv A outer s H vs Q E hr ⟨a, C, y, e, T, hno, ha, q⟩ => ?_
  subst e
  refine ⟨_, pss_one (ps_ost (pe_var (i := 0) rfl v0 h0 h1) (pe_var (i := 1) rfl v1 h2 h3) (hs _)), y, rfl, .ref a, rfl, a, C, rfl, T, hno, .inl ⟨ha, fun dx hdx hne => q dx hdx hne⟩⟩
end
section
variable {X : Cx} {Γ : Gm} {W : WX}
theorem passF {X : Cx} : Passes (L2.CX X.prog X.w) X (fun _ _ _ => False) := fun _ _ _ _ _ _ _ ⟨_, _, _, _, _, _, _, _, _, _, _, _, z⟩ => z.elim
theorem heap_back {H : Hp} {a dx C : Addr} {f : Str} {y : V} (ha : H a = none) (hne : dx ≠ a) : upd (del (upd (upd (upd H a (exo a C none)) dx (exd dx [(f, y)])) a (exo a C (some dx))) a) dx (.xd [(f, y)]) = upd H dx (.xd [(f, y)]) := by
  funext b
  by_cases hb : b = dx
  · subst hb; rw [upd_same, upd_same]
  · rw [upd_ne hb, upd_ne hb]
    by_cases hba : b = a
    · subst hba; rw [del_same, ha]
    · rw [del_ne hba, upd_ne hba, upd_ne hb, upd_ne hba]
def sRaise1 (c f : Nat) (m : EM) : SM := lift m fun v τ A => .exc c [(f, v)] τ A
theorem ds_raise1 {x fld : Str} {c f : Nat} {fI : Addr} {k : Nat} {fd : FuncData} {ps : List Str} {e : Expr} {m : EM} {p pos pos' : Pos} (hc : X.calm = true) (tk : Takes X W) (T : OexC X.K (Γ.ad c)) (iC : PySem.W.findIn X.K (.ref (Γ.ad c)) "__init__" = some (some (.ref fI))) (tI : PySem.W.typeIn X.K (.ref fI) = some (.type "function"))
    (F1 : FnOk X.prog X.w X.K X.mg X.base (L2.CX X.prog X.w) k fI fd ps (spExI X.K fld)) (hr : Room (k + 1) X.A) (hb : Binds X.K fd ps []) (hno : PySem.W.findIn X.K (.ref (Γ.ad c)) fld = some none) (hf : fld = Γ.nm f) (hg : Gl X x) (hm : X.mg x = some (.ref (Γ.ad c))) (he : DE X Γ W e m)
    (hdb : (x == ("__debug__" : Str)) = false := by decide) (hst : starEach [e] X.env = (false, eval e X.env) :: starEach [] X.env := by rfl) :
    DS X Γ W (.Raise (some (.Call (.Name x p) [e] [] pos)) none pos') (sRaise1 c f m) :=
  (ps_raise hc tk (pmk_oex T iC tI F1 hr hb .nil passF hg hm (pa_cons he pa_nil hst) hdb hst rfl)).imp fun D σ H ⟨ρ, A, τ, a, h⟩ => wpG.stepS a h fun v A1 ρ1 H1 u _ x1 a1 r1 h1 => by
    refine ⟨by show 1 ≤ 1000; decide, fun b hb => ⟨b, Γ.ad c, u, rfl, T, hno, upd_same, fun dx hdx hne => ⟨rfl, dx, [(fld, u)], upd_same, by rw [upd_ne (Ne.symm (Ne.symm hne)), upd_same], by rw [← upd_ne (H := H1) (o := exo b (Γ.ad c) none) hne]; exact hdx, ?_⟩⟩⟩
    have hdx1 : H1 dx = none := by rw [← upd_ne (H := H1) (o := exo b (Γ.ad c) none) hne]; exact hdx
    show W (.ref (Γ.ad c)) (some dx) σ (upd (del (upd (upd (upd H1 b (exo b (Γ.ad c) none)) dx (exd dx [(fld, u)])) b (exo b (Γ.ad c) (some dx))) b) dx (.xd [(fld, u)]))
    rw [heap_back hb hne]
    have xf : Ext Γ ρ1 A1 H1 ρ1 A1 (upd H1 dx (.xd [(fld, u)])) := Ext.fresh a1.rel hdx1
    exact h1 ρ1 _ σ (.ref (Γ.ad c)) (some dx) xf (a1.rel.fresh hdx1) (a1.er.ext xf) ⟨[(fld, u)], rfl, ⟨u, [], by rw [hf], r1.ext xf, rfl⟩, .inr ⟨dx, rfl, a1.rel.notTr hdx1, upd_same⟩⟩
theorem pmk_own0 {C : Addr} {bmB : List Value} {B newId initId : String} {x : Str} {p pos : Pos} (F : ExcBaseFacts B newId initId bmB) (q : PySem.W.excIn X.K C bmB newId = true) (gC : X.mg x = some (.ref C)) (kC : PySem.W.keepIn X.K (.ref C) = true) (r : Raises X (.ref C)) (hg : Gl X x)
    (hdb : (x == ("__debug__" : Str)) = false := by decide) : PMk X (.Call (.Name x p) [] [] pos) (fun _ H Q => Q (.ref C) none H) := by
  intro pins s σ H Q I h
  refine wpAny_Call_Name_kw (ld_glob I hg gC ?_ hdb)
  refine PySem.W.callWith_K0 (first := []) I.kIn kC ?_
  obtain ⟨bm, N, nm, qn, bs, hdct, sn, sub, ab, col, dd, k0, k1, k2, k3, k5, mN, hC, hN, hni, T⟩ := exc_obj I.kIn q
  exact wpAny_call_exc_subT F T hC hN hni (fun h' e hm => mk_of I hm r h (I.hok.gone hm.new)) (by show 0 ≤ sizeLine; exact Nat.zero_le _)
def sRaise0 (c : Nat) : SM := fun τ A => .exc c [] τ A
theorem ds_raise0 {x : Str} {c : Nat} {p pos pos' : Pos} (hc : X.calm = true) (tk : Takes X W) (q : PySem.W.excIn X.K (Γ.ad c) He.veBase "ValueError.__new__" = true) (gC : X.mg x = some (.ref (Γ.ad c))) (kC : PySem.W.keepIn X.K (.ref (Γ.ad c)) = true)
    (h1 : PySem.W.subIn X.K (.ref (Γ.ad c)) (.type "BaseException") = some true) (h2 : PySem.W.typeIn X.K (.ref (Γ.ad c)) = some (.type "type")) (hg : Gl X x) (hdb : (x == ("__debug__" : Str)) = false := by decide) :
    DS X Γ W (.Raise (some (.Call (.Name x p) [] [] pos)) none pos') (sRaise0 c) :=
  (ps_raise hc tk (pmk_own0 F.excBase_ValueError q gC kC (raises_own h1 h2) hg hdb)).imp fun D σ H ⟨ρ, A, τ, a, h⟩ =>
    h ρ H σ (.ref (Γ.ad c)) none Ext.refl a.rel a.er ⟨[], rfl, rfl, .inl ⟨rfl, rfl⟩⟩
end
end Mw
set_option Elab.async false
set_option linter.all false
set_option maxRecDepth 100000
set_option maxHeartbeats 4000000
namespace Mw
open PySem PySem.Spec PyProof.Rows L2
def mkM (c : Nat) (m : FM) (vs : List AV) (A : AH) : Out AV := match m (.ref A.length :: vs) (A ++ [.ins c []]) with
  | .ok .non A1 => .ok (.ref A.length) A1
  | _ => .stuck
def eMk (c : Nat) (m : FM) (a : AM) : EM := fun τ A => (a τ A).bind fun vs A1 => mkM c m vs A1
section
variable {X : Cx} {Γ0 Γ : Gm} {W : WX} {k : Nat} {d : He.DefD} {ps : List Str} {m : FM} {c : Nat} {x : Str} {p pos : Pos} {e : Expr} {es : List Expr} {ma : AM}
theorem mk_ok {E : EK} {ρ : Nat → Addr} {A : AH} {H : Hp} {Q : VK} {vs : List AV} {us : List V} {C : Addr} (hΓ : Γ0.at_ Γ.hid = Γ) (hC : C = Γ.ad c) (R : Rel Γ ρ A H) (r : VRs Γ ρ A H vs us) (h : PostE Γ E ρ A H Q (mkM c m vs A)) (q dx : Addr) (hq : H q = none) (hdx : H dx = none) (hne : dx ≠ q) :
    spM Γ0 m (.ref q :: (us ++ [])) (upd (upd H dx (.own q)) q (.ins C dx [])) (fun v H2 => v = .non ∧ Q (.ref q) H2) (fun _ _ _ => False) := by
  subst hC
  have x1 : Ext Γ ρ A H ρ A (upd H dx (.own q)) := Ext.fresh R hdx
  have R1 := Rel.fresh (o := .own q) R hdx
  have hq1 : upd H dx (.own q) q = none := by rw [upd_ne (Ne.symm hne)]; exact hq
  have x2 : Ext Γ ρ A (upd H dx (.own q)) (rho ρ A.length q) (A ++ [.ins c []]) (upd (upd H dx (.own q)) q (.ins (Γ.ad c) dx [])) := Ext.track R1 hq1
  have R2 : Rel Γ (rho ρ A.length q) (A ++ [.ins c []]) (upd (upd H dx (.own q)) q (.ins (Γ.ad c) dx [])) := R1.track hq1 ⟨dx, [], upd_same, rfl⟩
  have x := x1.trans x2
  refine ⟨Γ.hid, rho ρ A.length q, A ++ [.ins c []], .ref A.length :: vs, by rw [hΓ]; exact R2, ?_, ?_⟩
  · rw [hΓ, List.append_nil]
    exact ⟨.ref q, us, rfl, ⟨by simp, by rw [rho_at]⟩, VRs.ext x _ r⟩
  · rw [hΓ]
    unfold mkM at h
    cases e : m (.ref A.length :: vs) (A ++ [.ins c []]) with
    | ok v A1 =>
      rw [e] at h
      cases v <;> try exact h.elim
      intro ρ1 H1 u x3 R3 r3
      refine ⟨r3, h ρ1 H1 (.ref q) (x.trans x3) R3 ⟨?_, ?_⟩⟩
      · have := x3.le
        simp at this
        omega
      · rw [x3.ag _ (by simp), rho_at]
    | exc c fs A1 => rw [e] at h; exact h.elim
    | stuck => rw [e] at h; exact h.elim
theorem de_mk0 (F : FnE X.prog X.w X.K X.mg X.base Γ0 k d ps m) (hr : Room (k + 1) X.A) (hΓ : Γ0.at_ Γ.hid = Γ) (hb : ∀ fd, FunD X.K d.name d.qual d.params d.body d.scope [] [] (He.fAd X.K d.at_) fd → Binds X.K fd ps []) (M : Mk X.K (Γ.ad c) (He.fAd X.K d.at_)) (hg : Gl X x) (hm : X.mg x = some (.ref (Γ.ad c)))
    (hdb : (x == ("__debug__" : Str)) = false := by decide) : DE X Γ W (.Call (.Name x p) [] [] pos) (eMk c m aNil) := by
  obtain ⟨fd, FD, FO⟩ := F.ex
  exact (pe_make0 M FO hr hg hm (hb fd FD) .nil passF hdb).imp fun σ H Q ⟨ρ, A, τ, a, h⟩ q dx hq hdx hne => mk_ok hΓ rfl a.rel (show VRs Γ ρ A H [] [] from rfl) h q dx hq hdx hne
theorem de_mk (F : FnE X.prog X.w X.K X.mg X.base Γ0 k d ps m) (hr : Room (k + 1) X.A) (hΓ : Γ0.at_ Γ.hid = Γ) (hb : ∀ fd, FunD X.K d.name d.qual d.params d.body d.scope [] [] (He.fAd X.K d.at_) fd → Binds X.K fd ps []) (M : Mk X.K (Γ.ad c) (He.fAd X.K d.at_)) (hg : Gl X x) (hm : X.mg x = some (.ref (Γ.ad c))) (ha : DA X Γ W (e :: es) ma)
    (hdb : (x == ("__debug__" : Str)) = false := by decide) (he : starEach (e :: es) X.env = (false, eval e X.env) :: starEach es X.env := by rfl) (hpl : (backTo pos (starEach es X.env)).any (·.1) = false := by rfl) : DE X Γ W (.Call (.Name x p) (e :: es) [] pos) (eMk c m ma) := by
  obtain ⟨fd, FD, FO⟩ := F.ex
  exact (pe_make M FO hr hg hm (hb fd FD) .nil passF ha hdb he hpl).imp fun σ H Q ⟨ρ, A, τ, a, h⟩ => wpG.step a h fun vs A1 ρ1 H1 us _ x1 a1 r1 h1 q dx hq hdx hne => mk_ok hΓ rfl a1.rel r1 h1 q dx hq hdx hne
theorem de_glo {g : Nat} {v : AV} {u : V} {w : Value} (hg : Gl X x) (hm : X.mg x = some w) (r : RelV u w) (hv : ∀ ρ A H, VR Γ ρ A H v u) (hdb : (x == ("__debug__" : Str)) = false := by decide) : DE X Γ W (.Name x pos) (eC v) := de_con (pe_glob hg hm r hdb) hv
theorem de_gint {i : Int} (hg : Gl X x) (hm : ∃ t, X.mg x = some (.int i t)) (hdb : (x == ("__debug__" : Str)) = false := by decide) : DE X Γ W (.Name x pos) (eC (.int i)) := by
  obtain ⟨t, hm⟩ := hm
  exact de_con (pe_glob (v := .int i) hg hm ⟨t, rfl⟩ hdb) fun _ _ _ => rfl
theorem de_gstr {z : List Nat} (hg : Gl X x) (hm : ∃ t, X.mg x = some (.str ⟨z.toArray⟩ t)) (hdb : (x == ("__debug__" : Str)) = false := by decide) : DE X Γ W (.Name x pos) (eC (.str z)) := by
  obtain ⟨t, hm⟩ := hm
  exact de_con (pe_glob (v := .str ⟨z.toArray⟩) hg hm ⟨t, rfl⟩ hdb) fun _ _ _ => rfl
end
end Mw
set_option Elab.async false
set_option linter.all false
set_option maxRecDepth 100000
set_option maxHeartbeats 4000000
namespace Mw
open PySem PySem.Spec PyProof.Rows L2
def oexB (K : PySem.W.Frag) (C : Addr) : Bool := (match K.lookup C with
  | some ⟨.type "type", _, .cls cd, sl⟩ => (match cd.mro, sl.toList with
    | .ref c :: bm, [_, _, _, _, some (.builtin n), _] => (c == C && n == "ValueError.__new__") && ((!cd.hasDel && cd.hasDict) && PySem.HandSPX.refsVE bm)
    | _, _ => false)
  | _ => false) && ((decide (PySem.W.findIn K (.ref C) "__setattr__" = some (some (.builtin "object.__setattr__"))) && decide (PySem.W.subIn K (.ref C) (.type "BaseException") = some true)) &&
    (decide (PySem.W.typeIn K (.ref C) = some (.type "type")) && PySem.W.keepIn K (.ref C)))
theorem oexB_ok {K : PySem.W.Frag} {C : Addr} (h : oexB K C = true) : OexC K C := by
  obtain ⟨h1, h2⟩ := Bool.and_eq_true_iff.mp h
  obtain ⟨h3, h4⟩ := Bool.and_eq_true_iff.mp h2
  obtain ⟨a1, a2⟩ := Bool.and_eq_true_iff.mp h3
  obtain ⟨a3, a4⟩ := Bool.and_eq_true_iff.mp h4
  refine ⟨?_, of_decide_eq_true a1, of_decide_eq_true a2, of_decide_eq_true a3, a4⟩
  split at h1
  · rename_i dd cd sl ho
    split at h1
    · rename_i c bm k0 k1 k2 k3 n k5 hm hs
      simp only [Bool.and_eq_true, beq_iff_eq, Bool.not_eq_true'] at h1
      obtain ⟨⟨rfl, rfl⟩, ⟨hdel, hdc⟩, hr⟩ := h1
      obtain ⟨nm, bs, mro, ns, qn, hd, sn, sub, ab, col, del⟩ := cd
      dsimp only at hm hdel hdc
      subst hm hdel hdc
      have hsl : sl = #[k0, k1, k2, k3, some (.builtin "ValueError.__new__"), k5] := by
        obtain ⟨l⟩ := sl
        simp only at hs
        rw [hs]
      subst hsl
      exact ⟨nm, qn, ns, bs, bm, sn, sub, ab, col, dd, k0, k1, k2, k3, k5, ho, hr⟩
    · cases h1
  · cases h1
def excB (K : PySem.W.Frag) (D : Addr) : Bool := ((decide (PySem.W.findIn K (.ref D) "__getattribute__" = some (some (.builtin "BaseException.__getattribute__"))) && decide (PySem.W.findIn K (.ref D) "__getattr__" = some none)) && (decide (PySem.W.subIn K (.ref D) (.type "BaseException") = some true) && PySem.W.hasDictIn K D)) &&
  ((decide (PySem.W.findIn K (.ref D) "__class__" = some (some (.builtin "object.__class__"))) && decide (PySem.W.specialIn K (.builtin "object.__class__") "__get__" = some (some (.builtin "getset_descriptor.__get__")))) && (decide (PySem.W.takesIn K (.builtin "object.__class__") = some true) && decide (PySem.W.mroIn K D (.type "object") = some true)))
theorem excB_ok {K : PySem.W.Frag} {D : Addr} (h : excB K D = true) : ExcC K D := by
  unfold excB at h
  simp only [Bool.and_eq_true, decide_eq_true_eq] at h
  obtain ⟨⟨⟨h1, h2⟩, h3, h4⟩, ⟨h5, h6⟩, h7, h8⟩ := h
  exact ⟨h1, h2, h3, h4, h5, h6, h7, h8⟩
theorem ExcC.xf {K : PySem.W.Frag} {D : Addr} (c : ExcC K D) : XfC K D := ⟨c.hg, c.hk, c.hs, c.hd⟩
structure ExA (K : PySem.W.Frag) (x fld : Str) : Prop where
  o : OexC K (He.ga K x)
  c : ExcC K (He.ga K x)
  i : PySem.W.findIn K (.ref (He.ga K x)) "__init__" = some (some (.ref (He.ma K (He.ga K x) "__init__")))
  t : PySem.W.typeIn K (.ref (He.ma K (He.ga K x) "__init__")) = some (.type "function")
  n : PySem.W.findIn K (.ref (He.ga K x)) fld = some none
def exaB (K : PySem.W.Frag) (x fld : Str) : Bool := (oexB K (He.ga K x) && excB K (He.ga K x)) && (decide (PySem.W.findIn K (.ref (He.ga K x)) "__init__" = some (some (.ref (He.ma K (He.ga K x) "__init__")))) &&
  (decide (PySem.W.typeIn K (.ref (He.ma K (He.ga K x) "__init__")) = some (.type "function")) && decide (PySem.W.findIn K (.ref (He.ga K x)) fld = some none)))
theorem exaB_ok {K : PySem.W.Frag} {x fld : Str} (h : exaB K x fld = true) : ExA K x fld := by
  unfold exaB at h
  simp only [Bool.and_eq_true, decide_eq_true_eq] at h
  obtain ⟨⟨h1, h2⟩, h3, h4, h5⟩ := h
  exact ⟨oexB_ok h1, excB_ok h2, h3, h4, h5⟩
structure ExN (K : PySem.W.Frag) (x : Str) : Prop where
  e : PySem.W.excIn K (He.ga K x) He.veBase "ValueError.__new__" = true
  c : ExcC K (He.ga K x)
  k : PySem.W.keepIn K (.ref (He.ga K x)) = true
  s : PySem.W.subIn K (.ref (He.ga K x)) (.type "BaseException") = some true
  t : PySem.W.typeIn K (.ref (He.ga K x)) = some (.type "type")
def exnB (K : PySem.W.Frag) (x : Str) : Bool := (PySem.W.excIn K (He.ga K x) He.veBase "ValueError.__new__" && excB K (He.ga K x)) && (PySem.W.keepIn K (.ref (He.ga K x)) && (decide (PySem.W.subIn K (.ref (He.ga K x)) (.type "BaseException") = some true) && decide (PySem.W.typeIn K (.ref (He.ga K x)) = some (.type "type"))))
theorem exnB_ok {K : PySem.W.Frag} {x : Str} (h : exnB K x = true) : ExN K x := by
  unfold exnB at h
  simp only [Bool.and_eq_true, decide_eq_true_eq] at h
  obtain ⟨⟨h1, h2⟩, h3, h4, h5⟩ := h
  exact ⟨h1, excB_ok h2, h3, h4, h5⟩
section
variable {X : Cx} {Γ : Gm} {W : WX}
theorem hm_of (op : CmpOp) (e : Expr) (h : behindInMarks op e = false) : behindInMarks op e = false := h
def addA (fz : Bool) : B2 := orE addI (orE addS (orE (catL fz) catT))
theorem m_add {fz : Bool} (hK : X.K = Γ.K) : OpM X Γ (binaryOp .Add) (addA fz) := m_addI.or (m_addS.or (m_catL.or (m_catT hK)))
def mulA (fz : Bool) : B2 := orE mulI (repL fz)
theorem m_mul {fz : Bool} : OpM X Γ (binaryOp .Mult) (mulA fz) := m_mulI.or m_repL
def eqE : B2 := fun x y A => match dOf x A, dOf y A with
  | some ks, some [] => .ok (.bl ks.isEmpty) A
  | _, _ => .stuck
theorem op_eqE (hu : X.A.units < cLine) : OpR X (compareOp .Eq) (fun x y H Q => ∃ a b ks, x = .ref a ∧ y = .ref b ∧ Rd H a (.dK ks) ∧ Rd H b (.dK []) ∧ Q (.bl ks.isEmpty) H) := by
  rintro pins s σ H x y v u Q I rx ry ⟨a, b, ks, rfl, rfl, ea, eb, q⟩
  obtain rfl : v = Value.ref a := rx
  obtain rfl : u = Value.ref b := ry
  obtain ⟨_, ya, va, ra, da⟩ := dk_rd I.hok ea
  obtain ⟨_, yb, vb, rb, db⟩ := dk_rd I.hok eb
  cases rb
  have hl : ks.length = va.length := Paired.length ra
  cases va with
  | nil =>
    have : ks = [] := List.length_eq_zero_iff.mp hl
    subst this
    exact PySem.W.keq_eq (knd := mixKind X.prog X.w) (r := true) ya yb da db hu (fun e => .nil) (fin_bl I q rfl)
  | cons p ps =>
    refine PySem.W.keq_eq (knd := mixKind X.prog X.w) (r := true) ya yb da db hu (fun e => by simp at e) (fin_bl I q ?_)
    cases ks with
    | nil => cases hl
    | cons _ _ => simp
theorem m_eqE (hu : X.A.units < cLine) : OpM X Γ (compareOp .Eq) eqE := .of (op_eqE hu) fun Q E ρ A H x y u w R r1 r2 k => by
  unfold eqE at k
  split at k
  · rename_i ks e1 e2
    obtain ⟨a, kus, rfl, h1, v1⟩ := dOf_ok R e1 r1
    obtain ⟨b, kvs, rfl, h2, v2⟩ := dOf_ok R e2 r2
    have : kvs = [] := v2
    subst this
    refine ⟨a, b, kus, rfl, rfl, h1, h2, ?_⟩
    have hl := KRs.length v1
    have : kus.isEmpty = ks.isEmpty := by cases kus <;> cases ks <;> first | rfl | (cases hl; done)
    rw [this]; exact post_val R k rfl
  · exact k.elim
def eqA : B2 := orE eqS (orE eqD eqE)
theorem m_eq (hK : X.K = Γ.K) (hu : X.A.units + 64 < cLine) : OpM X Γ (compareOp .Eq) eqA := m_eqS.or ((m_eqD hK hu).or (m_eqE (by omega)))
def neA : B2 := orE neS neD
theorem m_ne (hK : X.K = Γ.K) (hu : X.A.units + 64 < cLine) : OpM X Γ (compareOp .NotEq) neA := m_neS.or (m_neD hK hu)
def inA : B2 := orE inS (orE inC inD)
theorem m_in (hK : X.K = Γ.K) (hu : X.A.units + 64 < cLine) : OpM X Γ (compareOp .In) inA := (m_inS hK).or (m_inC.or (m_inD (by omega)))
def niA : B2 := orE niS (orE niC niD)
theorem m_ni (hK : X.K = Γ.K) (hu : X.A.units + 64 < cLine) : OpM X Γ (compareOp .NotIn) niA := (m_niS hK).or (m_niC.or (m_niD (by omega)))
def isA : B2 := orE isN isB
theorem m_is : OpM X Γ (compareOp .Is) isA := m_isN.or m_isB
def isnA : B2 := orE isNN isNB
theorem m_isn : OpM X Γ (compareOp .IsNot) isnA := m_isNN.or m_isNB
def minA : CM := orC (cBest minI) cMinD
theorem c_minA (hK : X.K = Γ.K) (hc : X.calm = true) (hu : X.A.units + 64 < cLine) : CallM X Γ (.builtin "min") minA := (c_min hK hc).or (c_minD hK hc (by omega))
theorem takesF {X : Cx} : Takes X WF := fun _ _ ⟨_, _, _, _, _, _, _, _, _, _, _, _, _, _, _, _, z⟩ => z.elim
theorem de_attr1 {c f : Nat} {x : Str} {e : Expr} {m : EM} {pos : Pos} (hx : x = Γ.nm f) (hK : X.K = Γ.K) (hc : Cls Γ.K (Γ.ad c)) (hn : NoAttr Γ.K (Γ.ad c) x) (ha : DE X Γ W e m) (hb : attributeBase e x X.env (eval e X.env) = eval e X.env := by rfl) : DE X Γ W (.Attribute e x pos) (eAttr [c] f m) :=
  de_attr hx hK (fun d h => by have e : d = c := by simpa using h
                               subst e; exact ⟨hc, hx ▸ hn⟩) ha hb
theorem ds_attr1 {c f : Nat} {x : Str} {e1 e2 : Expr} {m1 m2 : EM} {pos pos' : Pos} (hx : x = Γ.nm f) (hK : X.K = Γ.K) (hc : Cls Γ.K (Γ.ad c)) (hn : NoAttr Γ.K (Γ.ad c) x) (ho : DE X Γ W e1 m1) (he : DE X Γ W e2 m2)
    (hs : swapsWith e2 (some (.Attribute e1 x pos')) pos.line X.env = pure false := by rfl) : DS X Γ W (.Assign [.Attribute e1 x pos'] e2 pos) (sAttr [c] f m1 m2) :=
  ds_attr hx hK (fun d h => by have e : d = c := by simpa using h
                               subst e; exact ⟨hc, hx ▸ hn⟩) ho he hs
end
def nmOf (tbl : List Str) (i : Nat) : Str := match tbl[i]? with
  | some s => s
  | none => ⟨#[0, i]⟩
theorem nmOf_inj {tbl : List Str} (h : tbl.Nodup) (h0 : (tbl.all fun s => !decide (s.cps[0]? = some 0)) = true) : ∀ i j, nmOf tbl i = nmOf tbl j → i = j := by
  intro i j e
  have nz : ∀ (k : Nat) (s : Str), tbl[k]? = some s → s.cps[0]? ≠ some 0 := fun k s es => by
    have := List.all_eq_true.mp h0 s (List.mem_of_getElem? es)
    simpa using this
  unfold nmOf at e
  cases ei : tbl[i]? with
  | some s =>
    cases ej : tbl[j]? with
    | some t =>
      rw [ei, ej] at e
      have e : s = t := e
      subst e
      obtain ⟨hi, e1⟩ := List.getElem?_eq_some_iff.mp ei
      obtain ⟨hj, e2⟩ := List.getElem?_eq_some_iff.mp ej
      exact (List.getElem_inj (h₀ := hi) (h₁ := hj) h).mp (e1.trans e2.symm)
    | none =>
      rw [ei, ej] at e
      exact absurd (by rw [show s = _ from e]; rfl) (nz i s ei)
  | none =>
    cases ej : tbl[j]? with
    | some t =>
      rw [ei, ej] at e
      exact absurd (by rw [show t = _ from e.symm]; rfl) (nz j t ej)
    | none =>
      rw [ei, ej] at e
      have e : (⟨#[0, i]⟩ : Str) = ⟨#[0, j]⟩ := e
      injection e with e
      have := congrArg (fun a : Array Nat => a[1]?) e
      simpa using this
end Mw
set_option Elab.async false
set_option linter.all false
set_option maxRecDepth 100000
set_option maxHeartbeats 4000000
namespace Mw
open PySem PySem.Spec PyProof.Rows L2
theorem bt_isinstance : bootBuiltins "isinstance" = some (.builtin "isinstance") := by decide +kernel
theorem bt_len : bootBuiltins "len" = some (.builtin "len") := by decide +kernel
theorem bt_abs : bootBuiltins "abs" = some (.builtin "abs") := by decide +kernel
theorem bt_sum : bootBuiltins "sum" = some (.builtin "sum") := by decide +kernel
theorem bt_all : bootBuiltins "all" = some (.builtin "all") := by decide +kernel
theorem bt_any : bootBuiltins "any" = some (.builtin "any") := by decide +kernel
theorem bt_max : bootBuiltins "max" = some (.builtin "max") := by decide +kernel
theorem bt_min : bootBuiltins "min" = some (.builtin "min") := by decide +kernel
theorem bt_sorted : bootBuiltins "sorted" = some (.builtin "sorted") := by decide +kernel
theorem bt_int : bootBuiltins "int" = some (.type "int") := by decide +kernel
theorem bt_bool : bootBuiltins "bool" = some (.type "bool") := by decide +kernel
theorem bt_str : bootBuiltins "str" = some (.type "str") := by decide +kernel
theorem bt_tuple : bootBuiltins "tuple" = some (.type "tuple") := by decide +kernel
theorem bt_list : bootBuiltins "list" = some (.type "list") := by decide +kernel
theorem bt_dict : bootBuiltins "dict" = some (.type "dict") := by decide +kernel
end Mw
local macro_rules | `(tactic| wtm_at "mk") => `(tactic| first | rfl | exact L2.nomark _ | decide)
namespace Mw
open PySem PySem.Spec PyProof.Rows L2
theorem len0 {α : Type} {l : List α} (h : l.length = 0) : l = [] := List.length_eq_zero_iff.mp h
theorem len1 {α : Type} {l : List α} (h : l.length = 1) : ∃ a, l = [a] := List.length_eq_one_iff.mp h
theorem lenS {α : Type} {l : List α} {n : Nat} (h : l.length = n + 1) : ∃ a r, l = a :: r ∧ r.length = n := by
  cases l with
  | nil => cases h
  | cons a r => exact ⟨a, r, rfl, by simpa using h⟩
end Mw
local macro_rules | `(tactic| wtm_at "bk") => `(tactic| (intro kV doc pm an cdv ct us ws h1 h2; (repeat (obtain ⟨_, us, e, h1⟩ := Mw.lenS h1; subst e)); (repeat (obtain ⟨_, ws, e, h2⟩ := Mw.lenS h2; subst e)); cases Mw.len0 h1; cases Mw.len0 h2; rfl))
namespace Mw
open PySem PySem.Spec PyProof.Rows L2
end Mw
local macro_rules | `(tactic| wtm_at "bn") => `(tactic| (intro kV doc pm an cdv ct us h1; (repeat (obtain ⟨_, us, e, h1⟩ := Mw.lenS h1; subst e)); cases Mw.len0 h1; rfl))
namespace Mw
open PySem PySem.Spec PyProof.Rows L2
theorem u1_of {n : Nat} (h : n + 64 < cLine) : n + 1 < cLine := by omega
theorem u16_of {n : Nat} (h : n + 64 < cLine) : n + 16 < cLine := by omega
section
variable {P : Program} {w : World} {K : PySem.W.Frag} {mg : Str → Option Value} {base : Heap} {Γ0 : Gm}
theorem fnE_stuck {k : Nat} {d : He.DefD} {ps : List Str} (F : ∃ fd, FunD K d.name d.qual d.params d.body d.scope (d.dvs K) (d.kws K) (He.fAd K d.at_) fd) (hd : d.dfl = []) (hk : d.kwd = []) : FnE P w K mg base Γ0 k d ps (fun _ _ => .stuck) := by
  obtain ⟨fd, F⟩ := F
  have e1 : d.dvs K = [] := by unfold He.DefD.dvs; rw [hd]; rfl
  have e2 : d.kws K = [] := by unfold He.DefD.kws; rw [hk]; rfl
  rw [e1, e2] at F
  exact ⟨fd, F, fun vs H Q E ⟨_, _, _, _, _, _, z⟩ => z.elim, fun A outer s H args us vs Q E _ _ _ _ ⟨_, _, _, _, _, _, z⟩ => z.elim⟩
end
end Mw
set_option Elab.async false
set_option linter.all false
set_option maxRecDepth 100000
set_option maxHeartbeats 4000000
namespace Mw
open PySem PySem.Spec PyProof.Rows L2
section
variable {Γ : Gm} {ρ : Nat → Addr} {A : AH} {H H' : Hp}
theorem sqT_grow {K : PySem.W.Frag} (g : ∀ b o, H b = some o → H' b = some o) {a : Addr} {us : List V} (h : SqT K H a us) : SqT K H' a us := h.imp_left fun h => h.imp (g _ _) fun ⟨o, q⟩ => ⟨o, g _ _ q⟩
theorem Ext.grow (g : ∀ b o, H b = some o → H' b = some o) : Ext Γ ρ A H ρ A H' := ⟨Nat.le_refl _, fun _ _ => rfl, fun _ _ h => sqT_grow g h, fun b o _ e n => ⟨g b o e, n⟩, fun b o _ _ e => g b o e⟩
theorem Rel.grow (R : Rel Γ ρ A H) (g : ∀ b o, H b = some o → H' b = some o) : Rel Γ ρ A H' :=
  ⟨R.inj, fun i o e => (R.obj i o e).ext (Ext.grow g) fun q h => g _ _ h, fun a h => let ⟨o, e, z⟩ := R.hn a h; ⟨o, g _ _ e, z⟩, R.hs, R.tb.ext g, R.th⟩
end
section
variable {X : Cx} {Γ : Gm} {W : WX} {e : Expr} {te : TE} {m : EM} {p apos cpos pos : Pos}
def rItR : V → Hp → VK → Prop := fun x H Q => ∃ (d : Addr) (kvs : List (Key × V)), x = .ref d ∧ Rd H d (.dK kvs) ∧
  ∀ (H' : Hp) (p : Addr) (ts : List Addr), (∀ b o, H b = some o → H' b = some o) → H p = none → H' p = some (.lst (ts.map V.ref)) → Paired (fun (t : Addr) (q : Key × V) => H' t = some (.tup [kV q.1, q.2])) ts kvs → Q (.ref p) H'
theorem pe_itemsR (hc : X.calm = true) (he : PE X e te) (hg : Gl X "list") (hm : X.mg "list" = none) (hbase : attributeBase e "items" X.env (eval e X.env) = eval e X.env := by rfl) (hline : (apos.endLine == cpos.line) = true := by rfl)
    (hs : starEach [.Call (.Attribute e "items" apos) [] [] cpos] X.env = (false, eval (.Call (.Attribute e "items" apos) [] [] cpos) X.env) :: starEach [] X.env := by rfl) :
    PE X (.Call (.Name "list" p) [.Call (.Attribute e "items" apos) [] [] cpos] [] pos) (fun σ H Q => te σ H fun x H1 => rItR x H1 Q) := ⟨fun pins s σ H Q I hq => by
  refine wpAny_Call_Name_kw (ld_blt I hg hm bt_list ?_)
  refine PyProof.Rows.callWith_type1 ?_ hs rfl; rw [hs]
  show wpAny _ _ (spliced ((false, eval (.Call (.Attribute e "items" apos) [] [] cpos) X.env) :: backTo pos (starEach [] X.env))) _ _ s
  refine Calls.spliced_cons ?_
  refine wpAny_Call_method (T := "dict") (id := "dict.items") hbase rfl hline F.plainAttrs_dict F.slot_dict_items F.type_dict_items (thn (he.run pins s σ H _ I hq) fun u s1 ⟨x, H1, J1, rx, d, kvs, ex, hd, q⟩ => ?_)
  subst ex; obtain rfl : u = Value.ref d := rx
  obtain ⟨zz, sys, vs, kv, dd⟩ := dk_rd J1.hok hd
  obtain ⟨ep, hat⟩ := dd.dictAt
  have lk : kvs.length = vs.length := Paired.length kv
  have J2 : Inv X pins σ H1 { s1 with heap := s1.heap.push { cls := .type "dict_items", data := .fields #[.ref d] } } := J1.kept (t' := s1.toks) fun b ob q => Heap.get?_push_of_some _ q
  refine ⟨dd.typeIs, dd.mapOf.noDict, ?_⟩
  show wpAny _ _ (callWith cpos (.builtin "dict.items") [.ref d] [] []) _ X.xe s1
  refine method_meetsIn F.slot_dict_items F.entry_dict_items rfl (PySem.evalArgs_none ⟨rfl, dd.typeIs, F.args_dict_items_1 _, _, meets_dict_items (mixKind X.prog X.w) d sys, ⟨vs, dd⟩, ?_⟩)
  refine Calls.spliced_nil (PySem.W.kdx_call (knd := mixKind X.prog X.w) (kvs := vs) (ep := ep) (J1.ok.hd hc) ⟨_, Heap.get?_push_size _ rfl, rfl, rfl⟩ (hat.push _) (by omega) fun h' tk acc c as hk hS hl hG hacc => ?_)
  obtain ⟨H', k1, k2, k3, k4, k5, k6, J⟩ := LiI.items_laid (tk := tk) J2 zz kv hk hS hl hG hacc
  exact ⟨.ref _, H', J, rfl, q H' _ as k1 k2 k5 k6⟩⟩
def eLit (m : EM) : EM := fun τ A => (m τ A).bind fun v A1 => match dOf v A1 with
  | some kvs => .ok (.lst (kvs.map fun kv => .tup [kA kv.1, kv.2])) A1
  | none => .stuck
theorem items_vr {ρ : Nat → Addr} {A : AH} {H H' : Hp} (x : Ext Γ ρ A H ρ A H') : ∀ {kvs : List (AK × AV)} {kus : List (Key × V)} {ts : List Addr}, KRs Γ ρ A H kvs kus → Paired (fun (t : Addr) (q : Key × V) => H' t = some (.tup [kV q.1, q.2])) ts kus → VRs Γ ρ A H' (kvs.map fun kv => .tup [kA kv.1, kv.2]) (ts.map V.ref)
  | [], _, _, r, q => by rw [show _ = ([] : List (Key × V)) from r] at q; cases q; rfl
  | (k, v) :: kvs, _, _, ⟨u, r, e, h, t⟩, q => by
    subst e
    cases q with
    | @cons a b as bs q1 q2 => exact ⟨.ref a, as.map V.ref, rfl, ⟨a, _, rfl, .inl (.inl q1), _, _, rfl, kA_ok, _, _, rfl, h.ext x, rfl⟩, items_vr x t q2⟩
theorem de_lit (hc : X.calm = true) (he : DE X Γ W e m) (hg : Gl X "list") (hm : X.mg "list" = none) (hbase : attributeBase e "items" X.env (eval e X.env) = eval e X.env := by rfl) (hline : (apos.endLine == cpos.line) = true := by rfl)
    (hs : starEach [.Call (.Attribute e "items" apos) [] [] cpos] X.env = (false, eval (.Call (.Attribute e "items" apos) [] [] cpos) X.env) :: starEach [] X.env := by rfl) :
    DE X Γ W (.Call (.Name "list" p) [.Call (.Attribute e "items" apos) [] [] cpos] [] pos) (eLit m) :=
  (pe_itemsR hc he hg hm hbase hline hs).imp fun σ H Q ⟨ρ, A, τ, a, h⟩ => wpG.step a h fun v A1 ρ1 H1 u _ x1 a1 r1 h1 => by
    split at h1
    · rename_i kvs ek
      obtain ⟨d, kus, rfl, hd, rd⟩ := dOf_ok a1.rel ek r1
      refine ⟨d, kus, rfl, hd, fun H' p ts g hp hl hq => ?_⟩
      have x : Ext Γ ρ1 A1 H1 ρ1 A1 H' := Ext.grow g
      exact h1 ρ1 H' _ x (a1.rel.grow g) ⟨p, _, rfl, a1.rel.notTr hp, hl, items_vr x rd hq⟩
    · exact h1.elim
end
end Mw
set_option Elab.async false
set_option linter.all false
set_option maxRecDepth 100000
set_option maxHeartbeats 4000000
namespace Mw
open PySem PySem.Spec PyProof.Rows L2
section
open PySem.W PySem.Calls Builtin
theorem len_own {prog : Program} {w : World} {A : Around} {E : Value → Shared → Prop} {s : Shared} {K : Frag} {x C f : Addr} {ox : Obj} {od : Option Obj} {Q : Value → Shared → Prop} (X : K.In s.heap) (I : InstAt s.heap x ox C od) (hs : findIn K (.ref C) "__len__" = some (some (.ref f))) (hf : isFn K (.ref f) = true)
    (h : wpAny (model prog w) A.in1 (call (.ref f) [.ref x]) (PySem.W.LenBack Q) E s) : wpAny (model prog w) A (call (.builtin "len") [.ref x]) Q E s := by
  refine Calls.call_function_entry kind_len plain_len entry_len (args_len1 _) ?_
  unfold Builtin.«len»
  refine wpAny_bind (m := oneArg "len" _) (wpAny_pure (wpAny_bind (m := callSpecial? (.ref x) (Str.ofString "__len__")) (special_fn X I hs (beq_iff_eq.mp hf) (wpAny_mono h (fun r s' hr => ?_) fun _ _ y => y))))
  cases r <;> first | exact hr.elim | skip
  rename_i n u
  obtain ⟨⟨h0, h1⟩, hq⟩ := hr
  refine wpAny_bind (wpAny_holding (wpAny_pure (wpAny_bind (wpAny_letGo ?_))))
  show wpAny _ _ (if n < 0 then _ else _) _ _ _
  rw [if_neg (by omega)]; show wpAny _ _ (if n ≥ 2 ^ 63 then _ else _) _ _ _
  rw [if_neg (by omega)]; exact wpAny_bind (wpAny_mkInt (wpAny_pure ⟨_, rfl, hq⟩))
end
section
variable {X : Cx} {Γ0 Γ : Gm} {W : WX} {k : Nat} {d : He.DefD} {ps : List Str} {m : FM} {c mn : Nat} {p pos : Pos} {e : Expr} {me : EM}
theorem call_lenO (F : FnE X.prog X.w X.K X.mg X.base Γ0 k d ps m) (hr : Room (k + 1) X.A) (hb : BindK d ps 1 [] [0]) {C : Addr} (hc : Cls X.K C) (hm : Meth X.K C "__len__" (He.fAd X.K d.at_)) :
    CallR X (.builtin "len") (fun xs H Q => ∃ a dx fs, xs = [.ref a] ∧ H a = some (.ins C dx fs) ∧ spM Γ0 m [.ref a] H (fun v H' => ∃ n : Int, v = .int n ∧ (0 ≤ n ∧ n < 2 ^ 63) ∧ Q (.int n) H') (fun _ _ _ => False)) := by
  rintro pins s σ H xs us Q I r ⟨a, dx, fs, rfl, ha, hsp⟩
  obtain ⟨u, rfl, ru⟩ := vals1 r
  cases ru
  obtain ⟨fd, FD, FO⟩ := F.ex
  obtain ⟨mA, O, _⟩ := ins_get I.hok ha
  obtain ⟨od, J, _⟩ := O.look
  refine len_own I.kIn J hm.at_ hm.fn ?_
  have hbt := bind_to FD hb s (us := [.ref a]) (ws := []) rfl rfl
  refine wpAny_call (codeAny_mono (FO.run X.A.in1 X.stack s H ⟨[.ref a], []⟩ [.ref a] [.ref a] _ (fun _ _ _ => False) hr.in1 I.env0.in1 hbt (.cons rfl .nil) hsp) fun r s' hq => ?_)
  cases r with
  | error e => obtain ⟨_, _, _, _, _, _, _, _, _, _, _, _, z⟩ := hq; exact z.elim
  | ok fl =>
    cases fl with
    | ret u =>
      obtain ⟨v, H', I', rv, n, ev, hn, q⟩ := I.after hq
      subst ev
      obtain ⟨t, rfl⟩ := rv
      exact ⟨hn, .int n, H', I'.tok _, ⟨_, rfl⟩, q⟩
    | next => exact hq.elim
    | brk => exact hq.elim
    | cont => exact hq.elim
def eLenO (c mn : Nat) (m : FM) (a : EM) : EM := fun τ A => (a τ A).bind fun v A1 => match v with
  | .ref i => (match A1[i]? with
    | some (.ins c' _) => if Nat.beq c' c = true then (match m [.ref i] A1 with
      | .ok (.int n) A2 => if decide (0 ≤ n ∧ n < 2 ^ 63) = true then .ok (.int n) A2 else .stuck
      | _ => .stuck) else .stuck
    | _ => .stuck)
  | _ => .stuck
theorem de_lenO (F : FnE X.prog X.w X.K X.mg X.base Γ0 k d ps m) (hr : Room (k + 1) X.A) (hΓ : Γ0.at_ Γ.hid = Γ) (hb : BindK d ps 1 [] [0]) (hc : Cls X.K (Γ.ad c)) (hm : Meth X.K (Γ.ad c) "__len__" (He.fAd X.K d.at_)) (hg : Gl X "len") (hml : X.mg "len" = none) (he : DE X Γ W e me)
    (hs : starEach [e] X.env = (false, eval e X.env) :: starEach [] X.env := by rfl) : DE X Γ W (.Call (.Name "len" p) [e] [] pos) (eLenO c mn m me) :=
  (pe_callB (call_lenO F hr hb hc hm) hg hml bt_len (pa_cons he pa_nil hs) (he := hs)).imp fun σ H Q ⟨ρ, A, τ, a, h⟩ => wpG.step a h fun v A1 ρ1 H1 u _ x1 a1 r1 h1 => by
    cases v <;> try exact h1.elim
    rename_i i _
    simp only at h1
    split at h1
    · rename_i c' fs ei
      split at h1
      · rename_i ec
        have ec := Nat.eq_of_beq_eq_true ec
        subst ec
        obtain ⟨dx, fus, hi, rf⟩ := a1.rel.obj i _ ei
        obtain ⟨hl, rfl⟩ := r1
        refine ⟨ρ1 i, dx, fus, rfl, hi, Γ.hid, ρ1, A1, [.ref i], by rw [hΓ]; exact a1.rel, by rw [hΓ]; exact ⟨.ref (ρ1 i), [], rfl, ⟨hl, rfl⟩, rfl⟩, ?_⟩
        rw [hΓ]
        cases em : m [.ref i] A1 with
        | ok w A2 =>
          rw [em] at h1
          cases w <;> try exact h1.elim
          rename_i n
          simp only at h1
          split at h1
          · rename_i hn
            exact fun ρ2 H2 u x2 R2 r2 => ⟨n, r2, of_decide_eq_true hn, h1 ρ2 H2 (.int n) x2 R2 rfl⟩
          · exact h1.elim
        | exc _ _ _ => rw [em] at h1; exact h1.elim
        | stuck => rw [em] at h1; exact h1.elim
      · exact h1.elim
    · exact h1.elim
end
end Mw
set_option Elab.async false
set_option linter.all false
set_option maxRecDepth 100000
set_option maxHeartbeats 4000000
namespace Mw
open PySem PySem.Spec PyProof.Rows L2
def RawE (P : Program) (w : World) (env : Env) (h : Heap) (e : Expr) (V : Value → Prop) : Prop :=
  ∀ (A : Around) (E : Value → Shared → Prop) (s : Shared) (Q : Value → Shared → Prop), s.heap = h → (∀ v tk, V v → Q v { s with toks := tk }) → wpAny (model P w) A (eval e env) Q E s
abbrev PM := AE → AH → Option AV
def pVar (i : Nat) : PM := fun τ _ => match τ[i]? with
  | some (some v) => some v
  | _ => none
def pC (v : AV) : PM := fun _ _ => some v
def pSub (a b : PM) : PM := fun τ A => match a τ A, b τ A with
  | some (.int i), some (.int j) => some (.int (i - j))
  | _, _ => none
def seqAt (xs : List AV) (i : Int) : Option AV := if decide (0 ≤ i ∧ i < 2 ^ 63) = true then xs[i.toNat]? else none
def gIx (x y : AV) (A : AH) : Option AV := match rdS x A, dOf x A with
  | some xs, _ => (match y with
    | .int i => seqAt xs i
    | _ => none)
  | none, some kvs => (match keyOf y with
    | some k => lookK k kvs
    | none => none)
  | _, _ => none
def pIx (a b : PM) : PM := fun τ A => match a τ A, b τ A with
  | some x, some y => gIx x y A
  | _, _ => none
def pLs : List PM → AE → AH → Option (List AV)
  | [], _, _ => some []
  | p :: ps, τ, A => (match p τ A, pLs ps τ A with
    | some v, some vs => some (v :: vs)
    | _, _ => none)
structure LS (X : Cx) (Γ : Gm) where
  pins : List (Addr × Obj)
  σ : L2.St
  H : Hp
  s : Shared
  ρ : Nat → Addr
  A : AH
  τ : AE
  h : Heap
  env : Env
  x : AV
  xn : Str
  I : Inv X pins σ H s
  R : Rel Γ ρ A H
  er : ER Γ ρ A H τ σ
  up : ∀ b o, s.heap.get? b = some o → h.get? b = some o
  kind : env.scope.kind = .function
  cell : ∀ (i : Nat) (y : Str) (v : V), X.N[i]? = some y → env.kindOf y = some .free → σ[i]? = some (some v) → ∃ c w, env.cells.lookup y = some c ∧ h.IsCell c (some w) ∧ RelV v w
  loc : ∃ m vx ux, h.Ns env.locals m ∧ m xn = some vx ∧ VR Γ ρ A H x ux ∧ RelV ux vx
section
variable {X : Cx} {Γ : Gm} {S : LS X Γ}
def RawA (S : LS X Γ) (e : Expr) (m : PM) : Prop := ∀ a, m (S.τ ++ [some S.x]) S.A = some a → RawE X.prog X.w S.env S.h e fun v => ∃ u, VR Γ S.ρ S.A S.H a u ∧ RelV u v
theorem LS.len (S : LS X Γ) : S.τ.length = X.N.length := S.er.1.trans S.I.len
variable {pos : Pos} {e e1 e2 : Expr} {m m1 m2 : PM}
theorem ra_var {i : Nat} {y : Str} (hi : X.N[i]? = some y) (hk : S.env.kindOf y = some .free) (hd : (y == ("__debug__" : Str)) = false := by decide) (hcd : (y == ("__classdict__" : Str)) = false := by decide) : RawA S (.Name y pos) (pVar i) := fun a ha A E s Q hs q => by
  have hl : i < S.τ.length := by rw [S.len]; exact (List.getElem?_eq_some_iff.mp hi).1
  unfold pVar at ha
  rw [List.getElem?_append_left hl] at ha
  split at ha
  · rename_i v0 ev
    injection ha with ha
    subst ha
    obtain ⟨u, h1, h2⟩ := S.er.2 i v0 ev
    obtain ⟨c, z, h3, h4, h5⟩ := S.cell i y u hi hk h1
    exact wpAny_Name (wpAny_loadName_free S.kind hk h3 (by rw [hs]; exact h4) (q z s.toks ⟨u, h2, h5⟩) hcd) hd
  · cases ha
theorem ra_par {n : Nat} {y : Str} (hn : X.N.length = n) (hy : y = S.xn) (hk : S.env.kindOf y = some .local) (hd : (y == ("__debug__" : Str)) = false := by decide) : RawA S (.Name y pos) (pVar n) := fun a ha A E s Q hs q => by
  subst hn hy
  obtain ⟨mm, vx, ux, h1, h2, h3, h4⟩ := S.loc
  unfold pVar at ha
  rw [← S.len, List.getElem?_append_right (Nat.le_refl _), Nat.sub_self] at ha
  have e : S.x = a := by simpa using ha
  subst e
  exact wpAny_Name (wpAny_loadName_local S.kind hk (by rw [hs]; exact h1) h2 (q vx s.toks ⟨ux, h3, h4⟩)) hd
theorem ra_int {i : Int} {j : Nat} : RawA S (.Constant (.int i) j pos) (pC (.int i)) := fun a ha A E s Q hs q => by
  cases ha
  exact wpAny_Constant_int (q _ _ ⟨.int i, rfl, s.toks, rfl⟩)
theorem ra_sub (ha : RawA S e1 m1) (hb : RawA S e2 m2) : RawA S (.BinOp e1 .Sub e2 pos) (pSub m1 m2) := fun a h A E s Q hs q => by
  unfold pSub at h
  split at h
  · rename_i i j h1 h2
    cases h
    refine wpAny_BinOp (ha _ h1 A E s _ hs fun v tk ⟨u, r1, r2⟩ => hb _ h2 A E { s with toks := tk } _ hs fun w tk2 ⟨z, r3, r4⟩ => ?_)
    have e1 : u = .int i := r1
    have e2 : z = .int j := r3
    subst e1 e2
    obtain ⟨t1, rfl⟩ := r2
    obtain ⟨t2, rfl⟩ := r4
    exact sub_int (q _ _ ⟨.int (i - j), rfl, _, rfl⟩)
  · cases h
theorem ra_ix (hK : X.K = Γ.K) (ha : RawA S e1 m1) (hb : RawA S e2 m2) (hs : PlainIx e2) : RawA S (.Subscript e1 e2 pos) (pIx m1 m2) := fun a h A E s Q hh q => by
  unfold pIx at h
  split at h
  · rename_i x y h1 h2
    refine Subscript_ (ha _ h1 A E s _ hh fun v tk ⟨u, r1, r2⟩ => hb _ h2 A E { s with toks := tk } _ hh fun w tk2 ⟨z, r3, r4⟩ => ?_)
    have hp := hs v w
    unfold gIx at h
    split at h
    · rename_i xs _ ex
      match y, h2, r3, h with
      | .int i, h2, r3, h =>
        obtain ⟨p, us, rfl, hq, rq⟩ := rdS_ok S.R ex r1
        obtain rfl : v = Value.ref p := r2
        have ez : z = .int i := r3
        subst ez
        obtain ⟨t, rfl⟩ := r4
        dsimp only at h
        unfold seqAt at h
        split at h
        · rename_i hi
          obtain ⟨i0, i1⟩ := of_decide_eq_true hi
          obtain ⟨zz, ez, rz⟩ := rq.get h
          have hlt : i.toNat < us.length := (List.getElem?_eq_some_iff.mp ez).1
          have hup : ∀ b o, S.s.heap.get? b = some o → ({ s with toks := tk2 } : Shared).heap.get? b = some o := fun b o e => by show s.heap.get? b = some o; rw [hh]; exact S.up b o e
          rcases hq with hq | hq
          · obtain ⟨its, rv, pl, hz⟩ := S.I.list (by rw [hK]; exact hq)
            obtain ⟨w', ew, rw'⟩ := rv.get ez
            exact item_listR (pl.keeps hup).isList i0 i1 (by simpa using ew) (q w' tk2 ⟨zz, rz, rw'⟩) hp
          · obtain ⟨its, rv, pl, hz⟩ := S.I.tuple (by rw [hK]; exact hq)
            obtain ⟨w', ew, rw'⟩ := rv.get ez
            have hl := rv.length
            have pl' := pl.keeps hup
            exact subscriptTail_builtinR (x := w') pl'.typeIs slot_tuple_getitem.lookup (getItem_tuple (j := i.toNat) (Q := fun r s' => r = w' ∧ Q r s') pl' (by omega) i1 (by rw [List.size_toArray, ← hl]; exact seqIndex_of i0 (by omega)) (by simpa using ew) ⟨rfl, q w' tk2 ⟨zz, rz, rw'⟩⟩) hp
        · cases h
      | .non, _, _, h => cases h
      | .bl _, _, _, h => cases h
      | .str _, _, _, h => cases h
      | .tup _, _, _, h => cases h
      | .lst _, _, _, h => cases h
      | .rol _, _, _, h => cases h
      | .dct _, _, _, h => cases h
      | .ref _, _, _, h => cases h
      | .glo _, _, _, h => cases h
      | .exh _ _, _, _, h => cases h
    · rename_i kvs _ ek
      split at h
      · rename_i k ekk
        obtain ⟨p, kus, rfl, hd, rd⟩ := dOf_ok S.R ek r1
        obtain rfl : v = Value.ref p := r2
        obtain ⟨zz, ez, rz⟩ := (lookK_ok rd).1 a h
        obtain ⟨zl, hds, vs, rel, dd⟩ := dk_rd S.I.hok hd
        obtain ⟨w', hw, rw'⟩ := RelO.some_of (v := zz) (o := valueAt vs (kK k)) (by rw [← ez]; exact rel.val (kK k))
        have dd' : ({ s with toks := tk2 } : Shared).heap.DictOf (mixKind X.prog X.w) p vs := dd.at fun o e => by show s.heap.get? p = some o; rw [hh]; exact S.up p o e
        have ek2 := keyOf_ok ekk r3
        rw [ek2] at r4
        have hT := dd'.typeIs
        unfold subscriptTail; refine wpAny_bind ?_; rw [getitemInPython_of_ne hT.not_modules]
        refine wpAny_bind (wpAny_specialOf hT PySem.F.slot_dict_getitem.lookup ?_)
        have fin : wpAny (model X.prog X.w) A (subscripted e2 false (.ref p) w) (fun r s₃ => wpAny (model X.prog X.w) A (letTemporaryGo e1 (.ref p) r >>= fun _ => pure r) Q E s₃) E { s with toks := tk2 } := by
          rw [hp]; refine wpAny_operating (wpAny_getItem_of (kV_is r4) dd'.mapOf hw (wpAny_bind (wpAny_letTemporaryGo (wpAny_pure (q w' _ ⟨zz, rz, rw'⟩)))))
        first
          | exact wpAny_pure (wpAny_bind fin)
          | exact wpAny_bind (wpAny_pure (wpAny_bind fin))
          | exact wpAny_bind fin
      · cases h
    · cases h
  · cases h
end
end Mw
set_option Elab.async false
set_option linter.all false
set_option maxRecDepth 100000
set_option maxHeartbeats 4000000
namespace Mw
open PySem PySem.Spec PyProof.Rows L2
abbrev KM := AE → AH → Option PyData
def gTup (ms : List PM) : KM := fun τ A => match pLs ms τ A with
  | some vs => if (isPDs vs && Nat.ble vs.length big) = true then some (.tuple (pds vs)) else none
  | none => none
def gOne (m : PM) : KM := fun τ A => match m τ A with
  | some v => if isPD v = true then some (pd v) else none
  | none => none
section
variable {X : Cx} {Γ : Gm} {S : LS X Γ}
def RawAs (S : LS X Γ) (es : List Expr) (ms : List PM) : Prop := ∀ vs, pLs ms (S.τ ++ [some S.x]) S.A = some vs → ∀ (pos : Pos) (A : Around) (E : Value → Shared → Prop) (s : Shared) (Q : List Value → Shared → Prop), s.heap = S.h →
  (∀ us tk, PySem.W.EachIs (RAv Γ S.ρ S.A S.H) us vs → Q us { s with toks := tk }) → wpAny (model X.prog X.w) A (spliced (backTo pos (starEach es S.env))) Q E s
theorem ras_nil : RawAs S [] [] := fun vs h pos A E s Q hs q => by
  cases h
  exact Calls.spliced_nil (q [] s.toks .nil)
theorem ras_cons {e : Expr} {es : List Expr} {m : PM} {ms : List PM} (ha : RawA S e m) (hr : RawAs S es ms) (hx : starEach (e :: es) S.env = (false, eval e S.env) :: starEach es S.env := by rfl) : RawAs S (e :: es) (m :: ms) := fun vs h pos A E s Q hs q => by
  unfold pLs at h
  split at h
  · rename_i v ws h1 h2
    cases h
    rw [hx]
    show wpAny _ _ (spliced ((false, eval e S.env) :: backTo pos (starEach es S.env))) _ _ s
    exact Calls.spliced_cons (ha _ h1 A E s _ hs fun u tk hu => hr _ h2 pos A E { s with toks := tk } _ hs fun us tk2 hus => q _ tk2 (.cons hu hus))
  · cases h
def KeyB (S : LS X Γ) (body : Expr) (g : KM) : Prop := ∀ d, g (S.τ ++ [some S.x]) S.A = some d → ∀ (A : Around) (E : Value → Shared → Prop) (s : Shared) (Q : Value → Shared → Prop), s.heap = S.h →
  (∀ v h' tk, (∀ b o, S.h.get? b = some o → h'.get? b = some o) → Reads h' v d [] → Q v { s with heap := h', toks := tk }) → wpAny (model X.prog X.w) A (eval body S.env) Q E s
theorem kb_one (hK : X.K = Γ.K) {e : Expr} {m : PM} (ha : RawA S e m) : KeyB S e (gOne m) := fun d h A E s Q hs q => by
  unfold gOne at h
  split at h
  · rename_i v h1
    split at h
    · rename_i hp
      cases h
      refine ha _ h1 A E s _ hs fun w tk ⟨u, r1, r2⟩ => ?_
      have e : ({ s with toks := tk } : Shared) = { s with heap := S.h, toks := tk } := by rw [← hs]
      rw [e]
      exact q w S.h tk (fun _ _ e => e) (PyProof.Rows.Reads.keeps S.up (pd_reads hK S.I v r1 r2 hp))
    · cases h
  · cases h
theorem kb_tup (hK : X.K = Γ.K) {es : List Expr} {ms : List PM} {x1 : Nat} {pos : Pos} (ha : RawAs S es ms) : KeyB S (.Tuple es x1 pos) (gTup ms) := fun d h A E s Q hs q => by
  unfold gTup at h
  split at h
  · rename_i vs h1
    split at h
    · rename_i hp
      cases h
      obtain ⟨hp, hl⟩ := Bool.and_eq_true_iff.mp hp
      refine wpAny_Tuple_spliced (ha _ h1 _ A E s _ hs fun us tk hus => ⟨by rw [hus.length, ← big_eq]; exact Nat.le_of_ble_eq_true hl, ?_⟩)
      obtain ⟨zs, r1, r2⟩ := each_back hus
      have rd : ReadsAll S.s.heap us (pds vs) [] := pds_reads hK S.I vs r1 r2 hp
      have kp : ∀ b o, S.h.get? b = some o → (s.heap.push { cls := .type "tuple", data := .seq us.toArray }).get? b = some o := fun b o e => Heap.get?_push_of_some _ (by rw [hs]; exact e)
      exact q _ _ tk kp (.tuple (Heap.get?_push_size _ rfl) rfl rfl (PyProof.Rows.ReadsAll.keeps (fun b o e => kp b o (S.up b o e)) rd))
    · cases h
  · cases h
end
structure LamP (sc scope : Scope) (a : Str) : Prop where
  kind : scope.kind = .function
  co : scope.isCoroutine = false
  gen : scope.isGenerator = false
  own : ∀ y ∈ scope.names, y.2 ≠ .cell
  par : scope.names.lookup a = some .local
  free : ∀ y ∈ scope.names, y.2 = .free → sc.names.lookup y.1 = some .cell ∨ sc.names.lookup y.1 = some .free
def lamPB (sc scope : Scope) (a : Str) : Bool :=
  decide (scope.kind = .function) && (!scope.isCoroutine && (!scope.isGenerator && (decide (scope.names.lookup a = some .local) && scope.names.all fun y => !decide (y.2 = .cell) && (!decide (y.2 = .free) || (decide (sc.names.lookup y.1 = some .cell) || decide (sc.names.lookup y.1 = some .free))))))
theorem lamP_by {sc scope : Scope} {a : Str} (h : lamPB sc scope a = true) : LamP sc scope a := by
  unfold lamPB at h
  simp only [Bool.and_eq_true, Bool.or_eq_true, Bool.not_eq_true', decide_eq_true_eq, decide_eq_false_iff_not, List.all_eq_true] at h
  obtain ⟨h1, h2, h3, h4, h5⟩ := h
  refine ⟨h1, h2, h3, fun y hy => (h5 y hy).1, h4, fun y hy e => ?_⟩
  rcases (h5 y hy).2 with z | z
  · exact absurd e z
  · exact z
theorem LamP.has {X : Cx} {scope : Scope} {a : Str} (L : LamP X.env.scope scope a) (ok : X.Ok) : ∀ y ∈ scope.names, y.2 = .free → ∃ c, X.env.cells.lookup y.1 = some c := fun y hy e => by
  rcases L.free y hy e with k | k
  · exact ok.has _ (.inl k)
  · exact ok.has _ (.inr k)
section
variable {X : Cx} {Γ : Gm} {pins : List (Addr × Obj)} {σ : L2.St} {H H1 : Hp} {s : Shared} {ρ : Nat → Addr} {A : AH} {τ : AE}
def lsOf {scope : Scope} {a : Str} {f c' L : Addr} {h₁ : Heap} {v : Value} {u : V} {x : AV} (I : Inv X pins σ H s) (R : Rel Γ ρ A H) (er : ER Γ ρ A H τ σ) (LP : LamP X.env.scope scope a)
    (hns : h₁.Ns L fun y => ([(a, v)] : List (Str × Value)).reverse.lookup y) (kp : ∀ b o, s.heap.get? b = some o → h₁.get? b = some o) (r1 : VR Γ ρ A H x u) (r2 : RelV u v) : LS X Γ where
  pins := pins
  σ := σ
  H := H
  s := s
  ρ := ρ
  A := A
  τ := τ
  h := h₁
  env := LamX.lamEnv X scope L f c'
  x := x
  xn := a
  I := I
  R := R
  er := er
  up := kp
  kind := LP.kind
  cell := fun i y w e1 e2 e3 => by
    have hfree := LP.has I.ok
    have k : scope.names.lookup y = some .free := e2
    obtain ⟨m, hn, hl⟩ := I.loc
    have hvis : Vis X.env.scope y := (LP.free _ (PySem.mem_of_lookup k) rfl).elim (fun k => .inr (.inl k)) (fun k => .inr (.inr k))
    obtain ⟨w', r, q⟩ := hl i y w e1 e3 hvis
    have hy : (y, NameKind.free) ∈ scope.names := PySem.mem_of_lookup k
    obtain ⟨c2, h2⟩ := mem_lookup (cloFrom_has (cells := X.env.cells) (acc := []) hy)
    have cm : X.env.cells.lookup y = some c2 := by
      rcases cloFrom_mem (PySem.mem_of_lookup h2) with hm | ⟨g1, g2⟩
      · cases hm
      · obtain ⟨c1, hc⟩ := hfree _ g1 rfl
        have hc : X.env.cells.lookup y = some c1 := hc
        have e2 : c2 = c1 := by
          rw [g2, hc] <;> rfl
        rw [e2]
        exact hc
    rcases q with ⟨k', _⟩ | ⟨_, c3, e', z⟩
    · have k' : X.env.scope.names.lookup y = some .local := k'
      rcases LP.free _ (PySem.mem_of_lookup k) rfl with k2 | k2 <;> rw [show X.env.scope.names.lookup y = _ from k2] at k' <;> cases k'
    · rw [cm] at e'
      cases e'
      obtain ⟨o, ho, hd⟩ := z
      exact ⟨c2, w', h2, ⟨o, kp _ _ ho, hd⟩, r⟩
  loc := ⟨_, v, u, hns, by simp, r1, r2⟩
theorem key_turn {params : Arguments} {body : Expr} {scope : Scope} {a : Str} {f c' : Addr} {pm ctv : Value} {B : Around} {g : KM} {x : AV} {v : Value} {d : PyData} {h : Heap} {tk : Nat}
    (I : Inv X pins σ H s) (R : Rel Γ ρ A H) (er : ER Γ ρ A H τ σ) (LP : LamP X.env.scope scope a) (hr : B.depth < recursionLimit) (hf : s.heap.get? f = some (PySem.W.kla_obj "<lambda>" (X.env.qual ++ "<lambda>") params body scope (cloFrom X.env.cells scope.names []) pm c' ctv))
    (hco : H c' = some (LamX.CodeO c' (X.env.qual ++ "<lambda>"))) (hbind : ∀ (q : Str) (cl : List (Str × Addr)) (pm cv ctv : Value) (v : Value), bindArgs (PySem.W.kla_fn "<lambda>" q params body scope cl pm cv ctv) ⟨[v], []⟩ = pure [(a, v)])
    (hbody : ∀ S : LS X Γ, S.env.scope = scope → S.xn = a → KeyB S body g) (hg : g (τ ++ [some x]) A = some d) (r : RAv Γ ρ A H v x) (kp : ∀ b o, s.heap.get? b = some o → h.get? b = some o) :
    wpAny (model X.prog X.w) B (call (.ref f) [v]) (PySem.W.KeyPure d { s with heap := h, toks := tk }) (fun _ _ => False) { s with heap := h, toks := tk } := by
  obtain ⟨u, r1, r2⟩ := r
  obtain ⟨⟨oc, vs, t, hoc, hdc, hvc⟩, _, _⟩ := I.hok c' _ hco
  have rc : codeAny (model X.prog X.w) B (.call (.ref f) ⟨[v], []⟩) (fun r s' => match r with | .ok (.ret w) => PySem.W.KeyPure d { s with heap := h, toks := tk } w s' | _ => False) { s with heap := h, toks := tk } := by
    refine PySem.W.kla_callFunE hr (kp _ _ hf) rfl LP.co LP.gen rfl ⟨c', oc, vs, t, rfl, kp _ _ hoc, hdc, hvc⟩ ?_
    rw [hbind]
    refine wpAny_pure (wpAny_newFunctionEnv (fun y hy => LP.own y hy) (fun y hy => ?_) (fun h₁ hns hsb => ⟨(I.nolimit.keeps kp).fresh _ hsb, ?_⟩) LP.kind)
    · obtain rfl := List.mem_singleton.mp hy
      exact LP.par
    · show codeAny _ _ (.expr body (LamX.lamEnv X scope h.objs.size f c')) _ _
      have kp1 : ∀ b o, h.get? b = some o → h₁.get? b = some o := fun b o e => hsb.extBut b o (Nat.ne_of_lt (Heap.lt_size e)) (Heap.get?_push_of_some _ e)
      refine PySem.W.kla_codeExpr (hbody (lsOf (f := f) (c' := c') I R er LP hns (fun b o e => kp1 b o (kp b o e)) r1 r2) rfl rfl d hg _ _ _ _ rfl fun w h' tk' kp2 rd => ?_)
      exact ⟨h', tk', rfl, fun b o e => kp2 b o (kp1 b o e), rd⟩
  refine wpAny_call (codeAny_mono rc fun r s' hq => ?_)
  cases r with
  | error e => exact hq.elim
  | ok fl =>
    cases fl with
    | ret u => exact hq
    | next => exact hq.elim
    | brk => exact hq.elim
    | cont => exact hq.elim
theorem Ext.extN (x : LamX.ExtN H H1) : Ext Γ ρ A H ρ A H1 :=
  ⟨Nat.le_refl _, fun _ _ => rfl, fun a us h => h.imp_left fun h => h.imp (fun h => x _ _ h fun ps e => by cases e) fun ⟨o, q⟩ => ⟨o, x _ _ q fun ps e => by cases e⟩,
    fun b o n e k => ⟨x b o e (fun ps z => by subst z; cases n), k⟩, fun b o n _ e => x b o e fun ps z => by subst z; cases n⟩
theorem Rel.extN (R : Rel Γ ρ A H) (x : LamX.ExtN H H1) (t : LamX.Tabs Γ.tabs H1) : Rel Γ ρ A H1 :=
  ⟨R.inj, fun i o e => by
    by_cases n : o = .gone
    · subst n; trivial
    · obtain ⟨q, hq, n1, n2⟩ := OR.shape (R.obj i o e) n
      exact (R.obj i o e).ext (Ext.extN x) fun z hz => x _ _ hz fun ps ez => by subst ez; rw [hq] at hz; exact n1 ps (Option.some.inj hz),
    fun a h => by
      obtain ⟨o, e, z⟩ := R.hn a h
      rcases z with n | ⟨p, hp, rfl⟩
      · exact ⟨o, x a o e (fun ps z => by subst z; cases n), .inl n⟩
      · obtain ⟨ps', e', _⟩ := t p hp
        exact ⟨_, e', .inr ⟨p, hp, rfl⟩⟩, R.hs, t, R.th⟩
end
def keyOfx (g : KM) (τ : AE) (A : AH) (x : AV) : PyData := (g (τ ++ [some x]) A).getD .none
def keysOk (g : KM) (τ : AE) (A : AH) (ys : List AV) : Bool := ys.all (fun x => (g (τ ++ [some x]) A).isSome) && (alikes (ys.map (keyOfx g τ A)) && ((((ys.map (keyOfx g τ A)).all tup1) || ((ys.map (keyOfx g τ A)).all noTup)) && (shallow (ys.map (keyOfx g τ A)) && Nat.ble ys.length big)))
theorem keysOk_ok {g : KM} {τ : AE} {A : AH} {ys : List AV} (h : keysOk g τ A ys = true) : (∀ x ∈ ys, g (τ ++ [some x]) A = some (keyOfx g τ A x)) ∧ PySem.W.AllAlike (ys.map (keyOfx g τ A)) ∧ PySem.W.Sortable (ys.map (keyOfx g τ A)) ∧ (∀ b, b ∈ ys → (keyOfx g τ A b).depth ≤ 8) ∧ ys.length ≤ sizeLine := by
  unfold keysOk at h
  simp only [Bool.and_eq_true] at h
  obtain ⟨h1, h2, h3, h4, h5⟩ := h
  refine ⟨fun x hx => ?_, fun d hd d' hd' => ?_, ?_, fun b hb => ?_, by rw [← big_eq]; exact Nat.le_of_ble_eq_true h5⟩
  · obtain ⟨d, hd⟩ := Option.isSome_iff_exists.mp (List.all_eq_true.mp h1 x hx)
    unfold keyOfx
    rw [hd]; rfl
  · exact List.all_eq_true.mp (List.all_eq_true.mp h2 d hd) d' hd'
  · rcases Bool.or_eq_true_iff.mp h3 with h | h
    · refine .inl fun d hd => ?_
      have := List.all_eq_true.mp h d hd
      unfold tup1 at this
      split at this
      · exact ⟨_, _, rfl⟩
      · cases this
    · refine .inr fun d hd => ?_
      have := List.all_eq_true.mp h d hd
      unfold noTup at this
      split at this
      · cases this
      · cases this
      · rename_i n1 n2; exact ⟨n2, n1⟩
  · exact Nat.le_of_ble_eq_true (List.all_eq_true.mp h4 _ (List.mem_map.mpr ⟨b, hb, rfl⟩))
def eSortK (fz : Bool) (g : KM) (m : EM) : EM := fun τ A => (m τ A).bind fun v A1 => match rdL v A1 with
  | some ys => if keysOk g τ A1 ys = true then newL fz (ys.mergeSort (PySem.W.dataLe false (keyOfx g τ A1))) A1 else .stuck
  | none => .stuck
section
variable {X : Cx} {Γ : Gm} {W : WX} {e : Expr} {m : EM} {p lpos kpos pos : Pos}
theorem de_sortK {fz : Bool} {params : Arguments} {body : Expr} {scope : Scope} {a : Str} {c P : Addr} {k : Nat} {g : KM} (hK : X.K = Γ.K) (hu : X.A.units + 16 < cLine) (hr : Room k X.A) (TB : LamX.TabB X.base X.mg c P) (hcode : X.env.code = .ref c) (hmT : (P, X.env.qual ++ "<lambda>") ∈ Γ.tabs)
    (huq : ∀ p ∈ Γ.tabs, p.1 = P → p.2 = X.env.qual ++ "<lambda>") (hL : lamPB X.env.scope scope a = true) (hbind : ∀ (q : Str) (cl : List (Str × Addr)) (pm cv ctv : Value) (v : Value), bindArgs (PySem.W.kla_fn "<lambda>" q params body scope cl pm cv ctv) ⟨[v], []⟩ = pure [(a, v)])
    (hbody : ∀ S : LS X Γ, S.env.scope = scope → S.xn = a → KeyB S body g) (hg : Gl X "sorted") (hm : X.mg "sorted" = none) (he : DE X Γ W e m) (hdef : defaultsOf params X.env = ([], []) := by rfl)
    (hs : starEach [e] X.env = (false, eval e X.env) :: starEach [] X.env := by rfl) :
    DE X Γ W (.Call (.Name "sorted" p) [e] [⟨some "key", .Lambda params body scope lpos, kpos⟩] pos) (eSortK fz g m) := ⟨fun pins s σ H Q I ⟨ρ, A, τ, at0, h⟩ => by
  have LP := lamP_by hL
  refine wpAny_Call_Name_kw (ld_blt I hg hm bt_sorted ?_)
  refine PyProof.Rows.callWith_kw ?_ (by rw [hs]; rfl) (by rw [hs]; rfl) rfl rfl
  rw [hs]
  show wpAny _ _ (spliced ((false, eval e X.env) :: backTo pos (starEach [] X.env))) _ _ s
  refine Calls.spliced_cons (thn (he.run pins s σ H (fun u H1 => ∃ v A1 ρ1, At Γ ρ1 A1 τ σ H1 ∧ VR Γ ρ1 A1 H1 v u ∧ PostE Γ (fun c d H' => W c d σ H') ρ1 A1 H1 Q (match rdL v A1 with
    | some ys => if keysOk g τ A1 ys = true then newL fz (ys.mergeSort (PySem.W.dataLe false (keyOfx g τ A1))) A1 else .stuck
    | none => .stuck)) I (wpG.step at0 h fun v A1 ρ1 H1 u _ x1 a1 r1 h1 => ⟨v, A1, ρ1, a1, r1, h1⟩)) fun u s1 ⟨x, H1, I1, rx, v, A1, ρ1, a1, r1, h1⟩ => Calls.spliced_nil ?_)
  show wpAny _ _ (evalAll ((do let v ← eval (.Lambda params body scope lpos) X.env; standAt pos; pure v) :: [])) _ _ s1
  refine wpAny_evalAll_cons (wpAny_bind (LamX.lam_make2 I1 TB hcode hmT huq a1.rel.tb hdef (LP.has I1.ok) fun f c' pm' ctv H2 s' I2 eN T2 hf hfn hfr hco => wpAny_bind (wpAny_standAt (wpAny_pure (wpAny_evalAll_nil ?_)))))
  have x2 : Ext Γ ρ1 A1 H1 ρ1 A1 H2 := Ext.extN eN
  have R2 := a1.rel.extN eN T2
  have er2 := a1.er.ext x2
  have h2 := Post.mono x2 h1
  have rv := r1.ext x2
  split at h2
  · rename_i ys ey
    obtain ⟨l, ws, rfl, hl, rs⟩ := rdL_ok R2 ey rv
    obtain rfl : u = Value.ref l := rx
    split at h2
    · rename_i ok
      obtain ⟨o1, o2, o3, o4, o5⟩ := keysOk_ok ok
      obtain ⟨its, rits, hil, _⟩ := I2.list (by rw [hK]; exact hl)
      show wpAny _ _ (call (.builtin "sorted") [.ref l] [(Str.ofString "key", .ref f)]) _ _ s'
      refine PySem.W.sorted_key_data (b := false) (keyOfx g τ A1) hil.isList (each_of rs rits) o2 o3 o5 (fun b hb => by have := o4 b hb; omega) (PyProof.Rows.ksk_s1 _ _) (fun _ => PyProof.Rows.ksk_l1 _ _) (fun _ => PyProof.Rows.ksk_t1 _ _)
        (fun v x hx hm h tk kp => key_turn I2 R2 er2 LP (show X.A.depth < recursionLimit from hr.depth) hf hco hbind hbody (o1 x hm) hx kp) fun out ep h' tk kp fr he' hlen hea => ?_
      obtain ⟨zs, k1, k2⟩ := each_back hea
      have hz : zs.length ≤ sizeLine := by
        rw [k1.length, List.length_mergeSort]
        exact o5
      have hfz : H2 (s'.heap.objs.size + 1) = none := I2.hok.fresh (Nat.le_succ _)
      exact ⟨.ref (s'.heap.objs.size + 1), upd H2 (s'.heap.objs.size + 1) (.lst zs), I2.laid (t' := tk) kp (Nat.le_succ _) ⟨hz, out, ep, k2, he'⟩, rfl, post_newL R2 h2 k1 _ hfz⟩
    · exact h2.elim
  · exact h2.elim⟩
end
theorem kind_sc {env : Env} {scope : Scope} {y : Str} (h : env.scope = scope) : env.kindOf y = scope.names.lookup y := by rw [← h]; rfl
theorem tab1 {P P' : Addr} {q : Str} : ∀ p ∈ [(P, q)], p.1 = P' → p.2 = q := fun p hp _ => by
  cases List.mem_singleton.mp hp
  rfl
end Mw
set_option Elab.async false
set_option linter.all false
set_option maxRecDepth 100000
set_option maxHeartbeats 4000000
namespace K77
open PySem PySem.Spec PyProof.Rows L2 Mw
abbrev top (i : Nat) : Stmt := PySem.Challenge.pw_schedbench_k77_queues_and_settle.main.body.getD i (.Pass ⟨0, 0, 0, 0⟩)
def clsB : Stmt → List Stmt
  | .ClassDef _ _ _ b _ _ _ _ _ _ _ => b
  | _ => []
abbrev mth (i j : Nat) : Stmt := (clsB (top i)).getD j (.Pass ⟨0, 0, 0, 0⟩)
def D_is_integer : He.DefD := ⟨("is_integer", none), "is_integer", "is_integer", defArgs (top 14), defBody (top 14), defScope (top 14), [], []⟩
def D_is_between : He.DefD := ⟨("is_between", none), "is_between", "is_between", defArgs (top 15), defBody (top 15), defScope (top 15), [], []⟩
def D_is_letters : He.DefD := ⟨("is_letters", none), "is_letters", "is_letters", defArgs (top 16), defBody (top 16), defScope (top 16), [], []⟩
def D_is_name : He.DefD := ⟨("is_name", none), "is_name", "is_name", defArgs (top 22), defBody (top 22), defScope (top 22), [], []⟩
def D_without : He.DefD := ⟨("without", none), "without", "without", defArgs (top 26), defBody (top 26), defScope (top 26), [], []⟩
def D_Desk___init__ : He.DefD := ⟨("Desk", some "__init__"), "__init__", "Desk.__init__", defArgs (mth 27 0), defBody (mth 27 0), defScope (mth 27 0), [], []⟩
def D_Desk___len__ : He.DefD := ⟨("Desk", some "__len__"), "__len__", "Desk.__len__", defArgs (mth 27 1), defBody (mth 27 1), defScope (mth 27 1), [], []⟩
def D_Desk__change : He.DefD := ⟨("Desk", some "_change"), "_change", "Desk._change", defArgs (mth 27 2), defBody (mth 27 2), defScope (mth 27 2), [], []⟩
def D_Desk__check_known : He.DefD := ⟨("Desk", some "_check_known"), "_check_known", "Desk._check_known", defArgs (mth 27 3), defBody (mth 27 3), defScope (mth 27 3), [], []⟩
def D_Desk__check_new : He.DefD := ⟨("Desk", some "_check_new"), "_check_new", "Desk._check_new", defArgs (mth 27 4), defBody (mth 27 4), defScope (mth 27 4), [], []⟩
def D_Desk__machine_of : He.DefD := ⟨("Desk", some "_machine_of"), "_machine_of", "Desk._machine_of", defArgs (mth 27 5), defBody (mth 27 5), defScope (mth 27 5), [], []⟩
def D_Desk_add_machine : He.DefD := ⟨("Desk", some "add_machine"), "add_machine", "Desk.add_machine", defArgs (mth 27 6), defBody (mth 27 6), defScope (mth 27 6), [], []⟩
def D_Desk_close_machine : He.DefD := ⟨("Desk", some "close_machine"), "close_machine", "Desk.close_machine", defArgs (mth 27 7), defBody (mth 27 7), defScope (mth 27 7), [], []⟩
def D_Desk_take_in : He.DefD := ⟨("Desk", some "take_in"), "take_in", "Desk.take_in", defArgs (mth 27 8), defBody (mth 27 8), defScope (mth 27 8), [], []⟩
def D_Desk_give_out : He.DefD := ⟨("Desk", some "give_out"), "give_out", "Desk.give_out", defArgs (mth 27 9), defBody (mth 27 9), defScope (mth 27 9), [], []⟩
def D_Desk__check_given : He.DefD := ⟨("Desk", some "_check_given"), "_check_given", "Desk._check_given", defArgs (mth 27 10), defBody (mth 27 10), defScope (mth 27 10), [], []⟩
def D_Desk_call_back : He.DefD := ⟨("Desk", some "call_back"), "call_back", "Desk.call_back", defArgs (mth 27 11), defBody (mth 27 11), defScope (mth 27 11), [], []⟩
def D_Desk_hurry : He.DefD := ⟨("Desk", some "hurry"), "hurry", "Desk.hurry", defArgs (mth 27 12), defBody (mth 27 12), defScope (mth 27 12), [], []⟩
def D_Desk_finish : He.DefD := ⟨("Desk", some "finish"), "finish", "Desk.finish", defArgs (mth 27 13), defBody (mth 27 13), defScope (mth 27 13), [], []⟩
def D_Desk_machines : He.DefD := ⟨("Desk", some "machines"), "machines", "Desk.machines", defArgs (mth 27 15), defBody (mth 27 15), defScope (mth 27 15), [], []⟩
def D_Desk_waiting : He.DefD := ⟨("Desk", some "waiting"), "waiting", "Desk.waiting", defArgs (mth 27 16), defBody (mth 27 16), defScope (mth 27 16), [], []⟩
def D_Desk_queue : He.DefD := ⟨("Desk", some "queue"), "queue", "Desk.queue", defArgs (mth 27 17), defBody (mth 27 17), defScope (mth 27 17), [], []⟩
def D_Desk_ends : He.DefD := ⟨("Desk", some "ends"), "ends", "Desk.ends", defArgs (mth 27 18), defBody (mth 27 18), defScope (mth 27 18), [], []⟩
def D_Desk_late_jobs : He.DefD := ⟨("Desk", some "late_jobs"), "late_jobs", "Desk.late_jobs", defArgs (mth 27 19), defBody (mth 27 19), defScope (mth 27 19), [], []⟩
def D__law_cell : He.DefD := ⟨("_law_cell", none), "_law_cell", "_law_cell", defArgs (top 29), defBody (top 29), defScope (top 29), [], []⟩
def D__law_box : He.DefD := ⟨("_law_box", none), "_law_box", "_law_box", defArgs (top 30), defBody (top 30), defScope (top 30), [], []⟩
def D__law_take : He.DefD := ⟨("_law_take", none), "_law_take", "_law_take", defArgs (top 31), defBody (top 31), defScope (top 31), [], []⟩
def D__law_same : He.DefD := ⟨("_law_same", none), "_law_same", "_law_same", defArgs (top 32), defBody (top 32), defScope (top 32), [], []⟩
def D__law_very : He.DefD := ⟨("_law_very", none), "_law_very", "_law_very", defArgs (top 33), defBody (top 33), defScope (top 33), [], []⟩
def D__law_letters_name : He.DefD := ⟨("_law_letters_name", none), "_law_letters_name", "_law_letters_name", defArgs (top 34), defBody (top 34), defScope (top 34), [], []⟩
def D__law_is_between : He.DefD := ⟨("_law_is_between", none), "_law_is_between", "_law_is_between", defArgs (top 35), defBody (top 35), defScope (top 35), [], []⟩
def D__law_moved : He.DefD := ⟨("_law_moved", none), "_law_moved", "_law_moved", defArgs (top 36), defBody (top 36), defScope (top 36), [], []⟩
def D__law_waiting : He.DefD := ⟨("_law_waiting", none), "_law_waiting", "_law_waiting", defArgs (top 37), defBody (top 37), defScope (top 37), [], []⟩
def D__law_settled : He.DefD := ⟨("_law_settled", none), "_law_settled", "_law_settled", defArgs (top 38), defBody (top 38), defScope (top 38), [], []⟩
def D__law_deed : He.DefD := ⟨("_law_deed", none), "_law_deed", "_law_deed", defArgs (top 39), defBody (top 39), defScope (top 39), [], []⟩
def D__law_view : He.DefD := ⟨("_law_view", none), "_law_view", "_law_view", defArgs (top 40), defBody (top 40), defScope (top 40), [], []⟩
def D__law_told_view : He.DefD := ⟨("_law_told_view", none), "_law_told_view", "_law_told_view", defArgs (top 41), defBody (top 41), defScope (top 41), [], []⟩
def D__law_change : He.DefD := ⟨("_law_change", none), "_law_change", "_law_change", defArgs (top 44), defBody (top 44), defScope (top 44), [], []⟩
def D__law_loads : He.DefD := ⟨("_law_loads", none), "_law_loads", "_law_loads", defArgs (top 45), defBody (top 45), defScope (top 45), [], []⟩
def D__law_settle_right : He.DefD := ⟨("_law_settle_right", none), "_law_settle_right", "_law_settle_right", defArgs (top 47), defBody (top 47), defScope (top 47), [], []⟩
def D_Desk_settle : He.DefD := ⟨("Desk", some "settle"), "settle", "Desk.settle", defArgs (mth 27 14), defBody (mth 27 14), defScope (mth 27 14), [], []⟩
def D__law_done : He.DefD := ⟨("_law_done", none), "_law_done", "_law_done", defArgs (top 42), defBody (top 42), defScope (top 42), [], []⟩
def D__law_step : He.DefD := ⟨("_law_step", none), "_law_step", "_law_step", defArgs (top 43), defBody (top 43), defScope (top 43), [], []⟩
def D__law_desk_right : He.DefD := ⟨("_law_desk_right", none), "_law_desk_right", "_law_desk_right", defArgs (top 46), defBody (top 46), defScope (top 46), [], []⟩
def D_law : He.DefD := ⟨("law", none), "law", "law", defArgs (top 48), defBody (top 48), defScope (top 48), [], []⟩
def D_TooMany___init__ : He.DefD := ⟨("TooMany", some "__init__"), "__init__", "TooMany.__init__", defArgs (mth 6 0), defBody (mth 6 0), defScope (mth 6 0), [], []⟩
def D_InvalidName___init__ : He.DefD := ⟨("InvalidName", some "__init__"), "__init__", "InvalidName.__init__", defArgs (mth 5 0), defBody (mth 5 0), defScope (mth 5 0), [], []⟩
def D_NotGiven___init__ : He.DefD := ⟨("NotGiven", some "__init__"), "__init__", "NotGiven.__init__", defArgs (mth 9 0), defBody (mth 9 0), defScope (mth 9 0), [], []⟩
def D_UnknownName___init__ : He.DefD := ⟨("UnknownName", some "__init__"), "__init__", "UnknownName.__init__", defArgs (mth 11 0), defBody (mth 11 0), defScope (mth 11 0), [], []⟩
def D_InvalidDue___init__ : He.DefD := ⟨("InvalidDue", some "__init__"), "__init__", "InvalidDue.__init__", defArgs (mth 3 0), defBody (mth 3 0), defScope (mth 3 0), [], []⟩
def D_TakenName___init__ : He.DefD := ⟨("TakenName", some "__init__"), "__init__", "TakenName.__init__", defArgs (mth 10 0), defBody (mth 10 0), defScope (mth 10 0), [], []⟩
def D_InvalidLength___init__ : He.DefD := ⟨("InvalidLength", some "__init__"), "__init__", "InvalidLength.__init__", defArgs (mth 4 0), defBody (mth 4 0), defScope (mth 4 0), [], []⟩
def tbl : List Str := [("Desk" : Str), ("ScheduleError" : Str), ("InvalidDue" : Str), ("InvalidLength" : Str), ("InvalidName" : Str), ("TooMany" : Str), ("NoMachines" : Str), ("NotGiven" : Str), ("TakenName" : Str), ("UnknownName" : Str), ("_gone" : Str), ("_done" : Str), ("_state" : Str), ("name" : Str), ("count" : Str), ("given" : Str), ("_change" : Str), ("_check_new" : Str), ("_check_known" : Str), ("_machine_of" : Str), ("job" : Str), ("_check_given" : Str), ("queue" : Str), ("machines" : Str), ("ends" : Str), ("late_jobs" : Str), ("waiting" : Str), ("settle" : Str), ("finish" : Str), ("hurry" : Str), ("call_back" : Str), ("give_out" : Str), ("take_in" : Str), ("close_machine" : Str), ("add_machine" : Str), ("__len__" : Str)]
abbrev gm (K : PySem.W.Frag) : Gm := ⟨K, nmOf tbl, nmOf_inj (by decide +kernel) (by decide +kernel), none, [], [((He.cT K D__law_settled.at_).2, D__law_settled.qual ++ ".<locals>." ++ "<lambda>")]⟩
structure GF (K : PySem.W.Frag) (mg : Str → Option Value) (base : Heap) : Prop where
  b_isinstance : mg "isinstance" = none
  b_int : mg "int" = none
  b_bool : mg "bool" = none
  d_is_integer : ∃ fd, FunD K D_is_integer.name D_is_integer.qual D_is_integer.params D_is_integer.body D_is_integer.scope (D_is_integer.dvs K) (D_is_integer.kws K) (He.fAd K D_is_integer.at_) fd
  g_is_integer : mg "is_integer" = some (.ref (He.ga K "is_integer"))
  d_is_between : ∃ fd, FunD K D_is_between.name D_is_between.qual D_is_between.params D_is_between.body D_is_between.scope (D_is_between.dvs K) (D_is_between.kws K) (He.fAd K D_is_between.at_) fd
  b_str : mg "str" = none
  b_len : mg "len" = none
  s_LETTERS : ∃ t, mg "LETTERS" = some (.str ⟨[97, 98, 99, 100, 101, 102, 103, 104, 105, 106, 107, 108, 109, 110, 111, 112, 113, 114, 115, 116, 117, 118, 119, 120, 121, 122].toArray⟩ t)
  b_all : mg "all" = none
  d_is_letters : ∃ fd, FunD K D_is_letters.name D_is_letters.qual D_is_letters.params D_is_letters.body D_is_letters.scope (D_is_letters.dvs K) (D_is_letters.kws K) (He.fAd K D_is_letters.at_) fd
  i_MOST_LETTERS : ∃ t, mg "MOST_LETTERS" = some (.int 8 t)
  g_is_letters : mg "is_letters" = some (.ref (He.ga K "is_letters"))
  i_LEAST_LETTERS : ∃ t, mg "LEAST_LETTERS" = some (.int 2 t)
  d_is_name : ∃ fd, FunD K D_is_name.name D_is_name.qual D_is_name.params D_is_name.body D_is_name.scope (D_is_name.dvs K) (D_is_name.kws K) (He.fAd K D_is_name.at_) fd
  b_tuple : mg "tuple" = none
  d_without : ∃ fd, FunD K D_without.name D_without.qual D_without.params D_without.body D_without.scope (D_without.dvs K) (D_without.kws K) (He.fAd K D_without.at_) fd
  c_Desk : Cls (gm K).K ((gm K).ad 0)
  n_Desk__gone : NoAttr (gm K).K ((gm K).ad 0) "_gone"
  n_Desk__done : NoAttr (gm K).K ((gm K).ad 0) "_done"
  n_Desk__state : NoAttr (gm K).K ((gm K).ad 0) "_state"
  d_Desk___init__ : ∃ fd, FunD K D_Desk___init__.name D_Desk___init__.qual D_Desk___init__.params D_Desk___init__.body D_Desk___init__.scope (D_Desk___init__.dvs K) (D_Desk___init__.kws K) (He.fAd K D_Desk___init__.at_) fd
  d_Desk___len__ : ∃ fd, FunD K D_Desk___len__.name D_Desk___len__.qual D_Desk___len__.params D_Desk___len__.body D_Desk___len__.scope (D_Desk___len__.dvs K) (D_Desk___len__.kws K) (He.fAd K D_Desk___len__.at_) fd
  d_Desk__change : ∃ fd, FunD K D_Desk__change.name D_Desk__change.qual D_Desk__change.params D_Desk__change.body D_Desk__change.scope (D_Desk__change.dvs K) (D_Desk__change.kws K) (He.fAd K D_Desk__change.at_) fd
  g_is_name : mg "is_name" = some (.ref (He.ga K "is_name"))
  ex_UnknownName : ExA K "UnknownName" "name"
  g_UnknownName : mg "UnknownName" = some (.ref (He.ga K "UnknownName"))
  d_Desk__check_known : ∃ fd, FunD K D_Desk__check_known.name D_Desk__check_known.qual D_Desk__check_known.params D_Desk__check_known.body D_Desk__check_known.scope (D_Desk__check_known.dvs K) (D_Desk__check_known.kws K) (He.fAd K D_Desk__check_known.at_) fd
  ex_TooMany : ExA K "TooMany" "count"
  g_TooMany : mg "TooMany" = some (.ref (He.ga K "TooMany"))
  ex_TakenName : ExA K "TakenName" "name"
  g_TakenName : mg "TakenName" = some (.ref (He.ga K "TakenName"))
  ex_InvalidName : ExA K "InvalidName" "given"
  g_InvalidName : mg "InvalidName" = some (.ref (He.ga K "InvalidName"))
  d_Desk__check_new : ∃ fd, FunD K D_Desk__check_new.name D_Desk__check_new.qual D_Desk__check_new.params D_Desk__check_new.body D_Desk__check_new.scope (D_Desk__check_new.dvs K) (D_Desk__check_new.kws K) (He.fAd K D_Desk__check_new.at_) fd
  d_Desk__machine_of : ∃ fd, FunD K D_Desk__machine_of.name D_Desk__machine_of.qual D_Desk__machine_of.params D_Desk__machine_of.body D_Desk__machine_of.scope (D_Desk__machine_of.dvs K) (D_Desk__machine_of.kws K) (He.fAd K D_Desk__machine_of.at_) fd
  t_Desk__change : Meth K ((gm K).ad 0) "_change" (He.fAd K D_Desk__change.at_)
  ck_Desk : Cls K ((gm K).ad 0)
  t_Desk__check_new : Meth K ((gm K).ad 0) "_check_new" (He.fAd K D_Desk__check_new.at_)
  i_MOST_MACHINES : ∃ t, mg "MOST_MACHINES" = some (.int 5 t)
  d_Desk_add_machine : ∃ fd, FunD K D_Desk_add_machine.name D_Desk_add_machine.qual D_Desk_add_machine.params D_Desk_add_machine.body D_Desk_add_machine.scope (D_Desk_add_machine.dvs K) (D_Desk_add_machine.kws K) (He.fAd K D_Desk_add_machine.at_) fd
  t_Desk__check_known : Meth K ((gm K).ad 0) "_check_known" (He.fAd K D_Desk__check_known.at_)
  d_Desk_close_machine : ∃ fd, FunD K D_Desk_close_machine.name D_Desk_close_machine.qual D_Desk_close_machine.params D_Desk_close_machine.body D_Desk_close_machine.scope (D_Desk_close_machine.dvs K) (D_Desk_close_machine.kws K) (He.fAd K D_Desk_close_machine.at_) fd
  i_MOST_TIME : ∃ t, mg "MOST_TIME" = some (.int 600 t)
  g_is_between : mg "is_between" = some (.ref (He.ga K "is_between"))
  ex_InvalidDue : ExA K "InvalidDue" "given"
  g_InvalidDue : mg "InvalidDue" = some (.ref (He.ga K "InvalidDue"))
  i_MOST_LENGTH : ∃ t, mg "MOST_LENGTH" = some (.int 60 t)
  ex_InvalidLength : ExA K "InvalidLength" "given"
  g_InvalidLength : mg "InvalidLength" = some (.ref (He.ga K "InvalidLength"))
  i_MOST_JOBS : ∃ t, mg "MOST_JOBS" = some (.int 20 t)
  d_Desk_take_in : ∃ fd, FunD K D_Desk_take_in.name D_Desk_take_in.qual D_Desk_take_in.params D_Desk_take_in.body D_Desk_take_in.scope (D_Desk_take_in.dvs K) (D_Desk_take_in.kws K) (He.fAd K D_Desk_take_in.at_) fd
  g_without : mg "without" = some (.ref (He.ga K "without"))
  d_Desk_give_out : ∃ fd, FunD K D_Desk_give_out.name D_Desk_give_out.qual D_Desk_give_out.params D_Desk_give_out.body D_Desk_give_out.scope (D_Desk_give_out.dvs K) (D_Desk_give_out.kws K) (He.fAd K D_Desk_give_out.at_) fd
  t_Desk__machine_of : Meth K ((gm K).ad 0) "_machine_of" (He.fAd K D_Desk__machine_of.at_)
  ex_NotGiven : ExA K "NotGiven" "job"
  g_NotGiven : mg "NotGiven" = some (.ref (He.ga K "NotGiven"))
  d_Desk__check_given : ∃ fd, FunD K D_Desk__check_given.name D_Desk__check_given.qual D_Desk__check_given.params D_Desk__check_given.body D_Desk__check_given.scope (D_Desk__check_given.dvs K) (D_Desk__check_given.kws K) (He.fAd K D_Desk__check_given.at_) fd
  t_Desk__check_given : Meth K ((gm K).ad 0) "_check_given" (He.fAd K D_Desk__check_given.at_)
  d_Desk_call_back : ∃ fd, FunD K D_Desk_call_back.name D_Desk_call_back.qual D_Desk_call_back.params D_Desk_call_back.body D_Desk_call_back.scope (D_Desk_call_back.dvs K) (D_Desk_call_back.kws K) (He.fAd K D_Desk_call_back.at_) fd
  d_Desk_hurry : ∃ fd, FunD K D_Desk_hurry.name D_Desk_hurry.qual D_Desk_hurry.params D_Desk_hurry.body D_Desk_hurry.scope (D_Desk_hurry.dvs K) (D_Desk_hurry.kws K) (He.fAd K D_Desk_hurry.at_) fd
  d_Desk_finish : ∃ fd, FunD K D_Desk_finish.name D_Desk_finish.qual D_Desk_finish.params D_Desk_finish.body D_Desk_finish.scope (D_Desk_finish.dvs K) (D_Desk_finish.kws K) (He.fAd K D_Desk_finish.at_) fd
  b_min : mg "min" = none
  b_sum : mg "sum" = none
  ex_NoMachines : ExN K "NoMachines"
  g_NoMachines : mg "NoMachines" = some (.ref (He.ga K "NoMachines"))
  b_list : mg "list" = none
  b_sorted : mg "sorted" = none
  d_Desk_machines : ∃ fd, FunD K D_Desk_machines.name D_Desk_machines.qual D_Desk_machines.params D_Desk_machines.body D_Desk_machines.scope (D_Desk_machines.dvs K) (D_Desk_machines.kws K) (He.fAd K D_Desk_machines.at_) fd
  d_Desk_waiting : ∃ fd, FunD K D_Desk_waiting.name D_Desk_waiting.qual D_Desk_waiting.params D_Desk_waiting.body D_Desk_waiting.scope (D_Desk_waiting.dvs K) (D_Desk_waiting.kws K) (He.fAd K D_Desk_waiting.at_) fd
  d_Desk_queue : ∃ fd, FunD K D_Desk_queue.name D_Desk_queue.qual D_Desk_queue.params D_Desk_queue.body D_Desk_queue.scope (D_Desk_queue.dvs K) (D_Desk_queue.kws K) (He.fAd K D_Desk_queue.at_) fd
  t_Desk_queue : Meth K ((gm K).ad 0) "queue" (He.fAd K D_Desk_queue.at_)
  d_Desk_ends : ∃ fd, FunD K D_Desk_ends.name D_Desk_ends.qual D_Desk_ends.params D_Desk_ends.body D_Desk_ends.scope (D_Desk_ends.dvs K) (D_Desk_ends.kws K) (He.fAd K D_Desk_ends.at_) fd
  t_Desk_machines : Meth K ((gm K).ad 0) "machines" (He.fAd K D_Desk_machines.at_)
  t_Desk_ends : Meth K ((gm K).ad 0) "ends" (He.fAd K D_Desk_ends.at_)
  d_Desk_late_jobs : ∃ fd, FunD K D_Desk_late_jobs.name D_Desk_late_jobs.qual D_Desk_late_jobs.params D_Desk_late_jobs.body D_Desk_late_jobs.scope (D_Desk_late_jobs.dvs K) (D_Desk_late_jobs.kws K) (He.fAd K D_Desk_late_jobs.at_) fd
  d__law_cell : ∃ fd, FunD K D__law_cell.name D__law_cell.qual D__law_cell.params D__law_cell.body D__law_cell.scope (D__law_cell.dvs K) (D__law_cell.kws K) (He.fAd K D__law_cell.at_) fd
  b_abs : mg "abs" = none
  d__law_box : ∃ fd, FunD K D__law_box.name D__law_box.qual D__law_box.params D__law_box.body D__law_box.scope (D__law_box.dvs K) (D__law_box.kws K) (He.fAd K D__law_box.at_) fd
  d__law_take : ∃ fd, FunD K D__law_take.name D__law_take.qual D__law_take.params D__law_take.body D__law_take.scope (D__law_take.dvs K) (D__law_take.kws K) (He.fAd K D__law_take.at_) fd
  b_range : mg "range" = none
  g__law_same : mg "_law_same" = some (.ref (He.ga K "_law_same"))
  b_dict : mg "dict" = none
  d__law_same : ∃ fd, FunD K D__law_same.name D__law_same.qual D__law_same.params D__law_same.body D__law_same.scope (D__law_same.dvs K) (D__law_same.kws K) (He.fAd K D__law_same.at_) fd
  d__law_very : ∃ fd, FunD K D__law_very.name D__law_very.qual D__law_very.params D__law_very.body D__law_very.scope (D__law_very.dvs K) (D__law_very.kws K) (He.fAd K D__law_very.at_) fd
  d__law_letters_name : ∃ fd, FunD K D__law_letters_name.name D__law_letters_name.qual D__law_letters_name.params D__law_letters_name.body D__law_letters_name.scope (D__law_letters_name.dvs K) (D__law_letters_name.kws K) (He.fAd K D__law_letters_name.at_) fd
  d__law_is_between : ∃ fd, FunD K D__law_is_between.name D__law_is_between.qual D__law_is_between.params D__law_is_between.body D__law_is_between.scope (D__law_is_between.dvs K) (D__law_is_between.kws K) (He.fAd K D__law_is_between.at_) fd
  d__law_moved : ∃ fd, FunD K D__law_moved.name D__law_moved.qual D__law_moved.params D__law_moved.body D__law_moved.scope (D__law_moved.dvs K) (D__law_moved.kws K) (He.fAd K D__law_moved.at_) fd
  d__law_waiting : ∃ fd, FunD K D__law_waiting.name D__law_waiting.qual D__law_waiting.params D__law_waiting.body D__law_waiting.scope (D__law_waiting.dvs K) (D__law_waiting.kws K) (He.fAd K D__law_waiting.at_) fd
  g__law_waiting : mg "_law_waiting" = some (.ref (He.ga K "_law_waiting"))
  tb__law_settled : LamX.TabB base mg (He.cT K D__law_settled.at_).1 (He.cT K D__law_settled.at_).2
  g__law_moved : mg "_law_moved" = some (.ref (He.ga K "_law_moved"))
  d__law_settled : ∃ fd, FunD K D__law_settled.name D__law_settled.qual D__law_settled.params D__law_settled.body D__law_settled.scope (D__law_settled.dvs K) (D__law_settled.kws K) (He.fAd K D__law_settled.at_) fd
  g__law_settled : mg "_law_settled" = some (.ref (He.ga K "_law_settled"))
  g__law_is_between : mg "_law_is_between" = some (.ref (He.ga K "_law_is_between"))
  g__law_letters_name : mg "_law_letters_name" = some (.ref (He.ga K "_law_letters_name"))
  d__law_deed : ∃ fd, FunD K D__law_deed.name D__law_deed.qual D__law_deed.params D__law_deed.body D__law_deed.scope (D__law_deed.dvs K) (D__law_deed.kws K) (He.fAd K D__law_deed.at_) fd
  d__law_view : ∃ fd, FunD K D__law_view.name D__law_view.qual D__law_view.params D__law_view.body D__law_view.scope (D__law_view.dvs K) (D__law_view.kws K) (He.fAd K D__law_view.at_) fd
  t_Desk_late_jobs : Meth K ((gm K).ad 0) "late_jobs" (He.fAd K D_Desk_late_jobs.at_)
  t_Desk_waiting : Meth K ((gm K).ad 0) "waiting" (He.fAd K D_Desk_waiting.at_)
  d__law_told_view : ∃ fd, FunD K D__law_told_view.name D__law_told_view.qual D__law_told_view.params D__law_told_view.body D__law_told_view.scope (D__law_told_view.dvs K) (D__law_told_view.kws K) (He.fAd K D__law_told_view.at_) fd
  g__law_very : mg "_law_very" = some (.ref (He.ga K "_law_very"))
  g__law_deed : mg "_law_deed" = some (.ref (He.ga K "_law_deed"))
  g__law_take : mg "_law_take" = some (.ref (He.ga K "_law_take"))
  d__law_change : ∃ fd, FunD K D__law_change.name D__law_change.qual D__law_change.params D__law_change.body D__law_change.scope (D__law_change.dvs K) (D__law_change.kws K) (He.fAd K D__law_change.at_) fd
  d__law_loads : ∃ fd, FunD K D__law_loads.name D__law_loads.qual D__law_loads.params D__law_loads.body D__law_loads.scope (D__law_loads.dvs K) (D__law_loads.kws K) (He.fAd K D__law_loads.at_) fd
  b_max : mg "max" = none
  b_zip : mg "zip" = none
  d__law_settle_right : ∃ fd, FunD K D__law_settle_right.name D__law_settle_right.qual D__law_settle_right.params D__law_settle_right.body D__law_settle_right.scope (D__law_settle_right.dvs K) (D__law_settle_right.kws K) (He.fAd K D__law_settle_right.at_) fd
  d_Desk_settle : ∃ fd, FunD K D_Desk_settle.name D_Desk_settle.qual D_Desk_settle.params D_Desk_settle.body D_Desk_settle.scope (D_Desk_settle.dvs K) (D_Desk_settle.kws K) (He.fAd K D_Desk_settle.at_) fd
  t_Desk_settle : Meth K ((gm K).ad 0) "settle" (He.fAd K D_Desk_settle.at_)
  t_Desk_finish : Meth K ((gm K).ad 0) "finish" (He.fAd K D_Desk_finish.at_)
  t_Desk_hurry : Meth K ((gm K).ad 0) "hurry" (He.fAd K D_Desk_hurry.at_)
  t_Desk_call_back : Meth K ((gm K).ad 0) "call_back" (He.fAd K D_Desk_call_back.at_)
  t_Desk_give_out : Meth K ((gm K).ad 0) "give_out" (He.fAd K D_Desk_give_out.at_)
  t_Desk_take_in : Meth K ((gm K).ad 0) "take_in" (He.fAd K D_Desk_take_in.at_)
  t_Desk_close_machine : Meth K ((gm K).ad 0) "close_machine" (He.fAd K D_Desk_close_machine.at_)
  t_Desk_add_machine : Meth K ((gm K).ad 0) "add_machine" (He.fAd K D_Desk_add_machine.at_)
  ki_NoMachines_ScheduleError : PySem.W.kitOne K (.ref (He.ga K "NoMachines")) (.ref (He.ga K "ScheduleError")) = some true
  g_ScheduleError : mg "ScheduleError" = some (.ref (He.ga K "ScheduleError"))
  ki_NotGiven_ScheduleError : PySem.W.kitOne K (.ref (He.ga K "NotGiven")) (.ref (He.ga K "ScheduleError")) = some true
  ki_InvalidDue_ScheduleError : PySem.W.kitOne K (.ref (He.ga K "InvalidDue")) (.ref (He.ga K "ScheduleError")) = some true
  ki_InvalidLength_ScheduleError : PySem.W.kitOne K (.ref (He.ga K "InvalidLength")) (.ref (He.ga K "ScheduleError")) = some true
  ki_TooMany_ScheduleError : PySem.W.kitOne K (.ref (He.ga K "TooMany")) (.ref (He.ga K "ScheduleError")) = some true
  ki_UnknownName_ScheduleError : PySem.W.kitOne K (.ref (He.ga K "UnknownName")) (.ref (He.ga K "ScheduleError")) = some true
  ki_TakenName_ScheduleError : PySem.W.kitOne K (.ref (He.ga K "TakenName")) (.ref (He.ga K "ScheduleError")) = some true
  ki_InvalidName_ScheduleError : PySem.W.kitOne K (.ref (He.ga K "InvalidName")) (.ref (He.ga K "ScheduleError")) = some true
  em : ∀ q ∈ ([2, 3, 4, 5, 6, 7, 8, 9] : List Nat), ∀ c ∈ ([2, 3, 4, 5, 6, 7, 8, 9] : List Nat), PySem.W.exmOne K (.ref ((gm K).ad c)) (.ref ((gm K).ad q)) = some (Nat.beq c q)
  d__law_done : ∃ fd, FunD K D__law_done.name D__law_done.qual D__law_done.params D__law_done.body D__law_done.scope (D__law_done.dvs K) (D__law_done.kws K) (He.fAd K D__law_done.at_) fd
  g__law_done : mg "_law_done" = some (.ref (He.ga K "_law_done"))
  d__law_step : ∃ fd, FunD K D__law_step.name D__law_step.qual D__law_step.params D__law_step.body D__law_step.scope (D__law_step.dvs K) (D__law_step.kws K) (He.fAd K D__law_step.at_) fd
  g__law_settle_right : mg "_law_settle_right" = some (.ref (He.ga K "_law_settle_right"))
  g__law_view : mg "_law_view" = some (.ref (He.ga K "_law_view"))
  t_Desk___len__ : Meth K ((gm K).ad 0) "__len__" (He.fAd K D_Desk___len__.at_)
  g__law_told_view : mg "_law_told_view" = some (.ref (He.ga K "_law_told_view"))
  g__law_step : mg "_law_step" = some (.ref (He.ga K "_law_step"))
  g__law_loads : mg "_law_loads" = some (.ref (He.ga K "_law_loads"))
  g__law_change : mg "_law_change" = some (.ref (He.ga K "_law_change"))
  m_Desk : Mk K ((gm K).ad 0) (He.fAd K D_Desk___init__.at_)
  gc_Desk : mg "Desk" = some (.ref ((gm K).ad 0))
  d__law_desk_right : ∃ fd, FunD K D__law_desk_right.name D__law_desk_right.qual D__law_desk_right.params D__law_desk_right.body D__law_desk_right.scope (D__law_desk_right.dvs K) (D__law_desk_right.kws K) (He.fAd K D__law_desk_right.at_) fd
  g__law_desk_right : mg "_law_desk_right" = some (.ref (He.ga K "_law_desk_right"))
  g__law_cell : mg "_law_cell" = some (.ref (He.ga K "_law_cell"))
  g__law_box : mg "_law_box" = some (.ref (He.ga K "_law_box"))
  d_law : ∃ fd, FunD K D_law.name D_law.qual D_law.params D_law.body D_law.scope (D_law.dvs K) (D_law.kws K) (He.fAd K D_law.at_) fd
  d_TooMany___init__ : ∃ fd, FunD K D_TooMany___init__.name D_TooMany___init__.qual D_TooMany___init__.params D_TooMany___init__.body D_TooMany___init__.scope (D_TooMany___init__.dvs K) (D_TooMany___init__.kws K) (He.fAd K D_TooMany___init__.at_) fd
  d_InvalidName___init__ : ∃ fd, FunD K D_InvalidName___init__.name D_InvalidName___init__.qual D_InvalidName___init__.params D_InvalidName___init__.body D_InvalidName___init__.scope (D_InvalidName___init__.dvs K) (D_InvalidName___init__.kws K) (He.fAd K D_InvalidName___init__.at_) fd
  d_NotGiven___init__ : ∃ fd, FunD K D_NotGiven___init__.name D_NotGiven___init__.qual D_NotGiven___init__.params D_NotGiven___init__.body D_NotGiven___init__.scope (D_NotGiven___init__.dvs K) (D_NotGiven___init__.kws K) (He.fAd K D_NotGiven___init__.at_) fd
  d_UnknownName___init__ : ∃ fd, FunD K D_UnknownName___init__.name D_UnknownName___init__.qual D_UnknownName___init__.params D_UnknownName___init__.body D_UnknownName___init__.scope (D_UnknownName___init__.dvs K) (D_UnknownName___init__.kws K) (He.fAd K D_UnknownName___init__.at_) fd
  d_InvalidDue___init__ : ∃ fd, FunD K D_InvalidDue___init__.name D_InvalidDue___init__.qual D_InvalidDue___init__.params D_InvalidDue___init__.body D_InvalidDue___init__.scope (D_InvalidDue___init__.dvs K) (D_InvalidDue___init__.kws K) (He.fAd K D_InvalidDue___init__.at_) fd
  d_TakenName___init__ : ∃ fd, FunD K D_TakenName___init__.name D_TakenName___init__.qual D_TakenName___init__.params D_TakenName___init__.body D_TakenName___init__.scope (D_TakenName___init__.dvs K) (D_TakenName___init__.kws K) (He.fAd K D_TakenName___init__.at_) fd
  d_InvalidLength___init__ : ∃ fd, FunD K D_InvalidLength___init__.name D_InvalidLength___init__.qual D_InvalidLength___init__.params D_InvalidLength___init__.body D_InvalidLength___init__.scope (D_InvalidLength___init__.dvs K) (D_InvalidLength___init__.kws K) (He.fAd K D_InvalidLength___init__.at_) fd
section
variable {P : Program} {w : World} {K : PySem.W.Frag} {mg : Str → Option Value} {base : Heap}
noncomputable def fdx_TooMany (G : GF K mg base) : FuncData := G.d_TooMany___init__.choose
theorem fx_TooMany (G : GF K mg base) : FnOk P w K mg base (L2.CX P w) 1 (He.fAd K D_TooMany___init__.at_) (fdx_TooMany G) ["self", "count"] (spExI K "count") := exI_ok (p0 := "self") (p1 := "count") (fld := "count") G.d_TooMany___init__.choose_spec ⟨rfl, rfl, rfl, by decide +kernel, rfl, by decide +kernel, by decide +kernel⟩ (by decide) (by decide) (by decide) (by decide) (.inl rfl) (.inl rfl) (fun _ => rfl)
theorem bx_TooMany (G : GF K mg base) : Binds K (fdx_TooMany G) ["self", "count"] [] := FunD.bindsN (ps := ["self", "count"]) G.d_TooMany___init__.choose_spec (fun _ _ _ _ _ _ us h1 => match us, h1 with | [_, _], _ => rfl)
noncomputable def fdx_InvalidName (G : GF K mg base) : FuncData := G.d_InvalidName___init__.choose
theorem fx_InvalidName (G : GF K mg base) : FnOk P w K mg base (L2.CX P w) 1 (He.fAd K D_InvalidName___init__.at_) (fdx_InvalidName G) ["self", "given"] (spExI K "given") := exI_ok (p0 := "self") (p1 := "given") (fld := "given") G.d_InvalidName___init__.choose_spec ⟨rfl, rfl, rfl, by decide +kernel, rfl, by decide +kernel, by decide +kernel⟩ (by decide) (by decide) (by decide) (by decide) (.inl rfl) (.inl rfl) (fun _ => rfl)
theorem bx_InvalidName (G : GF K mg base) : Binds K (fdx_InvalidName G) ["self", "given"] [] := FunD.bindsN (ps := ["self", "given"]) G.d_InvalidName___init__.choose_spec (fun _ _ _ _ _ _ us h1 => match us, h1 with | [_, _], _ => rfl)
noncomputable def fdx_NotGiven (G : GF K mg base) : FuncData := G.d_NotGiven___init__.choose
theorem fx_NotGiven (G : GF K mg base) : FnOk P w K mg base (L2.CX P w) 1 (He.fAd K D_NotGiven___init__.at_) (fdx_NotGiven G) ["self", "job"] (spExI K "job") := exI_ok (p0 := "self") (p1 := "job") (fld := "job") G.d_NotGiven___init__.choose_spec ⟨rfl, rfl, rfl, by decide +kernel, rfl, by decide +kernel, by decide +kernel⟩ (by decide) (by decide) (by decide) (by decide) (.inl rfl) (.inl rfl) (fun _ => rfl)
theorem bx_NotGiven (G : GF K mg base) : Binds K (fdx_NotGiven G) ["self", "job"] [] := FunD.bindsN (ps := ["self", "job"]) G.d_NotGiven___init__.choose_spec (fun _ _ _ _ _ _ us h1 => match us, h1 with | [_, _], _ => rfl)
noncomputable def fdx_UnknownName (G : GF K mg base) : FuncData := G.d_UnknownName___init__.choose
theorem fx_UnknownName (G : GF K mg base) : FnOk P w K mg base (L2.CX P w) 1 (He.fAd K D_UnknownName___init__.at_) (fdx_UnknownName G) ["self", "name"] (spExI K "name") := exI_ok (p0 := "self") (p1 := "name") (fld := "name") G.d_UnknownName___init__.choose_spec ⟨rfl, rfl, rfl, by decide +kernel, rfl, by decide +kernel, by decide +kernel⟩ (by decide) (by decide) (by decide) (by decide) (.inl rfl) (.inl rfl) (fun _ => rfl)
theorem bx_UnknownName (G : GF K mg base) : Binds K (fdx_UnknownName G) ["self", "name"] [] := FunD.bindsN (ps := ["self", "name"]) G.d_UnknownName___init__.choose_spec (fun _ _ _ _ _ _ us h1 => match us, h1 with | [_, _], _ => rfl)
noncomputable def fdx_InvalidDue (G : GF K mg base) : FuncData := G.d_InvalidDue___init__.choose
theorem fx_InvalidDue (G : GF K mg base) : FnOk P w K mg base (L2.CX P w) 1 (He.fAd K D_InvalidDue___init__.at_) (fdx_InvalidDue G) ["self", "given"] (spExI K "given") := exI_ok (p0 := "self") (p1 := "given") (fld := "given") G.d_InvalidDue___init__.choose_spec ⟨rfl, rfl, rfl, by decide +kernel, rfl, by decide +kernel, by decide +kernel⟩ (by decide) (by decide) (by decide) (by decide) (.inl rfl) (.inl rfl) (fun _ => rfl)
theorem bx_InvalidDue (G : GF K mg base) : Binds K (fdx_InvalidDue G) ["self", "given"] [] := FunD.bindsN (ps := ["self", "given"]) G.d_InvalidDue___init__.choose_spec (fun _ _ _ _ _ _ us h1 => match us, h1 with | [_, _], _ => rfl)
noncomputable def fdx_TakenName (G : GF K mg base) : FuncData := G.d_TakenName___init__.choose
theorem fx_TakenName (G : GF K mg base) : FnOk P w K mg base (L2.CX P w) 1 (He.fAd K D_TakenName___init__.at_) (fdx_TakenName G) ["self", "name"] (spExI K "name") := exI_ok (p0 := "self") (p1 := "name") (fld := "name") G.d_TakenName___init__.choose_spec ⟨rfl, rfl, rfl, by decide +kernel, rfl, by decide +kernel, by decide +kernel⟩ (by decide) (by decide) (by decide) (by decide) (.inl rfl) (.inl rfl) (fun _ => rfl)
theorem bx_TakenName (G : GF K mg base) : Binds K (fdx_TakenName G) ["self", "name"] [] := FunD.bindsN (ps := ["self", "name"]) G.d_TakenName___init__.choose_spec (fun _ _ _ _ _ _ us h1 => match us, h1 with | [_, _], _ => rfl)
noncomputable def fdx_InvalidLength (G : GF K mg base) : FuncData := G.d_InvalidLength___init__.choose
theorem fx_InvalidLength (G : GF K mg base) : FnOk P w K mg base (L2.CX P w) 1 (He.fAd K D_InvalidLength___init__.at_) (fdx_InvalidLength G) ["self", "given"] (spExI K "given") := exI_ok (p0 := "self") (p1 := "given") (fld := "given") G.d_InvalidLength___init__.choose_spec ⟨rfl, rfl, rfl, by decide +kernel, rfl, by decide +kernel, by decide +kernel⟩ (by decide) (by decide) (by decide) (by decide) (.inl rfl) (.inl rfl) (fun _ => rfl)
theorem bx_InvalidLength (G : GF K mg base) : Binds K (fdx_InvalidLength G) ["self", "given"] [] := FunD.bindsN (ps := ["self", "given"]) G.d_InvalidLength___init__.choose_spec (fun _ _ _ _ _ _ us h1 => match us, h1 with | [_, _], _ => rfl)
def b_is_integer : SM := sRet (eAnd (eIsi [2] (eVar 0)) (eNot (eIsi [1] (eVar 0))))
def m_is_integer : FM := fnM 1 0 b_is_integer
theorem fn_is_integer (G : GF K mg base) : FnE P w K mg base (gm K) 2 D_is_integer ["value"] m_is_integer := fnE_of (k := 1) (N := ["value"]) (ps := ["value"]) (loc := 0) G.d_is_integer rfl rfl ⟨rfl, rfl, rfl, by decide +kernel, rfl, by decide +kernel, by decide +kernel⟩ rfl (fun h cdv A outer s H E hr => by
  have hr : Room 1 _ := hr
  have hu := hr.units
  have hK : (bodyX P w K mg base D_is_integer ["value"] cdv A outer s H E).K = (gm K).K := rfl
  have hN : (["value"] : List Str).Nodup := by decide +kernel
  have tk := body_takes (P := P) (w := w) (K := K) (mg := mg) (base := base) (d := D_is_integer) (N := ["value"]) (cdv := cdv) (A := A) (outer := outer) (s := s) (H := H) (E := E)
  have pso : PassesOwn (model P w) _ _ _ := passes_of (X := bodyX P w K mg base D_is_integer ["value"] cdv A outer s H E) rfl
  exact (dss_one (ds_ret (de_and hK (de_isi1 (t := 2) hK rfl G.b_isinstance bt_isinstance (by decide) rfl G.b_int bt_int (de_var (i := 0) rfl (.inl rfl))) (de_one (de_not hK (de_isi1 (t := 1) hK rfl G.b_isinstance bt_isinstance (by decide) rfl G.b_bool bt_bool (de_var (i := 0) rfl (.inl rfl)))))))))
def b_is_between : SM := sRet (eAnd (eFn 1 [0] m_is_integer (aCons (eVar 0) (aNil))) (eChain leI leI (eVar 1) (eVar 0) (eVar 2)))
def m_is_between : FM := fnM 3 0 b_is_between
theorem fn_is_between (G : GF K mg base) : FnE P w K mg base (gm K) 3 D_is_between ["value", "least", "most"] m_is_between := fnE_of (k := 2) (N := ["value", "least", "most"]) (ps := ["value", "least", "most"]) (loc := 0) G.d_is_between rfl rfl ⟨rfl, rfl, rfl, by decide +kernel, rfl, by decide +kernel, by decide +kernel⟩ rfl (fun h cdv A outer s H E hr => by
  have hr : Room 2 _ := hr
  have hu := hr.units
  have hK : (bodyX P w K mg base D_is_between ["value", "least", "most"] cdv A outer s H E).K = (gm K).K := rfl
  have hN : (["value", "least", "most"] : List Str).Nodup := by decide +kernel
  have tk := body_takes (P := P) (w := w) (K := K) (mg := mg) (base := base) (d := D_is_between) (N := ["value", "least", "most"]) (cdv := cdv) (A := A) (outer := outer) (s := s) (H := H) (E := E)
  have pso : PassesOwn (model P w) _ _ _ := passes_of (X := bodyX P w K mg base D_is_between ["value", "least", "most"] cdv A outer s H E) rfl
  exact (dss_one (ds_ret (de_and hK (de_fn (np := 1) (ix := [0]) ((fn_is_integer G).mono (by decide)) hr rfl tk (fun _ _ _ _ _ _ us ws h1 h2 => match us, ws, h1, h2 with | [_], [], _, _ => rfl) rfl G.g_is_integer (da_cons (de_var (i := 0) rfl (.inl rfl)) da_nil)) (de_one (de_chain m_leI m_leI (de_var (i := 1) rfl (.inl rfl)) (de_var (i := 0) rfl (.inl rfl)) (de_var (i := 2) rfl (.inl rfl)) (by wtm_at "mk")))))))
def b_is_letters : SM := sRet (eAnd (eIsi [3] (eVar 0)) (eAnd (eChain leI leI (eC (.int 1)) (eCall cLen (aCons (eVar 0) (aNil))) (eVar 1)) (eCall (cBls allB) (aCons (eLc true (iAny (eVar 0)) (gN 2) (tYes') (eBin inA (eVar 2) (eC (.str [97, 98, 99, 100, 101, 102, 103, 104, 105, 106, 107, 108, 109, 110, 111, 112, 113, 114, 115, 116, 117, 118, 119, 120, 121, 122]))) [2]) (aNil)))))
def m_is_letters : FM := fnM 2 1 b_is_letters
theorem fn_is_letters (G : GF K mg base) : FnE P w K mg base (gm K) 2 D_is_letters ["value", "most"] m_is_letters := fnE_of (k := 1) (N := ["value", "most", "sign"]) (ps := ["value", "most"]) (loc := 1) G.d_is_letters rfl rfl ⟨rfl, rfl, rfl, by decide +kernel, rfl, by decide +kernel, by decide +kernel⟩ rfl (fun h cdv A outer s H E hr => by
  have hr : Room 1 _ := hr
  have hu := hr.units
  have hK : (bodyX P w K mg base D_is_letters ["value", "most", "sign"] cdv A outer s H E).K = (gm K).K := rfl
  have hN : (["value", "most", "sign"] : List Str).Nodup := by decide +kernel
  have tk := body_takes (P := P) (w := w) (K := K) (mg := mg) (base := base) (d := D_is_letters) (N := ["value", "most", "sign"]) (cdv := cdv) (A := A) (outer := outer) (s := s) (H := H) (E := E)
  have pso : PassesOwn (model P w) _ _ _ := passes_of (X := bodyX P w K mg base D_is_letters ["value", "most", "sign"] cdv A outer s H E) rfl
  exact (dss_one (ds_ret (de_and hK (de_isi1 (t := 3) hK rfl G.b_isinstance bt_isinstance (by decide) rfl G.b_str bt_str (de_var (i := 0) rfl (.inl rfl))) (de_and hK (de_chain m_leI m_leI de_int (de_callB (c_len hK) rfl G.b_len bt_len (da_cons (de_var (i := 0) rfl (.inl rfl)) da_nil)) (de_var (i := 1) rfl (.inl rfl)) (by wtm_at "mk")) (de_one (de_callB (c_all hK rfl) rfl G.b_all bt_all (da_cons (de_lc (fz := true) rfl hN (di_any hK (de_var (i := 0) rfl (.inl rfl))) (own := [("sign", 2)]) (blkOk_by rfl) (fun _ _ _ _ _ _ => (dw_name (i := 2) (by decide) hN rfl (.inl rfl))) (fun _ _ _ _ _ _ => dts_nil) (fun _ _ _ _ _ _ => (de_cmp (m_in hK hu) (de_var (i := 2) rfl (.inl rfl)) (de_gstr (z := [97, 98, 99, 100, 101, 102, 103, 104, 105, 106, 107, 108, 109, 110, 111, 112, 113, 114, 115, 116, 117, 118, 119, 120, 121, 122]) rfl G.s_LETTERS) (by wtm_at "mk")))) da_nil))))))))
def b_is_name : SM := sRet (eAnd (eFn 2 [0, 1] m_is_letters (aCons (eVar 0) (aCons (eC (.int 8)) (aNil)))) (eBin geI (eCall cLen (aCons (eVar 0) (aNil))) (eC (.int 2))))
def m_is_name : FM := fnM 1 0 b_is_name
theorem fn_is_name (G : GF K mg base) : FnE P w K mg base (gm K) 3 D_is_name ["value"] m_is_name := fnE_of (k := 2) (N := ["value"]) (ps := ["value"]) (loc := 0) G.d_is_name rfl rfl ⟨rfl, rfl, rfl, by decide +kernel, rfl, by decide +kernel, by decide +kernel⟩ rfl (fun h cdv A outer s H E hr => by
  have hr : Room 2 _ := hr
  have hu := hr.units
  have hK : (bodyX P w K mg base D_is_name ["value"] cdv A outer s H E).K = (gm K).K := rfl
  have hN : (["value"] : List Str).Nodup := by decide +kernel
  have tk := body_takes (P := P) (w := w) (K := K) (mg := mg) (base := base) (d := D_is_name) (N := ["value"]) (cdv := cdv) (A := A) (outer := outer) (s := s) (H := H) (E := E)
  have pso : PassesOwn (model P w) _ _ _ := passes_of (X := bodyX P w K mg base D_is_name ["value"] cdv A outer s H E) rfl
  exact (dss_one (ds_ret (de_and hK (de_fn (np := 2) (ix := [0, 1]) ((fn_is_letters G).mono (by decide)) hr rfl tk (fun _ _ _ _ _ _ us ws h1 h2 => match us, ws, h1, h2 with | [_, _], [], _, _ => rfl) rfl G.g_is_letters (da_cons (de_var (i := 0) rfl (.inl rfl)) (da_cons (de_gint rfl G.i_MOST_LETTERS) da_nil))) (de_one (de_cmp m_geI (de_callB (c_len hK) rfl G.b_len bt_len (da_cons (de_var (i := 0) rfl (.inl rfl)) da_nil)) (de_gint rfl G.i_LEAST_LETTERS) (by wtm_at "mk")))))))
def b_without : SM := sRet (eFrz (eDc (iItm (eVar 0)) (gSeq 2 (gCons' (gN 2) (gCons' (gN 3) (gNil')))) (tYes') (eVar 2) (eCall cTuple (aCons (eLc true (iAny (eVar 3)) (gN 4) (tB' (eBin neA (eVar 4) (eVar 1))) (eVar 4) [4]) (aNil))) [2, 3]))
def m_without : FM := fnM 2 3 b_without
theorem fn_without (G : GF K mg base) : FnE P w K mg base (gm K) 2 D_without ["queues", "job"] m_without := fnE_of (k := 1) (N := ["queues", "job", "machine", "queue", "other"]) (ps := ["queues", "job"]) (loc := 3) G.d_without rfl rfl ⟨rfl, rfl, rfl, by decide +kernel, rfl, by decide +kernel, by decide +kernel⟩ rfl (fun h cdv A outer s H E hr => by
  have hr : Room 1 _ := hr
  have hu := hr.units
  have hK : (bodyX P w K mg base D_without ["queues", "job", "machine", "queue", "other"] cdv A outer s H E).K = (gm K).K := rfl
  have hN : (["queues", "job", "machine", "queue", "other"] : List Str).Nodup := by decide +kernel
  have tk := body_takes (P := P) (w := w) (K := K) (mg := mg) (base := base) (d := D_without) (N := ["queues", "job", "machine", "queue", "other"]) (cdv := cdv) (A := A) (outer := outer) (s := s) (H := H) (E := E)
  have pso : PassesOwn (model P w) _ _ _ := passes_of (X := bodyX P w K mg base D_without ["queues", "job", "machine", "queue", "other"] cdv A outer s H E) rfl
  exact (dss_one (ds_ret (de_frz (de_dc rfl hN (di_items (de_var (i := 0) rfl (.inl rfl))) (own := [("machine", 2), ("queue", 3)]) (blkOk_by rfl) (fun _ _ _ _ _ _ => (dw_seq (n := 2) hK rfl (dws_cons (dw_name (i := 2) (by decide) hN rfl (.inl rfl)) (dws_cons (dw_name (i := 3) (by decide) hN rfl (.inl rfl)) dws_nil)))) (fun _ _ _ _ _ _ => dts_nil) (fun _ _ _ _ _ _ => (de_var (i := 2) rfl (.inl rfl))) (fun _ _ _ _ _ _ => (de_callTy (c_tuple hK) rfl G.b_tuple bt_tuple (da_cons (de_lc (fz := true) rfl hN (di_any hK (de_var (i := 3) rfl (.inl rfl))) (own := [("other", 4)]) (blkOk_by rfl) (fun _ _ _ _ _ _ => (dw_name (i := 4) (by decide) hN rfl (.inl rfl))) (fun _ _ _ _ _ _ => (dts_one (dt_cmp (m_ne hK hu) (de_var (i := 4) rfl (.inl rfl)) (de_var (i := 1) rfl (.inr (.inl rfl))) (by wtm_at "mk")))) (fun _ _ _ _ _ _ => (de_var (i := 4) rfl (.inl rfl)))) da_nil))))))))
def b_Desk___init__ : SM := sSeq (sAttr [0] 12 (eVar 0) (eTup (aCons (eFrz (eDNew)) (aCons (eFrz (eDNew)) (aNil))))) (sSeq (sAttr [0] 11 (eVar 0) (eTup (aNil))) (sAttr [0] 10 (eVar 0) (eTup (aNil))))
def m_Desk___init__ : FM := fnM 1 0 b_Desk___init__
theorem fn_Desk___init__ (G : GF K mg base) : FnE P w K mg base (gm K) 2 D_Desk___init__ ["self"] m_Desk___init__ := fnE_of (k := 1) (N := ["self"]) (ps := ["self"]) (loc := 0) G.d_Desk___init__ rfl rfl ⟨rfl, rfl, rfl, by decide +kernel, rfl, by decide +kernel, by decide +kernel⟩ rfl (fun h cdv A outer s H E hr => by
  have hr : Room 1 _ := hr
  have hu := hr.units
  have hK : (bodyX P w K mg base D_Desk___init__ ["self"] cdv A outer s H E).K = (gm K).K := rfl
  have hN : (["self"] : List Str).Nodup := by decide +kernel
  have tk := body_takes (P := P) (w := w) (K := K) (mg := mg) (base := base) (d := D_Desk___init__) (N := ["self"]) (cdv := cdv) (A := A) (outer := outer) (s := s) (H := H) (E := E)
  have pso : PassesOwn (model P w) _ _ _ := passes_of (X := bodyX P w K mg base D_Desk___init__ ["self"] cdv A outer s H E) rfl
  exact (dss_cons (ds_attr1 (c := 0) (f := 12) rfl hK G.c_Desk G.n_Desk__state (de_var (i := 0) rfl (.inl rfl)) (de_tup (da_cons (de_frz de_dnew) (da_cons (de_frz de_dnew) da_nil)))) (dss_cons (ds_attr1 (c := 0) (f := 11) rfl hK G.c_Desk G.n_Desk__done (de_var (i := 0) rfl (.inl rfl)) (de_tup da_nil)) (dss_one (ds_attr1 (c := 0) (f := 10) rfl hK G.c_Desk G.n_Desk__gone (de_var (i := 0) rfl (.inl rfl)) (de_tup da_nil))))))
def b_Desk___len__ : SM := sRet (eCall cLen (aCons (eAttr [0] 11 (eVar 0)) (aNil)))
def m_Desk___len__ : FM := fnM 1 0 b_Desk___len__
theorem fn_Desk___len__ (G : GF K mg base) : FnE P w K mg base (gm K) 2 D_Desk___len__ ["self"] m_Desk___len__ := fnE_of (k := 1) (N := ["self"]) (ps := ["self"]) (loc := 0) G.d_Desk___len__ rfl rfl ⟨rfl, rfl, rfl, by decide +kernel, rfl, by decide +kernel, by decide +kernel⟩ rfl (fun h cdv A outer s H E hr => by
  have hr : Room 1 _ := hr
  have hu := hr.units
  have hK : (bodyX P w K mg base D_Desk___len__ ["self"] cdv A outer s H E).K = (gm K).K := rfl
  have hN : (["self"] : List Str).Nodup := by decide +kernel
  have tk := body_takes (P := P) (w := w) (K := K) (mg := mg) (base := base) (d := D_Desk___len__) (N := ["self"]) (cdv := cdv) (A := A) (outer := outer) (s := s) (H := H) (E := E)
  have pso : PassesOwn (model P w) _ _ _ := passes_of (X := bodyX P w K mg base D_Desk___len__ ["self"] cdv A outer s H E) rfl
  exact (dss_one (ds_ret (de_callB (c_len hK) rfl G.b_len bt_len (da_cons (de_attr1 (c := 0) (f := 11) rfl hK G.c_Desk G.n_Desk__done (de_var (i := 0) rfl (.inl rfl))) da_nil)))))
def b_Desk__change : SM := sSeq (sAttr [0] 11 (eVar 0) (eTup (aStar (eAttr [0] 11 (eVar 0)) (aCons (eAttr [0] 12 (eVar 0)) (aNil))))) (sSeq (sAttr [0] 10 (eVar 0) (eTup (aNil))) (sAttr [0] 12 (eVar 0) (eTup (aCons (eVar 1) (aCons (eVar 2) (aNil))))))
def m_Desk__change : FM := fnM 3 0 b_Desk__change
theorem fn_Desk__change (G : GF K mg base) : FnE P w K mg base (gm K) 2 D_Desk__change ["self", "queues", "jobs"] m_Desk__change := fnE_of (k := 1) (N := ["self", "queues", "jobs"]) (ps := ["self", "queues", "jobs"]) (loc := 0) G.d_Desk__change rfl rfl ⟨rfl, rfl, rfl, by decide +kernel, rfl, by decide +kernel, by decide +kernel⟩ rfl (fun h cdv A outer s H E hr => by
  have hr : Room 1 _ := hr
  have hu := hr.units
  have hK : (bodyX P w K mg base D_Desk__change ["self", "queues", "jobs"] cdv A outer s H E).K = (gm K).K := rfl
  have hN : (["self", "queues", "jobs"] : List Str).Nodup := by decide +kernel
  have tk := body_takes (P := P) (w := w) (K := K) (mg := mg) (base := base) (d := D_Desk__change) (N := ["self", "queues", "jobs"]) (cdv := cdv) (A := A) (outer := outer) (s := s) (H := H) (E := E)
  have pso : PassesOwn (model P w) _ _ _ := passes_of (X := bodyX P w K mg base D_Desk__change ["self", "queues", "jobs"] cdv A outer s H E) rfl
  exact (dss_cons (ds_attr1 (c := 0) (f := 11) rfl hK G.c_Desk G.n_Desk__done (de_var (i := 0) rfl (.inl rfl)) (de_tup (da_star hK (de_attr1 (c := 0) (f := 11) rfl hK G.c_Desk G.n_Desk__done (de_var (i := 0) rfl (.inl rfl))) (da_cons (de_attr1 (c := 0) (f := 12) rfl hK G.c_Desk G.n_Desk__state (de_var (i := 0) rfl (.inl rfl))) da_nil)))) (dss_cons (ds_attr1 (c := 0) (f := 10) rfl hK G.c_Desk G.n_Desk__gone (de_var (i := 0) rfl (.inl rfl)) (de_tup da_nil)) (dss_one (ds_attr1 (c := 0) (f := 12) rfl hK G.c_Desk G.n_Desk__state (de_var (i := 0) rfl (.inl rfl)) (de_tup (da_cons (de_var (i := 1) rfl (.inl rfl)) (da_cons (de_var (i := 2) rfl (.inl rfl)) da_nil))))))))
def b_Desk__check_known : SM := sIf (tOr (tNot (tTru (eFn 1 [0] m_is_name (aCons (eVar 1) (aNil))))) (tB' (eBin niA (eVar 1) (eVar 2)))) (sRaise1 9 13 (eVar 1)) (sNil)
def m_Desk__check_known : FM := fnM 3 0 b_Desk__check_known
theorem fn_Desk__check_known (G : GF K mg base) : FnE P w K mg base (gm K) 4 D_Desk__check_known ["self", "name", "rows"] m_Desk__check_known := fnE_of (k := 3) (N := ["self", "name", "rows"]) (ps := ["self", "name", "rows"]) (loc := 0) G.d_Desk__check_known rfl rfl ⟨rfl, rfl, rfl, by decide +kernel, rfl, by decide +kernel, by decide +kernel⟩ rfl (fun h cdv A outer s H E hr => by
  have hr : Room 3 _ := hr
  have hu := hr.units
  have hK : (bodyX P w K mg base D_Desk__check_known ["self", "name", "rows"] cdv A outer s H E).K = (gm K).K := rfl
  have hN : (["self", "name", "rows"] : List Str).Nodup := by decide +kernel
  have tk := body_takes (P := P) (w := w) (K := K) (mg := mg) (base := base) (d := D_Desk__check_known) (N := ["self", "name", "rows"]) (cdv := cdv) (A := A) (outer := outer) (s := s) (H := H) (E := E)
  have pso : PassesOwn (model P w) _ _ _ := passes_of (X := bodyX P w K mg base D_Desk__check_known ["self", "name", "rows"] cdv A outer s H E) rfl
  have hr1 : Room (2 + 1) _ := hr
  exact (dss_one (ds_if (dt_w (dw_or (dt_not (dt_tru hK (de_fn (np := 1) (ix := [0]) ((fn_is_name G).mono (by decide)) hr rfl tk (fun _ _ _ _ _ _ us ws h1 h2 => match us, ws, h1, h2 with | [_], [], _, _ => rfl) rfl G.g_is_name (da_cons (de_var (i := 1) rfl (.inl rfl)) da_nil)))) (dw_or1 (dt_cmp (m_ni hK hu) (de_var (i := 1) rfl (.inl rfl)) (de_var (i := 2) rfl (.inl rfl)) (by wtm_at "mk"))))) (dss_one (ds_raise1 (c := 9) (f := 13) rfl tk G.ex_UnknownName.o G.ex_UnknownName.i G.ex_UnknownName.t ((fx_UnknownName G).mono (by decide)) hr1 (bx_UnknownName G) G.ex_UnknownName.n rfl rfl G.g_UnknownName (de_var (i := 1) rfl (.inl rfl)))) dss_nil)))
def b_Desk__check_new : SM := sSeq (sIf (tNot (tTru (eFn 1 [0] m_is_name (aCons (eVar 1) (aNil))))) (sRaise1 4 15 (eVar 1)) (sNil)) (sSeq (sIf (tOr (tB' (eBin inA (eVar 1) (eBin fIx (eAttr [0] 12 (eVar 0)) (eC (.int 0))))) (tB' (eBin inA (eVar 1) (eBin fIx (eAttr [0] 12 (eVar 0)) (eC (.int 1)))))) (sRaise1 8 13 (eVar 1)) (sNil)) (sIf (tB' (eBin eqA (eCall cLen (aCons (eVar 2) (aNil))) (eVar 3))) (sRaise1 5 14 (eBin (addA true) (eVar 3) (eC (.int 1)))) (sNil)))
def m_Desk__check_new : FM := fnM 4 0 b_Desk__check_new
theorem fn_Desk__check_new (G : GF K mg base) : FnE P w K mg base (gm K) 4 D_Desk__check_new ["self", "name", "rows", "most"] m_Desk__check_new := fnE_of (k := 3) (N := ["self", "name", "rows", "most"]) (ps := ["self", "name", "rows", "most"]) (loc := 0) G.d_Desk__check_new rfl rfl ⟨rfl, rfl, rfl, by decide +kernel, rfl, by decide +kernel, by decide +kernel⟩ rfl (fun h cdv A outer s H E hr => by
  have hr : Room 3 _ := hr
  have hu := hr.units
  have hK : (bodyX P w K mg base D_Desk__check_new ["self", "name", "rows", "most"] cdv A outer s H E).K = (gm K).K := rfl
  have hN : (["self", "name", "rows", "most"] : List Str).Nodup := by decide +kernel
  have tk := body_takes (P := P) (w := w) (K := K) (mg := mg) (base := base) (d := D_Desk__check_new) (N := ["self", "name", "rows", "most"]) (cdv := cdv) (A := A) (outer := outer) (s := s) (H := H) (E := E)
  have pso : PassesOwn (model P w) _ _ _ := passes_of (X := bodyX P w K mg base D_Desk__check_new ["self", "name", "rows", "most"] cdv A outer s H E) rfl
  have hr1 : Room (2 + 1) _ := hr
  exact (dss_cons (ds_if (dt_not (dt_tru hK (de_fn (np := 1) (ix := [0]) ((fn_is_name G).mono (by decide)) hr rfl tk (fun _ _ _ _ _ _ us ws h1 h2 => match us, ws, h1, h2 with | [_], [], _, _ => rfl) rfl G.g_is_name (da_cons (de_var (i := 1) rfl (.inl rfl)) da_nil)))) (dss_one (ds_raise1 (c := 4) (f := 15) rfl tk G.ex_InvalidName.o G.ex_InvalidName.i G.ex_InvalidName.t ((fx_InvalidName G).mono (by decide)) hr1 (bx_InvalidName G) G.ex_InvalidName.n rfl rfl G.g_InvalidName (de_var (i := 1) rfl (.inl rfl)))) dss_nil) (dss_cons (ds_if (dt_w (dw_or (dt_cmp (m_in hK hu) (de_var (i := 1) rfl (.inl rfl)) (de_ix hK (u1_of hu) (de_attr1 (c := 0) (f := 12) rfl hK G.c_Desk G.n_Desk__state (de_var (i := 0) rfl (.inl rfl))) de_int (fun _ _ => rfl)) (by wtm_at "mk")) (dw_or1 (dt_cmp (m_in hK hu) (de_var (i := 1) rfl (.inl rfl)) (de_ix hK (u1_of hu) (de_attr1 (c := 0) (f := 12) rfl hK G.c_Desk G.n_Desk__state (de_var (i := 0) rfl (.inl rfl))) de_int (fun _ _ => rfl)) (by wtm_at "mk"))))) (dss_one (ds_raise1 (c := 8) (f := 13) rfl tk G.ex_TakenName.o G.ex_TakenName.i G.ex_TakenName.t ((fx_TakenName G).mono (by decide)) hr1 (bx_TakenName G) G.ex_TakenName.n rfl rfl G.g_TakenName (de_var (i := 1) rfl (.inl rfl)))) dss_nil) (dss_one (ds_if (dt_cmp (m_eq hK hu) (de_callB (c_len hK) rfl G.b_len bt_len (da_cons (de_var (i := 2) rfl (.inl rfl)) da_nil)) (de_var (i := 3) rfl (.inl rfl)) (by wtm_at "mk")) (dss_one (ds_raise1 (c := 5) (f := 14) rfl tk G.ex_TooMany.o G.ex_TooMany.i G.ex_TooMany.t ((fx_TooMany G).mono (by decide)) hr1 (bx_TooMany G) G.ex_TooMany.n rfl rfl G.g_TooMany (de_bin (m_add (fz := true) hK) (de_var (i := 3) rfl (.inl rfl)) de_int))) dss_nil)))))
def b_Desk__machine_of : SM := sSeq (sSet 2 (eLc true (iItm (eBin fIx (eAttr [0] 12 (eVar 0)) (eC (.int 0)))) (gSeq 2 (gCons' (gN 3) (gCons' (gN 4) (gNil')))) (tB' (eBin inA (eVar 1) (eVar 4))) (eVar 3) [3, 4])) (sRet (eIf (tB' (eBin neA (eVar 2) (eLst true (aNil)))) (eBin fIx (eVar 2) (eC (.int 0))) (eC .non)))
def m_Desk__machine_of : FM := fnM 2 3 b_Desk__machine_of
theorem fn_Desk__machine_of (G : GF K mg base) : FnE P w K mg base (gm K) 2 D_Desk__machine_of ["self", "job"] m_Desk__machine_of := fnE_of (k := 1) (N := ["self", "job", "some", "machine", "queue"]) (ps := ["self", "job"]) (loc := 3) G.d_Desk__machine_of rfl rfl ⟨rfl, rfl, rfl, by decide +kernel, rfl, by decide +kernel, by decide +kernel⟩ rfl (fun h cdv A outer s H E hr => by
  have hr : Room 1 _ := hr
  have hu := hr.units
  have hK : (bodyX P w K mg base D_Desk__machine_of ["self", "job", "some", "machine", "queue"] cdv A outer s H E).K = (gm K).K := rfl
  have hN : (["self", "job", "some", "machine", "queue"] : List Str).Nodup := by decide +kernel
  have tk := body_takes (P := P) (w := w) (K := K) (mg := mg) (base := base) (d := D_Desk__machine_of) (N := ["self", "job", "some", "machine", "queue"]) (cdv := cdv) (A := A) (outer := outer) (s := s) (H := H) (E := E)
  have pso : PassesOwn (model P w) _ _ _ := passes_of (X := bodyX P w K mg base D_Desk__machine_of ["self", "job", "some", "machine", "queue"] cdv A outer s H E) rfl
  exact (dss_cons (ds_setLc (j := 2) rfl hN rfl rfl rfl (di_items (de_ix hK (u1_of hu) (de_attr1 (c := 0) (f := 12) rfl hK G.c_Desk G.n_Desk__state (de_var (i := 0) rfl (.inl rfl))) de_int (fun _ _ => rfl))) (own := [("machine", 3), ("queue", 4)]) (blkOk_by rfl) (fun _ _ _ _ _ _ => (dw_seq (n := 2) hK rfl (dws_cons (dw_name (i := 3) (by decide) hN rfl (.inl rfl)) (dws_cons (dw_name (i := 4) (by decide) hN rfl (.inl rfl)) dws_nil)))) (fun _ _ _ _ _ _ => (dts_one (dt_cmp (m_in hK hu) (de_var (i := 1) rfl (.inr (.inl rfl))) (de_var (i := 4) rfl (.inl rfl)) (by wtm_at "mk")))) (fun _ _ _ _ _ _ => (de_var (i := 3) rfl (.inl rfl)))) (dss_one (ds_ret (de_if (dt_cmp (m_ne hK hu) (de_var (i := 2) rfl (.inl rfl)) (de_lst (fz := true) da_nil) (by wtm_at "mk")) (de_ix hK (u1_of hu) (de_var (i := 2) rfl (.inl rfl)) de_int (fun _ _ => rfl)) de_non)))))
def b_Desk_add_machine : SM := sSeq (sAsg (eAttr [0] 12 (eVar 0)) (gSeq 2 (gCons' (gN 2) (gCons' (gN 3) (gNil'))))) (sSeq (sExpr (eMt 0 17 4 [0, 1, 2, 3] m_Desk__check_new (eVar 0) (aCons (eVar 1) (aCons (eVar 2) (aCons (eC (.int 5)) (aNil)))))) (sExpr (eMt 0 16 3 [0, 1, 2] m_Desk__change (eVar 0) (aCons (eFrz (eDStar (eVar 2) (eVar 1) (eTup (aNil)))) (aCons (eVar 3) (aNil))))))
def m_Desk_add_machine : FM := fnM 2 2 b_Desk_add_machine
theorem fn_Desk_add_machine (G : GF K mg base) : FnE P w K mg base (gm K) 5 D_Desk_add_machine ["self", "name"] m_Desk_add_machine := fnE_of (k := 4) (N := ["self", "name", "queues", "jobs"]) (ps := ["self", "name"]) (loc := 2) G.d_Desk_add_machine rfl rfl ⟨rfl, rfl, rfl, by decide +kernel, rfl, by decide +kernel, by decide +kernel⟩ rfl (fun h cdv A outer s H E hr => by
  have hr : Room 4 _ := hr
  have hu := hr.units
  have hK : (bodyX P w K mg base D_Desk_add_machine ["self", "name", "queues", "jobs"] cdv A outer s H E).K = (gm K).K := rfl
  have hN : (["self", "name", "queues", "jobs"] : List Str).Nodup := by decide +kernel
  have tk := body_takes (P := P) (w := w) (K := K) (mg := mg) (base := base) (d := D_Desk_add_machine) (N := ["self", "name", "queues", "jobs"]) (cdv := cdv) (A := A) (outer := outer) (s := s) (H := H) (E := E)
  have pso : PassesOwn (model P w) _ _ _ := passes_of (X := bodyX P w K mg base D_Desk_add_machine ["self", "name", "queues", "jobs"] cdv A outer s H E) rfl
  exact (dss_cons (ds_asg (de_attr1 (c := 0) (f := 12) rfl hK G.c_Desk G.n_Desk__state (de_var (i := 0) rfl (.inl rfl))) (dg_seq (n := 2) hK rfl (dgs_cons (dg_name (i := 2) hN rfl (.inl rfl)) (dgs_cons (dg_name (i := 3) hN rfl (.inl rfl)) dgs_nil)))) (dss_cons (ds_expr (de_mt (c := 0) (mn := 17) (np := 4) (ix := [0, 1, 2, 3]) ((fn_Desk__check_new G).mono (by decide)) hr rfl tk (fun _ _ _ _ _ _ us ws h1 h2 => match us, ws, h1, h2 with | [_, _, _, _], [], _, _ => rfl) rfl G.ck_Desk G.t_Desk__check_new (de_var (i := 0) rfl (.inl rfl)) (da_cons (de_var (i := 1) rfl (.inl rfl)) (da_cons (de_var (i := 2) rfl (.inl rfl)) (da_cons (de_gint rfl G.i_MOST_MACHINES) da_nil))))) (dss_one (ds_expr (de_mt (c := 0) (mn := 16) (np := 3) (ix := [0, 1, 2]) ((fn_Desk__change G).mono (by decide)) hr rfl tk (fun _ _ _ _ _ _ us ws h1 h2 => match us, ws, h1, h2 with | [_, _, _], [], _, _ => rfl) rfl G.ck_Desk G.t_Desk__change (de_var (i := 0) rfl (.inl rfl)) (da_cons (de_frz (de_dstar (fun _ => (de_var (i := 2) rfl (.inl rfl))) (fun _ => (de_var (i := 1) rfl (.inl rfl))) (fun _ => (de_tup da_nil)))) (da_cons (de_var (i := 3) rfl (.inl rfl)) da_nil))))))))
def b_Desk_close_machine : SM := sSeq (sAsg (eAttr [0] 12 (eVar 0)) (gSeq 2 (gCons' (gN 2) (gCons' (gN 3) (gNil'))))) (sSeq (sExpr (eMt 0 18 3 [0, 1, 2] m_Desk__check_known (eVar 0) (aCons (eVar 1) (aCons (eVar 2) (aNil))))) (sExpr (eMt 0 16 3 [0, 1, 2] m_Desk__change (eVar 0) (aCons (eFrz (eDc (iItm (eVar 2)) (gSeq 2 (gCons' (gN 4) (gCons' (gN 5) (gNil')))) (tB' (eBin neA (eVar 4) (eVar 1))) (eVar 4) (eVar 5) [4, 5])) (aCons (eVar 3) (aNil))))))
def m_Desk_close_machine : FM := fnM 2 4 b_Desk_close_machine
theorem fn_Desk_close_machine (G : GF K mg base) : FnE P w K mg base (gm K) 5 D_Desk_close_machine ["self", "name"] m_Desk_close_machine := fnE_of (k := 4) (N := ["self", "name", "queues", "jobs", "other", "queue"]) (ps := ["self", "name"]) (loc := 4) G.d_Desk_close_machine rfl rfl ⟨rfl, rfl, rfl, by decide +kernel, rfl, by decide +kernel, by decide +kernel⟩ rfl (fun h cdv A outer s H E hr => by
  have hr : Room 4 _ := hr
  have hu := hr.units
  have hK : (bodyX P w K mg base D_Desk_close_machine ["self", "name", "queues", "jobs", "other", "queue"] cdv A outer s H E).K = (gm K).K := rfl
  have hN : (["self", "name", "queues", "jobs", "other", "queue"] : List Str).Nodup := by decide +kernel
  have tk := body_takes (P := P) (w := w) (K := K) (mg := mg) (base := base) (d := D_Desk_close_machine) (N := ["self", "name", "queues", "jobs", "other", "queue"]) (cdv := cdv) (A := A) (outer := outer) (s := s) (H := H) (E := E)
  have pso : PassesOwn (model P w) _ _ _ := passes_of (X := bodyX P w K mg base D_Desk_close_machine ["self", "name", "queues", "jobs", "other", "queue"] cdv A outer s H E) rfl
  exact (dss_cons (ds_asg (de_attr1 (c := 0) (f := 12) rfl hK G.c_Desk G.n_Desk__state (de_var (i := 0) rfl (.inl rfl))) (dg_seq (n := 2) hK rfl (dgs_cons (dg_name (i := 2) hN rfl (.inl rfl)) (dgs_cons (dg_name (i := 3) hN rfl (.inl rfl)) dgs_nil)))) (dss_cons (ds_expr (de_mt (c := 0) (mn := 18) (np := 3) (ix := [0, 1, 2]) ((fn_Desk__check_known G).mono (by decide)) hr rfl tk (fun _ _ _ _ _ _ us ws h1 h2 => match us, ws, h1, h2 with | [_, _, _], [], _, _ => rfl) rfl G.ck_Desk G.t_Desk__check_known (de_var (i := 0) rfl (.inl rfl)) (da_cons (de_var (i := 1) rfl (.inr (.inl rfl))) (da_cons (de_var (i := 2) rfl (.inl rfl)) da_nil)))) (dss_one (ds_expr (de_mt (c := 0) (mn := 16) (np := 3) (ix := [0, 1, 2]) ((fn_Desk__change G).mono (by decide)) hr rfl tk (fun _ _ _ _ _ _ us ws h1 h2 => match us, ws, h1, h2 with | [_, _, _], [], _, _ => rfl) rfl G.ck_Desk G.t_Desk__change (de_var (i := 0) rfl (.inl rfl)) (da_cons (de_frz (de_dc rfl hN (di_items (de_var (i := 2) rfl (.inl rfl))) (own := [("other", 4), ("queue", 5)]) (blkOk_by rfl) (fun _ _ _ _ _ _ => (dw_seq (n := 2) hK rfl (dws_cons (dw_name (i := 4) (by decide) hN rfl (.inl rfl)) (dws_cons (dw_name (i := 5) (by decide) hN rfl (.inl rfl)) dws_nil)))) (fun _ _ _ _ _ _ => (dts_one (dt_cmp (m_ne hK hu) (de_var (i := 4) rfl (.inl rfl)) (de_var (i := 1) rfl (.inr (.inl rfl))) (by wtm_at "mk")))) (fun _ _ _ _ _ _ => (de_var (i := 4) rfl (.inl rfl))) (fun _ _ _ _ _ _ => (de_var (i := 5) rfl (.inl rfl))))) (da_cons (de_var (i := 3) rfl (.inl rfl)) da_nil))))))))
def b_Desk_take_in : SM := sSeq (sAsg (eAttr [0] 12 (eVar 0)) (gSeq 2 (gCons' (gN 4) (gCons' (gN 5) (gNil'))))) (sSeq (sExpr (eMt 0 17 4 [0, 1, 2, 3] m_Desk__check_new (eVar 0) (aCons (eVar 1) (aCons (eVar 5) (aCons (eC (.int 20)) (aNil)))))) (sSeq (sIf (tNot (tTru (eFn 3 [0, 1, 2] m_is_between (aCons (eVar 2) (aCons (eC (.int 1)) (aCons (eC (.int 60)) (aNil))))))) (sRaise1 3 15 (eVar 2)) (sNil)) (sSeq (sIf (tNot (tTru (eFn 3 [0, 1, 2] m_is_between (aCons (eVar 3) (aCons (eC (.int 0)) (aCons (eC (.int 600)) (aNil))))))) (sRaise1 2 15 (eVar 3)) (sNil)) (sExpr (eMt 0 16 3 [0, 1, 2] m_Desk__change (eVar 0) (aCons (eVar 4) (aCons (eFrz (eDStar (eVar 5) (eVar 1) (eTup (aCons (eVar 2) (aCons (eVar 3) (aNil)))))) (aNil))))))))
def m_Desk_take_in : FM := fnM 4 2 b_Desk_take_in
theorem fn_Desk_take_in (G : GF K mg base) : FnE P w K mg base (gm K) 5 D_Desk_take_in ["self", "job", "length", "due"] m_Desk_take_in := fnE_of (k := 4) (N := ["self", "job", "length", "due", "queues", "jobs"]) (ps := ["self", "job", "length", "due"]) (loc := 2) G.d_Desk_take_in rfl rfl ⟨rfl, rfl, rfl, by decide +kernel, rfl, by decide +kernel, by decide +kernel⟩ rfl (fun h cdv A outer s H E hr => by
  have hr : Room 4 _ := hr
  have hu := hr.units
  have hK : (bodyX P w K mg base D_Desk_take_in ["self", "job", "length", "due", "queues", "jobs"] cdv A outer s H E).K = (gm K).K := rfl
  have hN : (["self", "job", "length", "due", "queues", "jobs"] : List Str).Nodup := by decide +kernel
  have tk := body_takes (P := P) (w := w) (K := K) (mg := mg) (base := base) (d := D_Desk_take_in) (N := ["self", "job", "length", "due", "queues", "jobs"]) (cdv := cdv) (A := A) (outer := outer) (s := s) (H := H) (E := E)
  have pso : PassesOwn (model P w) _ _ _ := passes_of (X := bodyX P w K mg base D_Desk_take_in ["self", "job", "length", "due", "queues", "jobs"] cdv A outer s H E) rfl
  have hr1 : Room (3 + 1) _ := hr
  exact (dss_cons (ds_asg (de_attr1 (c := 0) (f := 12) rfl hK G.c_Desk G.n_Desk__state (de_var (i := 0) rfl (.inl rfl))) (dg_seq (n := 2) hK rfl (dgs_cons (dg_name (i := 4) hN rfl (.inl rfl)) (dgs_cons (dg_name (i := 5) hN rfl (.inl rfl)) dgs_nil)))) (dss_cons (ds_expr (de_mt (c := 0) (mn := 17) (np := 4) (ix := [0, 1, 2, 3]) ((fn_Desk__check_new G).mono (by decide)) hr rfl tk (fun _ _ _ _ _ _ us ws h1 h2 => match us, ws, h1, h2 with | [_, _, _, _], [], _, _ => rfl) rfl G.ck_Desk G.t_Desk__check_new (de_var (i := 0) rfl (.inl rfl)) (da_cons (de_var (i := 1) rfl (.inl rfl)) (da_cons (de_var (i := 5) rfl (.inl rfl)) (da_cons (de_gint rfl G.i_MOST_JOBS) da_nil))))) (dss_cons (ds_if (dt_not (dt_tru hK (de_fn (np := 3) (ix := [0, 1, 2]) ((fn_is_between G).mono (by decide)) hr rfl tk (fun _ _ _ _ _ _ us ws h1 h2 => match us, ws, h1, h2 with | [_, _, _], [], _, _ => rfl) rfl G.g_is_between (da_cons (de_var (i := 2) rfl (.inl rfl)) (da_cons de_int (da_cons (de_gint rfl G.i_MOST_LENGTH) da_nil)))))) (dss_one (ds_raise1 (c := 3) (f := 15) rfl tk G.ex_InvalidLength.o G.ex_InvalidLength.i G.ex_InvalidLength.t ((fx_InvalidLength G).mono (by decide)) hr1 (bx_InvalidLength G) G.ex_InvalidLength.n rfl rfl G.g_InvalidLength (de_var (i := 2) rfl (.inl rfl)))) dss_nil) (dss_cons (ds_if (dt_not (dt_tru hK (de_fn (np := 3) (ix := [0, 1, 2]) ((fn_is_between G).mono (by decide)) hr rfl tk (fun _ _ _ _ _ _ us ws h1 h2 => match us, ws, h1, h2 with | [_, _, _], [], _, _ => rfl) rfl G.g_is_between (da_cons (de_var (i := 3) rfl (.inl rfl)) (da_cons de_int (da_cons (de_gint rfl G.i_MOST_TIME) da_nil)))))) (dss_one (ds_raise1 (c := 2) (f := 15) rfl tk G.ex_InvalidDue.o G.ex_InvalidDue.i G.ex_InvalidDue.t ((fx_InvalidDue G).mono (by decide)) hr1 (bx_InvalidDue G) G.ex_InvalidDue.n rfl rfl G.g_InvalidDue (de_var (i := 3) rfl (.inl rfl)))) dss_nil) (dss_one (ds_expr (de_mt (c := 0) (mn := 16) (np := 3) (ix := [0, 1, 2]) ((fn_Desk__change G).mono (by decide)) hr rfl tk (fun _ _ _ _ _ _ us ws h1 h2 => match us, ws, h1, h2 with | [_, _, _], [], _, _ => rfl) rfl G.ck_Desk G.t_Desk__change (de_var (i := 0) rfl (.inl rfl)) (da_cons (de_var (i := 4) rfl (.inl rfl)) (da_cons (de_frz (de_dstar (fun _ => (de_var (i := 5) rfl (.inl rfl))) (fun _ => (de_var (i := 1) rfl (.inl rfl))) (fun _ => (de_tup (da_cons (de_var (i := 2) rfl (.inl rfl)) (da_cons (de_var (i := 3) rfl (.inl rfl)) da_nil)))))) da_nil))))))))))
def b_Desk_give_out : SM := sSeq (sAsg (eAttr [0] 12 (eVar 0)) (gSeq 2 (gCons' (gN 3) (gCons' (gN 4) (gNil'))))) (sSeq (sExpr (eMt 0 18 3 [0, 1, 2] m_Desk__check_known (eVar 0) (aCons (eVar 1) (aCons (eVar 4) (aNil))))) (sSeq (sExpr (eMt 0 18 3 [0, 1, 2] m_Desk__check_known (eVar 0) (aCons (eVar 2) (aCons (eVar 3) (aNil))))) (sSeq (sSet 5 (eFn 2 [0, 1] m_without (aCons (eVar 3) (aCons (eVar 1) (aNil))))) (sExpr (eMt 0 16 3 [0, 1, 2] m_Desk__change (eVar 0) (aCons (eFrz (eDStar (eVar 5) (eVar 2) (eTup (aStar (eBin fIx (eVar 5) (eVar 2)) (aCons (eVar 1) (aNil)))))) (aCons (eVar 4) (aNil))))))))
def m_Desk_give_out : FM := fnM 3 3 b_Desk_give_out
theorem fn_Desk_give_out (G : GF K mg base) : FnE P w K mg base (gm K) 5 D_Desk_give_out ["self", "job", "machine"] m_Desk_give_out := fnE_of (k := 4) (N := ["self", "job", "machine", "queues", "jobs", "left"]) (ps := ["self", "job", "machine"]) (loc := 3) G.d_Desk_give_out rfl rfl ⟨rfl, rfl, rfl, by decide +kernel, rfl, by decide +kernel, by decide +kernel⟩ rfl (fun h cdv A outer s H E hr => by
  have hr : Room 4 _ := hr
  have hu := hr.units
  have hK : (bodyX P w K mg base D_Desk_give_out ["self", "job", "machine", "queues", "jobs", "left"] cdv A outer s H E).K = (gm K).K := rfl
  have hN : (["self", "job", "machine", "queues", "jobs", "left"] : List Str).Nodup := by decide +kernel
  have tk := body_takes (P := P) (w := w) (K := K) (mg := mg) (base := base) (d := D_Desk_give_out) (N := ["self", "job", "machine", "queues", "jobs", "left"]) (cdv := cdv) (A := A) (outer := outer) (s := s) (H := H) (E := E)
  have pso : PassesOwn (model P w) _ _ _ := passes_of (X := bodyX P w K mg base D_Desk_give_out ["self", "job", "machine", "queues", "jobs", "left"] cdv A outer s H E) rfl
  exact (dss_cons (ds_asg (de_attr1 (c := 0) (f := 12) rfl hK G.c_Desk G.n_Desk__state (de_var (i := 0) rfl (.inl rfl))) (dg_seq (n := 2) hK rfl (dgs_cons (dg_name (i := 3) hN rfl (.inl rfl)) (dgs_cons (dg_name (i := 4) hN rfl (.inl rfl)) dgs_nil)))) (dss_cons (ds_expr (de_mt (c := 0) (mn := 18) (np := 3) (ix := [0, 1, 2]) ((fn_Desk__check_known G).mono (by decide)) hr rfl tk (fun _ _ _ _ _ _ us ws h1 h2 => match us, ws, h1, h2 with | [_, _, _], [], _, _ => rfl) rfl G.ck_Desk G.t_Desk__check_known (de_var (i := 0) rfl (.inl rfl)) (da_cons (de_var (i := 1) rfl (.inl rfl)) (da_cons (de_var (i := 4) rfl (.inl rfl)) da_nil)))) (dss_cons (ds_expr (de_mt (c := 0) (mn := 18) (np := 3) (ix := [0, 1, 2]) ((fn_Desk__check_known G).mono (by decide)) hr rfl tk (fun _ _ _ _ _ _ us ws h1 h2 => match us, ws, h1, h2 with | [_, _, _], [], _, _ => rfl) rfl G.ck_Desk G.t_Desk__check_known (de_var (i := 0) rfl (.inl rfl)) (da_cons (de_var (i := 2) rfl (.inl rfl)) (da_cons (de_var (i := 3) rfl (.inl rfl)) da_nil)))) (dss_cons (ds_set (i := 5) hN rfl (.inl rfl) (de_fn (np := 2) (ix := [0, 1]) ((fn_without G).mono (by decide)) hr rfl tk (fun _ _ _ _ _ _ us ws h1 h2 => match us, ws, h1, h2 with | [_, _], [], _, _ => rfl) rfl G.g_without (da_cons (de_var (i := 3) rfl (.inl rfl)) (da_cons (de_var (i := 1) rfl (.inl rfl)) da_nil)))) (dss_one (ds_expr (de_mt (c := 0) (mn := 16) (np := 3) (ix := [0, 1, 2]) ((fn_Desk__change G).mono (by decide)) hr rfl tk (fun _ _ _ _ _ _ us ws h1 h2 => match us, ws, h1, h2 with | [_, _, _], [], _, _ => rfl) rfl G.ck_Desk G.t_Desk__change (de_var (i := 0) rfl (.inl rfl)) (da_cons (de_frz (de_dstar (fun _ => (de_var (i := 5) rfl (.inl rfl))) (fun _ => (de_var (i := 2) rfl (.inl rfl))) (fun _ => (de_tup (da_star hK (de_ix hK (u1_of hu) (de_var (i := 5) rfl (.inl rfl)) (de_var (i := 2) rfl (.inl rfl)) (fun _ _ => rfl)) (da_cons (de_var (i := 1) rfl (.inl rfl)) da_nil)))))) (da_cons (de_var (i := 4) rfl (.inl rfl)) da_nil))))))))))
def b_Desk__check_given : SM := sSeq (sExpr (eMt 0 18 3 [0, 1, 2] m_Desk__check_known (eVar 0) (aCons (eVar 1) (aCons (eBin fIx (eAttr [0] 12 (eVar 0)) (eC (.int 1))) (aNil))))) (sIf (tB' (eBin isA (eMt 0 19 2 [0, 1] m_Desk__machine_of (eVar 0) (aCons (eVar 1) (aNil))) (eC .non))) (sRaise1 7 20 (eVar 1)) (sNil))
def m_Desk__check_given : FM := fnM 2 0 b_Desk__check_given
theorem fn_Desk__check_given (G : GF K mg base) : FnE P w K mg base (gm K) 5 D_Desk__check_given ["self", "job"] m_Desk__check_given := fnE_of (k := 4) (N := ["self", "job"]) (ps := ["self", "job"]) (loc := 0) G.d_Desk__check_given rfl rfl ⟨rfl, rfl, rfl, by decide +kernel, rfl, by decide +kernel, by decide +kernel⟩ rfl (fun h cdv A outer s H E hr => by
  have hr : Room 4 _ := hr
  have hu := hr.units
  have hK : (bodyX P w K mg base D_Desk__check_given ["self", "job"] cdv A outer s H E).K = (gm K).K := rfl
  have hN : (["self", "job"] : List Str).Nodup := by decide +kernel
  have tk := body_takes (P := P) (w := w) (K := K) (mg := mg) (base := base) (d := D_Desk__check_given) (N := ["self", "job"]) (cdv := cdv) (A := A) (outer := outer) (s := s) (H := H) (E := E)
  have pso : PassesOwn (model P w) _ _ _ := passes_of (X := bodyX P w K mg base D_Desk__check_given ["self", "job"] cdv A outer s H E) rfl
  have hr1 : Room (3 + 1) _ := hr
  exact (dss_cons (ds_expr (de_mt (c := 0) (mn := 18) (np := 3) (ix := [0, 1, 2]) ((fn_Desk__check_known G).mono (by decide)) hr rfl tk (fun _ _ _ _ _ _ us ws h1 h2 => match us, ws, h1, h2 with | [_, _, _], [], _, _ => rfl) rfl G.ck_Desk G.t_Desk__check_known (de_var (i := 0) rfl (.inl rfl)) (da_cons (de_var (i := 1) rfl (.inl rfl)) (da_cons (de_ix hK (u1_of hu) (de_attr1 (c := 0) (f := 12) rfl hK G.c_Desk G.n_Desk__state (de_var (i := 0) rfl (.inl rfl))) de_int (fun _ _ => rfl)) da_nil)))) (dss_one (ds_if (dt_cmp m_is (de_mt (c := 0) (mn := 19) (np := 2) (ix := [0, 1]) ((fn_Desk__machine_of G).mono (by decide)) hr rfl tk (fun _ _ _ _ _ _ us ws h1 h2 => match us, ws, h1, h2 with | [_, _], [], _, _ => rfl) rfl G.ck_Desk G.t_Desk__machine_of (de_var (i := 0) rfl (.inl rfl)) (da_cons (de_var (i := 1) rfl (.inl rfl)) da_nil)) de_non (by wtm_at "mk")) (dss_one (ds_raise1 (c := 7) (f := 20) rfl tk G.ex_NotGiven.o G.ex_NotGiven.i G.ex_NotGiven.t ((fx_NotGiven G).mono (by decide)) hr1 (bx_NotGiven G) G.ex_NotGiven.n rfl rfl G.g_NotGiven (de_var (i := 1) rfl (.inl rfl)))) dss_nil))))
def b_Desk_call_back : SM := sSeq (sExpr (eMt 0 21 2 [0, 1] m_Desk__check_given (eVar 0) (aCons (eVar 1) (aNil)))) (sSeq (sAsg (eAttr [0] 12 (eVar 0)) (gSeq 2 (gCons' (gN 2) (gCons' (gN 3) (gNil'))))) (sExpr (eMt 0 16 3 [0, 1, 2] m_Desk__change (eVar 0) (aCons (eFn 2 [0, 1] m_without (aCons (eVar 2) (aCons (eVar 1) (aNil)))) (aCons (eVar 3) (aNil))))))
def m_Desk_call_back : FM := fnM 2 2 b_Desk_call_back
theorem fn_Desk_call_back (G : GF K mg base) : FnE P w K mg base (gm K) 6 D_Desk_call_back ["self", "job"] m_Desk_call_back := fnE_of (k := 5) (N := ["self", "job", "queues", "jobs"]) (ps := ["self", "job"]) (loc := 2) G.d_Desk_call_back rfl rfl ⟨rfl, rfl, rfl, by decide +kernel, rfl, by decide +kernel, by decide +kernel⟩ rfl (fun h cdv A outer s H E hr => by
  have hr : Room 5 _ := hr
  have hu := hr.units
  have hK : (bodyX P w K mg base D_Desk_call_back ["self", "job", "queues", "jobs"] cdv A outer s H E).K = (gm K).K := rfl
  have hN : (["self", "job", "queues", "jobs"] : List Str).Nodup := by decide +kernel
  have tk := body_takes (P := P) (w := w) (K := K) (mg := mg) (base := base) (d := D_Desk_call_back) (N := ["self", "job", "queues", "jobs"]) (cdv := cdv) (A := A) (outer := outer) (s := s) (H := H) (E := E)
  have pso : PassesOwn (model P w) _ _ _ := passes_of (X := bodyX P w K mg base D_Desk_call_back ["self", "job", "queues", "jobs"] cdv A outer s H E) rfl
  exact (dss_cons (ds_expr (de_mt (c := 0) (mn := 21) (np := 2) (ix := [0, 1]) ((fn_Desk__check_given G).mono (by decide)) hr rfl tk (fun _ _ _ _ _ _ us ws h1 h2 => match us, ws, h1, h2 with | [_, _], [], _, _ => rfl) rfl G.ck_Desk G.t_Desk__check_given (de_var (i := 0) rfl (.inl rfl)) (da_cons (de_var (i := 1) rfl (.inl rfl)) da_nil))) (dss_cons (ds_asg (de_attr1 (c := 0) (f := 12) rfl hK G.c_Desk G.n_Desk__state (de_var (i := 0) rfl (.inl rfl))) (dg_seq (n := 2) hK rfl (dgs_cons (dg_name (i := 2) hN rfl (.inl rfl)) (dgs_cons (dg_name (i := 3) hN rfl (.inl rfl)) dgs_nil)))) (dss_one (ds_expr (de_mt (c := 0) (mn := 16) (np := 3) (ix := [0, 1, 2]) ((fn_Desk__change G).mono (by decide)) hr rfl tk (fun _ _ _ _ _ _ us ws h1 h2 => match us, ws, h1, h2 with | [_, _, _], [], _, _ => rfl) rfl G.ck_Desk G.t_Desk__change (de_var (i := 0) rfl (.inl rfl)) (da_cons (de_fn (np := 2) (ix := [0, 1]) ((fn_without G).mono (by decide)) hr rfl tk (fun _ _ _ _ _ _ us ws h1 h2 => match us, ws, h1, h2 with | [_, _], [], _, _ => rfl) rfl G.g_without (da_cons (de_var (i := 2) rfl (.inl rfl)) (da_cons (de_var (i := 1) rfl (.inl rfl)) da_nil))) (da_cons (de_var (i := 3) rfl (.inl rfl)) da_nil))))))))
def b_Desk_hurry : SM := sSeq (sExpr (eMt 0 21 2 [0, 1] m_Desk__check_given (eVar 0) (aCons (eVar 1) (aNil)))) (sSeq (sAsg (eAttr [0] 12 (eVar 0)) (gSeq 2 (gCons' (gN 2) (gCons' (gN 3) (gNil'))))) (sSeq (sPar 4 5 (eMt 0 19 2 [0, 1] m_Desk__machine_of (eVar 0) (aCons (eVar 1) (aNil))) (eFn 2 [0, 1] m_without (aCons (eVar 2) (aCons (eVar 1) (aNil))))) (sExpr (eMt 0 16 3 [0, 1, 2] m_Desk__change (eVar 0) (aCons (eFrz (eDStar (eVar 5) (eVar 4) (eTup (aCons (eVar 1) (aStar (eBin fIx (eVar 5) (eVar 4)) (aNil)))))) (aCons (eVar 3) (aNil)))))))
def m_Desk_hurry : FM := fnM 2 4 b_Desk_hurry
theorem fn_Desk_hurry (G : GF K mg base) : FnE P w K mg base (gm K) 6 D_Desk_hurry ["self", "job"] m_Desk_hurry := fnE_of (k := 5) (N := ["self", "job", "queues", "jobs", "machine", "left"]) (ps := ["self", "job"]) (loc := 4) G.d_Desk_hurry rfl rfl ⟨rfl, rfl, rfl, by decide +kernel, rfl, by decide +kernel, by decide +kernel⟩ rfl (fun h cdv A outer s H E hr => by
  have hr : Room 5 _ := hr
  have hu := hr.units
  have hK : (bodyX P w K mg base D_Desk_hurry ["self", "job", "queues", "jobs", "machine", "left"] cdv A outer s H E).K = (gm K).K := rfl
  have hN : (["self", "job", "queues", "jobs", "machine", "left"] : List Str).Nodup := by decide +kernel
  have tk := body_takes (P := P) (w := w) (K := K) (mg := mg) (base := base) (d := D_Desk_hurry) (N := ["self", "job", "queues", "jobs", "machine", "left"]) (cdv := cdv) (A := A) (outer := outer) (s := s) (H := H) (E := E)
  have pso : PassesOwn (model P w) _ _ _ := passes_of (X := bodyX P w K mg base D_Desk_hurry ["self", "job", "queues", "jobs", "machine", "left"] cdv A outer s H E) rfl
  exact (dss_cons (ds_expr (de_mt (c := 0) (mn := 21) (np := 2) (ix := [0, 1]) ((fn_Desk__check_given G).mono (by decide)) hr rfl tk (fun _ _ _ _ _ _ us ws h1 h2 => match us, ws, h1, h2 with | [_, _], [], _, _ => rfl) rfl G.ck_Desk G.t_Desk__check_given (de_var (i := 0) rfl (.inl rfl)) (da_cons (de_var (i := 1) rfl (.inl rfl)) da_nil))) (dss_cons (ds_asg (de_attr1 (c := 0) (f := 12) rfl hK G.c_Desk G.n_Desk__state (de_var (i := 0) rfl (.inl rfl))) (dg_seq (n := 2) hK rfl (dgs_cons (dg_name (i := 2) hN rfl (.inl rfl)) (dgs_cons (dg_name (i := 3) hN rfl (.inl rfl)) dgs_nil)))) (dss_cons (ds_par (i := 4) (j := 5) rfl hN rfl rfl (by decide) rfl rfl (de_mt (c := 0) (mn := 19) (np := 2) (ix := [0, 1]) ((fn_Desk__machine_of G).mono (by decide)) hr rfl tk (fun _ _ _ _ _ _ us ws h1 h2 => match us, ws, h1, h2 with | [_, _], [], _, _ => rfl) rfl G.ck_Desk G.t_Desk__machine_of (de_var (i := 0) rfl (.inl rfl)) (da_cons (de_var (i := 1) rfl (.inl rfl)) da_nil)) (de_fn (np := 2) (ix := [0, 1]) ((fn_without G).mono (by decide)) hr rfl tk (fun _ _ _ _ _ _ us ws h1 h2 => match us, ws, h1, h2 with | [_, _], [], _, _ => rfl) rfl G.g_without (da_cons (de_var (i := 2) rfl (.inl rfl)) (da_cons (de_var (i := 1) rfl (.inl rfl)) da_nil))) rfl) (dss_one (ds_expr (de_mt (c := 0) (mn := 16) (np := 3) (ix := [0, 1, 2]) ((fn_Desk__change G).mono (by decide)) hr rfl tk (fun _ _ _ _ _ _ us ws h1 h2 => match us, ws, h1, h2 with | [_, _, _], [], _, _ => rfl) rfl G.ck_Desk G.t_Desk__change (de_var (i := 0) rfl (.inl rfl)) (da_cons (de_frz (de_dstar (fun _ => (de_var (i := 5) rfl (.inl rfl))) (fun _ => (de_var (i := 4) rfl (.inl rfl))) (fun _ => (de_tup (da_cons (de_var (i := 1) rfl (.inl rfl)) (da_star hK (de_ix hK (u1_of hu) (de_var (i := 5) rfl (.inl rfl)) (de_var (i := 4) rfl (.inl rfl)) (fun _ _ => rfl)) da_nil)))))) (da_cons (de_var (i := 3) rfl (.inl rfl)) da_nil)))))))))
def b_Desk_finish : SM := sSeq (sAsg (eAttr [0] 12 (eVar 0)) (gSeq 2 (gCons' (gN 2) (gCons' (gN 3) (gNil'))))) (sSeq (sExpr (eMt 0 18 3 [0, 1, 2] m_Desk__check_known (eVar 0) (aCons (eVar 1) (aCons (eVar 3) (aNil))))) (sExpr (eMt 0 16 3 [0, 1, 2] m_Desk__change (eVar 0) (aCons (eFn 2 [0, 1] m_without (aCons (eVar 2) (aCons (eVar 1) (aNil)))) (aCons (eFrz (eDc (iItm (eVar 3)) (gSeq 2 (gCons' (gN 4) (gCons' (gN 5) (gNil')))) (tB' (eBin neA (eVar 4) (eVar 1))) (eVar 4) (eVar 5) [4, 5])) (aNil))))))
def m_Desk_finish : FM := fnM 2 4 b_Desk_finish
theorem fn_Desk_finish (G : GF K mg base) : FnE P w K mg base (gm K) 5 D_Desk_finish ["self", "job"] m_Desk_finish := fnE_of (k := 4) (N := ["self", "job", "queues", "jobs", "other", "row"]) (ps := ["self", "job"]) (loc := 4) G.d_Desk_finish rfl rfl ⟨rfl, rfl, rfl, by decide +kernel, rfl, by decide +kernel, by decide +kernel⟩ rfl (fun h cdv A outer s H E hr => by
  have hr : Room 4 _ := hr
  have hu := hr.units
  have hK : (bodyX P w K mg base D_Desk_finish ["self", "job", "queues", "jobs", "other", "row"] cdv A outer s H E).K = (gm K).K := rfl
  have hN : (["self", "job", "queues", "jobs", "other", "row"] : List Str).Nodup := by decide +kernel
  have tk := body_takes (P := P) (w := w) (K := K) (mg := mg) (base := base) (d := D_Desk_finish) (N := ["self", "job", "queues", "jobs", "other", "row"]) (cdv := cdv) (A := A) (outer := outer) (s := s) (H := H) (E := E)
  have pso : PassesOwn (model P w) _ _ _ := passes_of (X := bodyX P w K mg base D_Desk_finish ["self", "job", "queues", "jobs", "other", "row"] cdv A outer s H E) rfl
  exact (dss_cons (ds_asg (de_attr1 (c := 0) (f := 12) rfl hK G.c_Desk G.n_Desk__state (de_var (i := 0) rfl (.inl rfl))) (dg_seq (n := 2) hK rfl (dgs_cons (dg_name (i := 2) hN rfl (.inl rfl)) (dgs_cons (dg_name (i := 3) hN rfl (.inl rfl)) dgs_nil)))) (dss_cons (ds_expr (de_mt (c := 0) (mn := 18) (np := 3) (ix := [0, 1, 2]) ((fn_Desk__check_known G).mono (by decide)) hr rfl tk (fun _ _ _ _ _ _ us ws h1 h2 => match us, ws, h1, h2 with | [_, _, _], [], _, _ => rfl) rfl G.ck_Desk G.t_Desk__check_known (de_var (i := 0) rfl (.inl rfl)) (da_cons (de_var (i := 1) rfl (.inr (.inl rfl))) (da_cons (de_var (i := 3) rfl (.inl rfl)) da_nil)))) (dss_one (ds_expr (de_mt (c := 0) (mn := 16) (np := 3) (ix := [0, 1, 2]) ((fn_Desk__change G).mono (by decide)) hr rfl tk (fun _ _ _ _ _ _ us ws h1 h2 => match us, ws, h1, h2 with | [_, _, _], [], _, _ => rfl) rfl G.ck_Desk G.t_Desk__change (de_var (i := 0) rfl (.inl rfl)) (da_cons (de_fn (np := 2) (ix := [0, 1]) ((fn_without G).mono (by decide)) hr rfl tk (fun _ _ _ _ _ _ us ws h1 h2 => match us, ws, h1, h2 with | [_, _], [], _, _ => rfl) rfl G.g_without (da_cons (de_var (i := 2) rfl (.inl rfl)) (da_cons (de_var (i := 1) rfl (.inr (.inl rfl))) da_nil))) (da_cons (de_frz (de_dc rfl hN (di_items (de_var (i := 3) rfl (.inl rfl))) (own := [("other", 4), ("row", 5)]) (blkOk_by rfl) (fun _ _ _ _ _ _ => (dw_seq (n := 2) hK rfl (dws_cons (dw_name (i := 4) (by decide) hN rfl (.inl rfl)) (dws_cons (dw_name (i := 5) (by decide) hN rfl (.inl rfl)) dws_nil)))) (fun _ _ _ _ _ _ => (dts_one (dt_cmp (m_ne hK hu) (de_var (i := 4) rfl (.inl rfl)) (de_var (i := 1) rfl (.inr (.inl rfl))) (by wtm_at "mk")))) (fun _ _ _ _ _ _ => (de_var (i := 4) rfl (.inl rfl))) (fun _ _ _ _ _ _ => (de_var (i := 5) rfl (.inl rfl))))) da_nil))))))))
def b_Desk_machines : SM := sRet (eCall (cSorted true) (aCons (eCall (cList true) (aCons (eBin fIx (eAttr [0] 12 (eVar 0)) (eC (.int 0))) (aNil))) (aNil)))
def m_Desk_machines : FM := fnM 1 0 b_Desk_machines
theorem fn_Desk_machines (G : GF K mg base) : FnE P w K mg base (gm K) 2 D_Desk_machines ["self"] m_Desk_machines := fnE_of (k := 1) (N := ["self"]) (ps := ["self"]) (loc := 0) G.d_Desk_machines rfl rfl ⟨rfl, rfl, rfl, by decide +kernel, rfl, by decide +kernel, by decide +kernel⟩ rfl (fun h cdv A outer s H E hr => by
  have hr : Room 1 _ := hr
  have hu := hr.units
  have hK : (bodyX P w K mg base D_Desk_machines ["self"] cdv A outer s H E).K = (gm K).K := rfl
  have hN : (["self"] : List Str).Nodup := by decide +kernel
  have tk := body_takes (P := P) (w := w) (K := K) (mg := mg) (base := base) (d := D_Desk_machines) (N := ["self"]) (cdv := cdv) (A := A) (outer := outer) (s := s) (H := H) (E := E)
  have pso : PassesOwn (model P w) _ _ _ := passes_of (X := bodyX P w K mg base D_Desk_machines ["self"] cdv A outer s H E) rfl
  exact (dss_one (ds_ret (de_callB (c_sorted (fz := true) hK (u16_of hu)) rfl G.b_sorted bt_sorted (da_cons (de_callTy (c_list (fz := true) hK rfl) rfl G.b_list bt_list (da_cons (de_ix hK (u1_of hu) (de_attr1 (c := 0) (f := 12) rfl hK G.c_Desk G.n_Desk__state (de_var (i := 0) rfl (.inl rfl))) de_int (fun _ _ => rfl)) da_nil)) da_nil)))))
def b_Desk_waiting : SM := sRet (eCall (cSorted true) (aCons (eLc true (iAny (eBin fIx (eAttr [0] 12 (eVar 0)) (eC (.int 1)))) (gN 1) (tB' (eBin isA (eMt 0 19 2 [0, 1] m_Desk__machine_of (eVar 0) (aCons (eVar 1) (aNil))) (eC .non))) (eVar 1) [1]) (aNil)))
def m_Desk_waiting : FM := fnM 1 1 b_Desk_waiting
theorem fn_Desk_waiting (G : GF K mg base) : FnE P w K mg base (gm K) 3 D_Desk_waiting ["self"] m_Desk_waiting := fnE_of (k := 2) (N := ["self", "job"]) (ps := ["self"]) (loc := 1) G.d_Desk_waiting rfl rfl ⟨rfl, rfl, rfl, by decide +kernel, rfl, by decide +kernel, by decide +kernel⟩ rfl (fun h cdv A outer s H E hr => by
  have hr : Room 2 _ := hr
  have hu := hr.units
  have hK : (bodyX P w K mg base D_Desk_waiting ["self", "job"] cdv A outer s H E).K = (gm K).K := rfl
  have hN : (["self", "job"] : List Str).Nodup := by decide +kernel
  have tk := body_takes (P := P) (w := w) (K := K) (mg := mg) (base := base) (d := D_Desk_waiting) (N := ["self", "job"]) (cdv := cdv) (A := A) (outer := outer) (s := s) (H := H) (E := E)
  have pso : PassesOwn (model P w) _ _ _ := passes_of (X := bodyX P w K mg base D_Desk_waiting ["self", "job"] cdv A outer s H E) rfl
  exact (dss_one (ds_ret (de_callB (c_sorted (fz := true) hK (u16_of hu)) rfl G.b_sorted bt_sorted (da_cons (de_lc (fz := true) rfl hN (di_any hK (de_ix hK (u1_of hu) (de_attr1 (c := 0) (f := 12) rfl hK G.c_Desk G.n_Desk__state (de_var (i := 0) rfl (.inr (.inl rfl)))) de_int (fun _ _ => rfl))) (own := [("job", 1)]) (blkOk_by rfl) (fun _ _ _ _ _ _ => (dw_name (i := 1) (by decide) hN rfl (.inl rfl))) (fun _ _ _ _ _ _ => (dts_one (dt_cmp m_is (de_mt (c := 0) (mn := 19) (np := 2) (ix := [0, 1]) ((fn_Desk__machine_of G).mono (by decide)) hr rfl takesF (fun _ _ _ _ _ _ us ws h1 h2 => match us, ws, h1, h2 with | [_, _], [], _, _ => rfl) rfl G.ck_Desk G.t_Desk__machine_of (de_var (i := 0) rfl (.inr (.inl rfl))) (da_cons (de_var (i := 1) rfl (.inl rfl)) da_nil)) de_non (by wtm_at "mk")))) (fun _ _ _ _ _ _ => (de_var (i := 1) rfl (.inl rfl)))) da_nil)))))
def b_Desk_queue : SM := sSeq (sExpr (eMt 0 18 3 [0, 1, 2] m_Desk__check_known (eVar 0) (aCons (eVar 1) (aCons (eBin fIx (eAttr [0] 12 (eVar 0)) (eC (.int 0))) (aNil))))) (sRet (eCall (cList true) (aCons (eBin fIx (eBin fIx (eAttr [0] 12 (eVar 0)) (eC (.int 0))) (eVar 1)) (aNil))))
def m_Desk_queue : FM := fnM 2 0 b_Desk_queue
theorem fn_Desk_queue (G : GF K mg base) : FnE P w K mg base (gm K) 5 D_Desk_queue ["self", "machine"] m_Desk_queue := fnE_of (k := 4) (N := ["self", "machine"]) (ps := ["self", "machine"]) (loc := 0) G.d_Desk_queue rfl rfl ⟨rfl, rfl, rfl, by decide +kernel, rfl, by decide +kernel, by decide +kernel⟩ rfl (fun h cdv A outer s H E hr => by
  have hr : Room 4 _ := hr
  have hu := hr.units
  have hK : (bodyX P w K mg base D_Desk_queue ["self", "machine"] cdv A outer s H E).K = (gm K).K := rfl
  have hN : (["self", "machine"] : List Str).Nodup := by decide +kernel
  have tk := body_takes (P := P) (w := w) (K := K) (mg := mg) (base := base) (d := D_Desk_queue) (N := ["self", "machine"]) (cdv := cdv) (A := A) (outer := outer) (s := s) (H := H) (E := E)
  have pso : PassesOwn (model P w) _ _ _ := passes_of (X := bodyX P w K mg base D_Desk_queue ["self", "machine"] cdv A outer s H E) rfl
  exact (dss_cons (ds_expr (de_mt (c := 0) (mn := 18) (np := 3) (ix := [0, 1, 2]) ((fn_Desk__check_known G).mono (by decide)) hr rfl tk (fun _ _ _ _ _ _ us ws h1 h2 => match us, ws, h1, h2 with | [_, _, _], [], _, _ => rfl) rfl G.ck_Desk G.t_Desk__check_known (de_var (i := 0) rfl (.inl rfl)) (da_cons (de_var (i := 1) rfl (.inl rfl)) (da_cons (de_ix hK (u1_of hu) (de_attr1 (c := 0) (f := 12) rfl hK G.c_Desk G.n_Desk__state (de_var (i := 0) rfl (.inl rfl))) de_int (fun _ _ => rfl)) da_nil)))) (dss_one (ds_ret (de_callTy (c_list (fz := true) hK rfl) rfl G.b_list bt_list (da_cons (de_ix hK (u1_of hu) (de_ix hK (u1_of hu) (de_attr1 (c := 0) (f := 12) rfl hK G.c_Desk G.n_Desk__state (de_var (i := 0) rfl (.inl rfl))) de_int (fun _ _ => rfl)) (de_var (i := 1) rfl (.inl rfl)) (fun _ _ => rfl)) da_nil))))))
def b_Desk_ends : SM := sSeq (sPar 2 3 (eLst false (aNil)) (eC (.int 0))) (sSeq (sFor (iAny (eMt 0 22 2 [0, 1] m_Desk_queue (eVar 0) (aCons (eVar 1) (aNil)))) (gN 4) (sSeq (sAug addI 3 (eBin fIx (eBin fIx (eBin fIx (eAttr [0] 12 (eVar 0)) (eC (.int 1))) (eVar 4)) (eC (.int 0)))) (sExpr (eMl mAppend (eVar 2) (aCons (eTup (aCons (eVar 4) (aCons (eVar 3) (aNil)))) (aNil)))))) (sRet (eFrz (eVar 2))))
def m_Desk_ends : FM := fnM 2 3 b_Desk_ends
theorem fn_Desk_ends (G : GF K mg base) : FnE P w K mg base (gm K) 6 D_Desk_ends ["self", "machine"] m_Desk_ends := fnE_of (k := 5) (N := ["self", "machine", "found", "time", "job"]) (ps := ["self", "machine"]) (loc := 3) G.d_Desk_ends rfl rfl ⟨rfl, rfl, rfl, by decide +kernel, rfl, by decide +kernel, by decide +kernel⟩ rfl (fun h cdv A outer s H E hr => by
  have hr : Room 5 _ := hr
  have hu := hr.units
  have hK : (bodyX P w K mg base D_Desk_ends ["self", "machine", "found", "time", "job"] cdv A outer s H E).K = (gm K).K := rfl
  have hN : (["self", "machine", "found", "time", "job"] : List Str).Nodup := by decide +kernel
  have tk := body_takes (P := P) (w := w) (K := K) (mg := mg) (base := base) (d := D_Desk_ends) (N := ["self", "machine", "found", "time", "job"]) (cdv := cdv) (A := A) (outer := outer) (s := s) (H := H) (E := E)
  have pso : PassesOwn (model P w) _ _ _ := passes_of (X := bodyX P w K mg base D_Desk_ends ["self", "machine", "found", "time", "job"] cdv A outer s H E) rfl
  exact (dss_cons (ds_par (i := 2) (j := 3) rfl hN rfl rfl (by decide) rfl rfl (de_lst (fz := false) da_nil) de_int rfl) (dss_cons (ds_for pso rfl (di_any hK (de_mt (c := 0) (mn := 22) (np := 2) (ix := [0, 1]) ((fn_Desk_queue G).mono (by decide)) hr rfl tk (fun _ _ _ _ _ _ us ws h1 h2 => match us, ws, h1, h2 with | [_, _], [], _, _ => rfl) rfl G.ck_Desk G.t_Desk_queue (de_var (i := 0) rfl (.inl rfl)) (da_cons (de_var (i := 1) rfl (.inl rfl)) da_nil))) (dg_name (i := 4) hN rfl (.inl rfl)) (dss_cons (ds_aug (i := 3) m_iaddI hN rfl (.inl rfl) (de_ix hK (u1_of hu) (de_ix hK (u1_of hu) (de_ix hK (u1_of hu) (de_attr1 (c := 0) (f := 12) rfl hK G.c_Desk G.n_Desk__state (de_var (i := 0) rfl (.inl rfl))) de_int (fun _ _ => rfl)) (de_var (i := 4) rfl (.inl rfl)) (fun _ _ => rfl)) de_int (fun _ _ => rfl))) (dss_one (ds_expr (de_ml F.plainAttrs_list F.slot_list_append F.type_list_append mt_appendM (de_var (i := 2) rfl (.inl rfl)) (da_cons (de_tup (da_cons (de_var (i := 4) rfl (.inl rfl)) (da_cons (de_var (i := 3) rfl (.inl rfl)) da_nil))) da_nil)))))) (dss_one (ds_ret (de_frz (de_var (i := 2) rfl (.inl rfl))))))))
def b_Desk_late_jobs : SM := sSeq (sSet 1 (eLst false (aNil))) (sSeq (sFor (iAny (eMt 0 23 1 [0] m_Desk_machines (eVar 0) aNil)) (gN 2) (sExpr (eMl mExtend (eVar 1) (aCons (eLc true (iAny (eMt 0 24 2 [0, 1] m_Desk_ends (eVar 0) (aCons (eVar 2) (aNil)))) (gSeq 2 (gCons' (gN 3) (gCons' (gN 4) (gNil')))) (tB' (eBin gtI (eVar 4) (eBin fIx (eBin fIx (eBin fIx (eAttr [0] 12 (eVar 0)) (eC (.int 1))) (eVar 3)) (eC (.int 1))))) (eVar 3) [3, 4]) (aNil))))) (sRet (eCall (cSorted true) (aCons (eVar 1) (aNil)))))
def m_Desk_late_jobs : FM := fnM 1 4 b_Desk_late_jobs
theorem fn_Desk_late_jobs (G : GF K mg base) : FnE P w K mg base (gm K) 7 D_Desk_late_jobs ["self"] m_Desk_late_jobs := fnE_of (k := 6) (N := ["self", "found", "machine", "job", "time"]) (ps := ["self"]) (loc := 4) G.d_Desk_late_jobs rfl rfl ⟨rfl, rfl, rfl, by decide +kernel, rfl, by decide +kernel, by decide +kernel⟩ rfl (fun h cdv A outer s H E hr => by
  have hr : Room 6 _ := hr
  have hu := hr.units
  have hK : (bodyX P w K mg base D_Desk_late_jobs ["self", "found", "machine", "job", "time"] cdv A outer s H E).K = (gm K).K := rfl
  have hN : (["self", "found", "machine", "job", "time"] : List Str).Nodup := by decide +kernel
  have tk := body_takes (P := P) (w := w) (K := K) (mg := mg) (base := base) (d := D_Desk_late_jobs) (N := ["self", "found", "machine", "job", "time"]) (cdv := cdv) (A := A) (outer := outer) (s := s) (H := H) (E := E)
  have pso : PassesOwn (model P w) _ _ _ := passes_of (X := bodyX P w K mg base D_Desk_late_jobs ["self", "found", "machine", "job", "time"] cdv A outer s H E) rfl
  exact (dss_cons (ds_set (i := 1) hN rfl (.inl rfl) (de_lst (fz := false) da_nil)) (dss_cons (ds_for pso rfl (di_any hK (de_mt0 (c := 0) (mn := 23) (np := 1) (ix := [0]) ((fn_Desk_machines G).mono (by decide)) hr rfl tk (fun _ _ _ _ _ _ us ws h1 h2 => match us, ws, h1, h2 with | [_], [], _, _ => rfl) rfl G.ck_Desk G.t_Desk_machines (de_var (i := 0) rfl (.inr (.inl rfl))))) (dg_name (i := 2) hN rfl (.inl rfl)) (dss_one (ds_expr (de_ml F.plainAttrs_list F.slot_list_extend F.type_list_extend mt_extendM (de_var (i := 1) rfl (.inl rfl)) (da_cons (de_lc (fz := true) rfl hN (di_any hK (de_mt (c := 0) (mn := 24) (np := 2) (ix := [0, 1]) ((fn_Desk_ends G).mono (by decide)) hr rfl tk (fun _ _ _ _ _ _ us ws h1 h2 => match us, ws, h1, h2 with | [_, _], [], _, _ => rfl) rfl G.ck_Desk G.t_Desk_ends (de_var (i := 0) rfl (.inr (.inl rfl))) (da_cons (de_var (i := 2) rfl (.inl rfl)) da_nil))) (own := [("job", 3), ("time", 4)]) (blkOk_by rfl) (fun _ _ _ _ _ _ => (dw_seq (n := 2) hK rfl (dws_cons (dw_name (i := 3) (by decide) hN rfl (.inl rfl)) (dws_cons (dw_name (i := 4) (by decide) hN rfl (.inl rfl)) dws_nil)))) (fun _ _ _ _ _ _ => (dts_one (dt_cmp m_gtI (de_var (i := 4) rfl (.inl rfl)) (de_ix hK (u1_of hu) (de_ix hK (u1_of hu) (de_ix hK (u1_of hu) (de_attr1 (c := 0) (f := 12) rfl hK G.c_Desk G.n_Desk__state (de_var (i := 0) rfl (.inr (.inl rfl)))) de_int (fun _ _ => rfl)) (de_var (i := 3) rfl (.inl rfl)) (fun _ _ => rfl)) de_int (fun _ _ => rfl)) (by wtm_at "mk")))) (fun _ _ _ _ _ _ => (de_var (i := 3) rfl (.inl rfl)))) da_nil))))) (dss_one (ds_ret (de_callB (c_sorted (fz := true) hK (u16_of hu)) rfl G.b_sorted bt_sorted (da_cons (de_var (i := 1) rfl (.inl rfl)) da_nil)))))))
def b__law_cell : SM := sRet (eIf (tB' (eBin ltI (eVar 1) (eCall cLen (aCons (eVar 0) (aNil))))) (eBin fIx (eVar 0) (eVar 1)) (eBin (addA true) (eBin (mulA true) (eC (.int 6007)) (eVar 1)) (eBin modI (eCall cInt (aCons (eCall cSum (aCons (eSl true (eVar 0) oNone (oSome (eC (.int 1)))) (aNil))) (aNil))) (eC (.int 1000033)))))
def m__law_cell : FM := fnM 2 0 b__law_cell
theorem fn__law_cell (G : GF K mg base) : FnE P w K mg base (gm K) 2 D__law_cell ["script", "k"] m__law_cell := fnE_of (k := 1) (N := ["script", "k"]) (ps := ["script", "k"]) (loc := 0) G.d__law_cell rfl rfl ⟨rfl, rfl, rfl, by decide +kernel, rfl, by decide +kernel, by decide +kernel⟩ rfl (fun h cdv A outer s H E hr => by
  have hr : Room 1 _ := hr
  have hu := hr.units
  have hK : (bodyX P w K mg base D__law_cell ["script", "k"] cdv A outer s H E).K = (gm K).K := rfl
  have hN : (["script", "k"] : List Str).Nodup := by decide +kernel
  have tk := body_takes (P := P) (w := w) (K := K) (mg := mg) (base := base) (d := D__law_cell) (N := ["script", "k"]) (cdv := cdv) (A := A) (outer := outer) (s := s) (H := H) (E := E)
  have pso : PassesOwn (model P w) _ _ _ := passes_of (X := bodyX P w K mg base D__law_cell ["script", "k"] cdv A outer s H E) rfl
  exact (dss_one (ds_ret (de_if (dt_cmp m_ltI (de_var (i := 1) rfl (.inl rfl)) (de_callB (c_len hK) rfl G.b_len bt_len (da_cons (de_var (i := 0) rfl (.inl rfl)) da_nil)) (by wtm_at "mk")) (de_ix hK (u1_of hu) (de_var (i := 0) rfl (.inl rfl)) (de_var (i := 1) rfl (.inl rfl)) (fun _ _ => rfl)) (de_bin (m_add (fz := true) hK) (de_bin (m_mul (fz := true)) de_int (de_var (i := 1) rfl (.inl rfl))) (de_bin m_modI (de_callTy c_int rfl G.b_int bt_int (da_cons (de_callB (c_sum hK rfl) rfl G.b_sum bt_sum (da_cons (de_sl (fz := true) hK (de_var (i := 0) rfl (.inl rfl)) do_none (do_some de_int)) da_nil)) da_nil)) de_int))))))
def b__law_box : SM := sRet (eLst false (aCons (eCall cAbs (aCons (eVar 0) (aNil))) (aCons (eBin geI (eCall cAbs (aCons (eVar 0) (aNil))) (eBin powI (eC (.int 10)) (eC (.int 18)))) (aCons (eBin modI (eCall cInt (aCons (eCall cAbs (aCons (eVar 0) (aNil))) (aNil))) (eC (.int 2147483629))) (aCons (eC (.int 0)) (aNil))))))
def m__law_box : FM := fnM 1 0 b__law_box
theorem fn__law_box (G : GF K mg base) : FnE P w K mg base (gm K) 2 D__law_box ["great"] m__law_box := fnE_of (k := 1) (N := ["great"]) (ps := ["great"]) (loc := 0) G.d__law_box rfl rfl ⟨rfl, rfl, rfl, by decide +kernel, rfl, by decide +kernel, by decide +kernel⟩ rfl (fun h cdv A outer s H E hr => by
  have hr : Room 1 _ := hr
  have hu := hr.units
  have hK : (bodyX P w K mg base D__law_box ["great"] cdv A outer s H E).K = (gm K).K := rfl
  have hN : (["great"] : List Str).Nodup := by decide +kernel
  have tk := body_takes (P := P) (w := w) (K := K) (mg := mg) (base := base) (d := D__law_box) (N := ["great"]) (cdv := cdv) (A := A) (outer := outer) (s := s) (H := H) (E := E)
  have pso : PassesOwn (model P w) _ _ _ := passes_of (X := bodyX P w K mg base D__law_box ["great"] cdv A outer s H E) rfl
  exact (dss_one (ds_ret (de_lst (fz := false) (da_cons (de_callB c_abs rfl G.b_abs bt_abs (da_cons (de_var (i := 0) rfl (.inl rfl)) da_nil)) (da_cons (de_cmp m_geI (de_callB c_abs rfl G.b_abs bt_abs (da_cons (de_var (i := 0) rfl (.inl rfl)) da_nil)) (de_bin m_powI de_int de_int) (by wtm_at "mk")) (da_cons (de_bin m_modI (de_callTy c_int rfl G.b_int bt_int (da_cons (de_callB c_abs rfl G.b_abs bt_abs (da_cons (de_var (i := 0) rfl (.inl rfl)) da_nil)) da_nil)) de_int) (da_cons de_int da_nil))))))))
def b__law_take : SM := sSeq (sIf (tAnd (tTru (eBin fIx (eVar 0) (eC (.int 1)))) (tB' (eBin gtI (eBin fIx (eVar 0) (eC (.int 0))) (eC (.int 0))))) (sSeq (sSet 2 (eBin modI (eCall cInt (aCons (eBin fIx (eVar 0) (eC (.int 0))) (aNil))) (eVar 1))) (sSeq (sSub (eVar 0) (eC (.int 0)) (eBin fdivI (eBin fIx (eVar 0) (eC (.int 0))) (eVar 1))) (sRet (eVar 2)))) (sNil)) (sSeq (sSub (eVar 0) (eC (.int 3)) (eBin (addA true) (eBin fIx (eVar 0) (eC (.int 3))) (eC (.int 1)))) (sSeq (sSet 3 (eBin modI (eCall cInt (aCons (eBin powI (eBin (addA true) (eBin (addA true) (eBin fIx (eVar 0) (eC (.int 2))) (eBin (mulA true) (eC (.int 15485863)) (eBin fIx (eVar 0) (eC (.int 3))))) (eC (.int 179424673))) (eC (.int 5))) (aNil))) (eC (.int 2147483647)))) (sRet (eBin modI (eCall cInt (aCons (eBin fdivI (eBin modI (eCall cInt (aCons (eBin powI (eBin (addA true) (eBin (mulA true) (eVar 3) (eC (.int 48271))) (eBin (mulA true) (eC (.int 104729)) (eBin fIx (eVar 0) (eC (.int 3))))) (eC (.int 3))) (aNil))) (eC (.int 2147483587))) (eC (.int 64))) (aNil))) (eVar 1)))))
def m__law_take : FM := fnM 2 2 b__law_take
theorem fn__law_take (G : GF K mg base) : FnE P w K mg base (gm K) 2 D__law_take ["box", "many"] m__law_take := fnE_of (k := 1) (N := ["box", "many", "digit", "mixed"]) (ps := ["box", "many"]) (loc := 2) G.d__law_take rfl rfl ⟨rfl, rfl, rfl, by decide +kernel, rfl, by decide +kernel, by decide +kernel⟩ rfl (fun h cdv A outer s H E hr => by
  have hr : Room 1 _ := hr
  have hu := hr.units
  have hK : (bodyX P w K mg base D__law_take ["box", "many", "digit", "mixed"] cdv A outer s H E).K = (gm K).K := rfl
  have hN : (["box", "many", "digit", "mixed"] : List Str).Nodup := by decide +kernel
  have tk := body_takes (P := P) (w := w) (K := K) (mg := mg) (base := base) (d := D__law_take) (N := ["box", "many", "digit", "mixed"]) (cdv := cdv) (A := A) (outer := outer) (s := s) (H := H) (E := E)
  have pso : PassesOwn (model P w) _ _ _ := passes_of (X := bodyX P w K mg base D__law_take ["box", "many", "digit", "mixed"] cdv A outer s H E) rfl
  exact (dss_cons (ds_if (dt_w (dw_and (dt_tru hK (de_ix hK (u1_of hu) (de_var (i := 0) rfl (.inl rfl)) de_int (fun _ _ => rfl))) (dw_and1 (dt_cmp m_gtI (de_ix hK (u1_of hu) (de_var (i := 0) rfl (.inl rfl)) de_int (fun _ _ => rfl)) de_int (by wtm_at "mk"))))) (dss_cons (ds_set (i := 2) hN rfl (.inl rfl) (de_bin m_modI (de_callTy c_int rfl G.b_int bt_int (da_cons (de_ix hK (u1_of hu) (de_var (i := 0) rfl (.inl rfl)) de_int (fun _ _ => rfl)) da_nil)) (de_var (i := 1) rfl (.inl rfl)))) (dss_cons (ds_sub (u1_of hu) (de_var (i := 0) rfl (.inl rfl)) de_int (de_bin m_fdivI (de_ix hK (u1_of hu) (de_var (i := 0) rfl (.inl rfl)) de_int (fun _ _ => rfl)) (de_var (i := 1) rfl (.inl rfl)))) (dss_one (ds_ret (de_var (i := 2) rfl (.inl rfl)))))) dss_nil) (dss_cons (ds_sub (u1_of hu) (de_var (i := 0) rfl (.inl rfl)) de_int (de_bin (m_add (fz := true) hK) (de_ix hK (u1_of hu) (de_var (i := 0) rfl (.inl rfl)) de_int (fun _ _ => rfl)) de_int)) (dss_cons (ds_set (i := 3) hN rfl (.inl rfl) (de_bin m_modI (de_callTy c_int rfl G.b_int bt_int (da_cons (de_bin m_powI (de_bin (m_add (fz := true) hK) (de_bin (m_add (fz := true) hK) (de_ix hK (u1_of hu) (de_var (i := 0) rfl (.inl rfl)) de_int (fun _ _ => rfl)) (de_bin (m_mul (fz := true)) de_int (de_ix hK (u1_of hu) (de_var (i := 0) rfl (.inl rfl)) de_int (fun _ _ => rfl)))) de_int) de_int) da_nil)) de_int)) (dss_one (ds_ret (de_bin m_modI (de_callTy c_int rfl G.b_int bt_int (da_cons (de_bin m_fdivI (de_bin m_modI (de_callTy c_int rfl G.b_int bt_int (da_cons (de_bin m_powI (de_bin (m_add (fz := true) hK) (de_bin (m_mul (fz := true)) (de_var (i := 3) rfl (.inl rfl)) de_int) (de_bin (m_mul (fz := true)) de_int (de_ix hK (u1_of hu) (de_var (i := 0) rfl (.inl rfl)) de_int (fun _ _ => rfl)))) de_int) da_nil)) de_int) de_int) da_nil)) (de_var (i := 1) rfl (.inl rfl)))))))))
def b__law_same (m : FM) : SM := sSeq (sIf (tOr (tB' (eBin isA (eVar 1) (eC .non))) (tTru (eIsi [1] (eVar 1)))) (sRet (eIf (tB' (eBin isA (eVar 1) (eC .non))) (eBin isA (eVar 0) (eC .non)) (eAnd (eIsi [1] (eVar 0)) (eBin eqA (eBin isA (eVar 0) (eC (.bl true))) (eBin isA (eVar 1) (eC (.bl true))))))) (sNil)) (sSeq (sIf (tTru (eIsi [2] (eVar 1))) (sRet (eAnd (eIsi [2] (eVar 0)) (eAnd (eNot (eIsi [1] (eVar 0))) (eBin eqA (eBin subI (eCall cInt (aCons (eVar 0) (aNil))) (eVar 1)) (eC (.int 0)))))) (sNil)) (sSeq (sIf (tTru (eIsi [3] (eVar 1))) (sRet (eAnd (eIsi [3] (eVar 0)) (eAnd (eBin eqA (eCall cLen (aCons (eVar 0) (aNil))) (eCall cLen (aCons (eVar 1) (aNil)))) (eBin eqA (eLc true (iRg1 (aCons (eCall cLen (aCons (eVar 1) (aNil))) (aNil))) (gN 2) (tB' (eBin neA (eSl true (eVar 0) (oSome (eVar 2)) (oSome (eBin (addA true) (eVar 2) (eC (.int 1))))) (eBin fIx (eVar 1) (eVar 2)))) (eVar 2) [2]) (eLst true (aNil)))))) (sNil)) (sSeq (sIf (tTru (eIsi [6] (eVar 1))) (sRet (eAnd (eIsi [6] (eVar 0)) (eAnd (eBin eqA (eCall cLen (aCons (eVar 0) (aNil))) (eCall cLen (aCons (eVar 1) (aNil)))) (eBin eqA (eLc true (iAny (eVar 1)) (gN 3) (tOr (tB' (eBin niA (eVar 3) (eVar 0))) (tNot (tTru (eFn 2 [0, 1] m (aCons (eBin fIx (eVar 0) (eVar 3)) (aCons (eBin fIx (eVar 1) (eVar 3)) (aNil))))))) (eVar 3) [3]) (eLst true (aNil)))))) (sNil)) (sSeq (sIf (tOr (tNot (tTru (eIsi [5, 4] (eVar 0)))) (tOr (tB' (eBin neA (eIsi [5] (eVar 0)) (eIsi [5] (eVar 1)))) (tB' (eBin neA (eCall cLen (aCons (eVar 0) (aNil))) (eCall cLen (aCons (eVar 1) (aNil))))))) (sRet (eC (.bl false))) (sNil)) (sRet (eBin eqA (eLc true (iRg1 (aCons (eCall cLen (aCons (eVar 1) (aNil))) (aNil))) (gN 2) (tNot (tTru (eFn 2 [0, 1] m (aCons (eBin fIx (eVar 0) (eVar 2)) (aCons (eBin fIx (eVar 1) (eVar 2)) (aNil)))))) (eVar 2) [2]) (eLst true (aNil))))))))
def m__law_same : Nat → FM
  | 0 => fun _ _ => .stuck
  | n + 1 => fnM 2 2 (b__law_same (m__law_same n))
theorem fn__law_same (G : GF K mg base) : ∀ n : Nat, FnE P w K mg base (gm K) (n + 1) D__law_same ["told", "due"] (m__law_same n)
  | 0 => fnE_stuck G.d__law_same rfl rfl
  | n + 1 => (fnE_of (k := n + 1) (N := ["told", "due", "k", "key"]) (ps := ["told", "due"]) (loc := 2) G.d__law_same rfl rfl ⟨rfl, rfl, rfl, by decide +kernel, rfl, by decide +kernel, by decide +kernel⟩ rfl (fun h cdv A outer s H E hr => by
      have hr : Room (n + 1) _ := hr
      have hu := hr.units
      have hK : (bodyX P w K mg base D__law_same ["told", "due", "k", "key"] cdv A outer s H E).K = (gm K).K := rfl
      have hN : (["told", "due", "k", "key"] : List Str).Nodup := by decide +kernel
      have tk := body_takes (P := P) (w := w) (K := K) (mg := mg) (base := base) (d := D__law_same) (N := ["told", "due", "k", "key"]) (cdv := cdv) (A := A) (outer := outer) (s := s) (H := H) (E := E)
      have pso : PassesOwn (model P w) _ _ _ := passes_of (X := bodyX P w K mg base D__law_same ["told", "due", "k", "key"] cdv A outer s H E) rfl
      have F := fn__law_same G n
      exact (dss_cons (ds_if (dt_w (dw_or (dt_cmp m_is (de_var (i := 1) rfl (.inr (.inl rfl))) de_non (by wtm_at "mk")) (dw_or1 (dt_tru hK (de_isi1 (t := 1) hK rfl G.b_isinstance bt_isinstance (by decide) rfl G.b_bool bt_bool (de_var (i := 1) rfl (.inr (.inl rfl)))))))) (dss_one (ds_ret (de_if (dt_cmp m_is (de_var (i := 1) rfl (.inr (.inl rfl))) de_non (by wtm_at "mk")) (de_cmp m_is (de_var (i := 0) rfl (.inr (.inl rfl))) de_non (by wtm_at "mk")) (de_and hK (de_isi1 (t := 1) hK rfl G.b_isinstance bt_isinstance (by decide) rfl G.b_bool bt_bool (de_var (i := 0) rfl (.inr (.inl rfl)))) (de_one (de_cmp (m_eq hK hu) (de_cmp m_is (de_var (i := 0) rfl (.inr (.inl rfl))) de_bl (by wtm_at "mk")) (de_cmp m_is (de_var (i := 1) rfl (.inr (.inl rfl))) de_bl (by wtm_at "mk")) (by wtm_at "mk"))))))) dss_nil) (dss_cons (ds_if (dt_tru hK (de_isi1 (t := 2) hK rfl G.b_isinstance bt_isinstance (by decide) rfl G.b_int bt_int (de_var (i := 1) rfl (.inr (.inl rfl))))) (dss_one (ds_ret (de_and hK (de_isi1 (t := 2) hK rfl G.b_isinstance bt_isinstance (by decide) rfl G.b_int bt_int (de_var (i := 0) rfl (.inr (.inl rfl)))) (de_and hK (de_not hK (de_isi1 (t := 1) hK rfl G.b_isinstance bt_isinstance (by decide) rfl G.b_bool bt_bool (de_var (i := 0) rfl (.inr (.inl rfl))))) (de_one (de_cmp (m_eq hK hu) (de_bin m_subI (de_callTy c_int rfl G.b_int bt_int (da_cons (de_var (i := 0) rfl (.inr (.inl rfl))) da_nil)) (de_var (i := 1) rfl (.inr (.inl rfl)))) de_int (by wtm_at "mk"))))))) dss_nil) (dss_cons (ds_if (dt_tru hK (de_isi1 (t := 3) hK rfl G.b_isinstance bt_isinstance (by decide) rfl G.b_str bt_str (de_var (i := 1) rfl (.inr (.inl rfl))))) (dss_one (ds_ret (de_and hK (de_isi1 (t := 3) hK rfl G.b_isinstance bt_isinstance (by decide) rfl G.b_str bt_str (de_var (i := 0) rfl (.inr (.inl rfl)))) (de_and hK (de_cmp (m_eq hK hu) (de_callB (c_len hK) rfl G.b_len bt_len (da_cons (de_var (i := 0) rfl (.inr (.inl rfl))) da_nil)) (de_callB (c_len hK) rfl G.b_len bt_len (da_cons (de_var (i := 1) rfl (.inr (.inl rfl))) da_nil)) (by wtm_at "mk")) (de_one (de_cmp (m_eq hK hu) (de_lc (fz := true) rfl hN (di_range1 rfl G.b_range (da_cons (de_callB (c_len hK) rfl G.b_len bt_len (da_cons (de_var (i := 1) rfl (.inr (.inl rfl))) da_nil)) da_nil)) (own := [("k", 2)]) (blkOk_by rfl) (fun _ _ _ _ _ _ => (dw_name (i := 2) (by decide) hN rfl (.inl rfl))) (fun _ _ _ _ _ _ => (dts_one (dt_cmp (m_ne hK hu) (de_sl (fz := true) hK (de_var (i := 0) rfl (.inr (.inl rfl))) (do_some (de_var (i := 2) rfl (.inl rfl))) (do_some (de_bin (m_add (fz := true) hK) (de_var (i := 2) rfl (.inl rfl)) de_int))) (de_ix hK (u1_of hu) (de_var (i := 1) rfl (.inr (.inl rfl))) (de_var (i := 2) rfl (.inl rfl)) (fun _ _ => rfl)) (by wtm_at "mk")))) (fun _ _ _ _ _ _ => (de_var (i := 2) rfl (.inl rfl)))) (de_lst (fz := true) da_nil) (by wtm_at "mk"))))))) dss_nil) (dss_cons (ds_if (dt_tru hK (de_isi1 (t := 6) hK rfl G.b_isinstance bt_isinstance (by decide) rfl G.b_dict bt_dict (de_var (i := 1) rfl (.inr (.inl rfl))))) (dss_one (ds_ret (de_and hK (de_isi1 (t := 6) hK rfl G.b_isinstance bt_isinstance (by decide) rfl G.b_dict bt_dict (de_var (i := 0) rfl (.inr (.inl rfl)))) (de_and hK (de_cmp (m_eq hK hu) (de_callB (c_len hK) rfl G.b_len bt_len (da_cons (de_var (i := 0) rfl (.inr (.inl rfl))) da_nil)) (de_callB (c_len hK) rfl G.b_len bt_len (da_cons (de_var (i := 1) rfl (.inr (.inl rfl))) da_nil)) (by wtm_at "mk")) (de_one (de_cmp (m_eq hK hu) (de_lc (fz := true) rfl hN (di_any hK (de_var (i := 1) rfl (.inr (.inl rfl)))) (own := [("key", 3)]) (blkOk_by rfl) (fun _ _ _ _ _ _ => (dw_name (i := 3) (by decide) hN rfl (.inl rfl))) (fun _ _ _ _ _ _ => (dts_one (dt_w (dw_or (dt_cmp (m_ni hK hu) (de_var (i := 3) rfl (.inl rfl)) (de_var (i := 0) rfl (.inr (.inl rfl))) (by wtm_at "mk")) (dw_or1 (dt_not (dt_tru hK (de_fn (np := 2) (ix := [0, 1]) F hr rfl takesF (fun _ _ _ _ _ _ us ws h1 h2 => match us, ws, h1, h2 with | [_, _], [], _, _ => rfl) rfl G.g__law_same (da_cons (de_ix hK (u1_of hu) (de_var (i := 0) rfl (.inr (.inl rfl))) (de_var (i := 3) rfl (.inl rfl)) (fun _ _ => rfl)) (da_cons (de_ix hK (u1_of hu) (de_var (i := 1) rfl (.inr (.inl rfl))) (de_var (i := 3) rfl (.inl rfl)) (fun _ _ => rfl)) da_nil)))))))))) (fun _ _ _ _ _ _ => (de_var (i := 3) rfl (.inl rfl)))) (de_lst (fz := true) da_nil) (by wtm_at "mk"))))))) dss_nil) (dss_cons (ds_if (dt_w (dw_or (dt_not (dt_tru hK (de_isi2 (t := 5) (t2 := 4) hK rfl G.b_isinstance bt_isinstance (by decide) (by decide) rfl G.b_list bt_list rfl G.b_tuple bt_tuple (de_var (i := 0) rfl (.inr (.inl rfl)))))) (dw_or (dt_cmp (m_ne hK hu) (de_isi1 (t := 5) hK rfl G.b_isinstance bt_isinstance (by decide) rfl G.b_list bt_list (de_var (i := 0) rfl (.inr (.inl rfl)))) (de_isi1 (t := 5) hK rfl G.b_isinstance bt_isinstance (by decide) rfl G.b_list bt_list (de_var (i := 1) rfl (.inr (.inl rfl)))) (by wtm_at "mk")) (dw_or1 (dt_cmp (m_ne hK hu) (de_callB (c_len hK) rfl G.b_len bt_len (da_cons (de_var (i := 0) rfl (.inr (.inl rfl))) da_nil)) (de_callB (c_len hK) rfl G.b_len bt_len (da_cons (de_var (i := 1) rfl (.inr (.inl rfl))) da_nil)) (by wtm_at "mk")))))) (dss_one (ds_ret de_bl)) dss_nil) (dss_one (ds_ret (de_cmp (m_eq hK hu) (de_lc (fz := true) rfl hN (di_range1 rfl G.b_range (da_cons (de_callB (c_len hK) rfl G.b_len bt_len (da_cons (de_var (i := 1) rfl (.inr (.inl rfl))) da_nil)) da_nil)) (own := [("k", 2)]) (blkOk_by rfl) (fun _ _ _ _ _ _ => (dw_name (i := 2) (by decide) hN rfl (.inl rfl))) (fun _ _ _ _ _ _ => (dts_one (dt_not (dt_tru hK (de_fn (np := 2) (ix := [0, 1]) F hr rfl takesF (fun _ _ _ _ _ _ us ws h1 h2 => match us, ws, h1, h2 with | [_, _], [], _, _ => rfl) rfl G.g__law_same (da_cons (de_ix hK (u1_of hu) (de_var (i := 0) rfl (.inr (.inl rfl))) (de_var (i := 2) rfl (.inl rfl)) (fun _ _ => rfl)) (da_cons (de_ix hK (u1_of hu) (de_var (i := 1) rfl (.inr (.inl rfl))) (de_var (i := 2) rfl (.inl rfl)) (fun _ _ => rfl)) da_nil))))))) (fun _ _ _ _ _ _ => (de_var (i := 2) rfl (.inl rfl)))) (de_lst (fz := true) da_nil) (by wtm_at "mk"))))))))))).mono (by omega)
def b__law_very : SM := sSeq (sIf (tNot (tTru (eFn 2 [0, 1] (m__law_same 9) (aCons (eVar 0) (aCons (eVar 1) (aNil)))))) (sRet (eC (.bl false))) (sNil)) (sSeq (sIf (tTru (eIsi [5] (eVar 1))) (sExpr (eMl mInsert (eVar 1) (aCons (eC (.int 0)) (aCons (eC (.str [109, 111, 114, 101])) (aNil))))) (sNil)) (sSeq (sIf (tTru (eIsi [6] (eVar 1))) (sSub (eVar 1) (eC (.str [109, 111, 114, 101])) (eC (.int 1))) (sNil)) (sRet (eFn 2 [0, 1] (m__law_same 9) (aCons (eVar 0) (aCons (eVar 1) (aNil)))))))
def m__law_very : FM := fnM 2 0 b__law_very
theorem fn__law_very (G : GF K mg base) : FnE P w K mg base (gm K) 11 D__law_very ["given", "value"] m__law_very := fnE_of (k := 10) (N := ["given", "value"]) (ps := ["given", "value"]) (loc := 0) G.d__law_very rfl rfl ⟨rfl, rfl, rfl, by decide +kernel, rfl, by decide +kernel, by decide +kernel⟩ rfl (fun h cdv A outer s H E hr => by
  have hr : Room 10 _ := hr
  have hu := hr.units
  have hK : (bodyX P w K mg base D__law_very ["given", "value"] cdv A outer s H E).K = (gm K).K := rfl
  have hN : (["given", "value"] : List Str).Nodup := by decide +kernel
  have tk := body_takes (P := P) (w := w) (K := K) (mg := mg) (base := base) (d := D__law_very) (N := ["given", "value"]) (cdv := cdv) (A := A) (outer := outer) (s := s) (H := H) (E := E)
  have pso : PassesOwn (model P w) _ _ _ := passes_of (X := bodyX P w K mg base D__law_very ["given", "value"] cdv A outer s H E) rfl
  exact (dss_cons (ds_if (dt_not (dt_tru hK (de_fn (np := 2) (ix := [0, 1]) ((fn__law_same G 9).mono (by decide)) hr rfl tk (fun _ _ _ _ _ _ us ws h1 h2 => match us, ws, h1, h2 with | [_, _], [], _, _ => rfl) rfl G.g__law_same (da_cons (de_var (i := 0) rfl (.inl rfl)) (da_cons (de_var (i := 1) rfl (.inl rfl)) da_nil))))) (dss_one (ds_ret de_bl)) dss_nil) (dss_cons (ds_if (dt_tru hK (de_isi1 (t := 5) hK rfl G.b_isinstance bt_isinstance (by decide) rfl G.b_list bt_list (de_var (i := 1) rfl (.inl rfl)))) (dss_one (ds_expr (de_ml F.plainAttrs_list F.slot_list_insert F.type_list_insert mt_insertM (de_var (i := 1) rfl (.inl rfl)) (da_cons de_int (da_cons (de_str (l := [109, 111, 114, 101]) rfl) da_nil))))) dss_nil) (dss_cons (ds_if (dt_tru hK (de_isi1 (t := 6) hK rfl G.b_isinstance bt_isinstance (by decide) rfl G.b_dict bt_dict (de_var (i := 1) rfl (.inl rfl)))) (dss_one (ds_sub (u1_of hu) (de_var (i := 1) rfl (.inl rfl)) (de_str (l := [109, 111, 114, 101]) rfl) de_int)) dss_nil) (dss_one (ds_ret (de_fn (np := 2) (ix := [0, 1]) ((fn__law_same G 9).mono (by decide)) hr rfl tk (fun _ _ _ _ _ _ us ws h1 h2 => match us, ws, h1, h2 with | [_, _], [], _, _ => rfl) rfl G.g__law_same (da_cons (de_var (i := 0) rfl (.inl rfl)) (da_cons (de_var (i := 1) rfl (.inl rfl)) da_nil)))))))))
def b__law_letters_name : SM := sRet (eAnd (eIsi [3] (eVar 0)) (eAnd (eChain leI leI (eC (.int 2)) (eCall cLen (aCons (eVar 0) (aNil))) (eC (.int 8))) (eBin eqA (eLc true (iAny (eVar 0)) (gN 1) (tB' (eBin niA (eVar 1) (eC (.str [97, 98, 99, 100, 101, 102, 103, 104, 105, 106, 107, 108, 109, 110, 111, 112, 113, 114, 115, 116, 117, 118, 119, 120, 121, 122])))) (eVar 1) [1]) (eLst true (aNil)))))
def m__law_letters_name : FM := fnM 1 1 b__law_letters_name
theorem fn__law_letters_name (G : GF K mg base) : FnE P w K mg base (gm K) 2 D__law_letters_name ["value"] m__law_letters_name := fnE_of (k := 1) (N := ["value", "sign"]) (ps := ["value"]) (loc := 1) G.d__law_letters_name rfl rfl ⟨rfl, rfl, rfl, by decide +kernel, rfl, by decide +kernel, by decide +kernel⟩ rfl (fun h cdv A outer s H E hr => by
  have hr : Room 1 _ := hr
  have hu := hr.units
  have hK : (bodyX P w K mg base D__law_letters_name ["value", "sign"] cdv A outer s H E).K = (gm K).K := rfl
  have hN : (["value", "sign"] : List Str).Nodup := by decide +kernel
  have tk := body_takes (P := P) (w := w) (K := K) (mg := mg) (base := base) (d := D__law_letters_name) (N := ["value", "sign"]) (cdv := cdv) (A := A) (outer := outer) (s := s) (H := H) (E := E)
  have pso : PassesOwn (model P w) _ _ _ := passes_of (X := bodyX P w K mg base D__law_letters_name ["value", "sign"] cdv A outer s H E) rfl
  exact (dss_one (ds_ret (de_and hK (de_isi1 (t := 3) hK rfl G.b_isinstance bt_isinstance (by decide) rfl G.b_str bt_str (de_var (i := 0) rfl (.inl rfl))) (de_and hK (de_chain m_leI m_leI de_int (de_callB (c_len hK) rfl G.b_len bt_len (da_cons (de_var (i := 0) rfl (.inl rfl)) da_nil)) de_int (by wtm_at "mk")) (de_one (de_cmp (m_eq hK hu) (de_lc (fz := true) rfl hN (di_any hK (de_var (i := 0) rfl (.inl rfl))) (own := [("sign", 1)]) (blkOk_by rfl) (fun _ _ _ _ _ _ => (dw_name (i := 1) (by decide) hN rfl (.inl rfl))) (fun _ _ _ _ _ _ => (dts_one (dt_cmp (m_ni hK hu) (de_var (i := 1) rfl (.inl rfl)) (de_str (l := [97, 98, 99, 100, 101, 102, 103, 104, 105, 106, 107, 108, 109, 110, 111, 112, 113, 114, 115, 116, 117, 118, 119, 120, 121, 122]) rfl) (by wtm_at "mk")))) (fun _ _ _ _ _ _ => (de_var (i := 1) rfl (.inl rfl)))) (de_lst (fz := true) da_nil) (by wtm_at "mk"))))))))
def b__law_is_between : SM := sRet (eAnd (eIsi [2] (eVar 0)) (eAnd (eNot (eIsi [1] (eVar 0))) (eChain leI leI (eVar 1) (eVar 0) (eVar 2))))
def m__law_is_between : FM := fnM 3 0 b__law_is_between
theorem fn__law_is_between (G : GF K mg base) : FnE P w K mg base (gm K) 2 D__law_is_between ["value", "low", "high"] m__law_is_between := fnE_of (k := 1) (N := ["value", "low", "high"]) (ps := ["value", "low", "high"]) (loc := 0) G.d__law_is_between rfl rfl ⟨rfl, rfl, rfl, by decide +kernel, rfl, by decide +kernel, by decide +kernel⟩ rfl (fun h cdv A outer s H E hr => by
  have hr : Room 1 _ := hr
  have hu := hr.units
  have hK : (bodyX P w K mg base D__law_is_between ["value", "low", "high"] cdv A outer s H E).K = (gm K).K := rfl
  have hN : (["value", "low", "high"] : List Str).Nodup := by decide +kernel
  have tk := body_takes (P := P) (w := w) (K := K) (mg := mg) (base := base) (d := D__law_is_between) (N := ["value", "low", "high"]) (cdv := cdv) (A := A) (outer := outer) (s := s) (H := H) (E := E)
  have pso : PassesOwn (model P w) _ _ _ := passes_of (X := bodyX P w K mg base D__law_is_between ["value", "low", "high"] cdv A outer s H E) rfl
  exact (dss_one (ds_ret (de_and hK (de_isi1 (t := 2) hK rfl G.b_isinstance bt_isinstance (by decide) rfl G.b_int bt_int (de_var (i := 0) rfl (.inl rfl))) (de_and hK (de_not hK (de_isi1 (t := 1) hK rfl G.b_isinstance bt_isinstance (by decide) rfl G.b_bool bt_bool (de_var (i := 0) rfl (.inl rfl)))) (de_one (de_chain m_leI m_leI (de_var (i := 1) rfl (.inl rfl)) (de_var (i := 0) rfl (.inl rfl)) (de_var (i := 2) rfl (.inl rfl)) (by wtm_at "mk"))))))))
def b__law_moved : SM := sSeq (sAsg (eVar 0) (gSeq 2 (gCons' (gN 4) (gCons' (gN 5) (gNil'))))) (sSeq (sSet 6 (eCall cDict (aCons (eLc true (iAny (eVar 4)) (gN 7) (tYes') (eTup (aCons (eVar 7) (aCons (eLc true (iAny (eBin fIx (eVar 4) (eVar 7))) (gN 8) (tB' (eBin neA (eVar 8) (eVar 1))) (eVar 8) [8]) (aNil)))) [7]) (aNil)))) (sSeq (sIf (tB' (eBin isnA (eVar 2) (eC .non))) (sSub (eVar 6) (eVar 2) (eIf (tTru (eVar 3)) (eBin (addA true) (eLst true (aCons (eVar 1) (aNil))) (eBin fIx (eVar 6) (eVar 2))) (eBin (addA true) (eBin fIx (eVar 6) (eVar 2)) (eLst true (aCons (eVar 1) (aNil)))))) (sNil)) (sRet (eLst true (aCons (eFrz (eVar 6)) (aCons (eVar 5) (aNil)))))))
def m__law_moved : FM := fnM 4 5 b__law_moved
theorem fn__law_moved (G : GF K mg base) : FnE P w K mg base (gm K) 2 D__law_moved ["state", "job", "machine", "front"] m__law_moved := fnE_of (k := 1) (N := ["state", "job", "machine", "front", "queues", "jobs", "found", "name", "one"]) (ps := ["state", "job", "machine", "front"]) (loc := 5) G.d__law_moved rfl rfl ⟨rfl, rfl, rfl, by decide +kernel, rfl, by decide +kernel, by decide +kernel⟩ rfl (fun h cdv A outer s H E hr => by
  have hr : Room 1 _ := hr
  have hu := hr.units
  have hK : (bodyX P w K mg base D__law_moved ["state", "job", "machine", "front", "queues", "jobs", "found", "name", "one"] cdv A outer s H E).K = (gm K).K := rfl
  have hN : (["state", "job", "machine", "front", "queues", "jobs", "found", "name", "one"] : List Str).Nodup := by decide +kernel
  have tk := body_takes (P := P) (w := w) (K := K) (mg := mg) (base := base) (d := D__law_moved) (N := ["state", "job", "machine", "front", "queues", "jobs", "found", "name", "one"]) (cdv := cdv) (A := A) (outer := outer) (s := s) (H := H) (E := E)
  have pso : PassesOwn (model P w) _ _ _ := passes_of (X := bodyX P w K mg base D__law_moved ["state", "job", "machine", "front", "queues", "jobs", "found", "name", "one"] cdv A outer s H E) rfl
  exact (dss_cons (ds_asg (de_var (i := 0) rfl (.inl rfl)) (dg_seq (n := 2) hK rfl (dgs_cons (dg_name (i := 4) hN rfl (.inr rfl)) (dgs_cons (dg_name (i := 5) hN rfl (.inl rfl)) dgs_nil)))) (dss_cons (ds_set (i := 6) hN rfl (.inl rfl) (de_callTy (c_dict hK rfl) rfl G.b_dict bt_dict (da_cons (de_lc (fz := true) rfl hN (di_any hK (de_var (i := 4) rfl (.inr (.inl rfl)))) (own := [("name", 7)]) (blkOk_by rfl) (fun _ _ _ _ _ _ => (dw_name (i := 7) (by decide) hN rfl (.inl rfl))) (fun _ _ _ _ _ _ => dts_nil) (fun _ _ _ _ _ _ => (de_tup (da_cons (de_var (i := 7) rfl (.inl rfl)) (da_cons (de_lc (fz := true) rfl hN (di_any hK (de_ix hK (u1_of hu) (de_var (i := 4) rfl (.inr (.inl rfl))) (de_var (i := 7) rfl (.inl rfl)) (fun _ _ => rfl))) (own := [("one", 8)]) (blkOk_by rfl) (fun _ _ _ _ _ _ => (dw_name (i := 8) (by decide) hN rfl (.inl rfl))) (fun _ _ _ _ _ _ => (dts_one (dt_cmp (m_ne hK hu) (de_var (i := 8) rfl (.inl rfl)) (de_var (i := 1) rfl (.inr (.inl rfl))) (by wtm_at "mk")))) (fun _ _ _ _ _ _ => (de_var (i := 8) rfl (.inl rfl)))) da_nil))))) da_nil))) (dss_cons (ds_if (dt_cmp m_isn (de_var (i := 2) rfl (.inl rfl)) de_non (by wtm_at "mk")) (dss_one (ds_sub (u1_of hu) (de_var (i := 6) rfl (.inl rfl)) (de_var (i := 2) rfl (.inl rfl)) (de_if (dt_tru hK (de_var (i := 3) rfl (.inl rfl))) (de_bin (m_add (fz := true) hK) (de_lst (fz := true) (da_cons (de_var (i := 1) rfl (.inr (.inl rfl))) da_nil)) (de_ix hK (u1_of hu) (de_var (i := 6) rfl (.inl rfl)) (de_var (i := 2) rfl (.inl rfl)) (fun _ _ => rfl))) (de_bin (m_add (fz := true) hK) (de_ix hK (u1_of hu) (de_var (i := 6) rfl (.inl rfl)) (de_var (i := 2) rfl (.inl rfl)) (fun _ _ => rfl)) (de_lst (fz := true) (da_cons (de_var (i := 1) rfl (.inr (.inl rfl))) da_nil)))))) dss_nil) (dss_one (ds_ret (de_lst (fz := true) (da_cons (de_frz (de_var (i := 6) rfl (.inl rfl))) (da_cons (de_var (i := 5) rfl (.inl rfl)) da_nil)))))))))
def b__law_waiting : SM := sSeq (sAsg (eVar 0) (gSeq 2 (gCons' (gN 1) (gCons' (gN 2) (gNil'))))) (sSeq (sSet 3 (eLst true (aNil))) (sSeq (sFor (iAny (eVar 1)) (gN 4) (sSet 3 (eBin (addA true) (eVar 3) (eBin fIx (eVar 1) (eVar 4))))) (sRet (eLc true (iAny (eCall (cSorted true) (aCons (eCall (cList true) (aCons (eVar 2) (aNil))) (aNil)))) (gN 5) (tB' (eBin niA (eVar 5) (eVar 3))) (eVar 5) [5]))))
def m__law_waiting : FM := fnM 1 5 b__law_waiting
theorem fn__law_waiting (G : GF K mg base) : FnE P w K mg base (gm K) 2 D__law_waiting ["state"] m__law_waiting := fnE_of (k := 1) (N := ["state", "queues", "jobs", "given", "name", "job"]) (ps := ["state"]) (loc := 5) G.d__law_waiting rfl rfl ⟨rfl, rfl, rfl, by decide +kernel, rfl, by decide +kernel, by decide +kernel⟩ rfl (fun h cdv A outer s H E hr => by
  have hr : Room 1 _ := hr
  have hu := hr.units
  have hK : (bodyX P w K mg base D__law_waiting ["state", "queues", "jobs", "given", "name", "job"] cdv A outer s H E).K = (gm K).K := rfl
  have hN : (["state", "queues", "jobs", "given", "name", "job"] : List Str).Nodup := by decide +kernel
  have tk := body_takes (P := P) (w := w) (K := K) (mg := mg) (base := base) (d := D__law_waiting) (N := ["state", "queues", "jobs", "given", "name", "job"]) (cdv := cdv) (A := A) (outer := outer) (s := s) (H := H) (E := E)
  have pso : PassesOwn (model P w) _ _ _ := passes_of (X := bodyX P w K mg base D__law_waiting ["state", "queues", "jobs", "given", "name", "job"] cdv A outer s H E) rfl
  exact (dss_cons (ds_asg (de_var (i := 0) rfl (.inl rfl)) (dg_seq (n := 2) hK rfl (dgs_cons (dg_name (i := 1) hN rfl (.inl rfl)) (dgs_cons (dg_name (i := 2) hN rfl (.inl rfl)) dgs_nil)))) (dss_cons (ds_set (i := 3) hN rfl (.inr rfl) (de_lst (fz := true) da_nil)) (dss_cons (ds_for pso rfl (di_any hK (de_var (i := 1) rfl (.inl rfl))) (dg_name (i := 4) hN rfl (.inl rfl)) (dss_one (ds_set (i := 3) hN rfl (.inr rfl) (de_bin (m_add (fz := true) hK) (de_var (i := 3) rfl (.inr (.inl rfl))) (de_ix hK (u1_of hu) (de_var (i := 1) rfl (.inl rfl)) (de_var (i := 4) rfl (.inl rfl)) (fun _ _ => rfl)))))) (dss_one (ds_ret (de_lc (fz := true) rfl hN (di_any hK (de_callB (c_sorted (fz := true) hK (u16_of hu)) rfl G.b_sorted bt_sorted (da_cons (de_callTy (c_list (fz := true) hK rfl) rfl G.b_list bt_list (da_cons (de_var (i := 2) rfl (.inl rfl)) da_nil)) da_nil))) (own := [("job", 5)]) (blkOk_by rfl) (fun _ _ _ _ _ _ => (dw_name (i := 5) (by decide) hN rfl (.inl rfl))) (fun _ _ _ _ _ _ => (dts_one (dt_cmp (m_ni hK hu) (de_var (i := 5) rfl (.inl rfl)) (de_var (i := 3) rfl (.inr (.inl rfl))) (by wtm_at "mk")))) (fun _ _ _ _ _ _ => (de_var (i := 5) rfl (.inl rfl))))))))))
def b__law_settled : SM := sSeq (sFor (iAny (eSortK true (gTup [pSub (pC (.int 0)) (pIx (pIx (pIx (pVar 0) (pC (.int 1))) (pVar 7)) (pC (.int 0))), pVar 7]) (eFn 1 [0] m__law_waiting (aCons (eVar 0) (aNil))))) (gN 1) (sSeq (sAsg (eVar 0) (gSeq 2 (gCons' (gN 2) (gCons' (gN 3) (gNil'))))) (sSeq (sSet 4 (eCall (cSorted true) (aCons (eLc true (iAny (eVar 2)) (gN 5) (tYes') (eTup (aCons (eCall cSum (aCons (eLc true (iAny (eBin fIx (eVar 2) (eVar 5))) (gN 6) (tYes') (eBin fIx (eBin fIx (eVar 3) (eVar 6)) (eC (.int 0))) [6]) (aNil))) (aCons (eVar 5) (aNil)))) [5]) (aNil)))) (sSet 0 (eFn 4 [0, 1, 2, 3] m__law_moved (aCons (eVar 0) (aCons (eVar 1) (aCons (eBin fIx (eBin fIx (eVar 4) (eC (.int 0))) (eC (.int 1))) (aCons (eC (.bl false)) (aNil)))))))))) (sRet (eVar 0))
def m__law_settled : FM := fnM 1 6 b__law_settled
theorem fn__law_settled (G : GF K mg base) : FnE P w K mg base (gm K) 3 D__law_settled ["state"] m__law_settled := fnE_ofC (k := 2) (N := ["state", "job", "queues", "jobs", "sums", "name", "one"]) (ps := ["state"]) (loc := 6) G.d__law_settled rfl rfl ⟨rfl, rfl, rfl, by decide +kernel, rfl, by decide +kernel, by decide +kernel⟩ rfl (fun h cdv A outer s H E hc hr => by
  have hr : Room 2 _ := hr
  have hu := hr.units
  have hK : (bodyX P w K mg base D__law_settled ["state", "job", "queues", "jobs", "sums", "name", "one"] cdv A outer s H E).K = (gm K).K := rfl
  have hN : (["state", "job", "queues", "jobs", "sums", "name", "one"] : List Str).Nodup := by decide +kernel
  have tk := body_takes (P := P) (w := w) (K := K) (mg := mg) (base := base) (d := D__law_settled) (N := ["state", "job", "queues", "jobs", "sums", "name", "one"]) (cdv := cdv) (A := A) (outer := outer) (s := s) (H := H) (E := E)
  have pso : PassesOwn (model P w) _ _ _ := passes_of (X := bodyX P w K mg base D__law_settled ["state", "job", "queues", "jobs", "sums", "name", "one"] cdv A outer s H E) rfl
  exact (dss_cons (ds_for pso rfl (di_any hK (de_sortK (fz := true) (a := "one") hK (u16_of hu) hr G.tb__law_settled hc (List.Mem.head _) tab1 rfl (fun _ _ _ _ _ _ => rfl) (fun S hs hx => (kb_tup (S := S) hK (ras_cons (S := S) (ra_sub (S := S) (ra_int (S := S)) (ra_ix (S := S) hK (ra_ix (S := S) hK (ra_ix (S := S) hK (ra_var (S := S) (i := 0) (y := "state") rfl (by rw [kind_sc hs]; rfl)) (ra_int (S := S)) (fun _ _ => rfl)) (ra_par (S := S) (n := 7) (y := "one") rfl hx.symm (by rw [kind_sc hs]; rfl)) (fun _ _ => rfl)) (ra_int (S := S)) (fun _ _ => rfl))) (ras_cons (S := S) (ra_par (S := S) (n := 7) (y := "one") rfl hx.symm (by rw [kind_sc hs]; rfl)) (ras_nil (S := S)))))) rfl G.b_sorted (de_fn (np := 1) (ix := [0]) ((fn__law_waiting G).mono (by decide)) hr rfl tk (fun _ _ _ _ _ _ us ws h1 h2 => match us, ws, h1, h2 with | [_], [], _, _ => rfl) rfl G.g__law_waiting (da_cons (de_var (i := 0) rfl (.inr (.inl rfl))) da_nil)))) (dg_name (i := 1) hN rfl (.inl rfl)) (dss_cons (ds_asg (de_var (i := 0) rfl (.inr (.inl rfl))) (dg_seq (n := 2) hK rfl (dgs_cons (dg_name (i := 2) hN rfl (.inr rfl)) (dgs_cons (dg_name (i := 3) hN rfl (.inr rfl)) dgs_nil)))) (dss_cons (ds_set (i := 4) hN rfl (.inl rfl) (de_callB (c_sorted (fz := true) hK (u16_of hu)) rfl G.b_sorted bt_sorted (da_cons (de_lc (fz := true) rfl hN (di_any hK (de_var (i := 2) rfl (.inr (.inl rfl)))) (own := [("name", 5)]) (blkOk_by rfl) (fun _ _ _ _ _ _ => (dw_name (i := 5) (by decide) hN rfl (.inl rfl))) (fun _ _ _ _ _ _ => dts_nil) (fun _ _ _ _ _ _ => (de_tup (da_cons (de_callB (c_sum hK rfl) rfl G.b_sum bt_sum (da_cons (de_lc (fz := true) rfl hN (di_any hK (de_ix hK (u1_of hu) (de_var (i := 2) rfl (.inr (.inl rfl))) (de_var (i := 5) rfl (.inl rfl)) (fun _ _ => rfl))) (own := [("one", 6)]) (blkOk_by rfl) (fun _ _ _ _ _ _ => (dw_name (i := 6) (by decide) hN rfl (.inl rfl))) (fun _ _ _ _ _ _ => dts_nil) (fun _ _ _ _ _ _ => (de_ix hK (u1_of hu) (de_ix hK (u1_of hu) (de_var (i := 3) rfl (.inr (.inl rfl))) (de_var (i := 6) rfl (.inl rfl)) (fun _ _ => rfl)) de_int (fun _ _ => rfl)))) da_nil)) (da_cons (de_var (i := 5) rfl (.inl rfl)) da_nil))))) da_nil))) (dss_one (ds_set (i := 0) hN rfl (.inr rfl) (de_fn (np := 4) (ix := [0, 1, 2, 3]) ((fn__law_moved G).mono (by decide)) hr rfl tk (fun _ _ _ _ _ _ us ws h1 h2 => match us, ws, h1, h2 with | [_, _, _, _], [], _, _ => rfl) rfl G.g__law_moved (da_cons (de_var (i := 0) rfl (.inr (.inl rfl))) (da_cons (de_var (i := 1) rfl (.inl rfl)) (da_cons (de_ix hK (u1_of hu) (de_ix hK (u1_of hu) (de_var (i := 4) rfl (.inl rfl)) de_int (fun _ _ => rfl)) de_int (fun _ _ => rfl)) (da_cons de_bl da_nil)))))))))) (dss_one (ds_ret (de_var (i := 0) rfl (.inr (.inl rfl)))))))
def b__law_deed : SM := sSeq (sAsg (eVar 0) (gSeq 2 (gCons' (gN 3) (gCons' (gN 4) (gNil'))))) (sSeq (sSet 5 (eIf (tB' (eBin gtI (eCall cLen (aCons (eVar 2) (aNil))) (eC (.int 0)))) (eBin fIx (eVar 2) (eC (.int 0))) (eC .non))) (sSeq (sIf (tB' (eBin inA (eVar 1) (eTup (aCons (eC (.str [97, 100, 100, 95, 109, 97, 99, 104, 105, 110, 101])) (aCons (eC (.str [116, 97, 107, 101, 95, 105, 110])) (aNil)))))) (sSeq (sIf (tNot (tTru (eFn 1 [0] m__law_letters_name (aCons (eVar 5) (aNil))))) (sRet (eLst true (aCons (eC (.str [110, 97, 109, 101])) (aCons (eVar 5) (aNil))))) (sNil)) (sSeq (sIf (tOr (tB' (eBin inA (eVar 5) (eVar 3))) (tB' (eBin inA (eVar 5) (eVar 4)))) (sRet (eLst true (aCons (eC (.str [116, 97, 107, 101, 110])) (aCons (eVar 5) (aNil))))) (sNil)) (sSeq (sIf (tB' (eBin eqA (eVar 1) (eC (.str [97, 100, 100, 95, 109, 97, 99, 104, 105, 110, 101])))) (sRet (eIf (tB' (eBin eqA (eCall cLen (aCons (eVar 3) (aNil))) (eC (.int 5)))) (eLst true (aCons (eC (.str [109, 97, 110, 121])) (aCons (eC (.int 6)) (aNil)))) (eLst true (aCons (eC (.str [116, 111, 108, 100])) (aCons (eLst true (aCons (eFrz (eCall cDict (aCons (eBin (addA true) (eLit (eVar 3)) (eLst true (aCons (eTup (aCons (eVar 5) (aCons (eLst true (aNil)) (aNil)))) (aNil)))) (aNil)))) (aCons (eVar 4) (aNil)))) (aNil)))))) (sNil)) (sSeq (sIf (tB' (eBin eqA (eCall cLen (aCons (eVar 4) (aNil))) (eC (.int 20)))) (sRet (eLst true (aCons (eC (.str [109, 97, 110, 121])) (aCons (eC (.int 21)) (aNil))))) (sNil)) (sSeq (sIf (tNot (tTru (eFn 3 [0, 1, 2] m__law_is_between (aCons (eBin fIx (eVar 2) (eC (.int 1))) (aCons (eC (.int 1)) (aCons (eC (.int 60)) (aNil))))))) (sRet (eLst true (aCons (eC (.str [108, 101, 110, 103, 116, 104])) (aCons (eBin fIx (eVar 2) (eC (.int 1))) (aNil))))) (sNil)) (sSeq (sIf (tNot (tTru (eFn 3 [0, 1, 2] m__law_is_between (aCons (eBin fIx (eVar 2) (eC (.int 2))) (aCons (eC (.int 0)) (aCons (eC (.int 600)) (aNil))))))) (sRet (eLst true (aCons (eC (.str [100, 117, 101])) (aCons (eBin fIx (eVar 2) (eC (.int 2))) (aNil))))) (sNil)) (sRet (eLst true (aCons (eC (.str [116, 111, 108, 100])) (aCons (eLst true (aCons (eVar 3) (aCons (eFrz (eCall cDict (aCons (eBin (addA true) (eLit (eVar 4)) (eLst true (aCons (eTup (aCons (eVar 5) (aCons (eTup (aCons (eBin fIx (eVar 2) (eC (.int 1))) (aCons (eBin fIx (eVar 2) (eC (.int 2))) (aNil)))) (aNil)))) (aNil)))) (aNil)))) (aNil)))) (aNil))))))))))) (sNil)) (sSeq (sIf (tB' (eBin eqA (eVar 1) (eC (.str [115, 101, 116, 116, 108, 101])))) (sSeq (sIf (tAnd (tB' (eBin eqA (eCall cLen (aCons (eVar 3) (aNil))) (eC (.int 0)))) (tB' (eBin gtI (eCall cLen (aCons (eVar 4) (aNil))) (eC (.int 0))))) (sRet (eLst true (aCons (eC (.str [109, 97, 99, 104, 105, 110, 101, 115])) (aCons (eC .non) (aNil))))) (sNil)) (sRet (eLst true (aCons (eC (.str [116, 111, 108, 100])) (aCons (eFn 1 [0] m__law_settled (aCons (eVar 0) (aNil))) (aNil)))))) (sNil)) (sSeq (sSet 6 (eAnd (eIsi [3] (eVar 5)) (eBin inA (eVar 5) (eIf (tB' (eBin eqA (eVar 1) (eC (.str [99, 108, 111, 115, 101, 95, 109, 97, 99, 104, 105, 110, 101])))) (eVar 3) (eVar 4))))) (sSeq (sIf (tNot (tTru (eVar 6))) (sRet (eLst true (aCons (eC (.str [117, 110, 107, 110, 111, 119, 110])) (aCons (eVar 5) (aNil))))) (sNil)) (sSeq (sIf (tB' (eBin eqA (eVar 1) (eC (.str [99, 108, 111, 115, 101, 95, 109, 97, 99, 104, 105, 110, 101])))) (sRet (eLst true (aCons (eC (.str [116, 111, 108, 100])) (aCons (eLst true (aCons (eFrz (eCall cDict (aCons (eLc true (iAny (eVar 3)) (gN 8) (tB' (eBin neA (eVar 8) (eVar 5))) (eTup (aCons (eVar 8) (aCons (eBin fIx (eVar 3) (eVar 8)) (aNil)))) [8]) (aNil)))) (aCons (eVar 4) (aNil)))) (aNil))))) (sNil)) (sSeq (sIf (tB' (eBin eqA (eVar 1) (eC (.str [102, 105, 110, 105, 115, 104])))) (sRet (eLst true (aCons (eC (.str [116, 111, 108, 100])) (aCons (eLst true (aCons (eBin fIx (eFn 4 [0, 1, 2, 3] m__law_moved (aCons (eVar 0) (aCons (eVar 5) (aCons (eC .non) (aCons (eC (.bl false)) (aNil)))))) (eC (.int 0))) (aCons (eFrz (eCall cDict (aCons (eLc true (iAny (eVar 4)) (gN 9) (tB' (eBin neA (eVar 9) (eVar 5))) (eTup (aCons (eVar 9) (aCons (eBin fIx (eVar 4) (eVar 9)) (aNil)))) [9]) (aNil)))) (aNil)))) (aNil))))) (sNil)) (sSeq (sIf (tB' (eBin eqA (eVar 1) (eC (.str [103, 105, 118, 101, 95, 111, 117, 116])))) (sSeq (sIf (tOr (tNot (tTru (eIsi [3] (eBin fIx (eVar 2) (eC (.int 1)))))) (tB' (eBin niA (eBin fIx (eVar 2) (eC (.int 1))) (eVar 3)))) (sRet (eLst true (aCons (eC (.str [117, 110, 107, 110, 111, 119, 110])) (aCons (eBin fIx (eVar 2) (eC (.int 1))) (aNil))))) (sNil)) (sRet (eLst true (aCons (eC (.str [116, 111, 108, 100])) (aCons (eFn 4 [0, 1, 2, 3] m__law_moved (aCons (eVar 0) (aCons (eVar 5) (aCons (eBin fIx (eVar 2) (eC (.int 1))) (aCons (eC (.bl false)) (aNil)))))) (aNil)))))) (sNil)) (sSeq (sSet 7 (eLc true (iAny (eVar 3)) (gN 8) (tB' (eBin inA (eVar 5) (eBin fIx (eVar 3) (eVar 8)))) (eVar 8) [8])) (sSeq (sIf (tB' (eBin eqA (eVar 7) (eLst true (aNil)))) (sRet (eLst true (aCons (eC (.str [119, 97, 105, 116, 115])) (aCons (eVar 5) (aNil))))) (sNil)) (sRet (eLst true (aCons (eC (.str [116, 111, 108, 100])) (aCons (eFn 4 [0, 1, 2, 3] m__law_moved (aCons (eVar 0) (aCons (eVar 5) (aCons (eIf (tB' (eBin eqA (eVar 1) (eC (.str [104, 117, 114, 114, 121])))) (eBin fIx (eVar 7) (eC (.int 0))) (eC .non)) (aCons (eC (.bl true)) (aNil)))))) (aNil)))))))))))))))
def m__law_deed : FM := fnM 3 7 b__law_deed
theorem fn__law_deed (G : GF K mg base) : FnE P w K mg base (gm K) 4 D__law_deed ["state", "word", "args"] m__law_deed := fnE_of (k := 3) (N := ["state", "word", "args", "queues", "jobs", "first", "known", "where", "name", "job"]) (ps := ["state", "word", "args"]) (loc := 7) G.d__law_deed rfl rfl ⟨rfl, rfl, rfl, by decide +kernel, rfl, by decide +kernel, by decide +kernel⟩ rfl (fun h cdv A outer s H E hr => by
  have hr : Room 3 _ := hr
  have hu := hr.units
  have hK : (bodyX P w K mg base D__law_deed ["state", "word", "args", "queues", "jobs", "first", "known", "where", "name", "job"] cdv A outer s H E).K = (gm K).K := rfl
  have hN : (["state", "word", "args", "queues", "jobs", "first", "known", "where", "name", "job"] : List Str).Nodup := by decide +kernel
  have tk := body_takes (P := P) (w := w) (K := K) (mg := mg) (base := base) (d := D__law_deed) (N := ["state", "word", "args", "queues", "jobs", "first", "known", "where", "name", "job"]) (cdv := cdv) (A := A) (outer := outer) (s := s) (H := H) (E := E)
  have pso : PassesOwn (model P w) _ _ _ := passes_of (X := bodyX P w K mg base D__law_deed ["state", "word", "args", "queues", "jobs", "first", "known", "where", "name", "job"] cdv A outer s H E) rfl
  exact (dss_cons (ds_asg (de_var (i := 0) rfl (.inl rfl)) (dg_seq (n := 2) hK rfl (dgs_cons (dg_name (i := 3) hN rfl (.inr rfl)) (dgs_cons (dg_name (i := 4) hN rfl (.inr rfl)) dgs_nil)))) (dss_cons (ds_set (i := 5) hN rfl (.inr rfl) (de_if (dt_cmp m_gtI (de_callB (c_len hK) rfl G.b_len bt_len (da_cons (de_var (i := 2) rfl (.inl rfl)) da_nil)) de_int (by wtm_at "mk")) (de_ix hK (u1_of hu) (de_var (i := 2) rfl (.inl rfl)) de_int (fun _ _ => rfl)) de_non)) (dss_cons (ds_if (dt_cmp (m_in hK hu) (de_var (i := 1) rfl (.inl rfl)) (de_tup (da_cons (de_str (l := [97, 100, 100, 95, 109, 97, 99, 104, 105, 110, 101]) rfl) (da_cons (de_str (l := [116, 97, 107, 101, 95, 105, 110]) rfl) da_nil))) (by wtm_at "mk")) (dss_cons (ds_if (dt_not (dt_tru hK (de_fn (np := 1) (ix := [0]) ((fn__law_letters_name G).mono (by decide)) hr rfl tk (fun _ _ _ _ _ _ us ws h1 h2 => match us, ws, h1, h2 with | [_], [], _, _ => rfl) rfl G.g__law_letters_name (da_cons (de_var (i := 5) rfl (.inr (.inl rfl))) da_nil)))) (dss_one (ds_ret (de_lst (fz := true) (da_cons (de_str (l := [110, 97, 109, 101]) rfl) (da_cons (de_var (i := 5) rfl (.inr (.inl rfl))) da_nil))))) dss_nil) (dss_cons (ds_if (dt_w (dw_or (dt_cmp (m_in hK hu) (de_var (i := 5) rfl (.inr (.inl rfl))) (de_var (i := 3) rfl (.inr (.inl rfl))) (by wtm_at "mk")) (dw_or1 (dt_cmp (m_in hK hu) (de_var (i := 5) rfl (.inr (.inl rfl))) (de_var (i := 4) rfl (.inr (.inl rfl))) (by wtm_at "mk"))))) (dss_one (ds_ret (de_lst (fz := true) (da_cons (de_str (l := [116, 97, 107, 101, 110]) rfl) (da_cons (de_var (i := 5) rfl (.inr (.inl rfl))) da_nil))))) dss_nil) (dss_cons (ds_if (dt_cmp (m_eq hK hu) (de_var (i := 1) rfl (.inl rfl)) (de_str (l := [97, 100, 100, 95, 109, 97, 99, 104, 105, 110, 101]) rfl) (by wtm_at "mk")) (dss_one (ds_ret (de_if (dt_cmp (m_eq hK hu) (de_callB (c_len hK) rfl G.b_len bt_len (da_cons (de_var (i := 3) rfl (.inr (.inl rfl))) da_nil)) de_int (by wtm_at "mk")) (de_lst (fz := true) (da_cons (de_str (l := [109, 97, 110, 121]) rfl) (da_cons de_int da_nil))) (de_lst (fz := true) (da_cons (de_str (l := [116, 111, 108, 100]) rfl) (da_cons (de_lst (fz := true) (da_cons (de_frz (de_callTy (c_dict hK rfl) rfl G.b_dict bt_dict (da_cons (de_bin (m_add (fz := true) hK) (de_lit rfl (de_var (i := 3) rfl (.inr (.inl rfl))) rfl G.b_list) (de_lst (fz := true) (da_cons (de_tup (da_cons (de_var (i := 5) rfl (.inr (.inl rfl))) (da_cons (de_lst (fz := true) da_nil) da_nil))) da_nil))) da_nil))) (da_cons (de_var (i := 4) rfl (.inr (.inl rfl))) da_nil))) da_nil)))))) dss_nil) (dss_cons (ds_if (dt_cmp (m_eq hK hu) (de_callB (c_len hK) rfl G.b_len bt_len (da_cons (de_var (i := 4) rfl (.inr (.inl rfl))) da_nil)) de_int (by wtm_at "mk")) (dss_one (ds_ret (de_lst (fz := true) (da_cons (de_str (l := [109, 97, 110, 121]) rfl) (da_cons de_int da_nil))))) dss_nil) (dss_cons (ds_if (dt_not (dt_tru hK (de_fn (np := 3) (ix := [0, 1, 2]) ((fn__law_is_between G).mono (by decide)) hr rfl tk (fun _ _ _ _ _ _ us ws h1 h2 => match us, ws, h1, h2 with | [_, _, _], [], _, _ => rfl) rfl G.g__law_is_between (da_cons (de_ix hK (u1_of hu) (de_var (i := 2) rfl (.inl rfl)) de_int (fun _ _ => rfl)) (da_cons de_int (da_cons de_int da_nil)))))) (dss_one (ds_ret (de_lst (fz := true) (da_cons (de_str (l := [108, 101, 110, 103, 116, 104]) rfl) (da_cons (de_ix hK (u1_of hu) (de_var (i := 2) rfl (.inl rfl)) de_int (fun _ _ => rfl)) da_nil))))) dss_nil) (dss_cons (ds_if (dt_not (dt_tru hK (de_fn (np := 3) (ix := [0, 1, 2]) ((fn__law_is_between G).mono (by decide)) hr rfl tk (fun _ _ _ _ _ _ us ws h1 h2 => match us, ws, h1, h2 with | [_, _, _], [], _, _ => rfl) rfl G.g__law_is_between (da_cons (de_ix hK (u1_of hu) (de_var (i := 2) rfl (.inl rfl)) de_int (fun _ _ => rfl)) (da_cons de_int (da_cons de_int da_nil)))))) (dss_one (ds_ret (de_lst (fz := true) (da_cons (de_str (l := [100, 117, 101]) rfl) (da_cons (de_ix hK (u1_of hu) (de_var (i := 2) rfl (.inl rfl)) de_int (fun _ _ => rfl)) da_nil))))) dss_nil) (dss_one (ds_ret (de_lst (fz := true) (da_cons (de_str (l := [116, 111, 108, 100]) rfl) (da_cons (de_lst (fz := true) (da_cons (de_var (i := 3) rfl (.inr (.inl rfl))) (da_cons (de_frz (de_callTy (c_dict hK rfl) rfl G.b_dict bt_dict (da_cons (de_bin (m_add (fz := true) hK) (de_lit rfl (de_var (i := 4) rfl (.inr (.inl rfl))) rfl G.b_list) (de_lst (fz := true) (da_cons (de_tup (da_cons (de_var (i := 5) rfl (.inr (.inl rfl))) (da_cons (de_tup (da_cons (de_ix hK (u1_of hu) (de_var (i := 2) rfl (.inl rfl)) de_int (fun _ _ => rfl)) (da_cons (de_ix hK (u1_of hu) (de_var (i := 2) rfl (.inl rfl)) de_int (fun _ _ => rfl)) da_nil))) da_nil))) da_nil))) da_nil))) da_nil))) da_nil))))))))))) dss_nil) (dss_cons (ds_if (dt_cmp (m_eq hK hu) (de_var (i := 1) rfl (.inl rfl)) (de_str (l := [115, 101, 116, 116, 108, 101]) rfl) (by wtm_at "mk")) (dss_cons (ds_if (dt_w (dw_and (dt_cmp (m_eq hK hu) (de_callB (c_len hK) rfl G.b_len bt_len (da_cons (de_var (i := 3) rfl (.inr (.inl rfl))) da_nil)) de_int (by wtm_at "mk")) (dw_and1 (dt_cmp m_gtI (de_callB (c_len hK) rfl G.b_len bt_len (da_cons (de_var (i := 4) rfl (.inr (.inl rfl))) da_nil)) de_int (by wtm_at "mk"))))) (dss_one (ds_ret (de_lst (fz := true) (da_cons (de_str (l := [109, 97, 99, 104, 105, 110, 101, 115]) rfl) (da_cons de_non da_nil))))) dss_nil) (dss_one (ds_ret (de_lst (fz := true) (da_cons (de_str (l := [116, 111, 108, 100]) rfl) (da_cons (de_fn (np := 1) (ix := [0]) ((fn__law_settled G).mono (by decide)) hr rfl tk (fun _ _ _ _ _ _ us ws h1 h2 => match us, ws, h1, h2 with | [_], [], _, _ => rfl) rfl G.g__law_settled (da_cons (de_var (i := 0) rfl (.inl rfl)) da_nil)) da_nil)))))) dss_nil) (dss_cons (ds_set (i := 6) hN rfl (.inl rfl) (de_and hK (de_isi1 (t := 3) hK rfl G.b_isinstance bt_isinstance (by decide) rfl G.b_str bt_str (de_var (i := 5) rfl (.inr (.inl rfl)))) (de_one (de_cmp (m_in hK hu) (de_var (i := 5) rfl (.inr (.inl rfl))) (de_if (dt_cmp (m_eq hK hu) (de_var (i := 1) rfl (.inl rfl)) (de_str (l := [99, 108, 111, 115, 101, 95, 109, 97, 99, 104, 105, 110, 101]) rfl) (by wtm_at "mk")) (de_var (i := 3) rfl (.inr (.inl rfl))) (de_var (i := 4) rfl (.inr (.inl rfl)))) (by wtm_at "mk"))))) (dss_cons (ds_if (dt_not (dt_tru hK (de_var (i := 6) rfl (.inl rfl)))) (dss_one (ds_ret (de_lst (fz := true) (da_cons (de_str (l := [117, 110, 107, 110, 111, 119, 110]) rfl) (da_cons (de_var (i := 5) rfl (.inr (.inl rfl))) da_nil))))) dss_nil) (dss_cons (ds_if (dt_cmp (m_eq hK hu) (de_var (i := 1) rfl (.inl rfl)) (de_str (l := [99, 108, 111, 115, 101, 95, 109, 97, 99, 104, 105, 110, 101]) rfl) (by wtm_at "mk")) (dss_one (ds_ret (de_lst (fz := true) (da_cons (de_str (l := [116, 111, 108, 100]) rfl) (da_cons (de_lst (fz := true) (da_cons (de_frz (de_callTy (c_dict hK rfl) rfl G.b_dict bt_dict (da_cons (de_lc (fz := true) rfl hN (di_any hK (de_var (i := 3) rfl (.inr (.inl rfl)))) (own := [("name", 8)]) (blkOk_by rfl) (fun _ _ _ _ _ _ => (dw_name (i := 8) (by decide) hN rfl (.inl rfl))) (fun _ _ _ _ _ _ => (dts_one (dt_cmp (m_ne hK hu) (de_var (i := 8) rfl (.inl rfl)) (de_var (i := 5) rfl (.inr (.inl rfl))) (by wtm_at "mk")))) (fun _ _ _ _ _ _ => (de_tup (da_cons (de_var (i := 8) rfl (.inl rfl)) (da_cons (de_ix hK (u1_of hu) (de_var (i := 3) rfl (.inr (.inl rfl))) (de_var (i := 8) rfl (.inl rfl)) (fun _ _ => rfl)) da_nil))))) da_nil))) (da_cons (de_var (i := 4) rfl (.inr (.inl rfl))) da_nil))) da_nil))))) dss_nil) (dss_cons (ds_if (dt_cmp (m_eq hK hu) (de_var (i := 1) rfl (.inl rfl)) (de_str (l := [102, 105, 110, 105, 115, 104]) rfl) (by wtm_at "mk")) (dss_one (ds_ret (de_lst (fz := true) (da_cons (de_str (l := [116, 111, 108, 100]) rfl) (da_cons (de_lst (fz := true) (da_cons (de_ix hK (u1_of hu) (de_fn (np := 4) (ix := [0, 1, 2, 3]) ((fn__law_moved G).mono (by decide)) hr rfl tk (fun _ _ _ _ _ _ us ws h1 h2 => match us, ws, h1, h2 with | [_, _, _, _], [], _, _ => rfl) rfl G.g__law_moved (da_cons (de_var (i := 0) rfl (.inl rfl)) (da_cons (de_var (i := 5) rfl (.inr (.inl rfl))) (da_cons de_non (da_cons de_bl da_nil))))) de_int (fun _ _ => rfl)) (da_cons (de_frz (de_callTy (c_dict hK rfl) rfl G.b_dict bt_dict (da_cons (de_lc (fz := true) rfl hN (di_any hK (de_var (i := 4) rfl (.inr (.inl rfl)))) (own := [("job", 9)]) (blkOk_by rfl) (fun _ _ _ _ _ _ => (dw_name (i := 9) (by decide) hN rfl (.inl rfl))) (fun _ _ _ _ _ _ => (dts_one (dt_cmp (m_ne hK hu) (de_var (i := 9) rfl (.inl rfl)) (de_var (i := 5) rfl (.inr (.inl rfl))) (by wtm_at "mk")))) (fun _ _ _ _ _ _ => (de_tup (da_cons (de_var (i := 9) rfl (.inl rfl)) (da_cons (de_ix hK (u1_of hu) (de_var (i := 4) rfl (.inr (.inl rfl))) (de_var (i := 9) rfl (.inl rfl)) (fun _ _ => rfl)) da_nil))))) da_nil))) da_nil))) da_nil))))) dss_nil) (dss_cons (ds_if (dt_cmp (m_eq hK hu) (de_var (i := 1) rfl (.inl rfl)) (de_str (l := [103, 105, 118, 101, 95, 111, 117, 116]) rfl) (by wtm_at "mk")) (dss_cons (ds_if (dt_w (dw_or (dt_not (dt_tru hK (de_isi1 (t := 3) hK rfl G.b_isinstance bt_isinstance (by decide) rfl G.b_str bt_str (de_ix hK (u1_of hu) (de_var (i := 2) rfl (.inl rfl)) de_int (fun _ _ => rfl))))) (dw_or1 (dt_cmp (m_ni hK hu) (de_ix hK (u1_of hu) (de_var (i := 2) rfl (.inl rfl)) de_int (fun _ _ => rfl)) (de_var (i := 3) rfl (.inr (.inl rfl))) (by wtm_at "mk"))))) (dss_one (ds_ret (de_lst (fz := true) (da_cons (de_str (l := [117, 110, 107, 110, 111, 119, 110]) rfl) (da_cons (de_ix hK (u1_of hu) (de_var (i := 2) rfl (.inl rfl)) de_int (fun _ _ => rfl)) da_nil))))) dss_nil) (dss_one (ds_ret (de_lst (fz := true) (da_cons (de_str (l := [116, 111, 108, 100]) rfl) (da_cons (de_fn (np := 4) (ix := [0, 1, 2, 3]) ((fn__law_moved G).mono (by decide)) hr rfl tk (fun _ _ _ _ _ _ us ws h1 h2 => match us, ws, h1, h2 with | [_, _, _, _], [], _, _ => rfl) rfl G.g__law_moved (da_cons (de_var (i := 0) rfl (.inl rfl)) (da_cons (de_var (i := 5) rfl (.inr (.inl rfl))) (da_cons (de_ix hK (u1_of hu) (de_var (i := 2) rfl (.inl rfl)) de_int (fun _ _ => rfl)) (da_cons de_bl da_nil))))) da_nil)))))) dss_nil) (dss_cons (ds_setLc (j := 7) rfl hN rfl rfl rfl (di_any hK (de_var (i := 3) rfl (.inr (.inl rfl)))) (own := [("name", 8)]) (blkOk_by rfl) (fun _ _ _ _ _ _ => (dw_name (i := 8) (by decide) hN rfl (.inl rfl))) (fun _ _ _ _ _ _ => (dts_one (dt_cmp (m_in hK hu) (de_var (i := 5) rfl (.inr (.inl rfl))) (de_ix hK (u1_of hu) (de_var (i := 3) rfl (.inr (.inl rfl))) (de_var (i := 8) rfl (.inl rfl)) (fun _ _ => rfl)) (by wtm_at "mk")))) (fun _ _ _ _ _ _ => (de_var (i := 8) rfl (.inl rfl)))) (dss_cons (ds_if (dt_cmp (m_eq hK hu) (de_var (i := 7) rfl (.inl rfl)) (de_lst (fz := true) da_nil) (by wtm_at "mk")) (dss_one (ds_ret (de_lst (fz := true) (da_cons (de_str (l := [119, 97, 105, 116, 115]) rfl) (da_cons (de_var (i := 5) rfl (.inr (.inl rfl))) da_nil))))) dss_nil) (dss_one (ds_ret (de_lst (fz := true) (da_cons (de_str (l := [116, 111, 108, 100]) rfl) (da_cons (de_fn (np := 4) (ix := [0, 1, 2, 3]) ((fn__law_moved G).mono (by decide)) hr rfl tk (fun _ _ _ _ _ _ us ws h1 h2 => match us, ws, h1, h2 with | [_, _, _, _], [], _, _ => rfl) rfl G.g__law_moved (da_cons (de_var (i := 0) rfl (.inl rfl)) (da_cons (de_var (i := 5) rfl (.inr (.inl rfl))) (da_cons (de_if (dt_cmp (m_eq hK hu) (de_var (i := 1) rfl (.inl rfl)) (de_str (l := [104, 117, 114, 114, 121]) rfl) (by wtm_at "mk")) (de_ix hK (u1_of hu) (de_var (i := 7) rfl (.inl rfl)) de_int (fun _ _ => rfl)) de_non) (da_cons de_bl da_nil))))) da_nil)))))))))))))))))
def b__law_view : SM := sSeq (sAsg (eVar 0) (gSeq 2 (gCons' (gN 1) (gCons' (gN 2) (gNil'))))) (sSeq (sPar3 3 4 5 (eCall (cSorted true) (aCons (eCall (cList true) (aCons (eVar 1) (aNil))) (aNil))) (eLst false (aNil)) (eLst true (aNil))) (sSeq (sFor (iAny (eVar 3)) (gN 6) (sSeq (sPar 7 8 (eC (.int 0)) (eLst false (aNil))) (sSeq (sFor (iAny (eBin fIx (eVar 1) (eVar 6))) (gN 9) (sSeq (sSet 7 (eBin (addA true) (eVar 7) (eBin fIx (eBin fIx (eVar 2) (eVar 9)) (eC (.int 0))))) (sSeq (sExpr (eMl mAppend (eVar 8) (aCons (eTup (aCons (eVar 9) (aCons (eVar 7) (aNil)))) (aNil)))) (sSet 5 (eBin (addA true) (eVar 5) (eBin (mulA true) (eLst true (aCons (eVar 9) (aNil))) (eCall cInt (aCons (eBin gtI (eVar 7) (eBin fIx (eBin fIx (eVar 2) (eVar 9)) (eC (.int 1)))) (aNil))))))))) (sExpr (eMl mAppend (eVar 4) (aCons (eFrz (eVar 8)) (aNil))))))) (sRet (eLst true (aCons (eVar 3) (aCons (eFn 1 [0] m__law_waiting (aCons (eVar 0) (aNil))) (aCons (eLc true (iAny (eVar 3)) (gN 6) (tYes') (eCall (cList true) (aCons (eBin fIx (eVar 1) (eVar 6)) (aNil))) [6]) (aCons (eFrz (eVar 4)) (aCons (eCall (cSorted true) (aCons (eVar 5) (aNil))) (aNil))))))))))
def m__law_view : FM := fnM 1 9 b__law_view
theorem fn__law_view (G : GF K mg base) : FnE P w K mg base (gm K) 3 D__law_view ["state"] m__law_view := fnE_of (k := 2) (N := ["state", "queues", "jobs", "names", "rows", "late", "name", "now", "row", "job"]) (ps := ["state"]) (loc := 9) G.d__law_view rfl rfl ⟨rfl, rfl, rfl, by decide +kernel, rfl, by decide +kernel, by decide +kernel⟩ rfl (fun h cdv A outer s H E hr => by
  have hr : Room 2 _ := hr
  have hu := hr.units
  have hK : (bodyX P w K mg base D__law_view ["state", "queues", "jobs", "names", "rows", "late", "name", "now", "row", "job"] cdv A outer s H E).K = (gm K).K := rfl
  have hN : (["state", "queues", "jobs", "names", "rows", "late", "name", "now", "row", "job"] : List Str).Nodup := by decide +kernel
  have tk := body_takes (P := P) (w := w) (K := K) (mg := mg) (base := base) (d := D__law_view) (N := ["state", "queues", "jobs", "names", "rows", "late", "name", "now", "row", "job"]) (cdv := cdv) (A := A) (outer := outer) (s := s) (H := H) (E := E)
  have pso : PassesOwn (model P w) _ _ _ := passes_of (X := bodyX P w K mg base D__law_view ["state", "queues", "jobs", "names", "rows", "late", "name", "now", "row", "job"] cdv A outer s H E) rfl
  exact (dss_cons (ds_asg (de_var (i := 0) rfl (.inl rfl)) (dg_seq (n := 2) hK rfl (dgs_cons (dg_name (i := 1) hN rfl (.inr rfl)) (dgs_cons (dg_name (i := 2) hN rfl (.inl rfl)) dgs_nil)))) (dss_cons (ds_par3 (i := 3) (j := 4) (l := 5) rfl hN rfl rfl rfl (by decide) (by decide) (by decide) rfl rfl rfl (de_callB (c_sorted (fz := true) hK (u16_of hu)) rfl G.b_sorted bt_sorted (da_cons (de_callTy (c_list (fz := true) hK rfl) rfl G.b_list bt_list (da_cons (de_var (i := 1) rfl (.inr (.inl rfl))) da_nil)) da_nil)) (de_lst (fz := false) da_nil) (de_lst (fz := true) da_nil) rfl) (dss_cons (ds_for pso rfl (di_any hK (de_var (i := 3) rfl (.inl rfl))) (dg_name (i := 6) hN rfl (.inl rfl)) (dss_cons (ds_par (i := 7) (j := 8) rfl hN rfl rfl (by decide) rfl rfl de_int (de_lst (fz := false) da_nil) rfl) (dss_cons (ds_for pso rfl (di_any hK (de_ix hK (u1_of hu) (de_var (i := 1) rfl (.inr (.inl rfl))) (de_var (i := 6) rfl (.inl rfl)) (fun _ _ => rfl))) (dg_name (i := 9) hN rfl (.inl rfl)) (dss_cons (ds_set (i := 7) hN rfl (.inl rfl) (de_bin (m_add (fz := true) hK) (de_var (i := 7) rfl (.inl rfl)) (de_ix hK (u1_of hu) (de_ix hK (u1_of hu) (de_var (i := 2) rfl (.inl rfl)) (de_var (i := 9) rfl (.inl rfl)) (fun _ _ => rfl)) de_int (fun _ _ => rfl)))) (dss_cons (ds_expr (de_ml F.plainAttrs_list F.slot_list_append F.type_list_append mt_appendM (de_var (i := 8) rfl (.inl rfl)) (da_cons (de_tup (da_cons (de_var (i := 9) rfl (.inl rfl)) (da_cons (de_var (i := 7) rfl (.inl rfl)) da_nil))) da_nil))) (dss_one (ds_set (i := 5) hN rfl (.inl rfl) (de_bin (m_add (fz := true) hK) (de_var (i := 5) rfl (.inl rfl)) (de_bin (m_mul (fz := true)) (de_lst (fz := true) (da_cons (de_var (i := 9) rfl (.inl rfl)) da_nil)) (de_callTy c_int rfl G.b_int bt_int (da_cons (de_cmp m_gtI (de_var (i := 7) rfl (.inl rfl)) (de_ix hK (u1_of hu) (de_ix hK (u1_of hu) (de_var (i := 2) rfl (.inl rfl)) (de_var (i := 9) rfl (.inl rfl)) (fun _ _ => rfl)) de_int (fun _ _ => rfl)) (by wtm_at "mk")) da_nil))))))))) (dss_one (ds_expr (de_ml F.plainAttrs_list F.slot_list_append F.type_list_append mt_appendM (de_var (i := 4) rfl (.inl rfl)) (da_cons (de_frz (de_var (i := 8) rfl (.inl rfl))) da_nil))))))) (dss_one (ds_ret (de_lst (fz := true) (da_cons (de_var (i := 3) rfl (.inl rfl)) (da_cons (de_fn (np := 1) (ix := [0]) ((fn__law_waiting G).mono (by decide)) hr rfl tk (fun _ _ _ _ _ _ us ws h1 h2 => match us, ws, h1, h2 with | [_], [], _, _ => rfl) rfl G.g__law_waiting (da_cons (de_var (i := 0) rfl (.inl rfl)) da_nil)) (da_cons (de_lc (fz := true) rfl hN (di_any hK (de_var (i := 3) rfl (.inl rfl))) (own := [("name", 6)]) (blkOk_by rfl) (fun _ _ _ _ _ _ => (dw_name (i := 6) (by decide) hN rfl (.inl rfl))) (fun _ _ _ _ _ _ => dts_nil) (fun _ _ _ _ _ _ => (de_callTy (c_list (fz := true) hK rfl) rfl G.b_list bt_list (da_cons (de_ix hK (u1_of hu) (de_var (i := 1) rfl (.inr (.inl rfl))) (de_var (i := 6) rfl (.inl rfl)) (fun _ _ => rfl)) da_nil)))) (da_cons (de_frz (de_var (i := 4) rfl (.inl rfl))) (da_cons (de_callB (c_sorted (fz := true) hK (u16_of hu)) rfl G.b_sorted bt_sorted (da_cons (de_var (i := 5) rfl (.inl rfl)) da_nil)) da_nil))))))))))))
def b__law_told_view : SM := sSeq (sSet 2 (eMt 0 23 1 [0] m_Desk_machines (eVar 0) aNil)) (sSeq (sSet 3 (eLc true (iAny (eVar 2)) (gN 4) (tYes') (eIf (tTru (eVar 1)) (eMtK 0 22 1 1 [0, 1] m_Desk_queue (eVar 0) (aCons (eVar 4) (aNil))) (eMt 0 22 2 [0, 1] m_Desk_queue (eVar 0) (aCons (eVar 4) (aNil)))) [4])) (sRet (eLst true (aCons (eVar 2) (aCons (eMt 0 26 1 [0] m_Desk_waiting (eVar 0) aNil) (aCons (eVar 3) (aCons (eLc true (iAny (eVar 2)) (gN 4) (tYes') (eIf (tTru (eVar 1)) (eMt 0 24 2 [0, 1] m_Desk_ends (eVar 0) (aCons (eVar 4) (aNil))) (eMtK 0 24 1 1 [0, 1] m_Desk_ends (eVar 0) (aCons (eVar 4) (aNil)))) [4]) (aCons (eMt 0 25 1 [0] m_Desk_late_jobs (eVar 0) aNil) (aNil)))))))))
def m__law_told_view : FM := fnM 2 3 b__law_told_view
theorem fn__law_told_view (G : GF K mg base) : FnE P w K mg base (gm K) 8 D__law_told_view ["desk", "named"] m__law_told_view := fnE_of (k := 7) (N := ["desk", "named", "names", "queues", "name"]) (ps := ["desk", "named"]) (loc := 3) G.d__law_told_view rfl rfl ⟨rfl, rfl, rfl, by decide +kernel, rfl, by decide +kernel, by decide +kernel⟩ rfl (fun h cdv A outer s H E hr => by
  have hr : Room 7 _ := hr
  have hu := hr.units
  have hK : (bodyX P w K mg base D__law_told_view ["desk", "named", "names", "queues", "name"] cdv A outer s H E).K = (gm K).K := rfl
  have hN : (["desk", "named", "names", "queues", "name"] : List Str).Nodup := by decide +kernel
  have tk := body_takes (P := P) (w := w) (K := K) (mg := mg) (base := base) (d := D__law_told_view) (N := ["desk", "named", "names", "queues", "name"]) (cdv := cdv) (A := A) (outer := outer) (s := s) (H := H) (E := E)
  have pso : PassesOwn (model P w) _ _ _ := passes_of (X := bodyX P w K mg base D__law_told_view ["desk", "named", "names", "queues", "name"] cdv A outer s H E) rfl
  exact (dss_cons (ds_set (i := 2) hN rfl (.inl rfl) (de_mt0 (c := 0) (mn := 23) (np := 1) (ix := [0]) ((fn_Desk_machines G).mono (by decide)) hr rfl tk (fun _ _ _ _ _ _ us ws h1 h2 => match us, ws, h1, h2 with | [_], [], _, _ => rfl) rfl G.ck_Desk G.t_Desk_machines (de_var (i := 0) rfl (.inr (.inl rfl))))) (dss_cons (ds_setLc (j := 3) rfl hN rfl rfl rfl (di_any hK (de_var (i := 2) rfl (.inl rfl))) (own := [("name", 4)]) (blkOk_by rfl) (fun _ _ _ _ _ _ => (dw_name (i := 4) (by decide) hN rfl (.inl rfl))) (fun _ _ _ _ _ _ => dts_nil) (fun _ _ _ _ _ _ => (de_if (dt_tru hK (de_var (i := 1) rfl (.inr (.inl rfl)))) (de_mtK (c := 0) (mn := 22) (np := 1) (ks := ["machine"]) (ix := [0, 1]) ((fn_Desk_queue G).mono (by decide)) hr rfl takesF (fun _ _ _ _ _ _ us ws h1 h2 => match us, ws, h1, h2 with | [_], [_], _, _ => rfl) rfl G.ck_Desk G.t_Desk_queue (de_var (i := 0) rfl (.inr (.inl rfl))) (dk_cons (de_var (i := 4) rfl (.inl rfl)) dk_nil)) (de_mt (c := 0) (mn := 22) (np := 2) (ix := [0, 1]) ((fn_Desk_queue G).mono (by decide)) hr rfl takesF (fun _ _ _ _ _ _ us ws h1 h2 => match us, ws, h1, h2 with | [_, _], [], _, _ => rfl) rfl G.ck_Desk G.t_Desk_queue (de_var (i := 0) rfl (.inr (.inl rfl))) (da_cons (de_var (i := 4) rfl (.inl rfl)) da_nil))))) (dss_one (ds_ret (de_lst (fz := true) (da_cons (de_var (i := 2) rfl (.inl rfl)) (da_cons (de_mt0 (c := 0) (mn := 26) (np := 1) (ix := [0]) ((fn_Desk_waiting G).mono (by decide)) hr rfl tk (fun _ _ _ _ _ _ us ws h1 h2 => match us, ws, h1, h2 with | [_], [], _, _ => rfl) rfl G.ck_Desk G.t_Desk_waiting (de_var (i := 0) rfl (.inr (.inl rfl)))) (da_cons (de_var (i := 3) rfl (.inl rfl)) (da_cons (de_lc (fz := true) rfl hN (di_any hK (de_var (i := 2) rfl (.inl rfl))) (own := [("name", 4)]) (blkOk_by rfl) (fun _ _ _ _ _ _ => (dw_name (i := 4) (by decide) hN rfl (.inl rfl))) (fun _ _ _ _ _ _ => dts_nil) (fun _ _ _ _ _ _ => (de_if (dt_tru hK (de_var (i := 1) rfl (.inr (.inl rfl)))) (de_mt (c := 0) (mn := 24) (np := 2) (ix := [0, 1]) ((fn_Desk_ends G).mono (by decide)) hr rfl takesF (fun _ _ _ _ _ _ us ws h1 h2 => match us, ws, h1, h2 with | [_, _], [], _, _ => rfl) rfl G.ck_Desk G.t_Desk_ends (de_var (i := 0) rfl (.inr (.inl rfl))) (da_cons (de_var (i := 4) rfl (.inl rfl)) da_nil)) (de_mtK (c := 0) (mn := 24) (np := 1) (ks := ["machine"]) (ix := [0, 1]) ((fn_Desk_ends G).mono (by decide)) hr rfl takesF (fun _ _ _ _ _ _ us ws h1 h2 => match us, ws, h1, h2 with | [_], [_], _, _ => rfl) rfl G.ck_Desk G.t_Desk_ends (de_var (i := 0) rfl (.inr (.inl rfl))) (dk_cons (de_var (i := 4) rfl (.inl rfl)) dk_nil))))) (da_cons (de_mt0 (c := 0) (mn := 25) (np := 1) (ix := [0]) ((fn_Desk_late_jobs G).mono (by decide)) hr rfl tk (fun _ _ _ _ _ _ us ws h1 h2 => match us, ws, h1, h2 with | [_], [], _, _ => rfl) rfl G.ck_Desk G.t_Desk_late_jobs (de_var (i := 0) rfl (.inr (.inl rfl)))) da_nil)))))))))))
def b__law_change : SM := sSeq (sAsg (eVar 1) (gSeq 2 (gCons' (gN 3) (gCons' (gN 4) (gNil'))))) (sSeq (sPar3 5 6 7 (eCall (cSorted true) (aCons (eCall (cList true) (aCons (eVar 3) (aNil))) (aNil))) (eCall (cSorted true) (aCons (eCall (cList true) (aCons (eVar 4) (aNil))) (aNil))) (eFn 2 [0, 1] m__law_take (aCons (eVar 0) (aCons (eC (.int 16)) (aNil))))) (sSeq (sSet 8 (eLc true (iAny (eLst true (aCons (eC (.str [97, 120])) (aCons (eC (.str [98, 121])) (aCons (eC (.str [99, 111, 103])) (aCons (eC (.str [100, 114, 105, 108, 108])) (aCons (eC (.str [101, 100, 103, 101])) (aCons (eC (.str [102, 105, 108, 101])) (aCons (eC (.str [103, 101, 97, 114])) (aCons (eC (.str [104, 97, 109, 109, 101, 114])) (aCons (eC (.str [105, 114, 111, 110])) (aCons (eC (.str [106, 105, 103])) (aCons (eC (.str [107, 105, 116])) (aCons (eC (.str [108, 97, 116, 104, 101])) (aNil))))))))))))))) (gN 12) (tAnd (tB' (eBin niA (eVar 12) (eVar 3))) (tB' (eBin niA (eVar 12) (eVar 4)))) (eVar 12) [12])) (sSeq (sIf (tOr (tAnd (tB' (eBin ltI (eVar 7) (eC (.int 2)))) (tAnd (tB' (eBin gtI (eCall cLen (aCons (eVar 8) (aNil))) (eC (.int 0)))) (tB' (eBin ltI (eCall cLen (aCons (eVar 5) (aNil))) (eVar 2))))) (tAnd (tB' (eBin eqA (eVar 5) (eLst true (aNil)))) (tB' (eBin eqA (eFn 2 [0, 1] m__law_take (aCons (eVar 0) (aCons (eC (.int 2)) (aNil)))) (eC (.int 0)))))) (sRet (eLst true (aCons (eC (.str [97, 100, 100, 95, 109, 97, 99, 104, 105, 110, 101])) (aCons (eLst true (aCons (eIf (tB' (eBin gtI (eCall cLen (aCons (eVar 8) (aNil))) (eC (.int 0)))) (eBin fIx (eVar 8) (eFn 2 [0, 1] m__law_take (aCons (eVar 0) (aCons (eCall cLen (aCons (eVar 8) (aNil))) (aNil))))) (eC (.str [122, 122]))) (aNil))) (aNil))))) (sNil)) (sSeq (sIf (tAnd (tOr (tB' (eBin ltI (eVar 7) (eC (.int 7)))) (tB' (eBin eqA (eVar 6) (eLst true (aNil))))) (tB' (eBin gtI (eCall cLen (aCons (eVar 8) (aNil))) (eC (.int 0))))) (sSeq (sPar 9 10 (eBin (addA true) (eC (.int 1)) (eFn 2 [0, 1] m__law_take (aCons (eVar 0) (aCons (eBin fIx (eLst true (aCons (eC (.int 4)) (aCons (eC (.int 60)) (aNil)))) (eCall cInt (aCons (eBin eqA (eFn 2 [0, 1] m__law_take (aCons (eVar 0) (aCons (eC (.int 4)) (aNil)))) (eC (.int 0))) (aNil)))) (aNil))))) (eFn 2 [0, 1] m__law_take (aCons (eVar 0) (aCons (eBin fIx (eLst true (aCons (eC (.int 12)) (aCons (eC (.int 40)) (aCons (eC (.int 601)) (aNil))))) (eFn 2 [0, 1] m__law_take (aCons (eVar 0) (aCons (eC (.int 3)) (aNil))))) (aNil))))) (sRet (eLst true (aCons (eC (.str [116, 97, 107, 101, 95, 105, 110])) (aCons (eLst true (aCons (eBin fIx (eVar 8) (eFn 2 [0, 1] m__law_take (aCons (eVar 0) (aCons (eCall cLen (aCons (eVar 8) (aNil))) (aNil))))) (aCons (eVar 9) (aCons (eVar 10) (aNil))))) (aNil)))))) (sNil)) (sSeq (sIf (tOr (tB' (eBin eqA (eVar 7) (eC (.int 15)))) (tB' (eBin eqA (eVar 6) (eLst true (aNil))))) (sRet (eLst true (aCons (eC (.str [115, 101, 116, 116, 108, 101])) (aCons (eLst true (aNil)) (aNil))))) (sNil)) (sSeq (sSet 11 (eBin fIx (eVar 6) (eFn 2 [0, 1] m__law_take (aCons (eVar 0) (aCons (eCall cLen (aCons (eVar 6) (aNil))) (aNil)))))) (sSeq (sIf (tAnd (tB' (eBin ltI (eVar 7) (eC (.int 10)))) (tB' (eBin neA (eVar 5) (eLst true (aNil))))) (sRet (eLst true (aCons (eC (.str [103, 105, 118, 101, 95, 111, 117, 116])) (aCons (eLst true (aCons (eVar 11) (aCons (eBin fIx (eVar 5) (eFn 2 [0, 1] m__law_take (aCons (eVar 0) (aCons (eCall cLen (aCons (eVar 5) (aNil))) (aNil))))) (aNil)))) (aNil))))) (sNil)) (sSeq (sIf (tAnd (tB' (eBin eqA (eVar 7) (eC (.int 14)))) (tAnd (tB' (eBin neA (eVar 5) (eLst true (aNil)))) (tB' (eBin eqA (eFn 2 [0, 1] m__law_take (aCons (eVar 0) (aCons (eC (.int 2)) (aNil)))) (eC (.int 0)))))) (sRet (eLst true (aCons (eC (.str [99, 108, 111, 115, 101, 95, 109, 97, 99, 104, 105, 110, 101])) (aCons (eLst true (aCons (eBin fIx (eVar 5) (eFn 2 [0, 1] m__law_take (aCons (eVar 0) (aCons (eCall cLen (aCons (eVar 5) (aNil))) (aNil))))) (aNil))) (aNil))))) (sNil)) (sRet (eLst true (aCons (eBin fIx (eLst true (aCons (eC (.str [99, 97, 108, 108, 95, 98, 97, 99, 107])) (aCons (eC (.str [104, 117, 114, 114, 121])) (aCons (eC (.str [104, 117, 114, 114, 121])) (aCons (eC (.str [102, 105, 110, 105, 115, 104])) (aNil)))))) (eFn 2 [0, 1] m__law_take (aCons (eVar 0) (aCons (eC (.int 4)) (aNil))))) (aCons (eLst true (aCons (eVar 11) (aNil))) (aNil)))))))))))))
def m__law_change : FM := fnM 3 10 b__law_change
theorem fn__law_change (G : GF K mg base) : FnE P w K mg base (gm K) 3 D__law_change ["box", "state", "most"] m__law_change := fnE_of (k := 2) (N := ["box", "state", "most", "queues", "jobs", "machines", "names", "way", "fresh", "length", "due", "job", "name"]) (ps := ["box", "state", "most"]) (loc := 10) G.d__law_change rfl rfl ⟨rfl, rfl, rfl, by decide +kernel, rfl, by decide +kernel, by decide +kernel⟩ rfl (fun h cdv A outer s H E hr => by
  have hr : Room 2 _ := hr
  have hu := hr.units
  have hK : (bodyX P w K mg base D__law_change ["box", "state", "most", "queues", "jobs", "machines", "names", "way", "fresh", "length", "due", "job", "name"] cdv A outer s H E).K = (gm K).K := rfl
  have hN : (["box", "state", "most", "queues", "jobs", "machines", "names", "way", "fresh", "length", "due", "job", "name"] : List Str).Nodup := by decide +kernel
  have tk := body_takes (P := P) (w := w) (K := K) (mg := mg) (base := base) (d := D__law_change) (N := ["box", "state", "most", "queues", "jobs", "machines", "names", "way", "fresh", "length", "due", "job", "name"]) (cdv := cdv) (A := A) (outer := outer) (s := s) (H := H) (E := E)
  have pso : PassesOwn (model P w) _ _ _ := passes_of (X := bodyX P w K mg base D__law_change ["box", "state", "most", "queues", "jobs", "machines", "names", "way", "fresh", "length", "due", "job", "name"] cdv A outer s H E) rfl
  exact (dss_cons (ds_asg (de_var (i := 1) rfl (.inl rfl)) (dg_seq (n := 2) hK rfl (dgs_cons (dg_name (i := 3) hN rfl (.inr rfl)) (dgs_cons (dg_name (i := 4) hN rfl (.inr rfl)) dgs_nil)))) (dss_cons (ds_par3 (i := 5) (j := 6) (l := 7) rfl hN rfl rfl rfl (by decide) (by decide) (by decide) rfl rfl rfl (de_callB (c_sorted (fz := true) hK (u16_of hu)) rfl G.b_sorted bt_sorted (da_cons (de_callTy (c_list (fz := true) hK rfl) rfl G.b_list bt_list (da_cons (de_var (i := 3) rfl (.inr (.inl rfl))) da_nil)) da_nil)) (de_callB (c_sorted (fz := true) hK (u16_of hu)) rfl G.b_sorted bt_sorted (da_cons (de_callTy (c_list (fz := true) hK rfl) rfl G.b_list bt_list (da_cons (de_var (i := 4) rfl (.inr (.inl rfl))) da_nil)) da_nil)) (de_fn (np := 2) (ix := [0, 1]) ((fn__law_take G).mono (by decide)) hr rfl tk (fun _ _ _ _ _ _ us ws h1 h2 => match us, ws, h1, h2 with | [_, _], [], _, _ => rfl) rfl G.g__law_take (da_cons (de_var (i := 0) rfl (.inl rfl)) (da_cons de_int da_nil))) rfl) (dss_cons (ds_setLc (j := 8) rfl hN rfl rfl rfl (di_any hK (de_lst (fz := true) (da_cons (de_str (l := [97, 120]) rfl) (da_cons (de_str (l := [98, 121]) rfl) (da_cons (de_str (l := [99, 111, 103]) rfl) (da_cons (de_str (l := [100, 114, 105, 108, 108]) rfl) (da_cons (de_str (l := [101, 100, 103, 101]) rfl) (da_cons (de_str (l := [102, 105, 108, 101]) rfl) (da_cons (de_str (l := [103, 101, 97, 114]) rfl) (da_cons (de_str (l := [104, 97, 109, 109, 101, 114]) rfl) (da_cons (de_str (l := [105, 114, 111, 110]) rfl) (da_cons (de_str (l := [106, 105, 103]) rfl) (da_cons (de_str (l := [107, 105, 116]) rfl) (da_cons (de_str (l := [108, 97, 116, 104, 101]) rfl) da_nil)))))))))))))) (own := [("name", 12)]) (blkOk_by rfl) (fun _ _ _ _ _ _ => (dw_name (i := 12) (by decide) hN rfl (.inl rfl))) (fun _ _ _ _ _ _ => (dts_one (dt_w (dw_and (dt_cmp (m_ni hK hu) (de_var (i := 12) rfl (.inl rfl)) (de_var (i := 3) rfl (.inr (.inl rfl))) (by wtm_at "mk")) (dw_and1 (dt_cmp (m_ni hK hu) (de_var (i := 12) rfl (.inl rfl)) (de_var (i := 4) rfl (.inr (.inl rfl))) (by wtm_at "mk"))))))) (fun _ _ _ _ _ _ => (de_var (i := 12) rfl (.inl rfl)))) (dss_cons (ds_if (dt_w (dw_or (dt_w (dw_and (dt_cmp m_ltI (de_var (i := 7) rfl (.inl rfl)) de_int (by wtm_at "mk")) (dw_and (dt_cmp m_gtI (de_callB (c_len hK) rfl G.b_len bt_len (da_cons (de_var (i := 8) rfl (.inl rfl)) da_nil)) de_int (by wtm_at "mk")) (dw_and1 (dt_cmp m_ltI (de_callB (c_len hK) rfl G.b_len bt_len (da_cons (de_var (i := 5) rfl (.inl rfl)) da_nil)) (de_var (i := 2) rfl (.inl rfl)) (by wtm_at "mk")))))) (dw_or1 (dt_w (dw_and (dt_cmp (m_eq hK hu) (de_var (i := 5) rfl (.inl rfl)) (de_lst (fz := true) da_nil) (by wtm_at "mk")) (dw_and1 (dt_cmp (m_eq hK hu) (de_fn (np := 2) (ix := [0, 1]) ((fn__law_take G).mono (by decide)) hr rfl tk (fun _ _ _ _ _ _ us ws h1 h2 => match us, ws, h1, h2 with | [_, _], [], _, _ => rfl) rfl G.g__law_take (da_cons (de_var (i := 0) rfl (.inl rfl)) (da_cons de_int da_nil))) de_int (by wtm_at "mk")))))))) (dss_one (ds_ret (de_lst (fz := true) (da_cons (de_str (l := [97, 100, 100, 95, 109, 97, 99, 104, 105, 110, 101]) rfl) (da_cons (de_lst (fz := true) (da_cons (de_if (dt_cmp m_gtI (de_callB (c_len hK) rfl G.b_len bt_len (da_cons (de_var (i := 8) rfl (.inl rfl)) da_nil)) de_int (by wtm_at "mk")) (de_ix hK (u1_of hu) (de_var (i := 8) rfl (.inl rfl)) (de_fn (np := 2) (ix := [0, 1]) ((fn__law_take G).mono (by decide)) hr rfl tk (fun _ _ _ _ _ _ us ws h1 h2 => match us, ws, h1, h2 with | [_, _], [], _, _ => rfl) rfl G.g__law_take (da_cons (de_var (i := 0) rfl (.inl rfl)) (da_cons (de_callB (c_len hK) rfl G.b_len bt_len (da_cons (de_var (i := 8) rfl (.inl rfl)) da_nil)) da_nil))) (fun _ _ => rfl)) (de_str (l := [122, 122]) rfl)) da_nil)) da_nil))))) dss_nil) (dss_cons (ds_if (dt_w (dw_and (dt_w (dw_or (dt_cmp m_ltI (de_var (i := 7) rfl (.inl rfl)) de_int (by wtm_at "mk")) (dw_or1 (dt_cmp (m_eq hK hu) (de_var (i := 6) rfl (.inl rfl)) (de_lst (fz := true) da_nil) (by wtm_at "mk"))))) (dw_and1 (dt_cmp m_gtI (de_callB (c_len hK) rfl G.b_len bt_len (da_cons (de_var (i := 8) rfl (.inl rfl)) da_nil)) de_int (by wtm_at "mk"))))) (dss_cons (ds_par (i := 9) (j := 10) rfl hN rfl rfl (by decide) rfl rfl (de_bin (m_add (fz := true) hK) de_int (de_fn (np := 2) (ix := [0, 1]) ((fn__law_take G).mono (by decide)) hr rfl tk (fun _ _ _ _ _ _ us ws h1 h2 => match us, ws, h1, h2 with | [_, _], [], _, _ => rfl) rfl G.g__law_take (da_cons (de_var (i := 0) rfl (.inl rfl)) (da_cons (de_ix hK (u1_of hu) (de_lst (fz := true) (da_cons de_int (da_cons de_int da_nil))) (de_callTy c_int rfl G.b_int bt_int (da_cons (de_cmp (m_eq hK hu) (de_fn (np := 2) (ix := [0, 1]) ((fn__law_take G).mono (by decide)) hr rfl tk (fun _ _ _ _ _ _ us ws h1 h2 => match us, ws, h1, h2 with | [_, _], [], _, _ => rfl) rfl G.g__law_take (da_cons (de_var (i := 0) rfl (.inl rfl)) (da_cons de_int da_nil))) de_int (by wtm_at "mk")) da_nil)) (fun _ _ => rfl)) da_nil)))) (de_fn (np := 2) (ix := [0, 1]) ((fn__law_take G).mono (by decide)) hr rfl tk (fun _ _ _ _ _ _ us ws h1 h2 => match us, ws, h1, h2 with | [_, _], [], _, _ => rfl) rfl G.g__law_take (da_cons (de_var (i := 0) rfl (.inl rfl)) (da_cons (de_ix hK (u1_of hu) (de_lst (fz := true) (da_cons de_int (da_cons de_int (da_cons de_int da_nil)))) (de_fn (np := 2) (ix := [0, 1]) ((fn__law_take G).mono (by decide)) hr rfl tk (fun _ _ _ _ _ _ us ws h1 h2 => match us, ws, h1, h2 with | [_, _], [], _, _ => rfl) rfl G.g__law_take (da_cons (de_var (i := 0) rfl (.inl rfl)) (da_cons de_int da_nil))) (fun _ _ => rfl)) da_nil))) rfl) (dss_one (ds_ret (de_lst (fz := true) (da_cons (de_str (l := [116, 97, 107, 101, 95, 105, 110]) rfl) (da_cons (de_lst (fz := true) (da_cons (de_ix hK (u1_of hu) (de_var (i := 8) rfl (.inl rfl)) (de_fn (np := 2) (ix := [0, 1]) ((fn__law_take G).mono (by decide)) hr rfl tk (fun _ _ _ _ _ _ us ws h1 h2 => match us, ws, h1, h2 with | [_, _], [], _, _ => rfl) rfl G.g__law_take (da_cons (de_var (i := 0) rfl (.inl rfl)) (da_cons (de_callB (c_len hK) rfl G.b_len bt_len (da_cons (de_var (i := 8) rfl (.inl rfl)) da_nil)) da_nil))) (fun _ _ => rfl)) (da_cons (de_var (i := 9) rfl (.inl rfl)) (da_cons (de_var (i := 10) rfl (.inl rfl)) da_nil)))) da_nil)))))) dss_nil) (dss_cons (ds_if (dt_w (dw_or (dt_cmp (m_eq hK hu) (de_var (i := 7) rfl (.inl rfl)) de_int (by wtm_at "mk")) (dw_or1 (dt_cmp (m_eq hK hu) (de_var (i := 6) rfl (.inl rfl)) (de_lst (fz := true) da_nil) (by wtm_at "mk"))))) (dss_one (ds_ret (de_lst (fz := true) (da_cons (de_str (l := [115, 101, 116, 116, 108, 101]) rfl) (da_cons (de_lst (fz := true) da_nil) da_nil))))) dss_nil) (dss_cons (ds_set (i := 11) hN rfl (.inl rfl) (de_ix hK (u1_of hu) (de_var (i := 6) rfl (.inl rfl)) (de_fn (np := 2) (ix := [0, 1]) ((fn__law_take G).mono (by decide)) hr rfl tk (fun _ _ _ _ _ _ us ws h1 h2 => match us, ws, h1, h2 with | [_, _], [], _, _ => rfl) rfl G.g__law_take (da_cons (de_var (i := 0) rfl (.inl rfl)) (da_cons (de_callB (c_len hK) rfl G.b_len bt_len (da_cons (de_var (i := 6) rfl (.inl rfl)) da_nil)) da_nil))) (fun _ _ => rfl))) (dss_cons (ds_if (dt_w (dw_and (dt_cmp m_ltI (de_var (i := 7) rfl (.inl rfl)) de_int (by wtm_at "mk")) (dw_and1 (dt_cmp (m_ne hK hu) (de_var (i := 5) rfl (.inl rfl)) (de_lst (fz := true) da_nil) (by wtm_at "mk"))))) (dss_one (ds_ret (de_lst (fz := true) (da_cons (de_str (l := [103, 105, 118, 101, 95, 111, 117, 116]) rfl) (da_cons (de_lst (fz := true) (da_cons (de_var (i := 11) rfl (.inl rfl)) (da_cons (de_ix hK (u1_of hu) (de_var (i := 5) rfl (.inl rfl)) (de_fn (np := 2) (ix := [0, 1]) ((fn__law_take G).mono (by decide)) hr rfl tk (fun _ _ _ _ _ _ us ws h1 h2 => match us, ws, h1, h2 with | [_, _], [], _, _ => rfl) rfl G.g__law_take (da_cons (de_var (i := 0) rfl (.inl rfl)) (da_cons (de_callB (c_len hK) rfl G.b_len bt_len (da_cons (de_var (i := 5) rfl (.inl rfl)) da_nil)) da_nil))) (fun _ _ => rfl)) da_nil))) da_nil))))) dss_nil) (dss_cons (ds_if (dt_w (dw_and (dt_cmp (m_eq hK hu) (de_var (i := 7) rfl (.inl rfl)) de_int (by wtm_at "mk")) (dw_and (dt_cmp (m_ne hK hu) (de_var (i := 5) rfl (.inl rfl)) (de_lst (fz := true) da_nil) (by wtm_at "mk")) (dw_and1 (dt_cmp (m_eq hK hu) (de_fn (np := 2) (ix := [0, 1]) ((fn__law_take G).mono (by decide)) hr rfl tk (fun _ _ _ _ _ _ us ws h1 h2 => match us, ws, h1, h2 with | [_, _], [], _, _ => rfl) rfl G.g__law_take (da_cons (de_var (i := 0) rfl (.inl rfl)) (da_cons de_int da_nil))) de_int (by wtm_at "mk")))))) (dss_one (ds_ret (de_lst (fz := true) (da_cons (de_str (l := [99, 108, 111, 115, 101, 95, 109, 97, 99, 104, 105, 110, 101]) rfl) (da_cons (de_lst (fz := true) (da_cons (de_ix hK (u1_of hu) (de_var (i := 5) rfl (.inl rfl)) (de_fn (np := 2) (ix := [0, 1]) ((fn__law_take G).mono (by decide)) hr rfl tk (fun _ _ _ _ _ _ us ws h1 h2 => match us, ws, h1, h2 with | [_, _], [], _, _ => rfl) rfl G.g__law_take (da_cons (de_var (i := 0) rfl (.inl rfl)) (da_cons (de_callB (c_len hK) rfl G.b_len bt_len (da_cons (de_var (i := 5) rfl (.inl rfl)) da_nil)) da_nil))) (fun _ _ => rfl)) da_nil)) da_nil))))) dss_nil) (dss_one (ds_ret (de_lst (fz := true) (da_cons (de_ix hK (u1_of hu) (de_lst (fz := true) (da_cons (de_str (l := [99, 97, 108, 108, 95, 98, 97, 99, 107]) rfl) (da_cons (de_str (l := [104, 117, 114, 114, 121]) rfl) (da_cons (de_str (l := [104, 117, 114, 114, 121]) rfl) (da_cons (de_str (l := [102, 105, 110, 105, 115, 104]) rfl) da_nil))))) (de_fn (np := 2) (ix := [0, 1]) ((fn__law_take G).mono (by decide)) hr rfl tk (fun _ _ _ _ _ _ us ws h1 h2 => match us, ws, h1, h2 with | [_, _], [], _, _ => rfl) rfl G.g__law_take (da_cons (de_var (i := 0) rfl (.inl rfl)) (da_cons de_int da_nil))) (fun _ _ => rfl)) (da_cons (de_lst (fz := true) (da_cons (de_var (i := 11) rfl (.inl rfl)) da_nil)) da_nil)))))))))))))))
def b__law_loads : SM := sRet (eLc true (iAny (eCall (cSorted true) (aCons (eCall (cList true) (aCons (eBin fIx (eVar 0) (eC (.int 0))) (aNil))) (aNil)))) (gN 1) (tYes') (eCall cSum (aCons (eLc true (iAny (eBin fIx (eBin fIx (eVar 0) (eC (.int 0))) (eVar 1))) (gN 2) (tYes') (eBin fIx (eBin fIx (eBin fIx (eVar 0) (eC (.int 1))) (eVar 2)) (eC (.int 0))) [2]) (aNil))) [1])
def m__law_loads : FM := fnM 1 2 b__law_loads
theorem fn__law_loads (G : GF K mg base) : FnE P w K mg base (gm K) 2 D__law_loads ["state"] m__law_loads := fnE_of (k := 1) (N := ["state", "name", "job"]) (ps := ["state"]) (loc := 2) G.d__law_loads rfl rfl ⟨rfl, rfl, rfl, by decide +kernel, rfl, by decide +kernel, by decide +kernel⟩ rfl (fun h cdv A outer s H E hr => by
  have hr : Room 1 _ := hr
  have hu := hr.units
  have hK : (bodyX P w K mg base D__law_loads ["state", "name", "job"] cdv A outer s H E).K = (gm K).K := rfl
  have hN : (["state", "name", "job"] : List Str).Nodup := by decide +kernel
  have tk := body_takes (P := P) (w := w) (K := K) (mg := mg) (base := base) (d := D__law_loads) (N := ["state", "name", "job"]) (cdv := cdv) (A := A) (outer := outer) (s := s) (H := H) (E := E)
  have pso : PassesOwn (model P w) _ _ _ := passes_of (X := bodyX P w K mg base D__law_loads ["state", "name", "job"] cdv A outer s H E) rfl
  exact (dss_one (ds_ret (de_lc (fz := true) rfl hN (di_any hK (de_callB (c_sorted (fz := true) hK (u16_of hu)) rfl G.b_sorted bt_sorted (da_cons (de_callTy (c_list (fz := true) hK rfl) rfl G.b_list bt_list (da_cons (de_ix hK (u1_of hu) (de_var (i := 0) rfl (.inr (.inl rfl))) de_int (fun _ _ => rfl)) da_nil)) da_nil))) (own := [("name", 1)]) (blkOk_by rfl) (fun _ _ _ _ _ _ => (dw_name (i := 1) (by decide) hN rfl (.inl rfl))) (fun _ _ _ _ _ _ => dts_nil) (fun _ _ _ _ _ _ => (de_callB (c_sum hK rfl) rfl G.b_sum bt_sum (da_cons (de_lc (fz := true) rfl hN (di_any hK (de_ix hK (u1_of hu) (de_ix hK (u1_of hu) (de_var (i := 0) rfl (.inr (.inl rfl))) de_int (fun _ _ => rfl)) (de_var (i := 1) rfl (.inl rfl)) (fun _ _ => rfl))) (own := [("job", 2)]) (blkOk_by rfl) (fun _ _ _ _ _ _ => (dw_name (i := 2) (by decide) hN rfl (.inl rfl))) (fun _ _ _ _ _ _ => dts_nil) (fun _ _ _ _ _ _ => (de_ix hK (u1_of hu) (de_ix hK (u1_of hu) (de_ix hK (u1_of hu) (de_var (i := 0) rfl (.inr (.inl rfl))) de_int (fun _ _ => rfl)) (de_var (i := 2) rfl (.inl rfl)) (fun _ _ => rfl)) de_int (fun _ _ => rfl)))) da_nil)))))))
def b__law_settle_right : SM := sSeq (sPar 4 5 (eMt 0 23 1 [0] m_Desk_machines (eVar 0) aNil) (eCall (cBest maxI) (aCons (eBin (addA true) (eLst true (aCons (eC (.int 0)) (aNil))) (eLc true (iAny (eVar 3)) (gN 13) (tYes') (eBin fIx (eBin fIx (eBin fIx (eVar 1) (eC (.int 1))) (eVar 13)) (eC (.int 0))) [13])) (aNil)))) (sSeq (sIf (tB' (eBin neA (eMt 0 26 1 [0] m_Desk_waiting (eVar 0) aNil) (eLst true (aNil)))) (sRet (eC (.bl false))) (sNil)) (sSeq (sSet 6 (eLst false (aNil))) (sSeq (sFor (iAny (eVar 4)) (gN 7) (sSeq (sPar 8 9 (eMt 0 22 2 [0, 1] m_Desk_queue (eVar 0) (aCons (eVar 7) (aNil))) (eMt 0 24 2 [0, 1] m_Desk_ends (eVar 0) (aCons (eVar 7) (aNil)))) (sSeq (sSet 10 (eBin fIx (eBin fIx (eVar 1) (eC (.int 0))) (eVar 7))) (sSeq (sIf (tOr (tB' (eBin neA (eSl true (eVar 8) oNone (oSome (eCall cLen (aCons (eVar 10) (aNil))))) (eVar 10))) (tB' (eBin neA (eLc true (iAny (eSl true (eVar 8) (oSome (eCall cLen (aCons (eVar 10) (aNil)))) oNone)) (gN 13) (tB' (eBin niA (eVar 13) (eVar 3))) (eVar 13) [13]) (eLst true (aNil))))) (sRet (eC (.bl false))) (sNil)) (sSeq (sSet 11 (eLc true (iAny (eSl true (eVar 8) (oSome (eCall cLen (aCons (eVar 10) (aNil)))) oNone)) (gN 13) (tYes') (eTup (aCons (eBin subI (eC (.int 0)) (eBin fIx (eBin fIx (eBin fIx (eVar 1) (eC (.int 1))) (eVar 13)) (eC (.int 0)))) (aCons (eVar 13) (aNil)))) [13])) (sSeq (sIf (tB' (eBin neA (eVar 11) (eCall (cSorted true) (aCons (eVar 11) (aNil))))) (sRet (eC (.bl false))) (sNil)) (sExpr (eMl mAppend (eVar 6) (aCons (eIf (tB' (eBin neA (eVar 9) (eLst true (aNil)))) (eBin fIx (eBin fIx (eVar 9) (eNeg (eC (.int 1)))) (eC (.int 1))) (eC (.int 0))) (aNil)))))))))) (sSeq (sSet 12 (eLc true (iZp (aCons (eVar 6) (aCons (eVar 2) (aNil)))) (gSeq 2 (gCons' (gN 14) (gCons' (gN 15) (gNil')))) (tB' (eBin gtI (eVar 14) (eVar 15))) (eVar 14) [14, 15])) (sRet (eOr (eBin eqA (eVar 12) (eLst true (aNil))) (eBin leI (eCall (cBest maxI) (aCons (eVar 12) (aNil))) (eBin (addA true) (eCall minA (aCons (eVar 6) (aNil))) (eVar 5)))))))))
def m__law_settle_right : FM := fnM 4 12 b__law_settle_right
theorem fn__law_settle_right (G : GF K mg base) : FnE P w K mg base (gm K) 7 D__law_settle_right ["desk", "old", "before", "waiting"] m__law_settle_right := fnE_of (k := 6) (N := ["desk", "old", "before", "waiting", "names", "longest", "loads", "name", "queue", "ends", "mine", "rest", "grown", "job", "load", "own"]) (ps := ["desk", "old", "before", "waiting"]) (loc := 12) G.d__law_settle_right rfl rfl ⟨rfl, rfl, rfl, by decide +kernel, rfl, by decide +kernel, by decide +kernel⟩ rfl (fun h cdv A outer s H E hr => by
  have hr : Room 6 _ := hr
  have hu := hr.units
  have hK : (bodyX P w K mg base D__law_settle_right ["desk", "old", "before", "waiting", "names", "longest", "loads", "name", "queue", "ends", "mine", "rest", "grown", "job", "load", "own"] cdv A outer s H E).K = (gm K).K := rfl
  have hN : (["desk", "old", "before", "waiting", "names", "longest", "loads", "name", "queue", "ends", "mine", "rest", "grown", "job", "load", "own"] : List Str).Nodup := by decide +kernel
  have tk := body_takes (P := P) (w := w) (K := K) (mg := mg) (base := base) (d := D__law_settle_right) (N := ["desk", "old", "before", "waiting", "names", "longest", "loads", "name", "queue", "ends", "mine", "rest", "grown", "job", "load", "own"]) (cdv := cdv) (A := A) (outer := outer) (s := s) (H := H) (E := E)
  have pso : PassesOwn (model P w) _ _ _ := passes_of (X := bodyX P w K mg base D__law_settle_right ["desk", "old", "before", "waiting", "names", "longest", "loads", "name", "queue", "ends", "mine", "rest", "grown", "job", "load", "own"] cdv A outer s H E) rfl
  exact (dss_cons (ds_par (i := 4) (j := 5) rfl hN rfl rfl (by decide) rfl rfl (de_mt0 (c := 0) (mn := 23) (np := 1) (ix := [0]) ((fn_Desk_machines G).mono (by decide)) hr rfl tk (fun _ _ _ _ _ _ us ws h1 h2 => match us, ws, h1, h2 with | [_], [], _, _ => rfl) rfl G.ck_Desk G.t_Desk_machines (de_var (i := 0) rfl (.inl rfl))) (de_callB (c_max hK rfl) rfl G.b_max bt_max (da_cons (de_bin (m_add (fz := true) hK) (de_lst (fz := true) (da_cons de_int da_nil)) (de_lc (fz := true) rfl hN (di_any hK (de_var (i := 3) rfl (.inr (.inl rfl)))) (own := [("job", 13)]) (blkOk_by rfl) (fun _ _ _ _ _ _ => (dw_name (i := 13) (by decide) hN rfl (.inl rfl))) (fun _ _ _ _ _ _ => dts_nil) (fun _ _ _ _ _ _ => (de_ix hK (u1_of hu) (de_ix hK (u1_of hu) (de_ix hK (u1_of hu) (de_var (i := 1) rfl (.inr (.inl rfl))) de_int (fun _ _ => rfl)) (de_var (i := 13) rfl (.inl rfl)) (fun _ _ => rfl)) de_int (fun _ _ => rfl))))) da_nil)) rfl) (dss_cons (ds_if (dt_cmp (m_ne hK hu) (de_mt0 (c := 0) (mn := 26) (np := 1) (ix := [0]) ((fn_Desk_waiting G).mono (by decide)) hr rfl tk (fun _ _ _ _ _ _ us ws h1 h2 => match us, ws, h1, h2 with | [_], [], _, _ => rfl) rfl G.ck_Desk G.t_Desk_waiting (de_var (i := 0) rfl (.inl rfl))) (de_lst (fz := true) da_nil) (by wtm_at "mk")) (dss_one (ds_ret de_bl)) dss_nil) (dss_cons (ds_set (i := 6) hN rfl (.inl rfl) (de_lst (fz := false) da_nil)) (dss_cons (ds_for pso rfl (di_any hK (de_var (i := 4) rfl (.inl rfl))) (dg_name (i := 7) hN rfl (.inl rfl)) (dss_cons (ds_par (i := 8) (j := 9) rfl hN rfl rfl (by decide) rfl rfl (de_mt (c := 0) (mn := 22) (np := 2) (ix := [0, 1]) ((fn_Desk_queue G).mono (by decide)) hr rfl tk (fun _ _ _ _ _ _ us ws h1 h2 => match us, ws, h1, h2 with | [_, _], [], _, _ => rfl) rfl G.ck_Desk G.t_Desk_queue (de_var (i := 0) rfl (.inl rfl)) (da_cons (de_var (i := 7) rfl (.inl rfl)) da_nil)) (de_mt (c := 0) (mn := 24) (np := 2) (ix := [0, 1]) ((fn_Desk_ends G).mono (by decide)) hr rfl tk (fun _ _ _ _ _ _ us ws h1 h2 => match us, ws, h1, h2 with | [_, _], [], _, _ => rfl) rfl G.ck_Desk G.t_Desk_ends (de_var (i := 0) rfl (.inl rfl)) (da_cons (de_var (i := 7) rfl (.inl rfl)) da_nil)) rfl) (dss_cons (ds_set (i := 10) hN rfl (.inl rfl) (de_ix hK (u1_of hu) (de_ix hK (u1_of hu) (de_var (i := 1) rfl (.inr (.inl rfl))) de_int (fun _ _ => rfl)) (de_var (i := 7) rfl (.inl rfl)) (fun _ _ => rfl))) (dss_cons (ds_if (dt_w (dw_or (dt_cmp (m_ne hK hu) (de_sl (fz := true) hK (de_var (i := 8) rfl (.inl rfl)) do_none (do_some (de_callB (c_len hK) rfl G.b_len bt_len (da_cons (de_var (i := 10) rfl (.inl rfl)) da_nil)))) (de_var (i := 10) rfl (.inl rfl)) (by wtm_at "mk")) (dw_or1 (dt_cmp (m_ne hK hu) (de_lc (fz := true) rfl hN (di_any hK (de_sl (fz := true) hK (de_var (i := 8) rfl (.inl rfl)) (do_some (de_callB (c_len hK) rfl G.b_len bt_len (da_cons (de_var (i := 10) rfl (.inl rfl)) da_nil))) do_none)) (own := [("job", 13)]) (blkOk_by rfl) (fun _ _ _ _ _ _ => (dw_name (i := 13) (by decide) hN rfl (.inl rfl))) (fun _ _ _ _ _ _ => (dts_one (dt_cmp (m_ni hK hu) (de_var (i := 13) rfl (.inl rfl)) (de_var (i := 3) rfl (.inr (.inl rfl))) (by wtm_at "mk")))) (fun _ _ _ _ _ _ => (de_var (i := 13) rfl (.inl rfl)))) (de_lst (fz := true) da_nil) (by wtm_at "mk"))))) (dss_one (ds_ret de_bl)) dss_nil) (dss_cons (ds_setLc (j := 11) rfl hN rfl rfl rfl (di_any hK (de_sl (fz := true) hK (de_var (i := 8) rfl (.inl rfl)) (do_some (de_callB (c_len hK) rfl G.b_len bt_len (da_cons (de_var (i := 10) rfl (.inl rfl)) da_nil))) do_none)) (own := [("job", 13)]) (blkOk_by rfl) (fun _ _ _ _ _ _ => (dw_name (i := 13) (by decide) hN rfl (.inl rfl))) (fun _ _ _ _ _ _ => dts_nil) (fun _ _ _ _ _ _ => (de_tup (da_cons (de_bin m_subI de_int (de_ix hK (u1_of hu) (de_ix hK (u1_of hu) (de_ix hK (u1_of hu) (de_var (i := 1) rfl (.inr (.inl rfl))) de_int (fun _ _ => rfl)) (de_var (i := 13) rfl (.inl rfl)) (fun _ _ => rfl)) de_int (fun _ _ => rfl))) (da_cons (de_var (i := 13) rfl (.inl rfl)) da_nil))))) (dss_cons (ds_if (dt_cmp (m_ne hK hu) (de_var (i := 11) rfl (.inl rfl)) (de_callB (c_sorted (fz := true) hK (u16_of hu)) rfl G.b_sorted bt_sorted (da_cons (de_var (i := 11) rfl (.inl rfl)) da_nil)) (by wtm_at "mk")) (dss_one (ds_ret de_bl)) dss_nil) (dss_one (ds_expr (de_ml F.plainAttrs_list F.slot_list_append F.type_list_append mt_appendM (de_var (i := 6) rfl (.inl rfl)) (da_cons (de_if (dt_cmp (m_ne hK hu) (de_var (i := 9) rfl (.inl rfl)) (de_lst (fz := true) da_nil) (by wtm_at "mk")) (de_ix hK (u1_of hu) (de_ix hK (u1_of hu) (de_var (i := 9) rfl (.inl rfl)) (de_neg de_int) (fun _ _ => rfl)) de_int (fun _ _ => rfl)) de_int) da_nil)))))))))) (dss_cons (ds_setLc (j := 12) rfl hN rfl rfl rfl (di_zip hK rfl G.b_zip (da_cons (de_var (i := 6) rfl (.inl rfl)) (da_cons (de_var (i := 2) rfl (.inl rfl)) da_nil))) (own := [("load", 14), ("own", 15)]) (blkOk_by rfl) (fun _ _ _ _ _ _ => (dw_seq (n := 2) hK rfl (dws_cons (dw_name (i := 14) (by decide) hN rfl (.inl rfl)) (dws_cons (dw_name (i := 15) (by decide) hN rfl (.inl rfl)) dws_nil)))) (fun _ _ _ _ _ _ => (dts_one (dt_cmp m_gtI (de_var (i := 14) rfl (.inl rfl)) (de_var (i := 15) rfl (.inl rfl)) (by wtm_at "mk")))) (fun _ _ _ _ _ _ => (de_var (i := 14) rfl (.inl rfl)))) (dss_one (ds_ret (de_or hK (de_cmp (m_eq hK hu) (de_var (i := 12) rfl (.inl rfl)) (de_lst (fz := true) da_nil) (by wtm_at "mk")) (de_one (de_cmp m_leI (de_callB (c_max hK rfl) rfl G.b_max bt_max (da_cons (de_var (i := 12) rfl (.inl rfl)) da_nil)) (de_bin (m_add (fz := true) hK) (de_callB (c_minA hK rfl hu) rfl G.b_min bt_min (da_cons (de_var (i := 6) rfl (.inl rfl)) da_nil)) (de_var (i := 5) rfl (.inl rfl))) (by wtm_at "mk"))))))))))))
def b_Desk_settle : SM := sSeq (sAsg (eAttr [0] 12 (eVar 0)) (gSeq 2 (gCons' (gN 1) (gCons' (gN 2) (gNil'))))) (sSeq (sSet 4 (eCall (cSorted true) (aCons (eLc true (iAny (eMt 0 26 1 [0] m_Desk_waiting (eVar 0) aNil)) (gN 3) (tYes') (eTup (aCons (eNeg (eBin fIx (eBin fIx (eVar 2) (eVar 3)) (eC (.int 0)))) (aCons (eVar 3) (aNil)))) [3]) (aNil)))) (sSeq (sIf (tAnd (tB' (eBin neA (eVar 4) (eLst true (aNil)))) (tB' (eBin eqA (eVar 1) (eFrz (eDNew))))) (sRaise0 6) (sNil)) (sSeq (sFor (iAny (eVar 4)) (gSeq 2 (gCons' (gN 5) (gCons' (gN 3) (gNil')))) (sSeq (sSet 7 (eLc true (iItm (eVar 1)) (gSeq 2 (gCons' (gN 6) (gCons' (gN 8) (gNil')))) (tYes') (eTup (aCons (eCall cSum (aCons (eLc true (iAny (eVar 8)) (gN 9) (tYes') (eBin fIx (eBin fIx (eVar 2) (eVar 9)) (eC (.int 0))) [9]) (aNil))) (aCons (eVar 6) (aNil)))) [6, 8])) (sSeq (sSet 6 (eBin fIx (eCall minA (aCons (eVar 7) (aNil))) (eC (.int 1)))) (sSet 1 (eFrz (eDStar (eVar 1) (eVar 6) (eTup (aStar (eBin fIx (eVar 1) (eVar 6)) (aCons (eVar 3) (aNil)))))))))) (sExpr (eMt 0 16 3 [0, 1, 2] m_Desk__change (eVar 0) (aCons (eVar 1) (aCons (eVar 2) (aNil))))))))
def m_Desk_settle : FM := fnM 1 9 b_Desk_settle
theorem fn_Desk_settle (G : GF K mg base) : FnE P w K mg base (gm K) 4 D_Desk_settle ["self"] m_Desk_settle := fnE_of (k := 3) (N := ["self", "queues", "jobs", "job", "waiting", "_", "machine", "loads", "queue", "other"]) (ps := ["self"]) (loc := 9) G.d_Desk_settle rfl rfl ⟨rfl, rfl, rfl, by decide +kernel, rfl, by decide +kernel, by decide +kernel⟩ rfl (fun h cdv A outer s H E hr => by
  have hr : Room 3 _ := hr
  have hu := hr.units
  have hK : (bodyX P w K mg base D_Desk_settle ["self", "queues", "jobs", "job", "waiting", "_", "machine", "loads", "queue", "other"] cdv A outer s H E).K = (gm K).K := rfl
  have hN : (["self", "queues", "jobs", "job", "waiting", "_", "machine", "loads", "queue", "other"] : List Str).Nodup := by decide +kernel
  have tk := body_takes (P := P) (w := w) (K := K) (mg := mg) (base := base) (d := D_Desk_settle) (N := ["self", "queues", "jobs", "job", "waiting", "_", "machine", "loads", "queue", "other"]) (cdv := cdv) (A := A) (outer := outer) (s := s) (H := H) (E := E)
  have pso : PassesOwn (model P w) _ _ _ := passes_of (X := bodyX P w K mg base D_Desk_settle ["self", "queues", "jobs", "job", "waiting", "_", "machine", "loads", "queue", "other"] cdv A outer s H E) rfl
  exact (dss_cons (ds_asg (de_attr1 (c := 0) (f := 12) rfl hK G.c_Desk G.n_Desk__state (de_var (i := 0) rfl (.inl rfl))) (dg_seq (n := 2) hK rfl (dgs_cons (dg_name (i := 1) hN rfl (.inl rfl)) (dgs_cons (dg_name (i := 2) hN rfl (.inr rfl)) dgs_nil)))) (dss_cons (ds_set (i := 4) hN rfl (.inl rfl) (de_callB (c_sorted (fz := true) hK (u16_of hu)) rfl G.b_sorted bt_sorted (da_cons (de_lc (fz := true) rfl hN (di_any hK (de_mt0 (c := 0) (mn := 26) (np := 1) (ix := [0]) ((fn_Desk_waiting G).mono (by decide)) hr rfl tk (fun _ _ _ _ _ _ us ws h1 h2 => match us, ws, h1, h2 with | [_], [], _, _ => rfl) rfl G.ck_Desk G.t_Desk_waiting (de_var (i := 0) rfl (.inl rfl)))) (own := [("job", 3)]) (blkOk_by rfl) (fun _ _ _ _ _ _ => (dw_name (i := 3) (by decide) hN rfl (.inl rfl))) (fun _ _ _ _ _ _ => dts_nil) (fun _ _ _ _ _ _ => (de_tup (da_cons (de_neg (de_ix hK (u1_of hu) (de_ix hK (u1_of hu) (de_var (i := 2) rfl (.inr (.inl rfl))) (de_var (i := 3) rfl (.inl rfl)) (fun _ _ => rfl)) de_int (fun _ _ => rfl))) (da_cons (de_var (i := 3) rfl (.inl rfl)) da_nil))))) da_nil))) (dss_cons (ds_if (dt_w (dw_and (dt_cmp (m_ne hK hu) (de_var (i := 4) rfl (.inl rfl)) (de_lst (fz := true) da_nil) (by wtm_at "mk")) (dw_and1 (dt_cmp (m_eq hK hu) (de_var (i := 1) rfl (.inl rfl)) (de_frz de_dnew) (by wtm_at "mk"))))) (dss_one (ds_raise0 (c := 6) rfl tk G.ex_NoMachines.e G.g_NoMachines G.ex_NoMachines.k G.ex_NoMachines.s G.ex_NoMachines.t rfl)) dss_nil) (dss_cons (ds_for pso rfl (di_any hK (de_var (i := 4) rfl (.inl rfl))) (dg_seq (n := 2) hK rfl (dgs_cons (dg_name (i := 5) hN rfl (.inl rfl)) (dgs_cons (dg_name (i := 3) hN rfl (.inl rfl)) dgs_nil))) (dss_cons (ds_setLc (j := 7) rfl hN rfl rfl rfl (di_items (de_var (i := 1) rfl (.inl rfl))) (own := [("machine", 6), ("queue", 8)]) (blkOk_by rfl) (fun _ _ _ _ _ _ => (dw_seq (n := 2) hK rfl (dws_cons (dw_name (i := 6) (by decide) hN rfl (.inl rfl)) (dws_cons (dw_name (i := 8) (by decide) hN rfl (.inl rfl)) dws_nil)))) (fun _ _ _ _ _ _ => dts_nil) (fun _ _ _ _ _ _ => (de_tup (da_cons (de_callB (c_sum hK rfl) rfl G.b_sum bt_sum (da_cons (de_lc (fz := true) rfl hN (di_any hK (de_var (i := 8) rfl (.inl rfl))) (own := [("other", 9)]) (blkOk_by rfl) (fun _ _ _ _ _ _ => (dw_name (i := 9) (by decide) hN rfl (.inl rfl))) (fun _ _ _ _ _ _ => dts_nil) (fun _ _ _ _ _ _ => (de_ix hK (u1_of hu) (de_ix hK (u1_of hu) (de_var (i := 2) rfl (.inr (.inl rfl))) (de_var (i := 9) rfl (.inl rfl)) (fun _ _ => rfl)) de_int (fun _ _ => rfl)))) da_nil)) (da_cons (de_var (i := 6) rfl (.inl rfl)) da_nil))))) (dss_cons (ds_set (i := 6) hN rfl (.inl rfl) (de_ix hK (u1_of hu) (de_callB (c_minA hK rfl hu) rfl G.b_min bt_min (da_cons (de_var (i := 7) rfl (.inl rfl)) da_nil)) de_int (fun _ _ => rfl))) (dss_one (ds_set (i := 1) hN rfl (.inl rfl) (de_frz (de_dstar (fun _ => (de_var (i := 1) rfl (.inl rfl))) (fun _ => (de_var (i := 6) rfl (.inl rfl))) (fun _ => (de_tup (da_star hK (de_ix hK (u1_of hu) (de_var (i := 1) rfl (.inl rfl)) (de_var (i := 6) rfl (.inl rfl)) (fun _ _ => rfl)) (da_cons (de_var (i := 3) rfl (.inl rfl)) da_nil))))))))))) (dss_one (ds_expr (de_mt (c := 0) (mn := 16) (np := 3) (ix := [0, 1, 2]) ((fn_Desk__change G).mono (by decide)) hr rfl tk (fun _ _ _ _ _ _ us ws h1 h2 => match us, ws, h1, h2 with | [_, _, _], [], _, _ => rfl) rfl G.ck_Desk G.t_Desk__change (de_var (i := 0) rfl (.inl rfl)) (da_cons (de_var (i := 1) rfl (.inl rfl)) (da_cons (de_var (i := 2) rfl (.inr (.inl rfl))) da_nil))))))))))
def b__law_done : SM := sTryR true (sSeq (sIf (tB' (eBin eqA (eVar 1) (eC (.str [97, 100, 100, 95, 109, 97, 99, 104, 105, 110, 101])))) (sRet (eLst true (aCons (eC (.str [116, 111, 108, 100])) (aCons (eIf (tTru (eVar 3)) (eMtK 0 34 1 1 [0, 1] m_Desk_add_machine (eVar 0) (aCons (eBin fIx (eVar 2) (eC (.int 0))) (aNil))) (eMt 0 34 2 [0, 1] m_Desk_add_machine (eVar 0) (aCons (eBin fIx (eVar 2) (eC (.int 0))) (aNil)))) (aNil))))) (sNil)) (sSeq (sIf (tB' (eBin eqA (eVar 1) (eC (.str [99, 108, 111, 115, 101, 95, 109, 97, 99, 104, 105, 110, 101])))) (sRet (eLst true (aCons (eC (.str [116, 111, 108, 100])) (aCons (eIf (tTru (eVar 3)) (eMtK 0 33 1 1 [0, 1] m_Desk_close_machine (eVar 0) (aCons (eBin fIx (eVar 2) (eC (.int 0))) (aNil))) (eMt 0 33 2 [0, 1] m_Desk_close_machine (eVar 0) (aCons (eBin fIx (eVar 2) (eC (.int 0))) (aNil)))) (aNil))))) (sNil)) (sSeq (sIf (tB' (eBin eqA (eVar 1) (eC (.str [116, 97, 107, 101, 95, 105, 110])))) (sRet (eLst true (aCons (eC (.str [116, 111, 108, 100])) (aCons (eIf (tTru (eVar 3)) (eMtK 0 32 1 3 [0, 3, 2, 1] m_Desk_take_in (eVar 0) (aCons (eBin fIx (eVar 2) (eC (.int 2))) (aCons (eBin fIx (eVar 2) (eC (.int 1))) (aCons (eBin fIx (eVar 2) (eC (.int 0))) (aNil))))) (eMt 0 32 4 [0, 1, 2, 3] m_Desk_take_in (eVar 0) (aCons (eBin fIx (eVar 2) (eC (.int 0))) (aCons (eBin fIx (eVar 2) (eC (.int 1))) (aCons (eBin fIx (eVar 2) (eC (.int 2))) (aNil)))))) (aNil))))) (sNil)) (sSeq (sIf (tB' (eBin eqA (eVar 1) (eC (.str [103, 105, 118, 101, 95, 111, 117, 116])))) (sRet (eLst true (aCons (eC (.str [116, 111, 108, 100])) (aCons (eIf (tTru (eVar 3)) (eMtK 0 31 1 2 [0, 2, 1] m_Desk_give_out (eVar 0) (aCons (eBin fIx (eVar 2) (eC (.int 1))) (aCons (eBin fIx (eVar 2) (eC (.int 0))) (aNil)))) (eMt 0 31 3 [0, 1, 2] m_Desk_give_out (eVar 0) (aCons (eBin fIx (eVar 2) (eC (.int 0))) (aCons (eBin fIx (eVar 2) (eC (.int 1))) (aNil))))) (aNil))))) (sNil)) (sSeq (sIf (tB' (eBin eqA (eVar 1) (eC (.str [99, 97, 108, 108, 95, 98, 97, 99, 107])))) (sRet (eLst true (aCons (eC (.str [116, 111, 108, 100])) (aCons (eIf (tTru (eVar 3)) (eMtK 0 30 1 1 [0, 1] m_Desk_call_back (eVar 0) (aCons (eBin fIx (eVar 2) (eC (.int 0))) (aNil))) (eMt 0 30 2 [0, 1] m_Desk_call_back (eVar 0) (aCons (eBin fIx (eVar 2) (eC (.int 0))) (aNil)))) (aNil))))) (sNil)) (sSeq (sIf (tB' (eBin eqA (eVar 1) (eC (.str [104, 117, 114, 114, 121])))) (sRet (eLst true (aCons (eC (.str [116, 111, 108, 100])) (aCons (eIf (tTru (eVar 3)) (eMtK 0 29 1 1 [0, 1] m_Desk_hurry (eVar 0) (aCons (eBin fIx (eVar 2) (eC (.int 0))) (aNil))) (eMt 0 29 2 [0, 1] m_Desk_hurry (eVar 0) (aCons (eBin fIx (eVar 2) (eC (.int 0))) (aNil)))) (aNil))))) (sNil)) (sSeq (sIf (tB' (eBin eqA (eVar 1) (eC (.str [102, 105, 110, 105, 115, 104])))) (sRet (eLst true (aCons (eC (.str [116, 111, 108, 100])) (aCons (eIf (tTru (eVar 3)) (eMtK 0 28 1 1 [0, 1] m_Desk_finish (eVar 0) (aCons (eBin fIx (eVar 2) (eC (.int 0))) (aNil))) (eMt 0 28 2 [0, 1] m_Desk_finish (eVar 0) (aCons (eBin fIx (eVar 2) (eC (.int 0))) (aNil)))) (aNil))))) (sNil)) (sRet (eLst true (aCons (eC (.str [116, 111, 108, 100])) (aCons (eMt 0 27 1 [0] m_Desk_settle (eVar 0) aNil) (aNil)))))))))))) [2, 3, 4, 5, 6, 7, 8, 9] [(4, 4, [.s [110, 97, 109, 101], .f 15, .i true]), (8, 4, [.s [116, 97, 107, 101, 110], .f 13, .i true]), (9, 4, [.s [117, 110, 107, 110, 111, 119, 110], .f 13, .i true]), (5, 4, [.s [109, 97, 110, 121], .f 14, .i true]), (3, 4, [.s [108, 101, 110, 103, 116, 104], .f 15, .i true]), (2, 4, [.s [100, 117, 101], .f 15, .i true]), (7, 4, [.s [119, 97, 105, 116, 115], .f 20, .i true]), (6, 4, [.s [109, 97, 99, 104, 105, 110, 101, 115], .n, .i true])]
def m__law_done : FM := fnM 4 1 b__law_done
theorem fn__law_done (G : GF K mg base) : FnE P w K mg base (gm K) 7 D__law_done ["desk", "word", "args", "named"] m__law_done := fnE_of (k := 6) (N := ["desk", "word", "args", "named", "e"]) (ps := ["desk", "word", "args", "named"]) (loc := 1) G.d__law_done rfl rfl ⟨rfl, rfl, rfl, by decide +kernel, rfl, by decide +kernel, by decide +kernel⟩ rfl (fun h cdv A outer s H E hr => by
  have hr : Room 6 _ := hr
  have hu := hr.units
  have hK : (bodyX P w K mg base D__law_done ["desk", "word", "args", "named", "e"] cdv A outer s H E).K = (gm K).K := rfl
  have hN : (["desk", "word", "args", "named", "e"] : List Str).Nodup := by decide +kernel
  have tk := body_takes (P := P) (w := w) (K := K) (mg := mg) (base := base) (d := D__law_done) (N := ["desk", "word", "args", "named", "e"]) (cdv := cdv) (A := A) (outer := outer) (s := s) (H := H) (E := E)
  have pso : PassesOwn (model P w) _ _ _ := passes_of (X := bodyX P w K mg base D__law_done ["desk", "word", "args", "named", "e"] cdv A outer s H E) rfl
  exact (dss_one (ds_tryR (fz := true) (cs := [2, 3, 4, 5, 6, 7, 8, 9]) (cl := [(4, 4, [.s [110, 97, 109, 101], .f 15, .i true]), (8, 4, [.s [116, 97, 107, 101, 110], .f 13, .i true]), (9, 4, [.s [117, 110, 107, 110, 111, 119, 110], .f 13, .i true]), (5, 4, [.s [109, 97, 110, 121], .f 14, .i true]), (3, 4, [.s [108, 101, 110, 103, 116, 104], .f 15, .i true]), (2, 4, [.s [100, 117, 101], .f 15, .i true]), (7, 4, [.s [119, 97, 105, 116, 115], .f 20, .i true]), (6, 4, [.s [109, 97, 99, 104, 105, 110, 101, 115], .n, .i true])]) hK rfl rfl hN tk (fun _ _ _ tk pso => (dss_cons (ds_if (dt_cmp (m_eq hK hu) (de_var (i := 1) rfl (.inl rfl)) (de_str (l := [97, 100, 100, 95, 109, 97, 99, 104, 105, 110, 101]) rfl) (by wtm_at "mk")) (dss_one (ds_ret (de_lst (fz := true) (da_cons (de_str (l := [116, 111, 108, 100]) rfl) (da_cons (de_if (dt_tru hK (de_var (i := 3) rfl (.inl rfl))) (de_mtK (c := 0) (mn := 34) (np := 1) (ks := ["name"]) (ix := [0, 1]) ((fn_Desk_add_machine G).mono (by decide)) hr rfl tk (fun _ _ _ _ _ _ us ws h1 h2 => match us, ws, h1, h2 with | [_], [_], _, _ => rfl) rfl G.ck_Desk G.t_Desk_add_machine (de_var (i := 0) rfl (.inl rfl)) (dk_cons (de_ix hK (u1_of hu) (de_var (i := 2) rfl (.inl rfl)) de_int (fun _ _ => rfl)) dk_nil)) (de_mt (c := 0) (mn := 34) (np := 2) (ix := [0, 1]) ((fn_Desk_add_machine G).mono (by decide)) hr rfl tk (fun _ _ _ _ _ _ us ws h1 h2 => match us, ws, h1, h2 with | [_, _], [], _, _ => rfl) rfl G.ck_Desk G.t_Desk_add_machine (de_var (i := 0) rfl (.inl rfl)) (da_cons (de_ix hK (u1_of hu) (de_var (i := 2) rfl (.inl rfl)) de_int (fun _ _ => rfl)) da_nil))) da_nil))))) dss_nil) (dss_cons (ds_if (dt_cmp (m_eq hK hu) (de_var (i := 1) rfl (.inl rfl)) (de_str (l := [99, 108, 111, 115, 101, 95, 109, 97, 99, 104, 105, 110, 101]) rfl) (by wtm_at "mk")) (dss_one (ds_ret (de_lst (fz := true) (da_cons (de_str (l := [116, 111, 108, 100]) rfl) (da_cons (de_if (dt_tru hK (de_var (i := 3) rfl (.inl rfl))) (de_mtK (c := 0) (mn := 33) (np := 1) (ks := ["name"]) (ix := [0, 1]) ((fn_Desk_close_machine G).mono (by decide)) hr rfl tk (fun _ _ _ _ _ _ us ws h1 h2 => match us, ws, h1, h2 with | [_], [_], _, _ => rfl) rfl G.ck_Desk G.t_Desk_close_machine (de_var (i := 0) rfl (.inl rfl)) (dk_cons (de_ix hK (u1_of hu) (de_var (i := 2) rfl (.inl rfl)) de_int (fun _ _ => rfl)) dk_nil)) (de_mt (c := 0) (mn := 33) (np := 2) (ix := [0, 1]) ((fn_Desk_close_machine G).mono (by decide)) hr rfl tk (fun _ _ _ _ _ _ us ws h1 h2 => match us, ws, h1, h2 with | [_, _], [], _, _ => rfl) rfl G.ck_Desk G.t_Desk_close_machine (de_var (i := 0) rfl (.inl rfl)) (da_cons (de_ix hK (u1_of hu) (de_var (i := 2) rfl (.inl rfl)) de_int (fun _ _ => rfl)) da_nil))) da_nil))))) dss_nil) (dss_cons (ds_if (dt_cmp (m_eq hK hu) (de_var (i := 1) rfl (.inl rfl)) (de_str (l := [116, 97, 107, 101, 95, 105, 110]) rfl) (by wtm_at "mk")) (dss_one (ds_ret (de_lst (fz := true) (da_cons (de_str (l := [116, 111, 108, 100]) rfl) (da_cons (de_if (dt_tru hK (de_var (i := 3) rfl (.inl rfl))) (de_mtK (c := 0) (mn := 32) (np := 1) (ks := ["due", "length", "job"]) (ix := [0, 3, 2, 1]) ((fn_Desk_take_in G).mono (by decide)) hr rfl tk (fun _ _ _ _ _ _ us ws h1 h2 => match us, ws, h1, h2 with | [_], [_, _, _], _, _ => rfl) rfl G.ck_Desk G.t_Desk_take_in (de_var (i := 0) rfl (.inl rfl)) (dk_cons (de_ix hK (u1_of hu) (de_var (i := 2) rfl (.inl rfl)) de_int (fun _ _ => rfl)) (dk_cons (de_ix hK (u1_of hu) (de_var (i := 2) rfl (.inl rfl)) de_int (fun _ _ => rfl)) (dk_cons (de_ix hK (u1_of hu) (de_var (i := 2) rfl (.inl rfl)) de_int (fun _ _ => rfl)) dk_nil)))) (de_mt (c := 0) (mn := 32) (np := 4) (ix := [0, 1, 2, 3]) ((fn_Desk_take_in G).mono (by decide)) hr rfl tk (fun _ _ _ _ _ _ us ws h1 h2 => match us, ws, h1, h2 with | [_, _, _, _], [], _, _ => rfl) rfl G.ck_Desk G.t_Desk_take_in (de_var (i := 0) rfl (.inl rfl)) (da_cons (de_ix hK (u1_of hu) (de_var (i := 2) rfl (.inl rfl)) de_int (fun _ _ => rfl)) (da_cons (de_ix hK (u1_of hu) (de_var (i := 2) rfl (.inl rfl)) de_int (fun _ _ => rfl)) (da_cons (de_ix hK (u1_of hu) (de_var (i := 2) rfl (.inl rfl)) de_int (fun _ _ => rfl)) da_nil))))) da_nil))))) dss_nil) (dss_cons (ds_if (dt_cmp (m_eq hK hu) (de_var (i := 1) rfl (.inl rfl)) (de_str (l := [103, 105, 118, 101, 95, 111, 117, 116]) rfl) (by wtm_at "mk")) (dss_one (ds_ret (de_lst (fz := true) (da_cons (de_str (l := [116, 111, 108, 100]) rfl) (da_cons (de_if (dt_tru hK (de_var (i := 3) rfl (.inl rfl))) (de_mtK (c := 0) (mn := 31) (np := 1) (ks := ["machine", "job"]) (ix := [0, 2, 1]) ((fn_Desk_give_out G).mono (by decide)) hr rfl tk (fun _ _ _ _ _ _ us ws h1 h2 => match us, ws, h1, h2 with | [_], [_, _], _, _ => rfl) rfl G.ck_Desk G.t_Desk_give_out (de_var (i := 0) rfl (.inl rfl)) (dk_cons (de_ix hK (u1_of hu) (de_var (i := 2) rfl (.inl rfl)) de_int (fun _ _ => rfl)) (dk_cons (de_ix hK (u1_of hu) (de_var (i := 2) rfl (.inl rfl)) de_int (fun _ _ => rfl)) dk_nil))) (de_mt (c := 0) (mn := 31) (np := 3) (ix := [0, 1, 2]) ((fn_Desk_give_out G).mono (by decide)) hr rfl tk (fun _ _ _ _ _ _ us ws h1 h2 => match us, ws, h1, h2 with | [_, _, _], [], _, _ => rfl) rfl G.ck_Desk G.t_Desk_give_out (de_var (i := 0) rfl (.inl rfl)) (da_cons (de_ix hK (u1_of hu) (de_var (i := 2) rfl (.inl rfl)) de_int (fun _ _ => rfl)) (da_cons (de_ix hK (u1_of hu) (de_var (i := 2) rfl (.inl rfl)) de_int (fun _ _ => rfl)) da_nil)))) da_nil))))) dss_nil) (dss_cons (ds_if (dt_cmp (m_eq hK hu) (de_var (i := 1) rfl (.inl rfl)) (de_str (l := [99, 97, 108, 108, 95, 98, 97, 99, 107]) rfl) (by wtm_at "mk")) (dss_one (ds_ret (de_lst (fz := true) (da_cons (de_str (l := [116, 111, 108, 100]) rfl) (da_cons (de_if (dt_tru hK (de_var (i := 3) rfl (.inl rfl))) (de_mtK (c := 0) (mn := 30) (np := 1) (ks := ["job"]) (ix := [0, 1]) ((fn_Desk_call_back G).mono (by decide)) hr rfl tk (fun _ _ _ _ _ _ us ws h1 h2 => match us, ws, h1, h2 with | [_], [_], _, _ => rfl) rfl G.ck_Desk G.t_Desk_call_back (de_var (i := 0) rfl (.inl rfl)) (dk_cons (de_ix hK (u1_of hu) (de_var (i := 2) rfl (.inl rfl)) de_int (fun _ _ => rfl)) dk_nil)) (de_mt (c := 0) (mn := 30) (np := 2) (ix := [0, 1]) ((fn_Desk_call_back G).mono (by decide)) hr rfl tk (fun _ _ _ _ _ _ us ws h1 h2 => match us, ws, h1, h2 with | [_, _], [], _, _ => rfl) rfl G.ck_Desk G.t_Desk_call_back (de_var (i := 0) rfl (.inl rfl)) (da_cons (de_ix hK (u1_of hu) (de_var (i := 2) rfl (.inl rfl)) de_int (fun _ _ => rfl)) da_nil))) da_nil))))) dss_nil) (dss_cons (ds_if (dt_cmp (m_eq hK hu) (de_var (i := 1) rfl (.inl rfl)) (de_str (l := [104, 117, 114, 114, 121]) rfl) (by wtm_at "mk")) (dss_one (ds_ret (de_lst (fz := true) (da_cons (de_str (l := [116, 111, 108, 100]) rfl) (da_cons (de_if (dt_tru hK (de_var (i := 3) rfl (.inl rfl))) (de_mtK (c := 0) (mn := 29) (np := 1) (ks := ["job"]) (ix := [0, 1]) ((fn_Desk_hurry G).mono (by decide)) hr rfl tk (fun _ _ _ _ _ _ us ws h1 h2 => match us, ws, h1, h2 with | [_], [_], _, _ => rfl) rfl G.ck_Desk G.t_Desk_hurry (de_var (i := 0) rfl (.inl rfl)) (dk_cons (de_ix hK (u1_of hu) (de_var (i := 2) rfl (.inl rfl)) de_int (fun _ _ => rfl)) dk_nil)) (de_mt (c := 0) (mn := 29) (np := 2) (ix := [0, 1]) ((fn_Desk_hurry G).mono (by decide)) hr rfl tk (fun _ _ _ _ _ _ us ws h1 h2 => match us, ws, h1, h2 with | [_, _], [], _, _ => rfl) rfl G.ck_Desk G.t_Desk_hurry (de_var (i := 0) rfl (.inl rfl)) (da_cons (de_ix hK (u1_of hu) (de_var (i := 2) rfl (.inl rfl)) de_int (fun _ _ => rfl)) da_nil))) da_nil))))) dss_nil) (dss_cons (ds_if (dt_cmp (m_eq hK hu) (de_var (i := 1) rfl (.inl rfl)) (de_str (l := [102, 105, 110, 105, 115, 104]) rfl) (by wtm_at "mk")) (dss_one (ds_ret (de_lst (fz := true) (da_cons (de_str (l := [116, 111, 108, 100]) rfl) (da_cons (de_if (dt_tru hK (de_var (i := 3) rfl (.inl rfl))) (de_mtK (c := 0) (mn := 28) (np := 1) (ks := ["job"]) (ix := [0, 1]) ((fn_Desk_finish G).mono (by decide)) hr rfl tk (fun _ _ _ _ _ _ us ws h1 h2 => match us, ws, h1, h2 with | [_], [_], _, _ => rfl) rfl G.ck_Desk G.t_Desk_finish (de_var (i := 0) rfl (.inl rfl)) (dk_cons (de_ix hK (u1_of hu) (de_var (i := 2) rfl (.inl rfl)) de_int (fun _ _ => rfl)) dk_nil)) (de_mt (c := 0) (mn := 28) (np := 2) (ix := [0, 1]) ((fn_Desk_finish G).mono (by decide)) hr rfl tk (fun _ _ _ _ _ _ us ws h1 h2 => match us, ws, h1, h2 with | [_, _], [], _, _ => rfl) rfl G.ck_Desk G.t_Desk_finish (de_var (i := 0) rfl (.inl rfl)) (da_cons (de_ix hK (u1_of hu) (de_var (i := 2) rfl (.inl rfl)) de_int (fun _ _ => rfl)) da_nil))) da_nil))))) dss_nil) (dss_one (ds_ret (de_lst (fz := true) (da_cons (de_str (l := [116, 111, 108, 100]) rfl) (da_cons (de_mt0 (c := 0) (mn := 27) (np := 1) (ix := [0]) ((fn_Desk_settle G).mono (by decide)) hr rfl tk (fun _ _ _ _ _ _ us ws h1 h2 => match us, ws, h1, h2 with | [_], [], _, _ => rfl) rfl G.ck_Desk G.t_Desk_settle (de_var (i := 0) rfl (.inl rfl))) da_nil))))))))))))) (.cons (x := "InvalidName") ⟨rfl, by decide, .inl G.g_InvalidName⟩ rfl rfl (.cons (itm_s rfl) (by intros; rfl) (.cons (itm_f (g := 15) hK (Mw.ExcC.xf G.ex_InvalidName.c) rfl G.ex_InvalidName.n rfl (.inl rfl)) (by intros; rfl) (.cons (itm_i (g := 1) hK G.ex_InvalidName.c G.ki_InvalidName_ScheduleError G.g_ScheduleError rfl rfl (.inl rfl) rfl G.b_isinstance bt_isinstance) (by intros; rfl) .nil))) (.cons (x := "TakenName") ⟨rfl, by decide, .inl G.g_TakenName⟩ rfl rfl (.cons (itm_s rfl) (by intros; rfl) (.cons (itm_f (g := 13) hK (Mw.ExcC.xf G.ex_TakenName.c) rfl G.ex_TakenName.n rfl (.inl rfl)) (by intros; rfl) (.cons (itm_i (g := 1) hK G.ex_TakenName.c G.ki_TakenName_ScheduleError G.g_ScheduleError rfl rfl (.inl rfl) rfl G.b_isinstance bt_isinstance) (by intros; rfl) .nil))) (.cons (x := "UnknownName") ⟨rfl, by decide, .inl G.g_UnknownName⟩ rfl rfl (.cons (itm_s rfl) (by intros; rfl) (.cons (itm_f (g := 13) hK (Mw.ExcC.xf G.ex_UnknownName.c) rfl G.ex_UnknownName.n rfl (.inl rfl)) (by intros; rfl) (.cons (itm_i (g := 1) hK G.ex_UnknownName.c G.ki_UnknownName_ScheduleError G.g_ScheduleError rfl rfl (.inl rfl) rfl G.b_isinstance bt_isinstance) (by intros; rfl) .nil))) (.cons (x := "TooMany") ⟨rfl, by decide, .inl G.g_TooMany⟩ rfl rfl (.cons (itm_s rfl) (by intros; rfl) (.cons (itm_f (g := 14) hK (Mw.ExcC.xf G.ex_TooMany.c) rfl G.ex_TooMany.n rfl (.inl rfl)) (by intros; rfl) (.cons (itm_i (g := 1) hK G.ex_TooMany.c G.ki_TooMany_ScheduleError G.g_ScheduleError rfl rfl (.inl rfl) rfl G.b_isinstance bt_isinstance) (by intros; rfl) .nil))) (.cons (x := "InvalidLength") ⟨rfl, by decide, .inl G.g_InvalidLength⟩ rfl rfl (.cons (itm_s rfl) (by intros; rfl) (.cons (itm_f (g := 15) hK (Mw.ExcC.xf G.ex_InvalidLength.c) rfl G.ex_InvalidLength.n rfl (.inl rfl)) (by intros; rfl) (.cons (itm_i (g := 1) hK G.ex_InvalidLength.c G.ki_InvalidLength_ScheduleError G.g_ScheduleError rfl rfl (.inl rfl) rfl G.b_isinstance bt_isinstance) (by intros; rfl) .nil))) (.cons (x := "InvalidDue") ⟨rfl, by decide, .inl G.g_InvalidDue⟩ rfl rfl (.cons (itm_s rfl) (by intros; rfl) (.cons (itm_f (g := 15) hK (Mw.ExcC.xf G.ex_InvalidDue.c) rfl G.ex_InvalidDue.n rfl (.inl rfl)) (by intros; rfl) (.cons (itm_i (g := 1) hK G.ex_InvalidDue.c G.ki_InvalidDue_ScheduleError G.g_ScheduleError rfl rfl (.inl rfl) rfl G.b_isinstance bt_isinstance) (by intros; rfl) .nil))) (.cons (x := "NotGiven") ⟨rfl, by decide, .inl G.g_NotGiven⟩ rfl rfl (.cons (itm_s rfl) (by intros; rfl) (.cons (itm_f (g := 20) hK (Mw.ExcC.xf G.ex_NotGiven.c) rfl G.ex_NotGiven.n rfl (.inl rfl)) (by intros; rfl) (.cons (itm_i (g := 1) hK G.ex_NotGiven.c G.ki_NotGiven_ScheduleError G.g_ScheduleError rfl rfl (.inl rfl) rfl G.b_isinstance bt_isinstance) (by intros; rfl) .nil))) (.cons (x := "NoMachines") ⟨rfl, by decide, .inl G.g_NoMachines⟩ rfl rfl (.cons (itm_s rfl) (by intros; rfl) (.cons itm_n (by intros; rfl) (.cons (itm_i (g := 1) hK G.ex_NoMachines.c G.ki_NoMachines_ScheduleError G.g_ScheduleError rfl rfl (.inl rfl) rfl G.b_isinstance bt_isinstance) (by intros; rfl) .nil))) .nil)))))))) (fun q hq c hc => G.em q.1 (by first | decide | (revert q; decide)) c hc))))
def b__law_step : SM := sSeq (sPar 5 6 (eFn 3 [0, 1, 2] m__law_deed (aCons (eVar 1) (aCons (eVar 2) (aCons (eVar 3) (aNil))))) (eFn 4 [0, 1, 2, 3] m__law_done (aCons (eVar 0) (aCons (eVar 2) (aCons (eVar 3) (aCons (eVar 4) (aNil))))))) (sSeq (sIf (tB' (eBin eqA (eBin fIx (eVar 5) (eC (.int 0))) (eC (.str [116, 111, 108, 100])))) (sRet (eIf (tTru (eFn 2 [0, 1] (m__law_same 9) (aCons (eVar 6) (aCons (eLst true (aCons (eC (.str [116, 111, 108, 100])) (aCons (eC .non) (aNil)))) (aNil))))) (eBin fIx (eVar 5) (eC (.int 1))) (eC .non))) (sNil)) (sSeq (sIf (tOr (tB' (eBin neA (eBin fIx (eVar 6) (eC (.int 0))) (eBin fIx (eVar 5) (eC (.int 0))))) (tB' (eBin isnA (eBin fIx (eVar 6) (eC (.int 2))) (eC (.bl true))))) (sRet (eC .non)) (sNil)) (sRet (eIf (tTru (eFn 2 [0, 1] m__law_very (aCons (eBin fIx (eVar 6) (eC (.int 1))) (aCons (eBin fIx (eVar 5) (eC (.int 1))) (aNil))))) (eVar 1) (eC .non)))))
def m__law_step : FM := fnM 5 2 b__law_step
theorem fn__law_step (G : GF K mg base) : FnE P w K mg base (gm K) 12 D__law_step ["desk", "state", "word", "args", "named"] m__law_step := fnE_of (k := 11) (N := ["desk", "state", "word", "args", "named", "due", "told"]) (ps := ["desk", "state", "word", "args", "named"]) (loc := 2) G.d__law_step rfl rfl ⟨rfl, rfl, rfl, by decide +kernel, rfl, by decide +kernel, by decide +kernel⟩ rfl (fun h cdv A outer s H E hr => by
  have hr : Room 11 _ := hr
  have hu := hr.units
  have hK : (bodyX P w K mg base D__law_step ["desk", "state", "word", "args", "named", "due", "told"] cdv A outer s H E).K = (gm K).K := rfl
  have hN : (["desk", "state", "word", "args", "named", "due", "told"] : List Str).Nodup := by decide +kernel
  have tk := body_takes (P := P) (w := w) (K := K) (mg := mg) (base := base) (d := D__law_step) (N := ["desk", "state", "word", "args", "named", "due", "told"]) (cdv := cdv) (A := A) (outer := outer) (s := s) (H := H) (E := E)
  have pso : PassesOwn (model P w) _ _ _ := passes_of (X := bodyX P w K mg base D__law_step ["desk", "state", "word", "args", "named", "due", "told"] cdv A outer s H E) rfl
  exact (dss_cons (ds_par (i := 5) (j := 6) rfl hN rfl rfl (by decide) rfl rfl (de_fn (np := 3) (ix := [0, 1, 2]) ((fn__law_deed G).mono (by decide)) hr rfl tk (fun _ _ _ _ _ _ us ws h1 h2 => match us, ws, h1, h2 with | [_, _, _], [], _, _ => rfl) rfl G.g__law_deed (da_cons (de_var (i := 1) rfl (.inl rfl)) (da_cons (de_var (i := 2) rfl (.inl rfl)) (da_cons (de_var (i := 3) rfl (.inl rfl)) da_nil)))) (de_fn (np := 4) (ix := [0, 1, 2, 3]) ((fn__law_done G).mono (by decide)) hr rfl tk (fun _ _ _ _ _ _ us ws h1 h2 => match us, ws, h1, h2 with | [_, _, _, _], [], _, _ => rfl) rfl G.g__law_done (da_cons (de_var (i := 0) rfl (.inl rfl)) (da_cons (de_var (i := 2) rfl (.inl rfl)) (da_cons (de_var (i := 3) rfl (.inl rfl)) (da_cons (de_var (i := 4) rfl (.inl rfl)) da_nil))))) rfl) (dss_cons (ds_if (dt_cmp (m_eq hK hu) (de_ix hK (u1_of hu) (de_var (i := 5) rfl (.inl rfl)) de_int (fun _ _ => rfl)) (de_str (l := [116, 111, 108, 100]) rfl) (by wtm_at "mk")) (dss_one (ds_ret (de_if (dt_tru hK (de_fn (np := 2) (ix := [0, 1]) ((fn__law_same G 9).mono (by decide)) hr rfl tk (fun _ _ _ _ _ _ us ws h1 h2 => match us, ws, h1, h2 with | [_, _], [], _, _ => rfl) rfl G.g__law_same (da_cons (de_var (i := 6) rfl (.inl rfl)) (da_cons (de_lst (fz := true) (da_cons (de_str (l := [116, 111, 108, 100]) rfl) (da_cons de_non da_nil))) da_nil)))) (de_ix hK (u1_of hu) (de_var (i := 5) rfl (.inl rfl)) de_int (fun _ _ => rfl)) de_non))) dss_nil) (dss_cons (ds_if (dt_w (dw_or (dt_cmp (m_ne hK hu) (de_ix hK (u1_of hu) (de_var (i := 6) rfl (.inl rfl)) de_int (fun _ _ => rfl)) (de_ix hK (u1_of hu) (de_var (i := 5) rfl (.inl rfl)) de_int (fun _ _ => rfl)) (by wtm_at "mk")) (dw_or1 (dt_cmp m_isn (de_ix hK (u1_of hu) (de_var (i := 6) rfl (.inl rfl)) de_int (fun _ _ => rfl)) de_bl (by wtm_at "mk"))))) (dss_one (ds_ret de_non)) dss_nil) (dss_one (ds_ret (de_if (dt_tru hK (de_fn (np := 2) (ix := [0, 1]) ((fn__law_very G).mono (by decide)) hr rfl tk (fun _ _ _ _ _ _ us ws h1 h2 => match us, ws, h1, h2 with | [_, _], [], _, _ => rfl) rfl G.g__law_very (da_cons (de_ix hK (u1_of hu) (de_var (i := 6) rfl (.inl rfl)) de_int (fun _ _ => rfl)) (da_cons (de_ix hK (u1_of hu) (de_var (i := 5) rfl (.inl rfl)) de_int (fun _ _ => rfl)) da_nil)))) (de_var (i := 1) rfl (.inl rfl)) de_non)))))))
def b__law_desk_right : SM := sSeq (sPar3 2 3 4 (eMk 0 m_Desk___init__ aNil) (eLst true (aCons (eFrz (eDNew)) (aCons (eFrz (eDNew)) (aNil)))) (eC (.int 0))) (sSeq (sSet 5 (eLc true (iAny (eSl true (eLst true (aCons (eC (.str [115, 97, 119])) (aCons (eC (.str [109, 105, 108, 108])) (aCons (eC (.str [98, 101, 110, 99, 104])) (aCons (eC (.str [100, 114, 105, 108, 108])) (aCons (eC (.str [108, 97, 116, 104, 101])) (aNil))))))) oNone (oSome (eFn 2 [0, 1] m__law_take (aCons (eVar 0) (aCons (eC (.int 6)) (aNil))))))) (gN 14) (tYes') (eLst true (aCons (eC (.str [97, 100, 100, 95, 109, 97, 99, 104, 105, 110, 101])) (aCons (eLst true (aCons (eVar 14) (aNil))) (aNil)))) [14])) (sSeq (sSet 6 (eBin fIx (eLst true (aCons (eC (.int 1)) (aCons (eC (.int 3)) (aCons (eC (.int 9)) (aCons (eC (.int 60)) (aNil)))))) (eFn 2 [0, 1] m__law_take (aCons (eVar 0) (aCons (eC (.int 4)) (aNil)))))) (sSeq (sSet 5 (eBin (addA true) (eVar 5) (eLc true (iAny (eSl true (eLst true (aCons (eC (.str [97, 114, 109])) (aCons (eC (.str [108, 101, 103])) (aCons (eC (.str [116, 111, 112])) (aCons (eC (.str [114, 97, 105, 108])) (aCons (eC (.str [107, 110, 111, 98])) (aCons (eC (.str [112, 101, 103])) (aCons (eC (.str [115, 101, 97, 116])) (aCons (eC (.str [98, 97, 99, 107])) (aNil)))))))))) oNone (oSome (eFn 2 [0, 1] m__law_take (aCons (eVar 0) (aCons (eC (.int 9)) (aNil))))))) (gN 14) (tYes') (eLst true (aCons (eC (.str [116, 97, 107, 101, 95, 105, 110])) (aCons (eLst true (aCons (eVar 14) (aCons (eBin (addA true) (eC (.int 1)) (eFn 2 [0, 1] m__law_take (aCons (eVar 0) (aCons (eVar 6) (aNil))))) (aCons (eFn 2 [0, 1] m__law_take (aCons (eVar 0) (aCons (eC (.int 60)) (aNil)))) (aNil))))) (aNil)))) [14]))) (sSeq (sFor (iAny (eVar 5)) (gSeq 2 (gCons' (gN 7) (gCons' (gN 8) (gNil')))) (sSeq (sPar 3 4 (eFn 5 [0, 1, 2, 3, 4] m__law_step (aCons (eVar 2) (aCons (eVar 3) (aCons (eVar 7) (aCons (eVar 8) (aCons (eVar 1) (aNil))))))) (eBin (addA true) (eVar 4) (eC (.int 1)))) (sIf (tB' (eBin isA (eVar 3) (eC .non))) (sRet (eC (.bl false))) (sNil)))) (sSeq (sFor (iRg1 (aCons (eBin (addA true) (eC (.int 4)) (eFn 2 [0, 1] m__law_take (aCons (eVar 0) (aCons (eC (.int 12)) (aNil))))) (aNil))) (gN 9) (sSeq (sAsg (eIf (tB' (eBin gtI (eFn 2 [0, 1] m__law_take (aCons (eVar 0) (aCons (eC (.int 3)) (aNil)))) (eC (.int 0)))) (eFn 3 [0, 1, 2] m__law_change (aCons (eVar 0) (aCons (eVar 3) (aCons (eC (.int 3)) (aNil))))) (eLst true (aCons (eC (.str [115, 101, 116, 116, 108, 101])) (aCons (eLst true (aNil)) (aNil))))) (gSeq 2 (gCons' (gN 7) (gCons' (gN 8) (gNil'))))) (sSeq (sPar 10 11 (eFn 1 [0] m__law_loads (aCons (eVar 3) (aNil))) (eFn 1 [0] m__law_waiting (aCons (eVar 3) (aNil)))) (sSeq (sPar 12 13 (eBin eqA (eBin fIx (eFn 3 [0, 1, 2] m__law_deed (aCons (eVar 3) (aCons (eVar 7) (aCons (eVar 8) (aNil))))) (eC (.int 0))) (eC (.str [116, 111, 108, 100]))) (eVar 3)) (sSeq (sSet 3 (eFn 5 [0, 1, 2, 3, 4] m__law_step (aCons (eVar 2) (aCons (eVar 3) (aCons (eVar 7) (aCons (eVar 8) (aCons (eVar 1) (aNil)))))))) (sSeq (sIf (tB' (eBin isA (eVar 3) (eC .non))) (sRet (eC (.bl false))) (sNil)) (sSeq (sPar 4 1 (eBin (addA true) (eVar 4) (eCall cInt (aCons (eVar 12) (aNil)))) (eNot (eVar 1))) (sSeq (sIf (tNot (tTru (eFn 2 [0, 1] (m__law_same 9) (aCons (eLst true (aCons (eFn 2 [0, 1] m__law_told_view (aCons (eVar 2) (aCons (eVar 1) (aNil)))) (aCons (eLenO 0 35 m_Desk___len__ (eVar 2)) (aNil)))) (aCons (eLst true (aCons (eFn 1 [0] m__law_view (aCons (eVar 3) (aNil))) (aCons (eVar 4) (aNil)))) (aNil)))))) (sRet (eC (.bl false))) (sNil)) (sIf (tAnd (tB' (eBin eqA (eVar 7) (eC (.str [115, 101, 116, 116, 108, 101])))) (tAnd (tTru (eVar 12)) (tNot (tTru (eFn 4 [0, 1, 2, 3] m__law_settle_right (aCons (eVar 2) (aCons (eVar 13) (aCons (eVar 10) (aCons (eVar 11) (aNil)))))))))) (sRet (eC (.bl false))) (sNil)))))))))) (sRet (eC (.bl true))))))))
def m__law_desk_right : FM := fnM 2 13 b__law_desk_right
theorem fn__law_desk_right (G : GF K mg base) : FnE P w K mg base (gm K) 13 D__law_desk_right ["box", "named"] m__law_desk_right := fnE_of (k := 12) (N := ["box", "named", "desk", "state", "many", "words", "wide", "word", "args", "turn", "before", "waiting", "good", "old", "name"]) (ps := ["box", "named"]) (loc := 13) G.d__law_desk_right rfl rfl ⟨rfl, rfl, rfl, by decide +kernel, rfl, by decide +kernel, by decide +kernel⟩ rfl (fun h cdv A outer s H E hr => by
  have hr : Room 12 _ := hr
  have hu := hr.units
  have hK : (bodyX P w K mg base D__law_desk_right ["box", "named", "desk", "state", "many", "words", "wide", "word", "args", "turn", "before", "waiting", "good", "old", "name"] cdv A outer s H E).K = (gm K).K := rfl
  have hN : (["box", "named", "desk", "state", "many", "words", "wide", "word", "args", "turn", "before", "waiting", "good", "old", "name"] : List Str).Nodup := by decide +kernel
  have tk := body_takes (P := P) (w := w) (K := K) (mg := mg) (base := base) (d := D__law_desk_right) (N := ["box", "named", "desk", "state", "many", "words", "wide", "word", "args", "turn", "before", "waiting", "good", "old", "name"]) (cdv := cdv) (A := A) (outer := outer) (s := s) (H := H) (E := E)
  have pso : PassesOwn (model P w) _ _ _ := passes_of (X := bodyX P w K mg base D__law_desk_right ["box", "named", "desk", "state", "many", "words", "wide", "word", "args", "turn", "before", "waiting", "good", "old", "name"] cdv A outer s H E) rfl
  have hr1 : Room (11 + 1) _ := hr
  exact (dss_cons (ds_par3 (i := 2) (j := 3) (l := 4) rfl hN rfl rfl rfl (by decide) (by decide) (by decide) rfl rfl rfl (de_mk0 (c := 0) ((fn_Desk___init__ G).mono (by decide)) hr1 rfl (fun _ FD => FD.bindsN (fun _ _ _ _ _ _ us h1 => match us, h1 with | [_], _ => rfl)) G.m_Desk rfl G.gc_Desk) (de_lst (fz := true) (da_cons (de_frz de_dnew) (da_cons (de_frz de_dnew) da_nil))) de_int rfl) (dss_cons (ds_setLc (j := 5) rfl hN rfl rfl rfl (di_any hK (de_sl (fz := true) hK (de_lst (fz := true) (da_cons (de_str (l := [115, 97, 119]) rfl) (da_cons (de_str (l := [109, 105, 108, 108]) rfl) (da_cons (de_str (l := [98, 101, 110, 99, 104]) rfl) (da_cons (de_str (l := [100, 114, 105, 108, 108]) rfl) (da_cons (de_str (l := [108, 97, 116, 104, 101]) rfl) da_nil)))))) do_none (do_some (de_fn (np := 2) (ix := [0, 1]) ((fn__law_take G).mono (by decide)) hr rfl tk (fun _ _ _ _ _ _ us ws h1 h2 => match us, ws, h1, h2 with | [_, _], [], _, _ => rfl) rfl G.g__law_take (da_cons (de_var (i := 0) rfl (.inr (.inl rfl))) (da_cons de_int da_nil)))))) (own := [("name", 14)]) (blkOk_by rfl) (fun _ _ _ _ _ _ => (dw_name (i := 14) (by decide) hN rfl (.inl rfl))) (fun _ _ _ _ _ _ => dts_nil) (fun _ _ _ _ _ _ => (de_lst (fz := true) (da_cons (de_str (l := [97, 100, 100, 95, 109, 97, 99, 104, 105, 110, 101]) rfl) (da_cons (de_lst (fz := true) (da_cons (de_var (i := 14) rfl (.inl rfl)) da_nil)) da_nil))))) (dss_cons (ds_set (i := 6) hN rfl (.inr rfl) (de_ix hK (u1_of hu) (de_lst (fz := true) (da_cons de_int (da_cons de_int (da_cons de_int (da_cons de_int da_nil))))) (de_fn (np := 2) (ix := [0, 1]) ((fn__law_take G).mono (by decide)) hr rfl tk (fun _ _ _ _ _ _ us ws h1 h2 => match us, ws, h1, h2 with | [_, _], [], _, _ => rfl) rfl G.g__law_take (da_cons (de_var (i := 0) rfl (.inr (.inl rfl))) (da_cons de_int da_nil))) (fun _ _ => rfl))) (dss_cons (ds_set (i := 5) hN rfl (.inl rfl) (de_bin (m_add (fz := true) hK) (de_var (i := 5) rfl (.inl rfl)) (de_lc (fz := true) rfl hN (di_any hK (de_sl (fz := true) hK (de_lst (fz := true) (da_cons (de_str (l := [97, 114, 109]) rfl) (da_cons (de_str (l := [108, 101, 103]) rfl) (da_cons (de_str (l := [116, 111, 112]) rfl) (da_cons (de_str (l := [114, 97, 105, 108]) rfl) (da_cons (de_str (l := [107, 110, 111, 98]) rfl) (da_cons (de_str (l := [112, 101, 103]) rfl) (da_cons (de_str (l := [115, 101, 97, 116]) rfl) (da_cons (de_str (l := [98, 97, 99, 107]) rfl) da_nil))))))))) do_none (do_some (de_fn (np := 2) (ix := [0, 1]) ((fn__law_take G).mono (by decide)) hr rfl tk (fun _ _ _ _ _ _ us ws h1 h2 => match us, ws, h1, h2 with | [_, _], [], _, _ => rfl) rfl G.g__law_take (da_cons (de_var (i := 0) rfl (.inr (.inl rfl))) (da_cons de_int da_nil)))))) (own := [("name", 14)]) (blkOk_by rfl) (fun _ _ _ _ _ _ => (dw_name (i := 14) (by decide) hN rfl (.inl rfl))) (fun _ _ _ _ _ _ => dts_nil) (fun _ _ _ _ _ _ => (de_lst (fz := true) (da_cons (de_str (l := [116, 97, 107, 101, 95, 105, 110]) rfl) (da_cons (de_lst (fz := true) (da_cons (de_var (i := 14) rfl (.inl rfl)) (da_cons (de_bin (m_add (fz := true) hK) de_int (de_fn (np := 2) (ix := [0, 1]) ((fn__law_take G).mono (by decide)) hr rfl takesF (fun _ _ _ _ _ _ us ws h1 h2 => match us, ws, h1, h2 with | [_, _], [], _, _ => rfl) rfl G.g__law_take (da_cons (de_var (i := 0) rfl (.inr (.inl rfl))) (da_cons (de_var (i := 6) rfl (.inr (.inl rfl))) da_nil)))) (da_cons (de_fn (np := 2) (ix := [0, 1]) ((fn__law_take G).mono (by decide)) hr rfl takesF (fun _ _ _ _ _ _ us ws h1 h2 => match us, ws, h1, h2 with | [_, _], [], _, _ => rfl) rfl G.g__law_take (da_cons (de_var (i := 0) rfl (.inr (.inl rfl))) (da_cons de_int da_nil))) da_nil)))) da_nil))))))) (dss_cons (ds_for pso rfl (di_any hK (de_var (i := 5) rfl (.inl rfl))) (dg_seq (n := 2) hK rfl (dgs_cons (dg_name (i := 7) hN rfl (.inl rfl)) (dgs_cons (dg_name (i := 8) hN rfl (.inl rfl)) dgs_nil))) (dss_cons (ds_par (i := 3) (j := 4) rfl hN rfl rfl (by decide) rfl rfl (de_fn (np := 5) (ix := [0, 1, 2, 3, 4]) ((fn__law_step G).mono (by decide)) hr rfl tk (fun _ _ _ _ _ _ us ws h1 h2 => match us, ws, h1, h2 with | [_, _, _, _, _], [], _, _ => rfl) rfl G.g__law_step (da_cons (de_var (i := 2) rfl (.inl rfl)) (da_cons (de_var (i := 3) rfl (.inl rfl)) (da_cons (de_var (i := 7) rfl (.inl rfl)) (da_cons (de_var (i := 8) rfl (.inl rfl)) (da_cons (de_var (i := 1) rfl (.inl rfl)) da_nil)))))) (de_bin (m_add (fz := true) hK) (de_var (i := 4) rfl (.inl rfl)) de_int) rfl) (dss_one (ds_if (dt_cmp m_is (de_var (i := 3) rfl (.inl rfl)) de_non (by wtm_at "mk")) (dss_one (ds_ret de_bl)) dss_nil)))) (dss_cons (ds_for pso rfl (di_range1 rfl G.b_range (da_cons (de_bin (m_add (fz := true) hK) de_int (de_fn (np := 2) (ix := [0, 1]) ((fn__law_take G).mono (by decide)) hr rfl tk (fun _ _ _ _ _ _ us ws h1 h2 => match us, ws, h1, h2 with | [_, _], [], _, _ => rfl) rfl G.g__law_take (da_cons (de_var (i := 0) rfl (.inr (.inl rfl))) (da_cons de_int da_nil)))) da_nil)) (dg_name (i := 9) hN rfl (.inl rfl)) (dss_cons (ds_asg (de_if (dt_cmp m_gtI (de_fn (np := 2) (ix := [0, 1]) ((fn__law_take G).mono (by decide)) hr rfl tk (fun _ _ _ _ _ _ us ws h1 h2 => match us, ws, h1, h2 with | [_, _], [], _, _ => rfl) rfl G.g__law_take (da_cons (de_var (i := 0) rfl (.inr (.inl rfl))) (da_cons de_int da_nil))) de_int (by wtm_at "mk")) (de_fn (np := 3) (ix := [0, 1, 2]) ((fn__law_change G).mono (by decide)) hr rfl tk (fun _ _ _ _ _ _ us ws h1 h2 => match us, ws, h1, h2 with | [_, _, _], [], _, _ => rfl) rfl G.g__law_change (da_cons (de_var (i := 0) rfl (.inr (.inl rfl))) (da_cons (de_var (i := 3) rfl (.inl rfl)) (da_cons de_int da_nil)))) (de_lst (fz := true) (da_cons (de_str (l := [115, 101, 116, 116, 108, 101]) rfl) (da_cons (de_lst (fz := true) da_nil) da_nil)))) (dg_seq (n := 2) hK rfl (dgs_cons (dg_name (i := 7) hN rfl (.inl rfl)) (dgs_cons (dg_name (i := 8) hN rfl (.inl rfl)) dgs_nil)))) (dss_cons (ds_par (i := 10) (j := 11) rfl hN rfl rfl (by decide) rfl rfl (de_fn (np := 1) (ix := [0]) ((fn__law_loads G).mono (by decide)) hr rfl tk (fun _ _ _ _ _ _ us ws h1 h2 => match us, ws, h1, h2 with | [_], [], _, _ => rfl) rfl G.g__law_loads (da_cons (de_var (i := 3) rfl (.inl rfl)) da_nil)) (de_fn (np := 1) (ix := [0]) ((fn__law_waiting G).mono (by decide)) hr rfl tk (fun _ _ _ _ _ _ us ws h1 h2 => match us, ws, h1, h2 with | [_], [], _, _ => rfl) rfl G.g__law_waiting (da_cons (de_var (i := 3) rfl (.inl rfl)) da_nil)) rfl) (dss_cons (ds_par (i := 12) (j := 13) rfl hN rfl rfl (by decide) rfl rfl (de_cmp (m_eq hK hu) (de_ix hK (u1_of hu) (de_fn (np := 3) (ix := [0, 1, 2]) ((fn__law_deed G).mono (by decide)) hr rfl tk (fun _ _ _ _ _ _ us ws h1 h2 => match us, ws, h1, h2 with | [_, _, _], [], _, _ => rfl) rfl G.g__law_deed (da_cons (de_var (i := 3) rfl (.inl rfl)) (da_cons (de_var (i := 7) rfl (.inl rfl)) (da_cons (de_var (i := 8) rfl (.inl rfl)) da_nil)))) de_int (fun _ _ => rfl)) (de_str (l := [116, 111, 108, 100]) rfl) (by wtm_at "mk")) (de_var (i := 3) rfl (.inl rfl)) rfl) (dss_cons (ds_set (i := 3) hN rfl (.inl rfl) (de_fn (np := 5) (ix := [0, 1, 2, 3, 4]) ((fn__law_step G).mono (by decide)) hr rfl tk (fun _ _ _ _ _ _ us ws h1 h2 => match us, ws, h1, h2 with | [_, _, _, _, _], [], _, _ => rfl) rfl G.g__law_step (da_cons (de_var (i := 2) rfl (.inl rfl)) (da_cons (de_var (i := 3) rfl (.inl rfl)) (da_cons (de_var (i := 7) rfl (.inl rfl)) (da_cons (de_var (i := 8) rfl (.inl rfl)) (da_cons (de_var (i := 1) rfl (.inl rfl)) da_nil))))))) (dss_cons (ds_if (dt_cmp m_is (de_var (i := 3) rfl (.inl rfl)) de_non (by wtm_at "mk")) (dss_one (ds_ret de_bl)) dss_nil) (dss_cons (ds_par (i := 4) (j := 1) rfl hN rfl rfl (by decide) rfl rfl (de_bin (m_add (fz := true) hK) (de_var (i := 4) rfl (.inl rfl)) (de_callTy c_int rfl G.b_int bt_int (da_cons (de_var (i := 12) rfl (.inl rfl)) da_nil))) (de_not hK (de_var (i := 1) rfl (.inl rfl))) rfl) (dss_cons (ds_if (dt_not (dt_tru hK (de_fn (np := 2) (ix := [0, 1]) ((fn__law_same G 9).mono (by decide)) hr rfl tk (fun _ _ _ _ _ _ us ws h1 h2 => match us, ws, h1, h2 with | [_, _], [], _, _ => rfl) rfl G.g__law_same (da_cons (de_lst (fz := true) (da_cons (de_fn (np := 2) (ix := [0, 1]) ((fn__law_told_view G).mono (by decide)) hr rfl tk (fun _ _ _ _ _ _ us ws h1 h2 => match us, ws, h1, h2 with | [_, _], [], _, _ => rfl) rfl G.g__law_told_view (da_cons (de_var (i := 2) rfl (.inl rfl)) (da_cons (de_var (i := 1) rfl (.inl rfl)) da_nil))) (da_cons (de_lenO (c := 0) (mn := 35) ((fn_Desk___len__ G).mono (by decide)) hr1 rfl (fun _ _ _ _ _ _ us ws h1 h2 => match us, ws, h1, h2 with | [_], [], _, _ => rfl) G.ck_Desk G.t_Desk___len__ rfl G.b_len (de_var (i := 2) rfl (.inl rfl))) da_nil))) (da_cons (de_lst (fz := true) (da_cons (de_fn (np := 1) (ix := [0]) ((fn__law_view G).mono (by decide)) hr rfl tk (fun _ _ _ _ _ _ us ws h1 h2 => match us, ws, h1, h2 with | [_], [], _, _ => rfl) rfl G.g__law_view (da_cons (de_var (i := 3) rfl (.inl rfl)) da_nil)) (da_cons (de_var (i := 4) rfl (.inl rfl)) da_nil))) da_nil))))) (dss_one (ds_ret de_bl)) dss_nil) (dss_one (ds_if (dt_w (dw_and (dt_cmp (m_eq hK hu) (de_var (i := 7) rfl (.inl rfl)) (de_str (l := [115, 101, 116, 116, 108, 101]) rfl) (by wtm_at "mk")) (dw_and (dt_tru hK (de_var (i := 12) rfl (.inl rfl))) (dw_and1 (dt_not (dt_tru hK (de_fn (np := 4) (ix := [0, 1, 2, 3]) ((fn__law_settle_right G).mono (by decide)) hr rfl tk (fun _ _ _ _ _ _ us ws h1 h2 => match us, ws, h1, h2 with | [_, _, _, _], [], _, _ => rfl) rfl G.g__law_settle_right (da_cons (de_var (i := 2) rfl (.inl rfl)) (da_cons (de_var (i := 13) rfl (.inl rfl)) (da_cons (de_var (i := 10) rfl (.inl rfl)) (da_cons (de_var (i := 11) rfl (.inl rfl)) da_nil))))))))))) (dss_one (ds_ret de_bl)) dss_nil)))))))))) (dss_one (ds_ret de_bl)))))))))
def b_law : SM := sSeq (sFor (iRg1 (aCons (eCall cMax2 (aCons (eC (.int 2)) (aCons (eCall cMin2 (aCons (eC (.int 4)) (aCons (eCall cLen (aCons (eVar 0) (aNil))) (aNil)))) (aNil)))) (aNil))) (gN 1) (sSeq (sSet 2 (eFn 1 [0] m__law_box (aCons (eFn 2 [0, 1] m__law_cell (aCons (eVar 0) (aCons (eVar 1) (aNil)))) (aNil)))) (sIf (tOr (tNot (tTru (eFn 2 [0, 1] m__law_desk_right (aCons (eVar 2) (aCons (eBin eqA (eFn 2 [0, 1] m__law_take (aCons (eVar 2) (aCons (eC (.int 2)) (aNil)))) (eC (.int 0))) (aNil)))))) (tNot (tTru (eFn 2 [0, 1] m__law_desk_right (aCons (eVar 2) (aCons (eBin eqA (eFn 2 [0, 1] m__law_take (aCons (eVar 2) (aCons (eC (.int 2)) (aNil)))) (eC (.int 0))) (aNil))))))) (sRet (eC (.bl false))) (sNil)))) (sRet (eC (.bl true)))
def m_law : FM := fnM 1 2 b_law
theorem fn_law (G : GF K mg base) : FnE P w K mg base (gm K) 14 D_law ["script"] m_law := fnE_of (k := 13) (N := ["script", "k", "box"]) (ps := ["script"]) (loc := 2) G.d_law rfl rfl ⟨rfl, rfl, rfl, by decide +kernel, rfl, by decide +kernel, by decide +kernel⟩ rfl (fun h cdv A outer s H E hr => by
  have hr : Room 13 _ := hr
  have hu := hr.units
  have hK : (bodyX P w K mg base D_law ["script", "k", "box"] cdv A outer s H E).K = (gm K).K := rfl
  have hN : (["script", "k", "box"] : List Str).Nodup := by decide +kernel
  have tk := body_takes (P := P) (w := w) (K := K) (mg := mg) (base := base) (d := D_law) (N := ["script", "k", "box"]) (cdv := cdv) (A := A) (outer := outer) (s := s) (H := H) (E := E)
  have pso : PassesOwn (model P w) _ _ _ := passes_of (X := bodyX P w K mg base D_law ["script", "k", "box"] cdv A outer s H E) rfl
  exact (dss_cons (ds_for pso rfl (di_range1 rfl G.b_range (da_cons (de_callB (c_max2 rfl) rfl G.b_max bt_max (da_cons de_int (da_cons (de_callB (c_min2 rfl) rfl G.b_min bt_min (da_cons de_int (da_cons (de_callB (c_len hK) rfl G.b_len bt_len (da_cons (de_var (i := 0) rfl (.inl rfl)) da_nil)) da_nil))) da_nil))) da_nil)) (dg_name (i := 1) hN rfl (.inl rfl)) (dss_cons (ds_set (i := 2) hN rfl (.inl rfl) (de_fn (np := 1) (ix := [0]) ((fn__law_box G).mono (by decide)) hr rfl tk (fun _ _ _ _ _ _ us ws h1 h2 => match us, ws, h1, h2 with | [_], [], _, _ => rfl) rfl G.g__law_box (da_cons (de_fn (np := 2) (ix := [0, 1]) ((fn__law_cell G).mono (by decide)) hr rfl tk (fun _ _ _ _ _ _ us ws h1 h2 => match us, ws, h1, h2 with | [_, _], [], _, _ => rfl) rfl G.g__law_cell (da_cons (de_var (i := 0) rfl (.inl rfl)) (da_cons (de_var (i := 1) rfl (.inl rfl)) da_nil))) da_nil))) (dss_one (ds_if (dt_w (dw_or (dt_not (dt_tru hK (de_fn (np := 2) (ix := [0, 1]) ((fn__law_desk_right G).mono (by decide)) hr rfl tk (fun _ _ _ _ _ _ us ws h1 h2 => match us, ws, h1, h2 with | [_, _], [], _, _ => rfl) rfl G.g__law_desk_right (da_cons (de_var (i := 2) rfl (.inl rfl)) (da_cons (de_cmp (m_eq hK hu) (de_fn (np := 2) (ix := [0, 1]) ((fn__law_take G).mono (by decide)) hr rfl tk (fun _ _ _ _ _ _ us ws h1 h2 => match us, ws, h1, h2 with | [_, _], [], _, _ => rfl) rfl G.g__law_take (da_cons (de_var (i := 2) rfl (.inl rfl)) (da_cons de_int da_nil))) de_int (by wtm_at "mk")) da_nil))))) (dw_or1 (dt_not (dt_tru hK (de_fn (np := 2) (ix := [0, 1]) ((fn__law_desk_right G).mono (by decide)) hr rfl tk (fun _ _ _ _ _ _ us ws h1 h2 => match us, ws, h1, h2 with | [_, _], [], _, _ => rfl) rfl G.g__law_desk_right (da_cons (de_var (i := 2) rfl (.inl rfl)) (da_cons (de_cmp (m_eq hK hu) (de_fn (np := 2) (ix := [0, 1]) ((fn__law_take G).mono (by decide)) hr rfl tk (fun _ _ _ _ _ _ us ws h1 h2 => match us, ws, h1, h2 with | [_, _], [], _, _ => rfl) rfl G.g__law_take (da_cons (de_var (i := 2) rfl (.inl rfl)) (da_cons de_int da_nil))) de_int (by wtm_at "mk")) da_nil)))))))) (dss_one (ds_ret de_bl)) dss_nil)))) (dss_one (ds_ret de_bl))))
end
end K77
set_option Elab.async false
set_option linter.all false
set_option maxRecDepth 100000
set_option maxHeartbeats 0
namespace K77
open PySem PySem.Spec PyProof.Rows L2 Mw
def fnL : List He.DefD := [D_is_integer, D_is_between, D_is_letters, D_is_name, D_without, D_Desk___init__, D_Desk___len__, D_Desk__change, D_Desk__check_known, D_Desk__check_new, D_Desk__machine_of, D_Desk_add_machine, D_Desk_close_machine, D_Desk_take_in, D_Desk_give_out, D_Desk__check_given, D_Desk_call_back, D_Desk_hurry, D_Desk_finish, D_Desk_machines, D_Desk_waiting, D_Desk_queue, D_Desk_ends, D_Desk_late_jobs, D__law_cell, D__law_box, D__law_take, D__law_same, D__law_very, D__law_letters_name, D__law_is_between, D__law_moved, D__law_waiting, D__law_settled, D__law_deed, D__law_view, D__law_told_view, D__law_change, D__law_loads, D__law_settle_right, D_Desk_settle, D__law_done, D__law_step, D__law_desk_right, D_law, D_TooMany___init__, D_InvalidName___init__, D_NotGiven___init__, D_UnknownName___init__, D_InvalidDue___init__, D_TakenName___init__, D_InvalidLength___init__]
def faL : List He.Fa := ([.free "isinstance" , .free "int" , .free "bool" , .glo "is_integer" , .free "str" , .free "len" , .str "LETTERS" ⟨[97, 98, 99, 100, 101, 102, 103, 104, 105, 106, 107, 108, 109, 110, 111, 112, 113, 114, 115, 116, 117, 118, 119, 120, 121, 122].toArray⟩, .free "all" , .int "MOST_LETTERS" 8, .glo "is_letters" , .int "LEAST_LETTERS" 2, .free "tuple" , .cls "Desk" , .noat "Desk" "_gone" , .noat "Desk" "_done" , .noat "Desk" "_state" , .glo "is_name" , .glo "UnknownName" , .glo "TooMany" , .glo "TakenName" , .glo "InvalidName" , .meth "Desk" "_change" , .meth "Desk" "_check_new" , .int "MOST_MACHINES" 5, .meth "Desk" "_check_known" , .int "MOST_TIME" 600, .glo "is_between" , .glo "InvalidDue" , .int "MOST_LENGTH" 60, .glo "InvalidLength" ] : List He.Fa) ++ ([.int "MOST_JOBS" 20, .glo "without" , .meth "Desk" "_machine_of" , .glo "NotGiven" , .meth "Desk" "_check_given" , .free "min" , .free "sum" , .glo "NoMachines" , .free "list" , .free "sorted" , .meth "Desk" "queue" , .meth "Desk" "machines" , .meth "Desk" "ends" , .free "abs" , .free "range" , .glo "_law_same" , .free "dict" , .glo "_law_waiting" , .glo "_law_moved" , .glo "_law_settled" , .glo "_law_is_between" , .glo "_law_letters_name" , .meth "Desk" "late_jobs" , .meth "Desk" "waiting" , .glo "_law_very" , .glo "_law_deed" , .glo "_law_take" , .free "max" , .free "zip" , .meth "Desk" "settle" ] : List He.Fa) ++ ([.meth "Desk" "finish" , .meth "Desk" "hurry" , .meth "Desk" "call_back" , .meth "Desk" "give_out" , .meth "Desk" "take_in" , .meth "Desk" "close_machine" , .meth "Desk" "add_machine" , .glo "ScheduleError" , .glo "_law_done" , .glo "_law_settle_right" , .glo "_law_view" , .meth "Desk" "__len__" , .glo "_law_told_view" , .glo "_law_step" , .glo "_law_loads" , .glo "_law_change" , .mkr "Desk" , .glo "Desk" , .glo "_law_desk_right" , .glo "_law_cell" , .glo "_law_box" , .glo "law" ] : List He.Fa)
def exL : List (PySem.W.Frag → Bool) := [fun K => exaB K "UnknownName" "name" ,
  fun K => exaB K "TooMany" "count" ,
  fun K => exaB K "TakenName" "name" ,
  fun K => exaB K "InvalidName" "given" ,
  fun K => exaB K "InvalidDue" "given" ,
  fun K => exaB K "InvalidLength" "given" ,
  fun K => exaB K "NotGiven" "job" ,
  fun K => exnB K "NoMachines" ,
  fun K => decide (PySem.W.kitOne K (.ref (He.ga K "NoMachines")) (.ref (He.ga K "ScheduleError")) = some true),
  fun K => decide (PySem.W.kitOne K (.ref (He.ga K "NotGiven")) (.ref (He.ga K "ScheduleError")) = some true),
  fun K => decide (PySem.W.kitOne K (.ref (He.ga K "InvalidDue")) (.ref (He.ga K "ScheduleError")) = some true),
  fun K => decide (PySem.W.kitOne K (.ref (He.ga K "InvalidLength")) (.ref (He.ga K "ScheduleError")) = some true),
  fun K => decide (PySem.W.kitOne K (.ref (He.ga K "TooMany")) (.ref (He.ga K "ScheduleError")) = some true),
  fun K => decide (PySem.W.kitOne K (.ref (He.ga K "UnknownName")) (.ref (He.ga K "ScheduleError")) = some true),
  fun K => decide (PySem.W.kitOne K (.ref (He.ga K "TakenName")) (.ref (He.ga K "ScheduleError")) = some true),
  fun K => decide (PySem.W.kitOne K (.ref (He.ga K "InvalidName")) (.ref (He.ga K "ScheduleError")) = some true),
  fun K => ([2, 3, 4, 5, 6, 7, 8, 9] : List Nat).all fun q => ([2, 3, 4, 5, 6, 7, 8, 9] : List Nat).all fun c => decide (PySem.W.exmOne K (.ref ((gm K).ad c)) (.ref ((gm K).ad q)) = some (Nat.beq c q))]
def exB (K : PySem.W.Frag) : Bool := exL.all fun f => f K
abbrev tfL : List He.Defn := [D__law_settled.at_]
abbrev R : PySem.W.OpenRow := PySem.W.OpenLaw.row PySem.Challenge.rw_schedbench_k77_queues_and_settle
abbrev hk : PySem.W.Hook := He.hookX 6 faL fnL [] tfL exB
def ob (s : PySem.W.SharedT) : He.AlX := He.obsX 6 faL fnL [] tfL exB (HandSHeadRun.getT s)
theorem ob_eq (s : PySem.W.SharedT) : ob s = hk.obs s.abs := He.obsX_eq (HandSHeadRun.getT_eq s)
def loose : List PySem.Str := (["_wall", "ScheduleError", "ValueError", "InvalidDue", "InvalidLength", "InvalidName", "TooMany", "NoMachines", "NotGiven", "TakenName", "UnknownName", "LETTERS", "is_integer", "is_between", "is_letters", "MOST_LENGTH", "MOST_TIME", "LEAST_LETTERS", "MOST_LETTERS", "is_name", "MOST_MACHINES", "MOST_JOBS", "without", "Desk", "_law_cell", "_law_box", "_law_take", "_law_same", "_law_very", "_law_letters_name"] : List PySem.Str) ++ (["_law_is_between", "_law_moved", "_law_waiting", "_law_settled", "_law_deed", "_law_view", "_law_told_view", "_law_done", "_law_step", "_law_change", "_law_loads", "_law_desk_right", "_law_settle_right"] : List PySem.Str)
theorem run (w : World) : HandSHeadRun.RunEq R (PySem.W.view R.prog [48]) hk ob 6000 loose w := by
  intro os
  kernel_rfl
end K77
set_option Elab.async false
set_option linter.all false
set_option maxRecDepth 100000
set_option maxHeartbeats 0
namespace K77
open PySem PySem.Spec PyProof.Rows L2 Mw
section
variable {w : World} {K : PySem.W.Frag} {h : Heap} {mg : Str → Option Value} {base : Heap}
theorem ex_at (c : He.SaysX faL fnL [] tfL exB w h K) (i : Nat) {f : PySem.W.Frag → Bool} (e : exL[i]? = some f) : f K = true := List.all_eq_true.mp (show (exL.all fun f => f K) = true from c.more) f (List.mem_of_getElem? e)
theorem gf_of (KX : K.In h) (G : h.Ns mainGlobals mg) (c : He.SaysX faL fnL [] tfL exB w h K) (TB : ∀ p ∈ [He.cT K D__law_settled.at_], LamX.TabB base mg p.1 p.2) : GF K mg base where
  b_isinstance := He.free_ok KX G (c.t.d.fact 0 rfl)
  b_int := He.free_ok KX G (c.t.d.fact 1 rfl)
  b_bool := He.free_ok KX G (c.t.d.fact 2 rfl)
  d_is_integer := c.t.d.def_ 0 rfl
  g_is_integer := He.glo_ok KX G (c.t.d.fact 3 rfl)
  d_is_between := c.t.d.def_ 1 rfl
  b_str := He.free_ok KX G (c.t.d.fact 4 rfl)
  b_len := He.free_ok KX G (c.t.d.fact 5 rfl)
  s_LETTERS := He.str_ok KX G (c.t.d.fact 6 rfl)
  b_all := He.free_ok KX G (c.t.d.fact 7 rfl)
  d_is_letters := c.t.d.def_ 2 rfl
  i_MOST_LETTERS := He.int_ok KX G (c.t.d.fact 8 rfl)
  g_is_letters := He.glo_ok KX G (c.t.d.fact 9 rfl)
  i_LEAST_LETTERS := He.int_ok KX G (c.t.d.fact 10 rfl)
  d_is_name := c.t.d.def_ 3 rfl
  b_tuple := He.free_ok KX G (c.t.d.fact 11 rfl)
  d_without := c.t.d.def_ 4 rfl
  c_Desk := He.cls_ok (x := "Desk") (c.t.d.fact 12 rfl)
  n_Desk__gone := He.noat_ok (x := "Desk") (c.t.d.fact 13 rfl)
  n_Desk__done := He.noat_ok (x := "Desk") (c.t.d.fact 14 rfl)
  n_Desk__state := He.noat_ok (x := "Desk") (c.t.d.fact 15 rfl)
  d_Desk___init__ := c.t.d.def_ 5 rfl
  d_Desk___len__ := c.t.d.def_ 6 rfl
  d_Desk__change := c.t.d.def_ 7 rfl
  g_is_name := He.glo_ok KX G (c.t.d.fact 16 rfl)
  ex_UnknownName := exaB_ok (ex_at c 0 rfl)
  g_UnknownName := He.glo_ok KX G (c.t.d.fact 17 rfl)
  d_Desk__check_known := c.t.d.def_ 8 rfl
  ex_TooMany := exaB_ok (ex_at c 1 rfl)
  g_TooMany := He.glo_ok KX G (c.t.d.fact 18 rfl)
  ex_TakenName := exaB_ok (ex_at c 2 rfl)
  g_TakenName := He.glo_ok KX G (c.t.d.fact 19 rfl)
  ex_InvalidName := exaB_ok (ex_at c 3 rfl)
  g_InvalidName := He.glo_ok KX G (c.t.d.fact 20 rfl)
  d_Desk__check_new := c.t.d.def_ 9 rfl
  d_Desk__machine_of := c.t.d.def_ 10 rfl
  t_Desk__change := He.meth_ok (x := "Desk") (c.t.d.fact 21 rfl)
  ck_Desk := He.cls_ok (x := "Desk") (c.t.d.fact 12 rfl)
  t_Desk__check_new := He.meth_ok (x := "Desk") (c.t.d.fact 22 rfl)
  i_MOST_MACHINES := He.int_ok KX G (c.t.d.fact 23 rfl)
  d_Desk_add_machine := c.t.d.def_ 11 rfl
  t_Desk__check_known := He.meth_ok (x := "Desk") (c.t.d.fact 24 rfl)
  d_Desk_close_machine := c.t.d.def_ 12 rfl
  i_MOST_TIME := He.int_ok KX G (c.t.d.fact 25 rfl)
  g_is_between := He.glo_ok KX G (c.t.d.fact 26 rfl)
  ex_InvalidDue := exaB_ok (ex_at c 4 rfl)
  g_InvalidDue := He.glo_ok KX G (c.t.d.fact 27 rfl)
  i_MOST_LENGTH := He.int_ok KX G (c.t.d.fact 28 rfl)
  ex_InvalidLength := exaB_ok (ex_at c 5 rfl)
  g_InvalidLength := He.glo_ok KX G (c.t.d.fact 29 rfl)
  i_MOST_JOBS := He.int_ok KX G (c.t.d.fact 30 rfl)
  d_Desk_take_in := c.t.d.def_ 13 rfl
  g_without := He.glo_ok KX G (c.t.d.fact 31 rfl)
  d_Desk_give_out := c.t.d.def_ 14 rfl
  t_Desk__machine_of := He.meth_ok (x := "Desk") (c.t.d.fact 32 rfl)
  ex_NotGiven := exaB_ok (ex_at c 6 rfl)
  g_NotGiven := He.glo_ok KX G (c.t.d.fact 33 rfl)
  d_Desk__check_given := c.t.d.def_ 15 rfl
  t_Desk__check_given := He.meth_ok (x := "Desk") (c.t.d.fact 34 rfl)
  d_Desk_call_back := c.t.d.def_ 16 rfl
  d_Desk_hurry := c.t.d.def_ 17 rfl
  d_Desk_finish := c.t.d.def_ 18 rfl
  b_min := He.free_ok KX G (c.t.d.fact 35 rfl)
  b_sum := He.free_ok KX G (c.t.d.fact 36 rfl)
  ex_NoMachines := exnB_ok (ex_at c 7 rfl)
  g_NoMachines := He.glo_ok KX G (c.t.d.fact 37 rfl)
  b_list := He.free_ok KX G (c.t.d.fact 38 rfl)
  b_sorted := He.free_ok KX G (c.t.d.fact 39 rfl)
  d_Desk_machines := c.t.d.def_ 19 rfl
  d_Desk_waiting := c.t.d.def_ 20 rfl
  d_Desk_queue := c.t.d.def_ 21 rfl
  t_Desk_queue := He.meth_ok (x := "Desk") (c.t.d.fact 40 rfl)
  d_Desk_ends := c.t.d.def_ 22 rfl
  t_Desk_machines := He.meth_ok (x := "Desk") (c.t.d.fact 41 rfl)
  t_Desk_ends := He.meth_ok (x := "Desk") (c.t.d.fact 42 rfl)
  d_Desk_late_jobs := c.t.d.def_ 23 rfl
  d__law_cell := c.t.d.def_ 24 rfl
  b_abs := He.free_ok KX G (c.t.d.fact 43 rfl)
  d__law_box := c.t.d.def_ 25 rfl
  d__law_take := c.t.d.def_ 26 rfl
  b_range := He.free_ok KX G (c.t.d.fact 44 rfl)
  g__law_same := He.glo_ok KX G (c.t.d.fact 45 rfl)
  b_dict := He.free_ok KX G (c.t.d.fact 46 rfl)
  d__law_same := c.t.d.def_ 27 rfl
  d__law_very := c.t.d.def_ 28 rfl
  d__law_letters_name := c.t.d.def_ 29 rfl
  d__law_is_between := c.t.d.def_ 30 rfl
  d__law_moved := c.t.d.def_ 31 rfl
  d__law_waiting := c.t.d.def_ 32 rfl
  g__law_waiting := He.glo_ok KX G (c.t.d.fact 47 rfl)
  tb__law_settled := TB (He.cT K D__law_settled.at_) (List.Mem.head _)
  g__law_moved := He.glo_ok KX G (c.t.d.fact 48 rfl)
  d__law_settled := c.t.d.def_ 33 rfl
  g__law_settled := He.glo_ok KX G (c.t.d.fact 49 rfl)
  g__law_is_between := He.glo_ok KX G (c.t.d.fact 50 rfl)
  g__law_letters_name := He.glo_ok KX G (c.t.d.fact 51 rfl)
  d__law_deed := c.t.d.def_ 34 rfl
  d__law_view := c.t.d.def_ 35 rfl
  t_Desk_late_jobs := He.meth_ok (x := "Desk") (c.t.d.fact 52 rfl)
  t_Desk_waiting := He.meth_ok (x := "Desk") (c.t.d.fact 53 rfl)
  d__law_told_view := c.t.d.def_ 36 rfl
  g__law_very := He.glo_ok KX G (c.t.d.fact 54 rfl)
  g__law_deed := He.glo_ok KX G (c.t.d.fact 55 rfl)
  g__law_take := He.glo_ok KX G (c.t.d.fact 56 rfl)
  d__law_change := c.t.d.def_ 37 rfl
  d__law_loads := c.t.d.def_ 38 rfl
  b_max := He.free_ok KX G (c.t.d.fact 57 rfl)
  b_zip := He.free_ok KX G (c.t.d.fact 58 rfl)
  d__law_settle_right := c.t.d.def_ 39 rfl
  d_Desk_settle := c.t.d.def_ 40 rfl
  t_Desk_settle := He.meth_ok (x := "Desk") (c.t.d.fact 59 rfl)
  t_Desk_finish := He.meth_ok (x := "Desk") (c.t.d.fact 60 rfl)
  t_Desk_hurry := He.meth_ok (x := "Desk") (c.t.d.fact 61 rfl)
  t_Desk_call_back := He.meth_ok (x := "Desk") (c.t.d.fact 62 rfl)
  t_Desk_give_out := He.meth_ok (x := "Desk") (c.t.d.fact 63 rfl)
  t_Desk_take_in := He.meth_ok (x := "Desk") (c.t.d.fact 64 rfl)
  t_Desk_close_machine := He.meth_ok (x := "Desk") (c.t.d.fact 65 rfl)
  t_Desk_add_machine := He.meth_ok (x := "Desk") (c.t.d.fact 66 rfl)
  ki_NoMachines_ScheduleError := of_decide_eq_true (ex_at c 8 rfl)
  g_ScheduleError := He.glo_ok KX G (c.t.d.fact 67 rfl)
  ki_NotGiven_ScheduleError := of_decide_eq_true (ex_at c 9 rfl)
  ki_InvalidDue_ScheduleError := of_decide_eq_true (ex_at c 10 rfl)
  ki_InvalidLength_ScheduleError := of_decide_eq_true (ex_at c 11 rfl)
  ki_TooMany_ScheduleError := of_decide_eq_true (ex_at c 12 rfl)
  ki_UnknownName_ScheduleError := of_decide_eq_true (ex_at c 13 rfl)
  ki_TakenName_ScheduleError := of_decide_eq_true (ex_at c 14 rfl)
  ki_InvalidName_ScheduleError := of_decide_eq_true (ex_at c 15 rfl)
  em := fun q hq c1 hc1 => of_decide_eq_true (List.all_eq_true.mp (List.all_eq_true.mp (ex_at c 16 rfl) q hq) c1 hc1)
  d__law_done := c.t.d.def_ 41 rfl
  g__law_done := He.glo_ok KX G (c.t.d.fact 68 rfl)
  d__law_step := c.t.d.def_ 42 rfl
  g__law_settle_right := He.glo_ok KX G (c.t.d.fact 69 rfl)
  g__law_view := He.glo_ok KX G (c.t.d.fact 70 rfl)
  t_Desk___len__ := He.meth_ok (x := "Desk") (c.t.d.fact 71 rfl)
  g__law_told_view := He.glo_ok KX G (c.t.d.fact 72 rfl)
  g__law_step := He.glo_ok KX G (c.t.d.fact 73 rfl)
  g__law_loads := He.glo_ok KX G (c.t.d.fact 74 rfl)
  g__law_change := He.glo_ok KX G (c.t.d.fact 75 rfl)
  m_Desk := He.mkr_ok (x := "Desk") (c.t.d.fact 76 rfl)
  gc_Desk := He.glo_ok KX G (c.t.d.fact 77 rfl)
  d__law_desk_right := c.t.d.def_ 43 rfl
  g__law_desk_right := He.glo_ok KX G (c.t.d.fact 78 rfl)
  g__law_cell := He.glo_ok KX G (c.t.d.fact 79 rfl)
  g__law_box := He.glo_ok KX G (c.t.d.fact 80 rfl)
  d_law := c.t.d.def_ 44 rfl
  d_TooMany___init__ := c.t.d.def_ 45 rfl
  d_InvalidName___init__ := c.t.d.def_ 46 rfl
  d_NotGiven___init__ := c.t.d.def_ 47 rfl
  d_UnknownName___init__ := c.t.d.def_ 48 rfl
  d_InvalidDue___init__ := c.t.d.def_ 49 rfl
  d_TakenName___init__ := c.t.d.def_ 50 rfl
  d_InvalidLength___init__ := c.t.d.def_ 51 rfl
end
section
variable {w : World} {K : PySem.W.Frag} {h : Heap} {mg : Str → Option Value}
theorem funD_uniq {x q : Str} {a : Arguments} {b : List Stmt} {sc : Scope} {dv : List V} {kw : List (Str × V)} {f : Addr} {fd fd2 : FuncData} (F : FunD K x q a b sc dv kw f fd) (G : FunD K x q a b sc dv kw f fd2) : fd = fd2 := by
  obtain ⟨_, _, _, _, _, _, _, _, _, _, _, l1, _⟩ := F.ex
  obtain ⟨_, _, _, _, _, _, _, _, _, _, _, l2, _⟩ := G.ex
  rw [l1] at l2
  injection l2 with l2
  injection l2 with _ _ l2 _
  exact (Data.func.inj l2)
def Plain : Prop := ∀ ns : List Int, ns.length ≤ 63 → ∃ A, m_law [.rol (ns.map AV.int)] [] = .ok (.bl true) A
theorem start_rel {P : Addr} {q : Str} {H : Hp} (hT : H P = some (.tbl #[])) {Γ : Gm} (ht : Γ.tabs = [(P, q)]) (hh : Γ.hid = [P]) : Rel Γ (fun _ => 0) [] H := by
  refine ⟨fun i j oi oj e => (by simp at e), fun i o e => (by simp at e), fun a ha => ?_, fun i o e => (by simp at e), fun p hp => ?_, fun p hp => ?_⟩
  · rw [hh] at ha
    cases List.mem_singleton.mp ha
    exact ⟨_, hT, .inr ⟨(P, q), by rw [ht]; exact List.mem_singleton.mpr rfl, rfl⟩⟩
  · rw [ht] at hp
    cases List.mem_singleton.mp hp
    exact LamX.TabS.nil hT
  · rw [ht] at hp
    cases List.mem_singleton.mp hp
    rw [hh]; exact List.mem_singleton.mpr rfl
theorem ints_vrs {Γ : Gm} {ρ : Nat → Addr} {A : AH} {H : Hp} : ∀ ns : List Int, VRs Γ ρ A H (ns.map AV.int) (ns.map V.int)
  | [] => rfl
  | n :: r => ⟨.int n, r.map V.int, rfl, rfl, ints_vrs r⟩
theorem sp_law (plain : Plain) {H : Hp} {a : Addr} {ns : List Int} (hl : ns.length ≤ 63) (hT : H (He.cT K D__law_settled.at_).2 = some (.tbl #[])) (hS : SqL K H a (ns.map V.int)) : spM (gm K) m_law [.ref a] H (fun v _ => v = .bl true) (fun _ _ _ => False) := by
  obtain ⟨A, e⟩ := plain ns hl
  refine ⟨[(He.cT K D__law_settled.at_).2], fun _ => 0, [], [.rol (ns.map AV.int)], start_rel hT rfl rfl, ⟨.ref a, [], rfl, ⟨a, ns.map V.int, rfl, ?_, ints_vrs ns⟩, rfl⟩, ?_⟩
  · have nP : ∀ o, H a = some o → (∀ ps, o ≠ .tbl ps) → ¬ Tr ((gm K).at_ [(He.cT K D__law_settled.at_).2]) (fun _ => 0) [] a := fun o ho n t => by
      rcases t with ⟨i, o2, e2, _⟩ | t
      · simp at e2
      · have : a = (He.cT K D__law_settled.at_).2 := List.mem_singleton.mp t
        rw [this, hT] at ho
        exact n _ (Option.some.inj ho).symm
    rcases hS with (h1 | ⟨o, h1⟩) | h1
    · exact .inl ⟨nP _ h1 (fun ps z => by cases z), .inl h1⟩
    · exact .inl ⟨nP _ h1 (fun ps z => by cases z), .inr ⟨o, h1⟩⟩
    · exact .inr (.inr h1)
  · rw [e]
    exact fun ρ' H' u _ _ r => r
theorem law_at (plain : Plain) {fa : Addr} (KX : K.In h) (G : h.Ns mainGlobals mg) (c : He.SaysX faL fnL [] tfL exB w h K) (hfa : mg ("law" : Str) = some (.ref fa)) :
    LamX.LawAtS PySem.Challenge.rw_schedbench_k77_queues_and_settle w K (L2.CX PySem.Challenge.rw_schedbench_k77_queues_and_settle.prog w) 14 63 "script" mg fa h := by
  obtain ⟨fd, F0⟩ := c.t.d.def_ 44 (d := D_law) rfl
  have F : FunD K D_law.name D_law.qual D_law.params D_law.body D_law.scope [] [] (He.fAd K D_law.at_) fd := F0
  have ef : fa = He.fAd K D_law.at_ := by
    have e := hfa.symm.trans (He.glo_ok KX G (c.t.d.fact 81 rfl))
    injection e with e
    injection e with e
  subst ef
  have b := FunD.bindsA (ps := ["script"]) F fun _ _ _ _ _ _ us hl => match us, hl with | [_], _ => rfl
  refine ⟨fd, [He.cT K D__law_settled.at_], spM (gm K) m_law, fun p hp => ?_, fun p hp => ?_, fun p hp => ?_, fun s u => b s [u] rfl, fun H a ns hl _ hT hS => sp_law plain hl (hT _ (List.Mem.head _)) hS, fun base KB GB TB => ?_⟩
  · cases List.mem_singleton.mp hp
    exact c.empty _ (List.Mem.head _)
  · cases List.mem_singleton.mp hp
    exact c.out _ (List.Mem.head _)
  · cases List.mem_singleton.mp hp
    exact PySem.W.codeHd_of_K KX (c.hd _ (List.Mem.head _))
  · obtain ⟨fd2, F2, ok⟩ := (fn_law (P := PySem.Challenge.rw_schedbench_k77_queues_and_settle.prog) (w := w) (gf_of KX G c TB)).ex
    rw [funD_uniq F F2]
    exact ok
end
open PySem PySem.W PySem.Calls PyProof.Rows
theorem holds_of (plain : Plain) : PySem.Challenge.rw_schedbench_k77_queues_and_settle.Holds := by
  w_on; o_law
  refine HandSHeadRun.head_any (r := OpenLaw.row PySem.Challenge.rw_schedbench_k77_queues_and_settle) (q := view (OpenLaw.row PySem.Challenge.rw_schedbench_k77_queues_and_settle).prog [48]) (H := hk) (ob := ob) (M := 6000) (loose := loose) (d := HandSHeadRun.topDef (OpenLaw.row PySem.Challenge.rw_schedbench_k77_queues_and_settle).prog 48) (kwd := []) ob_eq
    (by kernel_rfl) (fun s => by kernel_rfl) run (by kernel_rfl) (by kernel_rfl) (by kernel_rfl) (by rfl) (by first | assumption | decide +kernel) (by decide +kernel) ⟨rfl, rfl, rfl, rfl, rfl, by decide +kernel⟩ ?hw ?hc
  case hw => w_witness2
  case hc =>
    refine LamX.walk_ofTsE (l := PySem.Challenge.rw_schedbench_k77_queues_and_settle) (n := 63) (k := 14) (x := "script") (CX := fun w => L2.CX PySem.Challenge.rw_schedbench_k77_queues_and_settle.prog w) rfl (by decide) (by kernel_rfl) ⟨rfl, by decide, by decide⟩ ?F (fun _ _ _ _ _ z => by
      obtain ⟨_, _, _, _, _, _, _, _, _, _, _, _, z⟩ := z
      exact z.elim)
    intro w mg fa h Y G hmg0
    obtain ⟨K, KX, c⟩ := Y
    have hmg : mg ("law" : PySem.Str) = some (.ref fa) := by
      have e : (HandSHeadRun.topDef (OpenLaw.row PySem.Challenge.rw_schedbench_k77_queues_and_settle).prog 48).name = ("law" : PySem.Str) := by kernel_rfl
      rw [← e]
      exact hmg0
    exact ⟨K, KX, law_at plain KX G c hmg⟩
end K77
set_option Elab.async false
set_option linter.all false
set_option maxRecDepth 100000
set_option maxHeartbeats 2000000
namespace Mw
def Ew {α : Type} (o : Out α) (P : α → AH → Prop) (X : Nat → List (Nat × AV) → AH → Prop) : Prop := match o with
  | .ok a A => P a A
  | .exc c fs A => X c fs A
  | .stuck => False
abbrev NX : Nat → List (Nat × AV) → AH → Prop := fun _ _ _ => False
def EZ (r : SR) (N : AE → AH → Prop) (R : AV → AH → Prop) (X : Nat → List (Nat × AV) → AE → AH → Prop) : Prop := match r with
  | .nx τ A => N τ A
  | .rt v A => R v A
  | .exc c fs τ A => X c fs τ A
  | _ => False
def Gr (A A' : AH) : Prop := ∀ (j : Nat) (o : AO), A[j]? = some o → A'[j]? = some o
theorem Gr.refl {A : AH} : Gr A A := fun _ _ h => h
theorem Gr.trans {A B C : AH} (a : Gr A B) (b : Gr B C) : Gr A C := fun j o h => b j o (a j o h)
theorem Gr.push {A : AH} {o : AO} : Gr A (A ++ [o]) := fun j q h => by
  rw [List.getElem?_append_left (List.getElem?_eq_some_iff.mp h).1]; exact h
def Wr (b : Nat) (A A' : AH) : Prop := ∀ (j : Nat) (o : AO), j ≠ b → A[j]? = some o → A'[j]? = some o
theorem Gr.wr {A B : AH} {b : Nat} (a : Gr A B) : Wr b A B := fun j o _ h => a j o h
theorem Wr.trans {A B C : AH} {d : Nat} (a : Wr d A B) (b : Wr d B C) : Wr d A C := fun j o n h => b j o n (a j o n h)
theorem Wr.set {A : AH} {b : Nat} {o : AO} : Wr b A (A.set b o) := fun j q n h => by
  rw [List.getElem?_set_ne (Ne.symm n)]; exact h
theorem set_at {A : AH} {b : Nat} {o q : AO} (h : A[b]? = some q) : (A.set b o)[b]? = some o := List.getElem?_set_self (List.getElem?_eq_some_iff.mp h).1
theorem push_at {A : AH} {o : AO} : (A ++ [o])[A.length]? = some o := by simp
theorem at_len {A : AH} : A[A.length]? = none := by simp
theorem Gr.gone {A A' : AH} {i : Nat} {o : AO} (n : A[i]? = none) (h : Gr A A') : Gr A (A'.set i o) := fun j q e => by
  have : j ≠ i := fun z => by rw [z, n] at e; cases e
  rw [List.getElem?_set_ne (Ne.symm this)]; exact h j q e
section
variable {α β : Type} {P : α → AH → Prop} {P' : β → AH → Prop} {X X' : Nat → List (Nat × AV) → AH → Prop} {N N' : AE → AH → Prop} {R R' : AV → AH → Prop} {τ : AE} {A : AH} {Y Y' : Nat → List (Nat × AV) → AE → AH → Prop}
theorem Ew.mono {o : Out α} {P2 : α → AH → Prop} (h : Ew o P X) (k : ∀ a A, P a A → P2 a A) (l : ∀ c fs A, X c fs A → X' c fs A) : Ew o P2 X' := by
  cases o <;> first | exact k _ _ h | exact l _ _ _ h | exact h
theorem Ew.imp {o : Out α} {P2 : α → AH → Prop} (h : Ew o P NX) (k : ∀ a A, P a A → P2 a A) : Ew o P2 X := h.mono k fun _ _ _ z => z.elim
theorem Ew.bind {o : Out α} {k : α → AH → Out β} (h : Ew o (fun a A => Ew (k a A) P' X) X) : Ew (o.bind k) P' X := by
  cases o <;> exact h
theorem Ew.get {o : Out α} (h : Ew o P NX) : ∃ a A, o = .ok a A ∧ P a A := by
  cases o with
  | ok a A => exact ⟨a, A, rfl, h⟩
  | exc c fs A => exact h.elim
  | stuck => exact h.elim
theorem EZ.mono {r : SR} (h : EZ r N R Y) (a : ∀ τ A, N τ A → N' τ A) (b : ∀ v A, R v A → R' v A) (c : ∀ d fs τ A, Y d fs τ A → Y' d fs τ A) : EZ r N' R' Y' := by
  cases r <;> first | exact a _ _ h | exact b _ _ h | exact c _ _ _ _ h | exact h
theorem es_lift_q {m : AE → AH → Out α} {k : α → AE → AH → SR} (h : Ew (m τ A) (fun v A1 => EZ (k v τ A1) N R Y) (fun c fs A1 => Y c fs τ A1)) : EZ (lift m k τ A) N R Y := by
  unfold lift
  cases e : m τ A <;> rw [e] at h <;> exact h
theorem es_seq_q {s t : SM} (h : EZ (s τ A) (fun τ1 A1 => EZ (t τ1 A1) N R Y) R Y) : EZ (sSeq s t τ A) N R Y := by
  unfold sSeq
  cases e : s τ A <;> rw [e] at h <;> exact h
theorem es_nil_q (h : N τ A) : EZ (sNil τ A) N R Y := h
theorem es_set_q {i : Nat} {m : EM} (h : Ew (m τ A) (fun v A1 => N (τ.set i (some v)) A1) (fun c fs A1 => Y c fs τ A1)) : EZ (sSet i m τ A) N R Y := es_lift_q h
theorem es_ret_q {m : EM} (h : Ew (m τ A) R (fun c fs A1 => Y c fs τ A1)) : EZ (sRet m τ A) N R Y := es_lift_q h
theorem es_expr_q {m : EM} (h : Ew (m τ A) (fun _ A1 => N τ A1) (fun c fs A1 => Y c fs τ A1)) : EZ (sExpr m τ A) N R Y := es_lift_q h
theorem es_if_q {t : TM} {a b : SM} (h : Ew (t τ A) (fun c A1 => (c = true → EZ (a τ A1) N R Y) ∧ (c = false → EZ (b τ A1) N R Y)) (fun c fs A1 => Y c fs τ A1)) : EZ (sIf t a b τ A) N R Y := es_lift_q (h.mono (fun c A1 h => by
  cases c with
  | true => exact h.1 rfl
  | false => exact h.2 rfl) fun _ _ _ z => z)
theorem es_asg_q {m : EM} {g : GM} (h : Ew (m τ A) (fun v A1 => ∃ τ1 A2, g v τ A1 = some (τ1, A2) ∧ N τ1 A2) (fun c fs A1 => Y c fs τ A1)) : EZ (sAsg m g τ A) N R Y := es_lift_q (h.mono (fun v A1 ⟨τ1, A2, e, h⟩ => by rw [e]; exact h) fun _ _ _ z => z)
theorem es_par_q {i j : Nat} {a b : EM} (h : Ew (a τ A) (fun v A1 => Ew (b τ A1) (fun w A2 => N ((τ.set i (some v)).set j (some w)) A2) (fun c fs A1 => Y c fs τ A1)) (fun c fs A1 => Y c fs τ A1)) : EZ (sPar i j a b τ A) N R Y := by
  refine es_lift_q (Ew.bind (h.mono (fun v A1 h => Ew.bind (Ew.bind (h.mono (fun w A2 h => h) fun _ _ _ z => z))) fun _ _ _ z => z))
theorem es_par3_q {i j l : Nat} {a b c : EM} (h : Ew (a τ A) (fun u A1 => Ew (b τ A1) (fun v A2 => Ew (c τ A2) (fun w A3 => N (((τ.set i (some u)).set j (some v)).set l (some w)) A3) (fun c fs A1 => Y c fs τ A1)) (fun c fs A1 => Y c fs τ A1)) (fun c fs A1 => Y c fs τ A1)) : EZ (sPar3 i j l a b c τ A) N R Y := by
  refine es_lift_q (Ew.bind (h.mono (fun v A1 h => Ew.bind (Ew.bind (h.mono (fun w A2 h => Ew.bind (Ew.bind (h.mono (fun w A2 h => h) fun _ _ _ z => z))) fun _ _ _ z => z))) fun _ _ _ z => z))
theorem es_aug_q {f : B2} {i : Nat} {m : EM} {x : AV} (hx : τ[i]? = some (some x)) (h : Ew (m τ A) (fun y A1 => Ew (f x y A1) (fun z A2 => N (τ.set i (some z)) A2) (fun c fs A1 => Y c fs τ A1)) (fun c fs A1 => Y c fs τ A1)) : EZ (sAug f i m τ A) N R Y := by
  unfold sAug
  rw [hx]
  exact es_lift_q (Ew.bind h)
theorem es_attr_q {cs : List Nat} {f : Nat} {o e : EM} (h : Ew (e τ A) (fun y A1 => Ew (o τ A1) (fun x A2 => ∃ i c fs, x = .ref i ∧ A2[i]? = some (.ins c fs) ∧ (cs.contains c && Nat.blt fs.length 1000) = true ∧ N τ (A2.set i (.ins c (putFA f y fs)))) (fun c fs A1 => Y c fs τ A1)) (fun c fs A1 => Y c fs τ A1)) : EZ (sAttr cs f o e τ A) N R Y := by
  refine es_lift_q (Ew.bind (h.mono (fun y A1 h => Ew.bind (h.mono (fun x A2 ⟨i, c, fs, e1, e2, e3, k⟩ => ?_) fun _ _ _ z => z)) fun _ _ _ z => z))
  subst e1
  show EZ (match A2[i]? with
    | some (.ins c fs) => if (cs.contains c && Nat.blt fs.length 1000) = true then .nx τ (A2.set i (.ins c (putFA f y fs))) else .stuck
    | _ => .stuck) N R Y
  rw [e2]
  show EZ (if (cs.contains c && Nat.blt fs.length 1000) = true then .nx τ (A2.set i (.ins c (putFA f y fs))) else .stuck) N R Y
  rw [if_pos e3]; exact k
theorem es_sub_q {o i e : EM} (h : Ew (e τ A) (fun v A1 => Ew (o τ A1) (fun x A2 => Ew (i τ A2) (fun y A3 => ∃ A4, fPut x y v A3 = some A4 ∧ N τ A4) (fun c fs A1 => Y c fs τ A1)) (fun c fs A1 => Y c fs τ A1)) (fun c fs A1 => Y c fs τ A1)) : EZ (sSub o i e τ A) N R Y := by
  refine es_lift_q (Ew.bind (h.mono (fun v A1 h => Ew.bind (h.mono (fun x A2 h => Ew.bind (h.mono (fun y A3 ⟨A4, e1, k⟩ => ?_) fun _ _ _ z => z)) fun _ _ _ z => z)) fun _ _ _ z => z))
  show EZ (match fPut x y v A3 with | some A1 => .nx τ A1 | none => .stuck) N R Y
  rw [e1]; exact k
theorem es_raise1_q {c f : Nat} {m : EM} (h : Ew (m τ A) (fun v A1 => Y c [(f, v)] τ A1) (fun c fs A1 => Y c fs τ A1)) : EZ (sRaise1 c f m τ A) N R Y := es_lift_q h
theorem es_raise0_q {c : Nat} (h : Y c [] τ A) : EZ (sRaise0 c τ A) N R Y := h
variable {PV : AV → AH → Prop} {PL : List AV → AH → Prop} {PB : Bool → AH → Prop}
theorem ev_var_q {i : Nat} {v : AV} (e : τ[i]? = some (some v)) (h : PV v A) : Ew (eVar i τ A) PV X := by
  unfold eVar
  rw [e]; exact h
theorem ev_C_q {v : AV} (h : PV v A) : Ew (eC v τ A) PV X := h
theorem ev_bin_q {f : B2} {a b : EM} (h : Ew (a τ A) (fun x A1 => Ew (b τ A1) (fun y A2 => Ew (f x y A2) PV X) X) X) : Ew (eBin f a b τ A) PV X := Ew.bind (h.mono (fun _ _ h => Ew.bind h) fun _ _ _ z => z)
theorem ev_toB_q {b : Bool} (h : PB b A) : Ew (toB (.bl b) A) PB X := h
theorem ev_tB_q {a : EM} (h : Ew (a τ A) (fun v A1 => ∃ b, v = .bl b ∧ PB b A1) X) : Ew (tB' a τ A) PB X := Ew.bind (h.mono (fun v A1 ⟨b, e, h⟩ => by subst e; exact h) fun _ _ _ z => z)
theorem ev_tTru_q {a : EM} (h : Ew (a τ A) (fun v A1 => ∃ b, truA v A1 = some b ∧ PB b A1) X) : Ew (tTru a τ A) PB X := Ew.bind (h.mono (fun v A1 ⟨b, e, h⟩ => by rw [e]; exact h) fun _ _ _ z => z)
theorem ev_tNot_q {a : TM} (h : Ew (a τ A) (fun b A1 => PB (!b) A1) X) : Ew (tNot a τ A) PB X := Ew.bind h
theorem ev_tAnd_q {a b : TM} (h : Ew (a τ A) (fun c A1 => (c = true → Ew (b τ A1) PB X) ∧ (c = false → PB false A1)) X) : Ew (tAnd a b τ A) PB X := Ew.bind (h.mono (fun c A1 h => by
  cases c with
  | true => exact h.1 rfl
  | false => exact h.2 rfl) fun _ _ _ z => z)
theorem ev_tOr_q {a b : TM} (h : Ew (a τ A) (fun c A1 => (c = true → PB true A1) ∧ (c = false → Ew (b τ A1) PB X)) X) : Ew (tOr a b τ A) PB X := Ew.bind (h.mono (fun c A1 h => by
  cases c with
  | true => exact h.1 rfl
  | false => exact h.2 rfl) fun _ _ _ z => z)
theorem ev_if_q {c : TM} {a b : EM} (h : Ew (c τ A) (fun k A1 => (k = true → Ew (a τ A1) PV X) ∧ (k = false → Ew (b τ A1) PV X)) X) : Ew (eIf c a b τ A) PV X := Ew.bind (h.mono (fun c A1 h => by
  cases c with
  | true => exact h.1 rfl
  | false => exact h.2 rfl) fun _ _ _ z => z)
theorem ev_and_q {a b : EM} (h : Ew (a τ A) (fun v A1 => ∃ c, truA v A1 = some c ∧ (c = true → Ew (b τ A1) PV X) ∧ (c = false → PV v A1)) X) : Ew (eAnd a b τ A) PV X := Ew.bind (h.mono (fun v A1 ⟨c, e, h⟩ => by
  rw [e]
  cases c with
  | true => exact h.1 rfl
  | false => exact h.2 rfl) fun _ _ _ z => z)
theorem ev_or_q {a b : EM} (h : Ew (a τ A) (fun v A1 => ∃ c, truA v A1 = some c ∧ (c = true → PV v A1) ∧ (c = false → Ew (b τ A1) PV X)) X) : Ew (eOr a b τ A) PV X := Ew.bind (h.mono (fun v A1 ⟨c, e, h⟩ => by
  rw [e]
  cases c with
  | true => exact h.1 rfl
  | false => exact h.2 rfl) fun _ _ _ z => z)
theorem ev_not_q {a : EM} (h : Ew (a τ A) (fun v A1 => ∃ b, truA v A1 = some b ∧ PV (.bl (!b)) A1) X) : Ew (eNot a τ A) PV X := Ew.bind (h.mono (fun v A1 ⟨b, e, h⟩ => by rw [e]; exact h) fun _ _ _ z => z)
theorem ev_neg_q {a : EM} (h : Ew (a τ A) (fun v A1 => ∃ i, v = .int i ∧ PV (.int (-i)) A1) X) : Ew (eNeg a τ A) PV X := Ew.bind (h.mono (fun v A1 ⟨i, e, h⟩ => by subst e; exact h) fun _ _ _ z => z)
theorem ev_chain_q {f g : B2} {a b c : EM} (h : Ew (a τ A) (fun x A1 => Ew (b τ A1) (fun y A2 => Ew (f x y A2) (fun z A3 => ∃ k, z = .bl k ∧ (k = true → Ew (c τ A3) (fun w A4 => Ew (g y w A4) PV X) X) ∧ (k = false → PV (.bl false) A3)) X) X) X) : Ew (eChain f g a b c τ A) PV X :=
  Ew.bind (h.mono (fun x A1 h => Ew.bind (h.mono (fun y A2 h => Ew.bind (h.mono (fun z A3 ⟨k, e, h⟩ => by
    subst e
    cases k with
    | true => exact Ew.bind (h.1 rfl)
    | false => exact h.2 rfl) fun _ _ _ z => z)) fun _ _ _ z => z)) fun _ _ _ z => z)
theorem ea_nil_q (h : PL [] A) : Ew (aNil τ A) PL X := h
theorem ea_cons_q {a : EM} {r : AM} (h : Ew (a τ A) (fun x A1 => Ew (r τ A1) (fun xs A2 => PL (x :: xs) A2) X) X) : Ew (aCons a r τ A) PL X := Ew.bind (h.mono (fun _ _ h => Ew.bind h) fun _ _ _ z => z)
theorem ea_star_q {a : EM} {r : AM} (h : Ew (a τ A) (fun x A1 => ∃ ys, rdS x A1 = some ys ∧ Ew (r τ A1) (fun xs A2 => PL (ys ++ xs) A2) X) X) : Ew (aStar a r τ A) PL X := Ew.bind (h.mono (fun x A1 ⟨ys, e, h⟩ => by rw [e]; exact Ew.bind h) fun _ _ _ z => z)
theorem ev_tup_q {a : AM} (h : Ew (a τ A) (fun xs A1 => Nat.ble xs.length big = true ∧ PV (.tup xs) A1) X) : Ew (eTup a τ A) PV X := Ew.bind (h.mono (fun xs A1 ⟨e, h⟩ => by rw [if_pos e]; exact h) fun _ _ _ z => z)
theorem ev_lstT_q {a : AM} (h : Ew (a τ A) (fun xs A1 => Nat.ble xs.length big = true ∧ PV (.lst xs) A1) X) : Ew (eLst true a τ A) PV X := Ew.bind (h.mono (fun xs A1 ⟨e, h⟩ => by rw [if_pos e]; exact h) fun _ _ _ z => z)
theorem ev_lstF_q {a : AM} (h : Ew (a τ A) (fun xs A1 => Nat.ble xs.length big = true ∧ ∀ i A2, A1[i]? = none → A2[i]? = some (.lst xs) → Gr A1 A2 → PV (.ref i) A2) X) : Ew (eLst false a τ A) PV X := Ew.bind (h.mono (fun xs A1 ⟨e, h⟩ => by
  rw [if_pos e]; exact h _ _ at_len push_at Gr.push) fun _ _ _ z => z)
theorem ev_fn_q {np : Nat} {ix : List Nat} {m : FM} {a : AM} (h : Ew (a τ A) (fun vs A1 => vs.length = np ∧ Ew (m (pick ix (vs ++ [])) A1) PV X) X) : Ew (eFn np ix m a τ A) PV X := Ew.bind (h.mono (fun vs A1 ⟨e, h⟩ => by
  unfold fK
  rw [if_pos e]; exact h) fun _ _ _ z => z)
theorem ev_mt_q {c mn np : Nat} {ix : List Nat} {m : FM} {o : EM} {a : AM} (h : Ew (o τ A) (fun v A1 => isIns c mn v A1 = true ∧ Ew (a τ A1) (fun vs A2 => vs.length + 1 = np ∧ Ew (m (pick ix (v :: vs ++ [])) A2) PV X) X) X) : Ew (eMt c mn np ix m o a τ A) PV X := Ew.bind (h.mono (fun v A1 ⟨e, h⟩ => by
  rw [if_pos e]
  refine Ew.bind (h.mono (fun vs A2 ⟨e, h⟩ => ?_) fun _ _ _ z => z)
  unfold fK
  rw [if_pos (show (v :: vs).length = np by rw [List.length_cons]; exact e)]; exact h) fun _ _ _ z => z)
theorem ev_mtK_q {c mn np nk : Nat} {ix : List Nat} {m : FM} {o : EM} {a : AM} (hp : 1 = np) (h : Ew (o τ A) (fun v A1 => isIns c mn v A1 = true ∧ Ew (a τ A1) (fun vs A2 => vs.length = nk ∧ Ew (m (pick ix (v :: vs)) A2) PV X) X) X) : Ew (eMtK c mn np nk ix m o a τ A) PV X := Ew.bind (h.mono (fun v A1 ⟨e, h⟩ => by
  rw [if_pos e]
  refine Ew.bind (h.mono (fun vs A2 ⟨e, h⟩ => ?_) fun _ _ _ z => z)
  unfold fK
  rw [if_pos (show [v].length = np from hp), if_pos e]; exact h) fun _ _ _ z => z)
theorem ev_fnM_q {n loc : Nat} {b : SM} {xs : List AV} (hl : xs.length = n) (h : EZ (b (xs.map some ++ List.replicate loc none) A) (fun _ A => PV .non A) PV (fun c fs _ A => X c fs A)) : Ew (fnM n loc b xs A) PV X := by
  unfold fnM
  rw [if_pos hl]
  unfold fnEnd
  cases e : b (xs.map some ++ List.replicate loc none) A <;> rw [e] at h <;> exact h
theorem ev_call_q {m : CM} {a : AM} (h : Ew (a τ A) (fun vs A1 => Ew (m vs A1) PV X) X) : Ew (eCall m a τ A) PV X := Ew.bind h
theorem ev_attr_q {cs : List Nat} {f : Nat} {o : EM} (h : Ew (o τ A) (fun v A1 => ∃ i c fs w, v = .ref i ∧ A1[i]? = some (.ins c fs) ∧ cs.contains c = true ∧ lookF f fs = some w ∧ PV w A1) X) : Ew (eAttr cs f o τ A) PV X := Ew.bind (h.mono (fun v A1 ⟨i, c, fs, w, e1, e2, e3, e4, h⟩ => by
  subst e1
  show Ew (match A1[i]? with
    | some (.ins c fs) => if cs.contains c = true then (match lookF f fs with
      | some v => .ok v A1
      | none => .stuck) else .stuck
    | _ => .stuck) PV X
  rw [e2]
  show Ew (if cs.contains c = true then (match lookF f fs with
      | some v => .ok v A1
      | none => .stuck) else .stuck) PV X
  rw [if_pos e3, e4]; exact h) fun _ _ _ z => z)
end
end Mw
set_option Elab.async false
set_option linter.all false
set_option maxRecDepth 100000
set_option maxHeartbeats 2000000
namespace Mw
section
variable {α β : Type} {X : Nat → List (Nat × AV) → AH → Prop} {N : AE → AH → Prop} {R : AV → AH → Prop} {τ : AE} {A : AH} {PV : AV → AH → Prop} {Y : Nat → List (Nat × AV) → AE → AH → Prop}
theorem es_for_q {i : IM} {g : GM} {b : SM} (bs : List β) (en : β → AV) (J : List β → List β → AE → AH → Prop)
    (hi : Ew (i τ A) (fun S A1 => S = ⟨bs.map en, always⟩ ∧ J [] bs τ A1) (fun c fs A1 => Y c fs τ A1))
    (hs : ∀ done x rest τ A, bs = done ++ x :: rest → J done (x :: rest) τ A → ∃ τ1 A1, g (en x) τ A = some (τ1, A1) ∧ EZ (b τ1 A1) (fun τ2 A2 => J (done ++ [x]) rest τ2 A2) R Y)
    (he : ∀ τ A, J bs [] τ A → N τ A) : EZ (sFor i g b τ A) N R Y := by
  have go : ∀ (rest done : List β) (τ : AE) (A : AH), bs = done ++ rest → J done rest τ A → EZ (forGo always g b (rest.map en) τ A) N R Y := by
    intro rest
    induction rest with
    | nil =>
      intro done τ A e h
      rw [List.append_nil] at e
      subst e
      exact he _ _ h
    | cons x rest ih =>
      intro done τ A e h
      obtain ⟨τ1, A1, eg, hb⟩ := hs done x rest τ A e h
      rw [List.map_cons]
      unfold forGo
      rw [if_pos (show always A = true from rfl), eg]
      show EZ (match b τ1 A1 with
        | .nx τ2 A2 => forGo always g b (rest.map en) τ2 A2
        | .ct τ2 A2 => forGo always g b (rest.map en) τ2 A2
        | .bk τ2 A2 => .nx τ2 A2
        | r => r) N R Y
      cases eb : b τ1 A1 <;> rw [eb] at hb
      case nx τ2 A2 => exact ih (done ++ [x]) τ2 A2 (by rw [e]; simp) hb
      all_goals first | exact hb | exact hb.elim
  refine es_lift_q (hi.mono (fun S A1 ⟨e, h⟩ => ?_) fun _ _ _ z => z)
  subst e
  exact go bs [] τ A1 rfl h
theorem lc_go_q {ck : AH → Bool} {g : GM} {t : TM} {e : EM} {vs : List Nat} (bs : List β) (en : β → AV) (J : List β → List AV → AH → Prop) (hck : ∀ done acc A, J done acc A → ck A = true)
    (hb : bs.length ≤ big)
    (hs : ∀ done x acc A, J done acc A → (∃ rest, bs = done ++ x :: rest) → ∃ τ1 A1, g (en x) (wipeA τ vs) A = some (τ1, A1) ∧ Ew (t τ1 A1) (fun c A2 => (c = true → Ew (e τ1 A2) (fun v A3 => J (done ++ [x]) (acc ++ [v]) A3) NX) ∧ (c = false → J (done ++ [x]) acc A2)) NX) :
    ∀ (rest done : List β) (acc : List AV) (A : AH), bs = done ++ rest → acc.length ≤ done.length → J done acc A → ∃ out A', lcGo ck g t e vs (rest.map en) acc τ A = .ok out A' ∧ J bs out A' ∧ out.length ≤ bs.length := by
  intro rest
  induction rest with
  | nil =>
    intro done acc A eb hl h
    rw [List.append_nil] at eb
    subst eb
    exact ⟨acc, A, (if_pos (hck _ _ _ h) : lcGo ck g t e vs [] acc τ A = _), h, hl⟩
  | cons x rest ih =>
    intro done acc A eb hl h
    obtain ⟨τ1, A1, eg, ht⟩ := hs done x acc A h ⟨rest, eb⟩
    obtain ⟨c, A2, et, h1, h2⟩ := ht.get
    rw [List.map_cons]
    unfold lcGo
    rw [if_pos (hck _ _ _ h), eg]
    show ∃ out A', (match t τ1 A1 with
      | .ok true A2 => (match e τ1 A2 with
        | .ok v A3 => if Nat.blt acc.length big = true then lcGo ck g t e vs (rest.map en) (acc ++ [v]) τ A3 else .stuck
        | _ => .stuck)
      | .ok false A2 => lcGo ck g t e vs (rest.map en) acc τ A2
      | _ => .stuck) = .ok out A' ∧ J bs out A' ∧ out.length ≤ bs.length
    rw [et]
    cases c with
    | false => exact ih (done ++ [x]) acc A2 (by rw [eb]; simp) (by rw [List.length_append]; omega) (h2 rfl)
    | true =>
      obtain ⟨v, A3, ee, h3⟩ := (h1 rfl).get
      show ∃ out A', (match e τ1 A2 with
        | .ok v A3 => if Nat.blt acc.length big = true then lcGo ck g t e vs (rest.map en) (acc ++ [v]) τ A3 else .stuck
        | _ => .stuck) = .ok out A' ∧ J bs out A' ∧ out.length ≤ bs.length
      rw [ee]
      have hlt : Nat.blt acc.length big = true := by
        have : bs.length = done.length + (rest.length + 1) := by rw [eb]; simp
        exact Nat.ble_eq_true_of_le (by show acc.length + 1 ≤ big; omega)
      show ∃ out A', (if Nat.blt acc.length big = true then lcGo ck g t e vs (rest.map en) (acc ++ [v]) τ A3 else .stuck) = .ok out A' ∧ J bs out A' ∧ out.length ≤ bs.length
      rw [if_pos hlt]
      exact ih (done ++ [x]) (acc ++ [v]) A3 (by rw [eb]; simp) (by rw [List.length_append, List.length_append]; simp; omega) h3
theorem ev_lcJ_q {i : IM} {g : GM} {t : TM} {e : EM} {vs : List Nat} (bs : List β) (en : β → AV) (J : List β → List AV → AH → Prop)
    (hb : bs.length ≤ big) (hi : Ew (i τ A) (fun S A1 => S = ⟨bs.map en, always⟩ ∧ J [] [] A1) X)
    (hs : ∀ done x acc A, J done acc A → (∃ rest, bs = done ++ x :: rest) → ∃ τ1 A1, g (en x) (wipeA τ vs) A = some (τ1, A1) ∧ Ew (t τ1 A1) (fun c A2 => (c = true → Ew (e τ1 A2) (fun v A3 => J (done ++ [x]) (acc ++ [v]) A3) NX) ∧ (c = false → J (done ++ [x]) acc A2)) NX)
    (he : ∀ out A', out.length ≤ bs.length → J bs out A' → PV (.lst out) A') : Ew (eLc true i g t e vs τ A) PV X := by
  refine Ew.bind (hi.mono (fun S A1 ⟨e1, h⟩ => ?_) fun _ _ _ z => z)
  subst e1
  obtain ⟨out, A', e2, h2, h3⟩ := lc_go_q (ck := always) (τ := τ) bs en J (fun _ _ _ _ => rfl) hb hs bs [] [] A1 rfl (Nat.le_refl _) h
  refine Ew.bind ?_
  rw [e2]
  exact he out A' h3 h2
theorem ev_lcJK_q {i : IM} {g : GM} {t : TM} {e : EM} {vs : List Nat} (bs : List β) (en : β → AV) (ck : AH → Bool) (J : List β → List AV → AH → Prop) (hck : ∀ done acc A, J done acc A → ck A = true)
    (hb : bs.length ≤ big) (hi : Ew (i τ A) (fun S A1 => S = ⟨bs.map en, ck⟩ ∧ J [] [] A1) X)
    (hs : ∀ done x acc A, J done acc A → (∃ rest, bs = done ++ x :: rest) → ∃ τ1 A1, g (en x) (wipeA τ vs) A = some (τ1, A1) ∧ Ew (t τ1 A1) (fun c A2 => (c = true → Ew (e τ1 A2) (fun v A3 => J (done ++ [x]) (acc ++ [v]) A3) NX) ∧ (c = false → J (done ++ [x]) acc A2)) NX)
    (he : ∀ out A', out.length ≤ bs.length → J bs out A' → PV (.lst out) A') : Ew (eLc true i g t e vs τ A) PV X := by
  refine Ew.bind (hi.mono (fun S A1 ⟨e1, h⟩ => ?_) fun _ _ _ z => z)
  subst e1
  obtain ⟨out, A', e2, h2, h3⟩ := lc_go_q (τ := τ) bs en J hck hb hs bs [] [] A1 rfl (Nat.le_refl _) h
  refine Ew.bind ?_
  rw [e2]
  exact he out A' h3 h2
theorem ev_lc_q {i : IM} {g : GM} {t : TM} {e : EM} {vs : List Nat} (bs : List β) (en : β → AV) (F : β → Option AV)
    (hb : bs.length ≤ big) (hi : Ew (i τ A) (fun S A1 => S = ⟨bs.map en, always⟩ ∧ Gr A A1) X)
    (hs : ∀ x ∈ bs, ∀ A1, Gr A A1 → ∃ τ1, g (en x) (wipeA τ vs) A1 = some (τ1, A1) ∧ Ew (t τ1 A1) (fun c A2 => Gr A1 A2 ∧ (c = true → Ew (e τ1 A2) (fun v A3 => Gr A2 A3 ∧ F x = some v) NX) ∧ (c = false → F x = none)) NX)
    (he : ∀ A', Gr A A' → PV (.lst (bs.filterMap F)) A') : Ew (eLc true i g t e vs τ A) PV X := by
  refine ev_lcJ_q bs en (fun done acc A' => acc = done.filterMap F ∧ Gr A A') hb (hi.mono (fun S A1 ⟨e1, h⟩ => ⟨e1, rfl, h⟩) fun _ _ _ z => z) (fun done x acc A1 ⟨e1, h⟩ ⟨rest, eb⟩ => ?_) fun out A' _ ⟨e1, h⟩ => by rw [e1]; exact he A' h
  obtain ⟨τ1, eg, ht⟩ := hs x (by rw [eb]; simp) A1 h
  refine ⟨τ1, A1, eg, ht.mono (fun c A2 ⟨g2, h1, h2⟩ => ⟨fun hc => (h1 hc).mono (fun v A3 ⟨g3, e3⟩ => ⟨?_, h.trans (g2.trans g3)⟩) fun _ _ _ z => z, fun hc => ⟨?_, h.trans g2⟩⟩) fun _ _ _ z => z⟩
  · rw [List.filterMap_append, e1]; simp [e3]
  · rw [List.filterMap_append, e1]; simp [h2 hc]
theorem dc_go_q {ck : AH → Bool} {g : GM} {t : TM} {ke e : EM} {vs : List Nat} (bs : List β) (en : β → AV) (F : β → Option (AK × AV)) (hck : ck = always) (hb : bs.length ≤ big) {A0 : AH}
    (hs : ∀ x ∈ bs, ∀ A1, Gr A0 A1 → ∃ τ1, g (en x) (wipeA τ vs) A1 = some (τ1, A1) ∧ Ew (t τ1 A1) (fun c A2 => Gr A1 A2 ∧ (c = true → Ew (ke τ1 A2) (fun kv A3 => ∃ k, keyOf kv = some k ∧ Ew (e τ1 A3) (fun v A4 => Gr A2 A4 ∧ F x = some (k, v)) NX) NX) ∧ (c = false → F x = none)) NX) :
    ∀ (rest done : List β) (acc : List (AK × AV)) (A : AH), bs = done ++ rest → acc.length ≤ done.length → Gr A0 A → acc = mergeKA [] (done.filterMap F) → ∃ out A', dcGo ck g t ke e vs (rest.map en) acc τ A = .ok out A' ∧ out = mergeKA [] (bs.filterMap F) ∧ Gr A0 A' := by
  intro rest
  subst hck
  have plen : ∀ (acc : List (AK × AV)) (k : AK) (v : AV), (putKA acc k v).length ≤ acc.length + 1 := fun acc k v => by
    unfold putKA
    split
    · rw [List.length_map]; omega
    · rw [List.length_append]; simp
  induction rest with
  | nil =>
    intro done acc A eb hl h ea
    rw [List.append_nil] at eb
    subst eb
    exact ⟨acc, A, rfl, ea, h⟩
  | cons x rest ih =>
    intro done acc A eb hl h ea
    obtain ⟨τ1, eg, ht⟩ := hs x (by rw [eb]; simp) A h
    obtain ⟨c, A2, et, g2, h1, h2⟩ := ht.get
    rw [List.map_cons]
    unfold dcGo
    rw [if_pos (show always A = true from rfl), eg]
    show ∃ out A', (match t τ1 A with
      | .ok true A2 => (match ke τ1 A2 with
        | .ok kv A3 => (match keyOf kv, e τ1 A3 with
          | some k, .ok v A4 => if Nat.blt acc.length big = true then dcGo always g t ke e vs (rest.map en) (putKA acc k v) τ A4 else .stuck
          | _, _ => .stuck)
        | _ => .stuck)
      | .ok false A2 => dcGo always g t ke e vs (rest.map en) acc τ A2
      | _ => .stuck) = .ok out A' ∧ out = mergeKA [] (bs.filterMap F) ∧ Gr A0 A'
    rw [et]
    cases c with
    | false => exact ih (done ++ [x]) acc A2 (by rw [eb]; simp) (by rw [List.length_append]; omega) (h.trans g2) (by rw [List.filterMap_append, ea]; simp [h2 rfl])
    | true =>
      obtain ⟨kv, A3, ek, k, e3, h3⟩ := (h1 rfl).get
      obtain ⟨v, A4, ev, g4, ef⟩ := h3.get
      show ∃ out A', (match ke τ1 A2 with
        | .ok kv A3 => (match keyOf kv, e τ1 A3 with
          | some k, .ok v A4 => if Nat.blt acc.length big = true then dcGo always g t ke e vs (rest.map en) (putKA acc k v) τ A4 else .stuck
          | _, _ => .stuck)
        | _ => .stuck) = .ok out A' ∧ out = mergeKA [] (bs.filterMap F) ∧ Gr A0 A'
      rw [ek]
      show ∃ out A', (match keyOf kv, e τ1 A3 with
          | some k, .ok v A4 => if Nat.blt acc.length big = true then dcGo always g t ke e vs (rest.map en) (putKA acc k v) τ A4 else .stuck
          | _, _ => .stuck) = .ok out A' ∧ out = mergeKA [] (bs.filterMap F) ∧ Gr A0 A'
      rw [e3, ev]
      have hlt : Nat.blt acc.length big = true := by
        have : bs.length = done.length + (rest.length + 1) := by rw [eb]; simp
        exact Nat.ble_eq_true_of_le (by show acc.length + 1 ≤ big; omega)
      show ∃ out A', (if Nat.blt acc.length big = true then dcGo always g t ke e vs (rest.map en) (putKA acc k v) τ A4 else .stuck) = .ok out A' ∧ out = mergeKA [] (bs.filterMap F) ∧ Gr A0 A'
      rw [if_pos hlt]
      refine ih (done ++ [x]) (putKA acc k v) A4 (by rw [eb]; simp) (by have := plen acc k v; rw [List.length_append]; simp; omega) (h.trans (g2.trans g4)) ?_
      rw [List.filterMap_append, ea]
      simp [ef, mergeKA]
theorem ev_dc_q {i : IM} {g : GM} {t : TM} {ke e : EM} {vs : List Nat} (bs : List β) (en : β → AV) (F : β → Option (AK × AV)) (hb : bs.length ≤ big)
    (hi : Ew (i τ A) (fun S A1 => S = ⟨bs.map en, always⟩ ∧ Gr A A1) X)
    (hs : ∀ x ∈ bs, ∀ A1, Gr A A1 → ∃ τ1, g (en x) (wipeA τ vs) A1 = some (τ1, A1) ∧ Ew (t τ1 A1) (fun c A2 => Gr A1 A2 ∧ (c = true → Ew (ke τ1 A2) (fun kv A3 => ∃ k, keyOf kv = some k ∧ Ew (e τ1 A3) (fun v A4 => Gr A2 A4 ∧ F x = some (k, v)) NX) NX) ∧ (c = false → F x = none)) NX)
    (he : ∀ A', Gr A A' → PV (.dct (mergeKA [] (bs.filterMap F))) A') : Ew (eFrz (eDc i g t ke e vs) τ A) PV X := by
  unfold eFrz eDc
  refine Ew.bind (Ew.bind (hi.mono (fun S A1 ⟨e1, h⟩ => ?_) fun _ _ _ z => z))
  subst e1
  obtain ⟨out, A', e2, h2, h3⟩ := dc_go_q (τ := τ) bs en F rfl hb (A0 := A) hs bs [] [] A1 rfl (Nat.le_refl _) h rfl
  refine Ew.bind ?_
  rw [e2]
  subst h2
  show Ew (frz (.ref A'.length) (A' ++ [.dct (mergeKA [] (bs.filterMap F))])) PV X
  unfold frz
  show Ew (match (A' ++ [AO.dct (mergeKA [] (bs.filterMap F))])[A'.length]? with
    | some (.lst xs) => .ok (.lst xs) ((A' ++ [AO.dct (mergeKA [] (bs.filterMap F))]).set A'.length .gone)
    | some (.dct kvs) => .ok (.dct kvs) ((A' ++ [AO.dct (mergeKA [] (bs.filterMap F))]).set A'.length .gone)
    | _ => .ok (.ref A'.length) (A' ++ [AO.dct (mergeKA [] (bs.filterMap F))])) PV X
  rw [push_at]
  exact he _ (h3.trans (Gr.gone at_len Gr.push))
theorem ev_frzL_q {m : EM} (h : Ew (m τ A) (fun v A1 => ∃ i xs, v = .ref i ∧ A1[i]? = some (.lst xs) ∧ PV (.lst xs) (A1.set i .gone)) X) : Ew (eFrz m τ A) PV X := Ew.bind (h.mono (fun v A1 ⟨i, xs, e1, e2, h⟩ => by
  subst e1
  unfold frz
  show Ew (match A1[i]? with
    | some (.lst xs) => .ok (.lst xs) (A1.set i .gone)
    | some (.dct kvs) => .ok (.dct kvs) (A1.set i .gone)
    | _ => .ok (.ref i) A1) PV X
  rw [e2]; exact h) fun _ _ _ z => z)
theorem ev_frzD_q {m : EM} (h : Ew (m τ A) (fun v A1 => ∃ i xs, v = .ref i ∧ A1[i]? = some (.dct xs) ∧ PV (.dct xs) (A1.set i .gone)) X) : Ew (eFrz m τ A) PV X := Ew.bind (h.mono (fun v A1 ⟨i, xs, e1, e2, h⟩ => by
  subst e1
  unfold frz
  show Ew (match A1[i]? with
    | some (.lst xs) => .ok (.lst xs) (A1.set i .gone)
    | some (.dct kvs) => .ok (.dct kvs) (A1.set i .gone)
    | _ => .ok (.ref i) A1) PV X
  rw [e2]; exact h) fun _ _ _ z => z)
end
end Mw
set_option Elab.async false
set_option linter.all false
set_option maxRecDepth 100000
set_option maxHeartbeats 2000000
namespace Mw
section
variable {α : Type} {X : Nat → List (Nat × AV) → AH → Prop} {N : AE → AH → Prop} {R : AV → AH → Prop} {τ : AE} {A A' : AH} {PV : AV → AH → Prop} {P : α → AH → Prop}
theorem ev_eq_q {o : Out α} {v : α} (e : o = .ok v A') (h : P v A') : Ew o P X := by rw [e]; exact h
theorem o_mul_q {fz : Bool} {i j : Int} (c : CMulB i j = true) (h : PV (.int (i * j)) A) : Ew (mulA fz (.int i) (.int j) A) PV X := by
  have e : mulA fz (.int i) (.int j) A = .ok (.int (i * j)) A := by
    show orE mulI (repL fz) (.int i) (.int j) A = _
    unfold orE mulI ii
    simp only [if_pos c]
  rw [e]; exact h
theorem o_pow_q {i j : Int} (c : CPowB i j = true) (h : PV (.int (i ^ j.toNat)) A) : Ew (powI (.int i) (.int j) A) PV X := by
  have e : powI (.int i) (.int j) A = .ok (.int (i ^ j.toNat)) A := by
    unfold powI ii
    simp only [if_pos c]
  rw [e]; exact h
theorem o_mod_q {i j : Int} (c : 0 < j) (h : PV (.int (i % j)) A) : Ew (modI (.int i) (.int j) A) PV X := by
  have e : modI (.int i) (.int j) A = .ok (.int (i % j)) A := by
    unfold modI ii
    simp only [decide_eq_true c, if_true]
  rw [e]; exact h
theorem o_fdiv_q {i j : Int} (c : 0 < j) (d : j < 1073741824) (h : PV (.int (i / j)) A) : Ew (fdivI (.int i) (.int j) A) PV X := by
  have e : fdivI (.int i) (.int j) A = .ok (.int (i / j)) A := by
    unfold fdivI ii
    simp only [decide_eq_true (show 0 < j ∧ j < 1073741824 from ⟨c, d⟩), if_true]
  rw [e]; exact h
theorem o_add_q {fz : Bool} {i j : Int} (h : PV (.int (i + j)) A) : Ew (addA fz (.int i) (.int j) A) PV X := h
theorem o_sub_q {i j : Int} (h : PV (.int (i - j)) A) : Ew (subI (.int i) (.int j) A) PV X := h
theorem o_lt_q {i j : Int} (h : PV (.bl (decide (i < j))) A) : Ew (ltI (.int i) (.int j) A) PV X := h
theorem o_le_q {i j : Int} (h : PV (.bl (decide (i ≤ j))) A) : Ew (leI (.int i) (.int j) A) PV X := h
theorem o_gt_q {i j : Int} (h : PV (.bl (decide (j < i))) A) : Ew (gtI (.int i) (.int j) A) PV X := h
theorem o_ge_q {i j : Int} (h : PV (.bl (decide (j ≤ i))) A) : Ew (geI (.int i) (.int j) A) PV X := h
theorem o_eqI_q {i j : Int} (h : PV (.bl (decide (i = j))) A) : Ew (eqA (.int i) (.int j) A) PV X := h
theorem o_eqS_q {i j : List Nat} (h : PV (.bl (decide (i = j))) A) : Ew (eqA (.str i) (.str j) A) PV X := h
theorem rdS_ref {b : Nat} {xs : List AV} (e : A[b]? = some (.lst xs)) : rdS (.ref b) A = some xs := by
  show (match A[b]? with
    | some (.lst xs) => some xs
    | _ => none) = some xs
  rw [e]
theorem rdL_ref {b : Nat} {xs : List AV} (e : A[b]? = some (.lst xs)) : rdL (.ref b) A = some xs := by
  show (match A[b]? with
    | some (.lst xs) => some xs
    | _ => none) = some xs
  rw [e]
theorem dOf_ref {b : Nat} {xs : List (AK × AV)} (e : A[b]? = some (.dct xs)) : dOf (.ref b) A = some xs := by
  show (match A[b]? with
    | some (.dct xs) => some xs
    | _ => none) = some xs
  rw [e]
theorem rdS_refD {b : Nat} {xs : List (AK × AV)} (e : A[b]? = some (.dct xs)) : rdS (.ref b) A = none := by
  show (match A[b]? with
    | some (.lst xs) => some xs
    | _ => none) = none
  rw [e]
theorem atI_nat {β : Type} {xs : List β} {k : Nat} {v : β} (h : xs[k]? = some v) : L2.atI xs (k : Int) = some v := by
  unfold L2.atI
  have hl := (List.getElem?_eq_some_iff.mp h).1
  unfold L2.ixN
  rw [if_pos (by omega), if_pos (by omega)]
  exact h
theorem o_ixL_q {x v : AV} {xs : List AV} {i : Int} (e : rdS x A = some xs) (g : L2.atI xs i = some v) (h : PV v A) : Ew (fIx x (.int i) A) PV X := by
  unfold fIx
  rw [e]
  show Ew (match L2.atI xs i with
    | some v => .ok v A
    | none => .stuck) PV X
  rw [g]; exact h
theorem o_ixD_q {x y v : AV} {kvs : List (AK × AV)} {k : AK} (e1 : rdS x A = none) (e : dOf x A = some kvs) (ey : keyOf y = some k) (g : lookK k kvs = some v) (h : PV v A) : Ew (fIx x y A) PV X := by
  unfold fIx
  rw [e1, e]
  show Ew (match keyOf y with
    | some k => (match lookK k kvs with
      | some v => .ok v A
      | none => .stuck)
    | none => .stuck) PV X
  rw [ey]
  show Ew (match lookK k kvs with
      | some v => .ok v A
      | none => .stuck) PV X
  rw [g]; exact h
theorem k_abs_q {i : Int} (h : PV (.int (if i < 0 then -i else i)) A) : Ew (cAbs [.int i] A) PV X := h
theorem k_int_q {i : Int} (h : PV (.int i) A) : Ew (cInt [.int i] A) PV X := h
theorem k_intB_q {b : Bool} (h : PV (.int (if b then 1 else 0)) A) : Ew (cInt [.bl b] A) PV X := h
theorem k_max2_q {i j : Int} (h : PV (.int (if j > i then j else i)) A) : Ew (cMax2 [.int i, .int j] A) PV X := h
theorem k_min2_q {i j : Int} (h : PV (.int (if j < i then j else i)) A) : Ew (cMin2 [.int i, .int j] A) PV X := h
theorem k_lenS_q {v : AV} {xs : List AV} (e : rdS v A = some xs) (h : PV (.int xs.length) A) : Ew (cLen [v] A) PV X := by
  unfold cLen
  show Ew (match rdS v A with
    | some ys => .ok (.int ys.length) A
    | none => (match dOf v A with
      | some kvs => .ok (.int kvs.length) A
      | none => (match v with
        | .str z => if Nat.ble z.length big = true then .ok (.int z.length) A else .stuck
        | _ => .stuck))) PV X
  rw [e]; exact h
theorem k_lenD_q {kvs : List (AK × AV)} (h : PV (.int kvs.length) A) : Ew (cLen [.dct kvs] A) PV X := h
theorem k_lenT_q {z : List Nat} (hz : Nat.ble z.length big = true) (h : PV (.int z.length) A) : Ew (cLen [.str z] A) PV X := by
  show Ew (if Nat.ble z.length big = true then .ok (.int z.length) A else .stuck) PV X
  rw [if_pos hz]; exact h
theorem fput_at {p k : Nat} {xs : List AV} {v : AV} (e : A[p]? = some (.lst xs)) (hk : k < xs.length) : fPut (.ref p) (.int (k : Int)) v A = some (A.set p (.lst (xs.set k v))) := by
  show (match A[p]? with
    | some (.lst xs) => (match L2.ixN xs.length (k : Int) with
      | some j => some (A.set p (.lst (xs.set j v)))
      | none => none)
    | some (.dct kvs) => (match keyOf (.int (k : Int)) with
      | some k => if Nat.blt kvs.length big = true then some (A.set p (.dct (putKA kvs k v))) else none
      | none => none)
    | _ => none) = _
  rw [e]
  show (match L2.ixN xs.length (k : Int) with
      | some j => some (A.set p (.lst (xs.set j v)))
      | none => none) = _
  have : L2.ixN xs.length (k : Int) = some k := by
    unfold L2.ixN
    rw [if_pos (by omega), if_pos (by omega)]; simp
  rw [this]
end
end Mw
set_option Elab.async false
set_option linter.all false
set_option maxRecDepth 100000
set_option maxHeartbeats 2000000
namespace Mw
def srcX : AV → Option (List AV)
  | .lst xs => some xs
  | .tup xs => some xs
  | .rol xs => some xs
  | .dct kvs => some (kvs.map fun kv => kA kv.1)
  | .str z => some (z.map fun c => .str [c])
  | _ => none
section
variable {α β : Type} {X : Nat → List (Nat × AV) → AH → Prop} {N : AE → AH → Prop} {R : AV → AH → Prop} {τ : AE} {A A' : AH} {PV : AV → AH → Prop} {P : α → AH → Prop} {PS : Src → AH → Prop} {PO : Option Int → AH → Prop} {PL : List AV → AH → Prop} {PB : Bool → AH → Prop}
theorem i_any_q {m : EM} (h : Ew (m τ A) (fun v A1 => ∃ xs, srcX v = some xs ∧ PS ⟨xs, always⟩ A1) X) : Ew (iAny m τ A) PS X := Ew.bind (h.mono (fun v A1 ⟨xs, e, h⟩ => by
  cases v <;> first | (cases e; exact h) | cases e) fun _ _ _ z => z)
theorem i_itm_q {m : EM} (h : Ew (m τ A) (fun v A1 => ∃ kvs, v = .dct kvs ∧ PS ⟨kvs.map fun kv => .tup [kA kv.1, kv.2], always⟩ A1) X) : Ew (iItm m τ A) PS X := Ew.bind (h.mono (fun v A1 ⟨kvs, e, h⟩ => by subst e; exact h) fun _ _ _ z => z)
theorem i_rg1_q {m : AM} (h : Ew (m τ A) (fun vs A1 => ∃ j, vs = [.int j] ∧ fitI j = true ∧ PS ⟨intsFrom 0 j.toNat, always⟩ A1) X) : Ew (iRg1 m τ A) PS X := Ew.bind (h.mono (fun v A1 ⟨j, e, c, h⟩ => by
  subst e
  show Ew (if fitI j = true then .ok ⟨intsFrom 0 j.toNat, always⟩ A1 else .stuck) PS X
  rw [if_pos c]; exact h) fun _ _ _ z => z)
def ckOf (i : Nat) (xs : List AV) : AH → Bool := fun A' => (match A'[i]? with
      | some (.lst ys) => beqVs ys xs
      | _ => false) && always A'
theorem i_zpR_q {m : AM} {i : Nat} {xs ys : List AV} (h : Ew (m τ A) (fun vs A1 => vs = [.ref i, .lst ys] ∧ A1[i]? = some (.lst xs) ∧ PS ⟨pairs xs ys, ckOf i xs⟩ A1) X) : Ew (iZp m τ A) PS X := Ew.bind (h.mono (fun vs A1 ⟨e1, e2, h⟩ => by
  subst e1
  have s1 : srcS (.ref i) A1 = some ⟨xs, fun A' => match A'[i]? with
      | some (.lst ys) => beqVs ys xs
      | _ => false⟩ := by
    show (match A1[i]? with
    | some (.lst xs) => some (Src.mk xs fun A' => match A'[i]? with
      | some (.lst ys) => beqVs ys xs
      | _ => false)
    | _ => none) = _
    rw [e2]
  show Ew (match isL (.ref i) && isL (.lst ys), srcS (.ref i) A1, srcS (.lst ys) A1 with
    | true, some S, some T => Out.ok (Src.mk (pairs S.xs T.xs) fun A' => S.ck A' && T.ck A') A1
    | _, _, _ => .stuck) PS X
  rw [s1]
  exact h) fun _ _ _ z => z)
theorem beqVs_ints : ∀ l : List Int, beqVs (l.map .int) (l.map .int) = true
  | [] => rfl
  | x :: r => by
    show (decide (x = x) && beqVs (r.map .int) (r.map .int)) = true
    rw [beqVs_ints r]; simp
theorem ckOf_ints {i : Nat} {l : List Int} {A : AH} (e : A[i]? = some (.lst (l.map .int))) : ckOf i (l.map .int) A = true := by
  unfold ckOf
  rw [e]
  show (beqVs (l.map .int) (l.map .int) && true) = true
  rw [beqVs_ints]; rfl
theorem pairs_map (f g : β → AV) : ∀ l : List β, pairs (l.map f) (l.map g) = l.map fun x => .tup [f x, g x]
  | [] => rfl
  | x :: r => by
    show AV.tup [f x, g x] :: pairs (r.map f) (r.map g) = _
    rw [pairs_map f g r]; rfl
theorem intsFrom_map : ∀ (n k : Nat), intsFrom (k : Int) n = (List.range' k n).map fun j => AV.int ((j : Nat) : Int)
  | 0, k => rfl
  | n + 1, k => by
    unfold intsFrom
    rw [List.range'_succ, List.map_cons, ← intsFrom_map n (k + 1)]
    rfl
theorem ev_sl_q {fz : Bool} {a : EM} {lo hi : OM} (h : Ew (a τ A) (fun v A1 => Ew (lo τ A1) (fun l A2 => Ew (hi τ A2) (fun u A3 => Ew (fSl fz v l u A3) PV X) X) X) X) : Ew (eSl fz a lo hi τ A) PV X :=
  Ew.bind (h.mono (fun _ _ h => Ew.bind (h.mono (fun _ _ h => Ew.bind h) fun _ _ _ z => z)) fun _ _ _ z => z)
theorem ev_oN_q (h : PO none A) : Ew (oNone τ A) PO X := h
theorem ev_oS_q {m : EM} (h : Ew (m τ A) (fun v A1 => ∃ i, v = .int i ∧ PO (some i) A1) X) : Ew (oSome m τ A) PO X := Ew.bind (h.mono (fun v A1 ⟨i, e, h⟩ => by subst e; exact h) fun _ _ _ z => z)
theorem k_slL_q {xs : List AV} {l u : Option Int} (h : PV (.lst (cutL xs l u)) A) : Ew (fSl true (.lst xs) l u A) PV X := h
theorem k_slR_q {xs : List AV} {l u : Option Int} (h : PV (.lst (cutL xs l u)) A) : Ew (fSl true (.rol xs) l u A) PV X := h
theorem k_slT_q {xs : List AV} {l u : Option Int} (h : PV (.tup (cutL xs l u)) A) : Ew (fSl true (.tup xs) l u A) PV X := h
theorem k_slS_q {z : List Nat} {l u : Option Int} (hz : Nat.ble z.length big = true) (h : PV (.str (cutL z l u)) A) : Ew (fSl true (.str z) l u A) PV X := by
  show Ew (if Nat.ble z.length big = true then .ok (.str (cutL z l u)) A else .stuck) PV X
  rw [if_pos hz]; exact h
theorem cutL_map {f : α → β} {xs : List α} {l u : Option Int} : cutL (xs.map f) l u = (cutL xs l u).map f := by
  unfold cutL
  rw [List.length_map, ← List.map_drop, ← List.map_take]
theorem intsOf_map : ∀ ns : List Int, intsOf (ns.map AV.int) = some ns
  | [] => rfl
  | n :: ns => by rw [List.map_cons]; unfold intsOf; rw [intsOf_map ns]; rfl
theorem blsOf_map : ∀ ns : List Bool, blsOf (ns.map AV.bl) = some ns
  | [] => rfl
  | n :: ns => by rw [List.map_cons]; unfold blsOf; rw [blsOf_map ns]; rfl
theorem k_sum_q {v : AV} {ns : List Int} (e : rdL v A = some (ns.map AV.int)) (h : PV (.int (sumI ns)) A) : Ew (cSum [v] A) PV X := by
  unfold cSum
  show Ew (match rdL v A with
    | some ys => (match intsOf ys with
      | some ns => .ok (.int (sumI ns)) A
      | none => .stuck)
    | none => .stuck) PV X
  rw [e]
  show Ew (match intsOf (ns.map AV.int) with
      | some ns => .ok (.int (sumI ns)) A
      | none => .stuck) PV X
  rw [intsOf_map]; exact h
theorem k_bls_q {f : List Bool → Bool} {v : AV} {ns : List Bool} (e : rdL v A = some (ns.map AV.bl)) (h : PV (.bl (f ns)) A) : Ew (cBls f [v] A) PV X := by
  unfold cBls
  show Ew (match rdL v A with
    | some ys => (match blsOf ys with
      | some ns => .ok (.bl (f ns)) A
      | none => .stuck)
    | none => .stuck) PV X
  rw [e]
  show Ew (match blsOf (ns.map AV.bl) with
      | some ns => .ok (.bl (f ns)) A
      | none => .stuck) PV X
  rw [blsOf_map]; exact h
theorem k_best_q {f : Int → List Int → Int} {v : AV} {n : Int} {ns : List Int} (e : rdL v A = some ((n :: ns).map AV.int)) (h : PV (.int (f n ns)) A) : Ew (cBest f [v] A) PV X := by
  unfold cBest
  show Ew (match rdL v A with
    | some ys => (match intsOf ys with
      | some (n :: ns) => .ok (.int (f n ns)) A
      | _ => .stuck)
    | none => .stuck) PV X
  rw [e]
  show Ew (match intsOf ((n :: ns).map AV.int) with
      | some (n :: ns) => .ok (.int (f n ns)) A
      | _ => .stuck) PV X
  rw [intsOf_map]; exact h
theorem k_minI_q {v : AV} {n : Int} {ns : List Int} (e : rdL v A = some ((n :: ns).map AV.int)) (h : PV (.int (minI n ns)) A) : Ew (minA [v] A) PV X := by
  have e2 : cBest minI [v] A = .ok (.int (minI n ns)) A := by
    obtain ⟨a, A1, ea, h1, h2⟩ := (k_best_q (f := minI) (PV := fun a A1 => a = .int (minI n ns) ∧ A1 = A) (X := NX) e ⟨rfl, rfl⟩).get
    rw [ea, h1, h2]
  show Ew (orC (cBest minI) cMinD [v] A) PV X
  unfold orC
  rw [e2]; exact h
theorem k_tupL_q {xs : List AV} (h : PV (.tup xs) A) : Ew (cTuple [.lst xs] A) PV X := h
theorem k_tupT_q {xs : List AV} (h : PV (.tup xs) A) : Ew (cTuple [.tup xs] A) PV X := h
theorem k_listD_q {kvs : List (AK × AV)} (h : PV (.lst (kvs.map fun kv => kA kv.1)) A) : Ew (cList true [.dct kvs] A) PV X := h
theorem k_listL_q {xs : List AV} (h : PV (.lst xs) A) : Ew (cList true [.lst xs] A) PV X := h
theorem k_listT_q {xs : List AV} (h : PV (.lst xs) A) : Ew (cList true [.tup xs] A) PV X := h
theorem k_sorted_q {v : AV} {ys : List AV} (e : rdL v A = some ys) (c : sortOk ys = true) (h : PV (.lst (ys.mergeSort leAV)) A) : Ew (cSorted true [v] A) PV X := by
  unfold cSorted
  show Ew (match rdL v A with
    | some ys => if sortOk ys = true then newL true (ys.mergeSort leAV) A else .stuck
    | none => .stuck) PV X
  rw [e]
  show Ew (if sortOk ys = true then newL true (ys.mergeSort leAV) A else .stuck) PV X
  rw [if_pos c]; exact h
theorem ev_sortK_q {g : KM} {m : EM} (h : Ew (m τ A) (fun v A1 => ∃ ys, rdL v A1 = some ys ∧ keysOk g τ A1 ys = true ∧ PV (.lst (ys.mergeSort (PySem.W.dataLe false (keyOfx g τ A1)))) A1) X) : Ew (eSortK true g m τ A) PV X := Ew.bind (h.mono (fun v A1 ⟨ys, e, c, h⟩ => by
  show Ew (match rdL v A1 with
    | some ys => if keysOk g τ A1 ys = true then newL true (ys.mergeSort (PySem.W.dataLe false (keyOfx g τ A1))) A1 else .stuck
    | none => .stuck) PV X
  rw [e]
  show Ew (if keysOk g τ A1 ys = true then newL true (ys.mergeSort (PySem.W.dataLe false (keyOfx g τ A1))) A1 else .stuck) PV X
  rw [if_pos c]; exact h) fun _ _ _ z => z)
theorem o_catL_q {xs ys : List AV} (c : Nat.ble (xs.length + ys.length) big = true) (h : PV (.lst (xs ++ ys)) A) : Ew (addA true (.lst xs) (.lst ys) A) PV X := by
  have e : addA true (.lst xs) (.lst ys) A = .ok (.lst (xs ++ ys)) A := by
    show orE addI (orE addS (orE (catL true) catT)) (.lst xs) (.lst ys) A = _
    have e2 : catL true (.lst xs) (.lst ys) A = .ok (.lst (xs ++ ys)) A := by
      show (if Nat.ble (xs.length + ys.length) big = true then newL true (xs ++ ys) A else .stuck) = _
      rw [if_pos c]; rfl
    have e3 : orE (catL true) catT (.lst xs) (.lst ys) A = .ok (.lst (xs ++ ys)) A := by
      unfold orE; rw [e2]
    exact e3
  rw [e]; exact h
theorem o_rep_q {xs : List AV} {k : Int} (c : (decide (-(2 ^ 63) ≤ k ∧ k < 2 ^ 63) && Nat.ble (xs.length * k.toNat) big) = true) (h : PV (.lst (List.replicate k.toNat xs).flatten) A) : Ew (mulA true (.lst xs) (.int k) A) PV X := by
  have e : mulA true (.lst xs) (.int k) A = .ok (.lst (List.replicate k.toNat xs).flatten) A := by
    have e2 : repL true (.lst xs) (.int k) A = .ok (.lst (List.replicate k.toNat xs).flatten) A := by
      show (if (decide (-(2 ^ 63) ≤ k ∧ k < 2 ^ 63) && Nat.ble (xs.length * k.toNat) big) = true then newL true (List.replicate k.toNat xs).flatten A else .stuck) = _
      rw [if_pos c]; rfl
    exact e2
  rw [e]; exact h
theorem o_isN_q {v : AV} (h : PV (.bl (match v with | .non => true | _ => false)) A) : Ew (isA v .non A) PV X := by
  cases v <;> exact h
theorem o_isnN_q {v : AV} (h : PV (.bl (match v with | .non => false | _ => true)) A) : Ew (isnA v .non A) PV X := by
  cases v <;> exact h
theorem o_isB_q {a b : Bool} (h : PV (.bl (a == b)) A) : Ew (isA (.bl a) (.bl b) A) PV X := h
theorem o_isnB_q {a b : Bool} (h : PV (.bl (!(a == b))) A) : Ew (isnA (.bl a) (.bl b) A) PV X := h
theorem o_inD_q {x : List Nat} {kvs : List (AK × AV)} (h : PV (.bl (lookK (.inr x) kvs).isSome) A) : Ew (inA (.str x) (.dct kvs) A) PV X := by
  have e : inA (.str x) (.dct kvs) A = .ok (.bl (lookK (.inr x) kvs).isSome) A := by
    show orE inS (orE inC inD) (.str x) (.dct kvs) A = _
    unfold orE
    cases x <;> first | rfl | (rename_i c r; cases r <;> rfl)
  rw [e]; exact h
theorem o_niD_q {x : List Nat} {kvs : List (AK × AV)} (h : PV (.bl (!(lookK (.inr x) kvs).isSome)) A) : Ew (niA (.str x) (.dct kvs) A) PV X := by
  have e : niA (.str x) (.dct kvs) A = .ok (.bl (!(lookK (.inr x) kvs).isSome)) A := by
    show orE niS (orE niC niD) (.str x) (.dct kvs) A = _
    unfold orE
    cases x <;> first | rfl | (rename_i c r; cases r <;> rfl)
  rw [e]; exact h
theorem strs_flat : ∀ l : List (List Nat), (l.map AV.str).all flatA = true
  | [] => rfl
  | _ :: r => strs_flat r
theorem strs_any {x : List Nat} : ∀ l : List (List Nat), ((l.map AV.str).any fun y => feq y (.str x)) = decide (x ∈ l)
  | [] => by simp
  | y :: r => by
    rw [List.map_cons, List.any_cons, strs_any r]
    show (decide (y = x) || decide (x ∈ r)) = decide (x ∈ y :: r)
    by_cases h : y = x
    · subst h; simp
    · have : ¬ x = y := fun e => h e.symm
      simp [h, this]
theorem o_inL_q {v : AV} {x : List Nat} {l : List (List Nat)} (e : rdS v A = some (l.map AV.str)) (h : PV (.bl (decide (x ∈ l))) A) : Ew (inA (.str x) v A) PV X := by
  have e2 : inS (.str x) v A = .ok (.bl (decide (x ∈ l))) A := by
    unfold inS
    rw [e]
    show (if (flatA (.str x) && (l.map AV.str).all flatA) = true then Out.ok (AV.bl ((l.map AV.str).any fun y => feq y (.str x))) A else .stuck) = _
    rw [strs_flat, strs_any]; rfl
  show Ew (orE inS (orE inC inD) (.str x) v A) PV X
  unfold orE
  rw [e2]; exact h
theorem o_niL_q {v : AV} {x : List Nat} {l : List (List Nat)} (e : rdS v A = some (l.map AV.str)) (h : PV (.bl (!decide (x ∈ l))) A) : Ew (niA (.str x) v A) PV X := by
  have e2 : niS (.str x) v A = .ok (.bl (!decide (x ∈ l))) A := by
    unfold niS
    rw [e]
    show (if (flatA (.str x) && (l.map AV.str).all flatA) = true then Out.ok (AV.bl (!(l.map AV.str).any fun y => feq y (.str x))) A else .stuck) = _
    rw [strs_flat, strs_any]; rfl
  show Ew (orE niS (orE niC niD) (.str x) v A) PV X
  unfold orE
  rw [e2]; exact h
theorem o_neS_q {i j : List Nat} (h : PV (.bl (!decide (i = j))) A) : Ew (neA (.str i) (.str j) A) PV X := h
end
end Mw
set_option Elab.async false
set_option linter.all false
set_option maxRecDepth 100000
set_option maxHeartbeats 2000000
namespace Mw
section
variable {α β : Type} {X : Nat → List (Nat × AV) → AH → Prop} {N : AE → AH → Prop} {R : AV → AH → Prop} {Y : Nat → List (Nat × AV) → AE → AH → Prop} {τ : AE} {A A' : AH} {PV : AV → AH → Prop} {P : α → AH → Prop} {PS : Src → AH → Prop} {PL : List AV → AH → Prop} {PB : Bool → AH → Prop}
theorem ev_isi_q {ts : List Nat} {m : EM} (h : Ew (m τ A) (fun v A1 => ∃ k, kindOf v A1 = some k ∧ PV (.bl (anyTy k ts)) A1) X) : Ew (eIsi ts m τ A) PV X := Ew.bind (h.mono (fun v A1 ⟨k, e, h⟩ => by
  show Ew (match kindOf v A1 with
    | some k => .ok (.bl (anyTy k ts)) A1
    | none => .stuck) PV X
  rw [e]; exact h) fun _ _ _ z => z)
theorem ev_mk_q {c : Nat} {m : FM} {a : AM} (h : Ew (a τ A) (fun vs A1 => Ew (m (.ref A1.length :: vs) (A1 ++ [.ins c []])) (fun v A2 => v = .non ∧ PV (.ref A1.length) A2) NX) X) : Ew (eMk c m a τ A) PV X := Ew.bind (h.mono (fun vs A1 h => by
  obtain ⟨v, A2, e, rfl, h⟩ := h.get
  unfold mkM
  rw [e]; exact h) fun _ _ _ z => z)
theorem es_try_q {fz : Bool} {b : SM} {cs : List Nat} {cl : List ClM} (h : EZ (b τ A) N R (fun c fs τ1 A1 => EZ (trM fz cs cl c fs τ1 A1) N R Y)) : EZ (sTryR fz b cs cl τ A) N R Y := by
  unfold sTryR
  cases e : b τ A <;> rw [e] at h <;> exact h
theorem ev_dnew_q (h : ∀ A', Gr A A' → PV (.dct []) A') : Ew (eFrz eDNew τ A) PV X := by
  refine ev_frzD_q (show Ew (eDNew τ A) _ X from ?_)
  exact ⟨A.length, [], rfl, push_at, h _ (Gr.gone at_len Gr.push)⟩
theorem ev_dstar_q {d k v : EM} (h : Ew (d τ A) (fun x A1 => ∃ kvs, dOf x A1 = some kvs ∧ Nat.blt kvs.length big = true ∧ Ew (k τ A1) (fun y A2 => ∃ key, keyOf y = some key ∧ Ew (v τ A2) (fun z A3 => ∀ A', Gr A3 A' → PV (.dct (putKA kvs key z)) A') NX) NX) NX) : Ew (eFrz (eDStar d k v) τ A) PV X := by
  obtain ⟨x, A1, e1, kvs, ed, hl, h⟩ := h.get
  obtain ⟨y, A2, e2, key, ek, h⟩ := h.get
  obtain ⟨z, A3, e3, h⟩ := h.get
  refine ev_frzD_q ?_
  unfold eDStar
  rw [e1]
  show Ew (match dOf x A1, k τ A1 with
    | some kvs, .ok y A2 => (match keyOf y, v τ A2 with
      | some key, .ok z A3 => if Nat.blt kvs.length big = true then Out.ok (AV.ref A3.length) (A3 ++ [AO.dct (putKA kvs key z)]) else .stuck
      | _, _ => .stuck)
    | _, _ => .stuck) _ X
  rw [ed, e2]
  show Ew (match keyOf y, v τ A2 with
      | some key, .ok z A3 => if Nat.blt kvs.length big = true then Out.ok (AV.ref A3.length) (A3 ++ [AO.dct (putKA kvs key z)]) else .stuck
      | _, _ => .stuck) _ X
  rw [ek, e3]
  show Ew (if Nat.blt kvs.length big = true then Out.ok (AV.ref A3.length) (A3 ++ [AO.dct (putKA kvs key z)]) else .stuck) _ X
  rw [if_pos hl]
  exact ⟨A3.length, _, rfl, push_at, h _ (Gr.gone at_len Gr.push)⟩
theorem ev_dictP_q {a : AM} (h : Ew (a τ A) (fun vs A1 => ∃ v ys kvs, vs = [v] ∧ dOf v A1 = none ∧ rdL v A1 = some ys ∧ pairsOf ys = some kvs ∧ ∀ A', Gr A1 A' → PV (.dct (mergeKA [] kvs)) A') X) : Ew (eFrz (eCall cDict a) τ A) PV X := by
  refine ev_frzD_q (ev_call_q (h.mono (fun vs A1 ⟨v, ys, kvs, e1, e2, e3, e4, h⟩ => ?_) fun _ _ _ z => z))
  subst e1
  show Ew (match dOf v A1, rdL v A1 with
    | some kvs, _ => newD kvs A1
    | none, some ys => (match pairsOf ys with
      | some kvs => newD (mergeKA [] kvs) A1
      | none => .stuck)
    | none, none => .stuck) _ X
  rw [e2, e3]
  show Ew (match pairsOf ys with
      | some kvs => newD (mergeKA [] kvs) A1
      | none => .stuck) _ X
  rw [e4]
  exact ⟨A1.length, _, rfl, push_at, h _ (Gr.gone at_len Gr.push)⟩
theorem ev_dictPF_q {a : AM} (h : Ew (a τ A) (fun vs A1 => ∃ v ys kvs, vs = [v] ∧ dOf v A1 = none ∧ rdL v A1 = some ys ∧ pairsOf ys = some kvs ∧ ∀ i A', A1[i]? = none → A'[i]? = some (.dct (mergeKA [] kvs)) → Gr A1 A' → PV (.ref i) A') X) : Ew (eCall cDict a τ A) PV X := by
  refine ev_call_q (h.mono (fun vs A1 ⟨v, ys, kvs, e1, e2, e3, e4, h⟩ => ?_) fun _ _ _ z => z)
  subst e1
  show Ew (match dOf v A1, rdL v A1 with
    | some kvs, _ => newD kvs A1
    | none, some ys => (match pairsOf ys with
      | some kvs => newD (mergeKA [] kvs) A1
      | none => .stuck)
    | none, none => .stuck) _ X
  rw [e2, e3]
  show Ew (match pairsOf ys with
      | some kvs => newD (mergeKA [] kvs) A1
      | none => .stuck) _ X
  rw [e4]
  exact h _ _ at_len push_at Gr.push
theorem ev_lit_q {m : EM} (h : Ew (m τ A) (fun v A1 => ∃ kvs, dOf v A1 = some kvs ∧ PV (.lst (kvs.map fun kv => .tup [kA kv.1, kv.2])) A1) X) : Ew (eLit m τ A) PV X := Ew.bind (h.mono (fun v A1 ⟨kvs, e, h⟩ => by
  show Ew (match dOf v A1 with
    | some kvs => .ok (.lst (kvs.map fun kv => .tup [kA kv.1, kv.2])) A1
    | none => .stuck) PV X
  rw [e]; exact h) fun _ _ _ z => z)
theorem ev_lenO_q {c mn : Nat} {m : FM} {a : EM} (h : Ew (a τ A) (fun v A1 => ∃ i fs, v = .ref i ∧ A1[i]? = some (.ins c fs) ∧ Ew (m [.ref i] A1) (fun w A2 => ∃ n : Int, w = .int n ∧ 0 ≤ n ∧ n < 9223372036854775808 ∧ PV (.int n) A2) NX) X) : Ew (eLenO c mn m a τ A) PV X := Ew.bind (h.mono (fun v A1 ⟨i, fs, e1, e2, h⟩ => by
  subst e1
  obtain ⟨w, A2, e, n, rfl, h1, h2, h⟩ := h.get
  show Ew (match A1[i]? with
    | some (.ins c' _) => if Nat.beq c' c = true then (match m [.ref i] A1 with
      | .ok (.int n) A2 => if decide (0 ≤ n ∧ n < 2 ^ 63) = true then .ok (.int n) A2 else .stuck
      | _ => .stuck) else .stuck
    | _ => .stuck) PV X
  rw [e2]
  show Ew (if Nat.beq c c = true then (match m [.ref i] A1 with
      | .ok (.int n) A2 => if decide (0 ≤ n ∧ n < 2 ^ 63) = true then .ok (.int n) A2 else .stuck
      | _ => .stuck) else .stuck) PV X
  rw [if_pos (Nat.beq_refl c), e]
  show Ew (if decide (0 ≤ n ∧ n < 2 ^ 63) = true then .ok (.int n) A2 else .stuck) PV X
  rw [if_pos (decide_eq_true ⟨h1, by omega⟩)]; exact h) fun _ _ _ z => z)
theorem ev_app_q {o : EM} {a : AM} (h : Ew (o τ A) (fun v A1 => ∃ i ys, v = .ref i ∧ A1[i]? = some (.lst ys) ∧ Ew (a τ A1) (fun vs A2 => ∃ y zs, vs = [y] ∧ A2[i]? = some (.lst zs) ∧ Nat.blt zs.length big = true ∧ PV .non (A2.set i (.lst (zs ++ [y])))) X) X) : Ew (eMl mAppend o a τ A) PV X := Ew.bind (h.mono (fun v A1 ⟨i, ys, e1, e2, h⟩ => by
  subst e1
  have d : dirL (.ref i) A1 = some ys := by
    show (match A1[i]? with
      | some (.lst xs) => some xs
      | _ => none) = some ys
    rw [e2]
  show Ew (match dirL (.ref i) A1 with
    | some _ => (a τ A1).bind fun vs A2 => mAppend (.ref i) vs A2
    | none => .stuck) PV X
  rw [d]
  refine Ew.bind (h.mono (fun vs A2 ⟨y, zs, e3, e4, c, h⟩ => ?_) fun _ _ _ z => z)
  subst e3
  have l : lstAt (.ref i) A2 = some (i, zs) := by
    show (match A2[i]? with
      | some (.lst xs) => some (i, xs)
      | _ => none) = _
    rw [e4]
  unfold mAppend
  rw [l]
  show Ew (if Nat.blt zs.length big = true then .ok .non (A2.set i (.lst (zs ++ [y]))) else .stuck) PV X
  rw [if_pos c]; exact h) fun _ _ _ z => z)
theorem ev_ext_q {o : EM} {a : AM} (h : Ew (o τ A) (fun v A1 => ∃ i ys, v = .ref i ∧ A1[i]? = some (.lst ys) ∧ Ew (a τ A1) (fun vs A2 => ∃ y ws zs, vs = [y] ∧ dirL y A2 = some ws ∧ A2[i]? = some (.lst zs) ∧ Nat.ble (zs.length + ws.length) big = true ∧ PV .non (A2.set i (.lst (zs ++ ws)))) X) X) : Ew (eMl mExtend o a τ A) PV X := Ew.bind (h.mono (fun v A1 ⟨i, ys, e1, e2, h⟩ => by
  subst e1
  have d : dirL (.ref i) A1 = some ys := by
    show (match A1[i]? with
      | some (.lst xs) => some xs
      | _ => none) = some ys
    rw [e2]
  show Ew (match dirL (.ref i) A1 with
    | some _ => (a τ A1).bind fun vs A2 => mExtend (.ref i) vs A2
    | none => .stuck) PV X
  rw [d]
  refine Ew.bind (h.mono (fun vs A2 ⟨y, ws, zs, e3, ey, e4, c, h⟩ => ?_) fun _ _ _ z => z)
  subst e3
  have l : lstAt (.ref i) A2 = some (i, zs) := by
    show (match A2[i]? with
      | some (.lst xs) => some (i, xs)
      | _ => none) = _
    rw [e4]
  unfold mExtend
  rw [l]
  show Ew (match dirL y A2 with
    | some ws => if Nat.ble (zs.length + ws.length) big = true then .ok .non (A2.set i (.lst (zs ++ ws))) else .stuck
    | none => .stuck) PV X
  rw [ey]
  show Ew (if Nat.ble (zs.length + ws.length) big = true then .ok .non (A2.set i (.lst (zs ++ ws))) else .stuck) PV X
  rw [if_pos c]; exact h) fun _ _ _ z => z)
end
end Mw
set_option Elab.async false
set_option linter.all false
set_option maxRecDepth 100000
set_option maxHeartbeats 2000000
namespace Mw
abbrev TK := List Nat
section
variable {β : Type} {f : β → AV} {k : TK} {v : β} {l : List (TK × β)}
def eD (f : β → AV) (l : List (TK × β)) : List (AK × AV) := l.map fun kv => (.inr kv.1, f kv.2)
def lk (k : TK) : List (TK × β) → Option β
  | [] => none
  | (j, v) :: r => if j = k then some v else lk k r
def keys (l : List (TK × β)) : List TK := l.map (·.1)
def hasK (k : TK) (l : List (TK × β)) : Bool := l.any fun kv => decide (kv.1 = k)
def putT (l : List (TK × β)) (k : TK) (v : β) : List (TK × β) := if hasK k l = true then l.map (fun kv => if kv.1 = k then (kv.1, v) else kv) else l ++ [(k, v)]
theorem lookK_eD : ∀ l : List (TK × β), lookK (.inr k) (eD f l) = (lk k l).map f
  | [] => rfl
  | (j, v) :: r => by
    show (if (Sum.inr j : AK) = .inr k then some (f v) else lookK (.inr k) (eD f r)) = (if j = k then some v else lk k r).map f
    by_cases h : j = k
    · subst h; rw [if_pos rfl, if_pos rfl]; rfl
    · rw [if_neg h, if_neg (fun e => h (Sum.inr.inj e))]; exact lookK_eD r
theorem lk_has : ∀ l : List (TK × β), (lk k l).isSome = hasK k l
  | [] => rfl
  | (j, v) :: r => by
    show (if j = k then some v else lk k r).isSome = (decide (j = k) || hasK k r)
    by_cases h : j = k
    · rw [if_pos h, decide_eq_true h]; rfl
    · rw [if_neg h, decide_eq_false h, lk_has r]; rfl
theorem has_mem : hasK k l = true ↔ k ∈ keys l := by
  unfold hasK keys
  simp only [List.any_eq_true, decide_eq_true_eq, List.mem_map]
theorem lk_some : (∃ v, lk k l = some v) ↔ k ∈ keys l := by
  rw [← has_mem, ← lk_has, Option.isSome_iff_exists]
theorem any_eD : ∀ l : List (TK × β), ((eD f l).any fun kv => decide (kv.1 = (Sum.inr k : AK))) = hasK k l
  | [] => rfl
  | (j, v) :: r => by
    show (decide ((Sum.inr j : AK) = .inr k) || (eD f r).any fun kv => decide (kv.1 = (Sum.inr k : AK))) = (decide (j = k) || hasK k r)
    rw [any_eD r]
    congr 1
    rw [Bool.eq_iff_iff]; simp
theorem putKA_eD : putKA (eD f l) (.inr k) (f v) = eD f (putT l k v) := by
  unfold putKA putT
  rw [any_eD]
  split
  · unfold eD
    rw [List.map_map, List.map_map]
    refine List.map_congr_left fun kv _ => ?_
    show (if (Sum.inr kv.1 : AK) = .inr k then (Sum.inr kv.1, f v) else (Sum.inr kv.1, f kv.2)) = _
    show _ = ((Sum.inr (if kv.1 = k then (kv.1, v) else kv).1 : AK), f (if kv.1 = k then (kv.1, v) else kv).2)
    by_cases h : kv.1 = k
    · rw [if_pos h, if_pos (by rw [h])]
    · rw [if_neg h, if_neg (fun e => h (Sum.inr.inj e))]
  · unfold eD
    rw [List.map_append]; rfl
theorem putT_new (h : k ∉ keys l) : putT l k v = l ++ [(k, v)] := by
  unfold putT
  rw [if_neg (fun e => h (has_mem.mp e))]
theorem merge_new : ∀ (more acc : List (TK × β)), (keys acc ++ keys more).Nodup → mergeKA (eD f acc) (eD f more) = eD f (acc ++ more)
  | [], acc, _ => by rw [List.append_nil]; rfl
  | (k, v) :: r, acc, h => by
    have hk : k ∉ keys acc := fun hm => by
      rw [List.nodup_append] at h
      exact h.2.2 k hm k (by simp [keys]) rfl
    show mergeKA (putKA (eD f acc) (.inr k) (f v)) (eD f r) = _
    rw [putKA_eD, putT_new hk]
    rw [merge_new r (acc ++ [(k, v)]) (by simpa [keys, List.append_assoc] using h), List.append_assoc]
    rfl
theorem merge_all (h : (keys l).Nodup) : mergeKA [] (eD f l) = eD f l := by
  have := merge_new (f := f) l [] (by simpa [keys] using h)
  simpa [eD] using this
theorem eD_keys : (eD f l).map (fun kv => kA kv.1) = (keys l).map AV.str := by
  unfold eD keys
  rw [List.map_map, List.map_map]; rfl
theorem eD_items : (eD f l).map (fun kv => AV.tup [kA kv.1, kv.2]) = l.map fun kv => AV.tup [.str kv.1, f kv.2] := by
  unfold eD
  rw [List.map_map]; rfl
theorem eD_len : (eD f l).length = l.length := List.length_map ..
theorem lk_map {γ : Type} {g : β → γ} : ∀ l : List (TK × β), lk k (l.map fun kv => (kv.1, g kv.2)) = (lk k l).map g
  | [] => rfl
  | (j, v) :: r => by
    show (if j = k then some (g v) else lk k (r.map fun kv => (kv.1, g kv.2))) = (if j = k then some v else lk k r).map g
    by_cases h : j = k
    · rw [if_pos h, if_pos h]; rfl
    · rw [if_neg h, if_neg h]; exact lk_map r
theorem lk_of_mem (hn : (keys l).Nodup) : ∀ {kv : TK × β}, kv ∈ l → lk kv.1 l = some kv.2 := by
  induction l with
  | nil => intro kv h; cases h
  | cons x r ih =>
    intro kv h
    obtain ⟨j, w⟩ := x
    have hn2 : (j :: keys r).Nodup := hn
    rw [List.nodup_cons] at hn2
    rcases List.mem_cons.mp h with e | hm
    · subst e; exact if_pos rfl
    · show (if j = kv.1 then some w else lk kv.1 r) = some kv.2
      have : j ≠ kv.1 := fun e => hn2.1 (by rw [e]; exact List.mem_map.mpr ⟨kv, hm, rfl⟩)
      rw [if_neg this]; exact ih hn2.2 hm
theorem mem_of_lk : ∀ {l : List (TK × β)}, lk k l = some v → (k, v) ∈ l
  | [], h => by cases h
  | (j, w) :: r, h => by
    have h2 : (if j = k then some w else lk k r) = some v := h
    by_cases e : j = k
    · rw [if_pos e] at h2; cases h2; subst e; exact List.mem_cons_self
    · rw [if_neg e] at h2; exact List.mem_cons_of_mem _ (mem_of_lk h2)
end
end Mw
set_option Elab.async false
set_option linter.all false
set_option maxRecDepth 100000
set_option maxHeartbeats 2000000
namespace Mw
open PySem
section
variable {β : Type} {X : Nat → List (Nat × AV) → AH → Prop} {A : AH} {P : AV → AH → Prop} {g : β → AV} {f : β → PyData} {xs ys : List β}
theorem allM_map {n : Nat} : ∀ {xs : List β}, (∀ x ∈ xs, toD A n (g x) = some (f x)) → allM (toD A n) (xs.map g) = some (xs.map f)
  | [], _ => rfl
  | x :: r, h => by
    rw [List.map_cons]
    unfold allM
    rw [h x List.mem_cons_self, allM_map fun y hy => h y (List.mem_cons_of_mem _ hy)]
    rfl
theorem toD_lst {n : Nat} (h : ∀ x ∈ xs, toD A n (g x) = some (f x)) : toD A (n + 1) (.lst (xs.map g)) = some (.list (xs.map f)) := by
  show (allM (toD A n) (xs.map g)).map PyData.list = _
  rw [allM_map h]; rfl
theorem toD_rol {n : Nat} (h : ∀ x ∈ xs, toD A n (g x) = some (f x)) : toD A (n + 1) (.rol (xs.map g)) = some (.list (xs.map f)) := by
  show (allM (toD A n) (xs.map g)).map PyData.list = _
  rw [allM_map h]; rfl
theorem toD_tup {n : Nat} (h : ∀ x ∈ xs, toD A n (g x) = some (f x)) : toD A (n + 1) (.tup (xs.map g)) = some (.tuple (xs.map f)) := by
  show (allM (toD A n) (xs.map g)).map PyData.tuple = _
  rw [allM_map h]; rfl
theorem eqvAll_map [DecidableEq β] (h : ∀ x y : β, PyData.eqv (f x) (f y) = decide (x = y)) : ∀ xs ys : List β, PyData.eqvAll (xs.map f) (ys.map f) = decide (xs = ys)
  | [], [] => by simp [PyData.eqvAll]
  | [], y :: ys => by simp [PyData.eqvAll]
  | x :: xs, [] => by simp [PyData.eqvAll]
  | x :: xs, y :: ys => by
    rw [List.map_cons, List.map_cons]
    unfold PyData.eqvAll
    rw [h, eqvAll_map h xs ys, Bool.eq_iff_iff]
    simp
def ascii (s : TK) : Bool := s.all fun c => Nat.blt c 0x110000
def pS (s : TK) : PyData := .str ⟨s.toArray⟩
theorem toD_str {n : Nat} {s : TK} (h : ascii s = true) : toD A (n + 1) (.str s) = some (pS s) := by
  show (if s.all (fun c => Nat.blt c 0x110000) = true then some (PyData.str ⟨s.toArray⟩) else none) = _
  rw [if_pos (show (s.all fun c => Nat.blt c 0x110000) = true from h)]; rfl
theorem toD_int {n : Nat} {i : Int} : toD A (n + 1) (.int i) = some (.int i) := rfl
theorem eqv_str (x y : TK) : PyData.eqv (pS x) (pS y) = decide (x = y) := by
  show ((⟨x.toArray⟩ : Str) == ⟨y.toArray⟩) = _
  rw [Bool.eq_iff_iff, beq_iff_eq, decide_eq_true_iff]
  constructor
  · intro e; injection e with e; injection e
  · intro e; rw [e]
theorem eqv_int (x y : Int) : PyData.eqv (.int x) (.int y) = decide (x = y) := by
  show (x == y) = _
  rw [Bool.eq_iff_iff]; simp
def pIS (p : Int × TK) : PyData := .tuple [.int p.1, pS p.2]
def aIS (p : Int × TK) : AV := .tup [.int p.1, .str p.2]
theorem toD_is {n : Nat} {p : Int × TK} (h : ascii p.2 = true) : toD A (n + 2) (aIS p) = some (pIS p) := by
  show (allM (toD A (n + 1)) [.int p.1, .str p.2]).map PyData.tuple = _
  unfold allM
  rw [toD_int]
  unfold allM
  rw [toD_str h]
  rfl
theorem eqv_is (x y : Int × TK) : PyData.eqv (pIS x) (pIS y) = decide (x = y) := by
  show PyData.eqvAll [.int x.1, pS x.2] [.int y.1, pS y.2] = _
  unfold PyData.eqvAll
  unfold PyData.eqvAll
  unfold PyData.eqvAll
  rw [eqv_int, eqv_str, Bool.eq_iff_iff]
  simp [Prod.ext_iff]
theorem o_neL_q [DecidableEq β] (e : ∀ x y : β, PyData.eqv (f x) (f y) = decide (x = y)) (h1 : ∀ x ∈ xs, toD A 59 (g x) = some (f x)) (h2 : ∀ x ∈ ys, toD A 59 (g x) = some (f x)) (h : P (.bl (!decide (xs = ys))) A) : Ew (neA (.lst (xs.map g)) (.lst (ys.map g)) A) P X := by
  have q : neD (.lst (xs.map g)) (.lst (ys.map g)) A = .ok (.bl (!decide (xs = ys))) A := by
    unfold neD
    rw [toD_lst h1, toD_lst h2]
    show Out.ok (AV.bl (!PyData.eqvAll (xs.map f) (ys.map f))) A = _
    rw [eqvAll_map e]
  show Ew (orE neS neD (.lst (xs.map g)) (.lst (ys.map g)) A) P X
  have q2 : orE neS neD (.lst (xs.map g)) (.lst (ys.map g)) A = .ok (.bl (!decide (xs = ys))) A := q
  rw [q2]; exact h
theorem o_eqL_q [DecidableEq β] (e : ∀ x y : β, PyData.eqv (f x) (f y) = decide (x = y)) (h1 : ∀ x ∈ xs, toD A 59 (g x) = some (f x)) (h2 : ∀ x ∈ ys, toD A 59 (g x) = some (f x)) (h : P (.bl (decide (xs = ys))) A) : Ew (eqA (.lst (xs.map g)) (.lst (ys.map g)) A) P X := by
  have q : eqD (.lst (xs.map g)) (.lst (ys.map g)) A = .ok (.bl (decide (xs = ys))) A := by
    unfold eqD
    rw [toD_lst h1, toD_lst h2]
    show Out.ok (AV.bl (PyData.eqvAll (xs.map f) (ys.map f))) A = _
    rw [eqvAll_map e]
  have q2 : eqA (.lst (xs.map g)) (.lst (ys.map g)) A = .ok (.bl (decide (xs = ys))) A := by
    show orE eqS (orE eqD eqE) (.lst (xs.map g)) (.lst (ys.map g)) A = _
    show orE eqD eqE (.lst (xs.map g)) (.lst (ys.map g)) A = _
    unfold orE
    rw [q]
  rw [q2]; exact h
end
end Mw
set_option Elab.async false
set_option linter.all false
set_option maxRecDepth 100000
set_option maxHeartbeats 2000000
namespace Mw
open PySem
section
variable {β γ : Type} {X : Nat → List (Nat × AV) → AH → Prop} {A : AH} {P : AV → AH → Prop}
def leS (a b : TK) : Bool := decide (a ≤ b)
def leP (p q : Int × TK) : Bool := decide (p.1 < q.1 ∨ (p.1 = q.1 ∧ p.2 ≤ q.2))
theorem leAV_str (a b : TK) : leAV (.str a) (.str b) = leS a b := by
  show (!W.dataLt (.str ⟨b.toArray⟩) (.str ⟨a.toArray⟩)) = _
  rw [W.dataLt_str, W.not_lt_str]; rfl
theorem dlt_is (p q : Int × TK) : W.dataLt (pIS p) (pIS q) = decide (p.1 < q.1 ∨ (p.1 = q.1 ∧ p.2 < q.2)) := by
  unfold pIS
  rw [W.dataLt_pair (by simp [W.alike]) (by simp [W.alike, pS]), W.dataLt_int, eqv_int, eqv_str]
  show (if decide (p.1 = q.1) = true then (if decide (p.2 = q.2) = true then false else W.dataLt (.str ⟨p.2.toArray⟩) (.str ⟨q.2.toArray⟩)) else decide (p.1 < q.1)) = _
  rw [W.dataLt_str]
  by_cases h1 : p.1 = q.1
  · by_cases h2 : p.2 = q.2
    · have : ¬ q.2 < q.2 := List.lt_irrefl _
      simp [h1, h2, this]
    · simp [h1, h2]
  · simp [h1]
theorem leAV_is (p q : Int × TK) : leAV (aIS p) (aIS q) = leP p q := by
  show (!W.dataLt (pIS q) (pIS p)) = _
  rw [dlt_is]
  unfold leP
  by_cases h1 : p.1 = q.1
  · have : ¬ q.1 < p.1 := by omega
    have n2 : ¬ p.1 < q.1 := by omega
    simp only [h1, Int.lt_irrefl, false_or, true_and]
    exact W.not_lt_str _ _
  · by_cases h2 : p.1 < q.1
    · have : ¬ q.1 < p.1 := by omega
      have n3 : ¬ q.1 = p.1 := by omega
      simp [h2, this, n3]
    · have : q.1 < p.1 := by omega
      simp [h1, h2, this]
theorem leS_trans (a b c : TK) (h1 : leS a b = true) (h2 : leS b c = true) : leS a c = true := decide_eq_true (List.le_trans (of_decide_eq_true h1) (of_decide_eq_true h2))
theorem leS_total (a b : TK) : (leS a b || leS b a) = true := by
  rw [Bool.or_eq_true]
  exact (List.le_total a b).imp decide_eq_true decide_eq_true
theorem leS_anti {a b : TK} (h1 : leS a b = true) (h2 : leS b a = true) : a = b := List.le_antisymm (of_decide_eq_true h1) (of_decide_eq_true h2)
theorem leP_trans (a b c : Int × TK) (h1 : leP a b = true) (h2 : leP b c = true) : leP a c = true := by
  have h1 := of_decide_eq_true h1
  have h2 := of_decide_eq_true h2
  refine decide_eq_true ?_
  rcases h1 with h1 | ⟨h1, k1⟩ <;> rcases h2 with h2 | ⟨h2, k2⟩
  · exact .inl (by omega)
  · exact .inl (by omega)
  · exact .inl (by omega)
  · exact .inr ⟨by omega, List.le_trans k1 k2⟩
theorem leP_total (a b : Int × TK) : (leP a b || leP b a) = true := by
  rw [Bool.or_eq_true]
  by_cases h : a.1 = b.1
  · rcases List.le_total a.2 b.2 with k | k
    · exact .inl (decide_eq_true (.inr ⟨h, k⟩))
    · exact .inr (decide_eq_true (.inr ⟨h.symm, k⟩))
  · by_cases h2 : a.1 < b.1
    · exact .inl (decide_eq_true (.inl h2))
    · exact .inr (decide_eq_true (.inl (by omega)))
theorem leP_anti {a b : Int × TK} (h1 : leP a b = true) (h2 : leP b a = true) : a = b := by
  have h1 := of_decide_eq_true h1
  have h2 := of_decide_eq_true h2
  rcases h1 with h1 | ⟨h1, k1⟩ <;> rcases h2 with h2 | ⟨h2, k2⟩ <;> try omega
  exact Prod.ext h1 (List.le_antisymm k1 k2)
def srt (l : List TK) : List TK := l.mergeSort leS
def srtP (l : List (Int × TK)) : List (Int × TK) := l.mergeSort leP
theorem srt_mem {l : List TK} {x : TK} : x ∈ srt l ↔ x ∈ l := List.mem_mergeSort
theorem srt_perm (l : List TK) : (srt l).Perm l := List.mergeSort_perm _ _
theorem srt_len (l : List TK) : (srt l).length = l.length := List.length_mergeSort _
theorem srtP_len (l : List (Int × TK)) : (srtP l).length = l.length := List.length_mergeSort _
theorem srt_sorted (l : List TK) : (srt l).Pairwise fun a b => leS a b = true := List.pairwise_mergeSort leS_trans leS_total l
theorem srtP_sorted (l : List (Int × TK)) : (srtP l).Pairwise fun a b => leP a b = true := List.pairwise_mergeSort leP_trans leP_total l
theorem srt_map (l : List TK) : (l.map AV.str).mergeSort leAV = (srt l).map AV.str := by
  unfold srt
  rw [List.map_mergeSort]
  intro a _ b _
  exact (leAV_str a b).symm
theorem srtP_map (l : List (Int × TK)) : (l.map aIS).mergeSort leAV = (srtP l).map aIS := by
  unfold srtP
  rw [List.map_mergeSort]
  intro a _ b _
  exact (leAV_is a b).symm
theorem sorted_uniq {le : β → β → Bool} (anti : ∀ a b, le a b = true → le b a = true → a = b) : ∀ {l m : List β}, l.Perm m → l.Pairwise (fun a b => le a b = true) → m.Pairwise (fun a b => le a b = true) → l = m := by
  intro l
  induction l with
  | nil => intro m p _ _; exact p.nil_eq
  | cons a l ih =>
    intro m p h1 h2
    cases m with
    | nil => exact absurd p.length_eq (by simp)
    | cons b m =>
      have e : a = b := by
        rcases List.mem_cons.mp (p.subset List.mem_cons_self) with e | hm
        · exact e
        · rcases List.mem_cons.mp (p.symm.subset List.mem_cons_self) with e | hm2
          · exact e.symm
          · exact anti _ _ (List.rel_of_pairwise_cons h1 hm2) (List.rel_of_pairwise_cons h2 hm)
      subst e
      rw [ih (List.perm_cons a |>.mp p) (List.Pairwise.of_cons h1) (List.Pairwise.of_cons h2)]
theorem srt_filter (p : TK → Bool) (l : List TK) : srt (l.filter p) = (srt l).filter p :=
  sorted_uniq (fun _ _ => leS_anti) ((srt_perm _).trans ((srt_perm l).filter p).symm) (srt_sorted _) ((srt_sorted l).filter p)
theorem srtP_id {l : List (Int × TK)} (h : l.Pairwise fun a b => leP a b = true) : srtP l = l := sorted_uniq (fun _ _ => leP_anti) (List.mergeSort_perm _ _) (srtP_sorted l) h
theorem pds_strs (l : List TK) : isPDs (l.map AV.str) = true ∧ pds (l.map AV.str) = l.map fun x => PyData.str ⟨x.toArray⟩ := by
  induction l with
  | nil => exact ⟨rfl, rfl⟩
  | cons x r ih => exact ⟨by show (true && isPDs (r.map AV.str)) = true; rw [ih.1]; rfl, by show _ :: pds (r.map AV.str) = _; rw [ih.2]; rfl⟩
theorem pds_iss (l : List (Int × TK)) : isPDs (l.map aIS) = true ∧ pds (l.map aIS) = l.map pIS := by
  induction l with
  | nil => exact ⟨rfl, rfl⟩
  | cons x r ih => exact ⟨by show (true && isPDs (r.map aIS)) = true; rw [ih.1]; rfl, by show _ :: pds (r.map aIS) = _; rw [ih.2]; rfl⟩
theorem all_mapT {f : β → γ} {p : γ → Bool} {l : List β} (h : ∀ x, p (f x) = true) : (l.map f).all p = true := by
  rw [List.all_eq_true]
  intro y hy
  obtain ⟨x, _, rfl⟩ := List.mem_map.mp hy
  exact h x
theorem sortOk_strs {l : List TK} (h : l.length ≤ 10000) : sortOk (l.map AV.str) = true := by
  unfold sortOk
  rw [(pds_strs l).1, (pds_strs l).2]
  have h1 : alikes (l.map fun x => PyData.str ⟨x.toArray⟩) = true := all_mapT fun x => all_mapT fun y => by simp [W.alike]
  have h2 : (l.map fun x => PyData.str ⟨x.toArray⟩).all noTup = true := all_mapT fun x => rfl
  have h3 : shallow (l.map fun x => PyData.str ⟨x.toArray⟩) = true := all_mapT fun x => by simp [PyData.depth]
  have h4 : Nat.ble (l.map AV.str).length big = true := Nat.ble_eq_true_of_le (by rw [List.length_map]; show l.length ≤ 16777216; omega)
  rw [h1, h2, h3, h4]; simp
theorem sortOk_iss {l : List (Int × TK)} (h : l.length ≤ 10000) : sortOk (l.map aIS) = true := by
  unfold sortOk
  rw [(pds_iss l).1, (pds_iss l).2]
  have h1 : alikes (l.map pIS) = true := all_mapT fun x => all_mapT fun y => by simp [W.alike, pIS, pS, W.alikeAll]
  have h2 : (l.map pIS).all tup1 = true := all_mapT fun x => rfl
  have h3 : shallow (l.map pIS) = true := all_mapT fun x => by simp [PyData.depth, PyData.depthAll, pIS, pS]
  have h4 : Nat.ble (l.map aIS).length big = true := Nat.ble_eq_true_of_le (by rw [List.length_map]; show l.length ≤ 16777216; omega)
  rw [h1, h2, h3, h4]; simp
theorem k_srt_q {v : AV} {l : List TK} (e : rdL v A = some (l.map .str)) (hl : l.length ≤ 10000) (h : P (.lst ((srt l).map .str)) A) : Ew (cSorted true [v] A) P X := by
  refine k_sorted_q e (sortOk_strs hl) ?_
  rw [srt_map]; exact h
theorem k_srtP_q {v : AV} {l : List (Int × TK)} (e : rdL v A = some (l.map aIS)) (hl : l.length ≤ 10000) (h : P (.lst ((srtP l).map aIS)) A) : Ew (cSorted true [v] A) P X := by
  refine k_sorted_q e (sortOk_iss hl) ?_
  rw [srtP_map]; exact h
def bestP (x : Int × TK) : List (Int × TK) → Int × TK
  | [] => x
  | y :: r => bestP (if leP x y = true then x else y) r
theorem bestV_is : ∀ (l : List (Int × TK)) (x : Int × TK), bestV (aIS x) (l.map aIS) = aIS (bestP x l)
  | [], _ => rfl
  | y :: r, x => by
    rw [List.map_cons]
    unfold bestV bestP
    have e : (W.dataLt (pd (aIS y)) (pd (aIS x)) = true) ↔ ¬ leP x y = true := by
      show W.dataLt (pIS y) (pIS x) = true ↔ _
      rw [← leAV_is]
      show _ ↔ ¬ (!W.dataLt (pIS y) (pIS x)) = true
      cases W.dataLt (pIS y) (pIS x) <;> simp
    by_cases c : leP x y = true
    · rw [if_pos c, if_neg (fun h => (e.mp h) c), bestV_is r]
    · rw [if_neg c, if_pos (e.mpr c), bestV_is r]
theorem bestP_le : ∀ (l : List (Int × TK)) (x y : Int × TK), y ∈ x :: l → leP (bestP x l) y = true
  | [], x, y, h => by
    cases List.mem_singleton.mp h
    have := leP_total x x
    rw [Bool.or_self] at this
    exact this
  | z :: r, x, y, h => by
    unfold bestP
    have ih := bestP_le r (if leP x z = true then x else z)
    have hx : leP (if leP x z = true then x else z) x = true := by
      by_cases c : leP x z = true
      · rw [if_pos c]
        have := leP_total x x
        rw [Bool.or_self] at this
        exact this
      · rw [if_neg c]
        have := leP_total x z
        rw [Bool.or_eq_true] at this
        exact this.resolve_left c
    have hz : leP (if leP x z = true then x else z) z = true := by
      by_cases c : leP x z = true
      · rw [if_pos c]; exact c
      · rw [if_neg c]
        have := leP_total z z
        rw [Bool.or_self] at this
        exact this
    have hb := ih _ List.mem_cons_self
    rcases List.mem_cons.mp h with e | h
    · subst e; exact leP_trans _ _ _ hb hx
    · rcases List.mem_cons.mp h with e | h
      · subst e; exact leP_trans _ _ _ hb hz
      · exact ih y (List.mem_cons_of_mem _ h)
theorem bestP_mem : ∀ (l : List (Int × TK)) (x : Int × TK), bestP x l ∈ x :: l
  | [], x => by simp [bestP]
  | z :: r, x => by
    unfold bestP
    rcases List.mem_cons.mp (bestP_mem r (if leP x z = true then x else z)) with e | h
    · rw [e]; split <;> simp
    · exact List.mem_cons_of_mem _ (List.mem_cons_of_mem _ h)
theorem srtP_head {x : Int × TK} {l : List (Int × TK)} : (srtP (x :: l))[0]? = some (bestP x l) := by
  have hs := srtP_sorted (x :: l)
  have hm : ∀ y, y ∈ srtP (x :: l) ↔ y ∈ x :: l := fun y => List.mem_mergeSort
  cases e : srtP (x :: l) with
  | nil =>
    have := srtP_len (x :: l)
    rw [e] at this
    simp at this
  | cons y r =>
    rw [e] at hs hm
    have h1 : leP (bestP x l) y = true := bestP_le l x y ((hm y).mp List.mem_cons_self)
    have h2 : leP y (bestP x l) = true := by
      rcases List.mem_cons.mp ((hm _).mpr (bestP_mem l x)) with e | h
      · rw [← e]
        have := leP_total (bestP x l) (bestP x l)
        rw [Bool.or_self] at this
        exact this
      · exact List.rel_of_pairwise_cons hs h
    rw [leP_anti h1 h2]; rfl
theorem depthAll_iss : ∀ l : List (Int × TK), PyData.depthAll (l.map pIS) ≤ 8
  | [] => by simp [PyData.depthAll]
  | x :: r => by
    have := depthAll_iss r
    rw [List.map_cons]
    unfold PyData.depthAll
    have : (pIS x).depth ≤ 8 := by simp [PyData.depth, PyData.depthAll, pIS, pS]
    omega
theorem k_minP_q {v : AV} {x : Int × TK} {l : List (Int × TK)} (e : rdL v A = some ((x :: l).map aIS)) (h : P (aIS (bestP x l)) A) : Ew (minA [v] A) P X := by
  have e1 : cBest minI [v] A = .stuck := by
    unfold cBest
    show (match rdL v A with
    | some ys => (match intsOf ys with
      | some (n :: ns) => Out.ok (AV.int (minI n ns)) A
      | _ => .stuck)
    | none => .stuck) = _
    rw [e]; rfl
  have ok : minOk ((x :: l).map aIS) = true := by
    unfold minOk
    rw [(pds_iss _).1, (pds_iss _).2]
    have h1 : alikes ((x :: l).map pIS) = true := all_mapT fun x => all_mapT fun y => by simp [W.alike, pIS, pS, W.alikeAll]
    have h2 : ((x :: l).map pIS).all (fun d => match d with | .none => false | _ => true) = true := all_mapT fun x => rfl
    have h3 : Nat.ble (PyData.depthAll ((x :: l).map pIS)) 8 = true := Nat.ble_eq_true_of_le (depthAll_iss _)
    rw [h1, h3]
    simp only [Bool.true_and, Bool.and_true]
    exact all_mapT fun x => rfl
  have e2 : cMinD [v] A = .ok (aIS (bestP x l)) A := by
    unfold cMinD
    show (match rdL v A with
    | some (y :: ys) => if minOk (y :: ys) = true then Out.ok (bestV y ys) A else .stuck
    | _ => .stuck) = _
    rw [e]
    show (if minOk ((x :: l).map aIS) = true then Out.ok (bestV (aIS x) (l.map aIS)) A else .stuck) = _
    rw [if_pos ok, bestV_is]
  show Ew (orC (cBest minI) cMinD [v] A) P X
  unfold orC
  rw [e1]
  show Ew (cMinD [v] A) P X
  rw [e2]; exact h
end
end Mw
set_option Elab.async false
set_option linter.all false
set_option maxRecDepth 100000
set_option maxHeartbeats 2000000
namespace Mw
section
variable {X : Nat → List (Nat × AV) → AH → Prop} {A : AH} {PV : AV → AH → Prop}
theorem ev_tYes_q {PB : Bool → AH → Prop} {τ : AE} (h : PB true A) : Ew (tYes' τ A) PB X := h
theorem isN_non_q (h : PV (.bl true) A) : Ew (isA .non .non A) PV X := h
theorem isN_bl_q {b : Bool} (h : PV (.bl false) A) : Ew (isA (.bl b) .non A) PV X := h
theorem isN_int_q {b : Int} (h : PV (.bl false) A) : Ew (isA (.int b) .non A) PV X := h
theorem isN_str_q {b : List Nat} (h : PV (.bl false) A) : Ew (isA (.str b) .non A) PV X := h
theorem isN_tup_q {b : List AV} (h : PV (.bl false) A) : Ew (isA (.tup b) .non A) PV X := h
theorem isN_lst_q {b : List AV} (h : PV (.bl false) A) : Ew (isA (.lst b) .non A) PV X := h
theorem isN_dct_q {b : List (AK × AV)} (h : PV (.bl false) A) : Ew (isA (.dct b) .non A) PV X := h
theorem isN_ref_q {b : Nat} (h : PV (.bl false) A) : Ew (isA (.ref b) .non A) PV X := h
theorem isn_non_q (h : PV (.bl false) A) : Ew (isnA .non .non A) PV X := h
theorem isn_bl_q {b : Bool} (h : PV (.bl true) A) : Ew (isnA (.bl b) .non A) PV X := h
theorem isn_int_q {b : Int} (h : PV (.bl true) A) : Ew (isnA (.int b) .non A) PV X := h
theorem isn_str_q {b : List Nat} (h : PV (.bl true) A) : Ew (isnA (.str b) .non A) PV X := h
theorem isn_tup_q {b : List AV} (h : PV (.bl true) A) : Ew (isnA (.tup b) .non A) PV X := h
theorem isn_lst_q {b : List AV} (h : PV (.bl true) A) : Ew (isnA (.lst b) .non A) PV X := h
theorem isn_dct_q {b : List (AK × AV)} (h : PV (.bl true) A) : Ew (isnA (.dct b) .non A) PV X := h
theorem isn_ref_q {b : Nat} (h : PV (.bl true) A) : Ew (isnA (.ref b) .non A) PV X := h
end
section
variable {α β : Type} {X : Nat → List (Nat × AV) → AH → Prop} {τ : AE} {A A' : AH} {PV : AV → AH → Prop}
theorem ev_lcM_q {i : IM} {g : GM} {e : EM} {vs : List Nat} (bs : List β) (en : β → AV) (F : β → AV)
    (hb : bs.length ≤ 10000) (hi : Ew (i τ A) (fun S A1 => S = ⟨bs.map en, always⟩ ∧ Gr A A1) X)
    (hs : ∀ x ∈ bs, ∀ A1, Gr A A1 → ∃ τ1, g (en x) (wipeA τ vs) A1 = some (τ1, A1) ∧ Ew (e τ1 A1) (fun v A3 => Gr A1 A3 ∧ v = F x) NX)
    (he : ∀ A', Gr A A' → PV (.lst (bs.map F)) A') : Ew (eLc true i g tYes' e vs τ A) PV X := by
  refine ev_lc_q bs en (fun x => some (F x)) (by show bs.length ≤ 16777216; omega) hi (fun x hx A1 g1 => ?_) fun A' g => ?_
  · obtain ⟨τ1, e1, h⟩ := hs x hx A1 g1
    exact ⟨τ1, e1, ⟨Gr.refl, fun _ => h.mono (fun v A3 ⟨g3, e3⟩ => ⟨g3, by rw [e3]⟩) fun _ _ _ z => z, fun z => by cases z⟩⟩
  · rw [show bs.filterMap (fun x => some (F x)) = bs.map F by rw [List.filterMap_eq_map']]
    exact he A' g
theorem ev_lcP_q {i : IM} {g : GM} {t : TM} {e : EM} {vs : List Nat} (bs : List β) (en : β → AV) (p : β → Bool) (F : β → AV)
    (hb : bs.length ≤ 10000) (hi : Ew (i τ A) (fun S A1 => S = ⟨bs.map en, always⟩ ∧ Gr A A1) X)
    (hs : ∀ x ∈ bs, ∀ A1, Gr A A1 → ∃ τ1, g (en x) (wipeA τ vs) A1 = some (τ1, A1) ∧ Ew (t τ1 A1) (fun c A2 => Gr A1 A2 ∧ c = p x ∧ (p x = true → Ew (e τ1 A2) (fun v A3 => Gr A2 A3 ∧ v = F x) NX)) NX)
    (he : ∀ A', Gr A A' → PV (.lst ((bs.filter p).map F)) A') : Ew (eLc true i g t e vs τ A) PV X := by
  refine ev_lc_q bs en (fun x => if p x = true then some (F x) else none) (by show bs.length ≤ 16777216; omega) hi (fun x hx A1 g1 => ?_) fun A' g => ?_
  · obtain ⟨τ1, e1, h⟩ := hs x hx A1 g1
    refine ⟨τ1, e1, h.mono (fun c A2 ⟨g2, ec, h2⟩ => ⟨g2, fun hc => ?_, fun hc => ?_⟩) fun _ _ _ z => z⟩
    · rw [hc] at ec
      exact (h2 ec.symm).mono (fun v A3 ⟨g3, e3⟩ => ⟨g3, by rw [if_pos ec.symm, e3]⟩) fun _ _ _ z => z
    · rw [hc] at ec
      rw [if_neg (by rw [← ec]; decide)]
  · have : (bs.filterMap fun x => if p x = true then some (F x) else none) = (bs.filter p).map F := by
      induction bs with
      | nil => rfl
      | cons y r ih =>
        by_cases h : p y = true
        · rw [List.filterMap_cons_some (by rw [if_pos h]), List.filter_cons_of_pos h]
          rw [List.map_cons]
          congr 1
          clear he hs hi hb
          clear ih
          induction r with
          | nil => rfl
          | cons z r ih =>
            by_cases h : p z = true
            · rw [List.filterMap_cons_some (by rw [if_pos h]), List.filter_cons_of_pos h, ih]; rfl
            · rw [List.filterMap_cons_none (by rw [if_neg h]), List.filter_cons_of_neg h, ih]
        · rw [List.filterMap_cons_none (by rw [if_neg h]), List.filter_cons_of_neg h]
          clear he hs hi hb ih
          induction r with
          | nil => rfl
          | cons z r ih =>
            by_cases h : p z = true
            · rw [List.filterMap_cons_some (by rw [if_pos h]), List.filter_cons_of_pos h, ih]; rfl
            · rw [List.filterMap_cons_none (by rw [if_neg h]), List.filter_cons_of_neg h, ih]
    rw [this]
    exact he A' g
theorem o_addI_q {i j : Int} (h : PV (.int (i + j)) A) : Ew (addI (.int i) (.int j) A) PV X := h
theorem o_eqB_q {a b : Bool} (h : PV (.bl (a == b)) A) : Ew (eqA (.bl a) (.bl b) A) PV X := h
theorem o_neB_q {a b : Bool} (h : PV (.bl (!(a == b))) A) : Ew (neA (.bl a) (.bl b) A) PV X := h
theorem o_neI_q {a b : Int} (h : PV (.bl (!decide (a = b))) A) : Ew (neA (.int a) (.int b) A) PV X := h
theorem o_eqNil_q (h : PV (.bl true) A) : Ew (eqA (.lst []) (.lst []) A) PV X := o_eqL_q (g := AV.int) (f := PySem.PyData.int) (xs := []) (ys := []) eqv_int (fun _ h => by cases h) (fun _ h => by cases h) h
theorem ixS_at_q {z : List Nat} {k c : Nat} (hz : z.length ≤ 10000) (e : z[k]? = some c) (h : PV (.str [c]) A) : Ew (fIx (.str z) (.int (k : Int)) A) PV X := by
  show Ew (if Nat.ble z.length big = true then (match L2.atI z (k : Int) with
      | some c => Out.ok (AV.str [c]) A
      | none => .stuck) else .stuck) PV X
  rw [if_pos (Nat.ble_eq_true_of_le (by show z.length ≤ 16777216; omega)), atI_nat e]; exact h
theorem cut_at {α : Type} {xs : List α} {k : Nat} {c : α} (e : xs[k]? = some c) : cutL xs (some (k : Int)) (some ((k : Int) + 1)) = [c] := by
  have hk := (List.getElem?_eq_some_iff.mp e).1
  unfold cutL
  rw [HT.sIx_nat, show ((k : Int) + 1) = ((k + 1 : Nat) : Int) by omega, HT.sIx_nat, Nat.min_eq_left (by omega), Nat.min_eq_left (by omega), show k + 1 - k = 1 by omega, List.drop_eq_getElem_cons hk]
  have := (List.getElem?_eq_some_iff.mp e).2
  rw [this]; rfl
theorem rng {n : Nat} : intsFrom 0 ((n : Int)).toNat = (List.range' 0 n).map fun j => AV.int ((j : Nat) : Int) := by
  rw [Int.toNat_natCast]
  exact intsFrom_map n 0
theorem fit_nat {n : Nat} (h : n ≤ 1000000) : fitI (n : Int) = true := by
  unfold fitI
  rw [decide_eq_true (show (-(2 ^ 62) : Int) ≤ (n : Int) by omega), decide_eq_true (show (n : Int) < 2 ^ 62 by omega)]; rfl
theorem rng_lt {n k : Nat} (h : k ∈ List.range' 0 n) : k < n := by
  rw [List.mem_range'_1] at h
  omega
theorem o_eqD0_q {kvs : List (AK × AV)} (h : PV (.bl kvs.isEmpty) A) : Ew (eqA (.dct kvs) (.dct []) A) PV X := h
end
end Mw
set_option Elab.async false
set_option linter.all false
set_option maxRecDepth 100000
set_option maxHeartbeats 2000000
namespace Mw
@[irreducible] def Ev {α : Type} (o : Out α) (P : α → AH → Prop) (X : Nat → List (Nat × AV) → AH → Prop) : Prop := Ew o P X
@[irreducible] def ES (r : SR) (N : AE → AH → Prop) (R : AV → AH → Prop) (X : Nat → List (Nat × AV) → AE → AH → Prop) : Prop := EZ r N R X
theorem Ev_eq : @Ev = @Ew := by
  funext α o P X
  unfold Ev
  rfl
theorem ES_eq : @ES = @EZ := by
  funext r N R X
  unfold ES
  rfl
end Mw
-- P1
namespace Mw
section
variable {α β : Type} {P : α → AH → Prop} {P' : β → AH → Prop} {X X' : Nat → List (Nat × AV) → AH → Prop} {N N' : AE → AH → Prop} {R R' : AV → AH → Prop} {τ : AE} {A : AH} {Y Y' : Nat → List (Nat × AV) → AE → AH → Prop}
theorem Ev.mono {o : Out α} {P2 : α → AH → Prop} (h : Ev o P X) (k : ∀ a A, P a A → P2 a A) (l : ∀ c fs A, X c fs A → X' c fs A) : Ev o P2 X' := by
  have t := @Ew.mono
  simp only [← Ev_eq, ← ES_eq] at t
  exact t h k l
theorem Ev.imp {o : Out α} {P2 : α → AH → Prop} (h : Ev o P NX) (k : ∀ a A, P a A → P2 a A) : Ev o P2 X := by
  have t := @Ew.imp
  simp only [← Ev_eq, ← ES_eq] at t
  exact t h k
theorem Ev.bind {o : Out α} {k : α → AH → Out β} (h : Ev o (fun a A => Ev (k a A) P' X) X) : Ev (o.bind k) P' X := by
  have t := @Ew.bind
  simp only [← Ev_eq, ← ES_eq] at t
  exact t h
theorem Ev.get {o : Out α} (h : Ev o P NX) : ∃ a A, o = .ok a A ∧ P a A := by
  have t := @Ew.get
  simp only [← Ev_eq, ← ES_eq] at t
  exact t h
theorem ES.mono {r : SR} (h : ES r N R Y) (a : ∀ τ A, N τ A → N' τ A) (b : ∀ v A, R v A → R' v A) (c : ∀ d fs τ A, Y d fs τ A → Y' d fs τ A) : ES r N' R' Y' := by
  have t := @EZ.mono
  simp only [← Ev_eq, ← ES_eq] at t
  exact t h a b c
theorem es_lift {m : AE → AH → Out α} {k : α → AE → AH → SR} (h : Ev (m τ A) (fun v A1 => ES (k v τ A1) N R Y) (fun c fs A1 => Y c fs τ A1)) : ES (lift m k τ A) N R Y := by
  have t := @es_lift_q
  simp only [← Ev_eq, ← ES_eq] at t
  exact t h
theorem es_seq {s t : SM} (h : ES (s τ A) (fun τ1 A1 => ES (t τ1 A1) N R Y) R Y) : ES (sSeq s t τ A) N R Y := by
  have t := @es_seq_q
  simp only [← Ev_eq, ← ES_eq] at t
  exact t h
theorem es_nil (h : N τ A) : ES (sNil τ A) N R Y := by
  have t := @es_nil_q
  simp only [← Ev_eq, ← ES_eq] at t
  exact t h
theorem es_set {i : Nat} {m : EM} (h : Ev (m τ A) (fun v A1 => N (τ.set i (some v)) A1) (fun c fs A1 => Y c fs τ A1)) : ES (sSet i m τ A) N R Y := by
  have t := @es_set_q
  simp only [← Ev_eq, ← ES_eq] at t
  exact t h
theorem es_ret {m : EM} (h : Ev (m τ A) R (fun c fs A1 => Y c fs τ A1)) : ES (sRet m τ A) N R Y := by
  have t := @es_ret_q
  simp only [← Ev_eq, ← ES_eq] at t
  exact t h
theorem es_expr {m : EM} (h : Ev (m τ A) (fun _ A1 => N τ A1) (fun c fs A1 => Y c fs τ A1)) : ES (sExpr m τ A) N R Y := by
  have t := @es_expr_q
  simp only [← Ev_eq, ← ES_eq] at t
  exact t h
theorem es_if {t : TM} {a b : SM} (h : Ev (t τ A) (fun c A1 => (c = true → ES (a τ A1) N R Y) ∧ (c = false → ES (b τ A1) N R Y)) (fun c fs A1 => Y c fs τ A1)) : ES (sIf t a b τ A) N R Y := by
  have t := @es_if_q
  simp only [← Ev_eq, ← ES_eq] at t
  exact t h
theorem es_asg {m : EM} {g : GM} (h : Ev (m τ A) (fun v A1 => ∃ τ1 A2, g v τ A1 = some (τ1, A2) ∧ N τ1 A2) (fun c fs A1 => Y c fs τ A1)) : ES (sAsg m g τ A) N R Y := by
  have t := @es_asg_q
  simp only [← Ev_eq, ← ES_eq] at t
  exact t h
theorem es_par {i j : Nat} {a b : EM} (h : Ev (a τ A) (fun v A1 => Ev (b τ A1) (fun w A2 => N ((τ.set i (some v)).set j (some w)) A2) (fun c fs A1 => Y c fs τ A1)) (fun c fs A1 => Y c fs τ A1)) : ES (sPar i j a b τ A) N R Y := by
  have t := @es_par_q
  simp only [← Ev_eq, ← ES_eq] at t
  exact t h
theorem es_par3 {i j l : Nat} {a b c : EM} (h : Ev (a τ A) (fun u A1 => Ev (b τ A1) (fun v A2 => Ev (c τ A2) (fun w A3 => N (((τ.set i (some u)).set j (some v)).set l (some w)) A3) (fun c fs A1 => Y c fs τ A1)) (fun c fs A1 => Y c fs τ A1)) (fun c fs A1 => Y c fs τ A1)) : ES (sPar3 i j l a b c τ A) N R Y := by
  have t := @es_par3_q
  simp only [← Ev_eq, ← ES_eq] at t
  exact t h
theorem es_aug {f : B2} {i : Nat} {m : EM} {x : AV} (hx : τ[i]? = some (some x)) (h : Ev (m τ A) (fun y A1 => Ev (f x y A1) (fun z A2 => N (τ.set i (some z)) A2) (fun c fs A1 => Y c fs τ A1)) (fun c fs A1 => Y c fs τ A1)) : ES (sAug f i m τ A) N R Y := by
  have t := @es_aug_q
  simp only [← Ev_eq, ← ES_eq] at t
  exact t hx h
theorem es_attr {cs : List Nat} {f : Nat} {o e : EM} (h : Ev (e τ A) (fun y A1 => Ev (o τ A1) (fun x A2 => ∃ i c fs, x = .ref i ∧ A2[i]? = some (.ins c fs) ∧ (cs.contains c && Nat.blt fs.length 1000) = true ∧ N τ (A2.set i (.ins c (putFA f y fs)))) (fun c fs A1 => Y c fs τ A1)) (fun c fs A1 => Y c fs τ A1)) : ES (sAttr cs f o e τ A) N R Y := by
  have t := @es_attr_q
  simp only [← Ev_eq, ← ES_eq] at t
  exact t h
theorem es_sub {o i e : EM} (h : Ev (e τ A) (fun v A1 => Ev (o τ A1) (fun x A2 => Ev (i τ A2) (fun y A3 => ∃ A4, fPut x y v A3 = some A4 ∧ N τ A4) (fun c fs A1 => Y c fs τ A1)) (fun c fs A1 => Y c fs τ A1)) (fun c fs A1 => Y c fs τ A1)) : ES (sSub o i e τ A) N R Y := by
  have t := @es_sub_q
  simp only [← Ev_eq, ← ES_eq] at t
  exact t h
theorem es_raise1 {c f : Nat} {m : EM} (h : Ev (m τ A) (fun v A1 => Y c [(f, v)] τ A1) (fun c fs A1 => Y c fs τ A1)) : ES (sRaise1 c f m τ A) N R Y := by
  have t := @es_raise1_q
  simp only [← Ev_eq, ← ES_eq] at t
  exact t h
theorem es_raise0 {c : Nat} (h : Y c [] τ A) : ES (sRaise0 c τ A) N R Y := by
  have t := @es_raise0_q
  simp only [← Ev_eq, ← ES_eq] at t
  exact t h
variable {PV : AV → AH → Prop} {PL : List AV → AH → Prop} {PB : Bool → AH → Prop}
theorem ev_var {i : Nat} {v : AV} (e : τ[i]? = some (some v)) (h : PV v A) : Ev (eVar i τ A) PV X := by
  have t := @ev_var_q
  simp only [← Ev_eq, ← ES_eq] at t
  exact t e h
theorem ev_C {v : AV} (h : PV v A) : Ev (eC v τ A) PV X := by
  have t := @ev_C_q
  simp only [← Ev_eq, ← ES_eq] at t
  exact t h
theorem ev_bin {f : B2} {a b : EM} (h : Ev (a τ A) (fun x A1 => Ev (b τ A1) (fun y A2 => Ev (f x y A2) PV X) X) X) : Ev (eBin f a b τ A) PV X := by
  have t := @ev_bin_q
  simp only [← Ev_eq, ← ES_eq] at t
  exact t h
theorem ev_toB {b : Bool} (h : PB b A) : Ev (toB (.bl b) A) PB X := by
  have t := @ev_toB_q
  simp only [← Ev_eq, ← ES_eq] at t
  exact t h
theorem ev_tB {a : EM} (h : Ev (a τ A) (fun v A1 => ∃ b, v = .bl b ∧ PB b A1) X) : Ev (tB' a τ A) PB X := by
  have t := @ev_tB_q
  simp only [← Ev_eq, ← ES_eq] at t
  exact t h
theorem ev_tTru {a : EM} (h : Ev (a τ A) (fun v A1 => ∃ b, truA v A1 = some b ∧ PB b A1) X) : Ev (tTru a τ A) PB X := by
  have t := @ev_tTru_q
  simp only [← Ev_eq, ← ES_eq] at t
  exact t h
theorem ev_tNot {a : TM} (h : Ev (a τ A) (fun b A1 => PB (!b) A1) X) : Ev (tNot a τ A) PB X := by
  have t := @ev_tNot_q
  simp only [← Ev_eq, ← ES_eq] at t
  exact t h
theorem ev_tAnd {a b : TM} (h : Ev (a τ A) (fun c A1 => (c = true → Ev (b τ A1) PB X) ∧ (c = false → PB false A1)) X) : Ev (tAnd a b τ A) PB X := by
  have t := @ev_tAnd_q
  simp only [← Ev_eq, ← ES_eq] at t
  exact t h
theorem ev_tOr {a b : TM} (h : Ev (a τ A) (fun c A1 => (c = true → PB true A1) ∧ (c = false → Ev (b τ A1) PB X)) X) : Ev (tOr a b τ A) PB X := by
  have t := @ev_tOr_q
  simp only [← Ev_eq, ← ES_eq] at t
  exact t h
theorem ev_if {c : TM} {a b : EM} (h : Ev (c τ A) (fun k A1 => (k = true → Ev (a τ A1) PV X) ∧ (k = false → Ev (b τ A1) PV X)) X) : Ev (eIf c a b τ A) PV X := by
  have t := @ev_if_q
  simp only [← Ev_eq, ← ES_eq] at t
  exact t h
theorem ev_and {a b : EM} (h : Ev (a τ A) (fun v A1 => ∃ c, truA v A1 = some c ∧ (c = true → Ev (b τ A1) PV X) ∧ (c = false → PV v A1)) X) : Ev (eAnd a b τ A) PV X := by
  have t := @ev_and_q
  simp only [← Ev_eq, ← ES_eq] at t
  exact t h
theorem ev_or {a b : EM} (h : Ev (a τ A) (fun v A1 => ∃ c, truA v A1 = some c ∧ (c = true → PV v A1) ∧ (c = false → Ev (b τ A1) PV X)) X) : Ev (eOr a b τ A) PV X := by
  have t := @ev_or_q
  simp only [← Ev_eq, ← ES_eq] at t
  exact t h
theorem ev_not {a : EM} (h : Ev (a τ A) (fun v A1 => ∃ b, truA v A1 = some b ∧ PV (.bl (!b)) A1) X) : Ev (eNot a τ A) PV X := by
  have t := @ev_not_q
  simp only [← Ev_eq, ← ES_eq] at t
  exact t h
theorem ev_neg {a : EM} (h : Ev (a τ A) (fun v A1 => ∃ i, v = .int i ∧ PV (.int (-i)) A1) X) : Ev (eNeg a τ A) PV X := by
  have t := @ev_neg_q
  simp only [← Ev_eq, ← ES_eq] at t
  exact t h
theorem ev_chain {f g : B2} {a b c : EM} (h : Ev (a τ A) (fun x A1 => Ev (b τ A1) (fun y A2 => Ev (f x y A2) (fun z A3 => ∃ k, z = .bl k ∧ (k = true → Ev (c τ A3) (fun w A4 => Ev (g y w A4) PV X) X) ∧ (k = false → PV (.bl false) A3)) X) X) X) : Ev (eChain f g a b c τ A) PV X := by
  have t := @ev_chain_q
  simp only [← Ev_eq, ← ES_eq] at t
  exact t h
theorem ea_nil (h : PL [] A) : Ev (aNil τ A) PL X := by
  have t := @ea_nil_q
  simp only [← Ev_eq, ← ES_eq] at t
  exact t h
theorem ea_cons {a : EM} {r : AM} (h : Ev (a τ A) (fun x A1 => Ev (r τ A1) (fun xs A2 => PL (x :: xs) A2) X) X) : Ev (aCons a r τ A) PL X := by
  have t := @ea_cons_q
  simp only [← Ev_eq, ← ES_eq] at t
  exact t h
theorem ea_star {a : EM} {r : AM} (h : Ev (a τ A) (fun x A1 => ∃ ys, rdS x A1 = some ys ∧ Ev (r τ A1) (fun xs A2 => PL (ys ++ xs) A2) X) X) : Ev (aStar a r τ A) PL X := by
  have t := @ea_star_q
  simp only [← Ev_eq, ← ES_eq] at t
  exact t h
theorem ev_tup {a : AM} (h : Ev (a τ A) (fun xs A1 => Nat.ble xs.length big = true ∧ PV (.tup xs) A1) X) : Ev (eTup a τ A) PV X := by
  have t := @ev_tup_q
  simp only [← Ev_eq, ← ES_eq] at t
  exact t h
theorem ev_lstT {a : AM} (h : Ev (a τ A) (fun xs A1 => Nat.ble xs.length big = true ∧ PV (.lst xs) A1) X) : Ev (eLst true a τ A) PV X := by
  have t := @ev_lstT_q
  simp only [← Ev_eq, ← ES_eq] at t
  exact t h
theorem ev_lstF {a : AM} (h : Ev (a τ A) (fun xs A1 => Nat.ble xs.length big = true ∧ ∀ i A2, A1[i]? = none → A2[i]? = some (.lst xs) → Gr A1 A2 → PV (.ref i) A2) X) : Ev (eLst false a τ A) PV X := by
  have t := @ev_lstF_q
  simp only [← Ev_eq, ← ES_eq] at t
  exact t h
theorem ev_fn {np : Nat} {ix : List Nat} {m : FM} {a : AM} (h : Ev (a τ A) (fun vs A1 => vs.length = np ∧ Ev (m (pick ix (vs ++ [])) A1) PV X) X) : Ev (eFn np ix m a τ A) PV X := by
  have t := @ev_fn_q
  simp only [← Ev_eq, ← ES_eq] at t
  exact t h
theorem ev_mt {c mn np : Nat} {ix : List Nat} {m : FM} {o : EM} {a : AM} (h : Ev (o τ A) (fun v A1 => isIns c mn v A1 = true ∧ Ev (a τ A1) (fun vs A2 => vs.length + 1 = np ∧ Ev (m (pick ix (v :: vs ++ [])) A2) PV X) X) X) : Ev (eMt c mn np ix m o a τ A) PV X := by
  have t := @ev_mt_q
  simp only [← Ev_eq, ← ES_eq] at t
  exact t h
theorem ev_mtK {c mn np nk : Nat} {ix : List Nat} {m : FM} {o : EM} {a : AM} (hp : 1 = np) (h : Ev (o τ A) (fun v A1 => isIns c mn v A1 = true ∧ Ev (a τ A1) (fun vs A2 => vs.length = nk ∧ Ev (m (pick ix (v :: vs)) A2) PV X) X) X) : Ev (eMtK c mn np nk ix m o a τ A) PV X := by
  have t := @ev_mtK_q
  simp only [← Ev_eq, ← ES_eq] at t
  exact t hp h
theorem ev_fnM {n loc : Nat} {b : SM} {xs : List AV} (hl : xs.length = n) (h : ES (b (xs.map some ++ List.replicate loc none) A) (fun _ A => PV .non A) PV (fun c fs _ A => X c fs A)) : Ev (fnM n loc b xs A) PV X := by
  have t := @ev_fnM_q
  simp only [← Ev_eq, ← ES_eq] at t
  exact t hl h
theorem ev_call {m : CM} {a : AM} (h : Ev (a τ A) (fun vs A1 => Ev (m vs A1) PV X) X) : Ev (eCall m a τ A) PV X := by
  have t := @ev_call_q
  simp only [← Ev_eq, ← ES_eq] at t
  exact t h
theorem ev_attr {cs : List Nat} {f : Nat} {o : EM} (h : Ev (o τ A) (fun v A1 => ∃ i c fs w, v = .ref i ∧ A1[i]? = some (.ins c fs) ∧ cs.contains c = true ∧ lookF f fs = some w ∧ PV w A1) X) : Ev (eAttr cs f o τ A) PV X := by
  have t := @ev_attr_q
  simp only [← Ev_eq, ← ES_eq] at t
  exact t h
end
end Mw
-- P2
namespace Mw
section
variable {α β : Type} {X : Nat → List (Nat × AV) → AH → Prop} {N : AE → AH → Prop} {R : AV → AH → Prop} {τ : AE} {A : AH} {PV : AV → AH → Prop} {Y : Nat → List (Nat × AV) → AE → AH → Prop}
theorem es_for {i : IM} {g : GM} {b : SM} (bs : List β) (en : β → AV) (J : List β → List β → AE → AH → Prop)
    (hi : Ev (i τ A) (fun S A1 => S = ⟨bs.map en, always⟩ ∧ J [] bs τ A1) (fun c fs A1 => Y c fs τ A1))
    (hs : ∀ done x rest τ A, bs = done ++ x :: rest → J done (x :: rest) τ A → ∃ τ1 A1, g (en x) τ A = some (τ1, A1) ∧ ES (b τ1 A1) (fun τ2 A2 => J (done ++ [x]) rest τ2 A2) R Y)
    (he : ∀ τ A, J bs [] τ A → N τ A) : ES (sFor i g b τ A) N R Y := by
  have t := @es_for_q
  simp only [← Ev_eq, ← ES_eq] at t
  exact t bs en J hi hs he
theorem lc_go {ck : AH → Bool} {g : GM} {t : TM} {e : EM} {vs : List Nat} (bs : List β) (en : β → AV) (J : List β → List AV → AH → Prop) (hck : ∀ done acc A, J done acc A → ck A = true)
    (hb : bs.length ≤ big)
    (hs : ∀ done x acc A, J done acc A → (∃ rest, bs = done ++ x :: rest) → ∃ τ1 A1, g (en x) (wipeA τ vs) A = some (τ1, A1) ∧ Ev (t τ1 A1) (fun c A2 => (c = true → Ev (e τ1 A2) (fun v A3 => J (done ++ [x]) (acc ++ [v]) A3) NX) ∧ (c = false → J (done ++ [x]) acc A2)) NX) :
    ∀ (rest done : List β) (acc : List AV) (A : AH), bs = done ++ rest → acc.length ≤ done.length → J done acc A → ∃ out A', lcGo ck g t e vs (rest.map en) acc τ A = .ok out A' ∧ J bs out A' ∧ out.length ≤ bs.length := by
  have t := @lc_go_q
  simp only [← Ev_eq, ← ES_eq] at t
  exact t bs en J hck hb hs
theorem ev_lcJ {i : IM} {g : GM} {t : TM} {e : EM} {vs : List Nat} (bs : List β) (en : β → AV) (J : List β → List AV → AH → Prop)
    (hb : bs.length ≤ big) (hi : Ev (i τ A) (fun S A1 => S = ⟨bs.map en, always⟩ ∧ J [] [] A1) X)
    (hs : ∀ done x acc A, J done acc A → (∃ rest, bs = done ++ x :: rest) → ∃ τ1 A1, g (en x) (wipeA τ vs) A = some (τ1, A1) ∧ Ev (t τ1 A1) (fun c A2 => (c = true → Ev (e τ1 A2) (fun v A3 => J (done ++ [x]) (acc ++ [v]) A3) NX) ∧ (c = false → J (done ++ [x]) acc A2)) NX)
    (he : ∀ out A', out.length ≤ bs.length → J bs out A' → PV (.lst out) A') : Ev (eLc true i g t e vs τ A) PV X := by
  have t := @ev_lcJ_q
  simp only [← Ev_eq, ← ES_eq] at t
  exact t bs en J hb hi hs he
theorem ev_lcJK {i : IM} {g : GM} {t : TM} {e : EM} {vs : List Nat} (bs : List β) (en : β → AV) (ck : AH → Bool) (J : List β → List AV → AH → Prop) (hck : ∀ done acc A, J done acc A → ck A = true)
    (hb : bs.length ≤ big) (hi : Ev (i τ A) (fun S A1 => S = ⟨bs.map en, ck⟩ ∧ J [] [] A1) X)
    (hs : ∀ done x acc A, J done acc A → (∃ rest, bs = done ++ x :: rest) → ∃ τ1 A1, g (en x) (wipeA τ vs) A = some (τ1, A1) ∧ Ev (t τ1 A1) (fun c A2 => (c = true → Ev (e τ1 A2) (fun v A3 => J (done ++ [x]) (acc ++ [v]) A3) NX) ∧ (c = false → J (done ++ [x]) acc A2)) NX)
    (he : ∀ out A', out.length ≤ bs.length → J bs out A' → PV (.lst out) A') : Ev (eLc true i g t e vs τ A) PV X := by
  have t := @ev_lcJK_q
  simp only [← Ev_eq, ← ES_eq] at t
  exact t bs en ck J hck hb hi hs he
theorem ev_lc {i : IM} {g : GM} {t : TM} {e : EM} {vs : List Nat} (bs : List β) (en : β → AV) (F : β → Option AV)
    (hb : bs.length ≤ big) (hi : Ev (i τ A) (fun S A1 => S = ⟨bs.map en, always⟩ ∧ Gr A A1) X)
    (hs : ∀ x ∈ bs, ∀ A1, Gr A A1 → ∃ τ1, g (en x) (wipeA τ vs) A1 = some (τ1, A1) ∧ Ev (t τ1 A1) (fun c A2 => Gr A1 A2 ∧ (c = true → Ev (e τ1 A2) (fun v A3 => Gr A2 A3 ∧ F x = some v) NX) ∧ (c = false → F x = none)) NX)
    (he : ∀ A', Gr A A' → PV (.lst (bs.filterMap F)) A') : Ev (eLc true i g t e vs τ A) PV X := by
  have t := @ev_lc_q
  simp only [← Ev_eq, ← ES_eq] at t
  exact t bs en F hb hi hs he
theorem dc_go {ck : AH → Bool} {g : GM} {t : TM} {ke e : EM} {vs : List Nat} (bs : List β) (en : β → AV) (F : β → Option (AK × AV)) (hck : ck = always) (hb : bs.length ≤ big) {A0 : AH}
    (hs : ∀ x ∈ bs, ∀ A1, Gr A0 A1 → ∃ τ1, g (en x) (wipeA τ vs) A1 = some (τ1, A1) ∧ Ev (t τ1 A1) (fun c A2 => Gr A1 A2 ∧ (c = true → Ev (ke τ1 A2) (fun kv A3 => ∃ k, keyOf kv = some k ∧ Ev (e τ1 A3) (fun v A4 => Gr A2 A4 ∧ F x = some (k, v)) NX) NX) ∧ (c = false → F x = none)) NX) :
    ∀ (rest done : List β) (acc : List (AK × AV)) (A : AH), bs = done ++ rest → acc.length ≤ done.length → Gr A0 A → acc = mergeKA [] (done.filterMap F) → ∃ out A', dcGo ck g t ke e vs (rest.map en) acc τ A = .ok out A' ∧ out = mergeKA [] (bs.filterMap F) ∧ Gr A0 A' := by
  have t := @dc_go_q
  simp only [← Ev_eq, ← ES_eq] at t
  exact t bs en F hck hb hs
theorem ev_dc {i : IM} {g : GM} {t : TM} {ke e : EM} {vs : List Nat} (bs : List β) (en : β → AV) (F : β → Option (AK × AV)) (hb : bs.length ≤ big)
    (hi : Ev (i τ A) (fun S A1 => S = ⟨bs.map en, always⟩ ∧ Gr A A1) X)
    (hs : ∀ x ∈ bs, ∀ A1, Gr A A1 → ∃ τ1, g (en x) (wipeA τ vs) A1 = some (τ1, A1) ∧ Ev (t τ1 A1) (fun c A2 => Gr A1 A2 ∧ (c = true → Ev (ke τ1 A2) (fun kv A3 => ∃ k, keyOf kv = some k ∧ Ev (e τ1 A3) (fun v A4 => Gr A2 A4 ∧ F x = some (k, v)) NX) NX) ∧ (c = false → F x = none)) NX)
    (he : ∀ A', Gr A A' → PV (.dct (mergeKA [] (bs.filterMap F))) A') : Ev (eFrz (eDc i g t ke e vs) τ A) PV X := by
  have t := @ev_dc_q
  simp only [← Ev_eq, ← ES_eq] at t
  exact t bs en F hb hi hs he
theorem ev_frzL {m : EM} (h : Ev (m τ A) (fun v A1 => ∃ i xs, v = .ref i ∧ A1[i]? = some (.lst xs) ∧ PV (.lst xs) (A1.set i .gone)) X) : Ev (eFrz m τ A) PV X := by
  have t := @ev_frzL_q
  simp only [← Ev_eq, ← ES_eq] at t
  exact t h
theorem ev_frzD {m : EM} (h : Ev (m τ A) (fun v A1 => ∃ i xs, v = .ref i ∧ A1[i]? = some (.dct xs) ∧ PV (.dct xs) (A1.set i .gone)) X) : Ev (eFrz m τ A) PV X := by
  have t := @ev_frzD_q
  simp only [← Ev_eq, ← ES_eq] at t
  exact t h
end
end Mw
-- P3
namespace Mw
section
variable {α : Type} {X : Nat → List (Nat × AV) → AH → Prop} {N : AE → AH → Prop} {R : AV → AH → Prop} {τ : AE} {A A' : AH} {PV : AV → AH → Prop} {P : α → AH → Prop}
theorem ev_eq {o : Out α} {v : α} (e : o = .ok v A') (h : P v A') : Ev o P X := by
  have t := @ev_eq_q
  simp only [← Ev_eq, ← ES_eq] at t
  exact t e h
theorem o_mul {fz : Bool} {i j : Int} (c : CMulB i j = true) (h : PV (.int (i * j)) A) : Ev (mulA fz (.int i) (.int j) A) PV X := by
  have t := @o_mul_q
  simp only [← Ev_eq, ← ES_eq] at t
  exact t c h
theorem o_pow {i j : Int} (c : CPowB i j = true) (h : PV (.int (i ^ j.toNat)) A) : Ev (powI (.int i) (.int j) A) PV X := by
  have t := @o_pow_q
  simp only [← Ev_eq, ← ES_eq] at t
  exact t c h
theorem o_mod {i j : Int} (c : 0 < j) (h : PV (.int (i % j)) A) : Ev (modI (.int i) (.int j) A) PV X := by
  have t := @o_mod_q
  simp only [← Ev_eq, ← ES_eq] at t
  exact t c h
theorem o_fdiv {i j : Int} (c : 0 < j) (d : j < 1073741824) (h : PV (.int (i / j)) A) : Ev (fdivI (.int i) (.int j) A) PV X := by
  have t := @o_fdiv_q
  simp only [← Ev_eq, ← ES_eq] at t
  exact t c d h
theorem o_add {fz : Bool} {i j : Int} (h : PV (.int (i + j)) A) : Ev (addA fz (.int i) (.int j) A) PV X := by
  have t := @o_add_q
  simp only [← Ev_eq, ← ES_eq] at t
  exact t h
theorem o_sub {i j : Int} (h : PV (.int (i - j)) A) : Ev (subI (.int i) (.int j) A) PV X := by
  have t := @o_sub_q
  simp only [← Ev_eq, ← ES_eq] at t
  exact t h
theorem o_lt {i j : Int} (h : PV (.bl (decide (i < j))) A) : Ev (ltI (.int i) (.int j) A) PV X := by
  have t := @o_lt_q
  simp only [← Ev_eq, ← ES_eq] at t
  exact t h
theorem o_le {i j : Int} (h : PV (.bl (decide (i ≤ j))) A) : Ev (leI (.int i) (.int j) A) PV X := by
  have t := @o_le_q
  simp only [← Ev_eq, ← ES_eq] at t
  exact t h
theorem o_gt {i j : Int} (h : PV (.bl (decide (j < i))) A) : Ev (gtI (.int i) (.int j) A) PV X := by
  have t := @o_gt_q
  simp only [← Ev_eq, ← ES_eq] at t
  exact t h
theorem o_ge {i j : Int} (h : PV (.bl (decide (j ≤ i))) A) : Ev (geI (.int i) (.int j) A) PV X := by
  have t := @o_ge_q
  simp only [← Ev_eq, ← ES_eq] at t
  exact t h
theorem o_eqI {i j : Int} (h : PV (.bl (decide (i = j))) A) : Ev (eqA (.int i) (.int j) A) PV X := by
  have t := @o_eqI_q
  simp only [← Ev_eq, ← ES_eq] at t
  exact t h
theorem o_eqS {i j : List Nat} (h : PV (.bl (decide (i = j))) A) : Ev (eqA (.str i) (.str j) A) PV X := by
  have t := @o_eqS_q
  simp only [← Ev_eq, ← ES_eq] at t
  exact t h
theorem o_ixL {x v : AV} {xs : List AV} {i : Int} (e : rdS x A = some xs) (g : L2.atI xs i = some v) (h : PV v A) : Ev (fIx x (.int i) A) PV X := by
  have t := @o_ixL_q
  simp only [← Ev_eq, ← ES_eq] at t
  exact t e g h
theorem o_ixD {x y v : AV} {kvs : List (AK × AV)} {k : AK} (e1 : rdS x A = none) (e : dOf x A = some kvs) (ey : keyOf y = some k) (g : lookK k kvs = some v) (h : PV v A) : Ev (fIx x y A) PV X := by
  have t := @o_ixD_q
  simp only [← Ev_eq, ← ES_eq] at t
  exact t e1 e ey g h
theorem k_abs {i : Int} (h : PV (.int (if i < 0 then -i else i)) A) : Ev (cAbs [.int i] A) PV X := by
  have t := @k_abs_q
  simp only [← Ev_eq, ← ES_eq] at t
  exact t h
theorem k_int {i : Int} (h : PV (.int i) A) : Ev (cInt [.int i] A) PV X := by
  have t := @k_int_q
  simp only [← Ev_eq, ← ES_eq] at t
  exact t h
theorem k_intB {b : Bool} (h : PV (.int (if b then 1 else 0)) A) : Ev (cInt [.bl b] A) PV X := by
  have t := @k_intB_q
  simp only [← Ev_eq, ← ES_eq] at t
  exact t h
theorem k_max2 {i j : Int} (h : PV (.int (if j > i then j else i)) A) : Ev (cMax2 [.int i, .int j] A) PV X := by
  have t := @k_max2_q
  simp only [← Ev_eq, ← ES_eq] at t
  exact t h
theorem k_min2 {i j : Int} (h : PV (.int (if j < i then j else i)) A) : Ev (cMin2 [.int i, .int j] A) PV X := by
  have t := @k_min2_q
  simp only [← Ev_eq, ← ES_eq] at t
  exact t h
theorem k_lenS {v : AV} {xs : List AV} (e : rdS v A = some xs) (h : PV (.int xs.length) A) : Ev (cLen [v] A) PV X := by
  have t := @k_lenS_q
  simp only [← Ev_eq, ← ES_eq] at t
  exact t e h
theorem k_lenD {kvs : List (AK × AV)} (h : PV (.int kvs.length) A) : Ev (cLen [.dct kvs] A) PV X := by
  have t := @k_lenD_q
  simp only [← Ev_eq, ← ES_eq] at t
  exact t h
theorem k_lenT {z : List Nat} (hz : Nat.ble z.length big = true) (h : PV (.int z.length) A) : Ev (cLen [.str z] A) PV X := by
  have t := @k_lenT_q
  simp only [← Ev_eq, ← ES_eq] at t
  exact t hz h
end
end Mw
-- P4
namespace Mw
section
variable {α β : Type} {X : Nat → List (Nat × AV) → AH → Prop} {N : AE → AH → Prop} {R : AV → AH → Prop} {τ : AE} {A A' : AH} {PV : AV → AH → Prop} {P : α → AH → Prop} {PS : Src → AH → Prop} {PO : Option Int → AH → Prop} {PL : List AV → AH → Prop} {PB : Bool → AH → Prop}
theorem i_any {m : EM} (h : Ev (m τ A) (fun v A1 => ∃ xs, srcX v = some xs ∧ PS ⟨xs, always⟩ A1) X) : Ev (iAny m τ A) PS X := by
  have t := @i_any_q
  simp only [← Ev_eq, ← ES_eq] at t
  exact t h
theorem i_itm {m : EM} (h : Ev (m τ A) (fun v A1 => ∃ kvs, v = .dct kvs ∧ PS ⟨kvs.map fun kv => .tup [kA kv.1, kv.2], always⟩ A1) X) : Ev (iItm m τ A) PS X := by
  have t := @i_itm_q
  simp only [← Ev_eq, ← ES_eq] at t
  exact t h
theorem i_rg1 {m : AM} (h : Ev (m τ A) (fun vs A1 => ∃ j, vs = [.int j] ∧ fitI j = true ∧ PS ⟨intsFrom 0 j.toNat, always⟩ A1) X) : Ev (iRg1 m τ A) PS X := by
  have t := @i_rg1_q
  simp only [← Ev_eq, ← ES_eq] at t
  exact t h
theorem i_zpR {m : AM} {i : Nat} {xs ys : List AV} (h : Ev (m τ A) (fun vs A1 => vs = [.ref i, .lst ys] ∧ A1[i]? = some (.lst xs) ∧ PS ⟨pairs xs ys, ckOf i xs⟩ A1) X) : Ev (iZp m τ A) PS X := by
  have t := @i_zpR_q
  simp only [← Ev_eq, ← ES_eq] at t
  exact t h
theorem ev_sl {fz : Bool} {a : EM} {lo hi : OM} (h : Ev (a τ A) (fun v A1 => Ev (lo τ A1) (fun l A2 => Ev (hi τ A2) (fun u A3 => Ev (fSl fz v l u A3) PV X) X) X) X) : Ev (eSl fz a lo hi τ A) PV X := by
  have t := @ev_sl_q
  simp only [← Ev_eq, ← ES_eq] at t
  exact t h
theorem ev_oN (h : PO none A) : Ev (oNone τ A) PO X := by
  have t := @ev_oN_q
  simp only [← Ev_eq, ← ES_eq] at t
  exact t h
theorem ev_oS {m : EM} (h : Ev (m τ A) (fun v A1 => ∃ i, v = .int i ∧ PO (some i) A1) X) : Ev (oSome m τ A) PO X := by
  have t := @ev_oS_q
  simp only [← Ev_eq, ← ES_eq] at t
  exact t h
theorem k_slL {xs : List AV} {l u : Option Int} (h : PV (.lst (cutL xs l u)) A) : Ev (fSl true (.lst xs) l u A) PV X := by
  have t := @k_slL_q
  simp only [← Ev_eq, ← ES_eq] at t
  exact t h
theorem k_slR {xs : List AV} {l u : Option Int} (h : PV (.lst (cutL xs l u)) A) : Ev (fSl true (.rol xs) l u A) PV X := by
  have t := @k_slR_q
  simp only [← Ev_eq, ← ES_eq] at t
  exact t h
theorem k_slT {xs : List AV} {l u : Option Int} (h : PV (.tup (cutL xs l u)) A) : Ev (fSl true (.tup xs) l u A) PV X := by
  have t := @k_slT_q
  simp only [← Ev_eq, ← ES_eq] at t
  exact t h
theorem k_slS {z : List Nat} {l u : Option Int} (hz : Nat.ble z.length big = true) (h : PV (.str (cutL z l u)) A) : Ev (fSl true (.str z) l u A) PV X := by
  have t := @k_slS_q
  simp only [← Ev_eq, ← ES_eq] at t
  exact t hz h
theorem k_sum {v : AV} {ns : List Int} (e : rdL v A = some (ns.map AV.int)) (h : PV (.int (sumI ns)) A) : Ev (cSum [v] A) PV X := by
  have t := @k_sum_q
  simp only [← Ev_eq, ← ES_eq] at t
  exact t e h
theorem k_bls {f : List Bool → Bool} {v : AV} {ns : List Bool} (e : rdL v A = some (ns.map AV.bl)) (h : PV (.bl (f ns)) A) : Ev (cBls f [v] A) PV X := by
  have t := @k_bls_q
  simp only [← Ev_eq, ← ES_eq] at t
  exact t e h
theorem k_best {f : Int → List Int → Int} {v : AV} {n : Int} {ns : List Int} (e : rdL v A = some ((n :: ns).map AV.int)) (h : PV (.int (f n ns)) A) : Ev (cBest f [v] A) PV X := by
  have t := @k_best_q
  simp only [← Ev_eq, ← ES_eq] at t
  exact t e h
theorem k_minI {v : AV} {n : Int} {ns : List Int} (e : rdL v A = some ((n :: ns).map AV.int)) (h : PV (.int (minI n ns)) A) : Ev (minA [v] A) PV X := by
  have t := @k_minI_q
  simp only [← Ev_eq, ← ES_eq] at t
  exact t e h
theorem k_tupL {xs : List AV} (h : PV (.tup xs) A) : Ev (cTuple [.lst xs] A) PV X := by
  have t := @k_tupL_q
  simp only [← Ev_eq, ← ES_eq] at t
  exact t h
theorem k_tupT {xs : List AV} (h : PV (.tup xs) A) : Ev (cTuple [.tup xs] A) PV X := by
  have t := @k_tupT_q
  simp only [← Ev_eq, ← ES_eq] at t
  exact t h
theorem k_listD {kvs : List (AK × AV)} (h : PV (.lst (kvs.map fun kv => kA kv.1)) A) : Ev (cList true [.dct kvs] A) PV X := by
  have t := @k_listD_q
  simp only [← Ev_eq, ← ES_eq] at t
  exact t h
theorem k_listL {xs : List AV} (h : PV (.lst xs) A) : Ev (cList true [.lst xs] A) PV X := by
  have t := @k_listL_q
  simp only [← Ev_eq, ← ES_eq] at t
  exact t h
theorem k_listT {xs : List AV} (h : PV (.lst xs) A) : Ev (cList true [.tup xs] A) PV X := by
  have t := @k_listT_q
  simp only [← Ev_eq, ← ES_eq] at t
  exact t h
theorem k_sorted {v : AV} {ys : List AV} (e : rdL v A = some ys) (c : sortOk ys = true) (h : PV (.lst (ys.mergeSort leAV)) A) : Ev (cSorted true [v] A) PV X := by
  have t := @k_sorted_q
  simp only [← Ev_eq, ← ES_eq] at t
  exact t e c h
theorem ev_sortK {g : KM} {m : EM} (h : Ev (m τ A) (fun v A1 => ∃ ys, rdL v A1 = some ys ∧ keysOk g τ A1 ys = true ∧ PV (.lst (ys.mergeSort (PySem.W.dataLe false (keyOfx g τ A1)))) A1) X) : Ev (eSortK true g m τ A) PV X := by
  have t := @ev_sortK_q
  simp only [← Ev_eq, ← ES_eq] at t
  exact t h
theorem o_catL {xs ys : List AV} (c : Nat.ble (xs.length + ys.length) big = true) (h : PV (.lst (xs ++ ys)) A) : Ev (addA true (.lst xs) (.lst ys) A) PV X := by
  have t := @o_catL_q
  simp only [← Ev_eq, ← ES_eq] at t
  exact t c h
theorem o_rep {xs : List AV} {k : Int} (c : (decide (-(2 ^ 63) ≤ k ∧ k < 2 ^ 63) && Nat.ble (xs.length * k.toNat) big) = true) (h : PV (.lst (List.replicate k.toNat xs).flatten) A) : Ev (mulA true (.lst xs) (.int k) A) PV X := by
  have t := @o_rep_q
  simp only [← Ev_eq, ← ES_eq] at t
  exact t c h
theorem o_isN {v : AV} (h : PV (.bl (match v with | .non => true | _ => false)) A) : Ev (isA v .non A) PV X := by
  have t := @o_isN_q
  simp only [← Ev_eq, ← ES_eq] at t
  exact t h
theorem o_isnN {v : AV} (h : PV (.bl (match v with | .non => false | _ => true)) A) : Ev (isnA v .non A) PV X := by
  have t := @o_isnN_q
  simp only [← Ev_eq, ← ES_eq] at t
  exact t h
theorem o_isB {a b : Bool} (h : PV (.bl (a == b)) A) : Ev (isA (.bl a) (.bl b) A) PV X := by
  have t := @o_isB_q
  simp only [← Ev_eq, ← ES_eq] at t
  exact t h
theorem o_isnB {a b : Bool} (h : PV (.bl (!(a == b))) A) : Ev (isnA (.bl a) (.bl b) A) PV X := by
  have t := @o_isnB_q
  simp only [← Ev_eq, ← ES_eq] at t
  exact t h
theorem o_inD {x : List Nat} {kvs : List (AK × AV)} (h : PV (.bl (lookK (.inr x) kvs).isSome) A) : Ev (inA (.str x) (.dct kvs) A) PV X := by
  have t := @o_inD_q
  simp only [← Ev_eq, ← ES_eq] at t
  exact t h
theorem o_niD {x : List Nat} {kvs : List (AK × AV)} (h : PV (.bl (!(lookK (.inr x) kvs).isSome)) A) : Ev (niA (.str x) (.dct kvs) A) PV X := by
  have t := @o_niD_q
  simp only [← Ev_eq, ← ES_eq] at t
  exact t h
theorem o_inL {v : AV} {x : List Nat} {l : List (List Nat)} (e : rdS v A = some (l.map AV.str)) (h : PV (.bl (decide (x ∈ l))) A) : Ev (inA (.str x) v A) PV X := by
  have t := @o_inL_q
  simp only [← Ev_eq, ← ES_eq] at t
  exact t e h
theorem o_niL {v : AV} {x : List Nat} {l : List (List Nat)} (e : rdS v A = some (l.map AV.str)) (h : PV (.bl (!decide (x ∈ l))) A) : Ev (niA (.str x) v A) PV X := by
  have t := @o_niL_q
  simp only [← Ev_eq, ← ES_eq] at t
  exact t e h
theorem o_neS {i j : List Nat} (h : PV (.bl (!decide (i = j))) A) : Ev (neA (.str i) (.str j) A) PV X := by
  have t := @o_neS_q
  simp only [← Ev_eq, ← ES_eq] at t
  exact t h
end
end Mw
-- P5
namespace Mw
section
variable {α β : Type} {X : Nat → List (Nat × AV) → AH → Prop} {N : AE → AH → Prop} {R : AV → AH → Prop} {Y : Nat → List (Nat × AV) → AE → AH → Prop} {τ : AE} {A A' : AH} {PV : AV → AH → Prop} {P : α → AH → Prop} {PS : Src → AH → Prop} {PL : List AV → AH → Prop} {PB : Bool → AH → Prop}
theorem ev_isi {ts : List Nat} {m : EM} (h : Ev (m τ A) (fun v A1 => ∃ k, kindOf v A1 = some k ∧ PV (.bl (anyTy k ts)) A1) X) : Ev (eIsi ts m τ A) PV X := by
  have t := @ev_isi_q
  simp only [← Ev_eq, ← ES_eq] at t
  exact t h
theorem ev_mk {c : Nat} {m : FM} {a : AM} (h : Ev (a τ A) (fun vs A1 => Ev (m (.ref A1.length :: vs) (A1 ++ [.ins c []])) (fun v A2 => v = .non ∧ PV (.ref A1.length) A2) NX) X) : Ev (eMk c m a τ A) PV X := by
  have t := @ev_mk_q
  simp only [← Ev_eq, ← ES_eq] at t
  exact t h
theorem es_try {fz : Bool} {b : SM} {cs : List Nat} {cl : List ClM} (h : ES (b τ A) N R (fun c fs τ1 A1 => ES (trM fz cs cl c fs τ1 A1) N R Y)) : ES (sTryR fz b cs cl τ A) N R Y := by
  have t := @es_try_q
  simp only [← Ev_eq, ← ES_eq] at t
  exact t h
theorem ev_dnew (h : ∀ A', Gr A A' → PV (.dct []) A') : Ev (eFrz eDNew τ A) PV X := by
  have t := @ev_dnew_q
  simp only [← Ev_eq, ← ES_eq] at t
  exact t h
theorem ev_dstar {d k v : EM} (h : Ev (d τ A) (fun x A1 => ∃ kvs, dOf x A1 = some kvs ∧ Nat.blt kvs.length big = true ∧ Ev (k τ A1) (fun y A2 => ∃ key, keyOf y = some key ∧ Ev (v τ A2) (fun z A3 => ∀ A', Gr A3 A' → PV (.dct (putKA kvs key z)) A') NX) NX) NX) : Ev (eFrz (eDStar d k v) τ A) PV X := by
  have t := @ev_dstar_q
  simp only [← Ev_eq, ← ES_eq] at t
  exact t h
theorem ev_dictP {a : AM} (h : Ev (a τ A) (fun vs A1 => ∃ v ys kvs, vs = [v] ∧ dOf v A1 = none ∧ rdL v A1 = some ys ∧ pairsOf ys = some kvs ∧ ∀ A', Gr A1 A' → PV (.dct (mergeKA [] kvs)) A') X) : Ev (eFrz (eCall cDict a) τ A) PV X := by
  have t := @ev_dictP_q
  simp only [← Ev_eq, ← ES_eq] at t
  exact t h
theorem ev_dictPF {a : AM} (h : Ev (a τ A) (fun vs A1 => ∃ v ys kvs, vs = [v] ∧ dOf v A1 = none ∧ rdL v A1 = some ys ∧ pairsOf ys = some kvs ∧ ∀ i A', A1[i]? = none → A'[i]? = some (.dct (mergeKA [] kvs)) → Gr A1 A' → PV (.ref i) A') X) : Ev (eCall cDict a τ A) PV X := by
  have t := @ev_dictPF_q
  simp only [← Ev_eq, ← ES_eq] at t
  exact t h
theorem ev_lit {m : EM} (h : Ev (m τ A) (fun v A1 => ∃ kvs, dOf v A1 = some kvs ∧ PV (.lst (kvs.map fun kv => .tup [kA kv.1, kv.2])) A1) X) : Ev (eLit m τ A) PV X := by
  have t := @ev_lit_q
  simp only [← Ev_eq, ← ES_eq] at t
  exact t h
theorem ev_lenO {c mn : Nat} {m : FM} {a : EM} (h : Ev (a τ A) (fun v A1 => ∃ i fs, v = .ref i ∧ A1[i]? = some (.ins c fs) ∧ Ev (m [.ref i] A1) (fun w A2 => ∃ n : Int, w = .int n ∧ 0 ≤ n ∧ n < 9223372036854775808 ∧ PV (.int n) A2) NX) X) : Ev (eLenO c mn m a τ A) PV X := by
  have t := @ev_lenO_q
  simp only [← Ev_eq, ← ES_eq] at t
  exact t h
theorem ev_app {o : EM} {a : AM} (h : Ev (o τ A) (fun v A1 => ∃ i ys, v = .ref i ∧ A1[i]? = some (.lst ys) ∧ Ev (a τ A1) (fun vs A2 => ∃ y zs, vs = [y] ∧ A2[i]? = some (.lst zs) ∧ Nat.blt zs.length big = true ∧ PV .non (A2.set i (.lst (zs ++ [y])))) X) X) : Ev (eMl mAppend o a τ A) PV X := by
  have t := @ev_app_q
  simp only [← Ev_eq, ← ES_eq] at t
  exact t h
theorem ev_ext {o : EM} {a : AM} (h : Ev (o τ A) (fun v A1 => ∃ i ys, v = .ref i ∧ A1[i]? = some (.lst ys) ∧ Ev (a τ A1) (fun vs A2 => ∃ y ws zs, vs = [y] ∧ dirL y A2 = some ws ∧ A2[i]? = some (.lst zs) ∧ Nat.ble (zs.length + ws.length) big = true ∧ PV .non (A2.set i (.lst (zs ++ ws)))) X) X) : Ev (eMl mExtend o a τ A) PV X := by
  have t := @ev_ext_q
  simp only [← Ev_eq, ← ES_eq] at t
  exact t h
end
end Mw
-- P7
namespace Mw
section
variable {β : Type} {f : β → AV} {k : TK} {v : β} {l : List (TK × β)}
end
end Mw
-- P8
namespace Mw
open PySem
section
variable {β : Type} {X : Nat → List (Nat × AV) → AH → Prop} {A : AH} {P : AV → AH → Prop} {g : β → AV} {f : β → PyData} {xs ys : List β}
theorem o_neL [DecidableEq β] (e : ∀ x y : β, PyData.eqv (f x) (f y) = decide (x = y)) (h1 : ∀ x ∈ xs, toD A 59 (g x) = some (f x)) (h2 : ∀ x ∈ ys, toD A 59 (g x) = some (f x)) (h : P (.bl (!decide (xs = ys))) A) : Ev (neA (.lst (xs.map g)) (.lst (ys.map g)) A) P X := by
  have t := @o_neL_q
  simp only [← Ev_eq, ← ES_eq] at t
  exact t e h1 h2 h
theorem o_eqL [DecidableEq β] (e : ∀ x y : β, PyData.eqv (f x) (f y) = decide (x = y)) (h1 : ∀ x ∈ xs, toD A 59 (g x) = some (f x)) (h2 : ∀ x ∈ ys, toD A 59 (g x) = some (f x)) (h : P (.bl (decide (xs = ys))) A) : Ev (eqA (.lst (xs.map g)) (.lst (ys.map g)) A) P X := by
  have t := @o_eqL_q
  simp only [← Ev_eq, ← ES_eq] at t
  exact t e h1 h2 h
end
end Mw
-- P9
namespace Mw
open PySem
section
variable {β γ : Type} {X : Nat → List (Nat × AV) → AH → Prop} {A : AH} {P : AV → AH → Prop}
theorem k_srt {v : AV} {l : List TK} (e : rdL v A = some (l.map .str)) (hl : l.length ≤ 10000) (h : P (.lst ((srt l).map .str)) A) : Ev (cSorted true [v] A) P X := by
  have t := @k_srt_q
  simp only [← Ev_eq, ← ES_eq] at t
  exact t e hl h
theorem k_srtP {v : AV} {l : List (Int × TK)} (e : rdL v A = some (l.map aIS)) (hl : l.length ≤ 10000) (h : P (.lst ((srtP l).map aIS)) A) : Ev (cSorted true [v] A) P X := by
  have t := @k_srtP_q
  simp only [← Ev_eq, ← ES_eq] at t
  exact t e hl h
theorem k_minP {v : AV} {x : Int × TK} {l : List (Int × TK)} (e : rdL v A = some ((x :: l).map aIS)) (h : P (aIS (bestP x l)) A) : Ev (minA [v] A) P X := by
  have t := @k_minP_q
  simp only [← Ev_eq, ← ES_eq] at t
  exact t e h
end
end Mw
-- P10
namespace Mw
section
variable {X : Nat → List (Nat × AV) → AH → Prop} {A : AH} {PV : AV → AH → Prop}
theorem ev_tYes {PB : Bool → AH → Prop} {τ : AE} (h : PB true A) : Ev (tYes' τ A) PB X := by
  have t := @ev_tYes_q
  simp only [← Ev_eq, ← ES_eq] at t
  exact t h
theorem isN_non (h : PV (.bl true) A) : Ev (isA .non .non A) PV X := by
  have t := @isN_non_q
  simp only [← Ev_eq, ← ES_eq] at t
  exact t h
theorem isN_bl {b : Bool} (h : PV (.bl false) A) : Ev (isA (.bl b) .non A) PV X := by
  have t := @isN_bl_q
  simp only [← Ev_eq, ← ES_eq] at t
  exact t h
theorem isN_int {b : Int} (h : PV (.bl false) A) : Ev (isA (.int b) .non A) PV X := by
  have t := @isN_int_q
  simp only [← Ev_eq, ← ES_eq] at t
  exact t h
theorem isN_str {b : List Nat} (h : PV (.bl false) A) : Ev (isA (.str b) .non A) PV X := by
  have t := @isN_str_q
  simp only [← Ev_eq, ← ES_eq] at t
  exact t h
theorem isN_tup {b : List AV} (h : PV (.bl false) A) : Ev (isA (.tup b) .non A) PV X := by
  have t := @isN_tup_q
  simp only [← Ev_eq, ← ES_eq] at t
  exact t h
theorem isN_lst {b : List AV} (h : PV (.bl false) A) : Ev (isA (.lst b) .non A) PV X := by
  have t := @isN_lst_q
  simp only [← Ev_eq, ← ES_eq] at t
  exact t h
theorem isN_dct {b : List (AK × AV)} (h : PV (.bl false) A) : Ev (isA (.dct b) .non A) PV X := by
  have t := @isN_dct_q
  simp only [← Ev_eq, ← ES_eq] at t
  exact t h
theorem isN_ref {b : Nat} (h : PV (.bl false) A) : Ev (isA (.ref b) .non A) PV X := by
  have t := @isN_ref_q
  simp only [← Ev_eq, ← ES_eq] at t
  exact t h
theorem isn_non (h : PV (.bl false) A) : Ev (isnA .non .non A) PV X := by
  have t := @isn_non_q
  simp only [← Ev_eq, ← ES_eq] at t
  exact t h
theorem isn_bl {b : Bool} (h : PV (.bl true) A) : Ev (isnA (.bl b) .non A) PV X := by
  have t := @isn_bl_q
  simp only [← Ev_eq, ← ES_eq] at t
  exact t h
theorem isn_int {b : Int} (h : PV (.bl true) A) : Ev (isnA (.int b) .non A) PV X := by
  have t := @isn_int_q
  simp only [← Ev_eq, ← ES_eq] at t
  exact t h
theorem isn_str {b : List Nat} (h : PV (.bl true) A) : Ev (isnA (.str b) .non A) PV X := by
  have t := @isn_str_q
  simp only [← Ev_eq, ← ES_eq] at t
  exact t h
theorem isn_tup {b : List AV} (h : PV (.bl true) A) : Ev (isnA (.tup b) .non A) PV X := by
  have t := @isn_tup_q
  simp only [← Ev_eq, ← ES_eq] at t
  exact t h
theorem isn_lst {b : List AV} (h : PV (.bl true) A) : Ev (isnA (.lst b) .non A) PV X := by
  have t := @isn_lst_q
  simp only [← Ev_eq, ← ES_eq] at t
  exact t h
theorem isn_dct {b : List (AK × AV)} (h : PV (.bl true) A) : Ev (isnA (.dct b) .non A) PV X := by
  have t := @isn_dct_q
  simp only [← Ev_eq, ← ES_eq] at t
  exact t h
theorem isn_ref {b : Nat} (h : PV (.bl true) A) : Ev (isnA (.ref b) .non A) PV X := by
  have t := @isn_ref_q
  simp only [← Ev_eq, ← ES_eq] at t
  exact t h
end
section
variable {α β : Type} {X : Nat → List (Nat × AV) → AH → Prop} {τ : AE} {A A' : AH} {PV : AV → AH → Prop}
theorem ev_lcM {i : IM} {g : GM} {e : EM} {vs : List Nat} (bs : List β) (en : β → AV) (F : β → AV)
    (hb : bs.length ≤ 10000) (hi : Ev (i τ A) (fun S A1 => S = ⟨bs.map en, always⟩ ∧ Gr A A1) X)
    (hs : ∀ x ∈ bs, ∀ A1, Gr A A1 → ∃ τ1, g (en x) (wipeA τ vs) A1 = some (τ1, A1) ∧ Ev (e τ1 A1) (fun v A3 => Gr A1 A3 ∧ v = F x) NX)
    (he : ∀ A', Gr A A' → PV (.lst (bs.map F)) A') : Ev (eLc true i g tYes' e vs τ A) PV X := by
  have t := @ev_lcM_q
  simp only [← Ev_eq, ← ES_eq] at t
  exact t bs en F hb hi hs he
theorem ev_lcP {i : IM} {g : GM} {t : TM} {e : EM} {vs : List Nat} (bs : List β) (en : β → AV) (p : β → Bool) (F : β → AV)
    (hb : bs.length ≤ 10000) (hi : Ev (i τ A) (fun S A1 => S = ⟨bs.map en, always⟩ ∧ Gr A A1) X)
    (hs : ∀ x ∈ bs, ∀ A1, Gr A A1 → ∃ τ1, g (en x) (wipeA τ vs) A1 = some (τ1, A1) ∧ Ev (t τ1 A1) (fun c A2 => Gr A1 A2 ∧ c = p x ∧ (p x = true → Ev (e τ1 A2) (fun v A3 => Gr A2 A3 ∧ v = F x) NX)) NX)
    (he : ∀ A', Gr A A' → PV (.lst ((bs.filter p).map F)) A') : Ev (eLc true i g t e vs τ A) PV X := by
  have t := @ev_lcP_q
  simp only [← Ev_eq, ← ES_eq] at t
  exact t bs en p F hb hi hs he
theorem o_addI {i j : Int} (h : PV (.int (i + j)) A) : Ev (addI (.int i) (.int j) A) PV X := by
  have t := @o_addI_q
  simp only [← Ev_eq, ← ES_eq] at t
  exact t h
theorem o_eqB {a b : Bool} (h : PV (.bl (a == b)) A) : Ev (eqA (.bl a) (.bl b) A) PV X := by
  have t := @o_eqB_q
  simp only [← Ev_eq, ← ES_eq] at t
  exact t h
theorem o_neB {a b : Bool} (h : PV (.bl (!(a == b))) A) : Ev (neA (.bl a) (.bl b) A) PV X := by
  have t := @o_neB_q
  simp only [← Ev_eq, ← ES_eq] at t
  exact t h
theorem o_neI {a b : Int} (h : PV (.bl (!decide (a = b))) A) : Ev (neA (.int a) (.int b) A) PV X := by
  have t := @o_neI_q
  simp only [← Ev_eq, ← ES_eq] at t
  exact t h
theorem o_eqNil (h : PV (.bl true) A) : Ev (eqA (.lst []) (.lst []) A) PV X := by
  have t := @o_eqNil_q
  simp only [← Ev_eq, ← ES_eq] at t
  exact t h
theorem ixS_at {z : List Nat} {k c : Nat} (hz : z.length ≤ 10000) (e : z[k]? = some c) (h : PV (.str [c]) A) : Ev (fIx (.str z) (.int (k : Int)) A) PV X := by
  have t := @ixS_at_q
  simp only [← Ev_eq, ← ES_eq] at t
  exact t hz e h
theorem o_eqD0 {kvs : List (AK × AV)} (h : PV (.bl kvs.isEmpty) A) : Ev (eqA (.dct kvs) (.dct []) A) PV X := by
  have t := @o_eqD0_q
  simp only [← Ev_eq, ← ES_eq] at t
  exact t h
end
end Mw
set_option Elab.async false
set_option linter.all false
set_option maxRecDepth 100000
set_option maxHeartbeats 2000000
namespace Mw
end Mw
local macro_rules | `(tactic| wtm_at "sd") => `(tactic| first | rfl | assumption | decide | omega)
namespace Mw
class St_sr (g : Prop) (n : outParam Prop) : Prop where
  mp : n → g
section
variable {α β : Type} {P : α → AH → Prop} {P' : β → AH → Prop} {X X' : Nat → List (Nat × AV) → AH → Prop} {N N' : AE → AH → Prop} {R R' : AV → AH → Prop} {τ : AE} {A : AH} {Y Y' : Nat → List (Nat × AV) → AE → AH → Prop}
instance st_sr_es_seq {s t : SM}  : St_sr (ES (sSeq s t τ A) N R Y) (ES (s τ A) (fun τ1 A1 => ES (t τ1 A1) N R Y) R Y) := ⟨es_seq⟩
end
section
variable {α β : Type} {P : α → AH → Prop} {P' : β → AH → Prop} {X X' : Nat → List (Nat × AV) → AH → Prop} {N N' : AE → AH → Prop} {R R' : AV → AH → Prop} {τ : AE} {A : AH} {Y Y' : Nat → List (Nat × AV) → AE → AH → Prop}
instance st_sr_es_set {i : Nat} {m : EM}  : St_sr (ES (sSet i m τ A) N R Y) (Ev (m τ A) (fun v A1 => N (τ.set i (some v)) A1) (fun c fs A1 => Y c fs τ A1)) := ⟨es_set⟩
end
section
variable {α β : Type} {P : α → AH → Prop} {P' : β → AH → Prop} {X X' : Nat → List (Nat × AV) → AH → Prop} {N N' : AE → AH → Prop} {R R' : AV → AH → Prop} {τ : AE} {A : AH} {Y Y' : Nat → List (Nat × AV) → AE → AH → Prop}
instance st_sr_es_ret {m : EM}  : St_sr (ES (sRet m τ A) N R Y) (Ev (m τ A) R (fun c fs A1 => Y c fs τ A1)) := ⟨es_ret⟩
end
section
variable {α β : Type} {P : α → AH → Prop} {P' : β → AH → Prop} {X X' : Nat → List (Nat × AV) → AH → Prop} {N N' : AE → AH → Prop} {R R' : AV → AH → Prop} {τ : AE} {A : AH} {Y Y' : Nat → List (Nat × AV) → AE → AH → Prop}
instance st_sr_es_if {t : TM} {a b : SM}  : St_sr (ES (sIf t a b τ A) N R Y) (Ev (t τ A) (fun c A1 => (c = true → ES (a τ A1) N R Y) ∧ (c = false → ES (b τ A1) N R Y)) (fun c fs A1 => Y c fs τ A1)) := ⟨es_if⟩
end
section
variable {α β : Type} {P : α → AH → Prop} {P' : β → AH → Prop} {X X' : Nat → List (Nat × AV) → AH → Prop} {N N' : AE → AH → Prop} {R R' : AV → AH → Prop} {τ : AE} {A : AH} {Y Y' : Nat → List (Nat × AV) → AE → AH → Prop}
instance st_sr_es_nil  : St_sr (ES (sNil τ A) N R Y) (N τ A) := ⟨es_nil⟩
end
section
variable {α β : Type} {P : α → AH → Prop} {P' : β → AH → Prop} {X X' : Nat → List (Nat × AV) → AH → Prop} {N N' : AE → AH → Prop} {R R' : AV → AH → Prop} {τ : AE} {A : AH} {Y Y' : Nat → List (Nat × AV) → AE → AH → Prop}
instance st_sr_es_expr {m : EM}  : St_sr (ES (sExpr m τ A) N R Y) (Ev (m τ A) (fun _ A1 => N τ A1) (fun c fs A1 => Y c fs τ A1)) := ⟨es_expr⟩
end
section
variable {α β : Type} {P : α → AH → Prop} {P' : β → AH → Prop} {X X' : Nat → List (Nat × AV) → AH → Prop} {N N' : AE → AH → Prop} {R R' : AV → AH → Prop} {τ : AE} {A : AH} {Y Y' : Nat → List (Nat × AV) → AE → AH → Prop}
instance st_sr_es_asg {m : EM} {g : GM}  : St_sr (ES (sAsg m g τ A) N R Y) (Ev (m τ A) (fun v A1 => ∃ τ1 A2, g v τ A1 = some (τ1, A2) ∧ N τ1 A2) (fun c fs A1 => Y c fs τ A1)) := ⟨es_asg⟩
end
section
variable {α β : Type} {P : α → AH → Prop} {P' : β → AH → Prop} {X X' : Nat → List (Nat × AV) → AH → Prop} {N N' : AE → AH → Prop} {R R' : AV → AH → Prop} {τ : AE} {A : AH} {Y Y' : Nat → List (Nat × AV) → AE → AH → Prop}
instance st_sr_es_par {i j : Nat} {a b : EM}  : St_sr (ES (sPar i j a b τ A) N R Y) (Ev (a τ A) (fun v A1 => Ev (b τ A1) (fun w A2 => N ((τ.set i (some v)).set j (some w)) A2) (fun c fs A1 => Y c fs τ A1)) (fun c fs A1 => Y c fs τ A1)) := ⟨es_par⟩
end
section
variable {α β : Type} {P : α → AH → Prop} {P' : β → AH → Prop} {X X' : Nat → List (Nat × AV) → AH → Prop} {N N' : AE → AH → Prop} {R R' : AV → AH → Prop} {τ : AE} {A : AH} {Y Y' : Nat → List (Nat × AV) → AE → AH → Prop}
instance st_sr_es_par3 {i j l : Nat} {a b c : EM}  : St_sr (ES (sPar3 i j l a b c τ A) N R Y) (Ev (a τ A) (fun u A1 => Ev (b τ A1) (fun v A2 => Ev (c τ A2) (fun w A3 => N (((τ.set i (some u)).set j (some v)).set l (some w)) A3) (fun c fs A1 => Y c fs τ A1)) (fun c fs A1 => Y c fs τ A1)) (fun c fs A1 => Y c fs τ A1)) := ⟨es_par3⟩
end
section
variable {α β : Type} {P : α → AH → Prop} {P' : β → AH → Prop} {X X' : Nat → List (Nat × AV) → AH → Prop} {N N' : AE → AH → Prop} {R R' : AV → AH → Prop} {τ : AE} {A : AH} {Y Y' : Nat → List (Nat × AV) → AE → AH → Prop}
instance st_sr_es_sub {o i e : EM}  : St_sr (ES (sSub o i e τ A) N R Y) (Ev (e τ A) (fun v A1 => Ev (o τ A1) (fun x A2 => Ev (i τ A2) (fun y A3 => ∃ A4, fPut x y v A3 = some A4 ∧ N τ A4) (fun c fs A1 => Y c fs τ A1)) (fun c fs A1 => Y c fs τ A1)) (fun c fs A1 => Y c fs τ A1)) := ⟨es_sub⟩
end
section
variable {α β : Type} {P : α → AH → Prop} {P' : β → AH → Prop} {X X' : Nat → List (Nat × AV) → AH → Prop} {N N' : AE → AH → Prop} {R R' : AV → AH → Prop} {τ : AE} {A : AH} {Y Y' : Nat → List (Nat × AV) → AE → AH → Prop}
instance st_sr_es_attr {cs : List Nat} {f : Nat} {o e : EM}  : St_sr (ES (sAttr cs f o e τ A) N R Y) (Ev (e τ A) (fun y A1 => Ev (o τ A1) (fun x A2 => ∃ i c fs, x = .ref i ∧ A2[i]? = some (.ins c fs) ∧ (cs.contains c && Nat.blt fs.length 1000) = true ∧ N τ (A2.set i (.ins c (putFA f y fs)))) (fun c fs A1 => Y c fs τ A1)) (fun c fs A1 => Y c fs τ A1)) := ⟨es_attr⟩
end
section
variable {α β : Type} {P : α → AH → Prop} {P' : β → AH → Prop} {X X' : Nat → List (Nat × AV) → AH → Prop} {N N' : AE → AH → Prop} {R R' : AV → AH → Prop} {τ : AE} {A : AH} {Y Y' : Nat → List (Nat × AV) → AE → AH → Prop}
variable {PV : AV → AH → Prop} {PL : List AV → AH → Prop} {PB : Bool → AH → Prop}
instance st_sr_ev_C {v : AV}  : St_sr (Ev (eC v τ A) PV X) (PV v A) := ⟨ev_C⟩
end
section
variable {α β : Type} {P : α → AH → Prop} {P' : β → AH → Prop} {X X' : Nat → List (Nat × AV) → AH → Prop} {N N' : AE → AH → Prop} {R R' : AV → AH → Prop} {τ : AE} {A : AH} {Y Y' : Nat → List (Nat × AV) → AE → AH → Prop}
variable {PV : AV → AH → Prop} {PL : List AV → AH → Prop} {PB : Bool → AH → Prop}
instance st_sr_ev_bin {f : B2} {a b : EM}  : St_sr (Ev (eBin f a b τ A) PV X) (Ev (a τ A) (fun x A1 => Ev (b τ A1) (fun y A2 => Ev (f x y A2) PV X) X) X) := ⟨ev_bin⟩
end
section
variable {α β : Type} {P : α → AH → Prop} {P' : β → AH → Prop} {X X' : Nat → List (Nat × AV) → AH → Prop} {N N' : AE → AH → Prop} {R R' : AV → AH → Prop} {τ : AE} {A : AH} {Y Y' : Nat → List (Nat × AV) → AE → AH → Prop}
variable {PV : AV → AH → Prop} {PL : List AV → AH → Prop} {PB : Bool → AH → Prop}
instance st_sr_ev_tB {a : EM}  : St_sr (Ev (tB' a τ A) PB X) (Ev (a τ A) (fun v A1 => ∃ b, v = .bl b ∧ PB b A1) X) := ⟨ev_tB⟩
end
section
variable {α β : Type} {P : α → AH → Prop} {P' : β → AH → Prop} {X X' : Nat → List (Nat × AV) → AH → Prop} {N N' : AE → AH → Prop} {R R' : AV → AH → Prop} {τ : AE} {A : AH} {Y Y' : Nat → List (Nat × AV) → AE → AH → Prop}
variable {PV : AV → AH → Prop} {PL : List AV → AH → Prop} {PB : Bool → AH → Prop}
instance st_sr_ev_tTru {a : EM}  : St_sr (Ev (tTru a τ A) PB X) (Ev (a τ A) (fun v A1 => ∃ b, truA v A1 = some b ∧ PB b A1) X) := ⟨ev_tTru⟩
end
section
variable {α β : Type} {P : α → AH → Prop} {P' : β → AH → Prop} {X X' : Nat → List (Nat × AV) → AH → Prop} {N N' : AE → AH → Prop} {R R' : AV → AH → Prop} {τ : AE} {A : AH} {Y Y' : Nat → List (Nat × AV) → AE → AH → Prop}
variable {PV : AV → AH → Prop} {PL : List AV → AH → Prop} {PB : Bool → AH → Prop}
instance st_sr_ev_tNot {a : TM}  : St_sr (Ev (tNot a τ A) PB X) (Ev (a τ A) (fun b A1 => PB (!b) A1) X) := ⟨ev_tNot⟩
end
section
variable {α β : Type} {P : α → AH → Prop} {P' : β → AH → Prop} {X X' : Nat → List (Nat × AV) → AH → Prop} {N N' : AE → AH → Prop} {R R' : AV → AH → Prop} {τ : AE} {A : AH} {Y Y' : Nat → List (Nat × AV) → AE → AH → Prop}
variable {PV : AV → AH → Prop} {PL : List AV → AH → Prop} {PB : Bool → AH → Prop}
instance st_sr_ev_tAnd {a b : TM}  : St_sr (Ev (tAnd a b τ A) PB X) (Ev (a τ A) (fun c A1 => (c = true → Ev (b τ A1) PB X) ∧ (c = false → PB false A1)) X) := ⟨ev_tAnd⟩
end
section
variable {α β : Type} {P : α → AH → Prop} {P' : β → AH → Prop} {X X' : Nat → List (Nat × AV) → AH → Prop} {N N' : AE → AH → Prop} {R R' : AV → AH → Prop} {τ : AE} {A : AH} {Y Y' : Nat → List (Nat × AV) → AE → AH → Prop}
variable {PV : AV → AH → Prop} {PL : List AV → AH → Prop} {PB : Bool → AH → Prop}
instance st_sr_ev_tOr {a b : TM}  : St_sr (Ev (tOr a b τ A) PB X) (Ev (a τ A) (fun c A1 => (c = true → PB true A1) ∧ (c = false → Ev (b τ A1) PB X)) X) := ⟨ev_tOr⟩
end
section
variable {α β : Type} {P : α → AH → Prop} {P' : β → AH → Prop} {X X' : Nat → List (Nat × AV) → AH → Prop} {N N' : AE → AH → Prop} {R R' : AV → AH → Prop} {τ : AE} {A : AH} {Y Y' : Nat → List (Nat × AV) → AE → AH → Prop}
variable {PV : AV → AH → Prop} {PL : List AV → AH → Prop} {PB : Bool → AH → Prop}
instance st_sr_ev_if {c : TM} {a b : EM}  : St_sr (Ev (eIf c a b τ A) PV X) (Ev (c τ A) (fun k A1 => (k = true → Ev (a τ A1) PV X) ∧ (k = false → Ev (b τ A1) PV X)) X) := ⟨ev_if⟩
end
section
variable {α β : Type} {P : α → AH → Prop} {P' : β → AH → Prop} {X X' : Nat → List (Nat × AV) → AH → Prop} {N N' : AE → AH → Prop} {R R' : AV → AH → Prop} {τ : AE} {A : AH} {Y Y' : Nat → List (Nat × AV) → AE → AH → Prop}
variable {PV : AV → AH → Prop} {PL : List AV → AH → Prop} {PB : Bool → AH → Prop}
instance st_sr_ev_and {a b : EM}  : St_sr (Ev (eAnd a b τ A) PV X) (Ev (a τ A) (fun v A1 => ∃ c, truA v A1 = some c ∧ (c = true → Ev (b τ A1) PV X) ∧ (c = false → PV v A1)) X) := ⟨ev_and⟩
end
section
variable {α β : Type} {P : α → AH → Prop} {P' : β → AH → Prop} {X X' : Nat → List (Nat × AV) → AH → Prop} {N N' : AE → AH → Prop} {R R' : AV → AH → Prop} {τ : AE} {A : AH} {Y Y' : Nat → List (Nat × AV) → AE → AH → Prop}
variable {PV : AV → AH → Prop} {PL : List AV → AH → Prop} {PB : Bool → AH → Prop}
instance st_sr_ev_or {a b : EM}  : St_sr (Ev (eOr a b τ A) PV X) (Ev (a τ A) (fun v A1 => ∃ c, truA v A1 = some c ∧ (c = true → PV v A1) ∧ (c = false → Ev (b τ A1) PV X)) X) := ⟨ev_or⟩
end
section
variable {α β : Type} {P : α → AH → Prop} {P' : β → AH → Prop} {X X' : Nat → List (Nat × AV) → AH → Prop} {N N' : AE → AH → Prop} {R R' : AV → AH → Prop} {τ : AE} {A : AH} {Y Y' : Nat → List (Nat × AV) → AE → AH → Prop}
variable {PV : AV → AH → Prop} {PL : List AV → AH → Prop} {PB : Bool → AH → Prop}
instance st_sr_ev_not {a : EM}  : St_sr (Ev (eNot a τ A) PV X) (Ev (a τ A) (fun v A1 => ∃ b, truA v A1 = some b ∧ PV (.bl (!b)) A1) X) := ⟨ev_not⟩
end
section
variable {α β : Type} {P : α → AH → Prop} {P' : β → AH → Prop} {X X' : Nat → List (Nat × AV) → AH → Prop} {N N' : AE → AH → Prop} {R R' : AV → AH → Prop} {τ : AE} {A : AH} {Y Y' : Nat → List (Nat × AV) → AE → AH → Prop}
variable {PV : AV → AH → Prop} {PL : List AV → AH → Prop} {PB : Bool → AH → Prop}
instance st_sr_ev_neg {a : EM}  : St_sr (Ev (eNeg a τ A) PV X) (Ev (a τ A) (fun v A1 => ∃ i, v = .int i ∧ PV (.int (-i)) A1) X) := ⟨ev_neg⟩
end
section
variable {α β : Type} {P : α → AH → Prop} {P' : β → AH → Prop} {X X' : Nat → List (Nat × AV) → AH → Prop} {N N' : AE → AH → Prop} {R R' : AV → AH → Prop} {τ : AE} {A : AH} {Y Y' : Nat → List (Nat × AV) → AE → AH → Prop}
variable {PV : AV → AH → Prop} {PL : List AV → AH → Prop} {PB : Bool → AH → Prop}
instance st_sr_ev_chain {f g : B2} {a b c : EM}  : St_sr (Ev (eChain f g a b c τ A) PV X) (Ev (a τ A) (fun x A1 => Ev (b τ A1) (fun y A2 => Ev (f x y A2) (fun z A3 => ∃ k, z = .bl k ∧ (k = true → Ev (c τ A3) (fun w A4 => Ev (g y w A4) PV X) X) ∧ (k = false → PV (.bl false) A3)) X) X) X) := ⟨ev_chain⟩
end
section
variable {α β : Type} {P : α → AH → Prop} {P' : β → AH → Prop} {X X' : Nat → List (Nat × AV) → AH → Prop} {N N' : AE → AH → Prop} {R R' : AV → AH → Prop} {τ : AE} {A : AH} {Y Y' : Nat → List (Nat × AV) → AE → AH → Prop}
variable {PV : AV → AH → Prop} {PL : List AV → AH → Prop} {PB : Bool → AH → Prop}
instance st_sr_ea_nil  : St_sr (Ev (aNil τ A) PL X) (PL [] A) := ⟨ea_nil⟩
end
section
variable {α β : Type} {P : α → AH → Prop} {P' : β → AH → Prop} {X X' : Nat → List (Nat × AV) → AH → Prop} {N N' : AE → AH → Prop} {R R' : AV → AH → Prop} {τ : AE} {A : AH} {Y Y' : Nat → List (Nat × AV) → AE → AH → Prop}
variable {PV : AV → AH → Prop} {PL : List AV → AH → Prop} {PB : Bool → AH → Prop}
instance st_sr_ea_cons {a : EM} {r : AM}  : St_sr (Ev (aCons a r τ A) PL X) (Ev (a τ A) (fun x A1 => Ev (r τ A1) (fun xs A2 => PL (x :: xs) A2) X) X) := ⟨ea_cons⟩
end
section
variable {α β : Type} {P : α → AH → Prop} {P' : β → AH → Prop} {X X' : Nat → List (Nat × AV) → AH → Prop} {N N' : AE → AH → Prop} {R R' : AV → AH → Prop} {τ : AE} {A : AH} {Y Y' : Nat → List (Nat × AV) → AE → AH → Prop}
variable {PV : AV → AH → Prop} {PL : List AV → AH → Prop} {PB : Bool → AH → Prop}
instance st_sr_ea_star {a : EM} {r : AM}  : St_sr (Ev (aStar a r τ A) PL X) (Ev (a τ A) (fun x A1 => ∃ ys, rdS x A1 = some ys ∧ Ev (r τ A1) (fun xs A2 => PL (ys ++ xs) A2) X) X) := ⟨ea_star⟩
end
section
variable {α β : Type} {P : α → AH → Prop} {P' : β → AH → Prop} {X X' : Nat → List (Nat × AV) → AH → Prop} {N N' : AE → AH → Prop} {R R' : AV → AH → Prop} {τ : AE} {A : AH} {Y Y' : Nat → List (Nat × AV) → AE → AH → Prop}
variable {PV : AV → AH → Prop} {PL : List AV → AH → Prop} {PB : Bool → AH → Prop}
instance st_sr_ev_tup {a : AM}  : St_sr (Ev (eTup a τ A) PV X) (Ev (a τ A) (fun xs A1 => Nat.ble xs.length big = true ∧ PV (.tup xs) A1) X) := ⟨ev_tup⟩
end
section
variable {α β : Type} {P : α → AH → Prop} {P' : β → AH → Prop} {X X' : Nat → List (Nat × AV) → AH → Prop} {N N' : AE → AH → Prop} {R R' : AV → AH → Prop} {τ : AE} {A : AH} {Y Y' : Nat → List (Nat × AV) → AE → AH → Prop}
variable {PV : AV → AH → Prop} {PL : List AV → AH → Prop} {PB : Bool → AH → Prop}
instance st_sr_ev_lstT {a : AM}  : St_sr (Ev (eLst true a τ A) PV X) (Ev (a τ A) (fun xs A1 => Nat.ble xs.length big = true ∧ PV (.lst xs) A1) X) := ⟨ev_lstT⟩
end
section
variable {α β : Type} {P : α → AH → Prop} {P' : β → AH → Prop} {X X' : Nat → List (Nat × AV) → AH → Prop} {N N' : AE → AH → Prop} {R R' : AV → AH → Prop} {τ : AE} {A : AH} {Y Y' : Nat → List (Nat × AV) → AE → AH → Prop}
variable {PV : AV → AH → Prop} {PL : List AV → AH → Prop} {PB : Bool → AH → Prop}
instance st_sr_ev_call {m : CM} {a : AM}  : St_sr (Ev (eCall m a τ A) PV X) (Ev (a τ A) (fun vs A1 => Ev (m vs A1) PV X) X) := ⟨ev_call⟩
end
section
variable {α β : Type} {P : α → AH → Prop} {P' : β → AH → Prop} {X X' : Nat → List (Nat × AV) → AH → Prop} {N N' : AE → AH → Prop} {R R' : AV → AH → Prop} {τ : AE} {A : AH} {Y Y' : Nat → List (Nat × AV) → AE → AH → Prop}
variable {PV : AV → AH → Prop} {PL : List AV → AH → Prop} {PB : Bool → AH → Prop}
instance st_sr_ev_fn {np : Nat} {ix : List Nat} {m : FM} {a : AM}  : St_sr (Ev (eFn np ix m a τ A) PV X) (Ev (a τ A) (fun vs A1 => vs.length = np ∧ Ev (m (pick ix (vs ++ [])) A1) PV X) X) := ⟨ev_fn⟩
end
section
variable {α β : Type} {P : α → AH → Prop} {P' : β → AH → Prop} {X X' : Nat → List (Nat × AV) → AH → Prop} {N N' : AE → AH → Prop} {R R' : AV → AH → Prop} {τ : AE} {A : AH} {Y Y' : Nat → List (Nat × AV) → AE → AH → Prop}
variable {PV : AV → AH → Prop} {PL : List AV → AH → Prop} {PB : Bool → AH → Prop}
instance st_sr_ev_mt {c mn np : Nat} {ix : List Nat} {m : FM} {o : EM} {a : AM}  : St_sr (Ev (eMt c mn np ix m o a τ A) PV X) (Ev (o τ A) (fun v A1 => isIns c mn v A1 = true ∧ Ev (a τ A1) (fun vs A2 => vs.length + 1 = np ∧ Ev (m (pick ix (v :: vs ++ [])) A2) PV X) X) X) := ⟨ev_mt⟩
end
section
variable {α β : Type} {P : α → AH → Prop} {P' : β → AH → Prop} {X X' : Nat → List (Nat × AV) → AH → Prop} {N N' : AE → AH → Prop} {R R' : AV → AH → Prop} {τ : AE} {A : AH} {Y Y' : Nat → List (Nat × AV) → AE → AH → Prop}
variable {PV : AV → AH → Prop} {PL : List AV → AH → Prop} {PB : Bool → AH → Prop}
instance st_sr_ev_attr {cs : List Nat} {f : Nat} {o : EM}  : St_sr (Ev (eAttr cs f o τ A) PV X) (Ev (o τ A) (fun v A1 => ∃ i c fs w, v = .ref i ∧ A1[i]? = some (.ins c fs) ∧ cs.contains c = true ∧ lookF f fs = some w ∧ PV w A1) X) := ⟨ev_attr⟩
end
section
variable {α : Type} {X : Nat → List (Nat × AV) → AH → Prop} {N : AE → AH → Prop} {R : AV → AH → Prop} {τ : AE} {A A' : AH} {PV : AV → AH → Prop} {P : α → AH → Prop}
instance st_sr_o_add {fz : Bool} {i j : Int}  : St_sr (Ev (addA fz (.int i) (.int j) A) PV X) (PV (.int (i + j)) A) := ⟨o_add⟩
end
section
variable {α : Type} {X : Nat → List (Nat × AV) → AH → Prop} {N : AE → AH → Prop} {R : AV → AH → Prop} {τ : AE} {A A' : AH} {PV : AV → AH → Prop} {P : α → AH → Prop}
instance st_sr_o_sub {i j : Int}  : St_sr (Ev (subI (.int i) (.int j) A) PV X) (PV (.int (i - j)) A) := ⟨o_sub⟩
end
section
variable {α : Type} {X : Nat → List (Nat × AV) → AH → Prop} {N : AE → AH → Prop} {R : AV → AH → Prop} {τ : AE} {A A' : AH} {PV : AV → AH → Prop} {P : α → AH → Prop}
instance st_sr_o_lt {i j : Int}  : St_sr (Ev (ltI (.int i) (.int j) A) PV X) (PV (.bl (decide (i < j))) A) := ⟨o_lt⟩
end
section
variable {α : Type} {X : Nat → List (Nat × AV) → AH → Prop} {N : AE → AH → Prop} {R : AV → AH → Prop} {τ : AE} {A A' : AH} {PV : AV → AH → Prop} {P : α → AH → Prop}
instance st_sr_o_le {i j : Int}  : St_sr (Ev (leI (.int i) (.int j) A) PV X) (PV (.bl (decide (i ≤ j))) A) := ⟨o_le⟩
end
section
variable {α : Type} {X : Nat → List (Nat × AV) → AH → Prop} {N : AE → AH → Prop} {R : AV → AH → Prop} {τ : AE} {A A' : AH} {PV : AV → AH → Prop} {P : α → AH → Prop}
instance st_sr_o_gt {i j : Int}  : St_sr (Ev (gtI (.int i) (.int j) A) PV X) (PV (.bl (decide (j < i))) A) := ⟨o_gt⟩
end
section
variable {α : Type} {X : Nat → List (Nat × AV) → AH → Prop} {N : AE → AH → Prop} {R : AV → AH → Prop} {τ : AE} {A A' : AH} {PV : AV → AH → Prop} {P : α → AH → Prop}
instance st_sr_o_ge {i j : Int}  : St_sr (Ev (geI (.int i) (.int j) A) PV X) (PV (.bl (decide (j ≤ i))) A) := ⟨o_ge⟩
end
section
variable {α : Type} {X : Nat → List (Nat × AV) → AH → Prop} {N : AE → AH → Prop} {R : AV → AH → Prop} {τ : AE} {A A' : AH} {PV : AV → AH → Prop} {P : α → AH → Prop}
instance st_sr_o_eqI {i j : Int}  : St_sr (Ev (eqA (.int i) (.int j) A) PV X) (PV (.bl (decide (i = j))) A) := ⟨o_eqI⟩
end
section
variable {α : Type} {X : Nat → List (Nat × AV) → AH → Prop} {N : AE → AH → Prop} {R : AV → AH → Prop} {τ : AE} {A A' : AH} {PV : AV → AH → Prop} {P : α → AH → Prop}
instance st_sr_o_eqS {i j : List Nat}  : St_sr (Ev (eqA (.str i) (.str j) A) PV X) (PV (.bl (decide (i = j))) A) := ⟨o_eqS⟩
end
section
variable {α : Type} {X : Nat → List (Nat × AV) → AH → Prop} {N : AE → AH → Prop} {R : AV → AH → Prop} {τ : AE} {A A' : AH} {PV : AV → AH → Prop} {P : α → AH → Prop}
instance st_sr_k_abs {i : Int}  : St_sr (Ev (cAbs [.int i] A) PV X) (PV (.int (if i < 0 then -i else i)) A) := ⟨k_abs⟩
end
section
variable {α : Type} {X : Nat → List (Nat × AV) → AH → Prop} {N : AE → AH → Prop} {R : AV → AH → Prop} {τ : AE} {A A' : AH} {PV : AV → AH → Prop} {P : α → AH → Prop}
instance st_sr_k_int {i : Int}  : St_sr (Ev (cInt [.int i] A) PV X) (PV (.int i) A) := ⟨k_int⟩
end
section
variable {α : Type} {X : Nat → List (Nat × AV) → AH → Prop} {N : AE → AH → Prop} {R : AV → AH → Prop} {τ : AE} {A A' : AH} {PV : AV → AH → Prop} {P : α → AH → Prop}
instance st_sr_k_intB {b : Bool}  : St_sr (Ev (cInt [.bl b] A) PV X) (PV (.int (if b then 1 else 0)) A) := ⟨k_intB⟩
end
section
variable {α : Type} {X : Nat → List (Nat × AV) → AH → Prop} {N : AE → AH → Prop} {R : AV → AH → Prop} {τ : AE} {A A' : AH} {PV : AV → AH → Prop} {P : α → AH → Prop}
instance st_sr_k_max2 {i j : Int}  : St_sr (Ev (cMax2 [.int i, .int j] A) PV X) (PV (.int (if j > i then j else i)) A) := ⟨k_max2⟩
end
section
variable {α : Type} {X : Nat → List (Nat × AV) → AH → Prop} {N : AE → AH → Prop} {R : AV → AH → Prop} {τ : AE} {A A' : AH} {PV : AV → AH → Prop} {P : α → AH → Prop}
instance st_sr_k_min2 {i j : Int}  : St_sr (Ev (cMin2 [.int i, .int j] A) PV X) (PV (.int (if j < i then j else i)) A) := ⟨k_min2⟩
end
section
variable {α β : Type} {P : α → AH → Prop} {P' : β → AH → Prop} {X X' : Nat → List (Nat × AV) → AH → Prop} {N N' : AE → AH → Prop} {R R' : AV → AH → Prop} {τ : AE} {A : AH} {Y Y' : Nat → List (Nat × AV) → AE → AH → Prop}
variable {PV : AV → AH → Prop} {PL : List AV → AH → Prop} {PB : Bool → AH → Prop}
instance st_sr_ev_lstF {a : AM}  : St_sr (Ev (eLst false a τ A) PV X) (Ev (a τ A) (fun xs A1 => Nat.ble xs.length big = true ∧ ∀ i A2, A1[i]? = none → A2[i]? = some (.lst xs) → Gr A1 A2 → PV (.ref i) A2) X) := ⟨ev_lstF⟩
end
end Mw
local macro_rules | `(tactic| wtm_at "sr") => `(tactic| first
  | refine Mw.St_sr.mp ?_
  | with_reducible refine Mw.o_pow (by decide) ?_
  | with_reducible refine Mw.o_mul (by decide) ?_
  | with_reducible refine Mw.o_mod (by wtm_at "sd") ?_
  | with_reducible refine Mw.o_fdiv (by wtm_at "sd") (by wtm_at "sd") ?_
  | ((with_reducible show Mw.Ev (Mw.eVar _ _ _) _ _); refine Mw.ev_var rfl ?_))
namespace Mw
class St_ss (g : Prop) (n : outParam Prop) : Prop where
  mp : n → g
section
variable {α β : Type} {X : Nat → List (Nat × AV) → AH → Prop} {N : AE → AH → Prop} {R : AV → AH → Prop} {τ : AE} {A A' : AH} {PV : AV → AH → Prop} {P : α → AH → Prop} {PS : Src → AH → Prop} {PO : Option Int → AH → Prop} {PL : List AV → AH → Prop} {PB : Bool → AH → Prop}
instance st_ss_i_any {m : EM}  : St_ss (Ev (iAny m τ A) PS X) (Ev (m τ A) (fun v A1 => ∃ xs, srcX v = some xs ∧ PS ⟨xs, always⟩ A1) X) := ⟨i_any⟩
end
section
variable {α β : Type} {X : Nat → List (Nat × AV) → AH → Prop} {N : AE → AH → Prop} {R : AV → AH → Prop} {τ : AE} {A A' : AH} {PV : AV → AH → Prop} {P : α → AH → Prop} {PS : Src → AH → Prop} {PO : Option Int → AH → Prop} {PL : List AV → AH → Prop} {PB : Bool → AH → Prop}
instance st_ss_i_itm {m : EM}  : St_ss (Ev (iItm m τ A) PS X) (Ev (m τ A) (fun v A1 => ∃ kvs, v = .dct kvs ∧ PS ⟨kvs.map fun kv => .tup [kA kv.1, kv.2], always⟩ A1) X) := ⟨i_itm⟩
end
section
variable {α β : Type} {X : Nat → List (Nat × AV) → AH → Prop} {N : AE → AH → Prop} {R : AV → AH → Prop} {τ : AE} {A A' : AH} {PV : AV → AH → Prop} {P : α → AH → Prop} {PS : Src → AH → Prop} {PO : Option Int → AH → Prop} {PL : List AV → AH → Prop} {PB : Bool → AH → Prop}
instance st_ss_i_rg1 {m : AM}  : St_ss (Ev (iRg1 m τ A) PS X) (Ev (m τ A) (fun vs A1 => ∃ j, vs = [.int j] ∧ fitI j = true ∧ PS ⟨intsFrom 0 j.toNat, always⟩ A1) X) := ⟨i_rg1⟩
end
section
variable {α β : Type} {X : Nat → List (Nat × AV) → AH → Prop} {N : AE → AH → Prop} {R : AV → AH → Prop} {τ : AE} {A A' : AH} {PV : AV → AH → Prop} {P : α → AH → Prop} {PS : Src → AH → Prop} {PO : Option Int → AH → Prop} {PL : List AV → AH → Prop} {PB : Bool → AH → Prop}
instance st_ss_ev_sl {fz : Bool} {a : EM} {lo hi : OM}  : St_ss (Ev (eSl fz a lo hi τ A) PV X) (Ev (a τ A) (fun v A1 => Ev (lo τ A1) (fun l A2 => Ev (hi τ A2) (fun u A3 => Ev (fSl fz v l u A3) PV X) X) X) X) := ⟨ev_sl⟩
end
section
variable {α β : Type} {X : Nat → List (Nat × AV) → AH → Prop} {N : AE → AH → Prop} {R : AV → AH → Prop} {τ : AE} {A A' : AH} {PV : AV → AH → Prop} {P : α → AH → Prop} {PS : Src → AH → Prop} {PO : Option Int → AH → Prop} {PL : List AV → AH → Prop} {PB : Bool → AH → Prop}
instance st_ss_ev_oN  : St_ss (Ev (oNone τ A) PO X) (PO none A) := ⟨ev_oN⟩
end
section
variable {α β : Type} {X : Nat → List (Nat × AV) → AH → Prop} {N : AE → AH → Prop} {R : AV → AH → Prop} {τ : AE} {A A' : AH} {PV : AV → AH → Prop} {P : α → AH → Prop} {PS : Src → AH → Prop} {PO : Option Int → AH → Prop} {PL : List AV → AH → Prop} {PB : Bool → AH → Prop}
instance st_ss_ev_oS {m : EM}  : St_ss (Ev (oSome m τ A) PO X) (Ev (m τ A) (fun v A1 => ∃ i, v = .int i ∧ PO (some i) A1) X) := ⟨ev_oS⟩
end
section
variable {α β : Type} {X : Nat → List (Nat × AV) → AH → Prop} {N : AE → AH → Prop} {R : AV → AH → Prop} {τ : AE} {A A' : AH} {PV : AV → AH → Prop} {P : α → AH → Prop} {PS : Src → AH → Prop} {PO : Option Int → AH → Prop} {PL : List AV → AH → Prop} {PB : Bool → AH → Prop}
instance st_ss_k_slL {xs : List AV} {l u : Option Int}  : St_ss (Ev (fSl true (.lst xs) l u A) PV X) (PV (.lst (cutL xs l u)) A) := ⟨k_slL⟩
end
section
variable {α β : Type} {X : Nat → List (Nat × AV) → AH → Prop} {N : AE → AH → Prop} {R : AV → AH → Prop} {τ : AE} {A A' : AH} {PV : AV → AH → Prop} {P : α → AH → Prop} {PS : Src → AH → Prop} {PO : Option Int → AH → Prop} {PL : List AV → AH → Prop} {PB : Bool → AH → Prop}
instance st_ss_k_slR {xs : List AV} {l u : Option Int}  : St_ss (Ev (fSl true (.rol xs) l u A) PV X) (PV (.lst (cutL xs l u)) A) := ⟨k_slR⟩
end
section
variable {α β : Type} {X : Nat → List (Nat × AV) → AH → Prop} {N : AE → AH → Prop} {R : AV → AH → Prop} {τ : AE} {A A' : AH} {PV : AV → AH → Prop} {P : α → AH → Prop} {PS : Src → AH → Prop} {PO : Option Int → AH → Prop} {PL : List AV → AH → Prop} {PB : Bool → AH → Prop}
instance st_ss_k_slT {xs : List AV} {l u : Option Int}  : St_ss (Ev (fSl true (.tup xs) l u A) PV X) (PV (.tup (cutL xs l u)) A) := ⟨k_slT⟩
end
section
variable {α β : Type} {X : Nat → List (Nat × AV) → AH → Prop} {N : AE → AH → Prop} {R : AV → AH → Prop} {Y : Nat → List (Nat × AV) → AE → AH → Prop} {τ : AE} {A A' : AH} {PV : AV → AH → Prop} {P : α → AH → Prop} {PS : Src → AH → Prop} {PL : List AV → AH → Prop} {PB : Bool → AH → Prop}
instance st_ss_ev_isi {ts : List Nat} {m : EM}  : St_ss (Ev (eIsi ts m τ A) PV X) (Ev (m τ A) (fun v A1 => ∃ k, kindOf v A1 = some k ∧ PV (.bl (anyTy k ts)) A1) X) := ⟨ev_isi⟩
end
section
variable {α β : Type} {X : Nat → List (Nat × AV) → AH → Prop} {N : AE → AH → Prop} {R : AV → AH → Prop} {τ : AE} {A A' : AH} {PV : AV → AH → Prop} {P : α → AH → Prop} {PS : Src → AH → Prop} {PO : Option Int → AH → Prop} {PL : List AV → AH → Prop} {PB : Bool → AH → Prop}
instance st_ss_k_tupL {xs : List AV}  : St_ss (Ev (cTuple [.lst xs] A) PV X) (PV (.tup xs) A) := ⟨k_tupL⟩
end
section
variable {α β : Type} {X : Nat → List (Nat × AV) → AH → Prop} {N : AE → AH → Prop} {R : AV → AH → Prop} {τ : AE} {A A' : AH} {PV : AV → AH → Prop} {P : α → AH → Prop} {PS : Src → AH → Prop} {PO : Option Int → AH → Prop} {PL : List AV → AH → Prop} {PB : Bool → AH → Prop}
instance st_ss_k_tupT {xs : List AV}  : St_ss (Ev (cTuple [.tup xs] A) PV X) (PV (.tup xs) A) := ⟨k_tupT⟩
end
section
variable {α β : Type} {X : Nat → List (Nat × AV) → AH → Prop} {N : AE → AH → Prop} {R : AV → AH → Prop} {τ : AE} {A A' : AH} {PV : AV → AH → Prop} {P : α → AH → Prop} {PS : Src → AH → Prop} {PO : Option Int → AH → Prop} {PL : List AV → AH → Prop} {PB : Bool → AH → Prop}
instance st_ss_k_listD {kvs : List (AK × AV)}  : St_ss (Ev (cList true [.dct kvs] A) PV X) (PV (.lst (kvs.map fun kv => kA kv.1)) A) := ⟨k_listD⟩
end
section
variable {α β : Type} {X : Nat → List (Nat × AV) → AH → Prop} {N : AE → AH → Prop} {R : AV → AH → Prop} {τ : AE} {A A' : AH} {PV : AV → AH → Prop} {P : α → AH → Prop} {PS : Src → AH → Prop} {PO : Option Int → AH → Prop} {PL : List AV → AH → Prop} {PB : Bool → AH → Prop}
instance st_ss_k_listL {xs : List AV}  : St_ss (Ev (cList true [.lst xs] A) PV X) (PV (.lst xs) A) := ⟨k_listL⟩
end
section
variable {α β : Type} {X : Nat → List (Nat × AV) → AH → Prop} {N : AE → AH → Prop} {R : AV → AH → Prop} {τ : AE} {A A' : AH} {PV : AV → AH → Prop} {P : α → AH → Prop} {PS : Src → AH → Prop} {PO : Option Int → AH → Prop} {PL : List AV → AH → Prop} {PB : Bool → AH → Prop}
instance st_ss_k_listT {xs : List AV}  : St_ss (Ev (cList true [.tup xs] A) PV X) (PV (.lst xs) A) := ⟨k_listT⟩
end
section
variable {α : Type} {X : Nat → List (Nat × AV) → AH → Prop} {N : AE → AH → Prop} {R : AV → AH → Prop} {τ : AE} {A A' : AH} {PV : AV → AH → Prop} {P : α → AH → Prop}
instance st_ss_k_lenD {kvs : List (AK × AV)}  : St_ss (Ev (cLen [.dct kvs] A) PV X) (PV (.int kvs.length) A) := ⟨k_lenD⟩
end
section
variable {α β : Type} {X : Nat → List (Nat × AV) → AH → Prop} {N : AE → AH → Prop} {R : AV → AH → Prop} {τ : AE} {A A' : AH} {PV : AV → AH → Prop} {P : α → AH → Prop} {PS : Src → AH → Prop} {PO : Option Int → AH → Prop} {PL : List AV → AH → Prop} {PB : Bool → AH → Prop}
instance st_ss_o_isN {v : AV}  : St_ss (Ev (isA v .non A) PV X) (PV (.bl (match v with | .non => true | _ => false)) A) := ⟨o_isN⟩
end
section
variable {α β : Type} {X : Nat → List (Nat × AV) → AH → Prop} {N : AE → AH → Prop} {R : AV → AH → Prop} {τ : AE} {A A' : AH} {PV : AV → AH → Prop} {P : α → AH → Prop} {PS : Src → AH → Prop} {PO : Option Int → AH → Prop} {PL : List AV → AH → Prop} {PB : Bool → AH → Prop}
instance st_ss_o_isnN {v : AV}  : St_ss (Ev (isnA v .non A) PV X) (PV (.bl (match v with | .non => false | _ => true)) A) := ⟨o_isnN⟩
end
section
variable {α β : Type} {X : Nat → List (Nat × AV) → AH → Prop} {N : AE → AH → Prop} {R : AV → AH → Prop} {τ : AE} {A A' : AH} {PV : AV → AH → Prop} {P : α → AH → Prop} {PS : Src → AH → Prop} {PO : Option Int → AH → Prop} {PL : List AV → AH → Prop} {PB : Bool → AH → Prop}
instance st_ss_o_inD {x : List Nat} {kvs : List (AK × AV)}  : St_ss (Ev (inA (.str x) (.dct kvs) A) PV X) (PV (.bl (lookK (.inr x) kvs).isSome) A) := ⟨o_inD⟩
end
section
variable {α β : Type} {X : Nat → List (Nat × AV) → AH → Prop} {N : AE → AH → Prop} {R : AV → AH → Prop} {τ : AE} {A A' : AH} {PV : AV → AH → Prop} {P : α → AH → Prop} {PS : Src → AH → Prop} {PO : Option Int → AH → Prop} {PL : List AV → AH → Prop} {PB : Bool → AH → Prop}
instance st_ss_o_niD {x : List Nat} {kvs : List (AK × AV)}  : St_ss (Ev (niA (.str x) (.dct kvs) A) PV X) (PV (.bl (!(lookK (.inr x) kvs).isSome)) A) := ⟨o_niD⟩
end
section
variable {α β : Type} {X : Nat → List (Nat × AV) → AH → Prop} {N : AE → AH → Prop} {R : AV → AH → Prop} {τ : AE} {A A' : AH} {PV : AV → AH → Prop} {P : α → AH → Prop} {PS : Src → AH → Prop} {PO : Option Int → AH → Prop} {PL : List AV → AH → Prop} {PB : Bool → AH → Prop}
instance st_ss_o_neS {i j : List Nat}  : St_ss (Ev (neA (.str i) (.str j) A) PV X) (PV (.bl (!decide (i = j))) A) := ⟨o_neS⟩
end
section
variable {α β : Type} {X : Nat → List (Nat × AV) → AH → Prop} {N : AE → AH → Prop} {R : AV → AH → Prop} {Y : Nat → List (Nat × AV) → AE → AH → Prop} {τ : AE} {A A' : AH} {PV : AV → AH → Prop} {P : α → AH → Prop} {PS : Src → AH → Prop} {PL : List AV → AH → Prop} {PB : Bool → AH → Prop}
instance st_ss_ev_lit {m : EM}  : St_ss (Ev (eLit m τ A) PV X) (Ev (m τ A) (fun v A1 => ∃ kvs, dOf v A1 = some kvs ∧ PV (.lst (kvs.map fun kv => .tup [kA kv.1, kv.2])) A1) X) := ⟨ev_lit⟩
end
section
variable {α β : Type} {P : α → AH → Prop} {P' : β → AH → Prop} {X X' : Nat → List (Nat × AV) → AH → Prop} {N N' : AE → AH → Prop} {R R' : AV → AH → Prop} {τ : AE} {A : AH} {Y Y' : Nat → List (Nat × AV) → AE → AH → Prop}
instance st_ss_es_raise1 {c f : Nat} {m : EM}  : St_ss (ES (sRaise1 c f m τ A) N R Y) (Ev (m τ A) (fun v A1 => Y c [(f, v)] τ A1) (fun c fs A1 => Y c fs τ A1)) := ⟨es_raise1⟩
end
section
variable {α β : Type} {P : α → AH → Prop} {P' : β → AH → Prop} {X X' : Nat → List (Nat × AV) → AH → Prop} {N N' : AE → AH → Prop} {R R' : AV → AH → Prop} {τ : AE} {A : AH} {Y Y' : Nat → List (Nat × AV) → AE → AH → Prop}
instance st_ss_es_raise0 {c : Nat}  : St_ss (ES (sRaise0 c τ A) N R Y) (Y c [] τ A) := ⟨es_raise0⟩
end
end Mw
local macro_rules | `(tactic| wtm_at "ss") => `(tactic| first
  | refine Mw.St_ss.mp ?_
  | wtm_at "sr"
  | ((with_reducible show ∃ _, _); refine ⟨_, rfl, ?_⟩))
namespace Mw
end Mw
local macro_rules | `(tactic| wtm_at "sb") => `(tactic| first
  | ((with_reducible show (true = true → _) ∧ (_ → _)); refine ⟨fun _ => ?_, fun z => Bool.noConfusion z⟩)
  | ((with_reducible show (false = true → _) ∧ (_ → _)); refine ⟨fun z => Bool.noConfusion z, fun _ => ?_⟩)
  | ((with_reducible show (Mw.anyTy _ _ = true → _) ∧ (_ → _)); refine ⟨fun _ => ?_, fun z => absurd z (by decide)⟩)
  | ((with_reducible show (Mw.anyTy _ _ = true → _) ∧ (_ → _)); refine ⟨fun z => absurd z (by decide), fun _ => ?_⟩)
  | ((with_reducible show ((!Mw.anyTy _ _) = true → _) ∧ (_ → _)); refine ⟨fun _ => ?_, fun z => absurd z (by decide)⟩)
  | ((with_reducible show ((!Mw.anyTy _ _) = true → _) ∧ (_ → _)); refine ⟨fun z => absurd z (by decide), fun _ => ?_⟩)
  | ((with_reducible show ((!true) = true → _) ∧ (_ → _)); refine ⟨fun z => Bool.noConfusion z, fun _ => ?_⟩)
  | ((with_reducible show ((!false) = true → _) ∧ (_ → _)); refine ⟨fun _ => ?_, fun z => Bool.noConfusion z⟩))
namespace Mw
class St_isn (g : Prop) (n : outParam Prop) : Prop where
  mp : n → g
section
variable {X : Nat → List (Nat × AV) → AH → Prop} {A : AH} {PV : AV → AH → Prop}
instance st_isn_ev_tYes {PB : Bool → AH → Prop} {τ : AE}  : St_isn (Ev (tYes' τ A) PB X) (PB true A) := ⟨ev_tYes⟩
end
section
variable {X : Nat → List (Nat × AV) → AH → Prop} {A : AH} {PV : AV → AH → Prop}
instance st_isn_isN_non  : St_isn (Ev (isA .non .non A) PV X) (PV (.bl true) A) := ⟨isN_non⟩
end
section
variable {X : Nat → List (Nat × AV) → AH → Prop} {A : AH} {PV : AV → AH → Prop}
instance st_isn_isN_bl {b : Bool}  : St_isn (Ev (isA (.bl b) .non A) PV X) (PV (.bl false) A) := ⟨isN_bl⟩
end
section
variable {X : Nat → List (Nat × AV) → AH → Prop} {A : AH} {PV : AV → AH → Prop}
instance st_isn_isN_int {b : Int}  : St_isn (Ev (isA (.int b) .non A) PV X) (PV (.bl false) A) := ⟨isN_int⟩
end
section
variable {X : Nat → List (Nat × AV) → AH → Prop} {A : AH} {PV : AV → AH → Prop}
instance st_isn_isN_str {b : List Nat}  : St_isn (Ev (isA (.str b) .non A) PV X) (PV (.bl false) A) := ⟨isN_str⟩
end
section
variable {X : Nat → List (Nat × AV) → AH → Prop} {A : AH} {PV : AV → AH → Prop}
instance st_isn_isN_tup {b : List AV}  : St_isn (Ev (isA (.tup b) .non A) PV X) (PV (.bl false) A) := ⟨isN_tup⟩
end
section
variable {X : Nat → List (Nat × AV) → AH → Prop} {A : AH} {PV : AV → AH → Prop}
instance st_isn_isN_lst {b : List AV}  : St_isn (Ev (isA (.lst b) .non A) PV X) (PV (.bl false) A) := ⟨isN_lst⟩
end
section
variable {X : Nat → List (Nat × AV) → AH → Prop} {A : AH} {PV : AV → AH → Prop}
instance st_isn_isN_dct {b : List (AK × AV)}  : St_isn (Ev (isA (.dct b) .non A) PV X) (PV (.bl false) A) := ⟨isN_dct⟩
end
section
variable {X : Nat → List (Nat × AV) → AH → Prop} {A : AH} {PV : AV → AH → Prop}
instance st_isn_isN_ref {b : Nat}  : St_isn (Ev (isA (.ref b) .non A) PV X) (PV (.bl false) A) := ⟨isN_ref⟩
end
section
variable {X : Nat → List (Nat × AV) → AH → Prop} {A : AH} {PV : AV → AH → Prop}
instance st_isn_isn_non  : St_isn (Ev (isnA .non .non A) PV X) (PV (.bl false) A) := ⟨isn_non⟩
end
section
variable {X : Nat → List (Nat × AV) → AH → Prop} {A : AH} {PV : AV → AH → Prop}
instance st_isn_isn_bl {b : Bool}  : St_isn (Ev (isnA (.bl b) .non A) PV X) (PV (.bl true) A) := ⟨isn_bl⟩
end
section
variable {X : Nat → List (Nat × AV) → AH → Prop} {A : AH} {PV : AV → AH → Prop}
instance st_isn_isn_int {b : Int}  : St_isn (Ev (isnA (.int b) .non A) PV X) (PV (.bl true) A) := ⟨isn_int⟩
end
section
variable {X : Nat → List (Nat × AV) → AH → Prop} {A : AH} {PV : AV → AH → Prop}
instance st_isn_isn_str {b : List Nat}  : St_isn (Ev (isnA (.str b) .non A) PV X) (PV (.bl true) A) := ⟨isn_str⟩
end
section
variable {X : Nat → List (Nat × AV) → AH → Prop} {A : AH} {PV : AV → AH → Prop}
instance st_isn_isn_tup {b : List AV}  : St_isn (Ev (isnA (.tup b) .non A) PV X) (PV (.bl true) A) := ⟨isn_tup⟩
end
section
variable {X : Nat → List (Nat × AV) → AH → Prop} {A : AH} {PV : AV → AH → Prop}
instance st_isn_isn_lst {b : List AV}  : St_isn (Ev (isnA (.lst b) .non A) PV X) (PV (.bl true) A) := ⟨isn_lst⟩
end
section
variable {X : Nat → List (Nat × AV) → AH → Prop} {A : AH} {PV : AV → AH → Prop}
instance st_isn_isn_dct {b : List (AK × AV)}  : St_isn (Ev (isnA (.dct b) .non A) PV X) (PV (.bl true) A) := ⟨isn_dct⟩
end
section
variable {X : Nat → List (Nat × AV) → AH → Prop} {A : AH} {PV : AV → AH → Prop}
instance st_isn_isn_ref {b : Nat}  : St_isn (Ev (isnA (.ref b) .non A) PV X) (PV (.bl true) A) := ⟨isn_ref⟩
end
end Mw
local macro_rules | `(tactic| wtm_at "isn") => `(tactic| first
  | refine Mw.St_isn.mp ?_
  )
namespace Mw
end Mw
local macro_rules | `(tactic| wtm_at "sl") => `(tactic| first
  | ((with_reducible show List.length _ = _ ∧ _); refine ⟨rfl, ?_⟩)
  | ((with_reducible show List.length _ + 1 = _ ∧ _); refine ⟨rfl, ?_⟩)
  | ((with_reducible show Mw.Src.mk _ _ = Mw.Src.mk _ _ ∧ _); refine ⟨rfl, ?_⟩)
  | ((with_reducible show Nat.ble (List.length []) _ = _ ∧ _); refine ⟨rfl, ?_⟩)
  | ((with_reducible show Nat.ble (List.length [_]) _ = _ ∧ _); refine ⟨rfl, ?_⟩)
  | ((with_reducible show Nat.ble (List.length [_, _]) _ = _ ∧ _); refine ⟨rfl, ?_⟩)
  | ((with_reducible show Nat.ble (List.length [_, _, _]) _ = _ ∧ _); refine ⟨rfl, ?_⟩)
  | ((with_reducible show Nat.ble (List.length (_ :: _ :: _ :: _ :: _)) _ = _ ∧ _); refine ⟨rfl, ?_⟩))
namespace Mw
end Mw
local macro_rules | `(tactic| wtm_at "sw") => `(tactic| first
  | wtm_at "isn"
  | wtm_at "ss"
  | ((with_reducible show ∃ _ _, _); refine ⟨_, _, rfl, ?_⟩)
  | wtm_at "sl"
  | wtm_at "sb")
namespace Mw
end Mw
set_option Elab.async false
set_option linter.all false
set_option maxRecDepth 100000
set_option maxHeartbeats 2000000
namespace Mw
section
variable {X : Nat → List (Nat × AV) → AH → Prop} {A : AH} {PV : AV → AH → Prop} {a b c d e : AV} {l : List AV}
theorem ln0 (h : PV (.int 0) A) : Ev (cLen [.lst []] A) PV X := k_lenS (xs := []) rfl h
theorem ln1 (h : PV (.int 1) A) : Ev (cLen [.lst [a]] A) PV X := k_lenS (xs := [a]) rfl h
theorem ln2 (h : PV (.int 2) A) : Ev (cLen [.lst [a, b]] A) PV X := k_lenS (xs := [a, b]) rfl h
theorem ln3 (h : PV (.int 3) A) : Ev (cLen [.lst [a, b, c]] A) PV X := k_lenS (xs := [a, b, c]) rfl h
theorem ix0 (h : PV a A) : Ev (fIx (.lst (a :: l)) (.int 0) A) PV X := o_ixL (xs := a :: l) rfl (atI_nat (k := 0) rfl) h
theorem ix1 (h : PV b A) : Ev (fIx (.lst (a :: b :: l)) (.int 1) A) PV X := o_ixL (xs := a :: b :: l) rfl (atI_nat (k := 1) rfl) h
theorem ix2 (h : PV c A) : Ev (fIx (.lst (a :: b :: c :: l)) (.int 2) A) PV X := o_ixL (xs := a :: b :: c :: l) rfl (atI_nat (k := 2) rfl) h
theorem ix3 (h : PV d A) : Ev (fIx (.lst (a :: b :: c :: d :: l)) (.int 3) A) PV X := o_ixL (xs := a :: b :: c :: d :: l) rfl (atI_nat (k := 3) rfl) h
theorem it0 (h : PV a A) : Ev (fIx (.tup (a :: l)) (.int 0) A) PV X := o_ixL (xs := a :: l) rfl (atI_nat (k := 0) rfl) h
theorem it1 (h : PV b A) : Ev (fIx (.tup (a :: b :: l)) (.int 1) A) PV X := o_ixL (xs := a :: b :: l) rfl (atI_nat (k := 1) rfl) h
theorem it2 (h : PV c A) : Ev (fIx (.tup (a :: b :: c :: l)) (.int 2) A) PV X := o_ixL (xs := a :: b :: c :: l) rfl (atI_nat (k := 2) rfl) h
theorem in2 {x y z : TK} (h : PV (.bl (decide (x ∈ [y, z]))) A) : Ev (inA (.str x) (.tup [.str y, .str z]) A) PV X := o_inL (l := [y, z]) rfl h
theorem isB_tt (h : PV (.bl true) A) : Ev (isA (.bl true) (.bl true) A) PV X := o_isB h
theorem isnB_tt (h : PV (.bl false) A) : Ev (isnA (.bl true) (.bl true) A) PV X := o_isnB h
end
section
variable {X : Nat → List (Nat × AV) → AH → Prop} {A : AH} {PV : AV → AH → Prop} {τ : AE}
theorem Ev.ok {α : Type} {a : α} {P : α → AH → Prop} (h : P a A) : Ev (.ok a A) P X := by
  unfold Ev; exact h
theorem es_forC {i : IM} {g : GM} {b : SM} {N : AE → AH → Prop} {R : AV → AH → Prop} {Y : Nat → List (Nat × AV) → AE → AH → Prop}
    (hi : Ev (i τ A) (fun S A1 => ∃ (β : Type) (bs : List β) (en : β → AV) (J : List β → List β → AE → AH → Prop), S = ⟨bs.map en, always⟩ ∧ J [] bs τ A1 ∧
      (∀ done x rest τ A, bs = done ++ x :: rest → J done (x :: rest) τ A → ∃ τ1 A1, g (en x) τ A = some (τ1, A1) ∧ ES (b τ1 A1) (fun τ2 A2 => J (done ++ [x]) rest τ2 A2) R Y) ∧
      ∀ τ A, J bs [] τ A → N τ A) (fun c fs A1 => Y c fs τ A1)) : ES (sFor i g b τ A) N R Y := by
  refine es_lift (hi.mono (fun S A1 ⟨β, bs, en, J, e, h0, hs, he⟩ => ?_) fun _ _ _ z => z)
  subst e
  have := es_for (i := fun _ A => .ok ⟨bs.map en, always⟩ A) (g := g) (b := b) (N := N) (R := R) (Y := Y) (τ := τ) (A := A1) bs en J (Ev.ok ⟨rfl, h0⟩) hs he
  exact this
theorem ev_lcC {i : IM} {g : GM} {t : TM} {e : EM} {vs : List Nat}
    (hi : Ev (i τ A) (fun S A1 => ∃ (β : Type) (bs : List β) (en : β → AV) (J : List β → List AV → AH → Prop), S = ⟨bs.map en, always⟩ ∧ bs.length ≤ 10000 ∧ J [] [] A1 ∧
      (∀ done x acc A, J done acc A → (∃ rest, bs = done ++ x :: rest) → ∃ τ1 A1, g (en x) (wipeA τ vs) A = some (τ1, A1) ∧ Ev (t τ1 A1) (fun c A2 => (c = true → Ev (e τ1 A2) (fun v A3 => J (done ++ [x]) (acc ++ [v]) A3) NX) ∧ (c = false → J (done ++ [x]) acc A2)) NX) ∧
      ∀ out A', out.length ≤ bs.length → J bs out A' → PV (.lst out) A') X) : Ev (eLc true i g t e vs τ A) PV X := by
  refine Ev.bind (hi.mono (fun S A1 ⟨β, bs, en, J, e1, hb, h, hs, he⟩ => ?_) fun _ _ _ z => z)
  subst e1
  obtain ⟨out, A', e2, h2, h3⟩ := lc_go (ck := always) (τ := τ) bs en J (fun _ _ _ _ => rfl) (by show bs.length ≤ 16777216; omega) hs bs [] [] A1 rfl (Nat.le_refl _) h
  refine Ev.bind ?_
  rw [e2]
  exact Ev.ok (Ev.ok (he out A' h3 h2))
theorem ev_lcCM {i : IM} {g : GM} {e : EM} {vs : List Nat}
    (hi : Ev (i τ A) (fun S A0 => ∃ (β : Type) (bs : List β) (en F : β → AV), S = ⟨bs.map en, always⟩ ∧ bs.length ≤ 10000 ∧
      (∀ x ∈ bs, ∀ A1, Gr A0 A1 → ∃ τ1, g (en x) (wipeA τ vs) A1 = some (τ1, A1) ∧ Ev (e τ1 A1) (fun v A3 => Gr A1 A3 ∧ v = F x) NX) ∧
      ∀ A', Gr A0 A' → PV (.lst (bs.map F)) A') X) : Ev (eLc true i g tYes' e vs τ A) PV X := by
  refine ev_lcC (hi.mono (fun S A0 ⟨β, bs, en, F, e1, hb, hs, he⟩ => ⟨β, bs, en, fun done acc A' => acc = done.map F ∧ Gr A0 A', e1, hb, ⟨rfl, Gr.refl⟩, fun done x acc A1 ⟨ea, g1⟩ ⟨rest, eb⟩ => ?_, fun out A' _ ⟨eo, g1⟩ => by rw [eo]; exact he A' g1⟩) fun _ _ _ z => z)
  obtain ⟨τ1, e2, h⟩ := hs x (by rw [eb]; simp) A1 g1
  refine ⟨τ1, A1, e2, ev_tYes ⟨fun _ => h.mono (fun v A3 ⟨g3, e3⟩ => ⟨?_, g1.trans g3⟩) fun _ _ _ z => z, fun z => by cases z⟩⟩
  rw [ea, e3, List.map_append]; rfl
end
class St_ixs (g : Prop) (n : outParam Prop) : Prop where
  mp : n → g
section
variable {X : Nat → List (Nat × AV) → AH → Prop} {A : AH} {PV : AV → AH → Prop} {a b c d e : AV} {l : List AV}
instance st_ixs_ln0  : St_ixs (Ev (cLen [.lst []] A) PV X) (PV (.int 0) A) := ⟨ln0⟩
end
section
variable {X : Nat → List (Nat × AV) → AH → Prop} {A : AH} {PV : AV → AH → Prop} {a b c d e : AV} {l : List AV}
instance st_ixs_ln1  : St_ixs (Ev (cLen [.lst [a]] A) PV X) (PV (.int 1) A) := ⟨ln1⟩
end
section
variable {X : Nat → List (Nat × AV) → AH → Prop} {A : AH} {PV : AV → AH → Prop} {a b c d e : AV} {l : List AV}
instance st_ixs_ln2  : St_ixs (Ev (cLen [.lst [a, b]] A) PV X) (PV (.int 2) A) := ⟨ln2⟩
end
section
variable {X : Nat → List (Nat × AV) → AH → Prop} {A : AH} {PV : AV → AH → Prop} {a b c d e : AV} {l : List AV}
instance st_ixs_ln3  : St_ixs (Ev (cLen [.lst [a, b, c]] A) PV X) (PV (.int 3) A) := ⟨ln3⟩
end
section
variable {X : Nat → List (Nat × AV) → AH → Prop} {A : AH} {PV : AV → AH → Prop} {a b c d e : AV} {l : List AV}
instance st_ixs_ix0  : St_ixs (Ev (fIx (.lst (a :: l)) (.int 0) A) PV X) (PV a A) := ⟨ix0⟩
end
section
variable {X : Nat → List (Nat × AV) → AH → Prop} {A : AH} {PV : AV → AH → Prop} {a b c d e : AV} {l : List AV}
instance st_ixs_ix1  : St_ixs (Ev (fIx (.lst (a :: b :: l)) (.int 1) A) PV X) (PV b A) := ⟨ix1⟩
end
section
variable {X : Nat → List (Nat × AV) → AH → Prop} {A : AH} {PV : AV → AH → Prop} {a b c d e : AV} {l : List AV}
instance st_ixs_ix2  : St_ixs (Ev (fIx (.lst (a :: b :: c :: l)) (.int 2) A) PV X) (PV c A) := ⟨ix2⟩
end
section
variable {X : Nat → List (Nat × AV) → AH → Prop} {A : AH} {PV : AV → AH → Prop} {a b c d e : AV} {l : List AV}
instance st_ixs_ix3  : St_ixs (Ev (fIx (.lst (a :: b :: c :: d :: l)) (.int 3) A) PV X) (PV d A) := ⟨ix3⟩
end
section
variable {X : Nat → List (Nat × AV) → AH → Prop} {A : AH} {PV : AV → AH → Prop} {a b c d e : AV} {l : List AV}
instance st_ixs_it0  : St_ixs (Ev (fIx (.tup (a :: l)) (.int 0) A) PV X) (PV a A) := ⟨it0⟩
end
section
variable {X : Nat → List (Nat × AV) → AH → Prop} {A : AH} {PV : AV → AH → Prop} {a b c d e : AV} {l : List AV}
instance st_ixs_it1  : St_ixs (Ev (fIx (.tup (a :: b :: l)) (.int 1) A) PV X) (PV b A) := ⟨it1⟩
end
section
variable {X : Nat → List (Nat × AV) → AH → Prop} {A : AH} {PV : AV → AH → Prop} {a b c d e : AV} {l : List AV}
instance st_ixs_it2  : St_ixs (Ev (fIx (.tup (a :: b :: c :: l)) (.int 2) A) PV X) (PV c A) := ⟨it2⟩
end
section
variable {X : Nat → List (Nat × AV) → AH → Prop} {A : AH} {PV : AV → AH → Prop} {a b c d e : AV} {l : List AV}
instance st_ixs_in2 {x y z : TK}  : St_ixs (Ev (inA (.str x) (.tup [.str y, .str z]) A) PV X) (PV (.bl (decide (x ∈ [y, z]))) A) := ⟨in2⟩
end
section
variable {X : Nat → List (Nat × AV) → AH → Prop} {A : AH} {PV : AV → AH → Prop} {a b c d e : AV} {l : List AV}
instance st_ixs_isB_tt  : St_ixs (Ev (isA (.bl true) (.bl true) A) PV X) (PV (.bl true) A) := ⟨isB_tt⟩
end
section
variable {X : Nat → List (Nat × AV) → AH → Prop} {A : AH} {PV : AV → AH → Prop} {a b c d e : AV} {l : List AV}
instance st_ixs_isnB_tt  : St_ixs (Ev (isnA (.bl true) (.bl true) A) PV X) (PV (.bl false) A) := ⟨isnB_tt⟩
end
section
variable {α β : Type} {X : Nat → List (Nat × AV) → AH → Prop} {τ : AE} {A A' : AH} {PV : AV → AH → Prop}
instance st_ixs_o_neB {a b : Bool}  : St_ixs (Ev (neA (.bl a) (.bl b) A) PV X) (PV (.bl (!(a == b))) A) := ⟨o_neB⟩
end
section
variable {α β : Type} {X : Nat → List (Nat × AV) → AH → Prop} {τ : AE} {A A' : AH} {PV : AV → AH → Prop}
instance st_ixs_o_eqB {a b : Bool}  : St_ixs (Ev (eqA (.bl a) (.bl b) A) PV X) (PV (.bl (a == b)) A) := ⟨o_eqB⟩
end
section
variable {α β : Type} {X : Nat → List (Nat × AV) → AH → Prop} {τ : AE} {A A' : AH} {PV : AV → AH → Prop}
instance st_ixs_o_neI {a b : Int}  : St_ixs (Ev (neA (.int a) (.int b) A) PV X) (PV (.bl (!decide (a = b))) A) := ⟨o_neI⟩
end
section
variable {α β : Type} {X : Nat → List (Nat × AV) → AH → Prop} {τ : AE} {A A' : AH} {PV : AV → AH → Prop}
instance st_ixs_o_addI {i j : Int}  : St_ixs (Ev (addI (.int i) (.int j) A) PV X) (PV (.int (i + j)) A) := ⟨o_addI⟩
end
section
variable {α β : Type} {X : Nat → List (Nat × AV) → AH → Prop} {τ : AE} {A A' : AH} {PV : AV → AH → Prop}
instance st_ixs_o_eqNil  : St_ixs (Ev (eqA (.lst []) (.lst []) A) PV X) (PV (.bl true) A) := ⟨o_eqNil⟩
end
end Mw
local macro_rules | `(tactic| wtm_at "ixs") => `(tactic| first
  | refine Mw.St_ixs.mp ?_
  )
namespace Mw
end Mw
local macro_rules | `(tactic| wtm_at "sd2") => `(tactic| first
  | ((with_reducible show (_ → _) ∧ (_ → _)); refine ⟨fun _ => ?_, fun z => absurd z (by decide)⟩)
  | ((with_reducible show (_ → _) ∧ (_ → _)); refine ⟨fun z => absurd z (by decide), fun _ => ?_⟩))
namespace Mw
end Mw
local macro_rules | `(tactic| wtm_at "sk") => `(tactic| first | wtm_at "ixs" | wtm_at "sw" | wtm_at "sd2")
namespace Mw
end Mw
set_option Elab.async false
set_option linter.all false
set_option maxRecDepth 100000
set_option maxHeartbeats 2000000
namespace Dsk
open Mw
abbrev Qs := List (TK × List TK)
abbrev Js := List (TK × (Int × Int))
def qL (q : Qs) : List (AK × AV) := eD (fun l => .lst (l.map .str)) q
def qT (q : Qs) : List (AK × AV) := eD (fun l => .tup (l.map .str)) q
def jE (j : Js) : List (AK × AV) := eD (fun p => .tup [.int p.1, .int p.2]) j
def stL (q : Qs) (j : Js) : AV := .lst [.dct (qL q), .dct (jE j)]
def stD (q : Qs) (j : Js) : AV := .tup [.dct (qT q), .dct (jE j)]
def wo (q : Qs) (x : TK) : Qs := q.map fun kv => (kv.1, kv.2.filter fun y => decide (y ≠ x))
theorem wo_keys {q : Qs} {x : TK} : keys (wo q x) = keys q := by
  unfold keys wo
  rw [List.map_map]; rfl
def mv (q : Qs) (x : TK) (m : Option TK) (front : Bool) : Qs := match m with
  | none => wo q x
  | some m => putT (wo q x) m (if front = true then x :: (lk m (wo q x)).getD [] else (lk m (wo q x)).getD [] ++ [x])
def mA : Option TK → AV
  | none => .non
  | some m => .str m
def mo (q : Qs) (x : TK) : Option TK := ((q.filter fun kv => decide (x ∈ kv.2)).map (·.1)).head?
def given (q : Qs) : List TK := (q.map (·.2)).flatten
def wt (q : Qs) (j : Js) : List TK := (srt (keys j)).filter fun x => decide (x ∉ given q)
def len (j : Js) (x : TK) : Int := ((lk x j).getD (0, 0)).1
def due (j : Js) (x : TK) : Int := ((lk x j).getD (0, 0)).2
def load (j : Js) (l : List TK) : Int := sumI (l.map (len j))
def loads (j : Js) (q : Qs) : List (Int × TK) := q.map fun kv => (load j kv.2, kv.1)
def least (j : Js) (q : Qs) : TK := match loads j q with
  | [] => []
  | x :: r => (bestP x r).2
def put1 (j : Js) (q : Qs) (x : TK) : Qs := putT q (least j q) ((lk (least j q) q).getD [] ++ [x])
def order (j : Js) (ws : List TK) : List TK := (srtP (ws.map fun x => (-(len j x), x))).map (·.2)
def settled (q : Qs) (j : Js) : Qs := (order j (wt q j)).foldl (put1 j) q
structure Ok (G : TK → Prop) (q : Qs) (j : Js) : Prop where
  nq : (keys q).Nodup
  nj : (keys j).Nodup
  gq : ∀ x ∈ keys q, G x
  gj : ∀ x ∈ keys j, G x
  lq : q.length ≤ 5
  lj : j.length ≤ 20
  sub : ∀ x ∈ given q, x ∈ keys j
  ng : (given q).Nodup
  pj : ∀ kv ∈ j, 1 ≤ kv.2.1
section
variable {G : TK → Prop} {q : Qs} {j : Js} {x y m : TK}
theorem given_mem : x ∈ given q ↔ ∃ kv ∈ q, x ∈ kv.2 := by
  unfold given
  rw [List.mem_flatten]
  constructor
  · rintro ⟨l, h1, h2⟩
    obtain ⟨kv, h3, rfl⟩ := List.mem_map.mp h1
    exact ⟨kv, h3, h2⟩
  · rintro ⟨kv, h1, h2⟩
    exact ⟨kv.2, List.mem_map.mpr ⟨kv, h1, rfl⟩, h2⟩
theorem nodup_len {l k : List TK} (h : l.Nodup) (s : ∀ x ∈ l, x ∈ k) : l.length ≤ k.length := by
  induction l generalizing k with
  | nil => exact Nat.zero_le _
  | cons a l ih =>
    rw [List.nodup_cons] at h
    have ha := s a List.mem_cons_self
    have := ih h.2 (k := k.erase a) fun z hz => (List.mem_erase_of_ne (fun e => h.1 (by rw [← e]; exact hz))).mpr (s z (List.mem_cons_of_mem _ hz))
    rw [List.length_erase_of_mem ha] at this
    have hp := List.length_pos_of_mem ha
    rw [List.length_cons]; omega
theorem keys_len {β : Type} {l : List (TK × β)} : (keys l).length = l.length := List.length_map _
theorem sublist_given {kv : TK × List TK} (h : kv ∈ q) : kv.2.Sublist (given q) := by
  unfold given
  exact List.sublist_flatten_of_mem (List.mem_map.mpr ⟨kv, h, rfl⟩)
theorem Ok.qlen (o : Ok G q j) : ∀ kv ∈ q, kv.2.length ≤ 20 := fun kv h => by
  have h1 := (sublist_given h).length_le
  have h2 := nodup_len o.ng o.sub
  rw [keys_len] at h2
  have := o.lj
  omega
theorem Ok.glen (o : Ok G q j) : (given q).length ≤ 20 := by
  have h2 := nodup_len o.ng o.sub
  rw [keys_len] at h2
  have := o.lj
  omega
theorem Ok.inj (o : Ok G q j) {kv : TK × List TK} (h : kv ∈ q) (hx : x ∈ kv.2) : x ∈ keys j := o.sub x (given_mem.mpr ⟨kv, h, hx⟩)
theorem lk_get {β : Type} [Inhabited β] {l : List (TK × β)} (h : x ∈ keys l) : ∃ v, lk x l = some v := lk_some.mpr h
theorem Ok.look (o : Ok G q j) (h : x ∈ keys j) : lk x j = some (len j x, due j x) := by
  obtain ⟨v, e⟩ := lk_some.mpr h
  unfold len due
  rw [e]; rfl
theorem Ok.pos (o : Ok G q j) (h : x ∈ keys j) : 1 ≤ len j x := by
  have e := o.look h
  have := o.pj _ (mem_of_lk e)
  exact this
theorem wt_mem : x ∈ wt q j ↔ x ∈ keys j ∧ x ∉ given q := by
  unfold wt
  rw [List.mem_filter, srt_mem]
  simp
theorem wt_nodup (o : Ok G q j) : (wt q j).Nodup := ((srt_perm _).nodup_iff.mpr o.nj).filter _
theorem wt_len (o : Ok G q j) : (wt q j).length ≤ 20 := by
  have h := nodup_len (wt_nodup o) (k := keys j) fun x hx => (wt_mem.mp hx).1
  rw [keys_len] at h
  have := o.lj
  omega
theorem mo_none : mo q x = none ↔ x ∉ given q := by
  unfold mo
  rw [List.head?_eq_none_iff, List.map_eq_nil_iff, List.filter_eq_nil_iff, given_mem]
  simp
theorem mo_some (h : mo q x = some m) : m ∈ keys q ∧ ∃ kv ∈ q, kv.1 = m ∧ x ∈ kv.2 := by
  unfold mo at h
  have := List.mem_of_mem_head? h
  obtain ⟨kv, h1, rfl⟩ := List.mem_map.mp this
  rw [List.mem_filter] at h1
  exact ⟨List.mem_map.mpr ⟨kv, h1.1, rfl⟩, kv, h1.1, rfl, of_decide_eq_true h1.2⟩
theorem wo_id (h : x ∉ given q) : wo q x = q := by
  unfold wo
  refine (List.map_congr_left fun kv hkv => ?_).trans (List.map_id q)
  have : kv.2.filter (fun y => decide (y ≠ x)) = kv.2 := by
    rw [List.filter_eq_self]
    intro a ha
    refine decide_eq_true fun e => h ?_
    rw [← e]
    exact given_mem.mpr ⟨kv, hkv, ha⟩
  rw [this]; rfl
theorem given_wo : given (wo q x) = (given q).filter fun y => decide (y ≠ x) := by
  unfold given wo
  rw [List.map_map, List.filter_flatten, List.map_map]; rfl
theorem Ok.wo (o : Ok G q j) : Ok G (wo q x) j where
  nq := by rw [wo_keys]; exact o.nq
  nj := o.nj
  gq := by rw [wo_keys]; exact o.gq
  gj := o.gj
  lq := by unfold Dsk.wo; rw [List.length_map]; exact o.lq
  lj := o.lj
  sub := fun y hy => by
    rw [given_wo, List.mem_filter] at hy
    exact o.sub y hy.1
  ng := by rw [given_wo]; exact o.ng.filter _
  pj := o.pj
theorem wo_out : x ∉ given (Dsk.wo q x) := by
  rw [given_wo, List.mem_filter]
  simp
theorem putT_keys {β : Type} {l : List (TK × β)} {v : β} (h : x ∈ keys l) : keys (putT l x v) = keys l := by
  unfold putT keys
  rw [if_pos (has_mem.mpr h), List.map_map]
  refine List.map_congr_left fun kv _ => ?_
  show (if kv.1 = x then (kv.1, v) else kv).1 = kv.1
  split <;> rfl
theorem putT_len {β : Type} {l : List (TK × β)} {v : β} (h : x ∈ keys l) : (putT l x v).length = l.length := by
  rw [← keys_len, putT_keys h, keys_len]
theorem lk_put {β : Type} {v : β} : ∀ {l : List (TK × β)}, x ∈ keys l → lk y (putT l x v) = if x = y then some v else lk y l := by
  intro l h
  unfold putT
  rw [if_pos (has_mem.mpr h)]
  induction l with
  | nil => cases h
  | cons kv r ih =>
    obtain ⟨k, w⟩ := kv
    rw [List.map_cons]
    by_cases hk : k = x
    · subst hk
      rw [if_pos rfl]
      by_cases hy : k = y
      · subst hy
        show (if k = k then some v else _) = _
        rw [if_pos rfl, if_pos rfl]
      · show (if k = y then some v else lk y (r.map fun kv => if kv.1 = k then (kv.1, v) else kv)) = if k = y then some v else (if k = y then some w else lk y r)
        rw [if_neg hy, if_neg hy, if_neg hy]
        by_cases hr : k ∈ keys r
        · rw [ih hr, if_neg hy]
        · have : (r.map fun kv => if kv.1 = k then (kv.1, v) else kv) = r := (List.map_congr_left fun kv hkv => if_neg fun e => hr (List.mem_map.mpr ⟨kv, hkv, e⟩)).trans (List.map_id r)
          rw [this]
    · rw [if_neg hk]
      have hr : x ∈ keys r := (List.mem_cons.mp h).resolve_left fun e => hk e.symm
      show (if k = y then some w else lk y (r.map fun kv => if kv.1 = x then (kv.1, v) else kv)) = if x = y then some v else (if k = y then some w else lk y r)
      rw [ih hr]
      by_cases hy : k = y
      · subst hy
        rw [if_pos rfl, if_pos rfl, if_neg (fun e => hk e.symm)]
      · rw [if_neg hy, if_neg hy]
theorem given_put : ∀ {q : Qs} {l : List TK}, (keys q).Nodup → lk m q = some l → ∀ l2 : List TK, (given (putT q m l2) ++ l).Perm (given q ++ l2) := by
  intro q l hn h l2
  have hm : m ∈ keys q := lk_some.mp ⟨l, h⟩
  unfold putT
  rw [if_pos (has_mem.mpr hm)]
  induction q with
  | nil => cases hm
  | cons kv r ih =>
    obtain ⟨k, w⟩ := kv
    have hn2 : (k :: keys r).Nodup := hn
    rw [List.nodup_cons] at hn2
    rw [List.map_cons]
    by_cases hk : k = m
    · subst hk
      rw [if_pos rfl]
      have e : (r.map fun kv : TK × List TK => if kv.1 = k then (kv.1, l2) else kv) = r := (List.map_congr_left fun kv hkv => if_neg fun e => hn2.1 (List.mem_map.mpr ⟨kv, hkv, e⟩)).trans (List.map_id r)
      rw [e]
      have hl : w = l := by
        have : (if k = k then some w else lk k r) = some l := h
        rw [if_pos rfl] at this
        exact Option.some.inj this
      subst hl
      show ((l2 ++ given r) ++ w).Perm ((w ++ given r) ++ l2)
      exact List.perm_iff_count.mpr fun a => by
        simp only [List.count_append]
        omega
    · rw [if_neg hk]
      have hr : m ∈ keys r := (List.mem_cons.mp hm).resolve_left fun e => hk e.symm
      have h2 : lk m r = some l := by
        have : (if k = m then some w else lk m r) = some l := h
        rw [if_neg hk] at this
        exact this
      show ((w ++ given (r.map fun kv : TK × List TK => if kv.1 = m then (kv.1, l2) else kv)) ++ l).Perm ((w ++ given r) ++ l2)
      rw [List.append_assoc, List.append_assoc]
      exact (ih hn2.2 h2 hr).append_left w
theorem Ok.put (o : Ok G q j) (hx : x ∈ keys j) (hg : x ∉ given q) {l l2 : List TK} (hm : lk m q = some l) (hp : l2.Perm (x :: l)) : Ok G (putT q m l2) j := by
  have hk : m ∈ keys q := lk_some.mp ⟨l, hm⟩
  have gp := given_put o.nq hm l2
  have gp2 : (given (putT q m l2)).Perm (x :: given q) := by
    have : (given (putT q m l2) ++ l).Perm ((x :: given q) ++ l) := gp.trans (((hp.append_left (given q)).trans List.perm_middle))
    exact (List.perm_append_right_iff l).mp this
  exact {
    nq := by rw [putT_keys hk]; exact o.nq
    nj := o.nj
    gq := by rw [putT_keys hk]; exact o.gq
    gj := o.gj
    lq := by rw [putT_len hk]; exact o.lq
    lj := o.lj
    sub := fun y hy => by
      rcases List.mem_cons.mp (gp2.subset hy) with e | h
      · rw [e]; exact hx
      · exact o.sub y h
    ng := gp2.nodup_iff.mpr (List.nodup_cons.mpr ⟨hg, o.ng⟩)
    pj := o.pj }
theorem put_given (o : Ok G q j) {l l2 : List TK} (hm : lk m q = some l) (hp : l2.Perm (x :: l)) : (given (putT q m l2)).Perm (x :: given q) := by
  have gp := given_put o.nq hm l2
  have : (given (putT q m l2) ++ l).Perm ((x :: given q) ++ l) := gp.trans (((hp.append_left (given q)).trans List.perm_middle))
  exact (List.perm_append_right_iff l).mp this
theorem Ok.mv (o : Ok G q j) (hx : x ∈ keys j) {m : Option TK} {front : Bool} (hm : ∀ y, m = some y → y ∈ keys q) : Ok G (mv q x m front) j := by
  cases m with
  | none => exact o.wo
  | some m =>
    obtain ⟨l, hl⟩ := lk_some.mpr (show m ∈ keys (Dsk.wo q x) by rw [wo_keys]; exact hm m rfl)
    refine Ok.put (o.wo (x := x)) hx wo_out hl ?_
    rw [hl]
    cases front with
    | true => exact List.Perm.refl _
    | false => exact List.perm_append_comm (l₁ := l) (l₂ := [x])
theorem given_filter_sub {p : TK × List TK → Bool} : (given (q.filter p)).Sublist (given q) := by
  induction q with
  | nil => exact List.Sublist.refl _
  | cons kv r ih =>
    by_cases h : p kv = true
    · rw [List.filter_cons_of_pos h]
      exact (List.Sublist.refl kv.2).append ih
    · rw [List.filter_cons_of_neg h]
      exact ih.trans (List.sublist_append_right _ _)
theorem keys_filter_sub {β : Type} {l : List (TK × β)} {p : TK × β → Bool} : (keys (l.filter p)).Sublist (keys l) := List.filter_sublist.map _
theorem Ok.close (o : Ok G q j) {p : TK × List TK → Bool} : Ok G (q.filter p) j where
  nq := o.nq.sublist keys_filter_sub
  nj := o.nj
  gq := fun x hx => o.gq x (keys_filter_sub.subset hx)
  gj := o.gj
  lq := Nat.le_trans (List.length_filter_le _ _) o.lq
  lj := o.lj
  sub := fun x hx => o.sub x (given_filter_sub.subset hx)
  ng := o.ng.sublist given_filter_sub
  pj := o.pj
theorem given_app {l : List TK} : given (q ++ [(x, l)]) = given q ++ l := by
  unfold given
  rw [List.map_append, List.flatten_append]; simp
theorem keys_app {β : Type} {l : List (TK × β)} {v : β} : keys (l ++ [(x, v)]) = keys l ++ [x] := by
  unfold keys
  rw [List.map_append]; rfl
theorem nodup_snoc {l : List TK} (h : l.Nodup) (n : x ∉ l) : (l ++ [x]).Nodup := by
  rw [List.nodup_append]
  exact ⟨h, by simp, fun a ha b hb e => n (by rw [List.mem_singleton] at hb; subst hb; subst e; exact ha)⟩
theorem Ok.add (o : Ok G q j) (hg : G x) (hx : x ∉ keys q) (hl : q.length < 5) : Ok G (q ++ [(x, [])]) j where
  nq := by rw [keys_app]; exact nodup_snoc o.nq hx
  nj := o.nj
  gq := fun y hy => by
    rw [keys_app, List.mem_append, List.mem_singleton] at hy
    rcases hy with h | rfl
    · exact o.gq y h
    · exact hg
  gj := o.gj
  lq := by rw [List.length_append]; show q.length + 1 ≤ 5; omega
  lj := o.lj
  sub := fun y hy => o.sub y (by rw [given_app, List.append_nil] at hy; exact hy)
  ng := by rw [given_app, List.append_nil]; exact o.ng
  pj := o.pj
theorem Ok.take (o : Ok G q j) (hg : G x) (hx : x ∉ keys j) (hl : j.length < 20) {a b : Int} (ha : 1 ≤ a) : Ok G q (j ++ [(x, (a, b))]) where
  nq := o.nq
  nj := by rw [keys_app]; exact nodup_snoc o.nj hx
  gq := o.gq
  gj := fun y hy => by
    rw [keys_app, List.mem_append, List.mem_singleton] at hy
    rcases hy with h | rfl
    · exact o.gj y h
    · exact hg
  lq := o.lq
  lj := by rw [List.length_append]; show j.length + 1 ≤ 20; omega
  sub := fun y hy => by rw [keys_app, List.mem_append]; exact .inl (o.sub y hy)
  ng := o.ng
  pj := fun kv h => by
    rcases List.mem_append.mp h with h | h
    · exact o.pj kv h
    · cases List.mem_singleton.mp h; exact ha
theorem Ok.finish (o : Ok G q j) : Ok G (Dsk.wo q x) (j.filter fun kv => decide (kv.1 ≠ x)) where
  nq := o.wo.nq
  nj := o.nj.sublist keys_filter_sub
  gq := o.wo.gq
  gj := fun y hy => o.gj y (keys_filter_sub.subset hy)
  lq := o.wo.lq
  lj := Nat.le_trans (List.length_filter_le _ _) o.lj
  sub := fun y hy => by
    rw [given_wo, List.mem_filter] at hy
    obtain ⟨kv, h1, h2⟩ := List.mem_map.mp (o.sub y hy.1)
    refine List.mem_map.mpr ⟨kv, List.mem_filter.mpr ⟨h1, ?_⟩, h2⟩
    have : y ≠ x := of_decide_eq_true hy.2
    exact decide_eq_true (by rw [h2]; exact this)
  ng := o.wo.ng
  pj := fun kv h => o.pj kv (List.mem_filter.mp h).1
theorem Ok.nil : Ok G [] [] := ⟨List.nodup_nil, List.nodup_nil, fun _ h => (by cases h), fun _ h => (by cases h), by decide, by decide, fun _ h => (by cases h), List.nodup_nil, fun _ h => (by cases h)⟩
end
end Dsk
set_option Elab.async false
set_option linter.all false
set_option maxRecDepth 100000
set_option maxHeartbeats 2000000
namespace Dsk
open Mw
section
variable {G : TK → Prop} {q q' : Qs} {j : Js} {x y m : TK}
theorem loads_mem {n : Int} : (n, m) ∈ loads j q ↔ ∃ l, (m, l) ∈ q ∧ n = load j l := by
  unfold loads
  rw [List.mem_map]
  constructor
  · rintro ⟨kv, h1, h2⟩
    cases h2
    exact ⟨kv.2, h1, rfl⟩
  · rintro ⟨l, h1, rfl⟩
    exact ⟨(m, l), h1, rfl⟩
theorem least_is (hq : q ≠ []) : ∃ p : Int × TK, p ∈ loads j q ∧ least j q = p.2 ∧ ∀ p2 ∈ loads j q, leP p p2 = true := by
  unfold least
  cases e : loads j q with
  | nil => exact absurd (List.map_eq_nil_iff.mp e) hq
  | cons x r => exact ⟨bestP x r, bestP_mem r x, rfl, fun p2 h => bestP_le r x p2 h⟩
theorem least_mem (hq : q ≠ []) : least j q ∈ keys q := by
  obtain ⟨p, h1, h2, _⟩ := least_is (j := j) hq
  rw [h2]
  obtain ⟨l, h3, _⟩ := loads_mem.mp (show (p.1, p.2) ∈ loads j q from h1)
  exact List.mem_map.mpr ⟨_, h3, rfl⟩
theorem least_le (hn : (keys q).Nodup) (hq : q ≠ []) {l l2 : List TK} (h : lk (least j q) q = some l) (h2 : lk m q = some l2) : load j l ≤ load j l2 := by
  obtain ⟨p, h3, h4, h5⟩ := least_is (j := j) hq
  obtain ⟨l', h6, h7⟩ := loads_mem.mp (show (p.1, p.2) ∈ loads j q from h3)
  have e := lk_of_mem hn h6
  rw [h4] at h
  have e2 : l' = l := Option.some.inj (e.symm.trans h)
  subst e2
  have := h5 (load j l2, m) (loads_mem.mpr ⟨l2, mem_of_lk h2, rfl⟩)
  have := of_decide_eq_true this
  rcases this with h | h
  · have : p.1 < load j l2 := h
    omega
  · have : p.1 = load j l2 := h.1
    omega
theorem order_perm (ws : List TK) : (order j ws).Perm ws := by
  unfold order
  have h : ((srtP (ws.map fun x => (-(len j x), x))).map (·.2)).Perm ((ws.map fun x => (-(len j x), x)).map (·.2)) := (List.mergeSort_perm _ _).map _
  refine h.trans ?_
  rw [List.map_map]
  have e : ws.map ((fun p : Int × TK => p.2) ∘ fun x => (-(len j x), x)) = ws := (List.map_congr_left fun x _ => rfl).trans (List.map_id ws)
  rw [e]
theorem order_mem {ws : List TK} : x ∈ order j ws ↔ x ∈ ws := (order_perm ws).mem_iff
theorem order_pairs (ws : List TK) : (order j ws).map (fun x => (-(len j x), x)) = srtP (ws.map fun x => (-(len j x), x)) := by
  unfold order
  rw [List.map_map]
  refine (List.map_congr_left fun p hp => ?_).trans (List.map_id _)
  have := List.mem_mergeSort.mp hp
  obtain ⟨x, _, rfl⟩ := List.mem_map.mp this
  rfl
theorem order_sorted (ws : List TK) : ((order j ws).map fun x => (-(len j x), x)).Pairwise fun a b => leP a b = true := by
  rw [order_pairs]
  exact srtP_sorted _
theorem load_app {a b : List TK} : load j (a ++ b) = load j a + load j b := by
  unfold load
  induction a with
  | nil => show _ = 0 + _; rw [Int.zero_add]; rfl
  | cons x r ih =>
    show len j x + sumI ((r ++ b).map (len j)) = (len j x + sumI (r.map (len j))) + _
    rw [ih]; omega
theorem load_one : load j [x] = len j x := by
  show len j x + 0 = _
  omega
structure Inv (G : TK → Prop) (q0 : Qs) (j : Js) (big : Int) (done : List TK) (q' : Qs) : Prop where
  ok : Ok G q' j
  ks : keys q' = keys q0
  gv : ∀ x, x ∈ given q' ↔ x ∈ done ∨ x ∈ given q0
  rs : ∃ R : TK → List TK, (∀ m l0, lk m q0 = some l0 → lk m q' = some (l0 ++ R m) ∧ (R m).Sublist done) ∧ ∀ m l, lk m q' = some l → R m ≠ [] → ∀ m2 l2, lk m2 q' = some l2 → load j l ≤ load j l2 + big
theorem Inv.start (o : Ok G q j) {big : Int} : Inv G q j big [] q := ⟨o, rfl, fun x => by simp, fun _ => [], fun m l0 h => ⟨by rw [List.append_nil]; exact h, List.Sublist.refl _⟩, fun m l _ h => absurd rfl h⟩
theorem Inv.step {q0 : Qs} {big : Int} {done : List TK} (I : Inv G q0 j big done q') (h0 : q0 ≠ []) (hx : x ∈ keys j) (hd : x ∉ done) (hg : x ∉ given q0) (hl : len j x ≤ big) : Inv G q0 j big (done ++ [x]) (put1 j q' x) := by
  have hq : q' ≠ [] := fun e => by
    have := I.ks
    rw [e] at this
    exact h0 (List.map_eq_nil_iff.mp this.symm)
  have hm := least_mem (j := j) hq
  obtain ⟨l, el⟩ := lk_some.mpr hm
  have hgx : x ∉ given q' := fun h => ((I.gv x).mp h).elim hd hg
  have hp : (l ++ [x]).Perm (x :: l) := List.perm_append_comm (l₁ := l) (l₂ := [x])
  have e1 : put1 j q' x = putT q' (least j q') (l ++ [x]) := by unfold put1; rw [el]; rfl
  rw [e1]
  obtain ⟨R, hR, hB⟩ := I.rs
  have hx1 := I.ok.pos hx
  refine ⟨I.ok.put hx hgx el hp, by rw [putT_keys hm]; exact I.ks, fun z => ?_, fun m => if least j q' = m then R m ++ [x] else R m, fun m l0 h => ?_, fun m l1 h hr m2 l2 h2 => ?_⟩
  · rw [(put_given I.ok el hp).mem_iff, List.mem_cons, I.gv z, List.mem_append, List.mem_singleton]
    constructor
    · rintro (h | h | h)
      · exact .inl (.inr h)
      · exact .inl (.inl h)
      · exact .inr h
    · rintro ((h | h) | h)
      · exact .inr (.inl h)
      · exact .inl h
      · exact .inr (.inr h)
  · obtain ⟨h1, h2⟩ := hR m l0 h
    rw [lk_put hm]
    by_cases e : least j q' = m
    · simp only [if_pos e]
      subst e
      rw [h1] at el
      rw [← Option.some.inj el, List.append_assoc]
      exact ⟨rfl, h2.append_right [x]⟩
    · simp only [if_neg e]
      exact ⟨h1, h2.trans (List.sublist_append_left _ _)⟩
  · rw [lk_put hm] at h h2
    have hle := fun m3 l3 (h3 : lk m3 q' = some l3) => least_le I.ok.nq hq el h3
    have el2 : load j (l ++ [x]) = load j l + len j x := by rw [load_app, load_one]
    by_cases e : least j q' = m
    · rw [if_pos e] at h
      cases Option.some.inj h
      by_cases e2 : least j q' = m2
      · rw [if_pos e2] at h2
        cases Option.some.inj h2
        omega
      · rw [if_neg e2] at h2
        have := hle m2 l2 h2
        omega
    · rw [if_neg e] at h
      simp only [if_neg e] at hr
      by_cases e2 : least j q' = m2
      · rw [if_pos e2] at h2
        cases Option.some.inj h2
        have := hB m l1 h hr (least j q') l el
        omega
      · rw [if_neg e2] at h2
        exact hB m l1 h hr m2 l2 h2
theorem inv_go {q0 : Qs} {big : Int} (h0 : q0 ≠ []) : ∀ (rest done : List TK) (q' : Qs), (done ++ rest).Nodup → (∀ x ∈ rest, x ∈ keys j ∧ x ∉ given q0 ∧ len j x ≤ big) → Inv G q0 j big done q' → Inv G q0 j big (done ++ rest) (rest.foldl (put1 j) q')
  | [], done, q', _, _, I => by rw [List.append_nil]; exact I
  | x :: rest, done, q', hn, hr, I => by
    obtain ⟨h1, h2, h3⟩ := hr x List.mem_cons_self
    have hd : x ∉ done := fun h => (List.nodup_append.mp hn).2.2 x h x List.mem_cons_self rfl
    have := inv_go h0 rest (done ++ [x]) (put1 j q' x) (by rw [List.append_assoc]; exact hn) (fun y hy => hr y (List.mem_cons_of_mem _ hy)) (I.step h0 h1 hd h2 h3)
    rw [List.append_assoc] at this
    exact this
theorem settled_inv (o : Ok G q j) (h : q ≠ []) {big : Int} (hb : ∀ x ∈ wt q j, len j x ≤ big) : Inv G q j big (order j (wt q j)) (settled q j) :=
  inv_go h (order j (wt q j)) [] q (by rw [List.nil_append]; exact (order_perm _).nodup_iff.mpr (wt_nodup o)) (fun x hx => by
    rw [order_mem] at hx
    exact ⟨(wt_mem.mp hx).1, (wt_mem.mp hx).2, hb x hx⟩) (Inv.start o)
theorem settled_none (h : wt q j = []) : settled q j = q := by
  have e : order j ([] : List TK) = [] := List.Perm.eq_nil (order_perm [])
  unfold settled
  rw [h, e]
  rfl
theorem big_ex (q : Qs) (j : Js) : ∃ big : Int, ∀ x ∈ wt q j, len j x ≤ big := by
  generalize wt q j = l
  induction l with
  | nil => exact ⟨0, fun _ h => by cases h⟩
  | cons a l ih =>
    obtain ⟨b, hb⟩ := ih
    refine ⟨if b ≤ len j a then len j a else b, fun x hx => ?_⟩
    rcases List.mem_cons.mp hx with e | h
    · subst e; split <;> omega
    · have := hb x h; split <;> omega
theorem Ok.settled (o : Ok G q j) (h : q ≠ [] ∨ wt q j = []) : Ok G (settled q j) j := by
  rcases h with h | h
  · obtain ⟨b, hb⟩ := big_ex q j
    exact (settled_inv o h hb).ok
  · rw [settled_none h]; exact o
theorem wt_settled (o : Ok G q j) (h : q ≠ [] ∨ wt q j = []) : wt (Dsk.settled q j) j = [] := by
  rcases h with h | h
  · obtain ⟨b, hb⟩ := big_ex q j
    have I := settled_inv o h hb
    rw [List.eq_nil_iff_forall_not_mem]
    intro x hx
    obtain ⟨h1, h2⟩ := wt_mem.mp hx
    rw [I.gv, order_mem] at h2
    have h3 : x ∉ wt q j := fun h => h2 (.inl h)
    exact h3 (wt_mem.mpr ⟨h1, fun h => h2 (.inr h)⟩)
  · rw [settled_none h]; exact h
end
end Dsk
set_option Elab.async false
set_option linter.all false
set_option maxRecDepth 100000
set_option maxHeartbeats 2000000
namespace Dsk
open Mw
def endsFrom (j : Js) : Int → List TK → List (TK × Int)
  | _, [] => []
  | t, x :: r => (x, t + len j x) :: endsFrom j (t + len j x) r
def ends (j : Js) (l : List TK) : List (TK × Int) := endsFrom j 0 l
def aSI (p : TK × Int) : AV := .tup [.str p.1, .int p.2]
def lateOf (j : Js) (l : List TK) : List TK := ((ends j l).filter fun p => decide (due j p.1 < p.2)).map (·.1)
def qOf (q : Qs) (m : TK) : List TK := (lk m q).getD []
def lates (q : Qs) (j : Js) (ms : List TK) : List TK := (ms.map fun m => lateOf j (qOf q m)).flatten
section
variable {G : TK → Prop} {q q' : Qs} {j : Js} {x y m : TK}
theorem endsFrom_app : ∀ (l : List TK) (t : Int), endsFrom j t (l ++ [x]) = endsFrom j t l ++ [(x, t + load j l + len j x)]
  | [], t => by
    show [(x, t + len j x)] = [(x, t + 0 + len j x)]
    rw [Int.add_zero]
  | y :: r, t => by
    show (y, t + len j y) :: endsFrom j (t + len j y) (r ++ [x]) = (y, t + len j y) :: (endsFrom j (t + len j y) r ++ [(x, t + (len j y + load j r) + len j x)])
    rw [endsFrom_app r]
    rw [show t + len j y + load j r + len j x = t + (len j y + load j r) + len j x by omega]
theorem ends_app {l : List TK} : ends j (l ++ [x]) = ends j l ++ [(x, load j l + len j x)] := by
  unfold ends
  rw [endsFrom_app, Int.zero_add]
theorem endsFrom_len : ∀ (l : List TK) (t : Int), (endsFrom j t l).length = l.length
  | [], _ => rfl
  | y :: r, t => by
    show (endsFrom j _ r).length + 1 = r.length + 1
    rw [endsFrom_len r]
theorem ends_len {l : List TK} : (ends j l).length = l.length := endsFrom_len l 0
theorem endsFrom_fst : ∀ (l : List TK) (t : Int), (endsFrom j t l).map (·.1) = l
  | [], _ => rfl
  | y :: r, t => by
    show y :: (endsFrom j _ r).map (·.1) = y :: r
    rw [endsFrom_fst r]
theorem ends_mem {l : List TK} {p : TK × Int} (h : p ∈ ends j l) : p.1 ∈ l := by
  have := endsFrom_fst (j := j) l 0
  rw [← this]
  exact List.mem_map.mpr ⟨p, h, rfl⟩
theorem lateOf_mem {l : List TK} (h : x ∈ lateOf j l) : x ∈ l := by
  obtain ⟨p, h1, rfl⟩ := List.mem_map.mp h
  exact ends_mem (List.mem_filter.mp h1).1
theorem lateOf_len {l : List TK} : (lateOf j l).length ≤ l.length := by
  unfold lateOf
  rw [List.length_map]
  have := List.length_filter_le (fun p : TK × Int => decide (due j p.1 < p.2)) (ends j l)
  rw [ends_len] at this
  exact this
theorem qOf_some {l : List TK} (h : lk m q = some l) : qOf q m = l := by
  unfold qOf
  rw [h]; rfl
theorem qOf_ok (h : m ∈ keys q) : lk m q = some (qOf q m) := by
  obtain ⟨l, e⟩ := lk_some.mpr h
  rw [e, qOf_some e]
theorem lates_app {ms : List TK} : lates q j (ms ++ [m]) = lates q j ms ++ lateOf j (qOf q m) := by
  unfold lates
  rw [List.map_append, List.flatten_append]; simp
theorem Ok.qOf_len (o : Ok G q j) (h : m ∈ keys q) : (qOf q m).length ≤ 20 := o.qlen _ (mem_of_lk (qOf_ok h))
theorem Ok.qOf_in (o : Ok G q j) (h : m ∈ keys q) (hx : x ∈ qOf q m) : x ∈ keys j := o.inj (mem_of_lk (qOf_ok h)) hx
theorem lates_len (o : Ok G q j) : ∀ {ms : List TK}, (∀ m ∈ ms, m ∈ keys q) → (lates q j ms).length ≤ 20 * ms.length
  | [], _ => Nat.zero_le _
  | m :: r, h => by
    have h1 := lates_len o (ms := r) fun y hy => h y (List.mem_cons_of_mem _ hy)
    have h2 := o.qOf_len (h m List.mem_cons_self)
    have h3 := lateOf_len (j := j) (l := qOf q m)
    show (lateOf j (qOf q m) ++ lates q j r).length ≤ 20 * (r.length + 1)
    rw [List.length_append]; omega
def viewA (q : Qs) (j : Js) : AV := .lst [.lst ((srt (keys q)).map .str), .lst ((wt q j).map .str), .lst ((srt (keys q)).map fun m => .lst ((qOf q m).map .str)), .lst ((srt (keys q)).map fun m => .lst ((ends j (qOf q m)).map aSI)), .lst ((srt (lates q j (srt (keys q)))).map .str)]
theorem lateOf_app {l : List TK} : lateOf j (l ++ [x]) = lateOf j l ++ if due j x < load j l + len j x then [x] else [] := by
  unfold lateOf
  rw [ends_app, List.filter_append, List.map_append]
  by_cases h : due j x < load j l + len j x
  · rw [if_pos h, List.filter_cons_of_pos (by exact decide_eq_true h)]; rfl
  · rw [if_neg h, List.filter_cons_of_neg (by rw [decide_eq_true_eq]; exact h)]; rfl
end
end Dsk
set_option Elab.async false
set_option linter.all false
set_option maxRecDepth 100000
set_option maxHeartbeats 2000000
namespace Dsk
open Mw
inductive Ch where
  | add (x : TK) | close (x : TK) | take (x : TK) (a b : Int) | give (x m : TK) | call (x : TK) | hurry (x : TK) | fin (x : TK) | settle
abbrev wAdd : TK := [97, 100, 100, 95, 109, 97, 99, 104, 105, 110, 101]
abbrev wClose : TK := [99, 108, 111, 115, 101, 95, 109, 97, 99, 104, 105, 110, 101]
abbrev wTake : TK := [116, 97, 107, 101, 95, 105, 110]
abbrev wGive : TK := [103, 105, 118, 101, 95, 111, 117, 116]
abbrev wCall : TK := [99, 97, 108, 108, 95, 98, 97, 99, 107]
abbrev wHurry : TK := [104, 117, 114, 114, 121]
abbrev wFin : TK := [102, 105, 110, 105, 115, 104]
abbrev wSettle : TK := [115, 101, 116, 116, 108, 101]
def Ch.wd : Ch → TK
  | .add _ => wAdd | .close _ => wClose | .take _ _ _ => wTake | .give _ _ => wGive | .call _ => wCall | .hurry _ => wHurry | .fin _ => wFin | .settle => wSettle
def Ch.args : Ch → List AV
  | .add x => [.str x] | .close x => [.str x] | .take x a b => [.str x, .int a, .int b] | .give x m => [.str x, .str m] | .call x => [.str x] | .hurry x => [.str x] | .fin x => [.str x] | .settle => []
def Ch.Nm (G : TK → Prop) : Ch → Prop
  | .add x => G x | .close x => G x | .take x _ _ => G x | .give x m => G x ∧ G m | .call x => G x | .hurry x => G x | .fin x => G x | .settle => True
inductive Rs where
  | ok (q : Qs) (j : Js) | err (w : TK) (v : AV)
abbrev eTaken : TK := [116, 97, 107, 101, 110]
abbrev eMany : TK := [109, 97, 110, 121]
abbrev eLength : TK := [108, 101, 110, 103, 116, 104]
abbrev eDue : TK := [100, 117, 101]
abbrev eUnknown : TK := [117, 110, 107, 110, 111, 119, 110]
abbrev eWaits : TK := [119, 97, 105, 116, 115]
abbrev eMachines : TK := [109, 97, 99, 104, 105, 110, 101, 115]
abbrev eTold : TK := [116, 111, 108, 100]
def dd (q : Qs) (j : Js) : Ch → Rs
  | .add x => if (hasK x q || hasK x j) = true then .err eTaken (.str x) else if (q.length : Int) = 5 then .err eMany (.int 6) else .ok (q ++ [(x, [])]) j
  | .take x a b => if (hasK x q || hasK x j) = true then .err eTaken (.str x) else if (j.length : Int) = 20 then .err eMany (.int 21) else
      if (decide (1 ≤ a) && decide (a ≤ 60)) = true then (if (decide (0 ≤ b) && decide (b ≤ 600)) = true then .ok q (j ++ [(x, (a, b))]) else .err eDue (.int b)) else .err eLength (.int a)
  | .settle => if q = [] ∧ wt q j ≠ [] then .err eMachines .non else .ok (settled q j) j
  | .close x => if hasK x q = true then .ok (q.filter fun kv => decide (kv.1 ≠ x)) j else .err eUnknown (.str x)
  | .fin x => if hasK x j = true then .ok (wo q x) (j.filter fun kv => decide (kv.1 ≠ x)) else .err eUnknown (.str x)
  | .give x m => if hasK x j = true then (if hasK m q = true then .ok (mv q x (some m) false) j else .err eUnknown (.str m)) else .err eUnknown (.str x)
  | .call x => if hasK x j = true then (match mo q x with
      | none => .err eWaits (.str x)
      | some _ => .ok (wo q x) j) else .err eUnknown (.str x)
  | .hurry x => if hasK x j = true then (match mo q x with
      | none => .err eWaits (.str x)
      | some m => .ok (mv q x (some m) true) j) else .err eUnknown (.str x)
def Rs.av : Rs → AV
  | .ok q j => .lst [.str eTold, stL q j]
  | .err w v => .lst [.str w, v]
def Rs.told : Rs → AV
  | .ok _ _ => .lst [.str eTold, .non]
  | .err w v => .lst [.str w, v, .bl true]
section
variable {G : TK → Prop} {q : Qs} {j : Js}
theorem Rs.okAll (o : Ok G q j) {c : Ch} (hc : c.Nm G) {q2 : Qs} {j2 : Js} (e : dd q j c = .ok q2 j2) : Ok G q2 j2 := by
  cases c with
  | add x =>
    simp only [dd] at e
    split at e
    · cases e
    · rename_i h1
      split at e
      · cases e
      · rename_i h2
        cases e
        have hk : x ∉ keys q := fun h => h1 (by rw [has_mem.mpr h]; rfl)
        have := o.lq
        exact o.add hc hk (by omega)
  | close x =>
    simp only [dd] at e
    split at e
    · cases e; exact o.close
    · cases e
  | take x a b =>
    simp only [dd] at e
    split at e
    · cases e
    · rename_i h1
      split at e
      · cases e
      · rename_i h2
        split at e
        · rename_i h3
          split at e
          · cases e
            have hk : x ∉ keys j := fun h => h1 (by rw [has_mem.mpr h, Bool.or_true])
            have := o.lj
            exact o.take hc hk (by omega) (of_decide_eq_true (Bool.and_eq_true_iff.mp h3).1)
          · cases e
        · cases e
  | give x m =>
    simp only [dd] at e
    split at e
    · rename_i h1
      split at e
      · rename_i h2
        cases e
        exact o.mv (has_mem.mp h1) fun y hy => by cases hy; exact has_mem.mp h2
      · cases e
    · cases e
  | call x =>
    simp only [dd] at e
    split at e
    · split at e
      · cases e
      · cases e; exact o.wo
    · cases e
  | hurry x =>
    simp only [dd] at e
    split at e
    · rename_i h1
      split at e
      · cases e
      · rename_i m hm
        cases e
        exact o.mv (has_mem.mp h1) fun y hy => by cases hy; exact (mo_some hm).1
    · cases e
  | fin x =>
    simp only [dd] at e
    split at e
    · cases e; exact o.finish
    · cases e
  | settle =>
    simp only [dd] at e
    split at e
    · cases e
    · rename_i h
      cases e
      refine o.settled ?_
      by_cases h1 : q = []
      · by_cases h2 : wt q j = []
        · exact .inr h2
        · exact absurd ⟨h1, h2⟩ h
      · exact .inl h1
def Sc (G : TK → Prop) (v : AV) : Prop := v = .non ∨ (∃ i, v = .int i) ∨ ∃ s, v = .str s ∧ G s
theorem dd_err {c : Ch} (hc : c.Nm G) {w : TK} {v : AV} (e : dd q j c = .err w v) : w ≠ eTold ∧ Sc G v := by
  cases c with
  | give x m =>
    simp only [dd] at e
    split at e
    · split at e
      · cases e
      · cases e; exact ⟨by decide, .inr (.inr ⟨_, rfl, hc.2⟩)⟩
    · cases e; exact ⟨by decide, .inr (.inr ⟨_, rfl, hc.1⟩)⟩
  | _ =>
    simp only [dd] at e
    repeat (first | (cases e; done) | (cases e; exact ⟨by decide, .inr (.inr ⟨_, rfl, hc⟩)⟩) | (cases e; exact ⟨by decide, .inr (.inl ⟨_, rfl⟩)⟩) | (cases e; exact ⟨by decide, .inl rfl⟩) | split at e)
    all_goals first | (cases e; done) | (cases e; exact ⟨by decide, .inr (.inr ⟨_, rfl, hc⟩)⟩) | (cases e; exact ⟨by decide, .inr (.inl ⟨_, rfl⟩)⟩) | (cases e; exact ⟨by decide, .inl rfl⟩)
theorem wt_nil_iff (h : q = []) : wt q j = [] ↔ j = [] := by
  subst h
  constructor
  · intro e
    cases j with
    | nil => rfl
    | cons kv r =>
      have : kv.1 ∈ wt [] (kv :: r) := wt_mem.mpr ⟨List.mem_cons_self, fun h => by cases h⟩
      rw [e] at this
      cases this
  · intro e
    subst e
    rw [List.eq_nil_iff_forall_not_mem]
    intro x hx
    have := (wt_mem.mp hx).1
    cases this
end
end Dsk
set_option Elab.async false
set_option linter.all false
set_option maxRecDepth 100000
set_option maxHeartbeats 2000000
namespace Dsk
open Mw
section
variable {G : TK → Prop} {q : Qs} {j : Js} {x m : TK}
theorem maxI_ge : ∀ (l : List Int) (x y : Int), y ∈ x :: l → y ≤ maxI x l
  | [], x, y, h => by cases List.mem_singleton.mp h; exact Int.le_refl _
  | z :: r, x, y, h => by
    unfold maxI
    have ih := maxI_ge r (if z > x then z else x)
    have hb := ih _ List.mem_cons_self
    have w1 : x ≤ (if z > x then z else x) := by split <;> omega
    have w2 : z ≤ (if z > x then z else x) := by split <;> omega
    rcases List.mem_cons.mp h with e | h
    · subst e; exact Int.le_trans w1 hb
    · rcases List.mem_cons.mp h with e | h
      · subst e; exact Int.le_trans w2 hb
      · exact ih y (List.mem_cons_of_mem _ h)
theorem maxI_mem : ∀ (l : List Int) (x : Int), maxI x l ∈ x :: l
  | [], x => by simp [maxI]
  | z :: r, x => by
    unfold maxI
    rcases List.mem_cons.mp (maxI_mem r (if z > x then z else x)) with e | h
    · rw [e]; split <;> simp
    · exact List.mem_cons_of_mem _ (List.mem_cons_of_mem _ h)
theorem minI_le : ∀ (l : List Int) (x y : Int), y ∈ x :: l → minI x l ≤ y
  | [], x, y, h => by cases List.mem_singleton.mp h; exact Int.le_refl _
  | z :: r, x, y, h => by
    unfold minI
    have ih := minI_le r (if z < x then z else x)
    have hb := ih _ List.mem_cons_self
    have w1 : (if z < x then z else x) ≤ x := by split <;> omega
    have w2 : (if z < x then z else x) ≤ z := by split <;> omega
    rcases List.mem_cons.mp h with e | h
    · subst e; exact Int.le_trans hb w1
    · rcases List.mem_cons.mp h with e | h
      · subst e; exact Int.le_trans hb w2
      · exact ih y (List.mem_cons_of_mem _ h)
theorem minI_mem : ∀ (l : List Int) (x : Int), minI x l ∈ x :: l
  | [], x => by simp [minI]
  | z :: r, x => by
    unfold minI
    rcases List.mem_cons.mp (minI_mem r (if z < x then z else x)) with e | h
    · rw [e]; split <;> simp
    · exact List.mem_cons_of_mem _ (List.mem_cons_of_mem _ h)
abbrev longest (q : Qs) (j : Js) : Int := maxI 0 ((wt q j).map (len j))
structure Done (q : Qs) (j : Js) (q2 : Qs) (R : TK → List TK) : Prop where
  ks : keys q2 = keys q
  ap : ∀ m ∈ keys q, qOf q2 m = qOf q m ++ R m
  mem : ∀ m ∈ keys q, ∀ x ∈ R m, x ∈ wt q j
  srt : ∀ m ∈ keys q, ((R m).map fun x => (-(len j x), x)).Pairwise fun a b => leP a b = true
  near : ∀ m ∈ keys q, R m ≠ [] → ∀ m2 ∈ keys q, load j (qOf q2 m) ≤ load j (qOf q2 m2) + longest q j
theorem settled_done (o : Ok G q j) (h : q ≠ [] ∨ wt q j = []) : ∃ R, Done q j (Dsk.settled q j) R := by
  by_cases h0 : q = []
  · have h1 : wt q j = [] := h.resolve_left fun n => n h0
    refine ⟨fun _ => [], ?_⟩
    rw [settled_none h1]
    exact ⟨rfl, fun m _ => by rw [List.append_nil], fun m _ x hx => (by cases hx), fun m _ => List.Pairwise.nil, fun m _ n => absurd rfl n⟩
  · have I := settled_inv o h0 (big := longest q j) fun x hx => maxI_ge _ 0 _ (List.mem_cons_of_mem _ (List.mem_map.mpr ⟨x, hx, rfl⟩))
    obtain ⟨R, hR, hB⟩ := I.rs
    have hk : ∀ m ∈ keys q, lk m (Dsk.settled q j) = some (qOf q m ++ R m) ∧ (R m).Sublist (order j (wt q j)) := fun m hm => hR m _ (qOf_ok hm)
    refine ⟨R, I.ks, fun m hm => qOf_some (hk m hm).1, fun m hm x hx => order_mem.mp ((hk m hm).2.subset hx), fun m hm => ?_, fun m hm hr m2 hm2 => ?_⟩
    · exact (order_sorted (j := j) (wt q j)).sublist ((hk m hm).2.map _)
    · rw [qOf_some (hk m hm).1, qOf_some (hk m2 hm2).1]
      exact hB m _ (hk m hm).1 hr m2 _ (hk m2 hm2).1
theorem load_pos (o : Ok G q j) : ∀ {l : List TK}, (∀ x ∈ l, x ∈ keys j) → 0 ≤ load j l
  | [], _ => Int.le_refl _
  | x :: r, h => by
    have h1 := o.pos (h x List.mem_cons_self)
    have h2 := load_pos o (l := r) fun y hy => h y (List.mem_cons_of_mem _ hy)
    show 0 ≤ len j x + load j r
    omega
def pSI (p : TK × Int) : PySem.PyData := .tuple [pS p.1, .int p.2]
theorem toD_si {A : AH} {n : Nat} {p : TK × Int} (h : ascii p.1 = true) : toD A (n + 2) (aSI p) = some (pSI p) := by
  show (allM (toD A (n + 1)) [.str p.1, .int p.2]).map PySem.PyData.tuple = _
  unfold allM
  rw [toD_str h]
  unfold allM
  rw [toD_int]
  rfl
theorem eqv_si (x y : TK × Int) : PySem.PyData.eqv (pSI x) (pSI y) = decide (x = y) := by
  show PySem.PyData.eqvAll [pS x.1, .int x.2] [pS y.1, .int y.2] = _
  unfold PySem.PyData.eqvAll
  unfold PySem.PyData.eqvAll
  unfold PySem.PyData.eqvAll
  rw [eqv_int, eqv_str, Bool.eq_iff_iff]
  simp [Prod.ext_iff]
theorem ends_last {l : List TK} (h : l ≠ []) : ∃ a x, ends j l = a ++ [(x, load j l)] := by
  obtain ⟨b, x, e⟩ := (List.eq_nil_or_concat l).resolve_left h
  rw [List.concat_eq_append] at e
  subst e
  refine ⟨ends j b, x, ?_⟩
  rw [ends_app, load_app, load_one]
theorem atI_last {α : Type} {a : List α} {v : α} : L2.atI (a ++ [v]) (-1) = some v := by
  unfold L2.atI L2.ixN
  rw [if_neg (by omega), if_pos (by rw [List.length_append]; show -((a.length + 1 : Nat) : Int) ≤ -1; omega)]
  have e : ((-1 : Int) + ((a ++ [v]).length : Int)).toNat = a.length := by
    rw [List.length_append]; show ((-1 : Int) + ((a.length + 1 : Nat) : Int)).toNat = a.length; omega
  rw [e]
  show (a ++ [v])[a.length]? = some v
  simp
theorem cut_pre {α : Type} {a b : List α} : cutL (a ++ b) none (some (a.length : Int)) = a := by
  unfold cutL
  rw [HT.sIx_none, HT.sIx_nat, Nat.min_eq_left (by rw [List.length_append]; omega)]
  simp
theorem cut_suf {α : Type} {a b : List α} : cutL (a ++ b) (some (a.length : Int)) none = b := by
  unfold cutL
  rw [HT.sIx_none, HT.sIx_nat, Nat.min_eq_left (by rw [List.length_append]; omega)]
  simp
end
end Dsk
set_option Elab.async false
set_option linter.all false
set_option maxRecDepth 100000
set_option maxHeartbeats 2000000
namespace K77
open Mw
section
variable {X : Nat → List (Nat × AV) → AH → Prop} {A A' : AH} {P : AV → AH → Prop}
def Bx (A : AH) (b n : Nat) : Prop := ∃ (b0 : Int) (b1 : Bool) (b2 b3 : Int), A[b]? = some (.lst [.int b0, .bl b1, .int b2, .int b3]) ∧ 0 ≤ b2 ∧ b2 < 2147483629 ∧ 0 ≤ b3 ∧ b3 ≤ n
theorem p_box {g : Int} (h : ∀ i A', A[i]? = none → Bx A' i 0 → Gr A A' → P (.ref i) A') : Ev (m__law_box [.int g] A) P X := by
  refine ev_fnM rfl ?_
  show ES (b__law_box _ _) _ _ _
  unfold b__law_box
  repeat wtm_at "sr"
  refine ⟨rfl, fun i A' n e q => h i A' n ⟨_, _, _, 0, e, Int.emod_nonneg _ (by decide), Int.emod_lt_of_pos _ (by decide), by omega, by omega⟩ q⟩
theorem p_take {b n : Nat} {m : Int} (hb : Bx A b n) (hn : n < 1000000) (hm : 0 < m) (hm2 : m < 1073741824) (h : ∀ (d : Int) A', 0 ≤ d → d < m → Bx A' b (n + 1) → Wr b A A' → P (.int d) A') : Ev (m__law_take [.ref b, .int m] A) P X := by
  obtain ⟨b0, b1, b2, b3, e, h1, h2, h3, h4⟩ := hb
  refine ev_fnM rfl ?_
  show ES (b__law_take _ _) _ _ _
  unfold b__law_take
  repeat wtm_at "sr"
  refine o_ixL (rdS_ref e) (atI_nat (k := 1) rfl) ?_
  have tail : ∀ (y z : Option AV), ES (sSeq (sSub (eVar 0) (eC (.int 3)) (eBin (addA true) (eBin fIx (eVar 0) (eC (.int 3))) (eC (.int 1)))) (sSeq (sSet 3 (eBin modI (eCall cInt (aCons (eBin powI (eBin (addA true) (eBin (addA true) (eBin fIx (eVar 0) (eC (.int 2))) (eBin (mulA true) (eC (.int 15485863)) (eBin fIx (eVar 0) (eC (.int 3))))) (eC (.int 179424673))) (eC (.int 5))) (aNil))) (eC (.int 2147483647)))) (sRet (eBin modI (eCall cInt (aCons (eBin fdivI (eBin modI (eCall cInt (aCons (eBin powI (eBin (addA true) (eBin (mulA true) (eVar 3) (eC (.int 48271))) (eBin (mulA true) (eC (.int 104729)) (eBin fIx (eVar 0) (eC (.int 3))))) (eC (.int 3))) (aNil))) (eC (.int 2147483587))) (eC (.int 64))) (aNil))) (eVar 1)))) [some (.ref b), some (.int m), y, z] A) (fun _ A => P .non A) P (fun c fs _ A => X c fs A) := by
    intro y z
    have c : ∀ z : Int, CMulB 15485863 z = true := fun z => by unfold CMulB; rw [Bool.or_eq_true]; exact .inl (by decide)
    have c2 : ∀ z : Int, CMulB 104729 z = true := fun z => by unfold CMulB; rw [Bool.or_eq_true]; exact .inl (by decide)
    have c3 : ∀ z : Int, CMulB z 48271 = true := fun z => by unfold CMulB; rw [Bool.or_eq_true]; exact .inr (by decide)
    have pw : ∀ z : Int, 0 ≤ z → z < 18446744073709551616 → ∀ j : Int, 0 ≤ j → j ≤ 1000 → CPowB z j = true := fun z z1 z2 j j1 j2 => by
      unfold CPowB
      rw [Bool.and_eq_true]
      exact ⟨decide_eq_true ⟨j1, by omega⟩, decide_eq_true (by omega)⟩
    wtm_at "sr"; wtm_at "sr"; wtm_at "sr"; wtm_at "sr"; wtm_at "sr"; wtm_at "sr"
    refine o_ixL (rdS_ref e) (atI_nat (k := 3) rfl) ?_
    wtm_at "sr"; wtm_at "sr"; wtm_at "sr"; wtm_at "sr"
    refine ⟨_, fput_at (k := 3) e (by show 3 < 4; decide), ?_⟩
    have e' := set_at (o := .lst [.int b0, .bl b1, .int b2, .int (b3 + 1)]) e
    have w : Wr b A (A.set b (.lst [.int b0, .bl b1, .int b2, .int (b3 + 1)])) := Wr.set
    show ES _ _ _ _
    generalize hA : (A.set b (.lst ([AV.int b0, AV.bl b1, AV.int b2, AV.int b3].set 3 (AV.int (b3 + 1))))) = A4
    have hA2 : A.set b (.lst [.int b0, .bl b1, .int b2, .int (b3 + 1)]) = A4 := hA
    rw [hA2] at e' w
    wtm_at "sr"; wtm_at "sr"; wtm_at "sr"; wtm_at "sr"; wtm_at "sr"; wtm_at "sr"; wtm_at "sr"; wtm_at "sr"; wtm_at "sr"; wtm_at "sr"; wtm_at "sr"
    refine o_ixL (rdS_ref e') (atI_nat (k := 2) rfl) ?_
    wtm_at "sr"; wtm_at "sr"; wtm_at "sr"; wtm_at "sr"; wtm_at "sr"
    refine o_ixL (rdS_ref e') (atI_nat (k := 3) rfl) ?_
    refine o_mul (c _) ?_
    wtm_at "sr"; wtm_at "sr"; wtm_at "sr"; wtm_at "sr"
    refine o_pow (pw _ (by omega) (by omega) _ (by decide) (by decide)) ?_
    wtm_at "sr"; wtm_at "sr"; wtm_at "sr"; wtm_at "sr"
    have m1 := Int.emod_nonneg ((b2 + 15485863 * (b3 + 1) + 179424673) ^ Int.toNat 5) (show (2147483647 : Int) ≠ 0 by decide)
    have m2 := Int.emod_lt_of_pos ((b2 + 15485863 * (b3 + 1) + 179424673) ^ Int.toNat 5) (show (0 : Int) < 2147483647 by decide)
    generalize ((b2 + 15485863 * (b3 + 1) + 179424673) ^ Int.toNat 5) % 2147483647 = mx at m1 m2 ⊢
    repeat wtm_at "sr"
    refine o_mul (c3 _) ?_
    repeat wtm_at "sr"
    refine o_ixL (rdS_ref e') (atI_nat (k := 3) rfl) ?_
    refine o_mul (c2 _) ?_
    repeat wtm_at "sr"
    refine o_pow (pw _ (by omega) (by omega) _ (by decide) (by decide)) ?_
    repeat wtm_at "sr"
    exact h _ A4 (Int.emod_nonneg _ (by omega)) (Int.emod_lt_of_pos _ hm) ⟨b0, b1, b2, b3 + 1, e', h1, h2, by omega, by omega⟩ w
  refine ⟨b1, rfl, fun _ => ?_, fun _ => ⟨fun z => (by cases z), fun _ => ?_⟩⟩
  · repeat wtm_at "sr"
    refine o_ixL (rdS_ref e) (atI_nat (k := 0) rfl) ?_
    repeat wtm_at "sr"
    refine ⟨_, rfl, fun hc => ?_, fun _ => ?_⟩
    · repeat wtm_at "sr"
      refine o_ixL (rdS_ref e) (atI_nat (k := 0) rfl) ?_
      repeat wtm_at "sr"
      refine o_ixL (rdS_ref e) (atI_nat (k := 0) rfl) ?_
      repeat wtm_at "sr"
      refine ⟨_, fput_at (k := 0) e (by show 0 < 4; decide), ?_⟩
      have e' := set_at (o := .lst [.int (b0 / m), .bl b1, .int b2, .int b3]) e
      repeat wtm_at "sr"
      exact h _ _ (Int.emod_nonneg _ (by omega)) (Int.emod_lt_of_pos _ hm) ⟨b0 / m, b1, b2, b3, e', h1, h2, h3, by omega⟩ Wr.set
    · wtm_at "sr"
      exact tail none none
  · wtm_at "sr"
    exact tail none none
theorem p_cell {ns : List Int} {k : Nat} (hl : ns.length ≤ 63) (hk : k < 4) (h : ∀ g, P (.int g) A) : Ev (m__law_cell [.rol (ns.map AV.int), .int (k : Int)] A) P X := by
  refine ev_fnM rfl ?_
  show ES (b__law_cell _ _) _ _ _
  unfold b__law_cell
  repeat wtm_at "ss"
  refine k_lenS (xs := ns.map AV.int) rfl ?_
  repeat wtm_at "ss"
  refine ⟨fun hc => ?_, fun _ => ?_⟩
  · repeat wtm_at "ss"
    have hlt : k < ns.length := by have := of_decide_eq_true hc; rw [List.length_map] at this; omega
    refine o_ixL (xs := ns.map AV.int) rfl (atI_nat (v := .int ns[k]) (by rw [List.getElem?_map, List.getElem?_eq_getElem hlt]; rfl)) ?_
    exact h _
  · repeat wtm_at "ss"
    refine o_mul (by unfold CMulB; rw [Bool.or_eq_true]; exact .inl (by decide)) ?_
    repeat wtm_at "ss"
    refine k_sum (ns := cutL ns none (some 1)) (by show some (cutL (ns.map AV.int) none (some 1)) = _; rw [cutL_map]) ?_
    repeat wtm_at "ss"
    exact h _
theorem p_isint {i : Int} (h : P (.bl true) A) : Ev (m_is_integer [.int i] A) P X := by
  refine ev_fnM rfl ?_
  show ES (b_is_integer _ _) _ _ _
  unfold b_is_integer
  repeat wtm_at "ss"
  refine ⟨fun _ => ?_, fun z => by cases z⟩
  repeat wtm_at "ss"
  exact h
theorem p_btw {i a b : Int} (h : P (.bl (decide (a ≤ i) && decide (i ≤ b))) A) : Ev (m_is_between [.int i, .int a, .int b] A) P X := by
  refine ev_fnM rfl ?_
  show ES (b_is_between _ _) _ _ _
  unfold b_is_between
  repeat wtm_at "ss"
  refine ⟨rfl, p_isint ?_⟩
  repeat wtm_at "ss"
  refine ⟨fun _ => ?_, fun z => by cases z⟩
  repeat wtm_at "ss"
  refine ⟨fun hc => ?_, fun hc => ?_⟩
  · repeat wtm_at "ss"
    rw [hc] at h
    exact h
  · repeat wtm_at "ss"
    rw [hc] at h
    exact h
theorem p_lbtw {i a b : Int} (h : P (.bl (decide (a ≤ i) && decide (i ≤ b))) A) : Ev (m__law_is_between [.int i, .int a, .int b] A) P X := by
  refine ev_fnM rfl ?_
  show ES (b__law_is_between _ _) _ _ _
  unfold b__law_is_between
  repeat wtm_at "ss"
  refine ⟨fun _ => ?_, fun z => by cases z⟩
  repeat wtm_at "ss"
  refine ⟨fun _ => ?_, fun z => by cases z⟩
  repeat wtm_at "ss"
  refine ⟨fun hc => ?_, fun hc => ?_⟩
  · repeat wtm_at "ss"
    rw [hc] at h
    exact h
  · repeat wtm_at "ss"
    rw [hc] at h
    exact h
def NM : List (List Nat) := [[97, 120], [98, 121], [99, 111, 103], [100, 114, 105, 108, 108], [101, 100, 103, 101], [102, 105, 108, 101], [103, 101, 97, 114], [104, 97, 109, 109, 101, 114], [105, 114, 111, 110], [106, 105, 103], [107, 105, 116], [108, 97, 116, 104, 101], [122, 122], [115, 97, 119], [109, 105, 108, 108], [98, 101, 110, 99, 104], [97, 114, 109], [108, 101, 103], [116, 111, 112], [114, 97, 105, 108], [107, 110, 111, 98], [112, 101, 103], [115, 101, 97, 116], [98, 97, 99, 107]]
theorem NM_all {Q : List Nat → Prop} (h : Q [97, 120] ∧ Q [98, 121] ∧ Q [99, 111, 103] ∧ Q [100, 114, 105, 108, 108] ∧ Q [101, 100, 103, 101] ∧ Q [102, 105, 108, 101] ∧ Q [103, 101, 97, 114] ∧ Q [104, 97, 109, 109, 101, 114] ∧ Q [105, 114, 111, 110] ∧ Q [106, 105, 103] ∧ Q [107, 105, 116] ∧ Q [108, 97, 116, 104, 101] ∧ Q [122, 122] ∧ Q [115, 97, 119] ∧ Q [109, 105, 108, 108] ∧ Q [98, 101, 110, 99, 104] ∧ Q [97, 114, 109] ∧ Q [108, 101, 103] ∧ Q [116, 111, 112] ∧ Q [114, 97, 105, 108] ∧ Q [107, 110, 111, 98] ∧ Q [112, 101, 103] ∧ Q [115, 101, 97, 116] ∧ Q [98, 97, 99, 107]) : ∀ n ∈ NM, Q n := by
  intro n hn
  simp only [NM, List.mem_cons, List.not_mem_nil, or_false] at hn
  obtain ⟨h0, h1, h2, h3, h4, h5, h6, h7, h8, h9, h10, h11, h12, h13, h14, h15, h16, h17, h18, h19, h20, h21, h22, h23⟩ := h
  rcases hn with rfl | rfl | rfl | rfl | rfl | rfl | rfl | rfl | rfl | rfl | rfl | rfl | rfl | rfl | rfl | rfl | rfl | rfl | rfl | rfl | rfl | rfl | rfl | rfl <;> assumption
theorem name_eq (A : AH) : ∀ n ∈ NM, m_is_name [.str n] A = .ok (.bl true) A := NM_all (by refine ⟨?_, ?_, ?_, ?_, ?_, ?_, ?_, ?_, ?_, ?_, ?_, ?_, ?_, ?_, ?_, ?_, ?_, ?_, ?_, ?_, ?_, ?_, ?_, ?_⟩ <;> rfl)
theorem lname_eq (A : AH) : ∀ n ∈ NM, m__law_letters_name [.str n] A = .ok (.bl true) A := NM_all (by refine ⟨?_, ?_, ?_, ?_, ?_, ?_, ?_, ?_, ?_, ?_, ?_, ?_, ?_, ?_, ?_, ?_, ?_, ?_, ?_, ?_, ?_, ?_, ?_, ?_⟩ <;> rfl)
def Nm (n : List Nat) : Prop := (∀ A, m_is_name [.str n] A = .ok (.bl true) A) ∧ (∀ A, m__law_letters_name [.str n] A = .ok (.bl true) A) ∧ (n.all fun c => Nat.blt c 0x110000) = true ∧ n.length ≤ 8
theorem nm_nm : ∀ n ∈ NM, Nm n := fun n hn => ⟨fun A => name_eq A n hn, fun A => lname_eq A n hn, (by decide +kernel : ∀ n ∈ NM, (n.all fun c => Nat.blt c 0x110000) = true) n hn, (by decide +kernel : ∀ n ∈ NM, n.length ≤ 8) n hn⟩
theorem p_name {n : List Nat} (hn : Nm n) (h : P (.bl true) A) : Ev (m_is_name [.str n] A) P X := ev_eq (hn.1 A) h
theorem p_lname {n : List Nat} (hn : Nm n) (h : P (.bl true) A) : Ev (m__law_letters_name [.str n] A) P X := ev_eq (hn.2.1 A) h
end
end K77
set_option Elab.async false
set_option linter.all false
set_option maxRecDepth 100000
set_option maxHeartbeats 2000000
namespace K77
open Mw Dsk
section
variable {X : Nat → List (Nat × AV) → AH → Prop} {A A' : AH} {P : AV → AH → Prop}
theorem filterMap_str (l : List TK) (p : TK → Bool) : (l.filterMap fun y => if p y = true then some (AV.str y) else none) = (l.filter p).map AV.str := by
  induction l with
  | nil => rfl
  | cons y r ih =>
    by_cases h : p y = true
    · rw [List.filterMap_cons_some (by rw [if_pos h]), List.filter_cons_of_pos h, ih]; rfl
    · rw [List.filterMap_cons_none (by rw [if_neg h]), List.filter_cons_of_neg h, ih]
theorem p_without {q : Qs} {x : TK} (hn : (keys q).Nodup) (hb : q.length ≤ 100) (hb2 : ∀ kv ∈ q, kv.2.length ≤ 100) (h : ∀ A', Gr A A' → P (.dct (qT (wo q x))) A') : Ev (m_without [.dct (qT q), .str x] A) P X := by
  refine ev_fnM rfl ?_
  show ES (b_without _ _) _ _ _
  unfold b_without
  wtm_at "ss"
  refine ev_dc q (fun kv => .tup [.str kv.1, .tup (kv.2.map .str)]) (fun kv => some (.inr kv.1, .tup ((kv.2.filter fun y => decide (y ≠ x)).map .str))) (by show q.length ≤ 16777216; omega) ?_ (fun kv hkv A1 g1 => ⟨_, rfl, ?_⟩) fun A' g => ?_
  · wtm_at "ss"; wtm_at "ss"
    refine ⟨_, rfl, ?_, Gr.refl⟩
    congr 1
    exact eD_items
  · refine ev_tYes ⟨Gr.refl, fun _ => ?_, fun z => by cases z⟩
    wtm_at "ss"
    refine ⟨_, rfl, ?_⟩
    wtm_at "ss"; wtm_at "ss"
    refine ev_lc kv.2 .str (fun y => if decide (y ≠ x) = true then some (.str y) else none) (by have := hb2 kv hkv; show kv.2.length ≤ 16777216; omega) ?_ (fun y hy A2 g2 => ⟨_, rfl, ?_⟩) fun A3 g3 => ?_
    · wtm_at "ss"; wtm_at "ss"
      exact ⟨_, rfl, rfl, Gr.refl⟩
    · repeat wtm_at "ss"
      refine ⟨Gr.refl, fun hc => ?_, fun hc => ?_⟩
      · wtm_at "ss"
        refine ⟨Gr.refl, ?_⟩
        rw [if_pos (by simpa using hc)]
      · rw [if_neg (by simpa using hc)]
    · repeat wtm_at "ss"
      refine ⟨g3, ?_⟩
      rw [filterMap_str]
  · have e : (q.filterMap fun kv => some ((Sum.inr kv.1 : AK), AV.tup ((kv.2.filter fun y => decide (y ≠ x)).map .str))) = qT (wo q x) := by
      unfold qT eD wo
      rw [List.map_map, List.filterMap_eq_map']
      rfl
    rw [e]
    have := merge_all (f := fun l : List TK => AV.tup (l.map .str)) (l := wo q x) (by rw [wo_keys]; exact hn)
    rw [show mergeKA [] (qT (wo q x)) = qT (wo q x) from this]
    exact h A' g
end
end K77
set_option Elab.async false
set_option linter.all false
set_option maxRecDepth 100000
set_option maxHeartbeats 2000000
namespace K77
open Mw Dsk
section
variable {X : Nat → List (Nat × AV) → AH → Prop} {A A' : AH} {P : AV → AH → Prop}
theorem pairsOf_eD {β : Type} {f : β → AV} : ∀ l : List (TK × β), pairsOf (l.map fun kv => AV.tup [.str kv.1, f kv.2]) = some (eD f l)
  | [] => rfl
  | (k, v) :: r => by
    rw [List.map_cons]
    unfold pairsOf
    rw [pairsOf_eD r]
    rfl
theorem filterMap_all {α β : Type} (f : α → β) (l : List α) : (l.filterMap fun x => some (f x)) = l.map f := by rw [List.filterMap_eq_map']
theorem none_back {i : Nat} (g : Gr A A') (n : A'[i]? = none) : A[i]? = none := by
  cases e : A[i]? with
  | none => rfl
  | some o => rw [g i o e] at n; cases n
theorem fput_dct {p : Nat} {kvs : List (AK × AV)} {k : TK} {v : AV} (e : A[p]? = some (.dct kvs)) (hl : Nat.blt kvs.length big = true) : fPut (.ref p) (.str k) v A = some (A.set p (.dct (putKA kvs (.inr k) v))) := by
  show (match A[p]? with
    | some (.lst xs) => (match AV.str k with
      | .int k => (match L2.ixN xs.length k with
        | some j => some (A.set p (.lst (xs.set j v)))
        | none => none)
      | _ => none)
    | some (.dct kvs) => (match keyOf (.str k) with
      | some k => if Nat.blt kvs.length big = true then some (A.set p (.dct (putKA kvs k v))) else none
      | none => none)
    | _ => none) = _
  rw [e]
  show (if Nat.blt kvs.length big = true then some (A.set p (.dct (putKA kvs (.inr k) v))) else none) = _
  rw [if_pos hl]
theorem p_moved {q : Qs} {j : Js} {x : TK} {m : Option TK} {front : Bool} (hn : (keys q).Nodup) (hb : q.length ≤ 100) (hb2 : ∀ kv ∈ q, kv.2.length ≤ 100) (hm : ∀ y, m = some y → y ∈ keys q) (h : ∀ A', Gr A A' → P (stL (mv q x m front) j) A') :
    Ev (m__law_moved [stL q j, .str x, mA m, .bl front] A) P X := by
  refine ev_fnM rfl ?_
  show ES (b__law_moved _ _) _ _ _
  unfold b__law_moved
  wtm_at "ss"; wtm_at "ss"; wtm_at "ss"
  refine ⟨_, _, rfl, ?_⟩
  wtm_at "ss"; wtm_at "ss"
  refine ev_dictPF ?_
  wtm_at "ss"
  refine ev_lc q (fun kv => .str kv.1) (fun kv => some (.tup [.str kv.1, .lst ((kv.2.filter fun y => decide (y ≠ x)).map .str)])) (by show q.length ≤ 16777216; omega) ?_ (fun kv hkv A1 g1 => ⟨_, rfl, ?_⟩) fun A' g => ?_
  · wtm_at "ss"; wtm_at "ss"
    refine ⟨_, rfl, ?_, Gr.refl⟩
    congr 1
    unfold qL eD
    rw [List.map_map]; rfl
  · refine ev_tYes ⟨Gr.refl, fun _ => ?_, fun z => by cases z⟩
    wtm_at "ss"; wtm_at "ss"; wtm_at "ss"; wtm_at "ss"
    refine ev_lc kv.2 .str (fun y => if decide (y ≠ x) = true then some (.str y) else none) (by have := hb2 kv hkv; show kv.2.length ≤ 16777216; omega) ?_ (fun y hy A2 g2 => ⟨_, rfl, ?_⟩) fun A3 g3 => ?_
    · wtm_at "ss"; wtm_at "ss"; wtm_at "ss"; wtm_at "ss"
      refine o_ixD rfl rfl rfl (by unfold qL; rw [lookK_eD, lk_of_mem hn hkv]; rfl) ?_
      exact ⟨_, rfl, rfl, Gr.refl⟩
    · repeat wtm_at "ss"
      refine ⟨Gr.refl, fun hc => ?_, fun hc => ?_⟩
      · wtm_at "ss"
        refine ⟨Gr.refl, ?_⟩
        rw [if_pos (by simpa using hc)]
      · rw [if_neg (by simpa using hc)]
    · repeat wtm_at "ss"
      refine ⟨rfl, g3, ?_⟩
      rw [filterMap_str]
  · wtm_at "ss"
    have e1 : (q.filterMap fun kv => some (AV.tup [.str kv.1, .lst ((kv.2.filter fun y => decide (y ≠ x)).map .str)])) = (wo q x).map fun (kv : TK × List TK) => AV.tup [.str kv.1, .lst (kv.2.map .str)] := by
      rw [filterMap_all]
      unfold wo
      rw [List.map_map]; rfl
    have e2 := pairsOf_eD (f := fun l : List TK => AV.lst (l.map .str)) (wo q x)
    refine ⟨_, _, _, rfl, rfl, rfl, by rw [e1]; exact e2, fun i A2 n e g2 => ?_⟩
    have e3 := merge_all (f := fun l : List TK => AV.lst (l.map .str)) (l := wo q x) (by rw [wo_keys]; exact hn)
    rw [e3] at e
    have hlen : (wo q x).length ≤ 100 := by unfold wo; rw [List.length_map]; exact hb
    cases m with
    | none =>
      repeat wtm_at "ss"
      refine ⟨fun z => (by cases z), fun _ => ?_⟩
      repeat wtm_at "ss"
      refine ev_frzD ?_
      wtm_at "ss"
      refine ⟨i, _, rfl, e, ?_⟩
      repeat wtm_at "ss"
      exact ⟨rfl, h _ (Gr.gone (none_back g n) (g.trans g2))⟩
    | some y =>
      have hy := hm y rfl
      have hy2 : y ∈ keys (wo q x) := by rw [wo_keys]; exact hy
      obtain ⟨l, hl⟩ := lk_some.mpr hy2
      have hlk : lookK (.inr y) (eD (fun l : List TK => AV.lst (l.map .str)) (wo q x)) = some (.lst (l.map .str)) := by rw [lookK_eD, hl]; rfl
      have hll : l.length ≤ 100 := by
        obtain ⟨kv, h1, h2⟩ := List.mem_map.mp (mem_of_lk hl)
        have h3 := hb2 kv h1
        have h4 : l = kv.2.filter fun y => decide (y ≠ x) := by cases h2; rfl
        rw [h4]
        exact Nat.le_trans (List.length_filter_le _ _) h3
      have fin : ∀ (v : List TK), mv q x (some y) front = putT (wo q x) y v → ∀ {τ : AE}, τ[5]? = some (some (.dct (jE j))) → τ[6]? = some (some (.ref i)) → ∃ A4, fPut (.ref i) (.str y) (.lst (v.map .str)) A2 = some A4 ∧ ES (sRet (eLst true (aCons (eFrz (eVar 6)) (aCons (eVar 5) aNil))) τ A4) (fun _ A => P .non A) P (fun c fs _ A => X c fs A) := fun v ev τ t5 t6 => by
        refine ⟨_, fput_dct e (by rw [eD_len]; exact Nat.ble_eq_true_of_le (by show (wo q x).length + 1 ≤ 16777216; omega)), ?_⟩
        rw [putKA_eD (f := fun l : List TK => AV.lst (l.map .str)) (v := v)]
        wtm_at "ss"; wtm_at "ss"; wtm_at "ss"
        refine ev_frzD (ev_var t6 ⟨i, _, rfl, set_at e, ?_⟩)
        wtm_at "ss"
        refine ev_var t5 ?_
        wtm_at "ss"
        refine ⟨rfl, ?_⟩
        have hh := h ((A2.set i (.dct (eD (fun l : List TK => AV.lst (l.map .str)) (putT (wo q x) y v)))).set i .gone) (Gr.gone (none_back g n) (Gr.gone (none_back g n) (g.trans g2)))
        rw [ev] at hh
        exact hh
      repeat wtm_at "ss"
      refine ⟨fun _ => ?_, fun z => by cases z⟩
      wtm_at "ss"; wtm_at "ss"; wtm_at "ss"; wtm_at "ss"
      refine ⟨_, rfl, fun hf => ?_, fun hf => ?_⟩
      · repeat wtm_at "ss"
        refine ⟨rfl, ?_⟩
        repeat wtm_at "ss"
        refine o_ixD (rdS_refD e) (dOf_ref e) rfl hlk ?_
        refine o_catL (xs := [.str x]) (by rw [List.length_map]; exact Nat.ble_eq_true_of_le (by show 1 + l.length ≤ 16777216; omega)) ?_
        repeat wtm_at "ss"
        exact fin (x :: l) (by unfold mv; simp only [hl, hf]; rfl) rfl rfl
      · repeat wtm_at "ss"
        refine o_ixD (rdS_refD e) (dOf_ref e) rfl hlk ?_
        repeat wtm_at "ss"
        refine ⟨rfl, ?_⟩
        refine o_catL (by rw [List.length_map]; exact Nat.ble_eq_true_of_le (by show l.length + 1 ≤ 16777216; omega)) ?_
        repeat wtm_at "ss"
        rw [show l.map AV.str ++ [AV.str x] = (l ++ [x]).map AV.str by rw [List.map_append]; rfl]
        exact fin (l ++ [x]) (by unfold mv; simp only [hl, hf]; rfl) rfl rfl
end
end K77
set_option Elab.async false
set_option linter.all false
set_option maxRecDepth 100000
set_option maxHeartbeats 2000000
namespace K77
open Mw Dsk
section
variable {X : Nat → List (Nat × AV) → AH → Prop} {A A' : AH} {P : AV → AH → Prop}
def Dk (A : AH) (d : Nat) (q : Qs) (j : Js) (n : Nat) : Prop := ∃ hs : List AV, hs.length = n ∧ A[d]? = some (.ins 0 [(12, stD q j), (11, .tup hs), (10, .tup [])])
theorem Dk.gr {d : Nat} {q : Qs} {j : Js} {n : Nat} (h : Dk A d q j n) (g : Gr A A') : Dk A' d q j n := by
  obtain ⟨hs, h1, h2⟩ := h
  exact ⟨hs, h1, g _ _ h2⟩
theorem p_init {d : Nat} (e : A[d]? = some (.ins 0 [])) (h : ∀ A', Dk A' d [] [] 0 → Wr d A A' → P .non A') : Ev (m_Desk___init__ [.ref d] A) P X := by
  refine ev_fnM rfl ?_
  show ES (b_Desk___init__ _ _) _ _ _
  unfold b_Desk___init__
  wtm_at "ss"; wtm_at "ss"; wtm_at "ss"; wtm_at "ss"
  refine ev_dnew fun A1 g1 => ?_
  wtm_at "ss"
  refine ev_dnew fun A2 g2 => ?_
  wtm_at "ss"
  refine ⟨rfl, ?_⟩
  wtm_at "ss"
  refine ⟨d, 0, [], rfl, g2 _ _ (g1 _ _ e), rfl, ?_⟩
  have e2 := set_at (o := .ins 0 [(12, stD [] [])]) (g2 _ _ (g1 _ _ e))
  have w2 : Wr d A (A2.set d (.ins 0 [(12, stD [] [])])) := ((g1.trans g2).wr).trans Wr.set
  wtm_at "ss"; wtm_at "ss"; wtm_at "ss"; wtm_at "ss"
  refine ⟨rfl, ?_⟩
  wtm_at "ss"
  refine ⟨d, 0, _, rfl, e2, rfl, ?_⟩
  have e3 := set_at (o := .ins 0 [(12, stD [] []), (11, .tup [])]) e2
  have w3 : Wr d A ((A2.set d (.ins 0 [(12, stD [] [])])).set d (.ins 0 [(12, stD [] []), (11, .tup [])])) := w2.trans Wr.set
  wtm_at "ss"; wtm_at "ss"; wtm_at "ss"
  refine ⟨rfl, ?_⟩
  wtm_at "ss"
  refine ⟨d, 0, _, rfl, e3, rfl, ?_⟩
  exact h _ ⟨[], rfl, set_at (o := .ins 0 [(12, stD [] []), (11, .tup []), (10, .tup [])]) e3⟩ (w3.trans Wr.set)
theorem p_len {d : Nat} {q : Qs} {j : Js} {n : Nat} (hd : Dk A d q j n) (h : P (.int n) A) : Ev (m_Desk___len__ [.ref d] A) P X := by
  obtain ⟨hs, h1, e⟩ := hd
  subst h1
  refine ev_fnM rfl ?_
  show ES (b_Desk___len__ _ _) _ _ _
  unfold b_Desk___len__
  repeat wtm_at "ss"
  refine ⟨d, 0, _, _, rfl, e, rfl, rfl, ?_⟩
  wtm_at "ss"
  exact k_lenS (xs := hs) rfl h
theorem p_change {d : Nat} {q q2 : Qs} {j j2 : Js} {n : Nat} (hd : Dk A d q j n) (hn : n ≤ 1000) (h : ∀ A', Dk A' d q2 j2 (n + 1) → Wr d A A' → P .non A') : Ev (m_Desk__change [.ref d, .dct (qT q2), .dct (jE j2)] A) P X := by
  obtain ⟨hs, h1, e⟩ := hd
  refine ev_fnM rfl ?_
  show ES (b_Desk__change _ _) _ _ _
  unfold b_Desk__change
  wtm_at "ss"; wtm_at "ss"; wtm_at "ss"; wtm_at "ss"; wtm_at "ss"; wtm_at "ss"
  refine ⟨d, 0, _, _, rfl, e, rfl, rfl, ?_⟩
  refine ⟨hs, rfl, ?_⟩
  wtm_at "ss"; wtm_at "ss"; wtm_at "ss"
  refine ⟨d, 0, _, _, rfl, e, rfl, rfl, ?_⟩
  wtm_at "ss"
  refine ⟨Nat.ble_eq_true_of_le (by rw [List.length_append]; show hs.length + 1 ≤ 16777216; omega), ?_⟩
  wtm_at "ss"
  refine ⟨d, 0, _, rfl, e, rfl, ?_⟩
  have e2 := set_at (o := .ins 0 [(12, stD q j), (11, .tup (hs ++ [stD q j])), (10, .tup [])]) e
  wtm_at "ss"; wtm_at "ss"; wtm_at "ss"; wtm_at "ss"
  refine ⟨rfl, ?_⟩
  wtm_at "ss"
  refine ⟨d, 0, _, rfl, e2, rfl, ?_⟩
  have e3 := set_at (o := .ins 0 [(12, stD q j), (11, .tup (hs ++ [stD q j])), (10, .tup [])]) e2
  repeat wtm_at "ss"
  refine ⟨rfl, ?_⟩
  wtm_at "ss"
  refine ⟨d, 0, _, rfl, e3, rfl, ?_⟩
  exact h _ ⟨hs ++ [stD q j], by rw [List.length_append, h1]; rfl, set_at (o := .ins 0 [(12, stD q2 j2), (11, .tup (hs ++ [stD q j])), (10, .tup [])]) e3⟩ ((Wr.set.trans Wr.set).trans Wr.set)
end
end K77
set_option Elab.async false
set_option linter.all false
set_option maxRecDepth 100000
set_option maxHeartbeats 2000000
namespace K77
open Mw Dsk
section
variable {X : Nat → List (Nat × AV) → AH → Prop} {A A' : AH} {P : AV → AH → Prop}
theorem look_has {β : Type} {f : β → AV} {k : TK} {l : List (TK × β)} : (lookK (.inr k) (eD f l)).isSome = hasK k l := by
  rw [lookK_eD, Option.isSome_map, lk_has]
theorem p_known {β : Type} {f : β → AV} {d : AV} {x : TK} {l : List (TK × β)} (hx : Nm x) (h1 : hasK x l = true → P .non A) (h2 : hasK x l = false → X 9 [(13, .str x)] A) : Ev (m_Desk__check_known [d, .str x, .dct (eD f l)] A) P X := by
  refine ev_fnM rfl ?_
  show ES (b_Desk__check_known _ _) _ _ _
  unfold b_Desk__check_known
  repeat wtm_at "ss"
  refine ⟨rfl, p_name hx ?_⟩
  repeat wtm_at "ss"
  refine ⟨fun z => (by cases z), fun _ => ?_⟩
  repeat wtm_at "ss"
  rw [look_has]
  refine ⟨fun hc => ?_, fun hc => ?_⟩
  · repeat wtm_at "ss"
    exact h2 (by simpa using hc)
  · repeat wtm_at "ss"
    exact h1 (by simpa using hc)
theorem ev_st {d : Nat} {q : Qs} {j : Js} {n : Nat} {τ : AE} {i : Nat} (hd : Dk A d q j n) (t : τ[i]? = some (some (.ref d))) (h : P (stD q j) A) : Ev (eAttr [0] 12 (eVar i) τ A) P X := by
  obtain ⟨hs, _, e⟩ := hd
  wtm_at "ss"
  refine ev_var t ⟨d, 0, _, _, rfl, e, rfl, rfl, h⟩
theorem ev_st0 {d : Nat} {q : Qs} {j : Js} {n : Nat} {τ : AE} {i : Nat} (hd : Dk A d q j n) (t : τ[i]? = some (some (.ref d))) (h : P (.dct (qT q)) A) : Ev (eBin fIx (eAttr [0] 12 (eVar i)) (eC (.int 0)) τ A) P X := by
  wtm_at "ss"
  refine ev_st hd t ?_
  wtm_at "ss"
  exact o_ixL (xs := [.dct (qT q), .dct (jE j)]) rfl (atI_nat (k := 0) rfl) h
theorem ev_st1 {d : Nat} {q : Qs} {j : Js} {n : Nat} {τ : AE} {i : Nat} (hd : Dk A d q j n) (t : τ[i]? = some (some (.ref d))) (h : P (.dct (jE j)) A) : Ev (eBin fIx (eAttr [0] 12 (eVar i)) (eC (.int 1)) τ A) P X := by
  wtm_at "ss"
  refine ev_st hd t ?_
  wtm_at "ss"
  exact o_ixL (xs := [.dct (qT q), .dct (jE j)]) rfl (atI_nat (k := 1) rfl) h
theorem p_new {β : Type} {f : β → AV} {d : Nat} {q : Qs} {j : Js} {n : Nat} {x : TK} {l : List (TK × β)} {m : Int} (hd : Dk A d q j n) (hx : Nm x) (h1 : (hasK x q || hasK x j) = false → ¬ (l.length : Int) = m → P .non A) (h2 : (hasK x q || hasK x j) = true → X 8 [(13, .str x)] A)
    (h3 : (hasK x q || hasK x j) = false → (l.length : Int) = m → X 5 [(14, .int (m + 1))] A) : Ev (m_Desk__check_new [.ref d, .str x, .dct (eD f l), .int m] A) P X := by
  refine ev_fnM rfl ?_
  show ES (b_Desk__check_new _ _) _ _ _
  unfold b_Desk__check_new
  repeat wtm_at "ss"
  refine ⟨rfl, p_name hx ?_⟩
  repeat wtm_at "ss"
  refine ⟨fun z => (by cases z), fun _ => ?_⟩
  have last : (hasK x q || hasK x j) = false → ES (sIf (tB' (eBin eqA (eCall cLen (aCons (eVar 2) aNil)) (eVar 3))) (sRaise1 5 14 (eBin (addA true) (eVar 3) (eC (AV.int 1)))) sNil [some (.ref d), some (.str x), some (.dct (eD f l)), some (.int m)] A) (fun _ A => P .non A) P (fun c fs _ A => X c fs A) := fun hf => by
    repeat wtm_at "ss"
    rw [eD_len]
    refine ⟨fun hc => ?_, fun hc => ?_⟩
    · repeat wtm_at "ss"
      exact h3 hf (of_decide_eq_true hc)
    · repeat wtm_at "ss"
      exact h1 hf (of_decide_eq_false hc)
  wtm_at "ss"; wtm_at "ss"; wtm_at "ss"; wtm_at "ss"; wtm_at "ss"; wtm_at "ss"; wtm_at "ss"
  refine ev_st0 hd rfl ?_
  unfold qT
  wtm_at "ss"; wtm_at "ss"
  rw [look_has]
  refine ⟨fun hc => ?_, fun hc => ?_⟩
  · refine ⟨fun _ => ?_, fun z => by cases z⟩
    repeat wtm_at "ss"
    exact h2 (by rw [hc]; rfl)
  · wtm_at "ss"; wtm_at "ss"; wtm_at "ss"
    refine ev_st1 hd rfl ?_
    unfold jE
    wtm_at "ss"; wtm_at "ss"
    rw [look_has]
    refine ⟨fun hc2 => ?_, fun hc2 => ?_⟩
    · repeat wtm_at "ss"
      exact h2 (by rw [hc, hc2]; rfl)
    · wtm_at "ss"
      exact last (by rw [hc, hc2]; rfl)
end
end K77
set_option Elab.async false
set_option linter.all false
set_option maxRecDepth 100000
set_option maxHeartbeats 2000000
namespace K77
open Mw Dsk
section
variable {X : Nat → List (Nat × AV) → AH → Prop} {A A' : AH} {P : AV → AH → Prop}
theorem nm_ascii : ∀ n, Nm n → ascii n = true := fun n h => h.2.2.1
theorem filterMap_kv {γ : Type} (q : List (TK × γ)) (p : TK × γ → Bool) : (q.filterMap fun kv => if p kv = true then some (AV.str kv.1) else none) = ((q.filter p).map (·.1)).map AV.str := by
  induction q with
  | nil => rfl
  | cons y r ih =>
    by_cases h : p y = true
    · rw [List.filterMap_cons_some (by rw [if_pos h]), List.filter_cons_of_pos h, ih]; rfl
    · rw [List.filterMap_cons_none (by rw [if_neg h]), List.filter_cons_of_neg h, ih]
theorem p_mof {d : Nat} {q : Qs} {j : Js} {n : Nat} {x : TK} (hd : Dk A d q j n) (hb : q.length ≤ 100) (hq : ∀ y ∈ keys q, Nm y) (h : ∀ A', Gr A A' → P (mA (mo q x)) A') : Ev (m_Desk__machine_of [.ref d, .str x] A) P X := by
  refine ev_fnM rfl ?_
  show ES (b_Desk__machine_of _ _) _ _ _
  unfold b_Desk__machine_of
  wtm_at "ss"; wtm_at "ss"
  refine ev_lc q (fun kv => .tup [.str kv.1, .tup (kv.2.map .str)]) (fun kv => if decide (x ∈ kv.2) = true then some (.str kv.1) else none) (by show q.length ≤ 16777216; omega) ?_ (fun kv hkv A1 g1 => ⟨_, rfl, ?_⟩) fun A' g => ?_
  · wtm_at "ss"
    refine ev_st0 hd rfl ?_
    refine ⟨_, rfl, ?_, Gr.refl⟩
    congr 1
    exact eD_items
  · wtm_at "ss"; wtm_at "ss"; wtm_at "ss"; wtm_at "ss"
    refine o_inL (l := kv.2) rfl ?_
    wtm_at "ss"
    refine ⟨Gr.refl, fun hc => ?_, fun hc => by rw [if_neg (by rw [hc]; decide)]⟩
    wtm_at "ss"
    exact ⟨Gr.refl, by rw [if_pos hc]⟩
  · rw [filterMap_kv q fun kv => decide (x ∈ kv.2)]
    have hm : mo q x = ((q.filter fun kv => decide (x ∈ kv.2)).map (·.1)).head? := rfl
    have hall : ∀ y ∈ (q.filter fun kv => decide (x ∈ kv.2)).map (·.1), toD A' 59 (AV.str y) = some (pS y) := fun y hy => toD_str (nm_ascii y (hq y (by
      obtain ⟨kv, h1, h2⟩ := List.mem_map.mp hy
      exact List.mem_map.mpr ⟨kv, (List.mem_filter.mp h1).1, h2⟩)))
    generalize (q.filter fun kv => decide (x ∈ kv.2)).map (·.1) = ms at hm hall ⊢
    wtm_at "ss"; wtm_at "ss"; wtm_at "ss"; wtm_at "ss"; wtm_at "ss"; wtm_at "ss"; wtm_at "ss"
    refine ⟨rfl, ?_⟩
    refine o_neL (g := AV.str) (f := pS) (ys := []) eqv_str hall (fun _ h => by cases h) ?_
    refine ⟨_, rfl, fun hc => ?_, fun hc => ?_⟩
    · cases ms with
      | nil => simp at hc
      | cons y r =>
        repeat wtm_at "ss"
        refine o_ixL (xs := .str y :: r.map .str) rfl (atI_nat (k := 0) rfl) ?_
        have := h A' g
        rw [hm] at this
        exact this
    · cases ms with
      | nil =>
        wtm_at "ss"
        have := h A' g
        rw [hm] at this
        exact this
      | cons y r => simp at hc
end
end K77
set_option Elab.async false
set_option linter.all false
set_option maxRecDepth 100000
set_option maxHeartbeats 2000000
namespace K77
open Mw Dsk
section
variable {X : Nat → List (Nat × AV) → AH → Prop} {A A' : AH} {P : AV → AH → Prop}
theorem dk_ins {d : Nat} {q : Qs} {j : Js} {n mn : Nat} (hd : Dk A d q j n) (h1 : 12 ≠ mn := by decide) (h2 : 11 ≠ mn := by decide) (h3 : 10 ≠ mn := by decide) : isIns 0 mn (.ref d) A = true := by
  obtain ⟨hs, _, e⟩ := hd
  show (match A[d]? with
    | some (.ins c' fs) => Nat.beq c' 0 && (lookF mn fs).isNone
    | _ => false) = true
  rw [e]
  show (true && (lookF mn [(12, stD q j), (11, .tup hs), (10, .tup [])]).isNone) = true
  unfold lookF
  rw [if_neg h1]
  unfold lookF
  rw [if_neg h2]
  unfold lookF
  rw [if_neg h3]
  rfl
theorem qT_put {q : Qs} {x : TK} {l : List TK} : putKA (qT q) (.inr x) (.tup (l.map .str)) = qT (putT q x l) := putKA_eD (f := fun l : List TK => AV.tup (l.map .str))
theorem p_add {d : Nat} {q : Qs} {j : Js} {n : Nat} {x : TK} (hd : Dk A d q j n) (hn : n ≤ 1000) (hb : q.length ≤ 100) (hx : Nm x) (h1 : (hasK x q || hasK x j) = false → ¬ (q.length : Int) = 5 → ∀ A', Dk A' d (putT q x []) j (n + 1) → Wr d A A' → P .non A')
    (h2 : (hasK x q || hasK x j) = true → X 8 [(13, .str x)] A) (h3 : (hasK x q || hasK x j) = false → (q.length : Int) = 5 → X 5 [(14, .int (5 + 1))] A) : Ev (m_Desk_add_machine [.ref d, .str x] A) P X := by
  refine ev_fnM rfl ?_
  show ES (b_Desk_add_machine _ _) _ _ _
  unfold b_Desk_add_machine
  wtm_at "ss"; wtm_at "ss"
  refine ev_st hd rfl ?_
  refine ⟨_, _, rfl, ?_⟩
  wtm_at "ss"; wtm_at "ss"; wtm_at "ss"; wtm_at "ss"
  refine ⟨dk_ins hd, ?_⟩
  repeat wtm_at "ss"
  refine ⟨rfl, p_new (l := q) (f := fun l : List TK => AV.tup (l.map .str)) hd hx (fun c1 c2 => ?_) h2 h3⟩
  wtm_at "ss"; wtm_at "ss"; wtm_at "ss"
  refine ⟨dk_ins hd, ?_⟩
  wtm_at "ss"
  refine ev_dstar ?_
  wtm_at "ss"
  refine ⟨qT q, rfl, Nat.ble_eq_true_of_le (by unfold qT; rw [eD_len]; show q.length + 1 ≤ 16777216; omega), ?_⟩
  wtm_at "ss"
  refine ⟨_, rfl, ?_⟩
  wtm_at "ss"; wtm_at "ss"
  refine ⟨rfl, fun A1 g1 => ?_⟩
  rw [show putKA (qT q) (.inr x) (.tup []) = qT (putT q x []) from qT_put (l := [])]
  repeat wtm_at "ss"
  refine ⟨rfl, p_change (hd.gr g1) hn fun A2 hd2 w2 => h1 c1 c2 A2 hd2 (g1.wr.trans w2)⟩
end
end K77
set_option Elab.async false
set_option linter.all false
set_option maxRecDepth 100000
set_option maxHeartbeats 2000000
namespace K77
open Mw Dsk
end K77
local macro_rules | `(tactic| wtm_at "sx") => `(tactic| first
  | wtm_at "isn"
  | ((with_reducible show Mw.Ev (Mw.eBin Mw.fIx (Mw.eAttr _ _ (Mw.eVar _)) (Mw.eC (Mw.AV.int 0)) _ _) _ _); refine K77.ev_st0 (by assumption) rfl ?_)
  | ((with_reducible show Mw.Ev (Mw.eBin Mw.fIx (Mw.eAttr _ _ (Mw.eVar _)) (Mw.eC (Mw.AV.int 1)) _ _) _ _); refine K77.ev_st1 (by assumption) rfl ?_)
  | ((with_reducible show Mw.Ev (Mw.eAttr _ _ (Mw.eVar _) _ _) _ _); refine K77.ev_st (by assumption) rfl ?_)
  | with_reducible refine Mw.ev_dstar ?_
  | wtm_at "ss"
  | ((with_reducible show ∃ _ _, _); refine ⟨_, _, rfl, ?_⟩)
  | ((with_reducible show _ ∧ _); refine ⟨K77.dk_ins (by assumption), ?_⟩)
  | wtm_at "sl")
namespace K77
open Mw Dsk
section
variable {X : Nat → List (Nat × AV) → AH → Prop} {A A' : AH} {P : AV → AH → Prop}
theorem nf {b : Bool} (h : (!b) = true) : b = false := by cases b <;> first | rfl | cases h
theorem nt {b : Bool} (h : (!b) = false) : b = true := by cases b <;> first | rfl | cases h
theorem blt_eD {β : Type} {f : β → AV} {l : List (TK × β)} (h : l.length ≤ 10000) : Nat.blt (eD f l).length big = true := Nat.ble_eq_true_of_le (by rw [eD_len]; show l.length + 1 ≤ 16777216; omega)
theorem o_ixT {β : Type} {f : β → AV} {l : List (TK × β)} {k : TK} {v : β} (g : lk k l = some v) (h : P (f v) A) : Ev (fIx (.dct (eD f l)) (.str k) A) P X := o_ixD rfl rfl rfl (by rw [lookK_eD, g]; rfl) h
theorem jE_put {j : Js} {x : TK} {a b : Int} : putKA (jE j) (.inr x) (.tup [.int a, .int b]) = jE (putT j x (a, b)) := putKA_eD (f := fun p : Int × Int => AV.tup [.int p.1, .int p.2]) (v := (a, b))
theorem filterMap_ne {β : Type} {f : β → AV} {x : TK} : ∀ l : List (TK × β), (l.filterMap fun kv => if decide (kv.1 ≠ x) = true then some ((Sum.inr kv.1 : AK), f kv.2) else none) = eD f (l.filter fun kv => decide (kv.1 ≠ x))
  | [] => rfl
  | kv :: r => by
    by_cases h : decide (kv.1 ≠ x) = true
    · rw [List.filterMap_cons_some (by rw [if_pos h]), List.filter_cons_of_pos (p := fun kv : TK × β => decide (kv.1 ≠ x)) h, filterMap_ne r]; rfl
    · rw [List.filterMap_cons_none (by rw [if_neg h]), List.filter_cons_of_neg (p := fun kv : TK × β => decide (kv.1 ≠ x)) h, filterMap_ne r]
theorem ev_dcNe {β : Type} {f : β → AV} {l : List (TK × β)} {x : TK} {v : Nat} {a0 a2 a3 : AV} (hn : (keys l).Nodup) (hb : l.length ≤ 100) (tv : ([some a0, some (.str x), some a2, some a3, none, none] : AE)[v]? = some (some (.dct (eD f l))))
    (h : ∀ A', Gr A A' → P (.dct (eD f (l.filter fun kv => decide (kv.1 ≠ x)))) A') : Ev (eFrz (eDc (iItm (eVar v)) (gSeq 2 (gCons' (gN 4) (gCons' (gN 5) gNil'))) (tB' (eBin neA (eVar 4) (eVar 1))) (eVar 4) (eVar 5) [4, 5]) [some a0, some (.str x), some a2, some a3, none, none] A) P X := by
  refine ev_dc l (fun kv => .tup [.str kv.1, f kv.2]) (fun kv => if decide (kv.1 ≠ x) = true then some (.inr kv.1, f kv.2) else none) (by show l.length ≤ 16777216; omega) ?_ (fun kv hkv A1 g1 => ⟨_, rfl, ?_⟩) fun A' g => ?_
  · wtm_at "ss"
    refine ev_var tv ?_
    refine ⟨_, rfl, ?_, Gr.refl⟩
    congr 1
    exact eD_items
  · repeat wtm_at "ss"
    refine ⟨Gr.refl, fun hc => ?_, fun hc => ?_⟩
    · repeat wtm_at "ss"
      refine ⟨Gr.refl, ?_⟩
      rw [if_pos (by simpa using hc)]
    · rw [if_neg (by simpa using hc)]
  · rw [filterMap_ne, merge_all (hn.sublist (List.filter_sublist.map _))]
    exact h A' g
theorem p_close {d : Nat} {q : Qs} {j : Js} {n : Nat} {x : TK} (hd : Dk A d q j n) (hn : n ≤ 1000) (hk : (keys q).Nodup) (hb : q.length ≤ 100) (hx : Nm x) (h1 : hasK x q = true → ∀ A', Dk A' d (q.filter fun kv => decide (kv.1 ≠ x)) j (n + 1) → Wr d A A' → P .non A')
    (h2 : hasK x q = false → X 9 [(13, .str x)] A) : Ev (m_Desk_close_machine [.ref d, .str x] A) P X := by
  refine ev_fnM rfl ?_
  show ES (b_Desk_close_machine _ _) _ _ _
  unfold b_Desk_close_machine
  repeat wtm_at "sx"
  refine p_known (l := q) (f := fun l : List TK => AV.tup (l.map .str)) hx (fun c => ?_) h2
  repeat wtm_at "sx"
  refine ev_dcNe (v := 2) (f := fun l : List TK => AV.tup (l.map .str)) hk hb rfl fun A1 g1 => ?_
  repeat wtm_at "sx"
  exact p_change (hd.gr g1) hn fun A2 hd2 w2 => h1 c A2 hd2 (g1.wr.trans w2)
theorem p_tin {d : Nat} {q : Qs} {j : Js} {n : Nat} {x : TK} {a b : Int} (hd : Dk A d q j n) (hn : n ≤ 1000) (hb : j.length ≤ 100) (hx : Nm x)
    (h1 : (hasK x q || hasK x j) = false → ¬ (j.length : Int) = 20 → (decide (1 ≤ a) && decide (a ≤ 60)) = true → (decide (0 ≤ b) && decide (b ≤ 600)) = true → ∀ A', Dk A' d q (putT j x (a, b)) (n + 1) → Wr d A A' → P .non A')
    (h2 : (hasK x q || hasK x j) = true → X 8 [(13, .str x)] A) (h3 : (hasK x q || hasK x j) = false → (j.length : Int) = 20 → X 5 [(14, .int (20 + 1))] A)
    (h4 : (hasK x q || hasK x j) = false → ¬ (j.length : Int) = 20 → (decide (1 ≤ a) && decide (a ≤ 60)) = false → X 3 [(15, .int a)] A)
    (h5 : (hasK x q || hasK x j) = false → ¬ (j.length : Int) = 20 → (decide (1 ≤ a) && decide (a ≤ 60)) = true → (decide (0 ≤ b) && decide (b ≤ 600)) = false → X 2 [(15, .int b)] A) : Ev (m_Desk_take_in [.ref d, .str x, .int a, .int b] A) P X := by
  refine ev_fnM rfl ?_
  show ES (b_Desk_take_in _ _) _ _ _
  unfold b_Desk_take_in
  repeat wtm_at "sx"
  refine p_new (l := j) (f := fun p : Int × Int => AV.tup [.int p.1, .int p.2]) hd hx (fun c1 c2 => ?_) h2 h3
  repeat wtm_at "sx"
  refine p_btw ?_
  repeat wtm_at "sx"
  refine ⟨fun c => ?_, fun c3 => ?_⟩
  · repeat wtm_at "sx"
    exact h4 c1 c2 (nf c)
  · have c3 : (decide (1 ≤ a) && decide (a ≤ 60)) = true := nt c3
    repeat wtm_at "sx"
    refine p_btw ?_
    repeat wtm_at "sx"
    refine ⟨fun c => ?_, fun c4 => ?_⟩
    · repeat wtm_at "sx"
      exact h5 c1 c2 c3 (nf c)
    · have c4 : (decide (0 ≤ b) && decide (b ≤ 600)) = true := nt c4
      repeat wtm_at "sx"
      refine ⟨blt_eD (by omega), ?_⟩
      repeat wtm_at "sx"
      intro A1 g1
      rw [jE_put]
      repeat wtm_at "sx"
      exact p_change (hd.gr g1) hn fun A2 hd2 w2 => h1 c1 c2 c3 c4 A2 hd2 (g1.wr.trans w2)
theorem p_give {d : Nat} {q : Qs} {j : Js} {n : Nat} {x m : TK} (hd : Dk A d q j n) (hn : n ≤ 1000) (hk : (keys q).Nodup) (hb : q.length ≤ 100) (hb2 : ∀ kv ∈ q, kv.2.length ≤ 100) (hx : Nm x) (hm : Nm m)
    (h1 : hasK x j = true → hasK m q = true → ∀ A', Dk A' d (mv q x (some m) false) j (n + 1) → Wr d A A' → P .non A')
    (h2 : hasK x j = false → X 9 [(13, .str x)] A) (h3 : hasK x j = true → hasK m q = false → X 9 [(13, .str m)] A) : Ev (m_Desk_give_out [.ref d, .str x, .str m] A) P X := by
  refine ev_fnM rfl ?_
  show ES (b_Desk_give_out _ _) _ _ _
  unfold b_Desk_give_out
  repeat wtm_at "sx"
  refine p_known (l := j) (f := fun p : Int × Int => AV.tup [.int p.1, .int p.2]) hx (fun c1 => ?_) h2
  repeat wtm_at "sx"
  refine p_known (l := q) (f := fun l : List TK => AV.tup (l.map .str)) hm (fun c2 => ?_) (h3 c1)
  repeat wtm_at "sx"
  refine p_without hk hb hb2 fun A1 g1 => ?_
  have hd1 := hd.gr g1
  repeat wtm_at "sx"
  have hw : (wo q x).length ≤ 100 := by unfold wo; rw [List.length_map]; exact hb
  refine ⟨blt_eD (by omega), ?_⟩
  repeat wtm_at "sx"
  obtain ⟨l, hl⟩ := lk_some.mpr (show m ∈ keys (wo q x) by rw [wo_keys]; exact has_mem.mp c2)
  have hll : l.length ≤ 100 := by
    obtain ⟨kv, h1, h2⟩ := List.mem_map.mp (mem_of_lk hl)
    have h3 := hb2 kv h1
    have h4 : l = kv.2.filter fun y => decide (y ≠ x) := by cases h2; rfl
    rw [h4]
    exact Nat.le_trans (List.length_filter_le _ _) h3
  refine o_ixT (f := fun l : List TK => AV.tup (l.map .str)) hl ?_
  repeat wtm_at "sx"
  refine ⟨Nat.ble_eq_true_of_le (by rw [List.length_append, List.length_map]; show l.length + 1 ≤ 16777216; omega), fun A2 g2 => ?_⟩
  repeat wtm_at "sx"
  rw [show l.map AV.str ++ [AV.str x] = (l ++ [x]).map AV.str by rw [List.map_append]; rfl, qT_put]
  refine p_change (hd1.gr g2) hn fun A3 hd3 w3 => h1 c1 c2 A3 ?_ (g1.wr.trans (g2.wr.trans w3))
  have e : mv q x (some m) false = putT (wo q x) m (l ++ [x]) := by unfold mv; simp only [hl]; rfl
  rw [e]; exact hd3
theorem p_checkg {d : Nat} {q : Qs} {j : Js} {n : Nat} {x : TK} (hd : Dk A d q j n) (o : Ok Nm q j) (hx : Nm x) (h1 : ∀ m A', hasK x j = true → mo q x = some m → Gr A A' → P .non A') (h2 : hasK x j = false → X 9 [(13, .str x)] A) (h3 : ∀ A', hasK x j = true → mo q x = none → Gr A A' → X 7 [(20, .str x)] A') : Ev (m_Desk__check_given [.ref d, .str x] A) P X := by
  refine ev_fnM rfl ?_
  show ES (b_Desk__check_given _ _) _ _ _
  unfold b_Desk__check_given
  repeat wtm_at "sx"
  refine p_known (l := j) (f := fun p : Int × Int => AV.tup [.int p.1, .int p.2]) hx (fun c1 => ?_) h2
  repeat wtm_at "sx"
  refine p_mof hd (by have := o.lq; omega) o.gq fun A1 g1 => ?_
  repeat wtm_at "sx"
  cases e : mo q x with
  | none =>
    refine ⟨fun _ => ?_, fun z => by cases z⟩
    repeat wtm_at "sx"
    exact h3 A1 c1 e g1
  | some m =>
    refine ⟨fun z => (by cases z), fun _ => ?_⟩
    repeat wtm_at "sx"
    exact h1 m A1 c1 e g1
theorem p_call {d : Nat} {q : Qs} {j : Js} {n : Nat} {x : TK} (hd : Dk A d q j n) (hn : n ≤ 1000) (o : Ok Nm q j) (hx : Nm x) (h1 : ∀ m, hasK x j = true → mo q x = some m → ∀ A', Dk A' d (wo q x) j (n + 1) → Wr d A A' → P .non A') (h2 : hasK x j = false → X 9 [(13, .str x)] A) (h3 : ∀ A', hasK x j = true → mo q x = none → Gr A A' → X 7 [(20, .str x)] A') : Ev (m_Desk_call_back [.ref d, .str x] A) P X := by
  refine ev_fnM rfl ?_
  show ES (b_Desk_call_back _ _) _ _ _
  unfold b_Desk_call_back
  repeat wtm_at "sx"
  refine p_checkg hd o hx (fun m A1 c1 c2 g1 => ?_) h2 h3
  have hd1 := hd.gr g1
  repeat wtm_at "sx"
  refine p_without o.nq (by have := o.lq; omega) (fun kv h => by have := o.qlen kv h; omega) fun A2 g2 => ?_
  repeat wtm_at "sx"
  exact p_change (hd1.gr g2) hn fun A3 hd3 w3 => h1 m c1 c2 A3 hd3 (g1.wr.trans (g2.wr.trans w3))
theorem p_hurry {d : Nat} {q : Qs} {j : Js} {n : Nat} {x : TK} (hd : Dk A d q j n) (hn : n ≤ 1000) (o : Ok Nm q j) (hx : Nm x) (h1 : ∀ m, hasK x j = true → mo q x = some m → ∀ A', Dk A' d (mv q x (some m) true) j (n + 1) → Wr d A A' → P .non A') (h2 : hasK x j = false → X 9 [(13, .str x)] A) (h3 : ∀ A', hasK x j = true → mo q x = none → Gr A A' → X 7 [(20, .str x)] A') : Ev (m_Desk_hurry [.ref d, .str x] A) P X := by
  refine ev_fnM rfl ?_
  show ES (b_Desk_hurry _ _) _ _ _
  unfold b_Desk_hurry
  repeat wtm_at "sx"
  refine p_checkg hd o hx (fun m A1 c1 c2 g1 => ?_) h2 h3
  have hd1 := hd.gr g1
  repeat wtm_at "sx"
  refine p_mof hd1 (by have := o.lq; omega) o.gq fun A2 g2 => ?_
  have hd2 := hd1.gr g2
  repeat wtm_at "sx"
  refine p_without o.nq (by have := o.lq; omega) (fun kv h => by have := o.qlen kv h; omega) fun A3 g3 => ?_
  have hd3 := hd2.gr g3
  rw [c2]
  show ES _ _ _ _
  repeat wtm_at "sx"
  have ow := o.wo (x := x)
  refine ⟨blt_eD (by have := ow.lq; omega), ?_⟩
  repeat wtm_at "sx"
  obtain ⟨l, hl⟩ := lk_some.mpr (show m ∈ keys (wo q x) by rw [wo_keys]; exact (mo_some c2).1)
  have hll := ow.qlen _ (mem_of_lk hl)
  refine o_ixT (f := fun l : List TK => AV.tup (l.map .str)) hl ?_
  repeat wtm_at "sx"
  refine ⟨Nat.ble_eq_true_of_le (by rw [List.length_cons, List.append_nil, List.length_map]; show l.length + 1 ≤ 16777216; have : l.length ≤ 20 := hll; omega), fun A4 g4 => ?_⟩
  repeat wtm_at "sx"
  rw [show AV.str x :: (l.map AV.str ++ []) = (x :: l).map AV.str by rw [List.append_nil]; rfl, qT_put]
  refine p_change (hd3.gr g4) hn fun A5 hd5 w5 => h1 m c1 c2 A5 ?_ (g1.wr.trans (g2.wr.trans (g3.wr.trans (g4.wr.trans w5))))
  have e : mv q x (some m) true = putT (wo q x) m (x :: l) := by unfold mv; simp only [hl]; rfl
  rw [e]; exact hd5
theorem p_finish {d : Nat} {q : Qs} {j : Js} {n : Nat} {x : TK} (hd : Dk A d q j n) (hn : n ≤ 1000) (o : Ok Nm q j) (hx : Nm x) (h1 : hasK x j = true → ∀ A', Dk A' d (wo q x) (j.filter fun kv => decide (kv.1 ≠ x)) (n + 1) → Wr d A A' → P .non A') (h2 : hasK x j = false → X 9 [(13, .str x)] A) : Ev (m_Desk_finish [.ref d, .str x] A) P X := by
  refine ev_fnM rfl ?_
  show ES (b_Desk_finish _ _) _ _ _
  unfold b_Desk_finish
  repeat wtm_at "sx"
  refine p_known (l := j) (f := fun p : Int × Int => AV.tup [.int p.1, .int p.2]) hx (fun c1 => ?_) h2
  repeat wtm_at "sx"
  refine p_without o.nq (by have := o.lq; omega) (fun kv h => by have := o.qlen kv h; omega) fun A1 g1 => ?_
  have hd1 := hd.gr g1
  repeat wtm_at "sx"
  refine ev_dcNe (v := 3) (f := fun p : Int × Int => AV.tup [.int p.1, .int p.2]) o.nj (by have := o.lj; omega) rfl fun A2 g2 => ?_
  repeat wtm_at "sx"
  exact p_change (hd1.gr g2) hn fun A3 hd3 w3 => h1 c1 A3 hd3 (g1.wr.trans (g2.wr.trans w3))
end
end K77
set_option Elab.async false
set_option linter.all false
set_option maxRecDepth 100000
set_option maxHeartbeats 2000000
namespace K77
open Mw Dsk
section
variable {X : Nat → List (Nat × AV) → AH → Prop} {A A' : AH} {P : AV → AH → Prop}
theorem p_machines {d : Nat} {q : Qs} {j : Js} {n : Nat} (hd : Dk A d q j n) (o : Ok Nm q j) (h : P (.lst ((srt (keys q)).map .str)) A) : Ev (m_Desk_machines [.ref d] A) P X := by
  refine ev_fnM rfl ?_
  show ES (b_Desk_machines _ _) _ _ _
  unfold b_Desk_machines
  repeat wtm_at "sx"
  refine k_srt (l := keys q) ?_ (by have := o.lq; rw [keys_len]; omega) h
  show some ((qT q).map fun kv => kA kv.1) = _
  unfold qT
  rw [eD_keys]
theorem filterMap_kj {γ : Type} (l : List (TK × γ)) (p : TK → Bool) : (l.filterMap fun kv => if p kv.1 = true then some (AV.str kv.1) else none) = ((keys l).filter p).map AV.str := by
  induction l with
  | nil => rfl
  | cons y r ih =>
    show _ = ((y.1 :: keys r).filter p).map AV.str
    by_cases h : p y.1 = true
    · rw [List.filterMap_cons_some (by rw [if_pos h]), List.filter_cons_of_pos h, ih]; rfl
    · rw [List.filterMap_cons_none (by rw [if_neg h]), List.filter_cons_of_neg h, ih]
theorem p_waiting {d : Nat} {q : Qs} {j : Js} {n : Nat} (hd : Dk A d q j n) (o : Ok Nm q j) (h : ∀ A', Gr A A' → P (.lst ((wt q j).map .str)) A') : Ev (m_Desk_waiting [.ref d] A) P X := by
  refine ev_fnM rfl ?_
  show ES (b_Desk_waiting _ _) _ _ _
  unfold b_Desk_waiting
  repeat wtm_at "sx"
  refine ev_lc j (fun kv => .str kv.1) (fun kv => if decide (kv.1 ∉ given q) = true then some (.str kv.1) else none) (by have := o.lj; show j.length ≤ 16777216; omega) ?_ (fun kv hkv A1 g1 => ⟨_, rfl, ?_⟩) fun A' g => ?_
  · repeat wtm_at "sx"
    refine ⟨?_, Gr.refl⟩
    congr 1
    unfold jE eD
    rw [List.map_map]; rfl
  · have hd1 := hd.gr g1
    repeat wtm_at "sx"
    refine p_mof hd1 (by have := o.lq; omega) o.gq fun A2 g2 => ?_
    cases e : mo q kv.1 with
    | none =>
      repeat wtm_at "sx"
      refine ⟨g2, fun _ => ?_, fun z => by cases z⟩
      repeat wtm_at "sx"
      exact ⟨Gr.refl, if_pos (decide_eq_true (mo_none.mp e))⟩
    | some m =>
      repeat wtm_at "sx"
      refine ⟨g2, fun z => (by cases z), fun _ => if_neg fun c => ?_⟩
      have := mo_none.mpr (of_decide_eq_true c)
      rw [e] at this
      cases this
  · rw [filterMap_kj j fun x => decide (x ∉ given q)]
    repeat wtm_at "sx"
    refine k_srt (l := (keys j).filter fun x => decide (x ∉ given q)) rfl ?_ ?_
    · have h1 := List.length_filter_le (fun x => decide (x ∉ given q)) (keys j)
      rw [keys_len] at h1
      have := o.lj
      omega
    · rw [srt_filter]
      exact h A' g
theorem p_queue {d : Nat} {q : Qs} {j : Js} {n : Nat} {m : TK} (hd : Dk A d q j n) (hm : Nm m) (h : m ∈ keys q → P (.lst ((qOf q m).map .str)) A) (h2 : hasK m q = false → X 9 [(13, .str m)] A) : Ev (m_Desk_queue [.ref d, .str m] A) P X := by
  refine ev_fnM rfl ?_
  show ES (b_Desk_queue _ _) _ _ _
  unfold b_Desk_queue
  repeat wtm_at "sx"
  refine p_known (l := q) (f := fun l : List TK => AV.tup (l.map .str)) hm (fun c => ?_) h2
  repeat wtm_at "sx"
  refine o_ixT (f := fun l : List TK => AV.tup (l.map .str)) (qOf_ok (has_mem.mp c)) ?_
  repeat wtm_at "sx"
  exact h (has_mem.mp c)
theorem p_ends {d : Nat} {q : Qs} {j : Js} {n : Nat} {m : TK} (hd : Dk A d q j n) (o : Ok Nm q j) (hm : Nm m) (h : m ∈ keys q → ∀ A', Gr A A' → P (.lst ((ends j (qOf q m)).map aSI)) A') (h2 : ∀ A', hasK m q = false → Gr A A' → X 9 [(13, .str m)] A') : Ev (m_Desk_ends [.ref d, .str m] A) P X := by
  refine ev_fnM rfl ?_
  show ES (b_Desk_ends _ _) _ _ _
  unfold b_Desk_ends
  repeat wtm_at "sx"
  intro i A1 ni ei g1
  have hd1 := hd.gr g1
  repeat wtm_at "sx"
  refine es_for (qOf q m) .str (fun done rest τ A' => ∃ v4, τ = [some (.ref d), some (.str m), some (.ref i), some (.int (load j done)), v4] ∧ A'[i]? = some (.lst ((ends j done).map aSI)) ∧ Gr A A' ∧ m ∈ keys q) ?_ (fun done x rest τ A2 eb ⟨v4, et, e2, g2, hk⟩ => ?_) fun τ A2 ⟨v4, et, e2, g2, hk⟩ => ?_
  · repeat wtm_at "sx"
    refine p_queue hd1 hm (fun hk => ?_) fun c => h2 A1 c g1
    repeat wtm_at "sx"
    exact ⟨ei, g1, hk⟩
  · subst et
    refine ⟨_, _, rfl, ?_⟩
    have hd2 := hd.gr g2
    wtm_at "ss"
    refine es_aug rfl ?_
    repeat wtm_at "sx"
    have hx : x ∈ keys j := o.qOf_in hk (by rw [eb]; simp)
    refine o_ixT (f := fun p : Int × Int => AV.tup [.int p.1, .int p.2]) (o.look hx) ?_
    repeat wtm_at "sx"
    refine o_ixL (xs := [.int (len j x), .int (due j x)]) rfl (atI_nat (k := 0) rfl) ?_
    refine o_addI ?_
    repeat wtm_at "sx"
    refine ev_app ?_
    repeat wtm_at "sx"
    refine ⟨i, _, rfl, e2, ?_⟩
    repeat wtm_at "sx"
    refine ⟨_, _, rfl, e2, Nat.ble_eq_true_of_le ?_, ?_⟩
    · rw [List.length_map, ends_len]
      have h3 := o.qOf_len hk
      rw [eb, List.length_append] at h3
      show done.length + 1 ≤ 16777216
      omega
    · refine ⟨some (.str x), ?_, ?_, Gr.gone ni g2, hk⟩
      · rw [load_app, load_one]; rfl
      · rw [set_at e2, ends_app, List.map_append]; rfl
  · subst et
    wtm_at "ss"
    refine ev_frzL ?_
    wtm_at "ss"
    refine ⟨i, _, rfl, e2, h hk _ (Gr.gone ni g2)⟩
end
end K77
set_option Elab.async false
set_option linter.all false
set_option maxRecDepth 100000
set_option maxHeartbeats 2000000
namespace K77
open Mw Dsk
section
variable {X : Nat → List (Nat × AV) → AH → Prop} {A A' : AH} {P : AV → AH → Prop}
theorem p_late {d : Nat} {q : Qs} {j : Js} {n : Nat} (hd : Dk A d q j n) (o : Ok Nm q j) (h : ∀ A', Gr A A' → P (.lst ((srt (lates q j (srt (keys q)))).map .str)) A') : Ev (m_Desk_late_jobs [.ref d] A) P X := by
  refine ev_fnM rfl ?_
  show ES (b_Desk_late_jobs _ _) _ _ _
  unfold b_Desk_late_jobs
  repeat wtm_at "sx"
  intro i A1 ni ei g1
  have hd1 := hd.gr g1
  repeat wtm_at "sx"
  refine es_for (srt (keys q)) .str (fun done rest τ A' => ∃ v2 v3 v4, τ = [some (.ref d), some (.ref i), v2, v3, v4] ∧ A'[i]? = some (.lst ((lates q j done).map .str)) ∧ Gr A A') ?_ (fun done x rest τ A2 eb ⟨v2, v3, v4, et, e2, g2⟩ => ?_) fun τ A2 ⟨v2, v3, v4, et, e2, g2⟩ => ?_
  · repeat wtm_at "sx"
    refine p_machines hd1 o ?_
    repeat wtm_at "sx"
    exact ⟨none, none, none, rfl, ei, g1⟩
  · subst et
    refine ⟨_, _, rfl, ?_⟩
    have hd2 := hd.gr g2
    have hx : x ∈ keys q := srt_mem.mp (by rw [eb]; simp)
    have hdn : ∀ y ∈ done, y ∈ keys q := fun y hy => srt_mem.mp (by rw [eb]; simp [hy])
    have hln : done.length ≤ 5 := by
      have h1 := srt_len (keys q)
      rw [eb, keys_len, List.length_append] at h1
      have := o.lq
      omega
    repeat wtm_at "sx"
    refine ev_ext ?_
    repeat wtm_at "sx"
    refine ⟨i, _, rfl, e2, ?_⟩
    repeat wtm_at "sx"
    refine ev_lcP (ends j (qOf q x)) aSI (fun p => decide (due j p.1 < p.2)) (fun p => .str p.1) (by rw [ends_len]; have := o.qOf_len hx; omega) ?_ (fun p hp A3 g3 => ⟨_, rfl, ?_⟩) fun A3 g3 => ?_
    · repeat wtm_at "sx"
      refine p_ends hd2 o (o.gq x hx) (fun _ A3 g3 => ?_) fun A3 c _ => ?_
      · exact ⟨_, rfl, rfl, g3⟩
      · rw [has_mem.mpr hx] at c
        cases c
    · have hd3 := hd2.gr g3
      have hp2 : p.1 ∈ keys j := o.qOf_in hx (ends_mem hp)
      repeat wtm_at "sx"
      refine o_ixT (f := fun p : Int × Int => AV.tup [.int p.1, .int p.2]) (o.look hp2) ?_
      repeat wtm_at "sx"
      refine o_ixL (xs := [.int (len j p.1), .int (due j p.1)]) rfl (atI_nat (k := 1) rfl) ?_
      repeat wtm_at "sx"
      refine ⟨Gr.refl, rfl, fun _ => ?_⟩
      repeat wtm_at "sx"
      exact ⟨Gr.refl, rfl⟩
    · repeat wtm_at "sx"
      have e3 := g3 _ _ e2
      have hs : ((ends j (qOf q x)).filter fun p => decide (due j p.1 < p.2)).map (fun p => AV.str p.1) = (lateOf j (qOf q x)).map .str := by
        unfold lateOf
        rw [List.map_map]; rfl
      refine ⟨_, ((lateOf j (qOf q x)).map .str), _, rfl, by rw [hs]; rfl, e3, Nat.ble_eq_true_of_le ?_, ?_⟩
      · rw [List.length_map, List.length_map]
        have h1 := lates_len o hdn
        have h2 := lateOf_len (j := j) (l := qOf q x)
        have h3 := o.qOf_len hx
        show _ ≤ 16777216
        omega
      · refine ⟨some (.str x), v3, v4, rfl, ?_, Gr.gone ni (g2.trans g3)⟩
        rw [set_at e3, lates_app, List.map_append]
  · subst et
    repeat wtm_at "sx"
    have h1 := lates_len o (ms := srt (keys q)) fun y hy => srt_mem.mp hy
    rw [srt_len, keys_len] at h1
    have := o.lq
    exact k_srt (rdL_ref e2) (by omega) (h A2 g2)
theorem ascii_nm {x : TK} (h : Nm x) : ascii x = true := h.2.2.1
theorem p_settle {d : Nat} {q : Qs} {j : Js} {n : Nat} (hd : Dk A d q j n) (hn : n ≤ 1000) (o : Ok Nm q j) (h1 : (q ≠ [] ∨ wt q j = []) → ∀ A', Dk A' d (settled q j) j (n + 1) → Wr d A A' → P .non A') (h2 : q = [] → wt q j ≠ [] → ∀ A', Gr A A' → X 6 [] A') : Ev (m_Desk_settle [.ref d] A) P X := by
  refine ev_fnM rfl ?_
  show ES (b_Desk_settle _ _) _ _ _
  unfold b_Desk_settle
  repeat wtm_at "sx"
  refine ev_lcM (wt q j) .str (fun x => aIS (-(len j x), x)) (by have := wt_len o; omega) ?_ (fun x hx A1 g1 => ⟨_, rfl, ?_⟩) fun A1 g1 => ?_
  · repeat wtm_at "sx"
    refine p_waiting hd o fun A1 g1 => ?_
    exact ⟨_, rfl, rfl, g1⟩
  · have hx2 := (wt_mem.mp hx).1
    repeat wtm_at "sx"
    refine o_ixT (f := fun p : Int × Int => AV.tup [.int p.1, .int p.2]) (o.look hx2) ?_
    repeat wtm_at "sx"
    refine o_ixL (xs := [.int (len j x), .int (due j x)]) rfl (atI_nat (k := 0) rfl) ?_
    repeat wtm_at "sx"
    exact ⟨Gr.refl, rfl⟩
  · have hd1 := hd.gr g1
    repeat wtm_at "sx"
    have hm : (wt q j).map (fun x => aIS (-(len j x), x)) = ((wt q j).map fun x => (-(len j x), x)).map aIS := by rw [List.map_map]; rfl
    rw [hm]
    refine k_srtP rfl (by rw [List.length_map]; have := wt_len o; omega) ?_
    have ho : (srtP ((wt q j).map fun x => (-(len j x), x))).map aIS = (order j (wt q j)).map fun x => aIS (-(len j x), x) := by
      rw [← order_pairs, List.map_map]; rfl
    have hal : ∀ p ∈ srtP ((wt q j).map fun x => (-(len j x), x)), toD A1 59 (aIS p) = some (pIS p) := fun p hp => by
      obtain ⟨x, hx, rfl⟩ := List.mem_map.mp (List.mem_mergeSort.mp hp)
      exact toD_is (ascii_nm (o.gj x (wt_mem.mp hx).1))
    wtm_at "sx"
    refine es_if (Ev.mono (P := fun c A2 => Gr A1 A2 ∧ c = (!decide (wt q j = []) && decide (q = []))) (X := NX) ?_ (fun c A2 ⟨g2, ec⟩ => ⟨fun hc => ?_, fun hc => ?_⟩) fun _ _ _ z => z.elim)
    · have he : (!decide (srtP ((wt q j).map fun x => (-(len j x), x)) = [])) = !decide (wt q j = []) := by
        congr 1
        rw [decide_eq_decide]
        constructor
        · intro h
          have := srtP_len ((wt q j).map fun x => (-(len j x), x))
          rw [h, List.length_map] at this
          exact List.length_eq_zero_iff.mp this.symm
        · intro h
          rw [h]
          exact List.length_eq_zero_iff.mp (srtP_len _)
      repeat wtm_at "sx"
      refine o_neL (g := aIS) (f := pIS) (ys := []) eqv_is hal (fun _ h => by cases h) ?_
      rw [he]
      refine ⟨_, rfl, fun c => ?_, fun c => ?_⟩
      · repeat wtm_at "sx"
        refine ev_dnew fun A2 g2 => ?_
        refine o_eqD0 ?_
        refine ⟨_, rfl, g2, ?_⟩
        rw [c]
        show _ = decide (q = [])
        cases q <;> rfl
      · rw [c]
        exact ⟨Gr.refl, rfl⟩
    · rw [hc] at ec
      have ec := (Bool.and_eq_true_iff.mp ec.symm)
      repeat wtm_at "sx"
      exact h2 (of_decide_eq_true ec.2) (of_decide_eq_false (nf ec.1)) A2 (g1.trans g2)
    · have hcond : q ≠ [] ∨ wt q j = [] := by
        rw [hc] at ec
        by_cases c1 : q = []
        · by_cases c2 : wt q j = []
          · exact .inr c2
          · rw [decide_eq_true c1, decide_eq_false c2] at ec
            cases ec
        · exact .inl c1
      have hd2 := hd1.gr g2
      have g12 := g1.trans g2
      clear ec hc
      obtain ⟨big, hbig⟩ := big_ex q j
      repeat wtm_at "sx"
      refine es_for (order j (wt q j)) (fun x => aIS (-(len j x), x)) (fun done rest τ A' => ∃ q' v3 v5 v6 v7 v8 v9, τ = [some (.ref d), some (.dct (qT q')), some (.dct (jE j)), v3, some (.lst ((srtP ((wt q j).map fun x => (-(len j x), x))).map aIS)), v5, v6, v7, v8, v9] ∧ q' = done.foldl (put1 j) q ∧ Inv Nm q j big done q' ∧ Gr A A') ?_ (fun done x rest τ A3 eb ⟨q', v3, v5, v6, v7, v8, v9, et, eq, I, g3⟩ => ?_) fun τ A3 ⟨q', v3, v5, v6, v7, v8, v9, et, eq, I, g3⟩ => ?_
      · repeat wtm_at "sx"
        exact ⟨by rw [ho], q, none, none, none, none, none, none, rfl, rfl, Inv.start o, g12⟩
      · subst et
        have hxo : x ∈ order j (wt q j) := by rw [eb]; simp
        have hxw : x ∈ wt q j := order_mem.mp hxo
        have hxk := (wt_mem.mp hxw).1
        have hq0 : q ≠ [] := hcond.resolve_right fun e => by rw [e] at hxw; cases hxw
        have hno : (order j (wt q j)).Nodup := (order_perm _).nodup_iff.mpr (wt_nodup o)
        have hxd : x ∉ done := fun h => by
          rw [eb, List.nodup_append] at hno
          exact hno.2.2 x h x List.mem_cons_self rfl
        have I2 := I.step hq0 hxk hxd (wt_mem.mp hxw).2 (hbig x hxw)
        have o3 := I.ok
        have hq3 : q' ≠ [] := fun e => by
          have := I.ks
          rw [e] at this
          exact hq0 (List.map_eq_nil_iff.mp this.symm)
        refine ⟨_, _, rfl, ?_⟩
        have hd3 := hd.gr g3
        repeat wtm_at "sx"
        refine ev_lcM q' (fun kv => .tup [.str kv.1, .tup (kv.2.map .str)]) (fun kv => aIS (load j kv.2, kv.1)) (by have := o3.lq; omega) ?_ (fun kv hkv A4 g4 => ⟨_, rfl, ?_⟩) fun A4 g4 => ?_
        · repeat wtm_at "sx"
          refine ⟨?_, Gr.refl⟩
          congr 1
          exact eD_items
        · repeat wtm_at "sx"
          refine ev_lcM kv.2 .str (fun y => .int (len j y)) (by have := o3.qlen kv hkv; omega) ?_ (fun y hy A5 g5 => ⟨_, rfl, ?_⟩) fun A5 g5 => ?_
          · repeat wtm_at "sx"
            exact Gr.refl
          · repeat wtm_at "sx"
            refine o_ixT (f := fun p : Int × Int => AV.tup [.int p.1, .int p.2]) (o.look (o3.inj hkv hy)) ?_
            repeat wtm_at "sx"
            refine o_ixL (xs := [.int (len j y), .int (due j y)]) rfl (atI_nat (k := 0) rfl) ?_
            exact ⟨Gr.refl, rfl⟩
          · repeat wtm_at "sx"
            refine k_sum (ns := kv.2.map (len j)) (by rw [List.map_map]; rfl) ?_
            repeat wtm_at "sx"
            exact ⟨g5, rfl⟩
        · have hl : (q'.map fun kv => aIS (load j kv.2, kv.1)) = (loads j q').map aIS := by unfold loads; rw [List.map_map]; rfl
          rw [hl]
          repeat wtm_at "sx"
          have hlm : least j q' ∈ keys q' := least_mem hq3
          have hlk := qOf_ok hlm
          have hput : putKA (qT q') (.inr (least j q')) (.tup ((qOf q' (least j q') ++ [x]).map .str)) = qT (put1 j q' x) := qT_put
          have hle : ∃ p r, loads j q' = p :: r ∧ (bestP p r).2 = least j q' := by
            cases e : loads j q' with
            | nil => exact absurd (List.map_eq_nil_iff.mp e) hq3
            | cons p r => exact ⟨p, r, rfl, by unfold least; rw [e]⟩
          obtain ⟨p, r, el, eb2⟩ := hle
          rw [el]
          refine k_minP rfl ?_
          repeat wtm_at "sx"
          refine o_ixL (xs := [.int (bestP p r).1, .str (bestP p r).2]) rfl (atI_nat (k := 1) rfl) ?_
          rw [eb2]
          repeat wtm_at "sx"
          refine ⟨blt_eD (by have := o3.lq; omega), ?_⟩
          repeat wtm_at "sx"
          refine o_ixT (f := fun l : List TK => AV.tup (l.map .str)) hlk ?_
          repeat wtm_at "sx"
          have hql := o3.qOf_len hlm
          refine ⟨Nat.ble_eq_true_of_le (by rw [List.length_append, List.length_map]; show (qOf q' (least j q')).length + 1 ≤ 16777216; omega), fun A5 g5 => ?_⟩
          rw [show (qOf q' (least j q')).map AV.str ++ [AV.str (-(len j x), x).2] = (qOf q' (least j q') ++ [x]).map AV.str by rw [List.map_append]; rfl, hput]
          exact ⟨put1 j q' x, _, _, _, _, _, _, rfl, by rw [List.foldl_append, ← eq]; rfl, I2, g3.trans (g4.trans g5)⟩
      · subst et
        have hd3 := hd.gr g3
        repeat wtm_at "sx"
        refine p_change hd3 hn fun A4 hd4 w4 => h1 hcond A4 ?_ (g3.wr.trans w4)
        rw [eq] at hd4
        exact hd4
end
end K77
set_option Elab.async false
set_option linter.all false
set_option maxRecDepth 100000
set_option maxHeartbeats 2000000
namespace K77
open Mw Dsk
section
variable {X : Nat → List (Nat × AV) → AH → Prop} {A A' : AH} {P : AV → AH → Prop}
def Pl : Nat → AV → Prop
  | 0, _ => False
  | n + 1, v => match v with
    | .non => True
    | .bl _ => True
    | .int _ => True
    | .str s => s.length ≤ 10000
    | .tup xs => xs.length ≤ 10000 ∧ ∀ x ∈ xs, Pl n x
    | .lst xs => xs.length ≤ 10000 ∧ ∀ x ∈ xs, Pl n x
    | _ => False
theorem p_same : ∀ (n : Nat) {v : AV} {A : AH} {P : AV → AH → Prop} {X : Nat → List (Nat × AV) → AH → Prop}, Pl n v → (∀ A', Gr A A' → P (.bl true) A') → Ev (m__law_same n [v, v] A) P X := by
  intro n
  induction n with
  | zero => intro v A P X h; exact h.elim
  | succ n ih =>
    intro v A P X hv h
    refine ev_fnM rfl ?_
    show ES (b__law_same (m__law_same n) _ _) _ _ _
    unfold b__law_same
    cases v with
    | non =>
      repeat wtm_at "sw"
      exact h A Gr.refl
    | bl b =>
      repeat wtm_at "sw"
      refine o_isB ?_
      repeat wtm_at "sw"
      refine o_isB ?_
      refine o_eqB ?_
      rw [beq_self_eq_true]
      exact h A Gr.refl
    | int i =>
      repeat wtm_at "sw"
      rw [Int.sub_self]
      exact h A Gr.refl
    | str s =>
      have hs : s.length ≤ 10000 := hv
      have hs2 : Nat.ble s.length big = true := Nat.ble_eq_true_of_le (by show s.length ≤ 16777216; omega)
      repeat wtm_at "sw"
      refine k_lenT hs2 ?_
      repeat wtm_at "sw"
      refine k_lenT hs2 ?_
      repeat wtm_at "sw"
      refine ⟨fun _ => ?_, fun z => absurd z (by simp)⟩
      repeat wtm_at "sw"
      refine ev_lcP (List.range' 0 s.length) (fun k => .int (k : Int)) (fun _ => false) (fun k => .int (k : Int)) (by rw [List.length_range']; omega) ?_ (fun k hk A1 g1 => ⟨_, rfl, ?_⟩) fun A1 g1 => ?_
      · repeat wtm_at "sw"
        refine k_lenT hs2 ?_
        repeat wtm_at "sw"
        exact ⟨fit_nat (by omega), by rw [rng], Gr.refl⟩
      · have hk := rng_lt hk
        have hsk : s[k]? = some s[k] := List.getElem?_eq_getElem hk
        repeat wtm_at "sw"
        refine k_slS hs2 ?_
        repeat wtm_at "sw"
        refine ixS_at hs hsk ?_
        repeat wtm_at "sw"
        rw [cut_at hsk]
        exact ⟨Gr.refl, by simp, fun z => by cases z⟩
      · rw [List.filter_eq_nil_iff.mpr (fun _ _ z => by cases z)]
        repeat wtm_at "sw"
        refine o_eqNil ?_
        exact h A1 g1
    | tup xs =>
      have hv : xs.length ≤ 10000 ∧ ∀ x ∈ xs, Pl n x := hv
      repeat wtm_at "sw"
      refine o_neB ?_
      rw [beq_self_eq_true]
      repeat wtm_at "sw"
      refine k_lenS rfl ?_
      repeat wtm_at "sw"
      refine k_lenS rfl ?_
      refine o_neI ?_
      repeat wtm_at "sw"
      refine ⟨fun z => absurd z (by simp), fun _ => ?_⟩
      repeat wtm_at "sw"
      refine ev_lcP (List.range' 0 xs.length) (fun k => .int (k : Int)) (fun _ => false) (fun k => .int (k : Int)) (by rw [List.length_range']; exact hv.1) ?_ (fun k hk A1 g1 => ⟨_, rfl, ?_⟩) fun A1 g1 => ?_
      · repeat wtm_at "sw"
        refine k_lenS rfl ?_
        repeat wtm_at "sw"
        exact ⟨fit_nat (by have := hv.1; omega), by rw [rng], Gr.refl⟩
      · have hk := rng_lt hk
        have hsk : xs[k]? = some xs[k] := List.getElem?_eq_getElem hk
        repeat wtm_at "sw"
        refine o_ixL rfl (atI_nat hsk) ?_
        repeat wtm_at "sw"
        refine o_ixL rfl (atI_nat hsk) ?_
        repeat wtm_at "sw"
        refine ih (hv.2 _ (List.getElem_mem hk)) fun A2 g2 => ?_
        repeat wtm_at "sw"
        exact ⟨g2, rfl, fun z => by cases z⟩
      · rw [List.filter_eq_nil_iff.mpr (fun _ _ z => by cases z)]
        repeat wtm_at "sw"
        refine o_eqNil ?_
        exact h A1 g1
    | lst xs =>
      have hv : xs.length ≤ 10000 ∧ ∀ x ∈ xs, Pl n x := hv
      repeat wtm_at "sw"
      refine o_neB ?_
      rw [beq_self_eq_true]
      repeat wtm_at "sw"
      refine k_lenS rfl ?_
      repeat wtm_at "sw"
      refine k_lenS rfl ?_
      refine o_neI ?_
      repeat wtm_at "sw"
      refine ⟨fun z => absurd z (by simp), fun _ => ?_⟩
      repeat wtm_at "sw"
      refine ev_lcP (List.range' 0 xs.length) (fun k => .int (k : Int)) (fun _ => false) (fun k => .int (k : Int)) (by rw [List.length_range']; exact hv.1) ?_ (fun k hk A1 g1 => ⟨_, rfl, ?_⟩) fun A1 g1 => ?_
      · repeat wtm_at "sw"
        refine k_lenS rfl ?_
        repeat wtm_at "sw"
        exact ⟨fit_nat (by have := hv.1; omega), by rw [rng], Gr.refl⟩
      · have hk := rng_lt hk
        have hsk : xs[k]? = some xs[k] := List.getElem?_eq_getElem hk
        repeat wtm_at "sw"
        refine o_ixL rfl (atI_nat hsk) ?_
        repeat wtm_at "sw"
        refine o_ixL rfl (atI_nat hsk) ?_
        repeat wtm_at "sw"
        refine ih (hv.2 _ (List.getElem_mem hk)) fun A2 g2 => ?_
        repeat wtm_at "sw"
        exact ⟨g2, rfl, fun z => by cases z⟩
      · rw [List.filter_eq_nil_iff.mpr (fun _ _ z => by cases z)]
        repeat wtm_at "sw"
        refine o_eqNil ?_
        exact h A1 g1
    | _ => exact hv.elim
end
end K77
set_option Elab.async false
set_option linter.all false
set_option maxRecDepth 100000
set_option maxHeartbeats 2000000
namespace K77
open Mw Dsk
section
variable {X : Nat → List (Nat × AV) → AH → Prop} {A A' : AH} {P : AV → AH → Prop}
theorem p_lwaiting {q : Qs} {j : Js} (o : Ok Nm q j) (h : ∀ A', Gr A A' → P (.lst ((wt q j).map .str)) A') : Ev (m__law_waiting [stL q j] A) P X := by
  refine ev_fnM rfl ?_
  show ES (b__law_waiting _ _) _ _ _
  unfold b__law_waiting
  repeat wtm_at "sw"
  refine es_for q (fun kv => .str kv.1) (fun done rest τ A' => ∃ v4 v5, τ = [some (stL q j), some (.dct (qL q)), some (.dct (jE j)), some (.lst ((given done).map .str)), v4, v5] ∧ Gr A A') ?_ (fun done x rest τ A2 eb ⟨v4, v5, et, g2⟩ => ?_) fun τ A2 ⟨v4, v5, et, g2⟩ => ?_
  · repeat wtm_at "sw"
    refine ⟨?_, none, none, rfl, Gr.refl⟩
    congr 1
    unfold qL eD
    rw [List.map_map]; rfl
  · subst et
    refine ⟨_, _, rfl, ?_⟩
    have hx : x ∈ q := by rw [eb]; simp
    repeat wtm_at "sw"
    refine o_ixT (f := fun l : List TK => AV.lst (l.map .str)) (lk_of_mem o.nq hx) ?_
    have hl : (given done).length + x.2.length ≤ 20 := by
      have h1 := o.glen
      rw [eb] at h1
      unfold given at h1 ⊢
      simp only [List.map_append, List.map_cons, List.flatten_append, List.flatten_cons, List.length_append] at h1
      omega
    refine o_catL (by rw [List.length_map, List.length_map]; exact Nat.ble_eq_true_of_le (by show _ ≤ 16777216; omega)) ?_
    refine ⟨some (.str x.1), v5, ?_, g2⟩
    rw [show given (done ++ [x]) = given done ++ x.2 from given_app, List.map_append]
    rfl
  · subst et
    repeat wtm_at "sw"
    refine ev_lcP (srt (keys j)) .str (fun x => decide (x ∉ given q)) .str (by rw [srt_len, keys_len]; have := o.lj; omega) ?_ (fun x hx A3 g3 => ⟨_, rfl, ?_⟩) fun A3 g3 => ?_
    · repeat wtm_at "sw"
      refine k_srt (l := keys j) ?_ (by have := o.lj; rw [keys_len]; omega) ?_
      · show some ((jE j).map fun kv => kA kv.1) = _
        unfold jE
        rw [eD_keys]
      · exact ⟨_, rfl, rfl, Gr.refl⟩
    · repeat wtm_at "sw"
      refine o_niL (l := given q) rfl ?_
      repeat wtm_at "sw"
      refine ⟨Gr.refl, by simp, fun _ => ?_⟩
      repeat wtm_at "sw"
      exact ⟨Gr.refl, rfl⟩
    · exact h A3 (g2.trans g3)
theorem p_lloads {q : Qs} {j : Js} (o : Ok Nm q j) (h : ∀ A', Gr A A' → P (.lst ((srt (keys q)).map fun m => .int (load j (qOf q m)))) A') : Ev (m__law_loads [stL q j] A) P X := by
  refine ev_fnM rfl ?_
  show ES (b__law_loads _ _) _ _ _
  unfold b__law_loads
  repeat wtm_at "sw"
  refine ev_lcM (srt (keys q)) .str (fun m => .int (load j (qOf q m))) (by rw [srt_len, keys_len]; have := o.lq; omega) ?_ (fun m hm A1 g1 => ⟨_, rfl, ?_⟩) fun A1 g1 => h A1 g1
  · repeat wtm_at "sw"
    refine o_ixL (xs := [.dct (qL q), .dct (jE j)]) rfl (atI_nat (k := 0) rfl) ?_
    repeat wtm_at "sw"
    refine k_srt (l := keys q) ?_ (by have := o.lq; rw [keys_len]; omega) ?_
    · show some ((qL q).map fun kv => kA kv.1) = _
      unfold qL
      rw [eD_keys]
    · exact ⟨_, rfl, rfl, Gr.refl⟩
  · have hm2 := srt_mem.mp hm
    repeat wtm_at "sw"
    refine ev_lcM (qOf q m) .str (fun y => .int (len j y)) (by have := o.qOf_len hm2; omega) ?_ (fun y hy A2 g2 => ⟨_, rfl, ?_⟩) fun A2 g2 => ?_
    · repeat wtm_at "sw"
      refine o_ixL (xs := [.dct (qL q), .dct (jE j)]) rfl (atI_nat (k := 0) rfl) ?_
      repeat wtm_at "sw"
      refine o_ixT (f := fun l : List TK => AV.lst (l.map .str)) (qOf_ok hm2) ?_
      exact ⟨_, rfl, rfl, Gr.refl⟩
    · repeat wtm_at "sw"
      refine o_ixL (xs := [.dct (qL q), .dct (jE j)]) rfl (atI_nat (k := 1) rfl) ?_
      repeat wtm_at "sw"
      refine o_ixT (f := fun p : Int × Int => AV.tup [.int p.1, .int p.2]) (o.look (o.qOf_in hm2 hy)) ?_
      repeat wtm_at "sw"
      refine o_ixL (xs := [.int (len j y), .int (due j y)]) rfl (atI_nat (k := 0) rfl) ?_
      exact ⟨Gr.refl, rfl⟩
    · repeat wtm_at "sw"
      refine k_sum (ns := (qOf q m).map (len j)) (by rw [List.map_map]; rfl) ?_
      exact ⟨g2, rfl⟩
end
end K77
set_option Elab.async false
set_option linter.all false
set_option maxRecDepth 100000
set_option maxHeartbeats 2000000
namespace K77
open Mw Dsk PySem
section
variable {X : Nat → List (Nat × AV) → AH → Prop} {A A' : AH} {P : AV → AH → Prop}
abbrev keyM : KM := gTup [pSub (pC (.int 0)) (pIx (pIx (pIx (pVar 0) (pC (.int 1))) (pVar 7)) (pC (.int 0))), pVar 7]
theorem key_at {q : Qs} {j : Js} {x : TK} {v1 v2 v3 v4 v5 v6 : Option AV} (o : Ok Nm q j) (hx : x ∈ keys j) : keyM ([some (stL q j), v1, v2, v3, v4, v5, v6] ++ [some (.str x)]) A = some (pIS (-(len j x), x)) := by
  generalize hT : ([some (stL q j), v1, v2, v3, v4, v5, v6] ++ [some (AV.str x)] : AE) = T
  have t0 : pVar 0 T A = some (stL q j) := by rw [← hT]; rfl
  have t7 : pVar 7 T A = some (.str x) := by rw [← hT]; rfl
  have h1 : pIx (pVar 0) (pC (.int 1)) T A = some (.dct (jE j)) := by
    unfold pIx
    rw [t0]; rfl
  have h2 : pIx (pIx (pVar 0) (pC (.int 1))) (pVar 7) T A = some (.tup [.int (len j x), .int (due j x)]) := by
    unfold pIx at h1 ⊢
    rw [h1, t7]
    show lookK (.inr x) (jE j) = _
    unfold jE
    rw [lookK_eD, o.look hx]; rfl
  have h3 : pIx (pIx (pIx (pVar 0) (pC (.int 1))) (pVar 7)) (pC (.int 0)) T A = some (.int (len j x)) := by
    unfold pIx at h2 ⊢
    rw [h2]; rfl
  have h4 : pSub (pC (.int 0)) (pIx (pIx (pIx (pVar 0) (pC (.int 1))) (pVar 7)) (pC (.int 0))) T A = some (.int (-(len j x))) := by
    unfold pSub
    rw [h3]
    show some (AV.int (0 - len j x)) = _
    rw [Int.zero_sub]
  show (match pLs [pSub (pC (.int 0)) (pIx (pIx (pIx (pVar 0) (pC (.int 1))) (pVar 7)) (pC (.int 0))), pVar 7] T A with
  | some vs => if (isPDs vs && Nat.ble vs.length big) = true then some (PyData.tuple (pds vs)) else none
  | none => none) = _
  unfold pLs
  rw [h4]
  unfold pLs
  rw [t7]
  rfl
theorem iss_ok (l : List (Int × TK)) (h : l.length ≤ 10000) : (alikes (l.map pIS) && ((((l.map pIS).all tup1) || ((l.map pIS).all noTup)) && shallow (l.map pIS))) = true := by
  have h1 : alikes (l.map pIS) = true := all_mapT fun x => all_mapT fun y => by simp [W.alike, pIS, pS, W.alikeAll]
  have h2 : (l.map pIS).all tup1 = true := all_mapT fun x => rfl
  have h3 : shallow (l.map pIS) = true := all_mapT fun x => by simp [PyData.depth, PyData.depthAll, pIS, pS]
  rw [h1, h2, h3]; rfl
theorem keys_ok {g : KM} {τ : AE} {ws : List TK} {f : TK → Int × TK} (hf : ∀ x ∈ ws, g (τ ++ [some (.str x)]) A = some (pIS (f x))) (hl : ws.length ≤ 10000) : keysOk g τ A (ws.map .str) = true ∧ (ws.map AV.str).mergeSort (W.dataLe false (keyOfx g τ A)) = (ws.mergeSort fun a b => leP (f a) (f b)).map .str := by
  have hk : ∀ x ∈ ws, keyOfx g τ A (.str x) = pIS (f x) := fun x hx => by
    unfold keyOfx
    rw [hf x hx]; rfl
  constructor
  · have e : (ws.map AV.str).map (keyOfx g τ A) = (ws.map f).map pIS := by
      rw [List.map_map, List.map_map]
      exact List.map_congr_left hk
    unfold keysOk
    rw [e]
    have h0 := iss_ok (ws.map f) (by rw [List.length_map]; exact hl)
    simp only [Bool.and_eq_true] at h0
    obtain ⟨h1, h2, h3⟩ := h0
    have h4 : Nat.ble (ws.map AV.str).length big = true := Nat.ble_eq_true_of_le (by rw [List.length_map]; show ws.length ≤ 16777216; omega)
    have h5 : ((ws.map AV.str).all fun x => (g (τ ++ [some x]) A).isSome) = true := by
      rw [List.all_eq_true]
      intro y hy
      obtain ⟨x, hx, rfl⟩ := List.mem_map.mp hy
      rw [hf x hx]; rfl
    rw [h5, h1, h2, h3, h4]; rfl
  · rw [List.map_mergeSort]
    intro a ha b hb
    show _ = (!W.dataLt (keyOfx g τ A (.str b)) (keyOfx g τ A (.str a)))
    rw [hk a ha, hk b hb]
    exact (leAV_is (f a) (f b)).symm
theorem order_eq {j : Js} (ws : List TK) : order j ws = ws.mergeSort fun a b => leP (-(len j a), a) (-(len j b), b) := by
  unfold order srtP
  have : (ws.mergeSort fun a b => leP (-(len j a), a) (-(len j b), b)).map (fun x => (-(len j x), x)) = (ws.map fun x => (-(len j x), x)).mergeSort leP := List.map_mergeSort fun a _ b _ => rfl
  rw [← this, List.map_map]
  exact List.map_id _
theorem p_lsettled {q : Qs} {j : Js} (o : Ok Nm q j) (hc : q ≠ [] ∨ wt q j = []) (h : ∀ A', Gr A A' → P (stL (settled q j) j) A') : Ev (m__law_settled [stL q j] A) P X := by
  obtain ⟨big, hbig⟩ := big_ex q j
  refine ev_fnM rfl ?_
  show ES (b__law_settled _ _) _ _ _
  unfold b__law_settled
  wtm_at "sw"
  refine es_for (order j (wt q j)) .str (fun done rest τ A' => ∃ q' v1 v2 v3 v4 v5 v6, τ = [some (stL q' j), v1, v2, v3, v4, v5, v6] ∧ q' = done.foldl (put1 j) q ∧ Inv Nm q j big done q' ∧ Gr A A') ?_ (fun done x rest τ A3 eb ⟨q', v1, v2, v3, v4, v5, v6, et, eq, I, g3⟩ => ?_) fun τ A3 ⟨q', v1, v2, v3, v4, v5, v6, et, eq, I, g3⟩ => ?_
  · repeat wtm_at "sw"
    refine ev_sortK ?_
    repeat wtm_at "sw"
    refine p_lwaiting o fun A1 g1 => ?_
    have hk := keys_ok (g := keyM) (τ := List.map some [stL q j] ++ List.replicate 6 none) (A := A1) (ws := wt q j) (f := fun x => (-(len j x), x)) (fun x hx => key_at o (wt_mem.mp hx).1) (by have := wt_len o; omega)
    refine ⟨_, rfl, hk.1, ?_⟩
    rw [hk.2, ← order_eq]
    exact ⟨_, rfl, rfl, q, _, _, _, _, _, _, rfl, rfl, Inv.start o, g1⟩
  · subst et
    have hxo : x ∈ order j (wt q j) := by rw [eb]; simp
    have hxw : x ∈ wt q j := order_mem.mp hxo
    have hxk := (wt_mem.mp hxw).1
    have hq0 : q ≠ [] := hc.resolve_right fun e => by rw [e] at hxw; cases hxw
    have hno : (order j (wt q j)).Nodup := (order_perm _).nodup_iff.mpr (wt_nodup o)
    have hxd : x ∉ done := fun h => by
      rw [eb, List.nodup_append] at hno
      exact hno.2.2 x h x List.mem_cons_self rfl
    have I2 := I.step hq0 hxk hxd (wt_mem.mp hxw).2 (hbig x hxw)
    have o3 := I.ok
    have hq3 : q' ≠ [] := fun e => by
      have := I.ks
      rw [e] at this
      exact hq0 (List.map_eq_nil_iff.mp this.symm)
    have hxg : x ∉ given q' := fun h => ((I.gv x).mp h).elim hxd (wt_mem.mp hxw).2
    refine ⟨_, _, rfl, ?_⟩
    repeat wtm_at "sw"
    refine ev_lcM q' (fun kv => .str kv.1) (fun kv => aIS (load j kv.2, kv.1)) (by have := o3.lq; omega) ?_ (fun kv hkv A4 g4 => ⟨_, rfl, ?_⟩) fun A4 g4 => ?_
    · repeat wtm_at "sw"
      refine ⟨?_, Gr.refl⟩
      congr 1
      unfold qL eD
      rw [List.map_map]; rfl
    · repeat wtm_at "sw"
      refine ev_lcM kv.2 .str (fun y => .int (len j y)) (by have := o3.qlen kv hkv; omega) ?_ (fun y hy A5 g5 => ⟨_, rfl, ?_⟩) fun A5 g5 => ?_
      · repeat wtm_at "sw"
        refine o_ixT (f := fun l : List TK => AV.lst (l.map .str)) (lk_of_mem o3.nq hkv) ?_
        exact ⟨_, rfl, rfl, Gr.refl⟩
      · repeat wtm_at "sw"
        refine o_ixT (f := fun p : Int × Int => AV.tup [.int p.1, .int p.2]) (o.look (o3.inj hkv hy)) ?_
        repeat wtm_at "sw"
        refine o_ixL (xs := [.int (len j y), .int (due j y)]) rfl (atI_nat (k := 0) rfl) ?_
        exact ⟨Gr.refl, rfl⟩
      · repeat wtm_at "sw"
        refine k_sum (ns := kv.2.map (len j)) (by rw [List.map_map]; rfl) ?_
        repeat wtm_at "sw"
        exact ⟨g5, rfl⟩
    · have hl : (q'.map fun kv => aIS (load j kv.2, kv.1)) = (loads j q').map aIS := by unfold loads; rw [List.map_map]; rfl
      rw [hl]
      have hlm : least j q' ∈ keys q' := least_mem hq3
      have hle : ∃ p r, loads j q' = p :: r ∧ (bestP p r).2 = least j q' := by
        cases e : loads j q' with
        | nil => exact absurd (List.map_eq_nil_iff.mp e) hq3
        | cons p r => exact ⟨p, r, rfl, by unfold least; rw [e]⟩
      obtain ⟨p, r, el, eb2⟩ := hle
      repeat wtm_at "sw"
      refine k_srtP rfl (by unfold loads; rw [List.length_map]; have := o3.lq; omega) ?_
      repeat wtm_at "sw"
      rw [el]
      refine o_ixL (xs := (srtP (p :: r)).map aIS) rfl (atI_nat (k := 0) (v := aIS (bestP p r)) (by rw [List.getElem?_map, srtP_head]; rfl)) ?_
      repeat wtm_at "sw"
      refine o_ixL (xs := [.int (bestP p r).1, .str (bestP p r).2]) rfl (atI_nat (k := 1) rfl) ?_
      rw [eb2]
      repeat wtm_at "sw"
      have em : mv q' x (some (least j q')) false = put1 j q' x := by
        unfold mv put1
        rw [wo_id hxg]; rfl
      refine p_moved (m := some (least j q')) o3.nq (by have := o3.lq; omega) (fun kv hkv => by have := o3.qlen kv hkv; omega) (fun y hy => by cases hy; exact hlm) fun A5 g5 => ?_
      rw [em]
      exact ⟨put1 j q' x, _, _, _, _, _, _, rfl, by rw [List.foldl_append, ← eq]; rfl, I2, g3.trans (g4.trans g5)⟩
  · subst et
    repeat wtm_at "sw"
    subst eq
    exact h A3 g3
end
end K77
set_option Elab.async false
set_option linter.all false
set_option maxRecDepth 100000
set_option maxHeartbeats 2000000
namespace K77
open Mw Dsk PySem
section
variable {X : Nat → List (Nat × AV) → AH → Prop} {A A' : AH} {P : AV → AH → Prop}
theorem p_told_view {d : Nat} {q : Qs} {j : Js} {n : Nat} {b : Bool} (hd : Dk A d q j n) (o : Ok Nm q j) (h : ∀ A', Gr A A' → P (viewA q j) A') : Ev (m__law_told_view [.ref d, .bl b] A) P X := by
  refine ev_fnM rfl ?_
  show ES (b__law_told_view _ _) _ _ _
  unfold b__law_told_view
  repeat wtm_at "sx"
  refine p_machines hd o ?_
  repeat wtm_at "sx"
  refine ev_lcM (srt (keys q)) .str (fun m => .lst ((qOf q m).map .str)) (by rw [srt_len, keys_len]; have := o.lq; omega) ?_ (fun m hm A1 g1 => ⟨_, rfl, ?_⟩) fun A1 g1 => ?_
  · repeat wtm_at "sx"
    exact Gr.refl
  · have hm2 := srt_mem.mp hm
    have hd1 := hd.gr g1
    have go : Ev (m_Desk_queue [.ref d, .str m] A1) (fun v A3 => Gr A1 A3 ∧ v = .lst ((qOf q m).map .str)) NX := p_queue hd1 (o.gq m hm2) (fun _ => ⟨Gr.refl, rfl⟩) fun c => by
      rw [has_mem.mpr hm2] at c
      cases c
    repeat wtm_at "sx"
    refine ⟨fun _ => ?_, fun _ => ?_⟩
    · refine ev_mtK rfl ?_
      repeat wtm_at "sx"
      exact go
    · repeat wtm_at "sx"
      exact go
  · have hd1 := hd.gr g1
    repeat wtm_at "sx"
    refine p_waiting hd1 o fun A2 g2 => ?_
    have hd2 := hd1.gr g2
    repeat wtm_at "sx"
    refine ev_lcM (srt (keys q)) .str (fun m => .lst ((ends j (qOf q m)).map aSI)) (by rw [srt_len, keys_len]; have := o.lq; omega) ?_ (fun m hm A3 g3 => ⟨_, rfl, ?_⟩) fun A3 g3 => ?_
    · repeat wtm_at "sx"
      exact Gr.refl
    · have hm2 := srt_mem.mp hm
      have hd3 := hd2.gr g3
      have go : Ev (m_Desk_ends [.ref d, .str m] A3) (fun v A4 => Gr A3 A4 ∧ v = .lst ((ends j (qOf q m)).map aSI)) NX := p_ends hd3 o (o.gq m hm2) (fun _ A4 g4 => ⟨g4, rfl⟩) fun A4 c _ => by
        rw [has_mem.mpr hm2] at c
        cases c
      repeat wtm_at "sx"
      refine ⟨fun _ => ?_, fun _ => ?_⟩
      · repeat wtm_at "sx"
        exact go
      · refine ev_mtK rfl ?_
        repeat wtm_at "sx"
        exact go
    · have hd3 := hd2.gr g3
      repeat wtm_at "sx"
      refine p_late hd3 o fun A4 g4 => ?_
      repeat wtm_at "sx"
      exact (h A4 (g1.trans (g2.trans (g3.trans g4))))
theorem p_lview {q : Qs} {j : Js} (o : Ok Nm q j) (h : ∀ A', Gr A A' → P (viewA q j) A') : Ev (m__law_view [stL q j] A) P X := by
  refine ev_fnM rfl ?_
  show ES (b__law_view _ _) _ _ _
  unfold b__law_view
  repeat wtm_at "sw"
  refine k_srt (l := keys q) ?_ (by have := o.lq; rw [keys_len]; omega) ?_
  · show some ((qL q).map fun kv => kA kv.1) = _
    unfold qL
    rw [eD_keys]
  repeat wtm_at "sw"
  intro i A1 ni ei g1
  repeat wtm_at "sw"
  refine es_for (srt (keys q)) .str (fun done rest τ A' => ∃ v6 v7 v8 v9, τ = [some (stL q j), some (.dct (qL q)), some (.dct (jE j)), some (.lst ((srt (keys q)).map .str)), some (.ref i), some (.lst ((lates q j done).map .str)), v6, v7, v8, v9] ∧ A'[i]? = some (.lst (done.map fun m => .lst ((ends j (qOf q m)).map aSI))) ∧ Gr A A') ?_ (fun done x rest τ A2 eb ⟨v6, v7, v8, v9, et, e2, g2⟩ => ?_) fun τ A2 ⟨v6, v7, v8, v9, et, e2, g2⟩ => ?_
  · repeat wtm_at "sw"
    exact ⟨none, none, none, none, rfl, ei, g1⟩
  · subst et
    have hx : x ∈ keys q := srt_mem.mp (by rw [eb]; simp)
    have hdn : ∀ y ∈ done, y ∈ keys q := fun y hy => srt_mem.mp (by rw [eb]; simp [hy])
    have hln : done.length ≤ 5 := by
      have h1 := srt_len (keys q)
      rw [eb, keys_len, List.length_append] at h1
      have := o.lq
      omega
    refine ⟨_, _, rfl, ?_⟩
    repeat wtm_at "sw"
    intro k A3 nk ek g3
    repeat wtm_at "sw"
    have hql := o.qOf_len hx
    have hlt := lates_len o hdn
    refine es_for (qOf q x) .str (fun d2 r2 τ A' => ∃ v9, τ = [some (stL q j), some (.dct (qL q)), some (.dct (jE j)), some (.lst ((srt (keys q)).map .str)), some (.ref i), some (.lst ((lates q j done ++ lateOf j d2).map .str)), some (.str x), some (.int (load j d2)), some (.ref k), v9] ∧ A'[k]? = some (.lst ((ends j d2).map aSI)) ∧ Gr A2 A') ?_ (fun d2 y r2 τ A4 eb2 ⟨v9, et, e4, g4⟩ => ?_) fun τ A4 ⟨v9, et, e4, g4⟩ => ?_
    · repeat wtm_at "sw"
      refine o_ixT (f := fun l : List TK => AV.lst (l.map .str)) (qOf_ok hx) ?_
      repeat wtm_at "sw"
      refine ⟨v9, ?_, ek, g3⟩
      rw [show lates q j done ++ lateOf j [] = lates q j done from List.append_nil _]
      rfl
    · subst et
      have hy : y ∈ keys j := o.qOf_in hx (by rw [eb2]; simp)
      have hd2 : d2.length ≤ 20 := by
        rw [eb2, List.length_append] at hql
        omega
      have hll := lateOf_len (j := j) (l := d2)
      refine ⟨_, _, rfl, ?_⟩
      repeat wtm_at "sw"
      refine o_ixT (f := fun p : Int × Int => AV.tup [.int p.1, .int p.2]) (o.look hy) ?_
      repeat wtm_at "sw"
      refine o_ixL (xs := [.int (len j y), .int (due j y)]) rfl (atI_nat (k := 0) rfl) ?_
      repeat wtm_at "sw"
      refine ev_app ?_
      repeat wtm_at "sw"
      refine ⟨k, _, rfl, e4, ?_⟩
      repeat wtm_at "sw"
      refine ⟨_, _, rfl, e4, Nat.ble_eq_true_of_le (by rw [List.length_map, ends_len]; show d2.length + 1 ≤ 16777216; omega), ?_⟩
      repeat wtm_at "sw"
      refine o_ixT (f := fun p : Int × Int => AV.tup [.int p.1, .int p.2]) (o.look hy) ?_
      repeat wtm_at "sw"
      refine o_ixL (xs := [.int (len j y), .int (due j y)]) rfl (atI_nat (k := 1) rfl) ?_
      repeat wtm_at "sw"
      have hrep : ∀ b : Bool, (List.replicate (if b = true then (1 : Int) else 0).toNat [AV.str y]).flatten = (if b = true then [y] else []).map AV.str := fun b => by cases b <;> rfl
      refine o_rep ?_ ?_
      · cases decide (due j y < load j d2 + len j y) <;> rfl
      rw [hrep]
      refine o_catL (Nat.ble_eq_true_of_le ?_) ?_
      · rw [List.length_map, List.length_map, List.length_append]
        have : (if decide (due j y < load j d2 + len j y) = true then [y] else []).length ≤ 1 := by split <;> simp
        show _ ≤ 16777216
        omega
      · refine ⟨some (.str y), ?_, ?_, Gr.gone nk g4⟩
        · rw [load_app, load_one, lateOf_app, ← List.append_assoc, List.map_append (l₁ := lates q j done ++ lateOf j d2)]
          simp only [decide_eq_true_eq]
          rfl
        · rw [set_at e4, ends_app, List.map_append]; rfl
    · subst et
      repeat wtm_at "sw"
      refine ev_app ?_
      repeat wtm_at "sw"
      refine ⟨i, _, rfl, g4 _ _ e2, ?_⟩
      repeat wtm_at "sw"
      refine ev_frzL ?_
      repeat wtm_at "sw"
      refine ⟨k, _, rfl, e4, ?_⟩
      have e5 := Gr.gone (o := .gone) nk g4 _ _ e2
      repeat wtm_at "sw"
      refine ⟨_, _, rfl, e5, Nat.ble_eq_true_of_le (by rw [List.length_map]; show done.length + 1 ≤ 16777216; omega), ?_⟩
      refine ⟨some (.str x), some (.int (load j (qOf q x))), some (.ref k), v9, ?_, ?_, Gr.gone ni (g2.trans (Gr.gone nk g4))⟩
      · rw [lates_app]
      · rw [set_at e5, List.map_append]; rfl
  · subst et
    repeat wtm_at "sw"
    refine p_lwaiting o fun A3 g3 => ?_
    repeat wtm_at "sw"
    refine ev_lcM (srt (keys q)) .str (fun m => .lst ((qOf q m).map .str)) (by rw [srt_len, keys_len]; have := o.lq; omega) ?_ (fun m hm A4 g4 => ⟨_, rfl, ?_⟩) fun A4 g4 => ?_
    · repeat wtm_at "sw"
      exact Gr.refl
    · repeat wtm_at "sw"
      refine o_ixT (f := fun l : List TK => AV.lst (l.map .str)) (qOf_ok (srt_mem.mp hm)) ?_
      repeat wtm_at "sw"
      exact ⟨Gr.refl, rfl⟩
    · repeat wtm_at "sw"
      refine ev_frzL ?_
      repeat wtm_at "sw"
      refine ⟨i, _, rfl, g4 _ _ (g3 _ _ e2), ?_⟩
      repeat wtm_at "sw"
      have h1 := lates_len o (ms := srt (keys q)) fun y hy => srt_mem.mp hy
      rw [srt_len, keys_len] at h1
      have := o.lq
      refine k_srt rfl (by omega) ?_
      repeat wtm_at "sw"
      exact h _ (Gr.gone ni (g2.trans (g3.trans g4)))
end
end K77
set_option Elab.async false
set_option linter.all false
set_option maxRecDepth 100000
set_option maxHeartbeats 2000000
namespace K77
open Mw Dsk PySem
section
variable {X : Nat → List (Nat × AV) → AH → Prop} {A A' : AH} {P : AV → AH → Prop}
theorem ev_dictNe3 {β : Type} {f : β → AV} {l : List (TK × β)} {x : TK} {t0 t1 t2 t4 t6 t7 t8 t9 : Option AV} (hn : (keys l).Nodup) (hb : l.length ≤ 100) (h : ∀ A', Gr A A' → P (.dct (eD f (l.filter fun kv => decide (kv.1 ≠ x)))) A') :
    Ev (eFrz (eCall cDict (aCons (eLc true (iAny (eVar 3)) (gN 8) (tB' (eBin neA (eVar 8) (eVar 5))) (eTup (aCons (eVar 8) (aCons (eBin fIx (eVar 3) (eVar 8)) aNil))) [8]) aNil)) [t0, t1, t2, some (.dct (eD f l)), t4, some (.str x), t6, t7, t8, t9] A) P X := by
  refine ev_dictP ?_
  repeat wtm_at "sk"
  refine ev_lcP l (fun kv => .str kv.1) (fun kv => decide (kv.1 ≠ x)) (fun kv => .tup [.str kv.1, f kv.2]) (by omega) ?_ (fun kv hkv A1 g1 => ⟨_, rfl, ?_⟩) fun A1 g1 => ?_
  · repeat wtm_at "sk"
    refine ⟨?_, Gr.refl⟩
    congr 1
    unfold eD
    rw [List.map_map]; rfl
  · repeat wtm_at "sk"
    refine ⟨Gr.refl, by simp, fun _ => ?_⟩
    repeat wtm_at "sk"
    refine o_ixT (lk_of_mem hn hkv) ?_
    repeat wtm_at "sk"
    exact ⟨Gr.refl, rfl⟩
  · repeat wtm_at "sk"
    refine ⟨_, _, _, rfl, rfl, rfl, pairsOf_eD (f := f) _, fun A2 g2 => ?_⟩
    rw [merge_all (hn.sublist (List.filter_sublist.map _))]
    exact h A2 (g1.trans g2)
theorem ev_dictNe4 {β : Type} {f : β → AV} {l : List (TK × β)} {x : TK} {t0 t1 t2 t3 t6 t7 t8 t9 : Option AV} (hn : (keys l).Nodup) (hb : l.length ≤ 100) (h : ∀ A', Gr A A' → P (.dct (eD f (l.filter fun kv => decide (kv.1 ≠ x)))) A') :
    Ev (eFrz (eCall cDict (aCons (eLc true (iAny (eVar 4)) (gN 9) (tB' (eBin neA (eVar 9) (eVar 5))) (eTup (aCons (eVar 9) (aCons (eBin fIx (eVar 4) (eVar 9)) aNil))) [9]) aNil)) [t0, t1, t2, t3, some (.dct (eD f l)), some (.str x), t6, t7, t8, t9] A) P X := by
  refine ev_dictP ?_
  repeat wtm_at "sk"
  refine ev_lcP l (fun kv => .str kv.1) (fun kv => decide (kv.1 ≠ x)) (fun kv => .tup [.str kv.1, f kv.2]) (by omega) ?_ (fun kv hkv A1 g1 => ⟨_, rfl, ?_⟩) fun A1 g1 => ?_
  · repeat wtm_at "sk"
    refine ⟨?_, Gr.refl⟩
    congr 1
    unfold eD
    rw [List.map_map]; rfl
  · repeat wtm_at "sk"
    refine ⟨Gr.refl, by simp, fun _ => ?_⟩
    repeat wtm_at "sk"
    refine o_ixT (lk_of_mem hn hkv) ?_
    repeat wtm_at "sk"
    exact ⟨Gr.refl, rfl⟩
  · repeat wtm_at "sk"
    refine ⟨_, _, _, rfl, rfl, rfl, pairsOf_eD (f := f) _, fun A2 g2 => ?_⟩
    rw [merge_all (hn.sublist (List.filter_sublist.map _))]
    exact h A2 (g1.trans g2)
theorem ev_dictApp {β : Type} {f : β → AV} {l : List (TK × β)} {x : TK} {v : β} {τ : AE} {i : Nat} {m : EM} (ti : τ[i]? = some (some (.dct (eD f l)))) (hm : Ev (m τ A) (fun w A1 => A1 = A ∧ w = .lst [.tup [.str x, f v]]) X) (hn : (keys (l ++ [(x, v)])).Nodup) (hb : l.length ≤ 100) (h : ∀ A', Gr A A' → P (.dct (eD f (l ++ [(x, v)]))) A') :
    Ev (eFrz (eCall cDict (aCons (eBin (addA true) (eLit (eVar i)) m) aNil)) τ A) P X := by
  refine ev_dictP ?_
  wtm_at "sk"; wtm_at "sk"; wtm_at "sk"
  refine ev_var ti ?_
  wtm_at "sk"
  refine hm.mono (fun w A1 ⟨e1, e2⟩ => ?_) fun _ _ _ z => z
  subst e1 e2
  refine o_catL (by rw [List.length_map, eD_len]; exact Nat.ble_eq_true_of_le (by show l.length + 1 ≤ 16777216; omega)) ?_
  wtm_at "sk"
  have e : (eD f l).map (fun kv => AV.tup [kA kv.1, kv.2]) ++ [AV.tup [.str x, f v]] = (l ++ [(x, v)]).map fun kv => AV.tup [.str kv.1, f kv.2] := by
    rw [eD_items, List.map_append]; rfl
  rw [e]
  refine ⟨_, _, _, rfl, rfl, rfl, pairsOf_eD (f := f) _, fun A2 g2 => ?_⟩
  rw [merge_all hn]
  exact h A2 g2
end
end K77
set_option Elab.async false
set_option linter.all false
set_option maxRecDepth 100000
set_option maxHeartbeats 2000000
namespace K77
open Mw Dsk PySem
section
variable {X : Nat → List (Nat × AV) → AH → Prop} {A A' : AH} {P : AV → AH → Prop}
theorem lq {q : Qs} {x : TK} : (lookK (.inr x) (qL q)).isSome = hasK x q := look_has
theorem lj {j : Js} {x : TK} : (lookK (.inr x) (jE j)).isSome = hasK x j := look_has
theorem p_deed {q : Qs} {j : Js} {c : Ch} (o : Ok Nm q j) (hc : c.Nm Nm) (h : ∀ A', Gr A A' → P (dd q j c).av A') : Ev (m__law_deed [stL q j, .str c.wd, .lst c.args] A) P X := by
  refine ev_fnM rfl ?_
  cases c with
  | add x =>
    show ES (b__law_deed [some (stL q j), some (.str wAdd), some (.lst [.str x]), none, none, none, none, none, none, none] A) _ _ _
    unfold b__law_deed
    repeat wtm_at "sk"
    refine p_lname hc ?_
    repeat wtm_at "sk"
    rw [lq]
    refine ⟨fun c1 => ?_, fun c1 => ?_⟩
    · repeat wtm_at "sk"
      have := h A Gr.refl
      simp only [dd, c1, Bool.true_or, if_true] at this
      exact this
    · repeat wtm_at "sk"
      rw [lj]
      refine ⟨fun c2 => ?_, fun c2 => ?_⟩
      · repeat wtm_at "sk"
        have := h A Gr.refl
        simp only [dd, c2, Bool.or_true, if_true] at this
        exact this
      · repeat wtm_at "sk"
        rw [show (qL q).length = q.length from eD_len]
        refine ⟨fun c3 => ?_, fun c3 => ?_⟩
        · repeat wtm_at "sk"
          have := h A Gr.refl
          simp only [dd, c1, c2, Bool.or_self, Bool.false_eq_true, if_false, if_pos (of_decide_eq_true c3)] at this
          exact this
        · repeat wtm_at "sk"
          refine ev_dictApp (x := x) (f := fun l : List TK => AV.lst (l.map .str)) (v := []) rfl ?_ ?_ (by have := o.lq; omega) fun A1 g1 => ?_
          · repeat wtm_at "sk"
            exact ⟨rfl, rfl⟩
          · rw [keys_app]
            exact nodup_snoc o.nq fun hm => by rw [has_mem.mpr hm] at c1; cases c1
          · repeat wtm_at "sk"
            have := h A1 g1
            simp only [dd, c1, c2, Bool.or_self, Bool.false_eq_true, if_false, if_neg (of_decide_eq_false c3)] at this
            exact this
  | close x =>
    show ES (b__law_deed [some (stL q j), some (.str wClose), some (.lst [.str x]), none, none, none, none, none, none, none] A) _ _ _
    unfold b__law_deed
    repeat wtm_at "sk"
    rw [lq]
    refine ⟨fun c1 => ?_, fun c1 => ?_⟩
    · repeat wtm_at "sk"
      have := h A Gr.refl
      simp only [dd, nf c1, Bool.false_eq_true, if_false] at this
      exact this
    · repeat wtm_at "sk"
      refine ev_dictNe3 (f := fun l : List TK => AV.lst (l.map .str)) o.nq (by have := o.lq; omega) fun A1 g1 => ?_
      repeat wtm_at "sk"
      have := h A1 g1
      simp only [dd, nt c1, if_true] at this
      exact this
  | take x a b =>
    show ES (b__law_deed [some (stL q j), some (.str wTake), some (.lst [.str x, .int a, .int b]), none, none, none, none, none, none, none] A) _ _ _
    unfold b__law_deed
    repeat wtm_at "sk"
    refine p_lname hc ?_
    repeat wtm_at "sk"
    rw [lq]
    refine ⟨fun c1 => ?_, fun c1 => ?_⟩
    · repeat wtm_at "sk"
      have := h A Gr.refl
      simp only [dd, c1, Bool.true_or, if_true] at this
      exact this
    · repeat wtm_at "sk"
      rw [lj]
      refine ⟨fun c2 => ?_, fun c2 => ?_⟩
      · repeat wtm_at "sk"
        have := h A Gr.refl
        simp only [dd, c2, Bool.or_true, if_true] at this
        exact this
      · repeat wtm_at "sk"
        rw [show (jE j).length = j.length from eD_len]
        refine ⟨fun c3 => ?_, fun c3 => ?_⟩
        · repeat wtm_at "sk"
          have := h A Gr.refl
          simp only [dd, c1, c2, Bool.or_self, Bool.false_eq_true, if_false, if_pos (of_decide_eq_true c3)] at this
          exact this
        · repeat wtm_at "sk"
          refine p_lbtw ?_
          repeat wtm_at "sk"
          refine ⟨fun c4 => ?_, fun c4 => ?_⟩
          · repeat wtm_at "sk"
            have := h A Gr.refl
            simp only [dd, c1, c2, Bool.or_self, Bool.false_eq_true, if_false, if_neg (of_decide_eq_false c3), nf c4] at this
            exact this
          · repeat wtm_at "sk"
            refine p_lbtw ?_
            repeat wtm_at "sk"
            refine ⟨fun c5 => ?_, fun c5 => ?_⟩
            · repeat wtm_at "sk"
              have := h A Gr.refl
              simp only [dd, c1, c2, Bool.or_self, Bool.false_eq_true, if_false, if_neg (of_decide_eq_false c3), nt c4, nf c5, if_true] at this
              exact this
            · repeat wtm_at "sk"
              refine ev_dictApp (x := x) (f := fun p : Int × Int => AV.tup [.int p.1, .int p.2]) (v := (a, b)) rfl ?_ ?_ (by have := o.lj; omega) fun A1 g1 => ?_
              · repeat wtm_at "sk"
                exact ⟨rfl, rfl⟩
              · rw [keys_app]
                exact nodup_snoc o.nj fun hm => by rw [has_mem.mpr hm] at c2; cases c2
              · repeat wtm_at "sk"
                have := h A1 g1
                simp only [dd, c1, c2, Bool.or_self, Bool.false_eq_true, if_false, if_neg (of_decide_eq_false c3), nt c4, nt c5, if_true] at this
                exact this
  | give x m =>
    show ES (b__law_deed [some (stL q j), some (.str wGive), some (.lst [.str x, .str m]), none, none, none, none, none, none, none] A) _ _ _
    unfold b__law_deed
    repeat wtm_at "sk"
    rw [lj]
    refine ⟨fun c1 => ?_, fun c1 => ?_⟩
    · repeat wtm_at "sk"
      have := h A Gr.refl
      simp only [dd, nf c1, Bool.false_eq_true, if_false] at this
      exact this
    · repeat wtm_at "sk"
      rw [lq]
      refine ⟨fun c2 => ?_, fun c2 => ?_⟩
      · repeat wtm_at "sk"
        have := h A Gr.refl
        simp only [dd, nt c1, nf c2, Bool.false_eq_true, if_false, if_true] at this
        exact this
      · repeat wtm_at "sk"
        refine p_moved (m := some m) o.nq (by have := o.lq; omega) (fun kv hkv => by have := o.qlen kv hkv; omega) (fun y hy => by cases hy; exact has_mem.mp (nt c2)) fun A1 g1 => ?_
        repeat wtm_at "sk"
        have := h A1 g1
        simp only [dd, nt c1, nt c2, if_true] at this
        exact this
  | call x =>
    show ES (b__law_deed [some (stL q j), some (.str wCall), some (.lst [.str x]), none, none, none, none, none, none, none] A) _ _ _
    unfold b__law_deed
    repeat wtm_at "sk"
    rw [lj]
    refine ⟨fun c1 => ?_, fun c1 => ?_⟩
    · repeat wtm_at "sk"
      have := h A Gr.refl
      simp only [dd, nf c1, Bool.false_eq_true, if_false] at this
      exact this
    · repeat wtm_at "sk"
      refine ev_lcP q (fun kv => .str kv.1) (fun kv => decide (x ∈ kv.2)) (fun kv => .str kv.1) (by have := o.lq; omega) ?_ (fun kv hkv A1 g1 => ⟨_, rfl, ?_⟩) fun A1 g1 => ?_
      · repeat wtm_at "sk"
        refine ⟨?_, Gr.refl⟩
        congr 1
        unfold qL eD
        rw [List.map_map]; rfl
      · repeat wtm_at "sk"
        refine o_ixT (f := fun l : List TK => AV.lst (l.map .str)) (lk_of_mem o.nq hkv) ?_
        refine o_inL (l := kv.2) rfl ?_
        repeat wtm_at "sk"
        refine ⟨Gr.refl, rfl, fun _ => ?_⟩
        repeat wtm_at "sk"
        exact ⟨Gr.refl, rfl⟩
      · have hm : mo q x = ((q.filter fun kv => decide (x ∈ kv.2)).map (·.1)).head? := rfl
        have hall : ∀ y ∈ (q.filter fun kv => decide (x ∈ kv.2)).map (·.1), toD A1 59 (AV.str y) = some (pS y) := fun y hy => toD_str (nm_ascii y (o.gq y (by
          obtain ⟨kv, h1, h2⟩ := List.mem_map.mp hy
          exact List.mem_map.mpr ⟨kv, (List.mem_filter.mp h1).1, h2⟩)))
        have em : (q.filter fun kv => decide (x ∈ kv.2)).map (fun kv => AV.str kv.1) = ((q.filter fun kv => decide (x ∈ kv.2)).map (·.1)).map .str := by rw [List.map_map]; rfl
        rw [em]
        generalize (q.filter fun kv => decide (x ∈ kv.2)).map (·.1) = ms at hm hall ⊢
        repeat wtm_at "sk"
        cases ms with
        | nil =>
          refine o_eqNil ?_
          repeat wtm_at "sk"
          have := h A1 g1
          have hm : mo q x = none := hm
          simp only [dd, nt c1, if_true, hm] at this
          exact this
        | cons m ms =>
          refine o_eqL (g := AV.str) (f := pS) (xs := m :: ms) (ys := []) eqv_str hall (fun _ h => by cases h) ?_
          refine ⟨_, rfl, fun c => absurd (of_decide_eq_true c) (by simp), fun _ => ?_⟩
          repeat wtm_at "sk"
          have hm : mo q x = some m := hm
          refine p_moved (m := none) o.nq (by have := o.lq; omega) (fun kv hkv => by have := o.qlen kv hkv; omega) (fun y hy => by cases hy) fun A2 g2 => ?_
          repeat wtm_at "sk"
          have := h A2 (g1.trans g2)
          simp only [dd, nt c1, if_true, hm] at this
          exact this
  | hurry x =>
    show ES (b__law_deed [some (stL q j), some (.str wHurry), some (.lst [.str x]), none, none, none, none, none, none, none] A) _ _ _
    unfold b__law_deed
    repeat wtm_at "sk"
    rw [lj]
    refine ⟨fun c1 => ?_, fun c1 => ?_⟩
    · repeat wtm_at "sk"
      have := h A Gr.refl
      simp only [dd, nf c1, Bool.false_eq_true, if_false] at this
      exact this
    · repeat wtm_at "sk"
      refine ev_lcP q (fun kv => .str kv.1) (fun kv => decide (x ∈ kv.2)) (fun kv => .str kv.1) (by have := o.lq; omega) ?_ (fun kv hkv A1 g1 => ⟨_, rfl, ?_⟩) fun A1 g1 => ?_
      · repeat wtm_at "sk"
        refine ⟨?_, Gr.refl⟩
        congr 1
        unfold qL eD
        rw [List.map_map]; rfl
      · repeat wtm_at "sk"
        refine o_ixT (f := fun l : List TK => AV.lst (l.map .str)) (lk_of_mem o.nq hkv) ?_
        refine o_inL (l := kv.2) rfl ?_
        repeat wtm_at "sk"
        refine ⟨Gr.refl, rfl, fun _ => ?_⟩
        repeat wtm_at "sk"
        exact ⟨Gr.refl, rfl⟩
      · have hm : mo q x = ((q.filter fun kv => decide (x ∈ kv.2)).map (·.1)).head? := rfl
        have hall : ∀ y ∈ (q.filter fun kv => decide (x ∈ kv.2)).map (·.1), toD A1 59 (AV.str y) = some (pS y) := fun y hy => toD_str (nm_ascii y (o.gq y (by
          obtain ⟨kv, h1, h2⟩ := List.mem_map.mp hy
          exact List.mem_map.mpr ⟨kv, (List.mem_filter.mp h1).1, h2⟩)))
        have em : (q.filter fun kv => decide (x ∈ kv.2)).map (fun kv => AV.str kv.1) = ((q.filter fun kv => decide (x ∈ kv.2)).map (·.1)).map .str := by rw [List.map_map]; rfl
        rw [em]
        generalize (q.filter fun kv => decide (x ∈ kv.2)).map (·.1) = ms at hm hall ⊢
        repeat wtm_at "sk"
        cases ms with
        | nil =>
          refine o_eqNil ?_
          repeat wtm_at "sk"
          have := h A1 g1
          have hm : mo q x = none := hm
          simp only [dd, nt c1, if_true, hm] at this
          exact this
        | cons m ms =>
          refine o_eqL (g := AV.str) (f := pS) (xs := m :: ms) (ys := []) eqv_str hall (fun _ h => by cases h) ?_
          refine ⟨_, rfl, fun c => absurd (of_decide_eq_true c) (by simp), fun _ => ?_⟩
          repeat wtm_at "sk"
          have hm : mo q x = some m := hm
          refine ix0 ?_
          repeat wtm_at "sk"
          refine p_moved (m := some m) o.nq (by have := o.lq; omega) (fun kv hkv => by have := o.qlen kv hkv; omega) (fun y hy => by cases hy; exact (mo_some hm).1) fun A2 g2 => ?_
          repeat wtm_at "sk"
          have := h A2 (g1.trans g2)
          simp only [dd, nt c1, if_true, hm] at this
          exact this
  | fin x =>
    show ES (b__law_deed [some (stL q j), some (.str wFin), some (.lst [.str x]), none, none, none, none, none, none, none] A) _ _ _
    unfold b__law_deed
    repeat wtm_at "sk"
    rw [lj]
    refine ⟨fun c1 => ?_, fun c1 => ?_⟩
    · repeat wtm_at "sk"
      have := h A Gr.refl
      simp only [dd, nf c1, Bool.false_eq_true, if_false] at this
      exact this
    · repeat wtm_at "sk"
      refine p_moved (m := none) o.nq (by have := o.lq; omega) (fun kv hkv => by have := o.qlen kv hkv; omega) (fun y hy => by cases hy) fun A1 g1 => ?_
      unfold stL
      repeat wtm_at "sk"
      refine ev_dictNe4 (f := fun p : Int × Int => AV.tup [.int p.1, .int p.2]) o.nj (by have := o.lj; omega) fun A2 g2 => ?_
      repeat wtm_at "sk"
      have := h A2 (g1.trans g2)
      simp only [dd, nt c1, if_true] at this
      exact this
  | settle =>
    show ES (b__law_deed [some (stL q j), some (.str wSettle), some (.lst []), none, none, none, none, none, none, none] A) _ _ _
    unfold b__law_deed
    repeat wtm_at "sk"
    rw [show (qL q).length = q.length from eD_len]
    refine ⟨fun c1 => ?_, fun c1 => ?_⟩
    · have hq : q = [] := List.length_eq_zero_iff.mp (by have := of_decide_eq_true c1; omega)
      repeat wtm_at "sk"
      rw [show (jE j).length = j.length from eD_len]
      refine ⟨fun c2 => ?_, fun c2 => ?_⟩
      · repeat wtm_at "sk"
        have hw : wt q j ≠ [] := fun e => by
          have := (wt_nil_iff hq).mp e
          rw [this] at c2
          exact absurd c2 (by decide)
        have := h A Gr.refl
        simp only [dd, if_pos (show q = [] ∧ wt q j ≠ [] from ⟨hq, hw⟩)] at this
        exact this
      · repeat wtm_at "sk"
        have hj : j = [] := List.length_eq_zero_iff.mp (by have := of_decide_eq_false c2; omega)
        have hw : wt q j = [] := (wt_nil_iff hq).mpr hj
        refine p_lsettled o (.inr hw) fun A1 g1 => ?_
        repeat wtm_at "sk"
        have := h A1 g1
        simp only [dd, if_neg (show ¬ (q = [] ∧ wt q j ≠ []) from fun z => z.2 hw)] at this
        exact this
    · have hq : q ≠ [] := fun e => by
        rw [e] at c1
        exact absurd c1 (by decide)
      repeat wtm_at "sk"
      refine p_lsettled o (.inl hq) fun A1 g1 => ?_
      repeat wtm_at "sk"
      have := h A1 g1
      simp only [dd, if_neg (show ¬ (q = [] ∧ wt q j ≠ []) from fun z => hq z.1)] at this
      exact this
end
end K77
set_option Elab.async false
set_option linter.all false
set_option maxRecDepth 100000
set_option maxHeartbeats 2000000
namespace K77
open Mw Dsk PySem
section
variable {X : Nat → List (Nat × AV) → AH → Prop} {A A' : AH} {P : AV → AH → Prop}
abbrev dCS : List Nat := [2, 3, 4, 5, 6, 7, 8, 9]
abbrev dCL : List ClM := [(4, 4, [.s [110, 97, 109, 101], .f 15, .i true]), (8, 4, [.s [116, 97, 107, 101, 110], .f 13, .i true]), (9, 4, [.s [117, 110, 107, 110, 111, 119, 110], .f 13, .i true]), (5, 4, [.s [109, 97, 110, 121], .f 14, .i true]), (3, 4, [.s [108, 101, 110, 103, 116, 104], .f 15, .i true]), (2, 4, [.s [100, 117, 101], .f 15, .i true]), (7, 4, [.s [119, 97, 105, 116, 115], .f 20, .i true]), (6, 4, [.s [109, 97, 99, 104, 105, 110, 101, 115], .n, .i true])]
def Caught (k : Nat) (fs : List (Nat × AV)) (w : TK) (v : AV) : Prop := ∀ (a b c e f : Option AV) (A' : AH), trM true dCS dCL k fs [a, b, c, e, f] A' = .rt (.lst [.str w, v, .bl true]) A'
theorem es_rt {v : AV} {r : SR} {N : AE → AH → Prop} {R : AV → AH → Prop} {Y : Nat → List (Nat × AV) → AE → AH → Prop} (e : r = .rt v A) (h : R v A) : ES r N R Y := by
  rw [e]
  unfold ES
  exact h
abbrev DP (A : AH) (d : Nat) (q : Qs) (j : Js) (n : Nat) (c : Ch) : AV → AH → Prop := fun v A' => v = .non ∧ ∃ q2 j2, dd q j c = .ok q2 j2 ∧ Dk A' d q2 j2 (n + 1) ∧ Wr d A A'
abbrev DX (A : AH) (q : Qs) (j : Js) (c : Ch) : Nat → List (Nat × AV) → AH → Prop := fun k fs A' => Gr A A' ∧ ∃ w v, dd q j c = .err w v ∧ Caught k fs w v
variable {d n : Nat} {q : Qs} {j : Js} {x m : TK} {a b : Int}
theorem r_add (hd : Dk A d q j n) (hn : n ≤ 1000) (o : Ok Nm q j) (hx : Nm x) : Ev (m_Desk_add_machine [.ref d, .str x] A) (DP A d q j n (.add x)) (DX A q j (.add x)) :=
  p_add hd hn (by have := o.lq; omega) hx (fun c1 c2 A' hd' w => ⟨rfl, q ++ [(x, [])], j, by simp only [dd, c1, c2, Bool.false_eq_true, if_false], by
      rw [putT_new fun hm => by rw [has_mem.mpr hm] at c1; cases c1] at hd'
      exact hd', w⟩)
    (fun c1 => ⟨Gr.refl, eTaken, .str x, by simp only [dd, c1, if_true], fun _ _ _ _ _ _ => rfl⟩)
    fun c1 c2 => ⟨Gr.refl, eMany, .int 6, by simp only [dd, c1, c2, Bool.false_eq_true, if_false, if_true], fun _ _ _ _ _ _ => rfl⟩
theorem r_close (hd : Dk A d q j n) (hn : n ≤ 1000) (o : Ok Nm q j) (hx : Nm x) : Ev (m_Desk_close_machine [.ref d, .str x] A) (DP A d q j n (.close x)) (DX A q j (.close x)) :=
  p_close hd hn o.nq (by have := o.lq; omega) hx (fun c A' hd' w => ⟨rfl, _, _, by simp only [dd, c, if_true], hd', w⟩)
    fun c => ⟨Gr.refl, eUnknown, .str x, by simp only [dd, c, Bool.false_eq_true, if_false], fun _ _ _ _ _ _ => rfl⟩
theorem r_tin (hd : Dk A d q j n) (hn : n ≤ 1000) (o : Ok Nm q j) (hx : Nm x) : Ev (m_Desk_take_in [.ref d, .str x, .int a, .int b] A) (DP A d q j n (.take x a b)) (DX A q j (.take x a b)) :=
  p_tin hd hn (by have := o.lj; omega) hx (fun c1 c2 c3 c4 A' hd' w => ⟨rfl, q, j ++ [(x, (a, b))], by simp only [dd, c1, c2, c3, c4, Bool.false_eq_true, if_false, if_true], by
      rw [putT_new fun hm => by rw [has_mem.mpr hm, Bool.or_true] at c1; cases c1] at hd'
      exact hd', w⟩)
    (fun c1 => ⟨Gr.refl, eTaken, .str x, by simp only [dd, c1, if_true], fun _ _ _ _ _ _ => rfl⟩)
    (fun c1 c2 => ⟨Gr.refl, eMany, .int 21, by simp only [dd, c1, c2, Bool.false_eq_true, if_false, if_true], fun _ _ _ _ _ _ => rfl⟩)
    (fun c1 c2 c3 => ⟨Gr.refl, eLength, .int a, by simp only [dd, c1, c2, c3, Bool.false_eq_true, if_false, if_true], fun _ _ _ _ _ _ => rfl⟩)
    fun c1 c2 c3 c4 => ⟨Gr.refl, eDue, .int b, by simp only [dd, c1, c2, c3, c4, Bool.false_eq_true, if_false, if_true], fun _ _ _ _ _ _ => rfl⟩
theorem r_give (hd : Dk A d q j n) (hn : n ≤ 1000) (o : Ok Nm q j) (hx : Nm x) (hm : Nm m) : Ev (m_Desk_give_out [.ref d, .str x, .str m] A) (DP A d q j n (.give x m)) (DX A q j (.give x m)) :=
  p_give hd hn o.nq (by have := o.lq; omega) (fun kv h => by have := o.qlen kv h; omega) hx hm (fun c1 c2 A' hd' w => ⟨rfl, _, _, by simp only [dd, c1, c2, if_true], hd', w⟩)
    (fun c => ⟨Gr.refl, eUnknown, .str x, by simp only [dd, c, Bool.false_eq_true, if_false], fun _ _ _ _ _ _ => rfl⟩)
    fun c1 c2 => ⟨Gr.refl, eUnknown, .str m, by simp only [dd, c1, c2, Bool.false_eq_true, if_false, if_true], fun _ _ _ _ _ _ => rfl⟩
theorem r_call (hd : Dk A d q j n) (hn : n ≤ 1000) (o : Ok Nm q j) (hx : Nm x) : Ev (m_Desk_call_back [.ref d, .str x] A) (DP A d q j n (.call x)) (DX A q j (.call x)) :=
  p_call hd hn o hx (fun m c1 c2 A' hd' w => ⟨rfl, _, _, by simp only [dd, c1, c2, if_true], hd', w⟩)
    (fun c => ⟨Gr.refl, eUnknown, .str x, by simp only [dd, c, Bool.false_eq_true, if_false], fun _ _ _ _ _ _ => rfl⟩)
    fun A' c1 c2 g => ⟨g, eWaits, .str x, by simp only [dd, c1, c2, if_true], fun _ _ _ _ _ _ => rfl⟩
theorem r_hurry (hd : Dk A d q j n) (hn : n ≤ 1000) (o : Ok Nm q j) (hx : Nm x) : Ev (m_Desk_hurry [.ref d, .str x] A) (DP A d q j n (.hurry x)) (DX A q j (.hurry x)) :=
  p_hurry hd hn o hx (fun m c1 c2 A' hd' w => ⟨rfl, _, _, by simp only [dd, c1, c2, if_true], hd', w⟩)
    (fun c => ⟨Gr.refl, eUnknown, .str x, by simp only [dd, c, Bool.false_eq_true, if_false], fun _ _ _ _ _ _ => rfl⟩)
    fun A' c1 c2 g => ⟨g, eWaits, .str x, by simp only [dd, c1, c2, if_true], fun _ _ _ _ _ _ => rfl⟩
theorem r_finish (hd : Dk A d q j n) (hn : n ≤ 1000) (o : Ok Nm q j) (hx : Nm x) : Ev (m_Desk_finish [.ref d, .str x] A) (DP A d q j n (.fin x)) (DX A q j (.fin x)) :=
  p_finish hd hn o hx (fun c A' hd' w => ⟨rfl, _, _, by simp only [dd, c, if_true], hd', w⟩)
    fun c => ⟨Gr.refl, eUnknown, .str x, by simp only [dd, c, Bool.false_eq_true, if_false], fun _ _ _ _ _ _ => rfl⟩
theorem r_settle (hd : Dk A d q j n) (hn : n ≤ 1000) (o : Ok Nm q j) : Ev (m_Desk_settle [.ref d] A) (DP A d q j n .settle) (DX A q j .settle) :=
  p_settle hd hn o (fun c A' hd' w => ⟨rfl, _, _, by
      have : ¬ (q = [] ∧ wt q j ≠ []) := fun z => c.elim (fun h => h z.1) fun h => z.2 h
      simp only [dd, if_neg this], hd', w⟩)
    fun c1 c2 A' g => ⟨g, eMachines, .non, by simp only [dd, if_pos (show q = [] ∧ wt q j ≠ [] from ⟨c1, c2⟩)], fun _ _ _ _ _ _ => rfl⟩
theorem p_done {c : Ch} {nb : Bool} (hd : Dk A d q j n) (hn : n ≤ 1000) (o : Ok Nm q j) (hc : c.Nm Nm) (h1 : ∀ q2 j2 A', dd q j c = .ok q2 j2 → Dk A' d q2 j2 (n + 1) → Wr d A A' → P (.lst [.str eTold, .non]) A') (h2 : ∀ w v A', dd q j c = .err w v → Gr A A' → P (.lst [.str w, v, .bl true]) A') :
    Ev (m__law_done [.ref d, .str c.wd, .lst c.args, .bl nb] A) P X := by
  refine ev_fnM rfl ?_
  cases c with
  | add x =>
    show ES (b__law_done [some (.ref d), some (.str wAdd), some (.lst [.str x]), some (.bl nb), none] A) _ _ _
    unfold b__law_done
    refine es_try ?_
    have go := r_add hd hn o hc
    repeat wtm_at "sk"
    refine ⟨fun _ => ?_, fun _ => ?_⟩
    · refine ev_mtK rfl ?_
      repeat first | wtm_at "sx" | wtm_at "ixs"
      refine go.mono (fun v A1 ⟨e, q2, j2, e2, hd2, w2⟩ => ?_) fun k fs A1 ⟨g, w, v, e, cgh⟩ => es_rt (cgh _ _ _ _ _ A1) (h2 w v A1 e g)
      subst e
      repeat wtm_at "sk"
      exact h1 q2 j2 A1 e2 hd2 w2
    · repeat first | wtm_at "sx" | wtm_at "ixs"
      refine go.mono (fun v A1 ⟨e, q2, j2, e2, hd2, w2⟩ => ?_) fun k fs A1 ⟨g, w, v, e, cgh⟩ => es_rt (cgh _ _ _ _ _ A1) (h2 w v A1 e g)
      subst e
      repeat wtm_at "sk"
      exact h1 q2 j2 A1 e2 hd2 w2
  | close x =>
    show ES (b__law_done [some (.ref d), some (.str wClose), some (.lst [.str x]), some (.bl nb), none] A) _ _ _
    unfold b__law_done
    refine es_try ?_
    have go := r_close hd hn o hc
    repeat wtm_at "sk"
    refine ⟨fun _ => ?_, fun _ => ?_⟩
    · refine ev_mtK rfl ?_
      repeat first | wtm_at "sx" | wtm_at "ixs"
      refine go.mono (fun v A1 ⟨e, q2, j2, e2, hd2, w2⟩ => ?_) fun k fs A1 ⟨g, w, v, e, cgh⟩ => es_rt (cgh _ _ _ _ _ A1) (h2 w v A1 e g)
      subst e
      repeat wtm_at "sk"
      exact h1 q2 j2 A1 e2 hd2 w2
    · repeat first | wtm_at "sx" | wtm_at "ixs"
      refine go.mono (fun v A1 ⟨e, q2, j2, e2, hd2, w2⟩ => ?_) fun k fs A1 ⟨g, w, v, e, cgh⟩ => es_rt (cgh _ _ _ _ _ A1) (h2 w v A1 e g)
      subst e
      repeat wtm_at "sk"
      exact h1 q2 j2 A1 e2 hd2 w2
  | take x a b =>
    show ES (b__law_done [some (.ref d), some (.str wTake), some (.lst [.str x, .int a, .int b]), some (.bl nb), none] A) _ _ _
    unfold b__law_done
    refine es_try ?_
    have go := r_tin (a := a) (b := b) hd hn o hc
    repeat wtm_at "sk"
    refine ⟨fun _ => ?_, fun _ => ?_⟩
    · refine ev_mtK rfl ?_
      repeat first | wtm_at "sx" | wtm_at "ixs"
      refine go.mono (fun v A1 ⟨e, q2, j2, e2, hd2, w2⟩ => ?_) fun k fs A1 ⟨g, w, v, e, cgh⟩ => es_rt (cgh _ _ _ _ _ A1) (h2 w v A1 e g)
      subst e
      repeat wtm_at "sk"
      exact h1 q2 j2 A1 e2 hd2 w2
    · repeat first | wtm_at "sx" | wtm_at "ixs"
      refine go.mono (fun v A1 ⟨e, q2, j2, e2, hd2, w2⟩ => ?_) fun k fs A1 ⟨g, w, v, e, cgh⟩ => es_rt (cgh _ _ _ _ _ A1) (h2 w v A1 e g)
      subst e
      repeat wtm_at "sk"
      exact h1 q2 j2 A1 e2 hd2 w2
  | give x m =>
    show ES (b__law_done [some (.ref d), some (.str wGive), some (.lst [.str x, .str m]), some (.bl nb), none] A) _ _ _
    unfold b__law_done
    refine es_try ?_
    have go := r_give hd hn o hc.1 hc.2
    repeat wtm_at "sk"
    refine ⟨fun _ => ?_, fun _ => ?_⟩
    · refine ev_mtK rfl ?_
      repeat first | wtm_at "sx" | wtm_at "ixs"
      refine go.mono (fun v A1 ⟨e, q2, j2, e2, hd2, w2⟩ => ?_) fun k fs A1 ⟨g, w, v, e, cgh⟩ => es_rt (cgh _ _ _ _ _ A1) (h2 w v A1 e g)
      subst e
      repeat wtm_at "sk"
      exact h1 q2 j2 A1 e2 hd2 w2
    · repeat first | wtm_at "sx" | wtm_at "ixs"
      refine go.mono (fun v A1 ⟨e, q2, j2, e2, hd2, w2⟩ => ?_) fun k fs A1 ⟨g, w, v, e, cgh⟩ => es_rt (cgh _ _ _ _ _ A1) (h2 w v A1 e g)
      subst e
      repeat wtm_at "sk"
      exact h1 q2 j2 A1 e2 hd2 w2
  | call x =>
    show ES (b__law_done [some (.ref d), some (.str wCall), some (.lst [.str x]), some (.bl nb), none] A) _ _ _
    unfold b__law_done
    refine es_try ?_
    have go := r_call hd hn o hc
    repeat wtm_at "sk"
    refine ⟨fun _ => ?_, fun _ => ?_⟩
    · refine ev_mtK rfl ?_
      repeat first | wtm_at "sx" | wtm_at "ixs"
      refine go.mono (fun v A1 ⟨e, q2, j2, e2, hd2, w2⟩ => ?_) fun k fs A1 ⟨g, w, v, e, cgh⟩ => es_rt (cgh _ _ _ _ _ A1) (h2 w v A1 e g)
      subst e
      repeat wtm_at "sk"
      exact h1 q2 j2 A1 e2 hd2 w2
    · repeat first | wtm_at "sx" | wtm_at "ixs"
      refine go.mono (fun v A1 ⟨e, q2, j2, e2, hd2, w2⟩ => ?_) fun k fs A1 ⟨g, w, v, e, cgh⟩ => es_rt (cgh _ _ _ _ _ A1) (h2 w v A1 e g)
      subst e
      repeat wtm_at "sk"
      exact h1 q2 j2 A1 e2 hd2 w2
  | hurry x =>
    show ES (b__law_done [some (.ref d), some (.str wHurry), some (.lst [.str x]), some (.bl nb), none] A) _ _ _
    unfold b__law_done
    refine es_try ?_
    have go := r_hurry hd hn o hc
    repeat wtm_at "sk"
    refine ⟨fun _ => ?_, fun _ => ?_⟩
    · refine ev_mtK rfl ?_
      repeat first | wtm_at "sx" | wtm_at "ixs"
      refine go.mono (fun v A1 ⟨e, q2, j2, e2, hd2, w2⟩ => ?_) fun k fs A1 ⟨g, w, v, e, cgh⟩ => es_rt (cgh _ _ _ _ _ A1) (h2 w v A1 e g)
      subst e
      repeat wtm_at "sk"
      exact h1 q2 j2 A1 e2 hd2 w2
    · repeat first | wtm_at "sx" | wtm_at "ixs"
      refine go.mono (fun v A1 ⟨e, q2, j2, e2, hd2, w2⟩ => ?_) fun k fs A1 ⟨g, w, v, e, cgh⟩ => es_rt (cgh _ _ _ _ _ A1) (h2 w v A1 e g)
      subst e
      repeat wtm_at "sk"
      exact h1 q2 j2 A1 e2 hd2 w2
  | fin x =>
    show ES (b__law_done [some (.ref d), some (.str wFin), some (.lst [.str x]), some (.bl nb), none] A) _ _ _
    unfold b__law_done
    refine es_try ?_
    have go := r_finish hd hn o hc
    repeat wtm_at "sk"
    refine ⟨fun _ => ?_, fun _ => ?_⟩
    · refine ev_mtK rfl ?_
      repeat first | wtm_at "sx" | wtm_at "ixs"
      refine go.mono (fun v A1 ⟨e, q2, j2, e2, hd2, w2⟩ => ?_) fun k fs A1 ⟨g, w, v, e, cgh⟩ => es_rt (cgh _ _ _ _ _ A1) (h2 w v A1 e g)
      subst e
      repeat wtm_at "sk"
      exact h1 q2 j2 A1 e2 hd2 w2
    · repeat first | wtm_at "sx" | wtm_at "ixs"
      refine go.mono (fun v A1 ⟨e, q2, j2, e2, hd2, w2⟩ => ?_) fun k fs A1 ⟨g, w, v, e, cgh⟩ => es_rt (cgh _ _ _ _ _ A1) (h2 w v A1 e g)
      subst e
      repeat wtm_at "sk"
      exact h1 q2 j2 A1 e2 hd2 w2
  | settle =>
    show ES (b__law_done [some (.ref d), some (.str wSettle), some (.lst []), some (.bl nb), none] A) _ _ _
    unfold b__law_done
    refine es_try ?_
    have go := r_settle hd hn o
    repeat wtm_at "sk"
    repeat first | wtm_at "sx" | wtm_at "ixs"
    refine go.mono (fun v A1 ⟨e, q2, j2, e2, hd2, w2⟩ => ?_) fun k fs A1 ⟨g, w, v, e, cgh⟩ => es_rt (cgh _ _ _ _ _ A1) (h2 w v A1 e g)
    subst e
    repeat wtm_at "sk"
    exact h1 q2 j2 A1 e2 hd2 w2
end
end K77
set_option Elab.async false
set_option linter.all false
set_option maxRecDepth 100000
set_option maxHeartbeats 2000000
namespace K77
open Mw Dsk PySem
section
variable {X : Nat → List (Nat × AV) → AH → Prop} {A A' : AH} {P : AV → AH → Prop}
theorem p_very {v : AV} (hv : Sc Nm v) (h : ∀ A', Gr A A' → P (.bl true) A') : Ev (m__law_very [v, v] A) P X := by
  have pl : Pl 9 v := by
    rcases hv with rfl | ⟨i, rfl⟩ | ⟨s, rfl, hs⟩
    · trivial
    · trivial
    · have := hs.2.2.2
      show s.length ≤ 10000
      omega
  refine ev_fnM rfl ?_
  show ES (b__law_very _ _) _ _ _
  unfold b__law_very
  repeat wtm_at "sk"
  refine p_same 9 pl fun A1 g1 => ?_
  repeat wtm_at "sk"
  have fin : ∀ A', Gr A A' → Ev (m__law_same 9 [v, v] A') P X := fun A' g => p_same 9 pl fun A2 g2 => h A2 (g.trans g2)
  rcases hv with rfl | ⟨i, rfl⟩ | ⟨s, rfl, hs⟩
  all_goals
    repeat wtm_at "sk"
    exact fin A1 g1
theorem p_step {d n : Nat} {q : Qs} {j : Js} {c : Ch} {nb : Bool} (hd : Dk A d q j n) (hn : n ≤ 1000) (o : Ok Nm q j) (hc : c.Nm Nm) (h1 : ∀ q2 j2 A', dd q j c = .ok q2 j2 → Dk A' d q2 j2 (n + 1) → Wr d A A' → P (stL q2 j2) A')
    (h2 : ∀ w v A', dd q j c = .err w v → Dk A' d q j n → Wr d A A' → P (stL q j) A') : Ev (m__law_step [.ref d, stL q j, .str c.wd, .lst c.args, .bl nb] A) P X := by
  refine ev_fnM rfl ?_
  show ES (b__law_step _ _) _ _ _
  unfold b__law_step
  repeat wtm_at "sk"
  refine p_deed o hc fun A1 g1 => ?_
  have hd1 := hd.gr g1
  repeat wtm_at "sk"
  cases e : dd q j c with
  | ok q2 j2 =>
    refine p_done hd1 hn o hc (fun q3 j3 A2 e3 hd2 w2 => ?_) fun w v A2 e2 => by rw [e] at e2; cases e2
    rw [e] at e3
    cases e3
    unfold Rs.av
    repeat wtm_at "sk"
    refine p_same 9 (v := .lst [.str eTold, .non]) ⟨by decide, fun x hx => by
      simp only [List.mem_cons, List.not_mem_nil, or_false] at hx
      rcases hx with rfl | rfl
      · show eTold.length ≤ 10000
        decide
      · trivial⟩ fun A3 g3 => ?_
    repeat wtm_at "sk"
    exact h1 q2 j2 A3 e (hd2.gr g3) (g1.wr.trans (w2.trans g3.wr))
  | err w v =>
    refine p_done hd1 hn o hc (fun q3 j3 A2 e3 => by rw [e] at e3; cases e3) fun w2 v2 A2 e2 g2 => ?_
    rw [e] at e2
    cases e2
    obtain ⟨hw, hv⟩ := dd_err hc e
    unfold Rs.av
    repeat wtm_at "sk"
    refine ⟨fun z => absurd (of_decide_eq_true z) hw, fun _ => ?_⟩
    repeat wtm_at "sk"
    refine ⟨fun z => absurd z (by simp), fun _ => ?_⟩
    repeat wtm_at "sk"
    refine p_very hv fun A3 g3 => ?_
    repeat wtm_at "sk"
    exact h2 w v A3 e (hd1.gr (g2.trans g3)) (g1.wr.trans (g2.wr.trans g3.wr))
end
end K77
set_option Elab.async false
set_option linter.all false
set_option maxRecDepth 100000
set_option maxHeartbeats 2000000
namespace K77
open Mw Dsk PySem
section
variable {X : Nat → List (Nat × AV) → AH → Prop} {A A' : AH} {P : AV → AH → Prop}
theorem Bx.mono {b n m : Nat} (h : Bx A b n) (l : n ≤ m) : Bx A b m := by
  obtain ⟨b0, b1, b2, b3, e, h1, h2, h3, h4⟩ := h
  exact ⟨b0, b1, b2, b3, e, h1, h2, h3, by omega⟩
theorem Bx.gr {b n : Nat} (h : Bx A b n) (g : Gr A A') : Bx A' b n := by
  obtain ⟨b0, b1, b2, b3, e, h⟩ := h
  exact ⟨b0, b1, b2, b3, g _ _ e, h⟩
theorem ev_pick {F : List TK} {d : Int} (h1 : 0 ≤ d) (h2 : d < F.length) (h : ∀ x ∈ F, P (.str x) A) : Ev (fIx (.lst (F.map .str)) (.int d) A) P X := by
  have hd : d.toNat < F.length := by omega
  rw [show d = ((d.toNat : Nat) : Int) by omega]
  refine o_ixL (xs := F.map .str) rfl (atI_nat (k := d.toNat) (v := .str F[d.toNat]) (by rw [List.getElem?_map, List.getElem?_eq_getElem hd]; rfl)) (h _ (List.getElem_mem hd))
theorem ev_pickI {F : List Int} {d : Int} (h1 : 0 ≤ d) (h2 : d < F.length) (h : ∀ x ∈ F, P (.int x) A) : Ev (fIx (.lst (F.map .int)) (.int d) A) P X := by
  have hd : d.toNat < F.length := by omega
  rw [show d = ((d.toNat : Nat) : Int) by omega]
  refine o_ixL (xs := F.map .int) rfl (atI_nat (k := d.toNat) (v := .int F[d.toNat]) (by rw [List.getElem?_map, List.getElem?_eq_getElem hd]; rfl)) (h _ (List.getElem_mem hd))
theorem lenS {l : List TK} (h : P (.int l.length) A) : Ev (cLen [.lst (l.map .str)] A) P X := k_lenS rfl (by rw [List.length_map]; exact h)
theorem eqS0 {l : List TK} (ha : ∀ x ∈ l, Nm x) (h : P (.bl (decide (l = []))) A) : Ev (eqA (.lst (l.map .str)) (.lst []) A) P X := o_eqL (g := AV.str) (f := pS) (xs := l) (ys := []) eqv_str (fun x hx => toD_str (nm_ascii x (ha x hx))) (fun _ h => by cases h) h
theorem neS0 {l : List TK} (ha : ∀ x ∈ l, Nm x) (h : P (.bl (!decide (l = []))) A) : Ev (neA (.lst (l.map .str)) (.lst []) A) P X := o_neL (g := AV.str) (f := pS) (xs := l) (ys := []) eqv_str (fun x hx => toD_str (nm_ascii x (ha x hx))) (fun _ h => by cases h) h
abbrev N12 : List TK := [[97, 120], [98, 121], [99, 111, 103], [100, 114, 105, 108, 108], [101, 100, 103, 101], [102, 105, 108, 101], [103, 101, 97, 114], [104, 97, 109, 109, 101, 114], [105, 114, 111, 110], [106, 105, 103], [107, 105, 116], [108, 97, 116, 104, 101]]
theorem n12_nm : ∀ x ∈ N12, Nm x := fun x hx => nm_nm x ((by decide +kernel : ∀ x ∈ N12, x ∈ NM) x hx)
theorem p_lchange {b n : Nat} {q : Qs} {j : Js} {mx : Int} (hb : Bx A b n) (hn : n ≤ 900000) (o : Ok Nm q j) (h : ∀ c A', c.Nm Nm → Bx A' b (n + 20) → Wr b A A' → P (.lst [.str (Ch.wd c), .lst c.args]) A') :
    Ev (m__law_change [.ref b, stL q j, .int mx] A) P X := by
  refine ev_fnM rfl ?_
  show ES (b__law_change _ _) _ _ _
  unfold b__law_change
  repeat wtm_at "sk"
  refine k_srt (l := keys q) ?_ (by have := o.lq; rw [keys_len]; omega) ?_
  · show some ((qL q).map fun kv => kA kv.1) = _
    unfold qL
    rw [eD_keys]
  repeat wtm_at "sk"
  refine k_srt (l := keys j) ?_ (by have := o.lj; rw [keys_len]; omega) ?_
  · show some ((jE j).map fun kv => kA kv.1) = _
    unfold jE
    rw [eD_keys]
  have nmq : ∀ x ∈ srt (keys q), Nm x := fun x hx => o.gq x (srt_mem.mp hx)
  have nmj : ∀ x ∈ srt (keys j), Nm x := fun x hx => o.gj x (srt_mem.mp hx)
  have lmq : (srt (keys q)).length ≤ 5 := by rw [srt_len, keys_len]; exact o.lq
  have lmj : (srt (keys j)).length ≤ 20 := by rw [srt_len, keys_len]; exact o.lj
  generalize srt (keys q) = ms at nmq lmq ⊢
  generalize srt (keys j) = js at nmj lmj ⊢
  repeat wtm_at "sk"
  refine p_take hb (by omega) (by decide) (by decide) fun way A1 w1 w2 hb1 wr1 => ?_
  repeat wtm_at "sk"
  refine ev_lcP N12 .str (fun x => !hasK x q && !hasK x j) .str (by decide) ?_ (fun x hx A2 g2 => ⟨_, rfl, ?_⟩) fun A2 g2 => ?_
  · repeat wtm_at "sk"
    exact Gr.refl
  · repeat wtm_at "sk"
    rw [lq]
    refine ⟨fun c1 => ?_, fun c1 => ?_⟩
    · repeat wtm_at "sk"
      rw [lj]
      refine ⟨Gr.refl, by rw [c1]; rfl, fun _ => ?_⟩
      repeat wtm_at "sk"
      exact ⟨Gr.refl, rfl⟩
    · refine ⟨Gr.refl, by rw [c1]; rfl, fun z => ?_⟩
      rw [c1] at z
      cases z
  have hF : ∀ x ∈ N12.filter fun x => !hasK x q && !hasK x j, Nm x := fun x hx => n12_nm x (List.mem_filter.mp hx).1
  have lF : (N12.filter fun x => !hasK x q && !hasK x j).length ≤ 12 := List.length_filter_le _ _
  generalize N12.filter (fun x => !hasK x q && !hasK x j) = F at hF lF ⊢
  have hb2 := hb1.gr g2
  have wr2 := wr1.trans g2.wr
  wtm_at "sk"
  refine es_if (Ev.mono (P := fun c A3 => Bx A3 b (n + 2) ∧ Wr b A A3) (X := NX) ?_ (fun c A3 ⟨hb3, wr3⟩ => ⟨fun _ => ?_, fun _ => ?_⟩) fun _ _ _ z => z.elim)
  · repeat' (first | wtm_at "sk" | refine lenS ?_ | refine eqS0 nmq ?_ | refine p_take hb2 (by omega) (by decide) (by decide) fun _ A3 _ _ hb3 wr3 => ?_ | refine ⟨fun _ => ?_, fun _ => ?_⟩ | fail)
    all_goals first | exact ⟨hb2.mono (by omega), wr2⟩ | exact ⟨hb3, wr2.trans wr3⟩
  · repeat wtm_at "sk"
    refine lenS ?_
    repeat wtm_at "sk"
    refine ⟨fun c => ?_, fun c => ?_⟩
    · have c := of_decide_eq_true c
      repeat wtm_at "sk"
      refine lenS ?_
      repeat wtm_at "sk"
      refine p_take hb3 (by omega) c (by omega) fun d A4 d1 d2 hb4 wr4 => ?_
      refine ev_pick d1 d2 fun x hx => ?_
      repeat wtm_at "sk"
      exact h (.add x) A4 (hF x hx) (hb4.mono (by omega)) (wr3.trans wr4)
    · repeat wtm_at "sk"
      exact h (.add [122, 122]) A3 (nm_nm _ (by decide)) (hb3.mono (by omega)) wr3
  wtm_at "sk"; wtm_at "sk"
  refine es_if (Ev.mono (P := fun c A4 => A3 = A4 ∧ (c = true → 0 < (F.length : Int))) (X := NX) ?_ (fun c A4 ⟨e4, cf⟩ => ⟨fun ct => ?_, fun _ => ?_⟩) fun _ _ _ z => z.elim)
  · repeat' (first | wtm_at "sk" | refine lenS ?_ | refine eqS0 nmj ?_ | refine ⟨fun _ => ?_, fun _ => ?_⟩ | fail)
    all_goals first | exact ⟨rfl, of_decide_eq_true⟩ | exact ⟨rfl, fun z => by cases z⟩
  · subst e4
    have cf := cf ct
    repeat wtm_at "sk"
    refine p_take hb3 (by omega) (by decide) (by decide) fun d1 A4 _ _ hb4 wr4 => ?_
    repeat wtm_at "sk"
    refine ev_pickI (F := [4, 60]) (by split <;> decide) (by split <;> decide) fun x hx => ?_
    have hx2 : 0 < x ∧ x < 1073741824 := by
      simp only [List.mem_cons, List.not_mem_nil, or_false] at hx
      omega
    repeat wtm_at "sk"
    refine p_take hb4 (by omega) hx2.1 hx2.2 fun d2 A5 _ _ hb5 wr5 => ?_
    repeat wtm_at "sk"
    refine p_take hb5 (by omega) (by decide) (by decide) fun d3 A6 e1 e2 hb6 wr6 => ?_
    refine ev_pickI (F := [12, 40, 601]) e1 e2 fun y hy => ?_
    have hy2 : 0 < y ∧ y < 1073741824 := by
      simp only [List.mem_cons, List.not_mem_nil, or_false] at hy
      omega
    repeat wtm_at "sk"
    refine p_take hb6 (by omega) hy2.1 hy2.2 fun d4 A7 _ _ hb7 wr7 => ?_
    repeat wtm_at "sk"
    refine lenS ?_
    repeat wtm_at "sk"
    refine p_take hb7 (by omega) cf (by omega) fun d5 A8 d51 d52 hb8 wr8 => ?_
    refine ev_pick d51 d52 fun z hz => ?_
    repeat wtm_at "sk"
    exact h (.take z (1 + d2) d4) A8 (hF z hz) (hb8.mono (by omega)) (wr3.trans (wr4.trans (wr5.trans (wr6.trans (wr7.trans wr8)))))
  subst e4
  wtm_at "sk"; wtm_at "sk"
  refine es_if (Ev.mono (P := fun c A4 => A3 = A4 ∧ (c = false → 0 < (js.length : Int))) (X := NX) ?_ (fun c A4 ⟨e4, cf⟩ => ⟨fun _ => ?_, fun ct => ?_⟩) fun _ _ _ z => z.elim)
  · have hj : ∀ {c : Bool}, decide (js = []) = c → c = false → 0 < (js.length : Int) := fun e z => by
      subst z
      cases js with
      | nil => exact absurd e (by decide)
      | cons y r => rw [List.length_cons]; omega
    repeat' (first | wtm_at "sk" | refine lenS ?_ | refine eqS0 nmj ?_ | refine ⟨fun _ => ?_, fun _ => ?_⟩ | fail)
    all_goals first | exact ⟨rfl, fun z => hj rfl z⟩ | exact ⟨rfl, fun z => by cases z⟩
  · subst e4
    repeat wtm_at "sk"
    exact h .settle A3 trivial (hb3.mono (by omega)) wr3
  subst e4
  have cf := cf ct
  repeat wtm_at "sk"
  refine lenS ?_
  repeat wtm_at "sk"
  refine p_take hb3 (by omega) cf (by omega) fun d A4 d1 d2 hb4 wr4 => ?_
  refine ev_pick d1 d2 fun x hx => ?_
  have wr4 := wr3.trans wr4
  have hxn := nmj x hx
  wtm_at "sk"
  have hmm : ∀ {c : Bool}, (!decide (ms = [])) = c → c = true → 0 < (ms.length : Int) := fun e z => by
    subst z
    cases ms with
    | nil => exact absurd e (by decide)
    | cons y r => rw [List.length_cons]; omega
  refine es_if (Ev.mono (P := fun c A5 => A4 = A5 ∧ (c = true → 0 < (ms.length : Int))) (X := NX) ?_ (fun c A5 ⟨e5, cf⟩ => ⟨fun ct => ?_, fun _ => ?_⟩) fun _ _ _ z => z.elim)
  · repeat' (first | wtm_at "sk" | refine lenS ?_ | refine neS0 nmq ?_ | refine ⟨fun _ => ?_, fun _ => ?_⟩ | fail)
    all_goals first | exact ⟨rfl, fun z => hmm rfl z⟩ | exact ⟨rfl, fun z => by cases z⟩
  · subst e5
    have cf := cf ct
    repeat wtm_at "sk"
    refine lenS ?_
    repeat wtm_at "sk"
    refine p_take hb4 (by omega) cf (by omega) fun d A6 d1 d2 hb6 wr6 => ?_
    refine ev_pick d1 d2 fun m hm => ?_
    repeat wtm_at "sk"
    exact h (.give x m) A6 ⟨hxn, nmq m hm⟩ (hb6.mono (by omega)) (wr4.trans wr6)
  subst e5
  wtm_at "sk"; wtm_at "sk"
  refine es_if (Ev.mono (P := fun c A6 => Bx A6 b (n + 4) ∧ Wr b A A6 ∧ (c = true → 0 < (ms.length : Int))) (X := NX) ?_ (fun c A6 ⟨hb6, wr6, cf⟩ => ⟨fun ct => ?_, fun _ => ?_⟩) fun _ _ _ z => z.elim)
  · repeat' (first | wtm_at "sk" | refine lenS ?_ | refine neS0 nmq ?_ | refine p_take hb4 (by omega) (by decide) (by decide) fun _ A6 _ _ hb6 wr6 => ?_ | refine ⟨fun _ => ?_, fun _ => ?_⟩ | fail)
    all_goals first | exact ⟨hb4.mono (by omega), wr4, fun z => by cases z⟩ | exact ⟨hb6, wr4.trans wr6, fun _ => hmm rfl (by assumption)⟩ | skip
  · have cf := cf ct
    repeat wtm_at "sk"
    refine lenS ?_
    repeat wtm_at "sk"
    refine p_take hb6 (by omega) cf (by omega) fun d A7 d1 d2 hb7 wr7 => ?_
    refine ev_pick d1 d2 fun m hm => ?_
    repeat wtm_at "sk"
    exact h (.close m) A7 (nmq m hm) (hb7.mono (by omega)) (wr6.trans wr7)
  repeat wtm_at "sk"
  refine p_take hb6 (by omega) (by decide) (by decide) fun d A7 d1 d2 hb7 wr7 => ?_
  refine ev_pick (F := [wCall, wHurry, wHurry, wFin]) d1 d2 fun w hw => ?_
  repeat wtm_at "sk"
  simp only [List.mem_cons, List.not_mem_nil, or_false] at hw
  rcases hw with rfl | rfl | rfl | rfl
  · exact h (.call x) A7 hxn (hb7.mono (by omega)) (wr6.trans wr7)
  · exact h (.hurry x) A7 hxn (hb7.mono (by omega)) (wr6.trans wr7)
  · exact h (.hurry x) A7 hxn (hb7.mono (by omega)) (wr6.trans wr7)
  · exact h (.fin x) A7 hxn (hb7.mono (by omega)) (wr6.trans wr7)
end
end K77
set_option Elab.async false
set_option linter.all false
set_option maxRecDepth 100000
set_option maxHeartbeats 2000000
namespace K77
open Mw Dsk PySem
section
variable {X : Nat → List (Nat × AV) → AH → Prop} {A A' : AH} {P : AV → AH → Prop}
theorem p_sright {d n : Nat} {q : Qs} {j : Js} (hd : Dk A d (settled q j) j n) (o : Ok Nm q j) (hc : q ≠ [] ∨ wt q j = []) (h : ∀ A', Gr A A' → P (.bl true) A') :
    Ev (m__law_settle_right [.ref d, stL q j, .lst ((srt (keys q)).map fun m => .int (load j (qOf q m))), .lst ((wt q j).map .str)] A) P X := by
  obtain ⟨R, D⟩ := settled_done o hc
  have o2 : Ok Nm (settled q j) j := o.settled hc
  have hw2 := wt_settled o hc
  generalize settled q j = q2 at hd D o2 hw2
  refine ev_fnM rfl ?_
  show ES (b__law_settle_right _ _) _ _ _
  unfold b__law_settle_right
  repeat first | wtm_at "sx" | wtm_at "ixs"
  refine p_machines hd o2 ?_
  rw [D.ks]
  repeat first | wtm_at "sx" | wtm_at "ixs"
  refine ev_lcM (wt q j) .str (fun x => .int (len j x)) (by have := wt_len o; omega) ?_ (fun x hx A1 g1 => ⟨_, rfl, ?_⟩) fun A1 g1 => ?_
  · repeat wtm_at "sk"
    exact Gr.refl
  · unfold stL
    repeat wtm_at "sk"
    refine o_ixT (f := fun p : Int × Int => AV.tup [.int p.1, .int p.2]) (o.look (wt_mem.mp hx).1) ?_
    repeat wtm_at "sk"
    exact ⟨Gr.refl, rfl⟩
  · have hd1 := hd.gr g1
    refine o_catL (xs := [.int 0]) (Nat.ble_eq_true_of_le (by rw [List.length_map]; have := wt_len o; show 1 + _ ≤ 16777216; omega)) ?_
    repeat first | wtm_at "sx" | wtm_at "ixs"
    refine k_best (n := 0) (ns := (wt q j).map (len j)) (by rw [List.map_cons, List.map_map]; rfl) ?_
    repeat first | wtm_at "sx" | wtm_at "ixs"
    refine p_waiting hd1 o2 fun A2 g2 => ?_
    rw [hw2]
    have hd2 := hd1.gr g2
    repeat first | wtm_at "sx" | wtm_at "ixs"
    refine neS0 (l := []) (fun x hx => by cases hx) ?_
    repeat wtm_at "sk"
    intro i A3 ni ei g3
    have hd3 := hd2.gr g3
    repeat first | wtm_at "sx" | wtm_at "ixs"
    have hms : ∀ m ∈ srt (keys q), m ∈ keys q := fun m hm => srt_mem.mp hm
    have lms : (srt (keys q)).length ≤ 5 := by rw [srt_len, keys_len]; exact o.lq
    generalize srt (keys q) = ms at hms lms ⊢
    refine es_for ms .str (fun done rest τ A' => ∃ v7 v8 v9 v10 v11 v12 v13 v14 v15, τ = [some (.ref d), some (stL q j), some (.lst (ms.map fun m => .int (load j (qOf q m)))), some (.lst ((wt q j).map .str)), some (.lst (ms.map .str)), some (.int (longest q j)), some (.ref i), v7, v8, v9, v10, v11, v12, v13, v14, v15] ∧ A'[i]? = some (.lst (done.map fun m => .int (load j (qOf q2 m)))) ∧ Gr A2 A') ?_ (fun done m rest τ A4 eb ⟨v7, v8, v9, v10, v11, v12, v13, v14, v15, et, e4, g4⟩ => ?_) fun τ A4 ⟨v7, v8, v9, v10, v11, v12, v13, v14, v15, et, e4, g4⟩ => ?_
    · repeat first | wtm_at "sx" | wtm_at "ixs"
      exact ⟨none, none, none, none, none, none, none, none, none, rfl, ei, g3⟩
    · subst et
      have hm : m ∈ keys q := hms m (by rw [eb]; simp)
      have hm2 : m ∈ keys q2 := by rw [D.ks]; exact hm
      have hdn : done.length + 1 ≤ 5 := by
        rw [eb, List.length_append, List.length_cons] at lms
        omega
      have hd4 := hd2.gr g4
      have ap := D.ap m hm
      have mem := D.mem m hm
      have srtd := D.srt m hm
      have lq2 := o2.qOf_len hm2
      have inj2 : ∀ x ∈ qOf q2 m, x ∈ keys j := fun x hx => o2.qOf_in hm2 hx
      refine ⟨_, _, rfl, ?_⟩
      repeat first | wtm_at "sx" | wtm_at "ixs"
      refine p_queue hd4 (o.gq m hm) (fun _ => ?_) fun c => by rw [has_mem.mpr hm2] at c; cases c
      repeat first | wtm_at "sx" | wtm_at "ixs"
      refine p_ends hd4 o2 (o.gq m hm) (fun _ A5 g5 => ?_) fun A5 c _ => by rw [has_mem.mpr hm2] at c; cases c
      have hlast : qOf q2 m ≠ [] → ∃ a x, ends j (qOf q2 m) = a ++ [(x, load j (qOf q2 m))] := ends_last
      have hlen : (ends j (qOf q2 m)).length = (qOf q2 m).length := ends_len
      have hasc : ∀ p ∈ ends j (qOf q2 m), ascii p.1 = true := fun p hp => ascii_nm (o.gj p.1 (inj2 p.1 (ends_mem hp)))
      have hld : qOf q2 m = [] → load j (qOf q2 m) = 0 := fun e => by rw [e]; rfl
      have e5 := g5 _ _ e4
      have g25 := g4.trans g5
      generalize hE : ends j (qOf q2 m) = E at hlast hlen hasc ⊢
      generalize hL : load j (qOf q2 m) = L at hlast hld ⊢
      rw [ap] at lq2 inj2 hlast hlen hld ⊢
      unfold stL
      repeat first | wtm_at "sx" | wtm_at "ixs"
      refine o_ixT (f := fun l : List TK => AV.lst (l.map .str)) (qOf_ok hm) ?_
      have hq1 : ∀ x ∈ qOf q m, Nm x := fun x hx => o.gj x (o.qOf_in hm hx)
      have hr1 : ∀ x ∈ R m, Nm x := fun x hx => o.gj x (wt_mem.mp (mem x hx)).1
      generalize qOf q m = Q at lq2 inj2 hlast hlen hld hq1 ⊢
      generalize hRR : R m = RR at lq2 inj2 hlast hlen hld hr1 mem srtd ⊢
      have lQR : Q.length + RR.length ≤ 20 := by rw [List.length_append] at lq2; exact lq2
      have cpre : cutL ((Q ++ RR).map AV.str) none (some (Q.length : Int)) = Q.map .str := by rw [cutL_map, cut_pre]
      have csuf : cutL ((Q ++ RR).map AV.str) (some (Q.length : Int)) none = RR.map .str := by rw [cutL_map, cut_suf]
      repeat first | wtm_at "sx" | wtm_at "ixs"
      refine lenS ?_
      repeat first | wtm_at "sx" | wtm_at "ixs"
      rw [cpre]
      refine o_neL (g := AV.str) (f := pS) eqv_str (fun x hx => toD_str (nm_ascii x (hq1 x hx))) (fun x hx => toD_str (nm_ascii x (hq1 x hx))) ?_
      repeat wtm_at "sk"
      refine ⟨fun z => absurd z (by simp), fun _ => ?_⟩
      repeat wtm_at "sk"
      refine ev_lcP RR .str (fun _ => false) .str (by omega) ?_ (fun x hx A6 g6 => ⟨_, rfl, ?_⟩) fun A6 g6 => ?_
      · repeat wtm_at "sk"
        refine lenS ?_
        repeat wtm_at "sk"
        rw [csuf]
        exact ⟨rfl, Gr.refl⟩
      · repeat wtm_at "sk"
        refine o_niL (l := wt q j) rfl ?_
        repeat wtm_at "sk"
        refine ⟨Gr.refl, by simp [mem x hx], fun z => by cases z⟩
      rw [List.filter_eq_nil_iff.mpr (fun _ _ z => by cases z)]
      repeat wtm_at "sk"
      refine neS0 (l := []) (fun x hx => by cases hx) ?_
      repeat wtm_at "sk"
      refine ev_lcM RR .str (fun x => aIS (-(len j x), x)) (by omega) ?_ (fun x hx A7 g7 => ⟨_, rfl, ?_⟩) fun A7 g7 => ?_
      · repeat wtm_at "sk"
        refine lenS ?_
        repeat wtm_at "sk"
        rw [csuf]
        exact ⟨rfl, Gr.refl⟩
      · repeat wtm_at "sk"
        refine o_ixT (f := fun p : Int × Int => AV.tup [.int p.1, .int p.2]) (o.look (wt_mem.mp (mem x hx)).1) ?_
        repeat wtm_at "sk"
        rw [Int.zero_sub]
        exact ⟨Gr.refl, rfl⟩
      have hRm : RR.map (fun x => aIS (-(len j x), x)) = (RR.map fun x => (-(len j x), x)).map aIS := by rw [List.map_map]; rfl
      rw [hRm]
      repeat wtm_at "sk"
      refine k_srtP rfl (by rw [List.length_map]; omega) ?_
      rw [srtP_id srtd]
      have hp1 : ∀ p ∈ RR.map fun x => (-(len j x), x), toD A7 59 (aIS p) = some (pIS p) := fun p hp => by
        obtain ⟨x, hx, rfl⟩ := List.mem_map.mp hp
        exact toD_is (ascii_nm (hr1 x hx))
      refine o_neL (g := aIS) (f := pIS) eqv_is hp1 hp1 ?_
      repeat wtm_at "sk"
      refine ⟨fun z => absurd z (by simp), fun _ => ?_⟩
      repeat wtm_at "sk"
      refine ev_app ?_
      repeat wtm_at "sk"
      have e7 := g7 _ _ (g6 _ _ e5)
      have g27 := g25.trans (g6.trans g7)
      refine ⟨i, _, rfl, e7, Ev.mono (P := fun vs A8 => A8 = A7 ∧ vs = [.int L]) (X := NX) ?_ (fun vs A8 ⟨e8, ev⟩ => ?_) fun _ _ _ z => z.elim⟩
      · repeat wtm_at "sk"
        refine o_neL (g := aSI) (f := pSI) (xs := E) (ys := []) eqv_si (fun p hp => toD_si (hasc p hp)) (fun _ h => by cases h) ?_
        repeat wtm_at "sk"
        by_cases hq : Q ++ RR = []
        · have hE0 : E = [] := List.length_eq_zero_iff.mp (by rw [hlen, hq]; rfl)
          rw [decide_eq_true hE0]
          repeat wtm_at "sk"
          exact ⟨rfl, by rw [hld hq]⟩
        · obtain ⟨a, x, hE2⟩ := hlast hq
          rw [decide_eq_false (show ¬ E = [] by rw [hE2]; simp)]
          repeat wtm_at "sk"
          rw [hE2]
          refine o_ixL (xs := (a ++ [(x, L)]).map aSI) rfl (v := aSI (x, L)) (by rw [List.map_append]; exact atI_last) ?_
          unfold aSI
          repeat wtm_at "sk"
          exact ⟨rfl, rfl⟩
      · subst e8 ev
        refine ⟨_, _, rfl, e7, Nat.ble_eq_true_of_le (by rw [List.length_map]; show done.length + 1 ≤ 16777216; omega), ?_⟩
        refine ⟨_, _, _, _, _, v12, v13, v14, v15, rfl, ?_, Gr.gone ni g27⟩
        rw [set_at e7, List.map_append, ← hL]; rfl
    · subst et
      repeat wtm_at "sk"
      refine ev_lcJK ms (fun m => .tup [.int (load j (qOf q2 m)), .int (load j (qOf q m))]) (ckOf i ((ms.map fun m => load j (qOf q2 m)).map .int)) (fun done acc A' => acc = (done.filter fun m => decide (load j (qOf q m) < load j (qOf q2 m))).map (fun m => .int (load j (qOf q2 m))) ∧ A'[i]? = some (.lst ((ms.map fun m => load j (qOf q2 m)).map .int)) ∧ Gr A2 A') (fun done acc A' ⟨_, e, _⟩ => ckOf_ints e) (by show ms.length ≤ 16777216; omega) ?_ (fun done m acc A5 ⟨ea, e5, g5⟩ _ => ⟨_, _, rfl, ?_⟩) fun out A5 _ ⟨ea, e5, g5⟩ => ?_
      · refine i_zpR (i := i) (xs := (ms.map fun m => load j (qOf q2 m)).map .int) (ys := ms.map fun m => .int (load j (qOf q m))) ?_
        repeat wtm_at "sk"
        have e4' : A4[i]? = some (.lst ((ms.map fun m => load j (qOf q2 m)).map .int)) := by rw [e4, List.map_map]; rfl
        refine ⟨rfl, e4', ?_, rfl, e4', g4⟩
        rw [List.map_map]
        exact congrArg (Src.mk · _) (pairs_map (fun m => AV.int (load j (qOf q2 m))) (fun m => AV.int (load j (qOf q m))) ms)
      · repeat wtm_at "sk"
        refine ⟨fun c => ?_, fun c => ?_⟩
        · repeat wtm_at "sk"
          refine ⟨?_, e5, g5⟩
          rw [ea, List.filter_append, List.map_append, List.filter_cons_of_pos (by exact c)]; rfl
        · refine ⟨?_, e5, g5⟩
          rw [ea, List.filter_append, List.map_append, List.filter_cons_of_neg (by rw [c]; decide)]; simp
      · subst ea
        have hG : (ms.filter fun m => decide (load j (qOf q m) < load j (qOf q2 m))).map (fun m => AV.int (load j (qOf q2 m))) = ((ms.filter fun m => decide (load j (qOf q m) < load j (qOf q2 m))).map fun m => load j (qOf q2 m)).map .int := by rw [List.map_map]; rfl
        rw [hG]
        have hmem : ∀ v ∈ (ms.filter fun m => decide (load j (qOf q m) < load j (qOf q2 m))).map fun m => load j (qOf q2 m), ∃ m ∈ ms, v = load j (qOf q2 m) ∧ load j (qOf q m) < load j (qOf q2 m) := fun v hv => by
          obtain ⟨m, h1, rfl⟩ := List.mem_map.mp hv
          exact ⟨m, (List.mem_filter.mp h1).1, rfl, of_decide_eq_true (List.mem_filter.mp h1).2⟩
        generalize (ms.filter fun m => decide (load j (qOf q m) < load j (qOf q2 m))).map (fun m => load j (qOf q2 m)) = Gs at hmem ⊢
        have gA : Gr A A5 := g1.trans (g2.trans g5)
        repeat wtm_at "sk"
        refine o_eqL (g := AV.int) (f := PyData.int) (xs := Gs) (ys := []) eqv_int (fun _ _ => rfl) (fun _ h => by cases h) ?_
        refine ⟨_, rfl, fun c => ?_, fun c => ?_⟩
        · rw [c]
          exact h A5 gA
        · cases Gs with
          | nil => exact absurd c (by decide)
          | cons a r =>
            repeat wtm_at "sk"
            refine k_best (n := a) (ns := r) rfl ?_
            repeat wtm_at "sk"
            obtain ⟨m1, hm1, hv1, hlt⟩ := hmem _ (maxI_mem r a)
            have hmn : ∃ n0 ns, (ms.map fun m => load j (qOf q2 m)) = n0 :: ns := by
              cases ms with
              | nil => cases hm1
              | cons y r => exact ⟨_, _, rfl⟩
            obtain ⟨n0, ns, en⟩ := hmn
            refine k_minI (n := n0) (ns := ns) (rdL_ref (by rw [e5, en])) ?_
            repeat wtm_at "sk"
            have hm2 := minI_mem ns n0
            rw [← en] at hm2
            obtain ⟨m2, hm2, hv2⟩ := List.mem_map.mp hm2
            have hR : R m1 ≠ [] := fun e => by
              rw [D.ap m1 (hms m1 hm1), e, List.append_nil] at hlt
              exact Int.lt_irrefl _ hlt
            have := D.near m1 (hms m1 hm1) hR m2 (hms m2 hm2)
            rw [decide_eq_true (by rw [hv1, ← hv2]; exact this)]
            exact h A5 gA
end
end K77
set_option Elab.async false
set_option linter.all false
set_option maxRecDepth 100000
set_option maxHeartbeats 2000000
namespace K77
open Mw Dsk PySem
section
variable {X : Nat → List (Nat × AV) → AH → Prop} {A A' : AH} {P : AV → AH → Prop}
def chA (c : Ch) : AV := .lst [.str c.wd, .lst c.args]
theorem Dk.wr {d b n : Nat} {q : Qs} {j : Js} (h : Dk A d q j n) (ne : d ≠ b) (w : Wr b A A') : Dk A' d q j n := by
  obtain ⟨hs, h1, h2⟩ := h
  exact ⟨hs, h1, w _ _ ne h2⟩
theorem Bx.wr {d b n : Nat} (h : Bx A b n) (ne : b ≠ d) (w : Wr d A A') : Bx A' b n := by
  obtain ⟨b0, b1, b2, b3, e, h⟩ := h
  exact ⟨b0, b1, b2, b3, w _ _ ne e, h⟩
theorem cutL_sub {α : Type} {l : List α} {lo hi : Option Int} : (cutL l lo hi).Sublist l := (List.take_sublist _ _).trans (List.drop_sublist _ _)
abbrev M5 : List TK := [[115, 97, 119], [109, 105, 108, 108], [98, 101, 110, 99, 104], [100, 114, 105, 108, 108], [108, 97, 116, 104, 101]]
abbrev J8 : List TK := [[97, 114, 109], [108, 101, 103], [116, 111, 112], [114, 97, 105, 108], [107, 110, 111, 98], [112, 101, 103], [115, 101, 97, 116], [98, 97, 99, 107]]
def nmOf : Ch → TK
  | .add x => x | .close x => x | .take x _ _ => x | .give x _ => x | .call x => x | .hurry x => x | .fin x => x | .settle => []
def isAdd : Ch → Bool
  | .add _ => true | _ => false
def Ini : Ch → Prop
  | .add x => Nm x
  | .take x a b => Nm x ∧ (decide (1 ≤ a) && decide (a ≤ 60)) = true ∧ (decide (0 ≤ b) && decide (b ≤ 600)) = true
  | _ => False
theorem ini_step {q : Qs} {j : Js} {done : List Ch} {c : Ch} {rest : List Ch} (hn : ((done ++ c :: rest).map nmOf).Nodup) (ha : (done ++ c :: rest).countP isAdd ≤ 5) (hl : (done ++ c :: rest).length ≤ 13) (hc : Ini c)
    (hq : q.length = done.countP isAdd) (hj : j.length + q.length = done.length) (hk : ∀ y, y ∈ keys q ∨ y ∈ keys j → y ∈ done.map nmOf) :
    ∃ q2 j2, dd q j c = .ok q2 j2 ∧ q2.length = (done ++ [c]).countP isAdd ∧ j2.length + q2.length = (done ++ [c]).length ∧ ∀ y, y ∈ keys q2 ∨ y ∈ keys j2 → y ∈ (done ++ [c]).map nmOf := by
  have hx : nmOf c ∉ done.map nmOf := fun h => by
    rw [List.map_append, List.map_cons, List.nodup_append] at hn
    exact hn.2.2 _ h _ List.mem_cons_self rfl
  have nq : ∀ {x}, x = nmOf c → hasK x q = false := fun e => by
    cases h : hasK _ q with
    | false => rfl
    | true => exact absurd (hk _ (.inl (has_mem.mp h))) (by rw [e]; exact hx)
  have nj : ∀ {x}, x = nmOf c → hasK x j = false := fun e => by
    cases h : hasK _ j with
    | false => rfl
    | true => exact absurd (hk _ (.inr (has_mem.mp h))) (by rw [e]; exact hx)
  rw [List.countP_append, List.countP_cons] at ha
  rw [List.length_append, List.length_cons] at hl
  cases c with
  | add x =>
    have e1 := nq (x := x) rfl
    have e2 := nj (x := x) rfl
    have h5 : ¬ (q.length : Int) = 5 := by
      have : (if isAdd (.add x) = true then 1 else 0) = 1 := rfl
      rw [this] at ha
      omega
    refine ⟨q ++ [(x, [])], j, by simp only [dd, e1, e2, Bool.or_self, Bool.false_eq_true, if_false, if_neg h5], ?_, ?_, fun y hy => ?_⟩
    · rw [List.length_append, List.countP_append, hq]; rfl
    · rw [List.length_append, List.length_append]
      show j.length + (q.length + 1) = done.length + 1
      omega
    · rw [keys_app, List.mem_append, List.mem_singleton] at hy
      rw [List.map_append, List.mem_append]
      rcases hy with (h | h) | h
      · exact .inl (hk y (.inl h))
      · subst h; exact .inr (List.mem_singleton.mpr rfl)
      · exact .inl (hk y (.inr h))
  | take x a b =>
    have e1 := nq (x := x) rfl
    have e2 := nj (x := x) rfl
    have h20 : ¬ (j.length : Int) = 20 := by omega
    refine ⟨q, j ++ [(x, (a, b))], by simp only [dd, e1, e2, Bool.or_self, Bool.false_eq_true, if_false, if_neg h20, hc.2.1, hc.2.2, if_true], ?_, ?_, fun y hy => ?_⟩
    · rw [List.countP_append, hq]; rfl
    · rw [List.length_append, List.length_append]
      show (j.length + 1) + q.length = done.length + 1
      omega
    · rw [keys_app, List.mem_append, List.mem_singleton] at hy
      rw [List.map_append, List.mem_append]
      rcases hy with h | (h | h)
      · exact .inl (hk y (.inl h))
      · exact .inl (hk y (.inr h))
      · subst h; exact .inr (List.mem_singleton.mpr rfl)
  | _ => exact hc.elim
theorem ini_nm {c : Ch} (h : Ini c) : c.Nm Nm := by
  cases c with
  | add x => exact h
  | take x a b => exact h.1
  | _ => exact h.elim
theorem view_pl {q : Qs} {j : Js} {n : Int} (o : Ok Nm q j) : Pl 9 (.lst [viewA q j, .int n]) := by
  have ps : ∀ (k : Nat) (l : List TK), l.length ≤ 10000 → (∀ x ∈ l, Nm x) → Pl (k + 2) (.lst (l.map .str)) := fun k l hl hn => ⟨by rw [List.length_map]; exact hl, fun v hv => by
    obtain ⟨x, hx, rfl⟩ := List.mem_map.mp hv
    show x.length ≤ 10000
    have := (hn x hx).2.2.2
    omega⟩
  have lms : (srt (keys q)).length ≤ 5 := by rw [srt_len, keys_len]; exact o.lq
  have hms : ∀ m ∈ srt (keys q), m ∈ keys q := fun m hm => srt_mem.mp hm
  have hll := lates_len o hms
  have hlm : ∀ x ∈ lates q j (srt (keys q)), x ∈ keys j := fun x hx => by
    unfold lates at hx
    obtain ⟨l, h1, h2⟩ := List.mem_flatten.mp hx
    obtain ⟨m, h3, rfl⟩ := List.mem_map.mp h1
    exact o.qOf_in (hms m h3) (lateOf_mem h2)
  refine ⟨Nat.le_of_ble_eq_true rfl, fun v hv => ?_⟩
  simp only [List.mem_cons, List.not_mem_nil, or_false] at hv
  rcases hv with rfl | rfl
  · refine ⟨Nat.le_of_ble_eq_true rfl, fun v hv => ?_⟩
    simp only [List.mem_cons, List.not_mem_nil, or_false] at hv
    rcases hv with rfl | rfl | rfl | rfl | rfl
    · exact ps 5 _ (by omega) fun x hx => o.gq x (hms x hx)
    · exact ps 5 _ (by have := wt_len o; omega) fun x hx => o.gj x (wt_mem.mp hx).1
    · refine ⟨by rw [List.length_map]; omega, fun v hv => ?_⟩
      obtain ⟨m, hm, rfl⟩ := List.mem_map.mp hv
      exact ps 4 _ (by have := o.qOf_len (hms m hm); omega) fun x hx => o.gj x (o.qOf_in (hms m hm) hx)
    · refine ⟨by rw [List.length_map]; omega, fun v hv => ?_⟩
      obtain ⟨m, hm, rfl⟩ := List.mem_map.mp hv
      refine ⟨by rw [List.length_map, ends_len]; have := o.qOf_len (hms m hm); omega, fun v hv => ?_⟩
      obtain ⟨p, hp, rfl⟩ := List.mem_map.mp hv
      refine ⟨Nat.le_of_ble_eq_true rfl, fun v hv => ?_⟩
      simp only [List.mem_cons, List.not_mem_nil, or_false] at hv
      rcases hv with rfl | rfl
      · have := (o.gj p.1 (o.qOf_in (hms m hm) (ends_mem hp))).2.2.2
        show p.1.length ≤ 10000
        omega
      · trivial
    · exact ps 5 _ (by rw [srt_len]; omega) fun x hx => o.gj x (hlm x (srt_mem.mp hx))
  · trivial
end
end K77
set_option Elab.async false
set_option linter.all false
set_option maxRecDepth 100000
set_option maxHeartbeats 2000000
namespace K77
open Mw Dsk PySem
section
variable {X : Nat → List (Nat × AV) → AH → Prop} {A A' : AH} {P : AV → AH → Prop}
theorem dk_fs {d n : Nat} {q : Qs} {j : Js} (h : Dk A d q j n) : ∃ fs, A[d]? = some (.ins 0 fs) := by
  obtain ⟨hs, _, e⟩ := h
  exact ⟨_, e⟩
theorem wd_settle {c : Ch} (h : c.wd = [115, 101, 116, 116, 108, 101]) : c = .settle := by
  cases c <;> first | rfl | exact absurd h (by simp [Ch.wd])
theorem settle_ok {q q2 : Qs} {j j2 : Js} (e : dd q j .settle = .ok q2 j2) : q2 = settled q j ∧ j2 = j ∧ (q ≠ [] ∨ wt q j = []) := by
  simp only [dd] at e
  split at e
  · cases e
  · rename_i h
    cases e
    refine ⟨rfl, rfl, ?_⟩
    by_cases h1 : q = []
    · by_cases h2 : wt q j = []
      · exact .inr h2
      · exact absurd ⟨h1, h2⟩ h
    · exact .inl h1
theorem p_desk_right {b m : Nat} {nb : Bool} (hb : Bx A b m) (hm : m ≤ 100000) (h : ∀ A', Bx A' b (m + 1000) → P (.bl true) A') : Ev (m__law_desk_right [.ref b, .bl nb] A) P X := by
  have hbl : b < A.length := by
    obtain ⟨_, _, _, _, e, _⟩ := hb
    exact (List.getElem?_eq_some_iff.mp e).1
  refine ev_fnM rfl ?_
  show ES (b__law_desk_right _ _) _ _ _
  unfold b__law_desk_right
  wtm_at "ss"; wtm_at "ss"
  refine ev_mk ?_
  repeat wtm_at "sk"
  have eI : (A ++ [AO.ins 0 []])[A.length]? = some (.ins 0 []) := push_at
  refine p_init eI fun A1 hd1 w1 => ⟨rfl, ?_⟩
  have nbd : A.length ≠ b := by omega
  have hb1 : Bx A1 b m := (hb.gr Gr.push).wr (Ne.symm nbd) w1
  generalize A.length = d at hd1 nbd w1 ⊢
  clear eI w1
  repeat wtm_at "sk"
  refine ev_dnew fun A2 g2 => ?_
  repeat wtm_at "sk"
  refine ev_dnew fun A3 g3 => ?_
  have hd3 := (hd1.gr g2).gr g3
  have hb3 := (hb1.gr g2).gr g3
  repeat wtm_at "sk"
  refine ev_lcCM ?_
  repeat wtm_at "sk"
  refine p_take hb3 (by omega) (by decide) (by decide) fun k A4 k1 k2 hb4 wr4 => ?_
  have hd4 := hd3.wr nbd wr4
  repeat wtm_at "sk"
  refine ⟨TK, cutL M5 none (some k), .str, fun x => chA (.add x), ?_, ?_, fun x hx A5 g5 => ⟨_, rfl, ?_⟩, fun A5 g5 => ?_⟩
  · exact congrArg (Src.mk · always) (cutL_map (f := AV.str) (xs := M5))
  · exact Nat.le_trans cutL_sub.length_le (by decide)
  · repeat wtm_at "sk"
    exact ⟨Gr.refl, rfl⟩
  have sub5 : (cutL M5 none (some k)).Sublist M5 := cutL_sub
  generalize cutL M5 none (some k) = ms at sub5 ⊢
  have hd5 := hd4.gr g5
  have hb5 := hb4.gr g5
  clear g5 hd4 hb4 wr4 g2 g3 hd1 hb1 hd3 hb3
  repeat wtm_at "sk"
  refine p_take hb5 (by omega) (by decide) (by decide) fun k3 A6 k31 k32 hb6 wr6 => ?_
  refine ev_pickI (F := [1, 3, 9, 60]) k31 k32 fun wide hwide => ?_
  have hw2 : 0 < wide ∧ wide ≤ 60 := by
    simp only [List.mem_cons, List.not_mem_nil, or_false] at hwide
    omega
  have hd6 := hd5.wr nbd wr6
  repeat wtm_at "sk"
  refine ev_lcC ?_
  repeat wtm_at "sk"
  refine p_take hb6 (by omega) (by decide) (by decide) fun k4 A7 k41 k42 hb7 wr7 => ?_
  have hd7 := hd6.wr nbd wr7
  clear hd5 hb5 hb6 wr6 wr7 hd6
  repeat wtm_at "sk"
  refine ⟨TK, cutL J8 none (some k4), .str, fun done acc A' => ∃ cs : List Ch, acc = cs.map chA ∧ cs.map nmOf = done ∧ (∀ c ∈ cs, Ini c ∧ isAdd c = false) ∧ Bx A' b (m + 3 + 2 * done.length) ∧ Dk A' d [] [] 0, ?_, ?_, ?_, fun done x acc A8 ⟨cs, ea, en, hi, hb8, hd8⟩ ⟨rest, er⟩ => ⟨_, _, rfl, ?_⟩, fun out A8 _ ⟨cs, eo, en, hi, hb8, hd8⟩ => ?_⟩
  · exact congrArg (Src.mk · always) (cutL_map (f := AV.str) (xs := J8))
  · exact Nat.le_trans cutL_sub.length_le (by decide)
  · exact ⟨[], rfl, rfl, fun _ h => (by cases h), hb7, hd7⟩
  · have hx8 : x ∈ J8 := (cutL_sub (l := J8)).subset (by rw [er]; simp)
    have hld : done.length ≤ 8 := by
      have := (cutL_sub (l := J8) (lo := none) (hi := some k4)).length_le
      rw [er, List.length_append] at this
      exact Nat.le_trans (Nat.le_add_right _ _) this
    repeat wtm_at "sk"
    refine p_take hb8 (by omega) hw2.1 (by omega) fun a A9 a1 a2 hb9 wr9 => ?_
    repeat wtm_at "sk"
    refine p_take hb9 (by omega) (by decide) (by decide) fun t A10 t1 t2 hb10 wr10 => ?_
    repeat wtm_at "sk"
    refine ⟨cs ++ [.take x (1 + a) t], ?_, ?_, fun c hc => ?_, hb10.mono (by rw [List.length_append]; show _ ≤ m + 3 + 2 * (done.length + 1); omega), (hd8.wr nbd wr9).wr nbd wr10⟩
    · rw [ea, List.map_append]; rfl
    · rw [List.map_append, en]; rfl
    · rcases List.mem_append.mp hc with h | h
      · exact hi c h
      · cases List.mem_singleton.mp h
        refine ⟨⟨nm_nm x ((by decide +kernel : ∀ x ∈ J8, x ∈ NM) x hx8), ?_, ?_⟩, rfl⟩
        · rw [Bool.and_eq_true]
          exact ⟨decide_eq_true (by omega), decide_eq_true (by omega)⟩
        · rw [Bool.and_eq_true]
          exact ⟨decide_eq_true (by omega), decide_eq_true (by omega)⟩
  subst eo
  have sub8 : (cutL J8 none (some k4)).Sublist J8 := cutL_sub
  have hl8 : (cutL J8 none (some k4)).length ≤ 8 := sub8.length_le
  have hl5 : ms.length ≤ 5 := sub5.length_le
  have hall : ∀ c ∈ ms.map Ch.add ++ cs, Ini c := fun c hc => by
    rcases List.mem_append.mp hc with h | h
    · obtain ⟨x, hx, rfl⟩ := List.mem_map.mp h
      exact nm_nm x ((by decide +kernel : ∀ x ∈ M5, x ∈ NM) x (sub5.subset hx))
    · exact (hi c h).1
  have hcs : cs.length ≤ 8 := by
    have := congrArg List.length en
    rw [List.length_map] at this
    omega
  have hnd : ((ms.map Ch.add ++ cs).map nmOf).Nodup := by
    rw [List.map_append, en, List.map_map]
    have e : ms.map (nmOf ∘ Ch.add) = ms := (List.map_congr_left fun x _ => rfl).trans (List.map_id ms)
    rw [e]
    exact (show (M5 ++ J8).Nodup by decide +kernel).sublist (sub5.append sub8)
  have hcnt : (ms.map Ch.add ++ cs).countP isAdd ≤ 5 := by
    have e : cs.countP isAdd = 0 := List.countP_eq_zero.mpr fun c hc => by rw [(hi c hc).2]; decide
    rw [List.countP_append, e]
    have := List.countP_le_length (p := isAdd) (l := ms.map Ch.add)
    rw [List.length_map] at this
    omega
  have hlen : (ms.map Ch.add ++ cs).length ≤ 13 := by
    rw [List.length_append, List.length_map]; omega
  have hb8' := hb8.mono (m := m + 19) (by omega)
  clear hb8 hd7 hb7
  have ecat : ms.map (fun x => chA (.add x)) ++ cs.map chA = (ms.map Ch.add ++ cs).map chA := by
    rw [List.map_append, List.map_map]; rfl
  refine o_catL (Nat.ble_eq_true_of_le (by rw [List.length_map, List.length_map]; show _ ≤ 16777216; omega)) ?_
  rw [ecat]
  generalize ms.map Ch.add ++ cs = ws at hall hnd hcnt hlen ⊢
  have ini : Dk A8 d [] [] 0 := hd8
  clear hd8 hcs hl5 hl8 sub8
  repeat wtm_at "sk"
  refine es_for ws chA (fun done rest τ A' => ∃ q j v7 v8 v9 v10 v11 v12 v13 v14, τ = [some (.ref b), some (.bl nb), some (.ref d), some (stL q j), some (.int (done.length : Nat)), some (.lst (ws.map chA)), some (.int wide), v7, v8, v9, v10, v11, v12, v13, v14] ∧ Ok Nm q j ∧ Dk A' d q j done.length ∧ Bx A' b (m + 19) ∧ q.length = done.countP isAdd ∧ j.length + q.length = done.length ∧ ∀ y, y ∈ keys q ∨ y ∈ keys j → y ∈ done.map nmOf) ?_ (fun done c rest τ A9 eb ⟨q, j, v7, v8, v9, v10, v11, v12, v13, v14, et, o, hd9, hb9, hq, hj, hk⟩ => ?_) fun τ A9 ⟨q, j, v7, v8, v9, v10, v11, v12, v13, v14, et, o, hd9, hb9, hq, hj, hk⟩ => ?_
  · repeat wtm_at "sk"
    exact ⟨[], [], none, none, none, none, none, none, none, none, rfl, Ok.nil, ini, hb8', rfl, rfl, fun y hy => by rcases hy with h | h <;> cases h⟩
  · subst et
    refine ⟨_, _, rfl, ?_⟩
    have hc := hall c (by rw [eb]; simp)
    obtain ⟨q2, j2, e2, hq2, hj2, hk2⟩ := ini_step (rest := rest) (by rw [← eb]; exact hnd) (by rw [← eb]; exact hcnt) (by rw [← eb]; exact hlen) hc hq hj hk
    have hdl : done.length ≤ 13 := by
      rw [eb, List.length_append] at hlen
      omega
    repeat wtm_at "sk"
    refine p_step hd9 (by omega) o (ini_nm hc) (fun q3 j3 A10 e3 hd10 w10 => ?_) fun w v A10 e3 => by rw [e2] at e3; cases e3
    rw [e2] at e3
    cases e3
    repeat wtm_at "sk"
    refine ⟨fun z => absurd (show false = true from z) (by decide), fun _ => ?_⟩
    repeat wtm_at "sk"
    refine ⟨q2, j2, some (.str c.wd), some (.lst c.args), v9, v10, v11, v12, v13, v14, ?_, Rs.okAll o (ini_nm hc) e2, ?_, hb9.wr (Ne.symm nbd) w10, hq2, hj2, hk2⟩
    · rw [List.length_append]; rfl
    · rw [List.length_append]; exact hd10
  subst et
  generalize ws.length = n0 at hlen hd9 hj ⊢
  clear hall hnd hcnt hq hj hk ini hb8'
  repeat wtm_at "sk"
  refine es_forC ?_
  repeat wtm_at "sk"
  refine p_take hb9 (by omega) (by decide) (by decide) fun k5 A10 k51 k52 hb10 wr10 => ?_
  have hd10 := hd9.wr nbd wr10
  repeat wtm_at "sk"
  have en : (4 + k5) = (((4 + k5).toNat : Nat) : Int) := by omega
  have hn16 : (4 + k5).toNat ≤ 16 := by omega
  generalize (4 + k5).toNat = nt at en hn16
  rw [en]
  refine ⟨fit_nat (by omega), Nat, List.range' 0 nt, fun t => .int (t : Int), fun done rest τ A' => ∃ nb q j n v5 v6 v7 v8 v9 v10 v11 v12 v13 v14, τ = [some (.ref b), some (.bl nb), some (.ref d), some (stL q j), some (.int (n : Nat)), v5, v6, v7, v8, v9, v10, v11, v12, v13, v14] ∧ Ok Nm q j ∧ Dk A' d q j n ∧ Bx A' b (m + 20 + 21 * done.length) ∧ n ≤ 13 + done.length, congrArg (Src.mk · always) (intsFrom_map nt 0), ⟨nb, q, j, n0, _, _, _, _, _, _, _, _, _, _, rfl, o, hd10, hb10, by show n0 ≤ 13 + 0; omega⟩, fun done t rest τ A11 eb ⟨nb, q, j, n, v5, v6, v7, v8, v9, v10, v11, v12, v13, v14, et, o, hd11, hb11, hnn⟩ => ?_, fun τ A11 ⟨nb, q, j, n, v5, v6, v7, v8, v9, v10, v11, v12, v13, v14, et, o, hd11, hb11, hnn⟩ => ?_⟩
  · subst et
    have hdl : done.length + 1 ≤ 16 := by
      have := congrArg List.length eb
      rw [List.length_range', List.length_append, List.length_cons] at this
      omega
    clear eb en hd10 hb10 wr10 hd9 hb9
    refine ⟨_, _, rfl, ?_⟩
    wtm_at "sk"
    refine es_asg (Ev.mono (P := fun v A12 => ∃ c : Ch, v = chA c ∧ c.Nm Nm ∧ Bx A12 b (m + 20 + 21 * done.length + 21) ∧ Wr b A11 A12) (X := NX) ?_ (fun v A12 ⟨c, ev, hc, hb12, wr12⟩ => ?_) fun _ _ _ z => z.elim)
    · repeat wtm_at "sk"
      refine p_take hb11 (by omega) (by decide) (by decide) fun k6 A12 _ _ hb12 wr12 => ?_
      repeat wtm_at "sk"
      refine ⟨fun _ => ?_, fun _ => ?_⟩
      · repeat wtm_at "sk"
        refine p_lchange hb12 (by omega) o fun c A13 hc hb13 wr13 => ?_
        exact ⟨c, rfl, hc, hb13, wr12.trans wr13⟩
      · repeat wtm_at "sk"
        exact ⟨.settle, rfl, trivial, hb12.mono (by omega), wr12⟩
    · subst ev
      refine ⟨_, _, rfl, ?_⟩
      have hd12 := hd11.wr nbd wr12
      clear hb11 hd11 wr12
      repeat wtm_at "sk"
      refine p_lloads o fun A13 g13 => ?_
      repeat wtm_at "sk"
      refine p_lwaiting o fun A14 g14 => ?_
      repeat wtm_at "sk"
      refine p_deed o hc fun A15 g15 => ?_
      have hd15 := ((hd12.gr g13).gr g14).gr g15
      have hb15 := ((hb12.gr g13).gr g14).gr g15
      clear hd12 hb12 g13 g14 g15
      repeat wtm_at "sk"
      cases e : dd q j c with
      | ok q2 j2 =>
        unfold Rs.av
        repeat wtm_at "sk"
        rw [show decide (eTold = [116, 111, 108, 100]) = true from rfl]
        repeat wtm_at "sk"
        refine p_step hd15 (by omega) o hc (fun q3 j3 A16 e3 hd16 w16 => ?_) fun w v A16 e3 => by rw [e] at e3; cases e3
        rw [e] at e3
        cases e3
        have o2 := Rs.okAll o hc e
        have hb16 := hb15.wr (Ne.symm nbd) w16
        have hcount : AV.int ((n : Int) + (if true = true then 1 else 0)) = AV.int (((n + 1 : Nat)) : Int) := by rw [if_pos rfl]; rfl
        repeat wtm_at "sk"
        refine ⟨fun z => absurd (show false = true from z) (by decide), fun _ => ?_⟩
        repeat wtm_at "sk"
        refine p_told_view hd16 o2 fun A17 g17 => ?_
        have hd17 := hd16.gr g17
        repeat wtm_at "sk"
        refine ev_lenO ?_
        repeat wtm_at "sk"
        obtain ⟨fs, hfs⟩ := dk_fs hd17
        refine ⟨d, fs, rfl, hfs, p_len hd17 ⟨((n + 1 : Nat) : Int), rfl, by omega, by omega, ?_⟩⟩
        repeat wtm_at "sk"
        refine p_lview o2 fun A18 g18 => ?_
        repeat wtm_at "sk"
        rw [hcount]
        refine p_same 9 (view_pl o2) fun A19 g19 => ?_
        have hd19 := (hd17.gr g18).gr g19
        have hb19 := ((hb16.gr g17).gr g18).gr g19
        repeat wtm_at "sk"
        refine ⟨fun c1 => ?_, fun c1 => ?_⟩
        · have hs := wd_settle (of_decide_eq_true c1)
          subst hs
          obtain ⟨e1, e2, hcond⟩ := settle_ok e
          repeat wtm_at "sk"
          have hdS : Dk A19 d (settled q j) j (n + 1) := by rw [← e1]; rw [e2] at hd19; exact hd19
          refine p_sright hdS o hcond fun A20 g20 => ?_
          repeat wtm_at "sk"
          exact ⟨!nb, q2, j2, n + 1, _, _, _, _, _, _, _, _, _, _, rfl, o2, hd19.gr g20, (hb19.gr g20).mono (by rw [List.length_append]; show _ ≤ m + 20 + 21 * (done.length + 1); omega), by rw [List.length_append]; show n + 1 ≤ 13 + (done.length + 1); omega⟩
        · repeat wtm_at "sk"
          exact ⟨!nb, q2, j2, n + 1, _, _, _, _, _, _, _, _, _, _, rfl, o2, hd19, hb19.mono (by rw [List.length_append]; show _ ≤ m + 20 + 21 * (done.length + 1); omega), by rw [List.length_append]; show n + 1 ≤ 13 + (done.length + 1); omega⟩
      | err w v =>
        have hw := (dd_err hc e).1
        unfold Rs.av
        repeat wtm_at "sk"
        rw [show decide (w = [116, 111, 108, 100]) = false from decide_eq_false hw]
        repeat wtm_at "sk"
        refine p_step hd15 (by omega) o hc (fun q3 j3 A16 e3 => by rw [e] at e3; cases e3) fun w2 v2 A16 e3 hd16 w16 => ?_
        have o2 := o
        have hb16 := hb15.wr (Ne.symm nbd) w16
        have hcount : AV.int ((n : Int) + (if false = true then 1 else 0)) = AV.int ((n : Nat) : Int) := by rw [if_neg (by decide)]; exact congrArg AV.int (Int.add_zero _)
        repeat wtm_at "sk"
        refine ⟨fun z => absurd (show false = true from z) (by decide), fun _ => ?_⟩
        repeat wtm_at "sk"
        refine p_told_view hd16 o2 fun A17 g17 => ?_
        have hd17 := hd16.gr g17
        repeat wtm_at "sk"
        refine ev_lenO ?_
        repeat wtm_at "sk"
        obtain ⟨fs, hfs⟩ := dk_fs hd17
        refine ⟨d, fs, rfl, hfs, p_len hd17 ⟨((n : Nat) : Int), rfl, by omega, by omega, ?_⟩⟩
        repeat wtm_at "sk"
        refine p_lview o2 fun A18 g18 => ?_
        repeat wtm_at "sk"
        rw [hcount]
        refine p_same 9 (view_pl o2) fun A19 g19 => ?_
        have hd19 := (hd17.gr g18).gr g19
        have hb19 := ((hb16.gr g17).gr g18).gr g19
        repeat wtm_at "sk"
        refine ⟨fun c1 => ?_, fun c1 => ?_⟩
        · repeat wtm_at "sk"
          exact ⟨!nb, q, j, n, _, _, _, _, _, _, _, _, _, _, rfl, o2, hd19, hb19.mono (by rw [List.length_append]; show _ ≤ m + 20 + 21 * (done.length + 1); omega), by rw [List.length_append]; show n ≤ 13 + (done.length + 1); omega⟩
        · repeat wtm_at "sk"
          exact ⟨!nb, q, j, n, _, _, _, _, _, _, _, _, _, _, rfl, o2, hd19, hb19.mono (by rw [List.length_append]; show _ ≤ m + 20 + 21 * (done.length + 1); omega), by rw [List.length_append]; show n ≤ 13 + (done.length + 1); omega⟩
  · subst et
    repeat wtm_at "sk"
    exact h A11 (hb11.mono (by rw [List.length_range']; omega))
end
end K77
set_option Elab.async false
set_option linter.all false
set_option maxRecDepth 100000
set_option maxHeartbeats 2000000
namespace K77
open Mw Dsk PySem
theorem p_law {ns : List Int} (hl : ns.length ≤ 63) : Ev (m_law [.rol (ns.map AV.int)] []) (fun v _ => v = .bl true) NX := by
  refine ev_fnM rfl ?_
  show ES (b_law _ _) _ _ _
  unfold b_law
  repeat wtm_at "sk"
  refine es_forC ?_
  repeat wtm_at "sk"
  refine k_lenS (xs := ns.map AV.int) rfl ?_
  repeat wtm_at "sk"
  rw [List.length_map]
  have h4 : (if (if (ns.length : Int) < 4 then (ns.length : Int) else 4) > 2 then (if (ns.length : Int) < 4 then (ns.length : Int) else 4) else 2) ≤ 4 := by split <;> (try split) <;> omega
  have h2 : 2 ≤ (if (if (ns.length : Int) < 4 then (ns.length : Int) else 4) > 2 then (if (ns.length : Int) < 4 then (ns.length : Int) else 4) else 2) := by split <;> (try split) <;> omega
  generalize (if (if (ns.length : Int) < 4 then (ns.length : Int) else 4) > 2 then (if (ns.length : Int) < 4 then (ns.length : Int) else 4) else 2) = N at h4 h2 ⊢
  have en : N = ((N.toNat : Nat) : Int) := by omega
  have hn4 : N.toNat ≤ 4 := by omega
  generalize N.toNat = nt at en hn4
  subst en
  refine ⟨fit_nat (by omega), Nat, List.range' 0 nt, fun t => .int (t : Int), fun done rest τ A' => ∃ v1 v2, τ = [some (.rol (ns.map .int)), v1, v2], congrArg (Src.mk · always) rng, ⟨_, _, rfl⟩, fun done k rest τ A1 eb ⟨v1, v2, et⟩ => ?_, fun τ A1 ⟨v1, v2, et⟩ => ?_⟩
  · subst et
    have hk : k < 4 := by
      have : k ∈ List.range' 0 nt := by rw [eb]; simp
      have := rng_lt this
      omega
    refine ⟨_, _, rfl, ?_⟩
    repeat wtm_at "sk"
    refine p_cell hl hk fun g => ?_
    repeat wtm_at "sk"
    refine p_box fun i A2 ni hb2 g2 => ?_
    repeat wtm_at "sk"
    refine p_take hb2 (by omega) (by decide) (by decide) fun d3 A3 _ _ hb3 _ => ?_
    repeat wtm_at "sk"
    refine p_desk_right hb3 (by omega) fun A4 hb4 => ?_
    repeat wtm_at "sk"
    refine p_take hb4 (by omega) (by decide) (by decide) fun d5 A5 _ _ hb5 _ => ?_
    repeat wtm_at "sk"
    refine p_desk_right hb5 (by omega) fun A6 hb6 => ?_
    repeat wtm_at "sk"
    exact ⟨_, _, rfl⟩
  · subst et
    repeat wtm_at "sk"
    rfl
end K77
set_option Elab.async false
set_option maxRecDepth 100000
set_option maxHeartbeats 0
theorem K77.plain : K77.Plain := fun ns hl => by
  obtain ⟨a, A, e, ha⟩ := Mw.Ev.get (K77.p_law hl)
  subst ha
  exact ⟨A, e⟩
theorem PySem.Challenge.cw_schedbench_k77_queues_and_settle_holds : PySem.Challenge.rw_schedbench_k77_queues_and_settle.Holds :=
  K77.holds_of K77.plain
