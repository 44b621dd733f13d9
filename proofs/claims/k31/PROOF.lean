import PyProof.Rows.All
import Wide.All
import OpenK.AllK
import Wide.FinOn
import HandS.ForMost
import HandS.Walk
import HandS.Evl
import HandS.Deep
import HandS.TupAny
import HandS.AnyAll
import KE.KDictKeyed
import HandS.Style
import KE.KDictDisplayH
import HandS.IsInst
import HandS.CallLocal
import HandS.MakeKwOnly
import PyProof.Rows.FactsN_isinstance
import KE.GoesMore
import PyProof.GenCompD
import KE.KIsAll
import HandS.EndTab
import KE.KNestM
import HandS.HeadWalk
import PySem.Challenge.RW_twoknowers_k31_whole_what_is_never_said
set_option Elab.async false
set_option linter.all false
set_option maxRecDepth 100000
set_option maxHeartbeats 4000000
/-! Tk, part A: abstract states, what they stand for. -/
namespace Tk
open PySem L2
open Evl (Ex ex_l ex_t fresh_back)

/-- the draw state of the law: the cells left, the running number, the seed -/
abbrev LS := List Int × Int × Int

/-- what a local holds -/
inductive AV where
  | d (x : PyData)
  | pr (sz pa tk lv sk : PyData)
  | ft (kvs : List (Str × PyData))
  | fd (kvs : List (PyData × PyData))
  | fn (f : Addr)
  | lp
  | ml (xs : List PyData)
  | ms (ks : List PyData)
  | md (kvs : List (PyData × PyData))
  | mt (kvs : List (Str × PyData))

/-- the class of the programs, the tables of code objects -/
structure Cc where
  cl : Addr
  tb : List Addr
structure Cfg where
  K : PySem.W.Frag
  P : Program
  w : World
  C : Cc

/-- what stood at a def's entry -/
structure Bg where
  F0 : Hp
  H0 : Hp
  ls : Option (Addr × Addr)
  tb : List Addr
  px : List (Addr × HO)
def Bg.mut (B : Bg) (a : Addr) : Prop := (∃ p, B.ls = some p ∧ (a = p.1 ∨ a = p.2)) ∨ a ∈ B.tb

structure S where
  Γ : List (Option AV)
  g : LS

/-! ### data -/
mutual
/-- a value that stands for a datum: None, bools, ints, texts, tuples, lists -/
inductive Dt (K : PySem.W.Frag) (F : Hp) : V → PyData → Prop
  | non : Dt K F .non .none
  | bl (b : Bool) : Dt K F (.bl b) (.bool b)
  | int (i : Int) : Dt K F (.int i) (.int i)
  | str (x : Str) : Dt K F (.str x) (.str x)
  | lst {a : Addr} {xs : List V} {ds : List PyData} : F a = some (.lst xs) → DtAll K F xs ds → Dt K F (.ref a) (.list ds)
  | tup {a : Addr} {xs : List V} {ds : List PyData} : SqT K F a xs → DtAll K F xs ds → Dt K F (.ref a) (.tuple ds)
inductive DtAll (K : PySem.W.Frag) (F : Hp) : List V → List PyData → Prop
  | nil : DtAll K F [] []
  | cons {v : V} {vs : List V} {d : PyData} {ds : List PyData} : Dt K F v d → DtAll K F vs ds → DtAll K F (v :: vs) (d :: ds)
end
mutual
theorem dt_ex {K : PySem.W.Frag} {F F' : Hp} (e : Ex F F') : ∀ (d : PyData) (v : V), Dt K F v d → Dt K F' v d
  | .none, _, h => by cases h; exact .non
  | .bool b, _, h => by cases h; exact .bl b
  | .int i, _, h => by cases h; exact .int i
  | .str x, _, h => by cases h; exact .str x
  | .list ds, _, h => by
    cases h with
    | lst hs ha => exact .lst (e _ _ hs) (dtAll_ex e ds _ ha)
  | .tuple ds, _, h => by
    cases h with
    | tup hs ha => exact .tup (ex_t e hs) (dtAll_ex e ds _ ha)
  | .dict _, _, h => by cases h
theorem dtAll_ex {K : PySem.W.Frag} {F F' : Hp} (e : Ex F F') : ∀ (ds : List PyData) (vs : List V), DtAll K F vs ds → DtAll K F' vs ds
  | [], _, h => by cases h; exact .nil
  | d :: ds, _, h => by
    cases h with
    | cons h1 h2 => exact .cons (dt_ex e d _ h1) (dtAll_ex e ds _ h2)
end
mutual
theorem dt_dp {K : PySem.W.Frag} {F H : Hp} (e : Ex F H) : ∀ (d : PyData) (v : V), Dt K F v d → Dp K H v d
  | .none, _, h => by cases h; exact .non
  | .bool b, _, h => by cases h; exact .bl b
  | .int i, _, h => by cases h; exact .int i
  | .str x, _, h => by cases h; exact .str x
  | .list ds, _, h => by
    cases h with
    | lst hs ha => exact .lst (SqL.of (e _ _ hs)) (dtAll_dp e ds _ ha)
  | .tuple ds, _, h => by
    cases h with
    | tup hs ha => exact .tup (ex_t e hs) (dtAll_dp e ds _ ha)
  | .dict _, _, h => by cases h
theorem dtAll_dp {K : PySem.W.Frag} {F H : Hp} (e : Ex F H) : ∀ (ds : List PyData) (vs : List V), DtAll K F vs ds → DpAll K H vs ds
  | [], _, h => by cases h; exact .nil
  | d :: ds, _, h => by
    cases h with
    | cons h1 h2 => exact .cons (dt_dp e d _ h1) (dtAll_dp e ds _ h2)
end
section
variable {K : PySem.W.Frag} {F F' H : Hp}
theorem DtAll.len : ∀ {ds : List PyData} {vs : List V}, DtAll K F vs ds → vs.length = ds.length
  | [], _, h => by cases h; rfl
  | d :: ds, _, h => by
    cases h with
    | cons h1 h2 => simp [DtAll.len h2]
theorem DtAll.get : ∀ {ds : List PyData} {vs : List V} {i : Nat} {d : PyData}, DtAll K F vs ds → ds[i]? = some d → ∃ v, vs[i]? = some v ∧ Dt K F v d
  | [], _, _, _, h, e => by simp at e
  | x :: ds, _, i, d, h, e => by
    cases h with
    | cons h1 h2 =>
      cases i with
      | zero => simp at e; subst e; exact ⟨_, rfl, h1⟩
      | succ i => obtain ⟨v, e1, e2⟩ := DtAll.get h2 (by simpa using e); exact ⟨v, by simpa using e1, e2⟩
theorem DtAll.back : ∀ {ds : List PyData} {vs : List V} {i : Nat} {v : V}, DtAll K F vs ds → vs[i]? = some v → ∃ d, ds[i]? = some d ∧ Dt K F v d
  | [], _, _, _, h, e => by cases h; simp at e
  | x :: ds, _, i, v, h, e => by
    cases h with
    | cons h1 h2 =>
      cases i with
      | zero => simp at e; subst e; exact ⟨_, rfl, h1⟩
      | succ i => obtain ⟨d, e1, e2⟩ := DtAll.back h2 (by simpa using e); exact ⟨d, by simpa using e1, e2⟩
theorem DtAll.app : ∀ {ds es : List PyData} {vs us : List V}, DtAll K F vs ds → DtAll K F us es → DtAll K F (vs ++ us) (ds ++ es)
  | [], _, _, _, h, q => by cases h; exact q
  | _ :: _, _, _, _, h, q => by
    cases h with
    | cons h1 h2 => exact .cons h1 (DtAll.app h2 q)
theorem DtAll.one {v : V} {d : PyData} (h : Dt K F v d) : DtAll K F [v] [d] := .cons h .nil
theorem DtAll.set : ∀ {ds : List PyData} {vs : List V} (i : Nat) {v : V} {d : PyData}, DtAll K F vs ds → Dt K F v d → DtAll K F (vs.set i v) (ds.set i d)
  | [], _, _, _, _, h, _ => by cases h; exact .nil
  | _ :: _, _, i, _, _, h, q => by
    cases h with
    | cons h1 h2 =>
      cases i with
      | zero => exact .cons q h2
      | succ i => exact .cons h1 (DtAll.set i h2 q)
theorem DtAll.erase : ∀ {ds : List PyData} {vs : List V} (i : Nat), DtAll K F vs ds → DtAll K F (vs.eraseIdx i) (ds.eraseIdx i)
  | [], _, _, h => by cases h; exact .nil
  | _ :: _, _, i, h => by
    cases h with
    | cons h1 h2 =>
      cases i with
      | zero => exact h2
      | succ i => exact .cons h1 (DtAll.erase i h2)
theorem DtAll.rev : ∀ {ds : List PyData} {vs : List V}, DtAll K F vs ds → DtAll K F vs.reverse ds.reverse
  | [], _, h => by cases h; exact .nil
  | _ :: _, _, h => by
    cases h with
    | cons h1 h2 => rw [List.reverse_cons, List.reverse_cons]; exact DtAll.app (DtAll.rev h2) (Tk.DtAll.one h1)
theorem DtAll.take : ∀ {ds : List PyData} {vs : List V} (n : Nat), DtAll K F vs ds → DtAll K F (vs.take n) (ds.take n)
  | _, _, 0, _ => .nil
  | [], _, _ + 1, h => by cases h; exact .nil
  | _ :: _, _, n + 1, h => by
    cases h with
    | cons h1 h2 => exact .cons h1 (DtAll.take n h2)
theorem DtAll.drop : ∀ {ds : List PyData} {vs : List V} (n : Nat), DtAll K F vs ds → DtAll K F (vs.drop n) (ds.drop n)
  | _, _, 0, h => h
  | [], _, _ + 1, h => by cases h; exact .nil
  | _ :: _, _, n + 1, h => by
    cases h with
    | cons h1 h2 => exact DtAll.drop n h2
end

/-! ### nested keys -/
mutual
def nk : PyData → Option NestedKey
  | .none => some .none
  | .int i => some (.num i)
  | .str x => some (.text x)
  | .tuple xs => (nks xs).map .tup
  | .bool _ | .list _ | .dict _ => none
def nks : List PyData → Option (List NestedKey)
  | [] => some []
  | x :: xs => match nk x, nks xs with
    | some a, some b => some (a :: b)
    | _, _ => none
end
/-- data that is a key: no bool, no list -/
def KeyD (d : PyData) : Prop := ∃ k, nk d = some k ∧ k.depth ≤ 8 ∧ ∃ xs, d = .tuple xs
mutual
theorem nk_inj : ∀ (d e : PyData) (k : NestedKey), nk d = some k → nk e = some k → d = e
  | .none, e, k, h, q => by
    simp only [nk, Option.some.injEq] at h; subst h
    cases e <;> simp [nk] at q <;> rfl
  | .int i, e, k, h, q => by
    simp only [nk, Option.some.injEq] at h; subst h
    cases e <;> simp [nk] at q
    subst q; rfl
  | .str x, e, k, h, q => by
    simp only [nk, Option.some.injEq] at h; subst h
    cases e <;> simp [nk] at q
    subst q; rfl
  | .tuple xs, e, k, h, q => by
    simp only [nk, Option.map_eq_some_iff] at h
    obtain ⟨ks, h1, rfl⟩ := h
    cases e <;> simp [nk] at q
    rw [nks_inj xs _ ks h1 q]
  | .bool _, _, _, h, _ => by simp [nk] at h
  | .list _, _, _, h, _ => by simp [nk] at h
  | .dict _, _, _, h, _ => by simp [nk] at h
theorem nks_inj : ∀ (ds es : List PyData) (ks : List NestedKey), nks ds = some ks → nks es = some ks → ds = es
  | [], es, ks, h, q => by
    simp only [nks, Option.some.injEq] at h; subst h
    cases es with
    | nil => rfl
    | cons e es =>
      unfold nks at q
      split at q <;> simp at q
  | d :: ds, es, ks, h, q => by
    unfold nks at h
    split at h
    · rename_i a b ha hb
      simp only [Option.some.injEq] at h; subst h
      cases es with
      | nil => simp [nks] at q
      | cons e es =>
        unfold nks at q
        split at q
        · rename_i a' b' ha' hb'
          simp only [Option.some.injEq, List.cons.injEq] at q
          obtain ⟨rfl, rfl⟩ := q
          rw [nk_inj d e _ ha ha', nks_inj ds es _ hb hb']
        · simp at q
    · simp at h
end
/-- an entry of a dict with nested keys -/
abbrev KEnt := NestedKey × Addr × V
/-- the dict of the entries L at a, by what its one object says -/
def DK0 (P : Program) (w : World) (h : Heap) (a : Addr) (L : List KEnt) : Prop :=
  L.length ≤ sizeLine ∧ (a == sysModules) = false ∧ ∃ xs : List (NestedKey × Addr × Value), Paired (fun (p : KEnt) (q : NestedKey × Addr × Value) => p.1 = q.1 ∧ p.2.1 = q.2.1 ∧ RelV p.2.2 q.2.2) L xs ∧
    ∃ o es ep, h.get? a = some o ∧ o.ExactDict ∧ o.data = .dict es ep ∧ es.toList = xs.map (entryOfKey (nestedKind P w)) ∧ (xs.map (·.1)).Nodup
def DKO (P : Program) (w : World) (a : Addr) (L : List KEnt) : HO := .ext fun h => DK0 P w h a L
/-- keys and values stand -/
def KPair (K : PySem.W.Frag) (F : Hp) : List (PyData × PyData) → List KEnt → Prop :=
  Paired fun p q => nk p.1 = some q.1 ∧ q.1.depth ≤ 8 ∧ Dt K F (.ref q.2.1) p.1 ∧ Dt K F q.2.2 p.2
theorem KPair.ex {K : PySem.W.Frag} {F F' : Hp} (e : Ex F F') {kvs : List (PyData × PyData)} {L : List KEnt} (h : KPair K F kvs L) : KPair K F' kvs L :=
  L2.Paired.mapP h fun _ _ z => ⟨z.1, z.2.1, dt_ex e _ _ z.2.2.1, dt_ex e _ _ z.2.2.2⟩
/-- text keys -/
def TPair (K : PySem.W.Frag) (F : Hp) : List (Str × PyData) → List (Key × V) → Prop := Paired fun p q => q.1 = Sum.inr p.1 ∧ Dt K F q.2 p.2
theorem TPair.ex {K : PySem.W.Frag} {F F' : Hp} (e : Ex F F') {kvs : List (Str × PyData)} {L : List (Key × V)} (h : TPair K F kvs L) : TPair K F' kvs L :=
  L2.Paired.mapP h fun _ _ z => ⟨z.1, dt_ex e _ _ z.2⟩

/-! ### what a value stands for -/
/-- the fields of a program object -/
def PrF (K : PySem.W.Frag) (F : Hp) (fs : List (Str × V)) (f : Str) (d : PyData) : Prop := ∃ v, fs.lookup f = some v ∧ Dt K F v d
def Frz (T : Cfg) (B : Bg) (F : Hp) (v : V) : AV → Prop
  | .d x => Dt T.K F v x
  | .pr sz pa tk lv sk => ∃ a dx fs, v = .ref a ∧ F a = some (.ins T.C.cl dx fs) ∧ PrF T.K F fs "sizes" sz ∧ PrF T.K F fs "parts" pa ∧ PrF T.K F fs "ticks" tk ∧ PrF T.K F fs "live" lv ∧ PrF T.K F fs "skips" sk
  | .ft kvs => ∃ a L, v = .ref a ∧ F a = some (.dK L) ∧ TPair T.K F kvs L
  | .fd kvs => ∃ a L, v = .ref a ∧ F a = some (DKO T.P T.w a L) ∧ KPair T.K F kvs L
  | .fn f => v = .ref f
  | .lp => ∃ p, B.ls = some p ∧ v = .ref p.1
  | _ => False
def Own (T : Cfg) (own : Addr → Option Nat) (F H : Hp) (i : Nat) (v : V) : AV → Prop
  | .ml xs => ∃ a vs, v = .ref a ∧ own a = some i ∧ H a = some (.lst vs) ∧ DtAll T.K F vs xs
  | .md kvs => ∃ a L, v = .ref a ∧ own a = some i ∧ H a = some (DKO T.P T.w a L) ∧ KPair T.K F kvs L
  | .mt kvs => ∃ a L, v = .ref a ∧ own a = some i ∧ H a = some (.dK L) ∧ TPair T.K F kvs L
  | _ => False
section
variable {T : Cfg} {B : Bg} {F F' H H' : Hp} {v : V} {av : AV} {own own' : Addr → Option Nat} {i : Nat}
theorem PrF.ex {fs : List (Str × V)} {f : Str} {d : PyData} (e : Ex F F') (h : PrF T.K F fs f d) : PrF T.K F' fs f d := let ⟨v, a, b⟩ := h; ⟨v, a, dt_ex e _ _ b⟩
theorem Frz.ex (e : Ex F F') (h : Frz T B F v av) : Frz T B F' v av := by
  cases av with
  | d x => exact dt_ex e _ _ h
  | pr a b c d k => obtain ⟨p, dx, fs, h1, h2, h3, h4, h5, h6, h7⟩ := h; exact ⟨p, dx, fs, h1, e _ _ h2, h3.ex e, h4.ex e, h5.ex e, h6.ex e, h7.ex e⟩
  | ft kvs => obtain ⟨a, L, h1, h2, h3⟩ := h; exact ⟨a, L, h1, e _ _ h2, h3.ex e⟩
  | fd kvs => obtain ⟨a, L, h1, h2, h3⟩ := h; exact ⟨a, L, h1, e _ _ h2, h3.ex e⟩
  | fn f => exact h
  | lp => exact h
  | ml _ => exact h
  | ms _ => exact h
  | md _ => exact h
  | mt _ => exact h
theorem Frz.bg {B' : Bg} (hb : B'.ls = B.ls) (h : Frz T B F v av) : Frz T B' F v av := by
  cases av <;> first | exact h | (obtain ⟨p, h1, h2⟩ := h; exact ⟨p, hb.trans h1, h2⟩)
theorem Own.at (e : Ex F F') (h : Own T own F H i v av) (ho : ∀ a, own a = some i → own' a = some i ∧ H' a = H a) : Own T own' F' H' i v av := by
  cases av with
  | ml xs => obtain ⟨a, vs, h1, h2, h3, h4⟩ := h; exact ⟨a, vs, h1, (ho a h2).1, (ho a h2).2.trans h3, dtAll_ex e _ _ h4⟩
  | md xs => obtain ⟨a, vs, h1, h2, h3, h4⟩ := h; exact ⟨a, vs, h1, (ho a h2).1, (ho a h2).2.trans h3, h4.ex e⟩
  | mt xs => obtain ⟨a, vs, h1, h2, h3, h4⟩ := h; exact ⟨a, vs, h1, (ho a h2).1, (ho a h2).2.trans h3, h4.ex e⟩
  | _ => exact h
end

/-! ### the state -/
structure LsAt (F H : Hp) (p : Addr × Addr) (g : LS) : Prop where
  ne : p.1 ≠ p.2
  top : H p.1 = some (.lst [.ref p.2, .int g.2.1, .int g.2.2])
  cel : H p.2 = some (.lst (g.1.map V.int))
  f1 : F p.1 = none
  f2 : F p.2 = none
structure EnvOk (T : Cfg) (B : Bg) (F H : Hp) (σ : L2.St) (s : S) : Prop where
  fh : Ex F H
  f0 : Ex B.F0 F
  nw : ∀ a, F a ≠ none → B.F0 a ≠ none ∨ B.H0 a = none
  kp : ∀ a o, B.H0 a = some o → ¬ B.mut a → H a = some o
  lv : ∀ a, B.H0 a ≠ none → H a ≠ none
  tb : ∀ P ∈ B.tb, GxR.TabG H P ∧ B.H0 P ≠ none ∧ B.F0 P = none
  tq : B.tb = T.C.tb
  ls : ∀ p, B.ls = some p → LsAt F H p s.g ∧ B.H0 p.1 ≠ none ∧ B.H0 p.2 ≠ none
  px : ∀ q ∈ B.px, H q.1 = some q.2 ∧ F q.1 = none ∧ B.H0 q.1 = none
  pd : (B.px.map (·.1)).Nodup
  len : s.Γ.length = σ.length
  sl : ∃ own : Addr → Option Nat, (∀ a i, own a = some i → F a = none ∧ H a ≠ none ∧ B.H0 a = none ∧ ∀ q ∈ B.px, q.1 ≠ a) ∧
    ∀ (i : Nat) (av : AV), s.Γ[i]? = some (some av) → ∃ v, σ[i]? = some (some v) ∧ (Frz T B F v av ∨ Own T own F H i v av)

/-- nothing that stood is changed, what is new in F is new -/
structure Grow (F H F' H' : Hp) : Prop where
  f : Ex F F'
  fh : Ex F' H'
  h : Ex H H'
  nw : ∀ a, F' a ≠ none → F a ≠ none ∨ H a = none

section
variable {T : Cfg} {B : Bg} {F F' H H' : Hp} {σ : L2.St} {s : S} {v : V} {av : AV} {p : Addr} {o : HO}
theorem ne_some {α : Type} {x : Option α} {y : α} (h : x = some y) : x ≠ none := by rw [h]; exact fun z => nomatch z
theorem Grow.refl (e : Ex F H) : Grow F H F H := ⟨Ex.refl F, e, Ex.refl H, fun _ h => .inl h⟩
theorem none_of_ex (e : Ex F H) {a : Addr} (h : H a = none) : F a = none := fresh_back e h
theorem upd_ex (h : H p = none) : Ex H (upd H p o) := Ex.new h
theorem Grow.new (e : Ex F H) (h : H p = none) : Grow F H (upd F p o) (upd H p o) := by
  have hf : F p = none := none_of_ex e h
  refine ⟨upd_ex hf, fun a u q => ?_, upd_ex h, fun a q => ?_⟩
  · by_cases c : a = p
    · subst c; rw [upd_same] at q ⊢; exact q
    · rw [upd_ne c] at q ⊢; exact e a u q
  · by_cases c : a = p
    · subst c; exact .inr h
    · rw [upd_ne c] at q; exact .inl q
theorem Grow.trans {F1 H1 : Hp} (a : Grow F H F1 H1) (b : Grow F1 H1 F' H') : Grow F H F' H' := by
  refine ⟨a.f.trans b.f, b.fh, a.h.trans b.h, fun x q => ?_⟩
  rcases b.nw x q with z | z
  · exact a.nw x z
  · exact .inr (none_of_ex a.h z)
/-- the heap beside grows -/
theorem Grow.side (e : Ex F H) (h : Ex H H') : Grow F H F H' := ⟨Ex.refl F, e.trans h, h, fun _ q => .inl q⟩

theorem EnvOk.h0none (I : EnvOk T B F H σ s) {a : Addr} (h : H a = none) : B.H0 a = none := by
  cases q : B.H0 a with
  | none => rfl
  | some o => exact absurd h (I.lv a (ne_some q))
theorem LsAt.grow {p : Addr × Addr} {g : LS} (l : LsAt F H p g) (G : Grow F H F' H') : LsAt F' H' p g := by
  have k : ∀ a, F a = none → H a ≠ none → F' a = none := fun a h1 h2 => by
    cases q : F' a with
    | none => rfl
    | some u =>
      rcases G.nw a (ne_some q) with z | z
      · exact absurd h1 z
      · exact absurd z h2
  exact ⟨l.ne, G.h _ _ l.top, G.h _ _ l.cel, k _ l.f1 (ne_some l.top), k _ l.f2 (ne_some l.cel)⟩
theorem tabG_ex {P : Addr} (e : Ex H H') (h : GxR.TabG H P) : GxR.TabG H' P := let ⟨ps, h1, h2⟩ := h; ⟨ps, e _ _ h1, h2⟩
theorem EnvOk.grow (I : EnvOk T B F H σ s) (G : Grow F H F' H') : EnvOk T B F' H' σ s := by
  obtain ⟨own, ho, hs⟩ := I.sl
  have k : ∀ a i, own a = some i → F' a = none ∧ H' a = H a := fun a i h => by
    obtain ⟨h1, h2, h3, _⟩ := ho a i h
    refine ⟨?_, ?_⟩
    · cases q : F' a with
      | none => rfl
      | some u =>
        rcases G.nw a (ne_some q) with z | z
        · exact absurd h1 z
        · exact absurd z h2
    · cases q : H a with
      | none => exact absurd q h2
      | some u => exact G.h _ _ q
  have kx : ∀ q ∈ B.px, F' q.1 = none := fun q hq => by
    obtain ⟨h1, h2, h3⟩ := I.px q hq
    cases r : F' q.1 with
    | none => rfl
    | some u =>
      rcases G.nw q.1 (ne_some r) with z | z
      · exact absurd h2 z
      · rw [h1] at z; cases z
  refine ⟨G.fh, I.f0.trans G.f, fun a q => ?_, fun a u q m => G.h _ _ (I.kp a u q m), fun a q => ?_, fun P hP => ⟨tabG_ex G.h (I.tb P hP).1, (I.tb P hP).2⟩, I.tq, fun q hq => ⟨(I.ls q hq).1.grow G, (I.ls q hq).2⟩, fun q hq => ⟨G.h _ _ (I.px q hq).1, kx q hq, (I.px q hq).2.2⟩, I.pd, I.len, own, fun a i h => ⟨(k a i h).1, by rw [(k a i h).2]; exact (ho a i h).2.1, (ho a i h).2.2⟩, fun i av h => ?_⟩
  · rcases G.nw a q with z | z
    · exact I.nw a z
    · exact .inr (I.h0none z)
  · have := I.lv a q
    cases z : H a with
    | none => exact absurd z this
    | some u => exact ne_some (G.h _ _ z)
  · obtain ⟨v, h1, h2⟩ := hs i av h
    refine ⟨v, h1, h2.elim (fun z => .inl (z.ex G.f)) fun z => .inr (z.at G.f fun a q => ⟨q, (k a i q).2⟩)⟩
/-- a slot's value -/
theorem EnvOk.get (I : EnvOk T B F H σ s) {i : Nat} (h : s.Γ[i]? = some (some av)) : ∃ v own, σ[i]? = some (some v) ∧ (Frz T B F v av ∨ Own T own F H i v av) :=
  let ⟨own, _, hs⟩ := I.sl
  let ⟨v, h1, h2⟩ := hs i av h
  ⟨v, own, h1, h2⟩
theorem get_set_ne {α : Type} {l : List α} {i j : Nat} {x : α} (h : j ≠ i) : (l.set i x)[j]? = l[j]? := List.getElem?_set_ne (Ne.symm h)
/-- a slot is stored: a frozen value -/
theorem EnvOk.put (I : EnvOk T B F H σ s) (i : Nat) (h : Frz T B F v av) : EnvOk T B F H (σ.set i (some v)) { s with Γ := s.Γ.set i (some av) } := by
  obtain ⟨own, ho, hs⟩ := I.sl
  refine ⟨I.fh, I.f0, I.nw, I.kp, I.lv, I.tb, I.tq, I.ls, I.px, I.pd, by simp [I.len], fun a => if own a = some i then none else own a, fun a j q => ?_, fun j bv q => ?_⟩
  · by_cases c : own a = some i
    · simp [c] at q
    · simp only [c, if_false] at q; exact ho a j q
  · by_cases c : j = i
    · subst c
      have hl : j < s.Γ.length := by
        have := (List.getElem?_eq_some_iff.mp q).1
        simpa using this
      simp only [] at q
      rw [List.getElem?_set_self hl] at q
      cases q
      exact ⟨v, List.getElem?_set_self (by rw [← I.len]; exact hl), .inl h⟩
    · simp only [] at q
      rw [get_set_ne c] at q
      obtain ⟨u, h1, h2⟩ := hs j bv q
      refine ⟨u, by rw [get_set_ne c]; exact h1, h2.elim .inl fun z => .inr (z.at (Ex.refl F) fun a q => ⟨?_, rfl⟩)⟩
      have : own a ≠ some i := fun z => c (Option.some.inj (q.symm.trans z))
      rw [if_neg this]; exact q
/-- a slot is stored: a thing just made that the slot owns -/
theorem EnvOk.putOwn (I : EnvOk T B F H σ s) (i : Nat) (hp : H p = none) (h : ∀ own : Addr → Option Nat, own p = some i → Own T own F (upd H p o) i (.ref p) av) :
    EnvOk T B F (upd H p o) (σ.set i (some (.ref p))) { s with Γ := s.Γ.set i (some av) } := by
  have I1 : EnvOk T B F (upd H p o) σ s := I.grow (Grow.side I.fh (upd_ex hp))
  have h0 : B.H0 p = none := I.h0none hp
  have f0 : F p = none := none_of_ex I.fh hp
  obtain ⟨own, ho, hs⟩ := I.sl
  have np : ∀ a j, own a = some j → a ≠ p := fun a j q z => (ho a j q).2.1 (by rw [z]; exact hp)
  refine ⟨I1.fh, I1.f0, I1.nw, I1.kp, I1.lv, I1.tb, I1.tq, I1.ls, I1.px, I1.pd, by simp [I.len], fun a => if a = p then some i else if own a = some i then none else own a, fun a j q => ?_, fun j bv q => ?_⟩
  · by_cases c : a = p
    · subst c; exact ⟨f0, by rw [upd_same]; exact ne_some rfl, h0, fun q hq z => by have := (I.px q hq).1; rw [z, hp] at this; cases this⟩
    · simp only [c, if_false] at q
      by_cases c2 : own a = some i
      · simp [c2] at q
      · simp only [c2, if_false] at q
        rw [upd_ne c]
        exact ho a j q
  · by_cases c : j = i
    · subst c
      have hl : j < s.Γ.length := by
        have := (List.getElem?_eq_some_iff.mp q).1
        simpa using this
      simp only [] at q
      rw [List.getElem?_set_self hl] at q
      cases q
      exact ⟨.ref p, List.getElem?_set_self (by rw [← I.len]; exact hl), .inr (h _ (by simp))⟩
    · simp only [] at q
      rw [get_set_ne c] at q
      obtain ⟨u, h1, h2⟩ := hs j bv q
      refine ⟨u, by rw [get_set_ne c]; exact h1, h2.elim .inl fun z => .inr (z.at (Ex.refl F) fun a q => ⟨?_, upd_ne (np a j q)⟩)⟩
      have n1 : own a ≠ some i := fun z => c (Option.some.inj (q.symm.trans z))
      rw [if_neg (np a j q), if_neg n1]; exact q
/-- the thing that slot i owns is changed -/
theorem EnvOk.updOwn (I : EnvOk T B F H σ s) {i : Nat} {v : V} {av av' : AV} {p : Addr} {o : HO} {own : Addr → Option Nat}
    (ho : ∀ a j, own a = some j → F a = none ∧ H a ≠ none ∧ B.H0 a = none ∧ ∀ q ∈ B.px, q.1 ≠ a)
    (hs : ∀ (j : Nat) (bv : AV), s.Γ[j]? = some (some bv) → ∃ v, σ[j]? = some (some v) ∧ (Frz T B F v bv ∨ Own T own F H j v bv))
    (hv : σ[i]? = some (some v)) (hp : own p = some i) (h : Own T own F (upd H p o) i v av') : EnvOk T B F (upd H p o) σ { s with Γ := s.Γ.set i (some av') } := by
  obtain ⟨f0, h1, h0, hx⟩ := ho p i hp
  have nls : ∀ q, B.ls = some q → q.1 ≠ p ∧ q.2 ≠ p := fun q hq => ⟨fun z => (I.ls q hq).2.1 (by rw [z]; exact h0), fun z => (I.ls q hq).2.2 (by rw [z]; exact h0)⟩
  have key : ∀ a, B.H0 a ≠ none → a ≠ p := fun a q z => q (by rw [z]; exact h0)
  refine ⟨fun a u q => ?_, I.f0, I.nw, fun a u q m => ?_, fun a q => ?_, fun P hP => ?_, I.tq, fun q hq => ?_, fun q hq => ⟨by rw [upd_ne (hx q hq)]; exact (I.px q hq).1, (I.px q hq).2⟩, I.pd, by simp [I.len], own, fun a j q => ?_, fun j bv q => ?_⟩
  · rw [upd_ne (fun z => by rw [z, f0] at q; cases q)]; exact I.fh a u q
  · rw [upd_ne (key a (ne_some q))]; exact I.kp a u q m
  · rw [upd_ne (key a q)]; exact I.lv a q
  · obtain ⟨⟨ps, e1, e2⟩, e3⟩ := I.tb P hP
    exact ⟨⟨ps, by rw [upd_ne (key P e3.1)]; exact e1, e2⟩, e3⟩
  · obtain ⟨l, r1, r2⟩ := I.ls q hq
    exact ⟨⟨l.ne, by rw [upd_ne (nls q hq).1]; exact l.top, by rw [upd_ne (nls q hq).2]; exact l.cel, l.f1, l.f2⟩, r1, r2⟩
  · obtain ⟨a1, a2, a3⟩ := ho a j q
    refine ⟨a1, ?_, a3.1, a3.2⟩
    by_cases c : a = p
    · subst c; rw [upd_same]; exact ne_some rfl
    · rw [upd_ne c]; exact a2
  · by_cases c : j = i
    · subst c
      have hl : j < s.Γ.length := by
        have := (List.getElem?_eq_some_iff.mp q).1
        simpa using this
      simp only [] at q
      rw [List.getElem?_set_self hl] at q
      cases q
      exact ⟨v, hv, .inr h⟩
    · simp only [] at q
      rw [get_set_ne c] at q
      obtain ⟨u, h1, h2⟩ := hs j bv q
      refine ⟨u, h1, h2.imp id fun z => z.at (Ex.refl F) fun a q => ⟨q, upd_ne fun z => ?_⟩⟩
      subst z
      exact c (Option.some.inj (q.symm.trans hp))
/-- what slot i owns becomes frozen -/
theorem EnvOk.frzAt (I : EnvOk T B F H σ s) {i : Nat} {v : V} {av' : AV} {p : Addr} {o : HO} {own : Addr → Option Nat}
    (ho : ∀ a j, own a = some j → F a = none ∧ H a ≠ none ∧ B.H0 a = none ∧ ∀ q ∈ B.px, q.1 ≠ a)
    (hs : ∀ (j : Nat) (bv : AV), s.Γ[j]? = some (some bv) → ∃ v, σ[j]? = some (some v) ∧ (Frz T B F v bv ∨ Own T own F H j v bv))
    (hv : σ[i]? = some (some v)) (hp : own p = some i) (hH : H p = some o) (h : Frz T B (upd F p o) v av') :
    Ex F (upd F p o) ∧ EnvOk T B (upd F p o) H σ { s with Γ := s.Γ.set i (some av') } := by
  obtain ⟨f0, h1, h0, hx⟩ := ho p i hp
  have ef : Ex F (upd F p o) := upd_ex f0
  refine ⟨ef, fun a u q => ?_, I.f0.trans ef, fun a q => ?_, I.kp, I.lv, I.tb, I.tq, fun q hq => ?_, fun q hq => ⟨(I.px q hq).1, by rw [upd_ne (hx q hq)]; exact (I.px q hq).2.1, (I.px q hq).2.2⟩, I.pd, by simp [I.len], fun a => if a = p then none else own a, fun a j q => ?_, fun j bv q => ?_⟩
  · by_cases c : a = p
    · subst c; rw [upd_same] at q; cases q; exact hH
    · rw [upd_ne c] at q; exact I.fh a u q
  · by_cases c : a = p
    · subst c; exact .inr h0
    · rw [upd_ne c] at q; exact I.nw a q
  · obtain ⟨l, r1, r2⟩ := I.ls q hq
    exact ⟨⟨l.ne, l.top, l.cel, by rw [upd_ne (fun z => r1 (by rw [z]; exact h0))]; exact l.f1, by rw [upd_ne (fun z => r2 (by rw [z]; exact h0))]; exact l.f2⟩, r1, r2⟩
  · by_cases c : a = p
    · simp [c] at q
    · simp only [c, if_false] at q
      rw [upd_ne c]
      exact ho a j q
  · by_cases c : j = i
    · subst c
      have hl : j < s.Γ.length := by
        have := (List.getElem?_eq_some_iff.mp q).1
        simpa using this
      simp only [] at q
      rw [List.getElem?_set_self hl] at q
      cases q
      exact ⟨v, hv, .inl h⟩
    · simp only [] at q
      rw [get_set_ne c] at q
      obtain ⟨u, h1, h2⟩ := hs j bv q
      refine ⟨u, h1, h2.elim (fun z => .inl (z.ex ef)) fun z => .inr (z.at ef fun a q => ⟨?_, rfl⟩)⟩
      have : a ≠ p := fun z => by
        subst z
        exact c (Option.some.inj (q.symm.trans hp))
      simp only [this, if_false]; exact q
/-- what a callee starts with -/
abbrev Bg.sub (B : Bg) (F H : Hp) : Bg := ⟨F, H, B.ls, B.tb, []⟩
/-- behind a callee -/
theorem EnvOk.call (I : EnvOk T B F H σ s) {g' : LS} (J : EnvOk T (B.sub F H) F' H' [] ⟨[], g'⟩) : EnvOk T B F' H' σ { s with g := g' } := by
  obtain ⟨own, ho, hs⟩ := I.sl
  have em : ∀ a, (B.sub F H).mut a → B.mut a := fun a h => h
  have nm : ∀ a, B.H0 a = none → ¬ B.mut a := fun a h m => by
    rcases m with ⟨p, hp, rfl | rfl⟩ | m
    · exact (I.ls p hp).2.1 h
    · exact (I.ls p hp).2.2 h
    · exact (I.tb a m).2.1 h
  have k : ∀ a i, own a = some i → F' a = none ∧ H' a = H a := fun a i h => by
    obtain ⟨h1, h2, h3, _⟩ := ho a i h
    refine ⟨?_, ?_⟩
    · cases q : F' a with
      | none => rfl
      | some u =>
        rcases J.nw a (ne_some q) with z | z
        · exact absurd h1 z
        · exact absurd z h2
    · cases q : H a with
      | none => exact absurd q h2
      | some u => exact J.kp a u q (nm a h3)
  have kx : ∀ q ∈ B.px, H' q.1 = some q.2 ∧ F' q.1 = none := fun q hq => by
    obtain ⟨h1, h2, h3⟩ := I.px q hq
    refine ⟨J.kp q.1 q.2 h1 (nm q.1 h3), ?_⟩
    cases r : F' q.1 with
    | none => rfl
    | some u =>
      rcases J.nw q.1 (ne_some r) with z | z
      · exact absurd h2 z
      · have z' : H q.1 = none := z
        rw [h1] at z'; cases z'
  refine ⟨J.fh, I.f0.trans J.f0, fun a q => ?_, fun a u q m => J.kp a u (I.kp a u q m) m, fun a q => J.lv a (I.lv a q), fun P hP => ⟨(J.tb P hP).1, (I.tb P hP).2⟩, I.tq, fun q hq => ⟨(J.ls q hq).1, (I.ls q hq).2⟩, fun q hq => ⟨(kx q hq).1, (kx q hq).2, (I.px q hq).2.2⟩, I.pd, I.len, own, fun a i h => ⟨(k a i h).1, by rw [(k a i h).2]; exact (ho a i h).2.1, (ho a i h).2.2⟩, fun i av h => ?_⟩
  · rcases J.nw a q with z | z
    · exact I.nw a z
    · exact .inr (I.h0none z)
  · obtain ⟨v, h1, h2⟩ := hs i av h
    exact ⟨v, h1, h2.elim (fun z => .inl (z.ex J.f0)) fun z => .inr (z.at J.f0 fun a q => ⟨q, (k a i q).2⟩)⟩
/-- with a thing beside -/
abbrev Bg.with (B : Bg) (p : Addr) (o : HO) : Bg := { B with px := (p, o) :: B.px }
/-- a thing is made -/
theorem EnvOk.pxNew (I : EnvOk T B F H σ s) (hp : H p = none) : EnvOk T (B.with p o) F (upd H p o) σ s := by
  have I1 : EnvOk T B F (upd H p o) σ s := I.grow (Grow.side I.fh (upd_ex hp))
  have nx : ∀ q ∈ B.px, q.1 ≠ p := fun q hq z => by
    have := (I.px q hq).1
    rw [z, hp] at this; cases this
  obtain ⟨own, ho, hs⟩ := I.sl
  refine ⟨I1.fh, I1.f0, I1.nw, I1.kp, I1.lv, I1.tb, I1.tq, I1.ls, fun q hq => ?_, ?_, I1.len, own, fun a i q => ?_, fun i av q => ?_⟩
  · rcases List.mem_cons.mp hq with rfl | hq
    · exact ⟨upd_same, none_of_ex I.fh hp, I.h0none hp⟩
    · exact I1.px q hq
  · show (p :: B.px.map (·.1)).Nodup
    refine List.nodup_cons.mpr ⟨fun z => ?_, I.pd⟩
    obtain ⟨q, hq, e⟩ := List.mem_map.mp z
    exact nx q hq e
  · obtain ⟨a1, a2, a3, a4⟩ := ho a i q
    have ap : a ≠ p := fun z => a2 (by rw [z]; exact hp)
    refine ⟨a1, by rw [upd_ne ap]; exact a2, a3, fun q hq => ?_⟩
    rcases List.mem_cons.mp hq with rfl | hq
    · exact Ne.symm ap
    · exact a4 q hq
  · obtain ⟨v, h1, h2⟩ := hs i av q
    exact ⟨v, h1, h2.imp (fun z => z.bg rfl) fun z => z.at (Ex.refl F) fun a q => ⟨q, upd_ne fun z => (ho a i q).2.1 (by rw [z]; exact hp)⟩⟩
theorem EnvOk.pxNone (I : EnvOk T (B.with p o) F H σ s) : B.H0 p = none := (I.px (p, o) List.mem_cons_self).2.2
/-- it is changed -/
theorem EnvOk.pxUpd (I : EnvOk T (B.with p o) F H σ s) (o' : HO) : EnvOk T (B.with p o') F (upd H p o') σ s := by
  obtain ⟨own, ho, hs⟩ := I.sl
  obtain ⟨hH, hF, h0⟩ := I.px (p, o) List.mem_cons_self
  have np : ∀ a j, own a = some j → a ≠ p := fun a j q => Ne.symm ((ho a j q).2.2.2 (p, o) List.mem_cons_self)
  have nd := List.nodup_cons.mp (show (p :: B.px.map (·.1)).Nodup from I.pd)
  have nx : ∀ q ∈ B.px, q.1 ≠ p := fun q hq z => nd.1 (List.mem_map.mpr ⟨q, hq, z⟩)
  have key : ∀ a, B.H0 a ≠ none → a ≠ p := fun a q z => q (by rw [z]; exact h0)
  refine ⟨fun a u q => ?_, I.f0, I.nw, fun a u q m => ?_, fun a q => ?_, fun P hP => ?_, I.tq, fun q hq => ?_, fun q hq => ?_, I.pd, I.len, own, fun a i q => ?_, fun i av q => ?_⟩
  · rw [upd_ne (fun z => by rw [z, hF] at q; cases q)]; exact I.fh a u q
  · rw [upd_ne (key a (ne_some q))]; exact I.kp a u q m
  · rw [upd_ne (key a q)]; exact I.lv a q
  · obtain ⟨⟨ps, e1, e2⟩, e3⟩ := I.tb P hP
    exact ⟨⟨ps, by rw [upd_ne (key P e3.1)]; exact e1, e2⟩, e3⟩
  · obtain ⟨l, r1, r2⟩ := I.ls q hq
    exact ⟨⟨l.ne, by rw [upd_ne (key _ r1)]; exact l.top, by rw [upd_ne (key _ r2)]; exact l.cel, l.f1, l.f2⟩, r1, r2⟩
  · rcases List.mem_cons.mp hq with rfl | hq
    · exact ⟨upd_same, hF, h0⟩
    · obtain ⟨a1, a2, a3⟩ := I.px q (List.mem_cons_of_mem _ hq)
      exact ⟨by rw [upd_ne (nx q hq)]; exact a1, a2, a3⟩
  · obtain ⟨a1, a2, a3, a4⟩ := ho a i q
    refine ⟨a1, by rw [upd_ne (np a i q)]; exact a2, a3, fun r hr => ?_⟩
    rcases List.mem_cons.mp hr with rfl | hr
    · exact Ne.symm (np a i q)
    · exact a4 r (List.mem_cons_of_mem _ hr)
  · obtain ⟨v, h1, h2⟩ := hs i av q
    exact ⟨v, h1, h2.imp (fun z => z.bg rfl) fun z => z.at (Ex.refl F) fun a q => ⟨q, upd_ne (np a i q)⟩⟩
/-- it is let go of -/
theorem EnvOk.pxDrop (I : EnvOk T (B.with p o) F H σ s) : EnvOk T B F H σ s := by
  obtain ⟨own, ho, hs⟩ := I.sl
  exact ⟨I.fh, I.f0, I.nw, I.kp, I.lv, I.tb, I.tq, I.ls, fun q hq => I.px q (List.mem_cons_of_mem _ hq), (List.nodup_cons.mp (show (p :: B.px.map (·.1)).Nodup from I.pd)).2, I.len, own,
    fun a i q => ⟨(ho a i q).1, (ho a i q).2.1, (ho a i q).2.2.1, fun r hr => (ho a i q).2.2.2 r (List.mem_cons_of_mem _ hr)⟩, fun i av q => let ⟨v, h1, h2⟩ := hs i av q; ⟨v, h1, h2.imp (fun z => z.bg rfl) id⟩⟩
/-- it is frozen -/
theorem EnvOk.pxFrz (I : EnvOk T (B.with p o) F H σ s) : Ex F (upd F p o) ∧ EnvOk T B (upd F p o) H σ s := by
  obtain ⟨own, ho, hs⟩ := I.sl
  obtain ⟨hH, hF, h0⟩ := I.px (p, o) List.mem_cons_self
  have np : ∀ a j, own a = some j → a ≠ p := fun a j q => Ne.symm ((ho a j q).2.2.2 (p, o) List.mem_cons_self)
  have nd := List.nodup_cons.mp (show (p :: B.px.map (·.1)).Nodup from I.pd)
  have nx : ∀ q ∈ B.px, q.1 ≠ p := fun q hq z => nd.1 (List.mem_map.mpr ⟨q, hq, z⟩)
  have key : ∀ a, B.H0 a ≠ none → a ≠ p := fun a q z => q (by rw [z]; exact h0)
  have ef : Ex F (upd F p o) := upd_ex hF
  refine ⟨ef, fun a u q => ?_, I.f0.trans ef, fun a q => ?_, I.kp, I.lv, I.tb, I.tq, fun q hq => ?_, fun q hq => ?_, nd.2, I.len, own, fun a i q => ?_, fun i av q => ?_⟩
  · by_cases c : a = p
    · subst c; rw [upd_same] at q; cases q; exact hH
    · rw [upd_ne c] at q; exact I.fh a u q
  · by_cases c : a = p
    · subst c; exact .inr h0
    · rw [upd_ne c] at q; exact I.nw a q
  · obtain ⟨l, r1, r2⟩ := I.ls q hq
    exact ⟨⟨l.ne, l.top, l.cel, by rw [upd_ne (key _ r1)]; exact l.f1, by rw [upd_ne (key _ r2)]; exact l.f2⟩, r1, r2⟩
  · obtain ⟨a1, a2, a3⟩ := I.px q (List.mem_cons_of_mem _ hq)
    exact ⟨a1, by rw [upd_ne (nx q hq)]; exact a2, a3⟩
  · obtain ⟨a1, a2, a3, a4⟩ := ho a i q
    exact ⟨by rw [upd_ne (np a i q)]; exact a1, a2, a3, fun r hr => a4 r (List.mem_cons_of_mem _ hr)⟩
  · obtain ⟨v, h1, h2⟩ := hs i av q
    exact ⟨v, h1, h2.elim (fun z => .inl ((z.bg rfl).ex ef)) fun z => .inr (z.at ef fun a q => ⟨q, rfl⟩)⟩
/-- slot i takes it over -/
theorem EnvOk.pxOwn (I : EnvOk T (B.with p o) F H σ s) (i : Nat) (h : ∀ own : Addr → Option Nat, own p = some i → Own T own F H i (.ref p) av) :
    EnvOk T B F H (σ.set i (some (.ref p))) { s with Γ := s.Γ.set i (some av) } := by
  obtain ⟨own, ho, hs⟩ := I.sl
  obtain ⟨hH, hF, h0⟩ := I.px (p, o) List.mem_cons_self
  have np : ∀ a j, own a = some j → a ≠ p := fun a j q => Ne.symm ((ho a j q).2.2.2 (p, o) List.mem_cons_self)
  have nd := List.nodup_cons.mp (show (p :: B.px.map (·.1)).Nodup from I.pd)
  have nx : ∀ q ∈ B.px, q.1 ≠ p := fun q hq z => nd.1 (List.mem_map.mpr ⟨q, hq, z⟩)
  refine ⟨I.fh, I.f0, I.nw, I.kp, I.lv, I.tb, I.tq, I.ls, fun q hq => I.px q (List.mem_cons_of_mem _ hq), nd.2, by simp [I.len], fun a => if a = p then some i else if own a = some i then none else own a, fun a j q => ?_, fun j bv q => ?_⟩
  · by_cases c : a = p
    · subst c; exact ⟨hF, ne_some hH, h0, nx⟩
    · simp only [c, if_false] at q
      by_cases c2 : own a = some i
      · simp [c2] at q
      · simp only [c2, if_false] at q
        exact ⟨(ho a j q).1, (ho a j q).2.1, (ho a j q).2.2.1, fun r hr => (ho a j q).2.2.2 r (List.mem_cons_of_mem _ hr)⟩
  · by_cases c : j = i
    · subst c
      have hl : j < s.Γ.length := by
        have := (List.getElem?_eq_some_iff.mp q).1
        simpa using this
      simp only [] at q
      rw [List.getElem?_set_self hl] at q
      cases q
      exact ⟨.ref p, List.getElem?_set_self (by rw [← I.len]; exact hl), .inr (h _ (by simp))⟩
    · simp only [] at q
      rw [get_set_ne c] at q
      obtain ⟨u, h1, h2⟩ := hs j bv q
      refine ⟨u, by rw [get_set_ne c]; exact h1, h2.elim (fun z => .inl (z.bg rfl)) fun z => .inr (z.at (Ex.refl F) fun a q => ⟨?_, rfl⟩)⟩
      have n1 : own a ≠ some i := fun z => c (Option.some.inj (q.symm.trans z))
      rw [if_neg (np a j q), if_neg n1]; exact q
end

/-! ### lists of frozen values -/
inductive FrzAll (T : Cfg) (B : Bg) (F : Hp) : List V → List AV → Prop
  | nil : FrzAll T B F [] []
  | cons {v : V} {vs : List V} {a : AV} {as : List AV} : Frz T B F v a → FrzAll T B F vs as → FrzAll T B F (v :: vs) (a :: as)
section
variable {T : Cfg} {B : Bg} {F F' H : Hp} {g : LS}
theorem FrzAll.ex (e : Ex F F') : ∀ {vs : List V} {as : List AV}, FrzAll T B F vs as → FrzAll T B F' vs as
  | _, _, .nil => .nil
  | _, _, .cons h t => .cons (h.ex e) (FrzAll.ex e t)
theorem FrzAll.bg {B' : Bg} (hb : B'.ls = B.ls) : ∀ {vs : List V} {as : List AV}, FrzAll T B F vs as → FrzAll T B' F vs as
  | _, _, .nil => .nil
  | _, _, .cons h t => .cons (h.bg hb) (FrzAll.bg hb t)
theorem FrzAll.len : ∀ {vs : List V} {as : List AV}, FrzAll T B F vs as → vs.length = as.length
  | _, _, .nil => rfl
  | _, _, .cons _ t => by simp [FrzAll.len t]
theorem FrzAll.get : ∀ {vs : List V} {as : List AV} {i : Nat} {a : AV}, FrzAll T B F vs as → as[i]? = some a → ∃ v, vs[i]? = some v ∧ Frz T B F v a
  | _, _, i, a, .nil, e => by simp at e
  | _, _, 0, a, .cons h _, e => by simp at e; subst e; exact ⟨_, rfl, h⟩
  | _, _, i + 1, a, .cons _ t, e => by
    obtain ⟨v, h1, h2⟩ := FrzAll.get (i := i) (a := a) t (by simpa using e)
    exact ⟨v, by simpa using h1, h2⟩
/-- all of them data -/
def dats : List AV → Option (List PyData)
  | [] => some []
  | .d x :: r => (dats r).map (x :: ·)
  | _ :: _ => none
theorem FrzAll.dats : ∀ {vs : List V} {as : List AV} {ds : List PyData}, FrzAll T B F vs as → dats as = some ds → DtAll T.K F vs ds
  | _, _, ds, .nil, e => by simp [Tk.dats] at e; subst e; exact .nil
  | _, _, ds, .cons (a := a) h t, e => by
    cases a with
    | d x =>
      simp only [Tk.dats, Option.map_eq_some_iff] at e
      obtain ⟨es, e1, rfl⟩ := e
      exact .cons h (FrzAll.dats t e1)
    | _ => simp [Tk.dats] at e

/-- the state at a def's entry -/
def enter (n : Nat) (as : List AV) (g : LS) : S := ⟨as.map some ++ List.replicate (n - as.length) none, g⟩
theorem start_ok {N : List Str} {vs : List V} {as : List AV} (J : EnvOk T B F H [] ⟨[], g⟩) (h : FrzAll T B F vs as) (hl : vs.length ≤ N.length) : EnvOk T B F H (L2.start N vs) (enter N.length as g) := by
  have e := h.len
  refine ⟨J.fh, J.f0, J.nw, J.kp, J.lv, J.tb, J.tq, J.ls, J.px, J.pd, ?_, fun _ => none, (fun a i q => nomatch q), fun i av q => ?_⟩
  · unfold enter L2.start
    simp [e]
  · unfold enter at q
    simp only [] at q
    by_cases c : i < as.length
    · rw [List.getElem?_append_left (by simpa using c), List.getElem?_map] at q
      cases r : as[i]? with
      | none => rw [r] at q; cases q
      | some a =>
        rw [r] at q
        cases q
        obtain ⟨v, h1, h2⟩ := h.get r
        refine ⟨v, ?_, .inl h2⟩
        unfold L2.start
        rw [List.getElem?_append_left (by simp [e]; exact c), List.getElem?_map, h1]
        rfl
    · rw [List.getElem?_append_right (by simpa using Nat.le_of_not_lt c), List.getElem?_replicate] at q
      split at q <;> cases q
end

/-! ### denotations, judgements -/
abbrev FE := S → Option (AV × S)
abbrev FB := S → Option (Bool × S)
abbrev FA := S → Option (List AV × S)
inductive Out where
  | nx (s : S)
  | rt (v : AV) (s : S)
  | bk (s : S)
  | ct (s : S)
abbrev FS := S → Option Out

section
variable (T : Cfg)
def tE (f : FE) : TE := fun σ H Q => ∃ B F s r s', EnvOk T B F H σ s ∧ f s = some (r, s') ∧ ∀ v F' H', Ex F F' → EnvOk T B F' H' σ s' → Frz T B F' v r → Q v H'
def tT (f : FB) : TT := fun σ H Q => ∃ B F s r s', EnvOk T B F H σ s ∧ f s = some (r, s') ∧ ∀ F' H', Ex F F' → EnvOk T B F' H' σ s' → Q r H'
def tA (f : FA) : TA := fun σ H Q => ∃ B F s r s', EnvOk T B F H σ s ∧ f s = some (r, s') ∧ ∀ vs F' H', Ex F F' → EnvOk T B F' H' σ s' → FrzAll T B F' vs r → Q vs H'
def OutOk (B : Bg) (F : Hp) (D : Ends) : Out → Prop
  | .nx s' => ∀ σ' F' H', Ex F F' → EnvOk T B F' H' σ' s' → D.nx σ' H'
  | .rt r s' => ∀ v σ' F' H', Ex F F' → EnvOk T B F' H' σ' s' → Frz T B F' v r → D.rt v H'
  | .bk s' => ∀ σ' F' H', Ex F F' → EnvOk T B F' H' σ' s' → D.bk σ' H'
  | .ct s' => ∀ σ' F' H', Ex F F' → EnvOk T B F' H' σ' s' → D.ct σ' H'
def tS (f : FS) : TS := fun D σ H => ∃ B F s o, EnvOk T B F H σ s ∧ f s = some o ∧ OutOk T B F D o
end
abbrev Cx.T (X : Cx) (C : Cc) : Cfg := ⟨X.K, X.prog, X.w, C⟩
abbrev JE (X : Cx) (C : Cc) (e : Expr) (f : FE) : Prop := PE X e (tE (Cx.T X C) f)
abbrev JT (X : Cx) (C : Cc) (e : Expr) (f : FB) : Prop := PT X e (tT (Cx.T X C) f)
abbrev JW (X : Cx) (C : Cc) (e : Expr) (f : FB) : Prop := PW X e (tT (Cx.T X C) f)
abbrev JA (X : Cx) (C : Cc) (es : List Expr) (f : FA) : Prop := PA X es (tA (Cx.T X C) f)
abbrev JS (X : Cx) (C : Cc) (st : Stmt) (f : FS) : Prop := PS X st (tS (Cx.T X C) f)
abbrev JSs (X : Cx) (C : Cc) (st : List Stmt) (f : FS) : Prop := PSs X st (tS (Cx.T X C) f)

section
variable {X : Cx} {C : Cc}
theorem pe_sub_ {e : Expr} {t t' : TE} (h : PE X e t) (q : ∀ σ H Q, t' σ H Q → t σ H Q) : PE X e t' := ⟨fun pins s σ H Q I r => h.run pins s σ H Q I (q σ H Q r)⟩
theorem pt_sub_ {e : Expr} {t t' : TT} (h : PT X e t) (q : ∀ σ H Q, t' σ H Q → t σ H Q) : PT X e t' := ⟨fun pins s σ H Q I r => h.run pins s σ H Q I (q σ H Q r)⟩
theorem pw_sub_ {e : Expr} {t t' : TT} (h : PW X e t) (q : ∀ σ H Q, t' σ H Q → t σ H Q) : PW X e t' := ⟨fun whole pins s σ H Q I r => h.run whole pins s σ H Q I (q σ H Q r)⟩
theorem pa_sub_ {es : List Expr} {t t' : TA} (h : PA X es t) (q : ∀ σ H Q, t' σ H Q → t σ H Q) : PA X es t' := ⟨fun pos pins s σ H Q I r => h.run pos pins s σ H Q I (q σ H Q r)⟩
theorem ps_sub_ {e : Stmt} {t t' : TS} (h : PS X e t) (q : ∀ D σ H, t' D σ H → t D σ H) : PS X e t' := ⟨fun pins s σ H D I r => h.run pins s σ H D I (q D σ H r)⟩
theorem pss_sub_ {e : List Stmt} {t t' : TS} (h : PSs X e t) (q : ∀ D σ H, t' D σ H → t D σ H) : PSs X e t' := ⟨fun pins s σ H D I r => h.run pins s σ H D I (q D σ H r)⟩
end
end Tk

set_option Elab.async false
set_option linter.all false
set_option maxRecDepth 100000
set_option maxHeartbeats 4000000
/-! Tk, part B: expressions. -/
namespace Tk
open PySem PySem.Spec PyProof.Rows L2
open Evl (Ex ex_l ex_t fresh_back)

/-! ### names, constants -/
def fVar (i : Nat) : FE := fun s => match s.Γ[i]? with
  | some (some (.ml xs)) => some (.d (.list xs), { s with Γ := s.Γ.set i (some (.d (.list xs))) })
  | some (some (.md kvs)) => some (.fd kvs, { s with Γ := s.Γ.set i (some (.fd kvs)) })
  | some (some (.mt kvs)) => some (.ft kvs, { s with Γ := s.Γ.set i (some (.ft kvs)) })
  | some (some (.ms _)) => none
  | some (some a) => some (a, s)
  | some none => none
  | none => none
def fC (x : PyData) : FE := fun s => some (.d x, s)
section
variable {X : Cx} {C : Cc} {x : Str} {pos : Pos}
theorem je_of_var {e : Expr} {i : Nat} (h : PE X e (tVar i)) : JE X C e (fVar i) := by
  refine pe_sub_ h fun σ H Q q => ?_
  obtain ⟨B, F, s, r, s', I, hf, k⟩ := q
  obtain ⟨own, ho, hs⟩ := id I.sl
  unfold fVar at hf
  cases e : s.Γ[i]? with
  | none => rw [e] at hf; cases hf
  | some o =>
    rw [e] at hf
    cases o with
    | none => cases hf
    | some a =>
      obtain ⟨v, h1, h2⟩ := hs i a e
      refine ⟨v, h1, ?_⟩
      have same : ∀ {b : AV}, some (b, s) = some (r, s') → Frz (Cx.T X C) B F v b → Q v H := fun {b} e z => by
        cases e
        exact k v F H (Ex.refl F) I z
      cases a with
      | d y => exact same hf (h2.resolve_right fun z => z)
      | pr a b c d f => exact same hf (h2.resolve_right fun z => z)
      | ft y => exact same hf (h2.resolve_right fun z => z)
      | fd y => exact same hf (h2.resolve_right fun z => z)
      | fn y => exact same hf (h2.resolve_right fun z => z)
      | lp => exact same hf (h2.resolve_right fun z => z)
      | ms y => cases hf
      | ml xs =>
        obtain ⟨p, vs, rfl, o1, o2, o3⟩ := h2.resolve_left (fun z => z)
        cases hf
        have ef := (EnvOk.frzAt I ho hs h1 o1 o2 (av' := .d (.list xs)) (Dt.lst upd_same (dtAll_ex (upd_ex (ho p i o1).1) _ _ o3)))
        exact k _ _ H ef.1 ef.2 (Dt.lst upd_same (dtAll_ex (upd_ex (ho p i o1).1) _ _ o3))
      | md xs =>
        obtain ⟨p, vs, rfl, o1, o2, o3⟩ := h2.resolve_left (fun z => z)
        cases hf
        have z : Frz (Cx.T X C) B (upd F p (DKO X.prog X.w p vs)) (.ref p) (.fd xs) := ⟨p, vs, rfl, upd_same, o3.ex (upd_ex (ho p i o1).1)⟩
        have ef := (EnvOk.frzAt I ho hs h1 o1 o2 z)
        exact k _ _ H ef.1 ef.2 z
      | mt xs =>
        obtain ⟨p, vs, rfl, o1, o2, o3⟩ := h2.resolve_left (fun z => z)
        cases hf
        have z : Frz (Cx.T X C) B (upd F p (.dK vs)) (.ref p) (.ft xs) := ⟨p, vs, rfl, upd_same, o3.ex (upd_ex (ho p i o1).1)⟩
        have ef := (EnvOk.frzAt I ho hs h1 o1 o2 z)
        exact k _ _ H ef.1 ef.2 z
/-- a local's value -/
theorem je_var (i : Nat) (hN : X.N[i]? = some x := by rfl) (hv : Vis X.env.scope x := by first | exact Or.inl rfl | exact Or.inr (Or.inl rfl) | exact Or.inr (Or.inr rfl)) (hd : (x == ("__debug__" : Str)) = false := by decide)
    (hcd : (x == ("__classdict__" : Str)) = false := by decide) : JE X C (.Name x pos) (fVar i) := je_of_var (pe_var hN hv hd hcd)
theorem je_c {e : Expr} {v : V} {d : PyData} (h : PE X e (tC v)) (hv : ∀ F, Dt X.K F v d) : JE X C e (fC d) := by
  refine pe_sub_ h fun σ H Q q => ?_
  obtain ⟨B, F, s, r, s', I, hf, k⟩ := q
  cases hf
  exact k v F H (Ex.refl F) I (hv F)
theorem je_int {i j} : JE X C (.Constant (.int i) j pos) (fC (.int i)) := je_c pe_int fun _ => .int i
theorem je_bl {b j} : JE X C (.Constant (.bool b) j pos) (fC (.bool b)) := je_c pe_bl fun _ => .bl b
theorem je_non {j} : JE X C (.Constant .none j pos) (fC .none) := je_c pe_non fun _ => .non
theorem je_str {z j} : JE X C (.Constant (.str z) j pos) (fC (.str z)) := je_c pe_str fun _ => .str z
/-- a module's constant -/
theorem je_glob {v : V} {u : Value} {d : PyData} (hg : Gl X x) (hm : X.mg x = some u) (r : RelV v u) (hv : ∀ F, Dt X.K F v d) (hd : (x == ("__debug__" : Str)) = false := by decide) : JE X C (.Name x pos) (fC d) := je_c (pe_glob hg hm r hd) hv
def fFn (f : Addr) : FE := fun s => some (.fn f, s)
/-- a def as a value -/
theorem je_fn {f : Addr} (hg : Gl X x) (hm : X.mg x = some (.ref f)) (hd : (x == ("__debug__" : Str)) = false := by decide) : JE X C (.Name x pos) (fFn f) := by
  refine pe_sub_ (pe_glob (v := .ref f) hg hm rfl hd) fun σ H Q q => ?_
  obtain ⟨B, F, s, r, s', I, hf, k⟩ := q
  cases hf
  exact k (.ref f) F H (Ex.refl F) I rfl
end

/-! ### operators by values -/
def rD (T : Cfg) (fo : AV → AV → Option AV) : R2 := fun x y H Q => ∃ B F a b r, Ex F H ∧ Frz T B F x a ∧ Frz T B F y b ∧ fo a b = some r ∧ ∀ v F' H', Grow F H F' H' → Frz T B F' v r → Q v H'
def f2 (fo : AV → AV → Option AV) (fa fb : FE) : FE := fun s => match fa s with
  | some (x, s1) => (match fb s1 with
    | some (y, s2) => (match fo x y with
      | some r => some (r, s2)
      | none => none)
    | none => none)
  | none => none
def f1 (fo : AV → Option AV) (fa : FE) : FE := fun s => match fa s with
  | some (x, s1) => (match fo x with
      | some r => some (r, s1)
      | none => none)
  | none => none
section
variable {T : Cfg} {fo : AV → AV → Option AV} {fa fb : FE} {σ : L2.St} {H : Hp} {Q : VK}
theorem tE_f2 (h : tE T (f2 fo fa fb) σ H Q) : tOp (rD T fo) (tE T fa) (tE T fb) σ H Q := by
  obtain ⟨B, F, s, r, s', I, hf, k⟩ := h
  unfold f2 at hf
  cases h1 : fa s with
  | none => rw [h1] at hf; cases hf
  | some p1 =>
    obtain ⟨x, s1⟩ := p1
    rw [h1] at hf
    cases h2 : fb s1 with
    | none => simp only [h2] at hf; cases hf
    | some p2 =>
      obtain ⟨y, s2⟩ := p2
      simp only [h2] at hf
      cases h3 : fo x y with
      | none => simp only [h3] at hf; cases hf
      | some r0 =>
        simp only [h3] at hf
        cases hf
        exact ⟨B, F, s, x, s1, I, h1, fun v F1 H1 e1 I1 z1 => ⟨B, F1, s1, y, _, I1, h2, fun u F2 H2 e2 I2 z2 =>
          ⟨B, F2, x, y, _, I2.fh, z1.ex e2, z2, h3, fun w F' H' G z => k w F' H' ((e1.trans e2).trans G.f) (I2.grow G) z⟩⟩⟩
theorem tE_f1 {fo : AV → Option AV} (h : tE T (f1 fo fa) σ H Q) : tE T fa σ H fun x H1 => ∃ B F a r, Ex F H1 ∧ Frz T B F x a ∧ fo a = some r ∧ ∀ v F' H', Grow F H1 F' H' → Frz T B F' v r → Q v H' := by
  obtain ⟨B, F, s, r, s', I, hf, k⟩ := h
  unfold f1 at hf
  cases h1 : fa s with
  | none => rw [h1] at hf; cases hf
  | some p1 =>
    obtain ⟨x, s1⟩ := p1
    rw [h1] at hf
    cases h3 : fo x with
    | none => simp only [h3] at hf; cases hf
    | some r0 =>
      simp only [h3] at hf
      cases hf
      exact ⟨B, F, s, x, _, I, h1, fun v F1 H1 e1 I1 z1 => ⟨B, F1, x, _, I1.fh, z1, h3, fun w F' H' G z => k w F' H' (e1.trans G.f) (I1.grow G) z⟩⟩
end
section
variable {X : Cx} {C : Cc} {a b c : Expr} {fa fb fc : FE} {pos : Pos} {fo fo' : AV → AV → Option AV}
theorem je_op {op : Operator} (ho : OpR X (binaryOp op) (rD (Cx.T X C) fo)) (ha : JE X C a fa) (hb : JE X C b fb) : JE X C (.BinOp a op b pos) (f2 fo fa fb) :=
  pe_sub_ (pe_op ho ha hb) fun _ _ _ h => tE_f2 h
theorem je_cmp {op : CmpOp} (ho : OpR X (compareOp op) (rD (Cx.T X C) fo)) (ha : JE X C a fa) (hb : JE X C b fb) (hm : behindInMarks op b = false := by first | exact nomark _ | rfl) : JE X C (.Compare a [op] [b] pos) (f2 fo fa fb) :=
  pe_sub_ (pe_cmpR ho ha hb hm) fun _ _ _ h => tE_f2 h
def fChain (fo fo' : AV → AV → Option AV) (fa fb fc : FE) : FE := fun s => match fa s with
  | some (x, s1) => (match fb s1 with
    | some (y, s2) => (match fo x y with
      | some (.d (.bool true)) => (match fc s2 with
        | some (z, s3) => (match fo' y z with
          | some r => some (r, s3)
          | none => none)
        | none => none)
      | some (.d (.bool false)) => some (.d (.bool false), s2)
      | _ => none)
    | none => none)
  | none => none
theorem je_chain {op op' : CmpOp} (ho : OpR X (compareOp op) (rD (Cx.T X C) fo)) (ho' : OpR X (compareOp op') (rD (Cx.T X C) fo')) (ha : JE X C a fa) (hb : JE X C b fb) (hc : JE X C c fc)
    (hm : lastMarks [op, op'] [b, c] = false := by with_unfolding_all rfl) : JE X C (.Compare a [op, op'] [b, c] pos) (fChain fo fo' fa fb fc) := by
  refine pe_sub_ (pe_chain ho ho' ha hb hc hm) fun σ H Q h => ?_
  obtain ⟨B, F, s, r, s', I, hf, k⟩ := h
  unfold fChain at hf
  cases h1 : fa s with
  | none => rw [h1] at hf; cases hf
  | some p1 =>
    obtain ⟨x, s1⟩ := p1
    rw [h1] at hf
    cases h2 : fb s1 with
    | none => simp only [h2] at hf; cases hf
    | some p2 =>
      obtain ⟨y, s2⟩ := p2
      simp only [h2] at hf
      refine ⟨B, F, s, x, s1, I, h1, fun v F1 H1 e1 I1 z1 => ⟨B, F1, s1, y, s2, I1, h2, fun u F2 H2 e2 I2 z2 => ?_⟩⟩
      cases h3 : fo x y with
      | none => simp only [h3] at hf; cases hf
      | some r0 =>
        refine ⟨B, F2, x, y, r0, I2.fh, z1.ex e2, z2, h3, fun w F3 H3 G z3 => ?_⟩
        simp only [h3] at hf
        have I3 := I2.grow G
        cases r0 with
        | d y0 =>
          cases y0 with
          | bool bb =>
            cases z3
            refine ⟨bb, rfl, ?_⟩
            cases bb with
            | true =>
              simp only [if_true] at hf ⊢
              cases h4 : fc s2 with
              | none => simp only [h4] at hf; cases hf
              | some p4 =>
                obtain ⟨z, s3⟩ := p4
                simp only [h4] at hf
                cases h5 : fo' y z with
                | none => simp only [h5] at hf; cases hf
                | some r5 =>
                  simp only [h5] at hf
                  cases hf
                  exact ⟨B, F3, s2, z, _, I3, h4, fun t F4 H4 e4 I4 z4 => ⟨B, F4, y, z, _, I4.fh, (z2.ex G.f).ex e4, z4, h5, fun w' F' H' G' z' => k w' F' H' ((((e1.trans e2).trans G.f).trans e4).trans G'.f) (I4.grow G') z'⟩⟩
            | false =>
              simp only [Bool.false_eq_true, if_false] at hf ⊢
              cases hf
              exact k _ F3 H3 ((e1.trans e2).trans G.f) I3 (.bl false)
          | _ => cases hf
        | _ => cases hf
end

/-! ### the operators -/
def dAdd : AV → AV → Option AV
  | .d (.int i), .d (.int j) => some (.d (.int (i + j)))
  | .d (.tuple a), .d (.tuple b) => if a.length + b.length ≤ sizeLine then some (.d (.tuple (a ++ b))) else none
  | .d (.list a), .d (.list b) => if a.length + b.length ≤ sizeLine then some (.d (.list (a ++ b))) else none
  | _, _ => none
def dSub : AV → AV → Option AV
  | .d (.int i), .d (.int j) => some (.d (.int (i - j)))
  | _, _ => none
def dMul : AV → AV → Option AV
  | .d (.int i), .d (.int j) => if (-(2 ^ 64) < i ∧ i < 2 ^ 64) ∨ (-(2 ^ 64) < j ∧ j < 2 ^ 64) then some (.d (.int (i * j))) else none
  | _, _ => none
def dMod : AV → AV → Option AV
  | .d (.int i), .d (.int j) => if j ≠ 0 then some (.d (.int (i.fmod j))) else none
  | _, _ => none
def dDiv : AV → AV → Option AV
  | .d (.int i), .d (.int j) => if j ≠ 0 ∧ j.natAbs < 1073741824 then some (.d (.int (i.fdiv j))) else none
  | _, _ => none
def dPow : AV → AV → Option AV
  | .d (.int i), .d (.int j) => if 0 ≤ j ∧ j ≤ 1000000 ∧ i.natAbs < 2 ^ 64 then some (.d (.int (i ^ j.toNat))) else none
  | _, _ => none
def dCmp (p : Int → Int → Bool) : AV → AV → Option AV
  | .d (.int i), .d (.int j) => some (.d (.bool (p i j)))
  | _, _ => none
abbrev dLt := dCmp fun i j => decide (i < j)
abbrev dLe := dCmp fun i j => decide (i ≤ j)
abbrev dGt := dCmp fun i j => decide (j < i)
abbrev dGe := dCmp fun i j => decide (j ≤ i)
def dEq : AV → AV → Option AV
  | .d x, .d y => if SeqAt.shaped x = true ∧ SeqAt.shaped y = true then some (.d (.bool (PyData.eqv x y))) else none
  | _, _ => none
def dNe : AV → AV → Option AV
  | .d x, .d y => if SeqAt.shaped x = true ∧ SeqAt.shaped y = true then some (.d (.bool (!PyData.eqv x y))) else none
  | _, _ => none
def dIn : AV → AV → Option AV
  | .d x, .d (.list ys) => if SeqAt.shaped x = true ∧ SeqAt.shaped (.list ys) = true then some (.d (.bool (ys.any fun z => PyData.eqv z x))) else none
  | .d x, .d (.tuple ys) => if SeqAt.shaped x = true ∧ SeqAt.shaped (.list ys) = true then some (.d (.bool (ys.any fun z => PyData.eqv z x))) else none
  | _, _ => none
def dNotIn : AV → AV → Option AV
  | .d x, .d (.list ys) => if SeqAt.shaped x = true ∧ SeqAt.shaped (.list ys) = true then some (.d (.bool (!ys.any fun z => PyData.eqv z x))) else none
  | .d x, .d (.tuple ys) => if SeqAt.shaped x = true ∧ SeqAt.shaped (.list ys) = true then some (.d (.bool (!ys.any fun z => PyData.eqv z x))) else none
  | _, _ => none
def dIs : AV → AV → Option AV
  | .d .none, .d .none => some (.d (.bool true))
  | .ms _, _ => none
  | .ml _, _ => none
  | .md _, _ => none
  | .mt _, _ => none
  | _, .d .none => some (.d (.bool false))
  | _, _ => none
def dIsNot : AV → AV → Option AV
  | .d .none, .d .none => some (.d (.bool false))
  | .ms _, _ => none
  | .ml _, _ => none
  | .md _, _ => none
  | .mt _, _ => none
  | _, .d .none => some (.d (.bool true))
  | _, _ => none
def dIx : AV → AV → Option AV
  | .d (.tuple xs), .d (.int i) => (atI xs i).map .d
  | .d (.list xs), .d (.int i) => (atI xs i).map .d
  | _, _ => none

section
variable {X : Cx} {C : Cc}
theorem dt_int {K : PySem.W.Frag} {F : Hp} {v : V} {i : Int} (h : Dt K F v (.int i)) : v = .int i := by cases h; rfl
theorem dt_atI {K : PySem.W.Frag} {F : Hp} {vs : List V} {ds : List PyData} {i : Int} {d : PyData} (h : DtAll K F vs ds) (e : atI ds i = some d) : ∃ v, atI vs i = some v ∧ Dt K F v d := by
  unfold atI at e ⊢
  rw [h.len]
  cases q : ixN ds.length i with
  | none => rw [q] at e; cases e
  | some j =>
    rw [q] at e
    exact DtAll.get h e
/-- an operator of two ints -/
theorem op_ints {f : Value → Value → Sem Value} {fo : AV → AV → Option AV} {Cd : Int → Int → Prop} {g : Int → Int → V} (h : OpR X f (rI Cd g))
    (hf : ∀ a b r, fo a b = some r → ∃ i j, a = .d (.int i) ∧ b = .d (.int j) ∧ Cd i j ∧ ∀ T B F, Frz T B F (g i j) r) : OpR X f (rD (Cx.T X C) fo) := by
  intro pins s σ H x y v u Q I rx ry q
  obtain ⟨B, F, a, b, r, ef, za, zb, e, k⟩ := q
  obtain ⟨i, j, rfl, rfl, hc, hz⟩ := hf a b r e
  exact h pins s σ H x y v u Q I rx ry ⟨i, j, dt_int za, dt_int zb, hc, k _ F H (Grow.refl ef) (hz _ _ _)⟩
theorem op_ints0 {f : Value → Value → Sem Value} {fo : AV → AV → Option AV} {g : Int → Int → V} (h : OpR X f (rI0 g))
    (hf : ∀ a b r, fo a b = some r → ∃ i j, a = .d (.int i) ∧ b = .d (.int j) ∧ ∀ T B F, Frz T B F (g i j) r) : OpR X f (rD (Cx.T X C) fo) := by
  intro pins s σ H x y v u Q I rx ry q
  obtain ⟨B, F, a, b, r, ef, za, zb, e, k⟩ := q
  obtain ⟨i, j, rfl, rfl, hz⟩ := hf a b r e
  exact h pins s σ H x y v u Q I rx ry ⟨i, j, dt_int za, dt_int zb, k _ F H (Grow.refl ef) (hz _ _ _)⟩
theorem jo_sub : OpR X (binaryOp .Sub) (rD (Cx.T X C) dSub) := op_ints0 op_sub fun a b r e => by
  unfold dSub at e
  split at e
  · cases e; exact ⟨_, _, rfl, rfl, fun _ _ _ => .int _⟩
  · cases e
theorem jo_mul : OpR X (binaryOp .Mult) (rD (Cx.T X C) dMul) := op_ints op_mul fun a b r e => by
  unfold dMul at e
  split at e
  · split at e
    · rename_i h; cases e; exact ⟨_, _, rfl, rfl, h, fun _ _ _ => .int _⟩
    · cases e
  · cases e
theorem jo_mod : OpR X (binaryOp .Mod) (rD (Cx.T X C) dMod) := op_ints op_modN fun a b r e => by
  unfold dMod at e
  split at e
  · split at e
    · rename_i h; cases e; exact ⟨_, _, rfl, rfl, h, fun _ _ _ => .int _⟩
    · cases e
  · cases e
theorem jo_div : OpR X (binaryOp .FloorDiv) (rD (Cx.T X C) dDiv) := op_ints op_fdivN fun a b r e => by
  unfold dDiv at e
  split at e
  · split at e
    · rename_i h; cases e; exact ⟨_, _, rfl, rfl, h, fun _ _ _ => .int _⟩
    · cases e
  · cases e
theorem jo_pow : OpR X (binaryOp .Pow) (rD (Cx.T X C) dPow) := op_ints op_pow fun a b r e => by
  unfold dPow at e
  split at e
  · split at e
    · rename_i h; cases e; exact ⟨_, _, rfl, rfl, h, fun _ _ _ => .int _⟩
    · cases e
  · cases e
theorem jo_cmp {op : CmpOp} {p : Int → Int → Bool} (h : OpR X (compareOp op) (rI0 fun i j => .bl (p i j))) : OpR X (compareOp op) (rD (Cx.T X C) (dCmp p)) := op_ints0 h fun a b r e => by
  unfold dCmp at e
  split at e
  · cases e; exact ⟨_, _, rfl, rfl, fun _ _ _ => .bl _⟩
  · cases e
theorem jo_lt : OpR X (compareOp .Lt) (rD (Cx.T X C) dLt) := jo_cmp op_lt
theorem jo_le : OpR X (compareOp .LtE) (rD (Cx.T X C) dLe) := jo_cmp op_le
theorem jo_gt : OpR X (compareOp .Gt) (rD (Cx.T X C) dGt) := jo_cmp op_gt
theorem jo_ge : OpR X (compareOp .GtE) (rD (Cx.T X C) dGe) := jo_cmp op_ge
theorem jo_add : OpR X (binaryOp .Add) (rD (Cx.T X C) dAdd) := by
  intro pins s σ H x y v u Q I rx ry q
  obtain ⟨B, F, a, b, r, ef, za, zb, e, k⟩ := q
  unfold dAdd at e
  split at e
  · rename_i i j
    cases e
    exact op_add pins s σ H x y v u Q I rx ry ⟨i, j, dt_int za, dt_int zb, k _ F H (Grow.refl ef) (.int _)⟩
  · rename_i xs ys
    split at e
    · rename_i hl
      cases e
      cases za with
      | tup hx ax =>
        cases zb with
        | tup hy ay =>
          have lx := ax.len
          have ly := ay.len
          refine op_catA pins s σ H _ _ v u Q I rx ry ⟨_, _, _, _, rfl, rfl, ex_t ef hx, ex_t ef hy, by omega, fun z => ?_, fun z1 z2 => ?_, fun z1 z2 p hp => ?_⟩
          · subst z
            cases ax
            exact k _ F H (Grow.refl ef) (.tup hy ay)
          · subst z2
            cases ay
            rw [List.append_nil] at k
            exact k _ F H (Grow.refl ef) (.tup hx ax)
          · exact (fun G => k _ _ _ G (.tup (SqT.of upd_same) (Tk.DtAll.app (dtAll_ex G.f _ _ ax) (dtAll_ex G.f _ _ ay)))) (Grow.new ef hp)
    · cases e
  · rename_i xs ys
    split at e
    · rename_i hl
      cases e
      cases za with
      | lst hx ax =>
        cases zb with
        | lst hy ay =>
          have lx := ax.len
          have ly := ay.len
          refine op_cat pins s σ H _ _ v u Q I rx ry ⟨_, _, _, _, rfl, rfl, ef _ _ hx, ef _ _ hy, by omega, fun p hp => ?_⟩
          exact (fun G => k _ _ _ G (.lst upd_same (Tk.DtAll.app (dtAll_ex G.f _ _ ax) (dtAll_ex G.f _ _ ay)))) (Grow.new ef hp)
    · cases e
  · cases e
theorem jo_eq (hu : X.A.units + 64 < cLine) : OpR X (compareOp .Eq) (rD (Cx.T X C) dEq) := by
  intro pins s σ H x y v u Q I rx ry q
  obtain ⟨B, F, a, b, r, ef, za, zb, e, k⟩ := q
  unfold dEq at e
  split at e
  · split at e
    · rename_i h
      cases e
      exact op_eqD hu pins s σ H x y v u Q I rx ry ⟨_, _, dt_dp ef _ _ za, dt_dp ef _ _ zb, h.1, h.2, k _ F H (Grow.refl ef) (.bl _)⟩
    · cases e
  · cases e
theorem jo_ne (hu : X.A.units + 64 < cLine) : OpR X (compareOp .NotEq) (rD (Cx.T X C) dNe) := by
  intro pins s σ H x y v u Q I rx ry q
  obtain ⟨B, F, a, b, r, ef, za, zb, e, k⟩ := q
  unfold dNe at e
  split at e
  · split at e
    · rename_i h
      cases e
      exact op_neD hu pins s σ H x y v u Q I rx ry ⟨_, _, dt_dp ef _ _ za, dt_dp ef _ _ zb, h.1, h.2, k _ F H (Grow.refl ef) (.bl _)⟩
    · cases e
  · cases e
theorem jo_in (hu : X.A.units + 65 < cLine) : OpR X (compareOp .In) (rD (Cx.T X C) dIn) := by
  intro pins s σ H x y v u Q I rx ry q
  obtain ⟨B, F, a, b, r, ef, za, zb, e, k⟩ := q
  unfold dIn at e
  split at e
  · split at e
    · rename_i h
      cases e
      exact op_inD hu pins s σ H x y v u Q I rx ry ⟨_, _, dt_dp ef _ _ za, dt_dp ef _ _ zb, h.1, h.2, k _ F H (Grow.refl ef) (.bl _)⟩
    · cases e
  · split at e
    · rename_i d ds h
      cases e
      obtain ⟨as, r1⟩ := Dp.reads I d x v (dt_dp ef _ _ za) rx
      obtain ⟨bs, r2⟩ := Dp.reads I (.tuple ds) y u (dt_dp ef _ _ zb) ry
      have hd : PyData.canLayAll0 ds = true := SeqAt.canLay_of_shaped h.2
      refine SeqAt.in_tuple_reads r2 r1 hd (SeqAt.canLay_of_shaped h.1) ?_ ⟨.bl _, H, I, rfl, k _ F H (Grow.refl ef) (.bl _)⟩
      first | exact room_in_shaped h.1 hu | (have := room_in_shaped (A := X.A) (xs := ds) h.1 hu; exact this)
    · cases e
  · cases e
theorem jo_notIn (hu : X.A.units + 65 < cLine) : OpR X (compareOp .NotIn) (rD (Cx.T X C) dNotIn) := by
  intro pins s σ H x y v u Q I rx ry q
  obtain ⟨B, F, a, b, r, ef, za, zb, e, k⟩ := q
  unfold dNotIn at e
  split at e
  · split at e
    · rename_i h
      cases e
      exact op_notInD hu pins s σ H x y v u Q I rx ry ⟨_, _, dt_dp ef _ _ za, dt_dp ef _ _ zb, h.1, h.2, k _ F H (Grow.refl ef) (.bl _)⟩
    · cases e
  · split at e
    · rename_i d ds h
      cases e
      obtain ⟨as, r1⟩ := Dp.reads I d x v (dt_dp ef _ _ za) rx
      obtain ⟨bs, r2⟩ := Dp.reads I (.tuple ds) y u (dt_dp ef _ _ zb) ry
      have hd : PyData.canLayAll0 ds = true := SeqAt.canLay_of_shaped h.2
      refine SeqAt.notIn_tuple_reads r2 r1 hd (SeqAt.canLay_of_shaped h.1) ?_ ⟨.bl _, H, I, rfl, k _ F H (Grow.refl ef) (.bl _)⟩
      first | exact room_in_shaped h.1 hu | (have := room_in_shaped (A := X.A) (xs := ds) h.1 hu; exact this)
    · cases e
  · cases e
theorem frz_non {T : Cfg} {B : Bg} {F : Hp} {x : V} {a : AV} (h : Frz T B F x a) : (x = .non ↔ a = .d .none) := by
  constructor
  · rintro rfl
    cases a with
    | d y => cases h; rfl
    | pr _ _ _ _ _ => obtain ⟨_, _, _, h, _⟩ := h; cases h
    | ft _ => obtain ⟨_, _, h, _⟩ := h; cases h
    | fd _ => obtain ⟨_, _, h, _⟩ := h; cases h
    | fn _ => cases h
    | lp => obtain ⟨_, _, h⟩ := h; cases h
    | ml _ => exact h.elim
    | ms _ => exact h.elim
    | md _ => exact h.elim
    | mt _ => exact h.elim
  · rintro rfl; cases h; rfl
theorem dIs_some {a b r : AV} (e : dIs a b = some r) : b = .d .none ∧ ∃ k, r = .d (.bool k) ∧ (k = true ↔ a = .d .none) := by
  unfold dIs at e
  split at e <;> first
    | (cases e; exact ⟨rfl, true, rfl, by simp⟩)
    | (cases e; done)
    | skip
  rename_i h _ _ _ _
  cases e
  exact ⟨rfl, false, rfl, by simp; intro z; exact h z⟩
theorem dIsNot_some {a b r : AV} (e : dIsNot a b = some r) : b = .d .none ∧ ∃ k, r = .d (.bool k) ∧ (k = false ↔ a = .d .none) := by
  unfold dIsNot at e
  split at e <;> first
    | (cases e; exact ⟨rfl, false, rfl, by simp⟩)
    | (cases e; done)
    | skip
  rename_i h _ _ _ _
  cases e
  exact ⟨rfl, true, rfl, by simp; intro z; exact h z⟩
theorem jo_is : OpR X (compareOp .Is) (rD (Cx.T X C) dIs) := by
  intro pins s σ H x y v u Q I rx ry q
  obtain ⟨B, F, a, b, r, ef, za, zb, e, k⟩ := q
  obtain ⟨rfl, kk, rfl, hk⟩ := dIs_some e
  refine op_isN pins s σ H x y v u Q I rx ry ⟨(frz_non zb).mpr rfl, k _ F H (Grow.refl ef) ?_⟩
  have e2 : decide (x = .non) = kk := by
    cases kk with
    | true => exact decide_eq_true ((frz_non za).mpr (hk.mp rfl))
    | false => exact decide_eq_false fun z => by have := hk.mpr ((frz_non za).mp z); cases this
  rw [e2]; exact .bl kk
theorem jo_isNot : OpR X (compareOp .IsNot) (rD (Cx.T X C) dIsNot) := by
  intro pins s σ H x y v u Q I rx ry q
  obtain ⟨B, F, a, b, r, ef, za, zb, e, k⟩ := q
  obtain ⟨rfl, kk, rfl, hk⟩ := dIsNot_some e
  refine op_notN pins s σ H x y v u Q I rx ry ⟨(frz_non zb).mpr rfl, k _ F H (Grow.refl ef) ?_⟩
  have e2 : (!decide (x = .non)) = kk := by
    cases kk with
    | false => rw [decide_eq_true ((frz_non za).mpr (hk.mp rfl))]; rfl
    | true => rw [decide_eq_false fun z => by have := hk.mpr ((frz_non za).mp z); cases this]; rfl
  rw [e2]; exact .bl kk
theorem jo_ix : IxR X (rD (Cx.T X C) dIx) := by
  intro value slice pins s σ H x y v u Q I rx ry q hs
  obtain ⟨B, F, a, b, r, ef, za, zb, e, k⟩ := q
  unfold dIx at e
  split at e
  · obtain ⟨d, e1, rfl⟩ := Option.map_eq_some_iff.mp e
    cases za with
    | tup hx ax =>
      obtain ⟨w, h1, h2⟩ := dt_atI ax e1
      exact ix_tup value slice pins s σ H _ y v u Q I rx ry ⟨_, _, _, w, rfl, dt_int zb, ex_t ef hx, h1, k _ F H (Grow.refl ef) h2⟩ hs
  · obtain ⟨d, e1, rfl⟩ := Option.map_eq_some_iff.mp e
    cases za with
    | lst hx ax =>
      obtain ⟨w, h1, h2⟩ := dt_atI ax e1
      exact ix_list value slice pins s σ H _ y v u Q I rx ry ⟨_, _, _, w, rfl, dt_int zb, SqL.of (ef _ _ hx), h1, k _ F H (Grow.refl ef) h2⟩ hs
  · cases e
end
section
variable {X : Cx} {C : Cc} {a b : Expr} {fa fb : FE} {pos : Pos}
/-- a[b] -/
theorem je_ix (ha : JE X C a fa) (hb : JE X C b fb) (hs : PlainIx b := by exact fun _ _ => rfl) : JE X C (.Subscript a b pos) (f2 dIx fa fb) := pe_sub_ (pe_ix jo_ix ha hb hs) fun _ _ _ h => tE_f2 h
def dNeg : AV → Option AV
  | .d (.int i) => some (.d (.int (-i)))
  | _ => none
theorem je_neg (ha : JE X C a fa) : JE X C (.UnaryOp .USub a pos) (f1 dNeg fa) := by
  refine pe_sub_ (pe_un un_neg ha) fun σ H Q h => ?_
  obtain ⟨B, F, s, r, s', I, hf, k⟩ := tE_f1 h
  refine ⟨B, F, s, r, s', I, hf, fun v F' H' e1 I1 z1 => ?_⟩
  obtain ⟨B, F, a, r, ef, za, e, k⟩ := k v F' H' e1 I1 z1
  unfold dNeg at e
  split at e
  · cases e
    exact ⟨_, dt_int za, k _ F H' (Grow.refl ef) (.int _)⟩
  · cases e
/-- e.f of a program -/
def dPr (f : Str) : AV → Option AV
  | .pr sz pa tk lv sk => if f = "sizes" then some (.d sz) else if f = "parts" then some (.d pa) else if f = "ticks" then some (.d tk) else if f = "live" then some (.d lv) else if f = "skips" then some (.d sk) else none
  | _ => none
theorem je_pr {f : Str} (ha : JE X C a fa) (hc : Cls X.K C.cl) (hn : NoAttr X.K C.cl f) (hb : attributeBase a f X.env (eval a X.env) = eval a X.env := by rfl) : JE X C (.Attribute a f pos) (f1 (dPr f) fa) := by
  refine pe_sub_ (pe_fld ha hb) fun σ H Q h => ?_
  obtain ⟨B, F, s, r, s', I, hf, k⟩ := tE_f1 h
  refine ⟨B, F, s, r, s', I, hf, fun v F' H' e1 I1 z1 => ?_⟩
  obtain ⟨B, F, a, r, ef, za, e, k⟩ := k v F' H' e1 I1 z1
  cases a with
  | pr sz pa tk lv sk =>
    obtain ⟨p, dx, fs, rfl, hH, h1, h2, h3, h4, h5⟩ := za
    have go : ∀ {g : Str} {d : PyData}, PrF X.K F fs g d → f = g → some (AV.d d) = some r → ∃ a C dx fs v, V.ref p = .ref a ∧ H' a = some (.ins C dx fs) ∧ Cls X.K C ∧ NoAttr X.K C f ∧ fs.lookup f = some v ∧ Q v H' := fun {g d} hp hg he => by
      cases he
      obtain ⟨w, l, z⟩ := hp
      exact ⟨p, C.cl, dx, fs, w, rfl, ef _ _ hH, hc, hn, by rw [hg]; exact l, k w F H' (Grow.refl ef) z⟩
    unfold dPr at e
    simp only [] at e
    split at e
    · exact go h1 (by assumption) e
    · split at e
      · exact go h2 (by assumption) e
      · split at e
        · exact go h3 (by assumption) e
        · split at e
          · exact go h4 (by assumption) e
          · split at e
            · exact go h5 (by assumption) e
            · cases e
  | _ => cases e
end
end Tk

set_option Elab.async false
set_option linter.all false
set_option maxRecDepth 100000
set_option maxHeartbeats 4000000
/-! Tk, part C: tests, arguments, displays, calls, targets, walks, comprehensions. -/
namespace Tk
open PySem PySem.Spec PyProof.Rows L2
open Evl (Ex ex_l ex_t fresh_back)

/-! ### tests -/
def fTst (fa : FE) : FB := fun s => match fa s with
  | some (.d (.bool b), s') => some (b, s')
  | _ => none
def tru : AV → Option Bool
  | .d .none => some false
  | .d (.bool b) => some b
  | .d (.int i) => some (i != 0)
  | .d (.list xs) => some (!xs.isEmpty)
  | .d (.tuple xs) => some (!xs.isEmpty)
  | _ => none
def fTru (fa : FE) : FB := fun s => match fa s with
  | some (a, s') => (match tru a with
    | some b => some (b, s')
    | none => none)
  | none => none
def fAnd (fa fb : FB) : FB := fun s => match fa s with
  | some (true, s1) => fb s1
  | some (false, s1) => some (false, s1)
  | none => none
def fOr (fa fb : FB) : FB := fun s => match fa s with
  | some (true, s1) => some (true, s1)
  | some (false, s1) => fb s1
  | none => none
def fNot (fa : FB) : FB := fun s => match fa s with
  | some (b, s1) => some (!b, s1)
  | none => none
def fAndV (fa fb : FE) : FE := fun s => match fa s with
  | some (.d (.bool true), s1) => fb s1
  | some (.d (.bool false), s1) => some (.d (.bool false), s1)
  | _ => none
def fOrV (fa fb : FE) : FE := fun s => match fa s with
  | some (.d (.bool true), s1) => some (.d (.bool true), s1)
  | some (.d (.bool false), s1) => fb s1
  | _ => none
def fNotV (fa : FE) : FE := fun s => match fa s with
  | some (.d (.bool b), s1) => some (.d (.bool (!b)), s1)
  | _ => none
def fIf (ft : FB) (fa fb : FE) : FE := fun s => match ft s with
  | some (true, s1) => fa s1
  | some (false, s1) => fb s1
  | none => none
section
variable {X : Cx} {C : Cc} {a b c : Expr} {rest : List Expr} {fa fb : FE} {ft fu : FB} {pos : Pos}
theorem dt_bl {K : PySem.W.Frag} {F : Hp} {v : V} {b : Bool} (h : Dt K F v (.bool b)) : v = .bl b := by cases h; rfl
theorem jt_val (h : JE X C a fa) (he : ∀ whole, isTrue a X.env whole = (do let v ← whole; standAt a.pos; holding [v] (truthy v)) := by intro _; rfl) : JT X C a (fTst fa) := by
  refine pt_sub_ (pt_val h he) fun σ H Q q => ?_
  obtain ⟨B, F, s, r, s', I, hf, k⟩ := q
  unfold fTst at hf
  split at hf
  · rename_i b' s1 e
    cases hf
    exact ⟨B, F, s, _, _, I, e, fun v F' H' e1 I1 z => ⟨_, dt_bl z, k F' H' e1 I1⟩⟩
  · cases hf
theorem truV {K : PySem.W.Frag} {F H : Hp} (e : Ex F H) {v : V} {x : PyData} {b : Bool} (h : Dt K F v x) (t : tru (.d x) = some b) : TruV K v H b := by
  cases h with
  | non => cases t; rfl
  | bl b => cases t; rfl
  | int i => cases t; rfl
  | str x => cases t
  | lst hx ax =>
    cases t
    exact .inl ⟨_, SqL.of (e _ _ hx), by cases ax <;> rfl⟩
  | tup hx ax =>
    cases t
    exact .inr (.inl ⟨_, ex_t e hx, by cases ax <;> rfl⟩)
theorem jt_tru (h : JE X C a fa) (he : ∀ whole, isTrue a X.env whole = (do let v ← whole; standAt a.pos; holding [v] (truthy v)) := by intro _; rfl) : JT X C a (fTru fa) := by
  refine pt_sub_ (pt_truth h he) fun σ H Q q => ?_
  obtain ⟨B, F, s, r, s', I, hf, k⟩ := q
  unfold fTru at hf
  split at hf
  · rename_i a' s1 e
    split at hf
    · rename_i b' t
      cases hf
      refine ⟨B, F, s, _, _, I, e, fun v F' H' e1 I1 z => ⟨_, ?_, k F' H' e1 I1⟩⟩
      cases a' with
      | d x => exact truV I1.fh z t
      | _ => cases t
    · cases hf
  · cases hf
theorem jw_and1 (ha : JT X C a ft) : JW X C (.BoolOp .And [a] pos) ft := pw_and1 ha
theorem jw_or1 (ha : JT X C a ft) : JW X C (.BoolOp .Or [a] pos) ft := pw_or1 ha
theorem jw_and (ha : JT X C a ft) (hb : JW X C (.BoolOp .And (b :: rest) pos) fu) : JW X C (.BoolOp .And (a :: b :: rest) pos) (fAnd ft fu) := by
  refine pw_sub_ (pw_and ha hb) fun σ H Q q => ?_
  obtain ⟨B, F, s, r, s', I, hf, k⟩ := q
  unfold fAnd at hf
  split at hf
  · rename_i s1 e
    exact ⟨B, F, s, true, s1, I, e, fun F' H' e1 I1 => iteT ⟨B, F', s1, r, s', I1, hf, fun F2 H2 e2 I2 => k F2 H2 (e1.trans e2) I2⟩⟩
  · rename_i s1 e
    cases hf
    exact ⟨B, F, s, false, _, I, e, fun F' H' e1 I1 => iteF (k F' H' e1 I1)⟩
  · cases hf
theorem jw_or (ha : JT X C a ft) (hb : JW X C (.BoolOp .Or (b :: rest) pos) fu) : JW X C (.BoolOp .Or (a :: b :: rest) pos) (fOr ft fu) := by
  refine pw_sub_ (pw_or ha hb) fun σ H Q q => ?_
  obtain ⟨B, F, s, r, s', I, hf, k⟩ := q
  unfold fOr at hf
  split at hf
  · rename_i s1 e
    cases hf
    exact ⟨B, F, s, true, _, I, e, fun F' H' e1 I1 => iteT (k F' H' e1 I1)⟩
  · rename_i s1 e
    exact ⟨B, F, s, false, s1, I, e, fun F' H' e1 I1 => iteF ⟨B, F', s1, r, s', I1, hf, fun F2 H2 e2 I2 => k F2 H2 (e1.trans e2) I2⟩⟩
  · cases hf
theorem jt_w (h : JW X C a ft) : JT X C a ft := PW.pt h
theorem jt_not (ha : JT X C a ft) : JT X C (.UnaryOp .Not a pos) (fNot ft) := by
  refine pt_sub_ (pt_not ha) fun σ H Q q => ?_
  obtain ⟨B, F, s, r, s', I, hf, k⟩ := q
  unfold fNot at hf
  split at hf
  · rename_i b' s1 e
    cases hf
    exact ⟨B, F, s, _, _, I, e, fun F' H' e1 I1 => k F' H' e1 I1⟩
  · cases hf
theorem je_one {op} (h : JE X C a fa) : JE X C (.BoolOp op [a] pos) fa := pe_one h
theorem je_and (ha : JE X C a fa) (hb : JE X C (.BoolOp .And (b :: rest) pos) fb) : JE X C (.BoolOp .And (a :: b :: rest) pos) (fAndV fa fb) := by
  refine pe_sub_ (pe_and ha hb) fun σ H Q q => ?_
  obtain ⟨B, F, s, r, s', I, hf, k⟩ := q
  unfold fAndV at hf
  split at hf
  · rename_i s1 e
    exact ⟨B, F, s, _, s1, I, e, fun v F' H' e1 I1 z => ⟨true, dt_bl z, iteT ⟨B, F', s1, r, s', I1, hf, fun w F2 H2 e2 I2 => k w F2 H2 (e1.trans e2) I2⟩⟩⟩
  · rename_i s1 e
    cases hf
    exact ⟨B, F, s, _, _, I, e, fun v F' H' e1 I1 z => ⟨false, dt_bl z, iteF (k _ F' H' e1 I1 (.bl false))⟩⟩
  · cases hf
theorem je_or (ha : JE X C a fa) (hb : JE X C (.BoolOp .Or (b :: rest) pos) fb) : JE X C (.BoolOp .Or (a :: b :: rest) pos) (fOrV fa fb) := by
  refine pe_sub_ (pe_or ha hb) fun σ H Q q => ?_
  obtain ⟨B, F, s, r, s', I, hf, k⟩ := q
  unfold fOrV at hf
  split at hf
  · rename_i s1 e
    cases hf
    exact ⟨B, F, s, _, _, I, e, fun v F' H' e1 I1 z => ⟨true, dt_bl z, iteT (k _ F' H' e1 I1 (.bl true))⟩⟩
  · rename_i s1 e
    exact ⟨B, F, s, _, s1, I, e, fun v F' H' e1 I1 z => ⟨false, dt_bl z, iteF ⟨B, F', s1, r, s', I1, hf, fun w F2 H2 e2 I2 => k w F2 H2 (e1.trans e2) I2⟩⟩⟩
  · cases hf
theorem je_not (ha : JE X C a fa) : JE X C (.UnaryOp .Not a pos) (fNotV fa) := by
  refine pe_sub_ (pe_not ha) fun σ H Q q => ?_
  obtain ⟨B, F, s, r, s', I, hf, k⟩ := q
  unfold fNotV at hf
  split at hf
  · rename_i b' s1 e
    cases hf
    exact ⟨B, F, s, _, _, I, e, fun v F' H' e1 I1 z => ⟨_, dt_bl z, k _ F' H' e1 I1 (.bl _)⟩⟩
  · cases hf
theorem je_if (hc : JT X C c ft) (ha : JE X C a fa) (hb : JE X C b fb) : JE X C (.IfExp c a b pos) (fIf ft fa fb) := by
  refine pe_sub_ (pe_ifExp hc ha hb) fun σ H Q q => ?_
  obtain ⟨B, F, s, r, s', I, hf, k⟩ := q
  unfold fIf at hf
  split at hf
  · rename_i s1 e
    exact ⟨B, F, s, true, s1, I, e, fun F' H' e1 I1 => iteT ⟨B, F', s1, r, s', I1, hf, fun w F2 H2 e2 I2 => k w F2 H2 (e1.trans e2) I2⟩⟩
  · rename_i s1 e
    exact ⟨B, F, s, false, s1, I, e, fun F' H' e1 I1 => iteF ⟨B, F', s1, r, s', I1, hf, fun w F2 H2 e2 I2 => k w F2 H2 (e1.trans e2) I2⟩⟩
  · cases hf
end

/-! ### arguments, tuples, lists -/
def fNil : FA := fun s => some ([], s)
def fCons (fa : FE) (fr : FA) : FA := fun s => match fa s with
  | some (x, s1) => (match fr s1 with
    | some (xs, s2) => some (x :: xs, s2)
    | none => none)
  | none => none
def fTup (fa : FA) : FE := fun s => match fa s with
  | some (as, s1) => (match dats as with
    | some ds => some (.d (.tuple ds), s1)
    | none => none)
  | none => none
abbrev FL := S → Option (List PyData × S)
def fLst (fa : FA) : FL := fun s => match fa s with
  | some (as, s1) => (match dats as with
    | some ds => some (ds, s1)
    | none => none)
  | none => none
def fOfL (f : FL) : FE := fun s => match f s with
  | some (xs, s1) => some (.d (.list xs), s1)
  | none => none
/-- the items of a tuple or a list -/
def fIt (fa : FE) : FL := fun s => match fa s with
  | some (.d (.tuple xs), s1) => some (xs, s1)
  | some (.d (.list xs), s1) => some (xs, s1)
  | _ => none
def tL (T : Cfg) (f : FL) : TE := fun σ H Q => ∃ B F s r s', EnvOk T B F H σ s ∧ f s = some (r, s') ∧ ∀ p vs F' H', Ex F F' → EnvOk T (B.with p (.lst vs)) F' H' σ s' → DtAll T.K F' vs r → Q (.ref p) H'
abbrev JL (X : Cx) (C : Cc) (e : Expr) (f : FL) : Prop := PE X e (tL (Cx.T X C) f)
structure JAs (X : Cx) (C : Cc) (es : List Expr) (f : FA) : Prop where
  pa : JA X C es f
  len : ∀ s r s', f s = some (r, s') → r.length = es.length
section
variable {X : Cx} {C : Cc} {a b e : Expr} {es : List Expr} {fa fb : FE} {f : FA} {fl : FL} {pos : Pos}
theorem ja_nil : JAs X C [] fNil := ⟨pa_sub_ pa_nil fun σ H Q q => by
  obtain ⟨B, F, s, r, s', I, hf, k⟩ := q
  cases hf
  exact k [] F H (Ex.refl F) I .nil, fun s r s' h => by cases h; rfl⟩
theorem ja_cons (ha : JE X C e fa) (hr : JAs X C es f) (hs : starEach (e :: es) X.env = (false, eval e X.env) :: starEach es X.env := by rfl) : JAs X C (e :: es) (fCons fa f) := by
  refine ⟨pa_sub_ (pa_cons ha hr.pa hs) fun σ H Q q => ?_, fun s r s' h => ?_⟩
  · obtain ⟨B, F, s, r, s', I, hf, k⟩ := q
    unfold fCons at hf
    split at hf
    · rename_i x s1 e1
      split at hf
      · rename_i xs s2 e2
        cases hf
        exact ⟨B, F, s, x, s1, I, e1, fun v F1 H1 x1 I1 z1 => ⟨B, F1, s1, xs, _, I1, e2, fun vs F2 H2 x2 I2 z2 => k (v :: vs) F2 H2 (x1.trans x2) I2 (.cons (z1.ex x2) z2)⟩⟩
      · cases hf
    · cases hf
  · unfold fCons at h
    split at h
    · split at h
      · rename_i e2
        cases h
        rw [List.length_cons, List.length_cons, hr.len _ _ _ e2]
      · cases h
    · cases h
theorem dats_len : ∀ {as : List AV} {ds : List PyData}, dats as = some ds → ds.length = as.length
  | [], ds, h => by simp [dats] at h; subst h; rfl
  | a :: as, ds, h => by
    cases a with
    | d x =>
      simp only [dats, Option.map_eq_some_iff] at h
      obtain ⟨es, e1, rfl⟩ := h
      simp [dats_len e1]
    | _ => simp [dats] at h
theorem je_tup {x1} (h : JAs X C es f) (hl : es.length ≤ 1000 := by decide) : JE X C (.Tuple es x1 pos) (fTup f) := by
  refine pe_sub_ (pe_tup h.pa) fun σ H Q q => ?_
  obtain ⟨B, F, s, r, s', I, hf, k⟩ := q
  unfold fTup at hf
  split at hf
  · rename_i as s1 e1
    split at hf
    · rename_i ds e2
      cases hf
      refine ⟨B, F, s, as, _, I, e1, fun vs F1 H1 x1 I1 z1 => ⟨?_, fun p hp => ?_⟩⟩
      · rw [z1.len, h.len _ _ _ e1]
        exact Nat.le_trans hl (by decide)
      · have G := Grow.new (o := .tup vs) I1.fh hp
        exact k (.ref p) _ _ (x1.trans G.f) (I1.grow G) (.tup (SqT.of upd_same) (dtAll_ex G.f _ _ (z1.dats e2)))
    · cases hf
  · cases hf
theorem jl_lst (h : JAs X C es f) (hl : es.length ≤ 1000 := by decide) : JL X C (.List es pos) (fLst f) := by
  refine pe_sub_ (pe_lst h.pa) fun σ H Q q => ?_
  obtain ⟨B, F, s, r, s', I, hf, k⟩ := q
  unfold fLst at hf
  split at hf
  · rename_i as s1 e1
    split at hf
    · rename_i ds e2
      cases hf
      refine ⟨B, F, s, as, _, I, e1, fun vs F1 H1 x1 I1 z1 => ⟨?_, fun p hp => ?_⟩⟩
      · rw [z1.len, h.len _ _ _ e1]
        exact Nat.le_trans hl (by decide)
      · exact k p vs F1 _ x1 (I1.pxNew hp) (z1.dats e2)
    · cases hf
  · cases hf
/-- a new list as a value -/
theorem je_ofL (h : JL X C e fl) : JE X C e (fOfL fl) := by
  refine pe_sub_ h fun σ H Q q => ?_
  obtain ⟨B, F, s, r, s', I, hf, k⟩ := q
  unfold fOfL at hf
  split at hf
  · rename_i xs s1 e1
    cases hf
    refine ⟨B, F, s, xs, _, I, e1, fun p vs F1 H1 x1 I1 z1 => ?_⟩
    obtain ⟨y1, y2⟩ := I1.pxFrz
    exact k (.ref p) _ H1 (x1.trans y1) y2 (.lst upd_same (dtAll_ex y1 _ _ z1))
  · cases hf
end

/-! ### calls by values -/
def rC (T : Cfg) (fo : List AV → Option AV) : List V → Hp → VK → Prop := fun vs H Q => ∃ B F as r, Ex F H ∧ FrzAll T B F vs as ∧ fo as = some r ∧ ∀ v F' H', Grow F H F' H' → Frz T B F' v r → Q v H'
def rCL (T : Cfg) (fo : List AV → Option (List PyData)) : List V → Hp → VK → Prop := fun vs H Q => ∃ B F as r, Ex F H ∧ FrzAll T B F vs as ∧ fo as = some r ∧ ∀ p us, H p = none → DtAll T.K F us r → Q (.ref p) (upd H p (.lst us))
def fCB (fo : List AV → Option AV) (f : FA) : FE := fun s => match f s with
  | some (as, s1) => (match fo as with
    | some r => some (r, s1)
    | none => none)
  | none => none
def fCL (fo : List AV → Option (List PyData)) (f : FA) : FL := fun s => match f s with
  | some (as, s1) => (match fo as with
    | some r => some (r, s1)
    | none => none)
  | none => none
section
variable {X : Cx} {C : Cc} {e : Expr} {es : List Expr} {f : FA} {x : Str} {p pos : Pos} {id T : String} {fo : List AV → Option AV} {fol : List AV → Option (List PyData)}
theorem tE_fCB {Tc : Cfg} {σ : L2.St} {H : Hp} {Q : VK} (h : tE Tc (fCB fo f) σ H Q) : tCB (rC Tc fo) (tA Tc f) σ H Q := by
  obtain ⟨B, F, s, r, s', I, hf, k⟩ := h
  unfold fCB at hf
  split at hf
  · rename_i as s1 e1
    split at hf
    · rename_i r0 e2
      cases hf
      exact ⟨B, F, s, as, _, I, e1, fun vs F1 H1 x1 I1 z1 => ⟨B, F1, as, _, I1.fh, z1, e2, fun v F' H' G z => k v F' H' (x1.trans G.f) (I1.grow G) z⟩⟩
    · cases hf
  · cases hf
theorem tL_fCL {Tc : Cfg} {σ : L2.St} {H : Hp} {Q : VK} (h : tL Tc (fCL fol f) σ H Q) : tCB (rCL Tc fol) (tA Tc f) σ H Q := by
  obtain ⟨B, F, s, r, s', I, hf, k⟩ := h
  unfold fCL at hf
  split at hf
  · rename_i as s1 e1
    split at hf
    · rename_i r0 e2
      cases hf
      exact ⟨B, F, s, as, _, I, e1, fun vs F1 H1 x1 I1 z1 => ⟨B, F1, as, _, I1.fh, z1, e2, fun p us hp z => k p us F1 _ x1 (I1.pxNew hp) z⟩⟩
    · cases hf
  · cases hf
theorem je_callB (hc : CallR X (.builtin id) (rC (Cx.T X C) fo)) (hg : Gl X x) (hm : X.mg x = none) (hv : bootBuiltins x = some (.builtin id)) (ha : JAs X C (e :: es) f) (hn : x ≠ "__name__" := by decide) (hdb : (x == ("__debug__" : Str)) = false := by decide)
    (he : starEach (e :: es) X.env = (false, eval e X.env) :: starEach es X.env := by rfl) (hpl : (backTo pos (starEach es X.env)).any (·.1) = false := by rfl) : JE X C (.Call (.Name x p) (e :: es) [] pos) (fCB fo f) :=
  pe_sub_ (pe_callB hc hg hm hv ha.pa hn hdb he hpl) fun _ _ _ h => tE_fCB h
theorem je_callTy (hc : CallR X (.type T) (rC (Cx.T X C) fo)) (hg : Gl X x) (hm : X.mg x = none) (hv : bootBuiltins x = some (.type T)) (ha : JAs X C (e :: es) f) (hn : x ≠ "__name__" := by decide) (hdb : (x == ("__debug__" : Str)) = false := by decide)
    (he : starEach (e :: es) X.env = (false, eval e X.env) :: starEach es X.env := by rfl) (hpl : (backTo pos (starEach es X.env)).any (·.1) = false := by rfl) : JE X C (.Call (.Name x p) (e :: es) [] pos) (fCB fo f) :=
  pe_sub_ (pe_callTy hc hg hm hv ha.pa hn hdb he hpl) fun _ _ _ h => tE_fCB h
theorem jl_callTy (hc : CallR X (.type T) (rCL (Cx.T X C) fol)) (hg : Gl X x) (hm : X.mg x = none) (hv : bootBuiltins x = some (.type T)) (ha : JAs X C (e :: es) f) (hn : x ≠ "__name__" := by decide) (hdb : (x == ("__debug__" : Str)) = false := by decide)
    (he : starEach (e :: es) X.env = (false, eval e X.env) :: starEach es X.env := by rfl) (hpl : (backTo pos (starEach es X.env)).any (·.1) = false := by rfl) : JL X C (.Call (.Name x p) (e :: es) [] pos) (fCL fol f) :=
  pe_sub_ (pe_callTy hc hg hm hv ha.pa hn hdb he hpl) fun _ _ _ h => tL_fCL h
theorem one_frz {Tc : Cfg} {B : Bg} {F : Hp} {vs : List V} {a : AV} (h : FrzAll Tc B F vs [a]) : ∃ v, vs = [v] ∧ Frz Tc B F v a := by
  cases h with
  | cons h t => cases t; exact ⟨_, rfl, h⟩
/-- len -/
def dLen : List AV → Option AV
  | [.d (.list xs)] => some (.d (.int xs.length))
  | [.d (.tuple xs)] => some (.d (.int xs.length))
  | _ => none
theorem jc_len : CallR X (.builtin "len") (rC (Cx.T X C) dLen) := by
  intro pins s σ H xs us Q I r h
  obtain ⟨B, F, as, r0, ef, z, e, k⟩ := h
  unfold dLen at e
  split at e
  · cases e
    obtain ⟨v, rfl, z1⟩ := one_frz z
    cases z1 with
    | lst hx ax => exact call_len_seq pins s σ H _ us Q I r ⟨_, _, rfl, .inl (SqL.of (ef _ _ hx)), k _ F H (Grow.refl ef) (by rw [ax.len]; exact .int _)⟩
  · cases e
    obtain ⟨v, rfl, z1⟩ := one_frz z
    cases z1 with
    | tup hx ax => exact call_len_seq pins s σ H _ us Q I r ⟨_, _, rfl, .inr (ex_t ef hx), k _ F H (Grow.refl ef) (by rw [ax.len]; exact .int _)⟩
  · cases e
/-- tuple(x) -/
def dTuple : List AV → Option AV
  | [.d (.list xs)] => some (.d (.tuple xs))
  | [.d (.tuple xs)] => some (.d (.tuple xs))
  | _ => none
theorem jc_tuple : CallR X (.type "tuple") (rC (Cx.T X C) dTuple) := by
  intro pins s σ H xs us Q I r h
  obtain ⟨B, F, as, r0, ef, z, e, k⟩ := h
  unfold dTuple at e
  split at e
  · cases e
    obtain ⟨v, rfl, z1⟩ := one_frz z
    cases z1 with
    | lst hx ax => exact call_tuple_of pins s σ H _ us Q I r ⟨_, _, rfl, .inl ⟨SqL.of (ef _ _ hx), fun l hl => (fun G => k (.ref l) _ _ G (.tup (SqT.of upd_same) (dtAll_ex G.f _ _ ax))) (Grow.new ef hl)⟩⟩
  · cases e
    obtain ⟨v, rfl, z1⟩ := one_frz z
    cases z1 with
    | tup hx ax => exact call_tuple_of pins s σ H _ us Q I r ⟨_, _, rfl, .inr ⟨ex_t ef hx, k _ F H (Grow.refl ef) (.tup hx ax)⟩⟩
  · cases e
/-- list(x) -/
def dList : List AV → Option (List PyData)
  | [.d (.list xs)] => some xs
  | [.d (.tuple xs)] => some xs
  | _ => none
theorem jc_list : CallR X (.type "list") (rCL (Cx.T X C) dList) := by
  intro pins s σ H xs us Q I r h
  obtain ⟨B, F, as, r0, ef, z, e, k⟩ := h
  unfold dList at e
  split at e
  · cases e
    obtain ⟨v, rfl, z1⟩ := one_frz z
    cases z1 with
    | lst hx ax => exact call_list_of pins s σ H _ us Q I r ⟨_, _, rfl, .inl (SqL.of (ef _ _ hx)), fun l hl => k l _ hl ax⟩
  · cases e
    obtain ⟨v, rfl, z1⟩ := one_frz z
    cases z1 with
    | tup hx ax => exact call_list_of pins s σ H _ us Q I r ⟨_, _, rfl, .inr (ex_t ef hx), fun l hl => k l _ hl ax⟩
  · cases e
/-- int(x) of an int -/
def dInt : List AV → Option AV
  | [.d (.int i)] => some (.d (.int i))
  | [.d (.bool b)] => some (.d (.int (if b then 1 else 0)))
  | _ => none
theorem jc_int : CallR X (.type "int") (rC (Cx.T X C) dInt) := by
  intro pins s σ H xs us Q I r h
  obtain ⟨B, F, as, r0, ef, z, e, k⟩ := h
  unfold dInt at e
  split at e
  · cases e
    obtain ⟨v, rfl, z1⟩ := one_frz z
    cases z1
    exact call_int1 pins s σ H _ us Q I r (.inl ⟨_, rfl, k _ F H (Grow.refl ef) (.int _)⟩)
  · cases e
    obtain ⟨v, rfl, z1⟩ := one_frz z
    cases z1
    exact call_int1 pins s σ H _ us Q I r (.inr ⟨_, rfl, k _ F H (Grow.refl ef) (.int _)⟩)
  · cases e
end

/-! ### defs: promises, calls -/
abbrev Den := List AV → LS → Option (AV × LS)
/-- the promise of a def that hands back the denotation's value -/
def spD (T : Cfg) (n : Nat) (g : Den) : Sp := fun vs H Q _ => vs.length = n ∧ ∃ B as l r l', B.H0 = H ∧ B.px = [] ∧ EnvOk T B B.F0 H [] ⟨[], l⟩ ∧ FrzAll T B B.F0 vs as ∧ g as l = some (r, l') ∧
  ∀ v F' H', Ex B.F0 F' → EnvOk T B F' H' [] ⟨[], l'⟩ → Frz T B F' v r → Q v H'
/-- what a body comes to -/
def denF (n : Nat) (fb : FS) : Den := fun as l => match fb (enter n as l) with
  | some (.rt v s) => some (v, s.g)
  | some (.nx s) => some (.d .none, s.g)
  | _ => none
theorem EnvOk.bare {T : Cfg} {B : Bg} {F H : Hp} {σ : L2.St} {s : S} (I : EnvOk T B F H σ s) : EnvOk T B F H [] ⟨[], s.g⟩ :=
  ⟨I.fh, I.f0, I.nw, I.kp, I.lv, I.tb, I.tq, I.ls, I.px, I.pd, rfl, fun _ => none, (fun a i q => nomatch q), fun i av q => by simp at q⟩
theorem EnvOk.tbF {T : Cfg} {B : Bg} {F H : Hp} {σ : L2.St} {s : S} (I : EnvOk T B F H σ s) (P : Addr) (hP : P ∈ B.tb) : F P = none := by
  cases q : F P with
  | none => rfl
  | some u => exact (I.nw P (ne_some q)).elim (fun z => absurd (I.tb P hP).2.2 z) fun z => absurd z (I.tb P hP).2.1
theorem EnvOk.subj {T : Cfg} {B : Bg} {F H : Hp} {σ : L2.St} {s : S} (I : EnvOk T B F H σ s) : EnvOk T (B.sub F H) F H [] ⟨[], s.g⟩ :=
  ⟨I.fh, Ex.refl F, fun a h => .inl h, fun a o h _ => h, fun a h => h, fun P hP => ⟨(I.tb P hP).1, (let ⟨ps, e, _⟩ := (I.tb P hP).1; ne_some e), I.tbF P hP⟩, I.tq, fun p hp => ⟨(I.ls p hp).1, ne_some (I.ls p hp).1.top, ne_some (I.ls p hp).1.cel⟩,
    fun q hq => absurd hq (by simp), List.nodup_nil, rfl, fun _ => none, (fun a i q => nomatch q), fun i av q => by simp at q⟩
def fCall (g : Den) (f : FA) : FE := fun s => match f s with
  | some (as, s1) => (match g as s1.g with
    | some (r, l') => some (r, { s1 with g := l' })
    | none => none)
  | none => none
section
variable {X : Cx} {C : Cc} {f : Addr} {e : Expr} {es : List Expr} {x : Str} {p pos : Pos} {k n : Nat} {fd : FuncData} {ps : List Str} {g : Den} {fa : FA}
theorem sp_of_call {T : Cfg} {B : Bg} {F H : Hp} {σ : L2.St} {s1 : S} {vs : List V} {as : List AV} {r : AV} {l' : LS} {Q : VK} {E : XK} (I : EnvOk T B F H σ s1) (hn : vs.length = n) (z : FrzAll T B F vs as) (hg : g as s1.g = some (r, l'))
    (hk : ∀ v F' H', Ex F F' → EnvOk T B F' H' σ { s1 with g := l' } → Frz T B F' v r → Q v H') : spD T n g vs H Q E :=
  ⟨hn, B.sub F H, as, s1.g, r, l', rfl, rfl, I.subj, (show FrzAll T (B.sub F H) F vs as from FrzAll.bg (B := B) (B' := B.sub F H) rfl z), hg, fun v F' H' e J z' => hk v F' H' e (I.call J) (z'.bg rfl)⟩
theorem je_call (F : FnOk X.prog X.w X.K X.mg X.base CX0 k f fd ps (spD (Cx.T X C) n g)) (hr : Room k X.A) (hg : Gl X x) (hm : X.mg x = some (.ref f)) (hk : PySem.W.keepIn X.K (.ref f) = true) (hb : Binds X.K fd ps []) (ha : JAs X C (e :: es) fa)
    (hn : (e :: es).length = n := by rfl) (hdb : (x == ("__debug__" : Str)) = false := by decide) (he : starEach (e :: es) X.env = (false, eval e X.env) :: starEach es X.env := by rfl) (hpl : (backTo pos (starEach es X.env)).any (·.1) = false := by rfl) :
    JE X C (.Call (.Name x p) (e :: es) [] pos) (fCall g fa) := by
  refine pe_sub_ (pe_call (E := E0) F hr hg hm hk hb .nil pass0 ha.pa hdb he hpl) fun σ H Q q => ?_
  obtain ⟨B, Fz, s, r, s', I, hf, kk⟩ := q
  unfold fCall at hf
  split at hf
  · rename_i as s1 e1
    split at hf
    · rename_i r0 l' e2
      cases hf
      refine ⟨B, Fz, s, as, s1, I, e1, fun vs F1 H1 x1 I1 z1 => ?_⟩
      show spD (Cx.T X C) n g (vs ++ []) H1 Q E0
      rw [List.append_nil]
      refine sp_of_call I1 (by rw [z1.len, ha.len _ _ _ e1, hn]) z1 e2 fun v F' H' x2 I2 z2 => kk v F' H' (x1.trans x2) I2 z2
    · cases hf
  · cases hf
end
end Tk

set_option Elab.async false
set_option linter.all false
set_option maxRecDepth 100000
set_option maxHeartbeats 4000000
/-! Tk, part D: targets, walks, comprehensions, statements. -/
namespace Tk
open PySem PySem.Spec PyProof.Rows L2
open Evl (Ex ex_l ex_t fresh_back)

/-! ### targets -/
abbrev FG := AV → S → Option S
def SameOff (ws : List Nat) (σ σ' : L2.St) : Prop := σ'.length = σ.length ∧ ∀ i, i ∉ ws → σ'[i]? = σ[i]?
/-- a target: what it stores; ws: the slots that it stores in -/
def tG (T : Cfg) (ws : List Nat) (g : FG) : TG := fun v σ H Q => ∃ B F s a s', EnvOk T B F H σ s ∧ Frz T B F v a ∧ g a s = some s' ∧ ∀ σ', EnvOk T B F H σ' s' → SameOff ws σ σ' → Q σ' H
abbrev JG (X : Cx) (C : Cc) (e : Expr) (ws : List Nat) (g : FG) : Prop := PG X e (tG (Cx.T X C) ws g)
abbrev FGs := List PyData → S → Option S
def tGs (T : Cfg) (ws : List Nat) (g : FGs) : TGs := fun vs σ H Q => ∃ B F s ds s', EnvOk T B F H σ s ∧ DtAll T.K F vs ds ∧ g ds s = some s' ∧ ∀ σ', EnvOk T B F H σ' s' → SameOff ws σ σ' → Q σ' H
abbrev JGs (X : Cx) (C : Cc) (es : List Expr) (ws : List Nat) (g : FGs) : Prop := PGs X es (tGs (Cx.T X C) ws g)
def gNm (i : Nat) : FG := fun a s => some { s with Γ := s.Γ.set i (some a) }
def gsNil : FGs := fun ds s => match ds with
  | [] => some s
  | _ :: _ => none
def gsCons (g : FG) (r : FGs) : FGs := fun ds s => match ds with
  | [] => none
  | d :: ds => (match g (.d d) s with
    | some s1 => r ds s1
    | none => none)
def gTp (n : Nat) (g : FGs) : FG := fun a s => match a with
  | .d (.tuple ds) => if ds.length = n then g ds s else none
  | _ => none
section
variable {X : Cx} {C : Cc} {x : Str} {pos : Pos} {e : Expr} {es : List Expr} {ws us : List Nat} {g : FG} {gs : FGs}
theorem SameOff.refl (σ : L2.St) (ws : List Nat) : SameOff ws σ σ := ⟨rfl, fun _ _ => rfl⟩
theorem SameOff.trans {ws us : List Nat} {σ σ1 σ2 : L2.St} (a : SameOff ws σ σ1) (b : SameOff us σ1 σ2) : SameOff (ws ++ us) σ σ2 := ⟨b.1.trans a.1, fun i h => by
  have h' := fun z => h (List.mem_append.mpr z)
  rw [b.2 i fun z => h' (.inr z), a.2 i fun z => h' (.inl z)]⟩
theorem jg_name (i : Nat) (hN : X.N.Nodup) (hi : X.N[i]? = some x) (hx : Loc X.env.scope x) (hf : X.fn x = true ∨ X.env.scope.names.lookup x = some .local := by first | exact .inl rfl | exact .inr rfl | assumption) : JG X C (.Name x pos) [i] (gNm i) := by
  refine ⟨fun pins s σ H v u Q I r q => (pg_name hN hi hx hf).run pins s σ H v u Q I r ?_⟩
  obtain ⟨B, F, st, a, s', J, z, e, k⟩ := q
  cases e
  exact k _ (J.put i z) ⟨by simp, fun j h => get_set_ne (by simpa using h)⟩
theorem jgs_nil : JGs X C [] [] gsNil := by
  refine ⟨fun pins s σ H vs us Q I r q => pgs_nil.run pins s σ H vs us Q I r ?_⟩
  obtain ⟨B, F, st, ds, s', J, z, e, k⟩ := q
  cases ds with
  | nil => cases z; cases e; exact ⟨rfl, k σ J (SameOff.refl _ _)⟩
  | cons d ds => cases e
theorem jgs_cons (h1 : JG X C e ws g) (h2 : JGs X C es us gs) (hs : (assignEach (e :: es) X.env).map (·.2) = assign e X.env :: (assignEach es X.env).map (·.2) := by rfl) : JGs X C (e :: es) (ws ++ us) (gsCons g gs) := by
  refine ⟨fun pins s σ H vs us Q I r q => (pgs_cons h1 h2 hs).run pins s σ H vs us Q I r ?_⟩
  obtain ⟨B, F, st, ds, s', J, z, e, k⟩ := q
  cases ds with
  | nil => cases e
  | cons d ds =>
    cases z with
    | cons z1 z2 =>
      unfold gsCons at e
      simp only [] at e
      split at e
      · rename_i s1 e1
        exact ⟨_, _, rfl, B, F, st, .d d, s1, J, z1, e1, fun σ1 J1 w1 => ⟨B, F, s1, ds, s', J1, z2, e, fun σ2 J2 w2 => k σ2 J2 (w1.trans w2)⟩⟩
      · cases e
theorem jg_tup {k : Nat} {n : Nat} (hc : X.calm = true) (h : JGs X C es ws gs) (hn : (assignEach es X.env).length = n := by rfl) (hst : (assignEach es X.env).findIdx? (·.1) = none := by rfl) : JG X C (.Tuple es k pos) ws (gTp n gs) := by
  refine ⟨fun pins s σ H v u Q I r q => (pg_tup hc h hn hst).run pins s σ H v u Q I r ?_⟩
  obtain ⟨B, F, st, a, s', J, z, e, kk⟩ := q
  unfold gTp at e
  split at e
  · rename_i ds
    split at e
    · rename_i hl
      cases z with
      | tup hx ax => exact ⟨_, _, rfl, ex_t J.fh hx, by rw [ax.len, hl], B, F, st, ds, s', J, ax, e, kk⟩
    · cases e
  · cases e
end

/-! ### what is walked -/
/-- the walk J gives the data xs, one after the other, while F stands -/
def WalkD (T : Cfg) (F : Hp) (J : It) (xs : List PyData) : Prop :=
  Walk J xs.length (fun H => Ex F H) fun i H x H2 => ∀ F2, Ex F F2 → Ex F2 H → ∃ F3 d, Grow F2 H F3 H2 ∧ xs[i]? = some d ∧ Dt T.K F3 x d
def tI (T : Cfg) (f : FL) : TI := fun σ H R => ∃ B F s r s', EnvOk T B F H σ s ∧ f s = some (r, s') ∧ ∀ F' H' J, Ex F F' → EnvOk T B F' H' σ s' → WalkD T F' J r → R J H'
abbrev JI (X : Cx) (C : Cc) (tg iter : Expr) (f : FL) : Prop := PI X tg iter (tI (Cx.T X C) f)
theorem pi_sub_ {X : Cx} {tg e : Expr} {t t' : TI} (h : PI X tg e t) (q : ∀ σ H R, t' σ H R → t σ H R) : PI X tg e t' := ⟨fun pins s σ H R I r => h.run pins s σ H R I (q σ H R r)⟩
section
variable {T : Cfg} {F : Hp} {a : Addr} {vs : List V} {ds : List PyData}
theorem walkD_list (h : F a = some (.lst vs)) (ha : DtAll T.K F vs ds) : WalkD T F (Itl T.K a) ds := by
  have w := (walk_list (K := T.K) (a := a) (xs := vs))
  rw [ha.len] at w
  refine w.mono (fun H e => SqL.of (e _ _ h)) fun i H x H' hi e y F2 e2 e3 => ?_
  obtain ⟨rfl, hx⟩ := y
  obtain ⟨d, h1, h2⟩ := ha.back hx
  exact ⟨F2, d, Grow.refl e3, h1, dt_ex e2 _ _ h2⟩
theorem walkD_tup (h : SqT T.K F a vs) (ha : DtAll T.K F vs ds) : WalkD T F (Itt T.K a) ds := by
  have w := (walk_tup (K := T.K) (a := a) (xs := vs))
  rw [ha.len] at w
  refine w.mono (fun H e => ex_t e h) fun i H x H' hi e y F2 e2 e3 => ?_
  obtain ⟨rfl, hx⟩ := y
  obtain ⟨d, h1, h2⟩ := ha.back hx
  exact ⟨F2, d, Grow.refl e3, h1, dt_ex e2 _ _ h2⟩
/-- lo, lo + 1, .. -/
def rng (lo : Int) (n : Nat) : List PyData := (List.range n).map fun i => .int (lo + (i : Nat))
theorem walkD_range {lo : Int} {n : Nat} : WalkD T F (Itr lo n) (rng lo n) := by
  have w := (walk_range (lo := lo) (n := n))
  have e : (rng lo n).length = n := by simp [rng]
  unfold WalkD
  rw [e]
  refine w.mono (fun H e => trivial) fun i H x H' hi e y F2 e2 e3 => ?_
  obtain ⟨rfl, rfl⟩ := y
  exact ⟨F2, _, Grow.refl e3, by simp [rng, hi], .int _⟩
end
def fRng1 (f : FA) : FL := fun s => match f s with
  | some ([.d (.int n)], s1) => if -(2 ^ 62) ≤ n ∧ n < 2 ^ 62 then some (rng 0 n.toNat, s1) else none
  | _ => none
def fRng2 (f : FA) : FL := fun s => match f s with
  | some ([.d (.int i), .d (.int j)], s1) => if -(2 ^ 62) ≤ i ∧ i < 2 ^ 62 ∧ -(2 ^ 62) ≤ j ∧ j < 2 ^ 62 then some (rng i (j - i).toNat, s1) else none
  | _ => none
section
variable {X : Cx} {C : Cc} {tg e a b : Expr} {fe : FE} {f : FA} {p pos : Pos}
/-- a tuple or a list -/
theorem ji_seq (h : JE X C e fe) : JI X C tg e (fIt fe) := by
  refine ⟨fun pins s σ H R I q => ?_⟩
  obtain ⟨B, F, st, r, s', J, hf, k⟩ := q
  unfold fIt at hf
  split at hf
  · rename_i xs s1 e1
    cases hf
    refine (pi_tup h).run pins s σ H R I ⟨B, F, st, _, _, J, e1, fun v F' H' e2 J2 z => ?_⟩
    cases z with
    | tup hx ax => exact ⟨_, rfl, ⟨_, ex_t J2.fh hx⟩, k F' H' _ e2 J2 (walkD_tup hx ax)⟩
  · rename_i xs s1 e1
    cases hf
    refine (pi_list h).run pins s σ H R I ⟨B, F, st, _, _, J, e1, fun v F' H' e2 J2 z => ?_⟩
    cases z with
    | lst hx ax => exact ⟨_, rfl, ⟨_, SqL.of (J2.fh _ _ hx)⟩, k F' H' _ e2 J2 (walkD_list hx ax)⟩
  · cases hf
theorem ji_range1 (hg : Gl X "range") (hm : X.mg "range" = none) (ha : JAs X C [a] f) (hs : starEach [a] X.env = [(false, eval a X.env)] := by rfl) : JI X C tg (.Call (.Name "range" p) [a] [] pos) (fRng1 f) := by
  refine pi_sub_ (pi_range1 hg hm ha.pa hs) fun σ H R q => ?_
  obtain ⟨B, F, st, r, s', J, hf, k⟩ := q
  unfold fRng1 at hf
  split at hf
  · rename_i n s1 e1
    split at hf
    · rename_i hn
      cases hf
      refine ⟨B, F, st, _, _, J, e1, fun vs F' H' e2 J2 z => ?_⟩
      obtain ⟨v, rfl, z1⟩ := one_frz z
      cases z1
      exact ⟨n, rfl, hn.1, hn.2, k F' H' _ e2 J2 walkD_range⟩
    · cases hf
  · cases hf
theorem ji_range2 (hg : Gl X "range") (hm : X.mg "range" = none) (ha : JAs X C [a, b] f) (hs : starEach [a, b] X.env = [(false, eval a X.env), (false, eval b X.env)] := by rfl) (hs2 : starEach [b] X.env = [(false, eval b X.env)] := by rfl) :
    JI X C tg (.Call (.Name "range" p) [a, b] [] pos) (fRng2 f) := by
  refine pi_sub_ (pi_range2 hg hm ha.pa hs hs2) fun σ H R q => ?_
  obtain ⟨B, F, st, r, s', J, hf, k⟩ := q
  unfold fRng2 at hf
  split at hf
  · rename_i i j s1 e1
    split at hf
    · rename_i hn
      cases hf
      refine ⟨B, F, st, _, _, J, e1, fun vs F' H' e2 J2 z => ?_⟩
      cases z with
      | cons z1 z2 =>
        obtain ⟨v, rfl, z3⟩ := one_frz z2
        cases z1
        cases z3
        exact ⟨i, j, rfl, hn, k F' H' _ e2 J2 walkD_range⟩
    · cases hf
  · cases hf
end

/-! ### for -/
def forGo (g : FG) (fb : FS) : List PyData → FS
  | [], s => some (.nx s)
  | x :: xs, s => match g (.d x) s with
    | some s1 => (match fb s1 with
      | some (.nx s2) => forGo g fb xs s2
      | some (.ct s2) => forGo g fb xs s2
      | some (.bk s2) => some (.nx s2)
      | some (.rt v s2) => some (.rt v s2)
      | none => none)
    | none => none
def fFor (fi : FL) (g : FG) (fb : FS) : FS := fun s => match fi s with
  | some (xs, s1) => forGo g fb xs s1
  | none => none
theorem drop_get {α : Type} {l : List α} {i : Nat} {x : α} (h : l[i]? = some x) : l.drop i = x :: l.drop (i + 1) := by
  obtain ⟨h1, rfl⟩ := List.getElem?_eq_some_iff.mp h
  exact List.drop_eq_getElem_cons h1
theorem OutOk.ex {T : Cfg} {B : Bg} {F F' : Hp} {D : Ends} {o : Out} (e : Ex F F') (h : OutOk T B F D o) : OutOk T B F' D o := by
  cases o with
  | nx s => exact fun σ' F2 H' e2 J => h σ' F2 H' (e.trans e2) J
  | rt v s => exact fun w σ' F2 H' e2 J z => h w σ' F2 H' (e.trans e2) J z
  | bk s => exact fun σ' F2 H' e2 J => h σ' F2 H' (e.trans e2) J
  | ct s => exact fun σ' F2 H' e2 J => h σ' F2 H' (e.trans e2) J
section
variable {X : Cx} {C : Cc} {tg iter : Expr} {body : List Stmt} {fi : FL} {ws : List Nat} {g : FG} {fb : FS} {pos : Pos}
theorem js_for (hp : PassesOwn (model X.prog X.w) X.A X.env X.xe) (hc : X.calm = true) (hi : JI X C tg iter fi) (hg : JG X C tg ws g) (hb : JSs X C body fb) (hs : ∀ x, foldedSetIterable iter X.env x = pure x := by intro _; rfl) :
    JS X C (.For tg iter body [] pos) (fFor fi g fb) := by
  refine ps_sub_ (ps_for hp hc hi hg hb hs) fun D σ H q => ?_
  obtain ⟨B, F, s, o, J, hf, k⟩ := q
  unfold fFor at hf
  split at hf
  · rename_i xs s1 e1
    refine ⟨B, F, s, xs, s1, J, e1, fun F1 H1 Jt x1 J1 W => ?_⟩
    have k1 := k.ex x1
    refine for_it W (fun i σ' H' => ∃ F2 s2, Ex F1 F2 ∧ EnvOk (Cx.T X C) B F2 H' σ' s2 ∧ forGo g fb (xs.drop i) s2 = some o) ⟨F1, s1, Ex.refl F1, J1, by simpa using hf⟩ (fun i σ' H' _ ⟨F2, s2, e2, J2, _⟩ => e2.trans J2.fh) ?_ ?_
    · rintro i x σ' H' H2 hi ⟨F2, s2, e2, J2, go⟩ y
      obtain ⟨F3, d, G, hd, z⟩ := y F2 e2 J2.fh
      rw [drop_get hd] at go
      unfold forGo at go
      split at go
      · rename_i s3 e3
        refine ⟨B, F3, s2, .d d, s3, J2.grow G, z, e3, fun σ3 J3 _ => ?_⟩
        have k3 := k1.ex (e2.trans G.f)
        split at go
        · rename_i s4 e4
          exact ⟨B, F3, s3, _, J3, e4, fun σ5 F5 H5 x5 J5 => ⟨F5, s4, (e2.trans G.f).trans x5, J5, go⟩⟩
        · rename_i s4 e4
          exact ⟨B, F3, s3, _, J3, e4, fun σ5 F5 H5 x5 J5 => ⟨F5, s4, (e2.trans G.f).trans x5, J5, go⟩⟩
        · rename_i s4 e4
          cases go
          exact ⟨B, F3, s3, _, J3, e4, k3⟩
        · rename_i v s4 e4
          cases go
          exact ⟨B, F3, s3, _, J3, e4, k3⟩
        · cases go
      · cases go
    · rintro σ' H' ⟨F2, s2, e2, J2, go⟩
      rw [List.drop_length] at go
      cases go
      exact k1 σ' F2 H' e2 J2
  · cases hf
end

/-! ### comprehensions -/
def wipeG (Γ : List (Option AV)) : List Nat → List (Option AV)
  | [] => Γ
  | v :: vs => (wipeG Γ vs).set v none
def wipeS (s : S) (vs : List Nat) : S := { s with Γ := wipeG s.Γ vs }
def fYes : FB := fun s => some (true, s)
def lcGo (g : FG) (ft : FB) (fe : FE) (vs : List Nat) : List PyData → List PyData → S → Option (List PyData × S)
  | [], acc, s => some (acc, s)
  | x :: xs, acc, s => match g (.d x) s with
    | some s1 => (match ft s1 with
      | some (true, s2) => (match fe s2 with
        | some (.d y, s3) => if acc.length < sizeLine then lcGo g ft fe vs xs (acc ++ [y]) (wipeS s3 vs) else none
        | _ => none)
      | some (false, s2) => lcGo g ft fe vs xs acc (wipeS s2 vs)
      | none => none)
    | none => none
def fLc (fi : FL) (g : FG) (ft : FB) (fe : FE) (vs : List Nat) : FL := fun s => match fi s with
  | some (xs, s1) => lcGo g ft fe vs xs [] (wipeS s1 vs)
  | none => none
theorem wipeG_len (Γ : List (Option AV)) : ∀ vs : List Nat, (wipeG Γ vs).length = Γ.length
  | [] => rfl
  | v :: vs => by unfold wipeG; rw [List.length_set, wipeG_len Γ vs]
theorem wipeG_some {Γ : List (Option AV)} {i : Nat} {x : AV} : ∀ {vs : List Nat}, (wipeG Γ vs)[i]? = some (some x) → Γ[i]? = some (some x) ∧ i ∉ vs
  | [], h => ⟨h, by simp⟩
  | v :: vs, h => by
    unfold wipeG at h
    by_cases hi : i = v
    · subst hi
      by_cases hv : i < (wipeG Γ vs).length
      · rw [List.getElem?_set_self hv] at h; cases h
      · rw [List.getElem?_eq_none (by simpa using Nat.le_of_not_lt hv)] at h; cases h
    · rw [get_set_ne hi] at h
      obtain ⟨a, b⟩ := wipeG_some h
      exact ⟨a, by simp [hi, b]⟩
theorem wipeG_out {Γ : List (Option AV)} {i : Nat} : ∀ {vs : List Nat}, i ∉ vs → (wipeG Γ vs)[i]? = Γ[i]?
  | [], _ => rfl
  | v :: vs, h => by
    rw [List.mem_cons, not_or] at h
    unfold wipeG
    rw [get_set_ne h.1, wipeG_out h.2]
theorem wipeG_in {Γ : List (Option AV)} {i : Nat} : ∀ {vs : List Nat}, i ∈ vs → i < Γ.length → (wipeG Γ vs)[i]? = some none
  | [], h, _ => by simp at h
  | v :: vs, h, hl => by
    unfold wipeG
    by_cases e : i = v
    · subst e; exact List.getElem?_set_self (by rw [wipeG_len]; exact hl)
    · rw [get_set_ne e]
      exact wipeG_in ((List.mem_cons.mp h).resolve_left e) hl
theorem wipeS_idem (s : S) (vs : List Nat) : wipeS (wipeS s vs) vs = wipeS s vs := by
  unfold wipeS
  simp only [S.mk.injEq, and_true]
  refine List.ext_getElem? fun i => ?_
  by_cases hi : i ∈ vs
  · by_cases hl : i < s.Γ.length
    · rw [wipeG_in hi (by rw [wipeG_len]; exact hl), wipeG_in hi hl]
    · rw [List.getElem?_eq_none (by rw [wipeG_len, wipeG_len]; omega), List.getElem?_eq_none (by rw [wipeG_len]; omega)]
  · rw [wipeG_out hi]
section
variable {T : Cfg} {B : Bg} {F H : Hp} {σ σ' : L2.St} {s : S} {vs : List Nat}
/-- the comprehension's own slots are forgotten; elsewhere σ' is σ -/
theorem EnvOk.wiped (I : EnvOk T B F H σ s) (h : SameOff vs σ σ') : EnvOk T B F H σ' (wipeS s vs) := by
  obtain ⟨own, ho, hs⟩ := I.sl
  refine ⟨I.fh, I.f0, I.nw, I.kp, I.lv, I.tb, I.tq, I.ls, I.px, I.pd, ?_, own, ho, fun i av q => ?_⟩
  · show (wipeG s.Γ vs).length = _
    rw [wipeG_len, h.1, I.len]
  · obtain ⟨q1, q2⟩ := wipeG_some q
    obtain ⟨v, h1, h2⟩ := hs i av q1
    exact ⟨v, by rw [h.2 i q2]; exact h1, h2⟩
theorem wipe_off (σ : L2.St) (vs : List Nat) : SameOff vs σ (wipe σ vs) := ⟨wipe_length σ vs, fun i h => wipe_out h⟩
theorem off_wipe {ws : List Nat} (h : SameOff ws (wipe σ vs) σ') (hw : ∀ i ∈ ws, i ∈ vs) : wipe σ' vs = wipe σ vs := by
  have hl : σ'.length = σ.length := h.1.trans (wipe_length σ vs)
  refine List.ext_getElem? fun i => ?_
  by_cases hi : i ∈ vs
  · have a : ∀ τ : L2.St, i < τ.length → (wipe τ vs)[i]? = some none := fun τ ht => by
      cases e : (wipe τ vs)[i]? with
      | none => rw [List.getElem?_eq_none_iff, wipe_length] at e; omega
      | some o =>
        cases o with
        | none => rfl
        | some v => exact absurd hi (wipe_some e).2
    by_cases hlt : i < σ.length
    · rw [a σ' (by omega), a σ hlt]
    · rw [List.getElem?_eq_none (by rw [wipe_length]; omega), List.getElem?_eq_none (by rw [wipe_length]; omega)]
  · rw [wipe_out hi, wipe_out hi, h.2 i fun z => hi (hw i z), wipe_out hi]
theorem SameOff.mono {ws us : List Nat} (h : SameOff ws σ σ') (e : ∀ i ∈ ws, i ∈ us) : SameOff us σ σ' := ⟨h.1, fun i hi => h.2 i fun z => hi (e i z)⟩
theorem SameOff.symm {ws : List Nat} (h : SameOff ws σ σ') : SameOff ws σ' σ := ⟨h.1.symm, fun i hi => (h.2 i hi).symm⟩
end
section
variable {X : Cx} {C : Cc} {tg iter elt : Expr} {ifs : List Expr} {fi : FL} {ws vs : List Nat} {g : FG} {ft : FB} {fe : FE} {pos : Pos}
abbrev JTs (X : Cx) (C : Cc) (ifs : List Expr) (f : FB) : Prop := PTs X ifs (tT (Cx.T X C) f)
theorem jts_nil : JTs X C [] fYes := ⟨fun pins s σ H Q I q => pts_nil.run pins s σ H Q I (by
  obtain ⟨B, F, st, r, s', J, hf, k⟩ := q
  cases hf
  exact k F H (Ex.refl F) J)⟩
theorem jts_one {c : Expr} (h : JT X C c ft) : JTs X C [c] ft := pts_one h
theorem tL_lc {T : Cfg} {σ : L2.St} {H : Hp} {Q : VK} (hw : ∀ i ∈ ws, i ∈ vs) (h : tL T (fLc fi g ft fe vs) σ H Q) : tLc (tI T fi) (tG T ws g) (tT T ft) (tE T fe) vs σ H Q := by
  obtain ⟨B, F, s, r, s', J, hf, k⟩ := h
  unfold fLc at hf
  split at hf
  · rename_i xs s1 e1
    refine ⟨B, F, s, xs, s1, J, e1, fun F1 H1 Jt x1 J1 W D hD => ?_⟩
    have J1' : EnvOk T (B.with D (.lst [])) F1 (upd H1 D (.lst [])) (wipe σ vs) (wipeS s1 vs) := (J1.pxNew hD).wiped (wipe_off σ vs)
    refine lc_it W (fun i H' => ∃ F2 s2 us acc, Ex F1 F2 ∧ EnvOk T (B.with D (.lst us)) F2 H' (wipe σ vs) s2 ∧ DtAll T.K F2 us acc ∧ lcGo g ft fe vs (xs.drop i) acc s2 = some (r, s') ∧ wipeS s2 vs = s2) ⟨F1, _, [], [], Ex.refl F1, J1', .nil, by simpa using hf, wipeS_idem _ _⟩ (fun i H' _ ⟨F2, s2, _, _, e2, J2, _⟩ => e2.trans J2.fh) ?_ ?_
    · rintro i x H' H2 hi ⟨F2, s2, us, acc, e2, J2, za, go, _⟩ y
      obtain ⟨F3, d, G, hd, z⟩ := y F2 e2 J2.fh
      rw [drop_get hd] at go
      unfold lcGo at go
      split at go
      · rename_i s3 e3
        refine ⟨_, F3, s2, .d d, s3, J2.grow G, z, e3, fun σ3 J3 w3 => ⟨off_wipe w3 hw, ?_⟩⟩
        have fin : ∀ {F5 H5 s5 us5 acc5}, EnvOk T (B.with D (.lst us5)) F5 H5 σ3 s5 → Ex F3 F5 → DtAll T.K F5 us5 acc5 → lcGo g ft fe vs (xs.drop (i + 1)) acc5 (wipeS s5 vs) = some (r, s') →
            ∃ F2 s2 us acc, Ex F1 F2 ∧ EnvOk T (B.with D (.lst us)) F2 H5 (wipe σ vs) s2 ∧ DtAll T.K F2 us acc ∧ lcGo g ft fe vs (xs.drop (i + 1)) acc s2 = some (r, s') ∧ wipeS s2 vs = s2 := fun {F5 H5 s5 us5 acc5} J5 x5 z5 g5 =>
          ⟨F5, _, us5, acc5, (e2.trans G.f).trans x5, J5.wiped ((w3.mono hw).symm), z5, g5, wipeS_idem _ _⟩
        split at go
        · rename_i s4 e4
          refine ⟨_, F3, s3, true, s4, J3, e4, fun F4 H4 x4 J4 => ?_⟩
          split at go
          · rename_i y5 s5 e5
            split at go
            · rename_i hz
              refine iteT ⟨_, F4, s4, .d y5, s5, J4, e5, fun v F5 H5 x5 J5 z5 => ⟨us, (J5.px (D, .lst us) List.mem_cons_self).1, ?_, ?_⟩⟩
              · rw [(dtAll_ex ((G.f.trans x4).trans x5) _ _ za).len]; exact hz
              · exact fin (J5.pxUpd _) (x4.trans x5) (Tk.DtAll.app (dtAll_ex ((G.f.trans x4).trans x5) _ _ za) (.one z5)) go
            · cases go
          · cases go
        · rename_i s4 e4
          exact ⟨_, F3, s3, false, s4, J3, e4, fun F4 H4 x4 J4 => iteF (fin J4 x4 (dtAll_ex (G.f.trans x4) _ _ za) go)⟩
        · cases go
      · cases go
    · rintro H' ⟨F2, s2, us, acc, e2, J2, za, go, hw2⟩
      rw [List.drop_length] at go
      cases go
      have J3 := J2.wiped (σ' := σ) (vs := vs) (wipe_off σ vs).symm
      rw [hw2] at J3
      exact k D us F2 H' (x1.trans e2) J3 za
  · cases hf
/-- [elt for tg in iter if ..] -/
theorem jl_lc {scope : Scope} {own : List (Str × Nat)} (hc : X.calm = true) (hN : X.N.Nodup) (hi : JI X C tg iter fi) (ok : BlkOk X.N X.env.scope scope own)
    (hg : ∀ (s : Shared) (H : Hp) (Cb : Addr) (cl : List (Str × Addr)) (fp : List Addr), JG (X.blk s H scope (compEnvC scope cl Cb X.env) fp) C tg ws g) (ht : ∀ (s : Shared) (H : Hp) (Cb : Addr) (cl : List (Str × Addr)) (fp : List Addr), JTs (X.blk s H scope (compEnvC scope cl Cb X.env) fp) C ifs ft)
    (he : ∀ (s : Shared) (H : Hp) (Cb : Addr) (cl : List (Str × Addr)) (fp : List Addr), JE (X.blk s H scope (compEnvC scope cl Cb X.env) fp) C elt fe) (hw : ∀ i ∈ ws, i ∈ own.map (·.2) := by decide) (hs : ∀ x, foldedSetIterable iter X.env x = pure x := by intro _; rfl) :
    JL X C (.ListComp elt [⟨tg, iter, ifs, 0⟩] scope pos) (fLc fi g ft fe (own.map (·.2))) :=
  pe_sub_ (pe_lc hc hN hi ok hg ht he hs) fun _ _ _ h => tL_lc hw h
end

/-! ### statements -/
def fSkip : FS := fun s => some (.nx s)
def fSeq (f h : FS) : FS := fun s => match f s with
  | some (.nx s1) => h s1
  | o => o
def fSet (i : Nat) (f : FE) : FS := fun s => match f s with
  | some (a, s1) => some (.nx { s1 with Γ := s1.Γ.set i (some a) })
  | none => none
def fSetL (i : Nat) (f : FL) : FS := fun s => match f s with
  | some (xs, s1) => some (.nx { s1 with Γ := s1.Γ.set i (some (.ml xs)) })
  | none => none
def fAsg (g : FG) (f : FE) : FS := fun s => match f s with
  | some (a, s1) => (match g a s1 with
    | some s2 => some (.nx s2)
    | none => none)
  | none => none
def fDrop (f : FE) : FS := fun s => match f s with
  | some (_, s1) => some (.nx s1)
  | none => none
def fRet (f : FE) : FS := fun s => match f s with
  | some (a, s1) => some (.rt a s1)
  | none => none
def fRetN : FS := fun s => some (.rt (.d .none) s)
def fIfS (t : FB) (f h : FS) : FS := fun s => match t s with
  | some (true, s1) => f s1
  | some (false, s1) => h s1
  | none => none
def fBreak : FS := fun s => some (.bk s)
def fCont : FS := fun s => some (.ct s)
def fNever : FS := fun _ => none
section
variable {X : Cx} {C : Cc} {e tg c : Expr} {st : Stmt} {rest a b : List Stmt} {fe : FE} {fl : FL} {f h : FS} {t : FB} {i : Nat} {pos : Pos} {ws : List Nat} {g : FG}
theorem jss_nil : JSs X C [] fSkip := pss_sub_ pss_nil fun D σ H q => by
  obtain ⟨B, F, s, o, J, hf, k⟩ := q
  cases hf
  exact k σ F H (Ex.refl F) J
theorem jss_cons (h1 : JS X C st f) (h2 : JSs X C rest h) : JSs X C (st :: rest) (fSeq f h) := by
  refine pss_sub_ (pss_cons h1 h2) fun D σ H q => ?_
  obtain ⟨B, F, s, o, J, hf, k⟩ := q
  unfold fSeq at hf
  split at hf
  · rename_i s1 e1
    exact ⟨B, F, s, _, J, e1, fun σ' F' H' x1 J1 => ⟨B, F', s1, o, J1, hf, k.ex x1⟩⟩
  · rename_i o1 hne
    refine ⟨B, F, s, o, J, hf, ?_⟩
    cases o with
    | nx s1 => exact absurd hf (hne s1)
    | rt v s1 => exact k
    | bk s1 => exact k
    | ct s1 => exact k
theorem jss_one (h1 : JS X C st f) : JSs X C [st] f := pss_one h1
theorem js_ofAsg (hp : PS X st (tAsg (tE (Cx.T X C) fe) (gName i))) : JS X C st (fSet i fe) := by
  refine ps_sub_ hp fun D σ H q => ?_
  obtain ⟨B, F, s, o, J, hf, k⟩ := q
  unfold fSet at hf
  split at hf
  · rename_i a s1 e1
    cases hf
    exact ⟨B, F, s, a, s1, J, e1, fun v F' H' x1 J1 z => k _ F' H' x1 (J1.put i z)⟩
  · cases hf
theorem js_ofAsgL (hp : PS X st (tAsg (tL (Cx.T X C) fl) (gName i))) : JS X C st (fSetL i fl) := by
  refine ps_sub_ hp fun D σ H q => ?_
  obtain ⟨B, F, s, o, J, hf, k⟩ := q
  unfold fSetL at hf
  split at hf
  · rename_i xs s1 e1
    cases hf
    exact ⟨B, F, s, xs, s1, J, e1, fun p vs F' H' x1 J1 z => k _ F' H' x1 (J1.pxOwn i fun own ho => ⟨p, vs, rfl, ho, (J1.px (p, .lst vs) List.mem_cons_self).1, z⟩)⟩
  · cases hf
theorem js_set {x : Str} {pos' : Pos} (i : Nat) (hN : X.N.Nodup) (hi : X.N[i]? = some x) (hx : Loc X.env.scope x) (he : JE X C e fe) (hs : swapsWith e (some (.Name x pos')) pos.line X.env = pure false := by rfl) (hf : X.fn x = true ∨ X.env.scope.names.lookup x = some .local := by first | exact .inl rfl | exact .inr rfl | assumption) :
    JS X C (.Assign [.Name x pos'] e pos) (fSet i fe) := js_ofAsg (ps_set hN hi hx he hs hf)
theorem js_setL {x : Str} {pos' : Pos} (i : Nat) (hN : X.N.Nodup) (hi : X.N[i]? = some x) (hx : Loc X.env.scope x) (he : JL X C e fl) (hs : swapsWith e (some (.Name x pos')) pos.line X.env = pure false := by rfl) (hf : X.fn x = true ∨ X.env.scope.names.lookup x = some .local := by first | exact .inl rfl | exact .inr rfl | assumption) :
    JS X C (.Assign [.Name x pos'] e pos) (fSetL i fl) := js_ofAsgL (ps_set hN hi hx he hs hf)
/-- x = [.. for ..] on one line -/
theorem js_setLc {y : Str} {py spos : Pos} {elt iter : Expr} {ifs : List Expr} {scope : Scope} {own : List (Str × Nat)} {fi : FL} {ft : FB} (i : Nat) (hc : X.calm = true) (hN : X.N.Nodup) (hy : X.N[i]? = some y) (hyl : X.env.scope.names.lookup y = some .local)
    (hsw : swapsWith (.ListComp elt [⟨tg, iter, ifs, 0⟩] scope pos) (some (.Name y py)) spos.line X.env = pure true) (hi : JI X C tg iter fi) (ok : BlkOk X.N X.env.scope scope own)
    (hg : ∀ (s : Shared) (H : Hp) (Cb : Addr) (cl : List (Str × Addr)) (fp : List Addr), JG (X.blk s H scope (compEnvC scope cl Cb X.env) fp) C tg ws g) (ht : ∀ (s : Shared) (H : Hp) (Cb : Addr) (cl : List (Str × Addr)) (fp : List Addr), JTs (X.blk s H scope (compEnvC scope cl Cb X.env) fp) C ifs ft)
    (he : ∀ (s : Shared) (H : Hp) (Cb : Addr) (cl : List (Str × Addr)) (fp : List Addr), JE (X.blk s H scope (compEnvC scope cl Cb X.env) fp) C elt fe) (hw : ∀ i ∈ ws, i ∈ own.map (·.2) := by decide) (hs : ∀ x, foldedSetIterable iter X.env x = pure x := by intro _; rfl) :
    JS X C (.Assign [.Name y py] (.ListComp elt [⟨tg, iter, ifs, 0⟩] scope pos) spos) (fSetL i (fLc fi g ft fe (own.map (·.2)))) := by
  refine js_ofAsgL (ps_sub_ (ps_setLc (wi := tI (Cx.T X C) fi) (g := tG (Cx.T X C) ws g) (tt := tT (Cx.T X C) ft) (te := tE (Cx.T X C) fe) hc hN hy hyl hsw hi ok hg ht he hs) fun D σ H q => ?_)
  exact tL_lc hw q
theorem js_asg (he : JE X C e fe) (hg : JG X C tg ws g) (hs : swapsWithSole [tg] e pos.line X.env = pure false := by rfl) (hw : swappedStores [tg] e X.env = pure none := by rfl)
    (h1 : (assignEach [tg] X.env).map (·.2) = [assign tg X.env] := by rfl) : JS X C (.Assign [tg] e pos) (fAsg g fe) := by
  refine ps_sub_ (ps_asg he hg hs hw h1) fun D σ H q => ?_
  obtain ⟨B, F, s, o, J, hf, k⟩ := q
  unfold fAsg at hf
  split at hf
  · rename_i a s1 e1
    split at hf
    · rename_i s2 e2
      cases hf
      exact ⟨B, F, s, a, s1, J, e1, fun v F' H' x1 J1 z => ⟨B, F', s1, a, s2, J1, z, e2, fun σ' J2 _ => k σ' F' H' x1 J2⟩⟩
    · cases hf
  · cases hf
theorem js_expr (he : JE X C e fe) (hs : swapsWith e none pos.line X.env = pure false := by rfl) : JS X C (.Expr e pos) (fDrop fe) := by
  refine ps_sub_ (ps_expr he hs) fun D σ H q => ?_
  obtain ⟨B, F, s, o, J, hf, k⟩ := q
  unfold fDrop at hf
  split at hf
  · rename_i a s1 e1
    cases hf
    exact ⟨B, F, s, a, s1, J, e1, fun v F' H' x1 J1 z => k _ F' H' x1 J1⟩
  · cases hf
theorem js_ret (he : JE X C e fe) : JS X C (.Return (some e) pos) (fRet fe) := by
  refine ps_sub_ (ps_ret he) fun D σ H q => ?_
  obtain ⟨B, F, s, o, J, hf, k⟩ := q
  unfold fRet at hf
  split at hf
  · rename_i a s1 e1
    cases hf
    exact ⟨B, F, s, a, s1, J, e1, fun v F' H' x1 J1 z => k v σ F' H' x1 J1 z⟩
  · cases hf
theorem js_retN : JS X C (.Return none pos) fRetN := by
  refine ps_sub_ ps_retN fun D σ H q => ?_
  obtain ⟨B, F, s, o, J, hf, k⟩ := q
  cases hf
  exact k .non σ F H (Ex.refl F) J .non
theorem js_if (hc : JT X C c t) (ha : JSs X C a f) (hb : JSs X C b h) : JS X C (.If c a b pos) (fIfS t f h) := by
  refine ps_sub_ (ps_if hc ha hb) fun D σ H q => ?_
  obtain ⟨B, F, s, o, J, hf, k⟩ := q
  unfold fIfS at hf
  split at hf
  · rename_i s1 e1
    exact ⟨B, F, s, true, s1, J, e1, fun F' H' x1 J1 => iteT ⟨B, F', s1, o, J1, hf, k.ex x1⟩⟩
  · rename_i s1 e1
    exact ⟨B, F, s, false, s1, J, e1, fun F' H' x1 J1 => iteF ⟨B, F', s1, o, J1, hf, k.ex x1⟩⟩
  · cases hf
theorem js_break : JS X C (.Break pos) fBreak := ps_sub_ ps_break fun D σ H q => by
  obtain ⟨B, F, s, o, J, hf, k⟩ := q
  cases hf
  exact k σ F H (Ex.refl F) J
theorem js_cont : JS X C (.Continue pos) fCont := ps_sub_ ps_continue fun D σ H q => by
  obtain ⟨B, F, s, o, J, hf, k⟩ := q
  cases hf
  exact k σ F H (Ex.refl F) J
theorem js_pass : JS X C (.Pass pos) fSkip := ps_sub_ ps_pass fun D σ H q => by
  obtain ⟨B, F, s, o, J, hf, k⟩ := q
  cases hf
  exact k σ F H (Ex.refl F) J
theorem js_never : JS X C st fNever := ps_sub_ ps_never fun D σ H q => by
  obtain ⟨B, F, s, o, J, hf, k⟩ := q
  cases hf
end

/-! ### while -/
def whileN (t : FB) (f : FS) : Nat → FS
  | 0, _ => none
  | n + 1, s => match t s with
    | some (true, s1) => (match f s1 with
      | some (.nx s2) => whileN t f n s2
      | some (.ct s2) => whileN t f n s2
      | some (.bk s2) => some (.nx s2)
      | some (.rt v s2) => some (.rt v s2)
      | none => none)
    | some (false, s1) => some (.nx s1)
    | none => none
open Classical in
noncomputable def fWhile (t : FB) (f : FS) : FS := fun s => if h : ∃ n, (whileN t f n s).isSome = true then whileN t f h.choose s else none
theorem whileN_step {t : FB} {f : FS} : ∀ {n : Nat} {s : S} {o : Out}, whileN t f n s = some o → whileN t f (n + 1) s = some o
  | 0, _, _, h => by cases h
  | n + 1, s, o, h => by
    unfold whileN at h ⊢
    split at h
    · split at h
      · exact whileN_step h
      · exact whileN_step h
      · exact h
      · exact h
      · cases h
    · exact h
    · cases h
theorem whileN_le {t : FB} {f : FS} {n m : Nat} {s : S} {o : Out} (h : whileN t f n s = some o) (hl : n ≤ m) : whileN t f m s = some o := by
  induction hl with
  | refl => exact h
  | step _ ih => exact whileN_step ih
theorem fWhile_eq {t : FB} {f : FS} {n : Nat} {s : S} {o : Out} (h : whileN t f n s = some o) : fWhile t f s = some o := by
  have hx : ∃ n, (whileN t f n s).isSome = true := ⟨n, by rw [h]; rfl⟩
  unfold fWhile
  rw [dif_pos hx]
  obtain ⟨o', e⟩ := Option.isSome_iff_exists.mp hx.choose_spec
  have a := whileN_le e (Nat.le_max_left hx.choose n)
  have b := whileN_le h (Nat.le_max_right hx.choose n)
  rw [a] at b
  rw [e, b]
theorem fWhile_some {t : FB} {f : FS} {s : S} {o : Out} (h : fWhile t f s = some o) : ∃ n, whileN t f n s = some o := by
  unfold fWhile at h
  split at h
  · rename_i hx; exact ⟨_, h⟩
  · cases h
section
variable {X : Cx} {C : Cc} {c : Expr} {body : List Stmt} {t : FB} {f : FS} {pos : Pos}
theorem js_while (hp : PassesOwn (model X.prog X.w) X.A X.env X.xe) (hc : JT X C c t) (hb : JSs X C body f) : JS X C (.While c body [] pos) (fWhile t f) := by
  refine ps_sub_ (ps_while hp hc hb) fun D σ H q => ?_
  obtain ⟨B, F, s, o, J, hf, k⟩ := q
  obtain ⟨n, hn⟩ := fWhile_some hf
  refine ⟨fun m σ' H' => ∃ F2 s2, Ex F F2 ∧ EnvOk (Cx.T X C) B F2 H' σ' s2 ∧ whileN t f m s2 = some o, ⟨n, F, s, Ex.refl F, J, hn⟩, ?_⟩
  rintro m σ' H' ⟨F2, s2, e2, J2, hm⟩
  cases m with
  | zero => cases hm
  | succ m =>
    have k2 := k.ex e2
    unfold whileN at hm
    split at hm
    · rename_i s3 e3
      refine ⟨B, F2, s2, true, s3, J2, e3, fun F3 H3 x3 J3 => iteT ?_⟩
      have again : ∀ {s4 : S}, whileN t f m s4 = some o → ∀ σ' F' H', Ex F3 F' → EnvOk (Cx.T X C) B F' H' σ' s4 → ∃ m', m' < m + 1 ∧ ∃ F2 s2, Ex F F2 ∧ EnvOk (Cx.T X C) B F2 H' σ' s2 ∧ whileN t f m' s2 = some o :=
        fun {s4} h4 σ' F' H' x J' => ⟨m, Nat.lt_succ_self m, F', s4, (e2.trans x3).trans x, J', h4⟩
      refine ⟨fun σ' H' => ∃ m', m' < m + 1 ∧ ∃ F2 s2, Ex F F2 ∧ EnvOk (Cx.T X C) B F2 H' σ' s2 ∧ whileN t f m' s2 = some o, fun σ' H' h => h, ?_⟩
      split at hm
      · rename_i s4 e4; exact ⟨B, F3, s3, _, J3, e4, again hm⟩
      · rename_i s4 e4; exact ⟨B, F3, s3, _, J3, e4, again hm⟩
      · rename_i s4 e4; cases hm; exact ⟨B, F3, s3, _, J3, e4, k2.ex x3⟩
      · rename_i v s4 e4; cases hm; exact ⟨B, F3, s3, _, J3, e4, k2.ex x3⟩
      · cases hm
    · rename_i s3 e3
      cases hm
      exact ⟨B, F2, s2, false, s3, J2, e3, fun F3 H3 x3 J3 => iteF (k2 σ' F3 H3 x3 J3)⟩
    · cases hm
end
end Tk

set_option Elab.async false
set_option linter.all false
set_option maxRecDepth 100000
set_option maxHeartbeats 4000000
/-! Tk, part E: what a local owns, by its name; dicts with nested keys. -/
namespace Tk
open PySem PySem.Spec PyProof.Rows L2
open Evl (Ex ex_l ex_t fresh_back)

/-! ### equality of data -/
mutual
def same : PyData → PyData → Bool
  | .none, .none => true
  | .bool a, .bool b => a == b
  | .int a, .int b => decide (a = b)
  | .str a, .str b => decide (a = b)
  | .list a, .list b => sames a b
  | .tuple a, .tuple b => sames a b
  | .dict a, .dict b => sameP a b
  | _, _ => false
def sames : List PyData → List PyData → Bool
  | [], [] => true
  | a :: as, b :: bs => same a b && sames as bs
  | _, _ => false
def sameP : List (PyData × PyData) → List (PyData × PyData) → Bool
  | [], [] => true
  | (a, c) :: as, (b, d) :: bs => same a b && same c d && sameP as bs
  | _, _ => false
end
mutual
theorem same_self : ∀ a : PyData, same a a = true
  | .none => rfl
  | .bool a => by simp [same]
  | .int a => by simp [same]
  | .str a => by simp [same]
  | .list a => by rw [same]; exact sames_self a
  | .tuple a => by rw [same]; exact sames_self a
  | .dict a => by rw [same]; exact sameP_self a
theorem sames_self : ∀ a : List PyData, sames a a = true
  | [] => rfl
  | a :: as => by rw [sames, same_self a, sames_self as]; rfl
theorem sameP_self : ∀ a : List (PyData × PyData), sameP a a = true
  | [] => rfl
  | (a, c) :: as => by rw [sameP, same_self a, same_self c, sameP_self as]; rfl
end
mutual
theorem of_same : ∀ a b : PyData, same a b = true → a = b
  | .none, b, h => by cases b <;> simp [same] at h; rfl
  | .bool a, b, h => by cases b <;> simp [same] at h; rw [h]
  | .int a, b, h => by cases b <;> simp [same] at h; rw [h]
  | .str a, b, h => by cases b <;> simp [same] at h; rw [h]
  | .list a, b, h => by cases b <;> simp [same] at h; rw [of_sames a _ h]
  | .tuple a, b, h => by cases b <;> simp [same] at h; rw [of_sames a _ h]
  | .dict a, b, h => by cases b <;> simp [same] at h; rw [of_sameP a _ h]
theorem of_sames : ∀ a b : List PyData, sames a b = true → a = b
  | [], b, h => by cases b <;> simp [sames] at h; rfl
  | a :: as, b, h => by
    cases b with
    | nil => simp [sames] at h
    | cons b bs => simp [sames] at h; rw [of_same a b h.1, of_sames as bs h.2]
theorem of_sameP : ∀ a b : List (PyData × PyData), sameP a b = true → a = b
  | [], b, h => by cases b <;> simp [sameP] at h; rfl
  | (a, c) :: as, b, h => by
    match b with
    | [] => simp [sameP] at h
    | (b, d) :: bs =>
      simp [sameP] at h
      rw [of_same a b h.1.1, of_same c d h.1.2, of_sameP as bs h.2]
end
instance : DecidableEq PyData := fun a b => if h : same a b = true then .isTrue (of_same a b h) else .isFalse fun e => h (by rw [e]; exact same_self b)

/-! ### dicts with nested keys -/
def kget (kvs : List (PyData × PyData)) (k : PyData) : Option PyData := (kvs.find? fun p => decide (p.1 = k)).map (·.2)
def kput (kvs : List (PyData × PyData)) (k v : PyData) : List (PyData × PyData) := if (kget kvs k).isSome then kvs.map fun p => if p.1 = k then (p.1, v) else p else kvs ++ [(k, v)]
/-- the key of a datum that may be one -/
def keyOf (d : PyData) : Option NestedKey := match d with
  | .tuple xs => (match nk (.tuple xs) with
    | some k => if k.depth ≤ 8 then some k else none
    | none => none)
  | _ => none
theorem keyOf_some {d : PyData} {k : NestedKey} (h : keyOf d = some k) : nk d = some k ∧ k.depth ≤ 8 ∧ ∃ xs, d = .tuple xs := by
  unfold keyOf at h
  split at h
  · split at h
    · split at h
      · rename_i e hd; cases h; exact ⟨e, hd, _, rfl⟩
      · cases h
    · cases h
  · cases h
abbrev RL : KEnt → NestedKey × Addr × Value → Prop := fun p q => p.1 = q.1 ∧ p.2.1 = q.2.1 ∧ RelV p.2.2 q.2.2
section
variable {K : PySem.W.Frag} {F : Hp}
theorem look_rel {d : PyData} {k : NestedKey} (hk : nk d = some k) : ∀ {kvs : List (PyData × PyData)} {L : List KEnt} {xs : List (NestedKey × Addr × Value)}, KPair K F kvs L → Paired RL L xs →
    (kget kvs d = none ∧ atKey xs k = none) ∨ ∃ y w v, kget kvs d = some y ∧ atKey xs k = some w ∧ RelV v w.2 ∧ Dt K F v y
  | [], _, _, a, b => by
    cases a; cases b
    exact .inl ⟨rfl, rfl⟩
  | p :: kvs, _, _, a, b => by
    cases a with
    | cons a1 a2 =>
      cases b with
      | cons b1 b2 =>
        rename_i q L x xs
        obtain ⟨n1, n2, n3, n4⟩ := a1
        obtain ⟨r1, r2, r3⟩ := b1
        by_cases c : p.1 = d
        · have e2 : x.1 = k := by rw [← r1]; rw [c, hk] at n1; exact (Option.some.inj n1).symm
          exact .inr ⟨p.2, x.2, q.2.2, by simp [kget, c], by simp [atKey, e2], r3, n4⟩
        · have e2 : x.1 ≠ k := fun z => c (nk_inj _ _ k (by rw [n1, r1, z]) hk)
          rcases look_rel hk a2 b2 with ⟨h1, h2⟩ | ⟨y, w, v, h1, h2, h3⟩
          · exact .inl ⟨by simpa [kget, c] using h1, by simpa [atKey, e2] using h2⟩
          · exact .inr ⟨y, w, v, by simpa [kget, c] using h1, by simpa [atKey, e2] using h2, h3⟩
theorem put_rel {d y : PyData} {k : NestedKey} {a : Addr} {v : V} {u : Value} (hk : nk d = some k) (hd : k.depth ≤ 8) (ha : Dt K F (.ref a) d) (hv : Dt K F v y) (rv : RelV v u) {kvs : List (PyData × PyData)} {L : List KEnt} {xs : List (NestedKey × Addr × Value)}
    (h1 : KPair K F kvs L) (h2 : Paired RL L xs) : ∃ L', KPair K F (kput kvs d y) L' ∧ Paired RL L' (storedH xs k a u) := by
  have mapd : ∀ {kvs : List (PyData × PyData)} {L : List KEnt} {xs : List (NestedKey × Addr × Value)}, KPair K F kvs L → Paired RL L xs → ∃ L', KPair K F (kvs.map fun p => if p.1 = d then (p.1, y) else p) L' ∧ Paired RL L' (xs.map (putAt k u)) := by
    intro kvs
    induction kvs with
    | nil => intro L xs a b; cases a; cases b; exact ⟨[], .nil, .nil⟩
    | cons p kvs ih =>
      intro L xs h1 h2
      cases h1 with
      | cons a1 a2 =>
        cases h2 with
        | cons b1 b2 =>
          rename_i q L x xs
          obtain ⟨L', l1, l2⟩ := ih a2 b2
          obtain ⟨n1, n2, n3, n4⟩ := a1
          obtain ⟨r1, r2, r3⟩ := b1
          by_cases c : p.1 = d
          · have e2 : x.1 = k := by rw [← r1]; rw [c, hk] at n1; exact (Option.some.inj n1).symm
            refine ⟨(q.1, q.2.1, v) :: L', ?_, ?_⟩
            · rw [List.map_cons, if_pos c]
              exact .cons ⟨n1, n2, n3, hv⟩ l1
            · rw [List.map_cons]
              unfold putAt
              rw [if_pos e2]
              exact .cons ⟨r1, r2, rv⟩ l2
          · have e2 : x.1 ≠ k := fun z => c (nk_inj _ _ k (by rw [n1, r1, z]) hk)
            refine ⟨q :: L', ?_, ?_⟩
            · rw [List.map_cons, if_neg c]
              exact .cons ⟨n1, n2, n3, n4⟩ l1
            · rw [List.map_cons]
              unfold putAt
              rw [if_neg e2]
              exact .cons ⟨r1, r2, r3⟩ l2
  have appd : ∀ {kvs : List (PyData × PyData)} {L : List KEnt} {xs : List (NestedKey × Addr × Value)}, KPair K F kvs L → Paired RL L xs → ∃ L', KPair K F (kvs ++ [(d, y)]) L' ∧ Paired RL L' (xs ++ [(k, a, u)]) := by
    intro kvs
    induction kvs with
    | nil => intro L xs h1 h2; cases h1; cases h2; exact ⟨[(k, a, v)], .cons ⟨hk, hd, ha, hv⟩ .nil, .cons ⟨rfl, rfl, rv⟩ .nil⟩
    | cons p kvs ih =>
      intro L xs h1 h2
      cases h1 with
      | cons a1 a2 =>
        cases h2 with
        | cons b1 b2 =>
          obtain ⟨L', l1, l2⟩ := ih a2 b2
          exact ⟨_ :: L', .cons a1 l1, .cons b1 l2⟩
  rcases look_rel hk h1 h2 with ⟨e1, e2⟩ | ⟨y', w, v', e1, e2, _⟩
  · obtain ⟨L', l1, l2⟩ := appd h1 h2
    refine ⟨L', ?_, ?_⟩
    · unfold kput; rw [e1]; exact l1
    · rw [storedH_new e2]; exact l2
  · obtain ⟨L', l1, l2⟩ := mapd h1 h2
    refine ⟨L', ?_, ?_⟩
    · unfold kput; rw [e1]; exact l1
    · rw [storedH_old e2]; exact l2
theorem KPair.len : ∀ {kvs : List (PyData × PyData)} {L : List KEnt}, KPair K F kvs L → kvs.length = L.length := fun h => Paired.length h
end
section
variable {X : Cx} {pins : List (Addr × Obj)} {σ : L2.St} {H F : Hp} {s : Shared}
mutual
theorem nested_of (I : Inv X pins σ H s) (e : Ex F H) : ∀ (d : PyData) (v : V) (u : Value) (k : NestedKey), Dt X.K F v d → RelV v u → nk d = some k → NestedIs s.heap k u
  | .none, _, _, _, h, r, q => by
    cases h; cases r; simp [nk] at q; subst q; exact .none
  | .int i, _, _, _, h, r, q => by
    cases h; obtain ⟨t, rfl⟩ := r; simp [nk] at q; subst q; exact .int i t
  | .str x, _, _, _, h, r, q => by
    cases h; obtain ⟨t, rfl⟩ := r; simp [nk] at q; subst q; exact .text x t
  | .tuple ds, _, _, k, h, r, q => by
    cases h with
    | tup hs ha =>
      cases r
      simp only [nk, Option.map_eq_some_iff] at q
      obtain ⟨ks, q1, rfl⟩ := q
      obtain ⟨its, rv, ⟨o, ho, hc, n, hd⟩, _⟩ := I.tuple (ex_t e hs)
      exact .tup ho hc hd (by simpa using nesteds_of I e ds _ its ks ha rv q1)
  | .bool _, _, _, _, _, _, q => by simp [nk] at q
  | .list _, _, _, _, _, _, q => by simp [nk] at q
  | .dict _, _, _, _, _, _, q => by simp [nk] at q
theorem nesteds_of (I : Inv X pins σ H s) (e : Ex F H) : ∀ (ds : List PyData) (vs : List V) (us : List Value) (ks : List NestedKey), DtAll X.K F vs ds → Vals vs us → nks ds = some ks → NestedAll s.heap ks us
  | [], _, _, ks, h, r, q => by
    cases h; cases r; simp [nks] at q; subst q; exact .nil
  | d :: ds, _, _, ks, h, r, q => by
    cases h with
    | cons h1 h2 =>
      cases r with
      | cons r1 r2 =>
        unfold nks at q
        split at q
        · rename_i a b qa qb
          cases q
          exact .cons (nested_of I e d _ _ a h1 r1 qa) (nesteds_of I e ds _ _ b h2 r2 qb)
        · cases q
end
/-- the dict in the model's own words -/
theorem dk_raw (I : Inv X pins σ H s) (e : Ex F H) {a : Addr} {L : List KEnt} {kvs : List (PyData × PyData)} (h : H a = some (DKO X.prog X.w a L)) (hp : KPair X.K F kvs L) :
    L.length ≤ sizeLine ∧ (a == sysModules) = false ∧ ∃ xs, Paired RL L xs ∧ s.heap.DictOfH (nestedKind X.prog X.w) a xs := by
  obtain ⟨⟨z, hd, xs, rel, o, es, ep, h1, h2, h3, h4, h5⟩, _⟩ := I.hok a _ h
  refine ⟨z, hd, xs, rel, o, es, ep, h1, h2, h3, h4, ?_, h5⟩
  have all : ∀ {kvs : List (PyData × PyData)} {L : List KEnt} {xs : List (NestedKey × Addr × Value)}, KPair X.K F kvs L → Paired RL L xs → ∀ x ∈ xs, (nestedKind X.prog X.w).is s.heap x.1 x.2.1 := by
    intro kvs
    induction kvs with
    | nil => intro L xs a b x hx; cases a; cases b; cases hx
    | cons p kvs ih =>
      intro L xs a b x hx
      cases a with
      | cons a1 a2 =>
        cases b with
        | cons b1 b2 =>
          rcases List.mem_cons.mp hx with rfl | hx
          · obtain ⟨n1, n2, n3, n4⟩ := a1
            obtain ⟨r1, r2, r3⟩ := b1
            rw [← r1, ← r2]
            exact ⟨nested_of I e _ _ _ _ n3 rfl n1, n2⟩
          · exact ih a2 b2 x hx
  exact all hp rel
theorem key_ref {d : PyData} {v : V} {k : NestedKey} (h : Dt X.K F v d) (hk : keyOf d = some k) : ∃ b, v = .ref b := by
  obtain ⟨_, _, xs, rfl⟩ := keyOf_some hk
  cases h
  exact ⟨_, rfl⟩
theorem key_is (I : Inv X pins σ H s) (e : Ex F H) {d : PyData} {b : Addr} {k : NestedKey} (h : Dt X.K F (.ref b) d) (hk : keyOf d = some k) : (nestedKind X.prog X.w).is s.heap k b := by
  obtain ⟨q1, q2, _⟩ := keyOf_some hk
  exact ⟨nested_of I e _ _ _ _ h rfl q1, q2⟩
theorem dko_write (I : Inv X pins σ H s) {a : Addr} {L L' : List KEnt} {h' : Heap} {t' : Nat} {xs : List (NestedKey × Addr × Value)} (h : H a = some (DKO X.prog X.w a L)) (hs : Heap.SameBut a s.heap h') (hz : L'.length ≤ sizeLine) (hd : (a == sysModules) = false)
    (rel : Paired RL L' xs) (new : h'.DictOfH (nestedKind X.prog X.w) a xs) : Inv X pins σ (upd H a (DKO X.prog X.w a L')) { s with heap := h', toks := t' } := by
  obtain ⟨o, es, ep, h1, h2, h3, h4, h5, h6⟩ := new
  refine I.write (x := a) (e := a) (by rw [h]; trivial) (.inl rfl) (fun b q hb z => (hs.2 b hb).trans z) ⟨o, h1⟩ ⟨⟨hz, hd, xs, rel, o, es, ep, h1, h2, h3, h4, h6⟩, ⟨o, h1⟩, fun g1 g2 p k => ?_⟩
  obtain ⟨z, hd, xs, rel, o, es, ep, e1, e2⟩ := p
  exact ⟨z, hd, xs, rel, o, es, ep, k o e1, e2⟩
end
section
variable {X : Cx} {pins : List (Addr × Obj)} {σ : L2.St} {H F : Hp} {s : Shared} {a b : Addr} {L : List KEnt} {kvs : List (PyData × PyData)} {d : PyData} {k : NestedKey} {A : Around} {E : Value → Shared → Prop}
theorem kd_getItem {Q : Value → Shared → Prop} {y : PyData} (hu : A.units + 9 < cLine) (I : Inv X pins σ H s) (e : Ex F H) (h : H a = some (DKO X.prog X.w a L)) (hp : KPair X.K F kvs L) (hb : Dt X.K F (.ref b) d) (hk : keyOf d = some k) (hy : kget kvs d = some y)
    (hq : ∀ v u s', Inv X pins σ H s' → RelV v u → Dt X.K F v y → Q u s') : wpAny (model X.prog X.w) A (getItem (.ref a) (.ref b)) Q E s := by
  obtain ⟨z, hd, xs, rel, dd⟩ := dk_raw I e h hp
  rcases look_rel (keyOf_some hk).1 hp rel with ⟨h1, _⟩ | ⟨y', w, v, h1, h2, h3, h4⟩
  · rw [h1] at hy; cases hy
  · rw [h1] at hy
    cases hy
    exact wpAny_getItem_heap (show A.units + 1 + 8 < cLine from hu) (key_is I e hb hk) dd h2 (hq v w.2 _ (I.tok _) h3 h4)
theorem kd_in {Q : Value → Shared → Prop} (hu : A.units + 9 < cLine) (I : Inv X pins σ H s) (e : Ex F H) (h : H a = some (DKO X.prog X.w a L)) (hp : KPair X.K F kvs L) (hb : Dt X.K F (.ref b) d) (hk : keyOf d = some k)
    (hq : ∀ s', Inv X pins σ H s' → Q (.bool (kget kvs d).isSome) s') : wpAny (model X.prog X.w) A (compareOp .In (.ref b) (.ref a)) Q E s := by
  obtain ⟨z, hd, xs, rel, dd⟩ := dk_raw I e h hp
  refine wpAny_in_heap (show A.units + 1 + 8 < cLine from hu) (key_is I e hb hk) hd dd ?_
  have e2 : (atKey xs k).isSome = (kget kvs d).isSome := by
    rcases look_rel (keyOf_some hk).1 hp rel with ⟨h1, h2⟩ | ⟨y', w, v, h1, h2, _⟩
    · rw [h1, h2] <;> rfl
    · rw [h1, h2] <;> rfl
  rw [e2]
  exact hq _ (I.tok _)
theorem kd_notIn {Q : Value → Shared → Prop} (hu : A.units + 9 < cLine) (I : Inv X pins σ H s) (e : Ex F H) (h : H a = some (DKO X.prog X.w a L)) (hp : KPair X.K F kvs L) (hb : Dt X.K F (.ref b) d) (hk : keyOf d = some k)
    (hq : ∀ s', Inv X pins σ H s' → Q (.bool (!(kget kvs d).isSome)) s') : wpAny (model X.prog X.w) A (compareOp .NotIn (.ref b) (.ref a)) Q E s := by
  obtain ⟨z, hd, xs, rel, dd⟩ := dk_raw I e h hp
  refine wpAny_notIn_heap (show A.units + 1 + 8 < cLine from hu) (key_is I e hb hk) hd dd ?_
  have e2 : (atKey xs k).isSome = (kget kvs d).isSome := by
    rcases look_rel (keyOf_some hk).1 hp rel with ⟨h1, h2⟩ | ⟨y', w, v, h1, h2, _⟩
    · rw [h1, h2] <;> rfl
    · rw [h1, h2] <;> rfl
  rw [e2]
  exact hq _ (I.tok _)
theorem kput_len (kvs : List (PyData × PyData)) (d y : PyData) : (kput kvs d y).length ≤ kvs.length + 1 := by
  unfold kput
  split
  · rw [List.length_map]; omega
  · rw [List.length_append, List.length_singleton]; omega
theorem kd_setItem {Q : Unit → Shared → Prop} {y : PyData} {v : V} {r : Value} (hu : A.units + 9 < cLine) (I : Inv X pins σ H s) (e : Ex F H) (h : H a = some (DKO X.prog X.w a L)) (hp : KPair X.K F kvs L) (hb : Dt X.K F (.ref b) d) (hk : keyOf d = some k)
    (hv : Dt X.K F v y) (rv : RelV v r) (hl : kvs.length < sizeLine) (hq : ∀ s' L', Inv X pins σ (upd H a (DKO X.prog X.w a L')) s' → KPair X.K F (kput kvs d y) L' → Q () s') : wpAny (model X.prog X.w) A (setItem (.ref a) (.ref b) r) Q E s := by
  obtain ⟨z, hd, xs, rel, dd⟩ := dk_raw I e h hp
  obtain ⟨L', l1, l2⟩ := put_rel (a := b) (u := r) (keyOf_some hk).1 (keyOf_some hk).2.1 hb hv rv hp rel
  have hxs : xs.length ≤ sizeLine := by rw [← Paired.length rel]; exact z
  refine wpAny_setItem_heap (show A.units + 1 + 8 < cLine from hu) (key_is I e hb hk) dd (fun h' new sb => hq _ L' (dko_write I h sb ?_ hd l2 new) l1) hxs
  have := kput_len kvs d y
  rw [← l1.len]
  omega
end

/-! ### by a local's name -/
def fLenV (i : Nat) : FE := fun s => match s.Γ[i]? with
  | some (some (.ml xs)) => some (.d (.int xs.length), s)
  | some (some (.d (.list xs))) => some (.d (.int xs.length), s)
  | some (some (.d (.tuple xs))) => some (.d (.int xs.length), s)
  | _ => none
/-- a look-up in what a local holds -/
def avIx : AV → AV → Option PyData
  | .ml xs, .d (.int j) => atI xs j
  | .d (.list xs), .d (.int j) => atI xs j
  | .d (.tuple xs), .d (.int j) => atI xs j
  | .md kvs, .d k => if (keyOf k).isSome then kget kvs k else none
  | .fd kvs, .d k => if (keyOf k).isSome then kget kvs k else none
  | _, _ => none
def fIxV (i : Nat) (f : FE) : FE := fun s => match s.Γ[i]? with
  | some (some _) => (match f s with
    | some (y, s1) => (match s1.Γ[i]? with
      | some (some c) => (match avIx c y with
        | some d => some (.d d, s1)
        | none => none)
      | _ => none)
    | none => none)
  | _ => none
def avIn : AV → AV → Option Bool
  | .d x, .ml ys => if SeqAt.shaped x = true ∧ SeqAt.shaped (.list ys) = true then some (ys.any fun z => PyData.eqv z x) else none
  | .d x, .d (.list ys) => if SeqAt.shaped x = true ∧ SeqAt.shaped (.list ys) = true then some (ys.any fun z => PyData.eqv z x) else none
  | .d x, .d (.tuple ys) => if SeqAt.shaped x = true ∧ SeqAt.shaped (.list ys) = true then some (ys.any fun z => PyData.eqv z x) else none
  | .d k, .md kvs => if (keyOf k).isSome then some (kget kvs k).isSome else none
  | .d k, .fd kvs => if (keyOf k).isSome then some (kget kvs k).isSome else none
  | _, _ => none
/-- x in the local i (neg: not in) -/
def fInV (neg : Bool) (i : Nat) (f : FE) : FE := fun s => match f s with
  | some (y, s1) => (match s1.Γ[i]? with
    | some (some c) => (match avIn y c with
      | some b => some (.d (.bool (if neg then !b else b)), s1)
      | none => none)
    | _ => none)
  | none => none
section
variable {X : Cx} {C : Cc} {e o a b : Expr} {f fe fv : FE} {i : Nat} {x : Str} {p pos : Pos}
theorem je_lenV (h : PE X e (tVar i)) (hg : Gl X "len") (hm : X.mg "len" = none) (hs : starEach [e] X.env = (false, eval e X.env) :: starEach [] X.env := by rfl) (hpl : (backTo pos (starEach [] X.env)).any (·.1) = false := by rfl) :
    JE X C (.Call (.Name "len" p) [e] [] pos) (fLenV i) := by
  refine pe_sub_ (pe_callB call_len_seq hg hm boot_len (pa_cons h pa_nil hs) (by decide) (by decide) hs hpl) fun σ H Q q => ?_
  obtain ⟨B, F, s, r, s', J, hf, k⟩ := q
  obtain ⟨own, ho, hsl⟩ := id J.sl
  unfold fLenV at hf
  split at hf
  · rename_i xs e1
    cases hf
    obtain ⟨v, h1, h2⟩ := hsl i _ e1
    obtain ⟨q, vs, rfl, o1, o2, o3⟩ := h2.resolve_left fun z => z
    exact ⟨_, h1, q, vs, rfl, .inl (SqL.of o2), k _ F H (Ex.refl F) J (by rw [o3.len]; exact .int _)⟩
  · rename_i xs e1
    cases hf
    obtain ⟨v, h1, h2⟩ := hsl i _ e1
    cases h2.resolve_right fun z => z with
    | lst hx ax => exact ⟨_, h1, _, _, rfl, .inl (SqL.of (J.fh _ _ hx)), k _ F H (Ex.refl F) J (by rw [ax.len]; exact .int _)⟩
  · rename_i xs e1
    cases hf
    obtain ⟨v, h1, h2⟩ := hsl i _ e1
    cases h2.resolve_right fun z => z with
    | tup hx ax => exact ⟨_, h1, _, _, rfl, .inr (ex_t J.fh hx), k _ F H (Ex.refl F) J (by rw [ax.len]; exact .int _)⟩
  · cases hf
/-- y[k], y a dict with nested keys -/
theorem pe_kget {to ti : TE} (hu : X.A.units + 9 < cLine) (ho : PE X o to) (hi : PE X b ti) (hs : NoSl b) :
    PE X (.Subscript o b pos) (tOp (fun x y H Q => ∃ F a c L kvs d k z, x = .ref a ∧ y = .ref c ∧ Ex F H ∧ H a = some (DKO X.prog X.w a L) ∧ KPair X.K F kvs L ∧ Dt X.K F (.ref c) d ∧ keyOf d = some k ∧ kget kvs d = some z ∧ ∀ v, Dt X.K F v z → Q v H) to ti) := by
  refine ⟨fun pins s σ H Q I h => ?_⟩
  refine subD_of PySem.F.slot_dict_getitem.lookup hs (thn (ho.run pins s σ H _ I h) fun u s1 ⟨x, H1, I1, rx, q1⟩ => thn (hi.run pins s1 σ H1 _ I1 q1) fun iv s2 ⟨y, H2, I2, ry, F, a, c, L, kvs, d, k, z, ex, ey, ef, hH, hp, hd, hk, hz, q⟩ => ?_)
  subst ex ey
  cases rx
  cases ry
  obtain ⟨_, _, xs, rel, dd⟩ := dk_raw I2 ef hH hp
  exact ⟨dd.typeIs, kd_getItem hu I2 ef hH hp hd hk hz fun v u s3 I3 rv z => ⟨v, H2, I3, rv, q v z⟩⟩
/-- the name i, subscripted -/
theorem je_ixV (hu : X.A.units + 9 < cLine) (h : PE X o (tVar i)) (hb : JE X C b f) (hs : PlainIx b := by exact fun _ _ => rfl) : JE X C (.Subscript o b pos) (fIxV i f) := by
  refine ⟨fun pins st σ H Q I q => ?_⟩
  obtain ⟨B, F, s, r, s', J, hf, k⟩ := q
  unfold fIxV at hf
  split at hf
  · rename_i c0 e0
    obtain ⟨v, _, hv, _⟩ := J.get e0
    split at hf
    · rename_i y s1 e1
      split at hf
      · rename_i c e2
        split at hf
        · rename_i d e3
          cases hf
          have seq : ∀ (xs : List PyData) (j : Int), y = .d (.int j) → atI xs j = some d → (∀ F' H' own v', Ex F' H' → Frz (Cx.T X C) B F' v' c ∨ Own (Cx.T X C) own F' H' i v' c → ∃ a vs, v' = .ref a ∧ (SqL X.K H' a vs ∨ SqT X.K H' a vs) ∧ DtAll X.K F' vs xs) →
              wpAny (model X.prog X.w) X.A (eval (.Subscript o b pos) X.env) (EP X pins σ Q) X.xe st := fun xs j ey ea hc => by
            subst ey
            refine (pe_ix ix_seq h hb hs).run pins st σ H Q I ⟨v, hv, B, F, s, _, _, J, e1, fun w F' H' x' J' z => ?_⟩
            obtain ⟨v', own, g1, g2⟩ := J'.get e2
            have ev : v' = v := by rw [hv] at g1; cases g1; rfl
            subst ev
            obtain ⟨a, vs, rfl, g3, g4⟩ := hc F' H' own _ J'.fh g2
            obtain ⟨u, u1, u2⟩ := dt_atI g4 ea
            rcases g3 with g3 | g3
            · exact .inl ⟨a, vs, j, u, rfl, dt_int z, g3, u1, k u F' H' x' J' u2⟩
            · exact .inr (.inl ⟨a, vs, j, u, rfl, dt_int z, g3, u1, k u F' H' x' J' u2⟩)
          have dict : ∀ (kvs : List (PyData × PyData)) (d0 : PyData) (kk : NestedKey), y = .d d0 → keyOf d0 = some kk → kget kvs d0 = some d → (∀ F' H' own v', Ex F' H' → Frz (Cx.T X C) B F' v' c ∨ Own (Cx.T X C) own F' H' i v' c → ∃ a L, v' = .ref a ∧ H' a = some (DKO X.prog X.w a L) ∧ KPair X.K F' kvs L) →
              wpAny (model X.prog X.w) X.A (eval (.Subscript o b pos) X.env) (EP X pins σ Q) X.xe st := fun kvs d0 kk ey ek eg hc => by
            subst ey
            refine (pe_kget hu h hb hs).run pins st σ H Q I ⟨v, hv, B, F, s, _, _, J, e1, fun w F' H' x' J' z => ?_⟩
            obtain ⟨v', own, g1, g2⟩ := J'.get e2
            have ev : v' = v := by rw [hv] at g1; cases g1; rfl
            subst ev
            obtain ⟨a, L, rfl, g3, g4⟩ := hc F' H' own _ J'.fh g2
            obtain ⟨cc, rfl⟩ := key_ref z ek
            exact ⟨F', a, cc, L, kvs, d0, kk, d, rfl, rfl, J'.fh, g3, g4, z, ek, eg, fun u uz => k u F' H' x' J' uz⟩
          unfold avIx at e3
          split at e3
          · exact seq _ _ rfl e3 fun F' H' own v' ef g => by
              obtain ⟨a, vs, h1, h2, h3, h4⟩ := g.resolve_left fun z => z
              exact ⟨a, vs, h1, .inl (SqL.of h3), h4⟩
          · exact seq _ _ rfl e3 fun F' H' own v' ef g => by
              cases g.resolve_right fun z => z with
              | lst hx ax => exact ⟨_, _, rfl, .inl (SqL.of (ef _ _ hx)), ax⟩
          · exact seq _ _ rfl e3 fun F' H' own v' ef g => by
              cases g.resolve_right fun z => z with
              | tup hx ax => exact ⟨_, _, rfl, .inr (ex_t ef hx), ax⟩
          · split at e3
            · rename_i hk
              obtain ⟨kk, ek⟩ := Option.isSome_iff_exists.mp hk
              exact dict _ _ kk rfl ek e3 fun F' H' own v' ef g => by
                obtain ⟨a, L, h1, h2, h3, h4⟩ := g.resolve_left fun z => z
                exact ⟨a, L, h1, h3, h4⟩
            · cases e3
          · split at e3
            · rename_i hk
              obtain ⟨kk, ek⟩ := Option.isSome_iff_exists.mp hk
              exact dict _ _ kk rfl ek e3 fun F' H' own v' ef g => by
                obtain ⟨a, L, h1, h2, h3⟩ := g.resolve_right fun z => z
                exact ⟨a, L, h1, ef _ _ h2, h3⟩
            · cases e3
          · cases e3
        · cases hf
      · cases hf
    · cases hf
  · cases hf
/-- x in the local i -/
theorem or_inV (hu : X.A.units + 65 < cLine) (neg : Bool) : OpR X (compareOp (if neg then .NotIn else .In)) (fun x y H Q => ∃ B F own i' a c bb, Ex F H ∧ Frz (Cx.T X C) B F x a ∧ (Frz (Cx.T X C) B F y c ∨ Own (Cx.T X C) own F H i' y c) ∧ avIn a c = some bb ∧ Q (.bl (if neg then !bb else bb)) H) := by
  intro pins s σ H x y v u Q I rx ry q
  obtain ⟨B, F, own, i', a, c, bb, ef, za, zc, e, k⟩ := q
  have hu9 : X.A.units + 9 < cLine := by omega
  have lst : ∀ (d : PyData) (ds : List PyData), a = .d d → SeqAt.shaped d = true ∧ SeqAt.shaped (.list ds) = true → (ds.any fun z => PyData.eqv z d) = bb → Dp X.K H y (.list ds) → wpAny (model X.prog X.w) X.A (compareOp (if neg then .NotIn else .In) v u) (EP X pins σ Q) X.xe s := fun d ds ea hs eb hd => by
    subst ea eb
    cases neg with
    | true => exact op_notInD hu pins s σ H x y v u Q I rx ry ⟨d, ds, dt_dp ef _ _ za, hd, hs.1, hs.2, k⟩
    | false => exact op_inD hu pins s σ H x y v u Q I rx ry ⟨d, ds, dt_dp ef _ _ za, hd, hs.1, hs.2, k⟩
  have dict : ∀ (d : PyData) (kvs : List (PyData × PyData)) (L : List KEnt) (p : Addr), a = .d d → (keyOf d).isSome = true → (kget kvs d).isSome = bb → y = .ref p → H p = some (DKO X.prog X.w p L) → KPair X.K F kvs L → wpAny (model X.prog X.w) X.A (compareOp (if neg then .NotIn else .In) v u) (EP X pins σ Q) X.xe s := fun d kvs L p ea hk eb ey hH hp => by
    subst ea eb ey
    obtain ⟨kk, ek⟩ := Option.isSome_iff_exists.mp hk
    obtain ⟨b, rfl⟩ := key_ref za ek
    cases rx
    cases ry
    cases neg with
    | true => exact kd_notIn hu9 I ef hH hp za ek fun s' I' => ⟨.bl _, H, I', rfl, k⟩
    | false => exact kd_in hu9 I ef hH hp za ek fun s' I' => ⟨.bl _, H, I', rfl, k⟩
  unfold avIn at e
  split at e
  · split at e
    · rename_i hs; cases e
      obtain ⟨p, vs, rfl, h2, h3, h4⟩ := zc.resolve_left fun z => z
      exact lst _ _ rfl hs rfl (.lst (SqL.of h3) (dtAll_dp ef _ _ h4))
    · cases e
  · split at e
    · rename_i hs; cases e
      exact lst _ _ rfl hs rfl (dt_dp ef _ _ (zc.resolve_right fun z => z))
    · cases e
  · split at e
    · rename_i d ds hs; cases e
      have hd := dt_dp ef _ _ (zc.resolve_right fun z => z)
      obtain ⟨as, r1⟩ := Dp.reads I d x v (dt_dp ef _ _ za) rx
      obtain ⟨bs, r2⟩ := Dp.reads I (.tuple ds) y u hd ry
      have hl : PyData.canLayAll0 ds = true := SeqAt.canLay_of_shaped hs.2
      cases neg with
      | true =>
        refine SeqAt.notIn_tuple_reads r2 r1 hl (SeqAt.canLay_of_shaped hs.1) ?_ ⟨.bl _, H, I, rfl, k⟩
        first | exact room_in_shaped hs.1 hu | (have := room_in_shaped (A := X.A) (xs := ds) hs.1 hu; exact this)
      | false =>
        refine SeqAt.in_tuple_reads r2 r1 hl (SeqAt.canLay_of_shaped hs.1) ?_ ⟨.bl _, H, I, rfl, k⟩
        first | exact room_in_shaped hs.1 hu | (have := room_in_shaped (A := X.A) (xs := ds) hs.1 hu; exact this)
    · cases e
  · split at e
    · rename_i hk; cases e
      obtain ⟨p, L, rfl, h2, h3, h4⟩ := zc.resolve_left fun z => z
      exact dict _ _ L p rfl hk rfl rfl h3 h4
    · cases e
  · split at e
    · rename_i hk; cases e
      obtain ⟨p, L, rfl, h2, h3⟩ := zc.resolve_right fun z => z
      exact dict _ _ L p rfl hk rfl rfl (ef _ _ h2) h3
    · cases e
  · cases e
theorem tE_inV {T : Cfg} {neg : Bool} {σ : L2.St} {H : Hp} {Q : VK} (h : tE T (fInV neg i f) σ H Q) :
    tOp (fun x y H Q => ∃ B F own i' a c bb, Ex F H ∧ Frz T B F x a ∧ (Frz T B F y c ∨ Own T own F H i' y c) ∧ avIn a c = some bb ∧ Q (.bl (if neg then !bb else bb)) H) (tE T f) (tVar i) σ H Q := by
  obtain ⟨B, F, s, r, s', J, hf, k⟩ := h
  unfold fInV at hf
  split at hf
  · rename_i y s1 e1
    split at hf
    · rename_i c e2
      split at hf
      · rename_i bb e3
        cases hf
        refine ⟨B, F, s, y, _, J, e1, fun v F' H' x' J' z => ?_⟩
        obtain ⟨u, own, g1, g2⟩ := J'.get e2
        exact ⟨u, g1, B, F', own, i, y, c, bb, J'.fh, z, g2, e3, k _ F' H' x' J' (.bl _)⟩
      · cases hf
    · cases hf
  · cases hf
theorem je_inV (hu : X.A.units + 65 < cLine) (ha : JE X C a f) (h : PE X o (tVar i)) (hm : behindInMarks .In o = false := by rfl) : JE X C (.Compare a [.In] [o] pos) (fInV false i f) :=
  pe_sub_ (pe_cmpR (op := .In) (or_inV (C := C) hu false) ha h hm) fun _ _ _ q => tE_inV q
theorem je_notInV (hu : X.A.units + 65 < cLine) (ha : JE X C a f) (h : PE X o (tVar i)) (hm : behindInMarks .NotIn o = false := by rfl) : JE X C (.Compare a [.NotIn] [o] pos) (fInV true i f) :=
  pe_sub_ (pe_cmpR (op := .NotIn) (or_inV (C := C) hu true) ha h hm) fun _ _ _ q => tE_inV q

/-! ### text keys -/
def tget (kvs : List (Str × PyData)) (k : Str) : Option PyData := (kvs.find? fun p => decide (p.1 = k)).map (·.2)
def tput (kvs : List (Str × PyData)) (k : Str) (v : PyData) : List (Str × PyData) := if (tget kvs k).isSome then kvs.map fun p => if p.1 = k then (p.1, v) else p else kvs ++ [(k, v)]
section
variable {K : PySem.W.Frag} {F : Hp}
theorem tlook {x : Str} : ∀ {kvs : List (Str × PyData)} {L : List (Key × V)}, TPair K F kvs L → (tget kvs x = none ∧ valV L (Sum.inr x) = none) ∨ ∃ y v, tget kvs x = some y ∧ valV L (Sum.inr x) = some v ∧ Dt K F v y
  | [], _, h => by cases h; exact .inl ⟨rfl, rfl⟩
  | p :: kvs, _, h => by
    cases h with
    | cons a1 a2 =>
      rename_i q L
      obtain ⟨n1, n2⟩ := a1
      by_cases c : p.1 = x
      · exact .inr ⟨p.2, q.2, by simp [tget, c], by simp [valV, n1, c], n2⟩
      · have c' : q.1 ≠ Sum.inr x := fun z => c (by rw [n1] at z; exact Sum.inr.inj z)
        rcases tlook (x := x) a2 with ⟨h1, h2⟩ | ⟨y, v, h1, h2, h3⟩
        · exact .inl ⟨by simpa [tget, c] using h1, by simpa [valV, c'] using h2⟩
        · exact .inr ⟨y, v, by simpa [tget, c] using h1, by simpa [valV, c'] using h2, h3⟩
theorem tany {L : List (Key × V)} {k : Key} : (L.any fun kv => decide (kv.1 = k)) = (valV L k).isSome := by
  induction L with
  | nil => rfl
  | cons p r ih =>
    by_cases c : p.1 = k
    · simp [valV, c]
    · rw [valV_neg c, List.any_cons, decide_eq_false c, Bool.false_or, ih]
theorem tputR {x : Str} {y : PyData} {v : V} (hv : Dt K F v y) {kvs : List (Str × PyData)} {L : List (Key × V)} (h : TPair K F kvs L) : TPair K F (tput kvs x y) (putK L (Sum.inr x) v) := by
  have m : ∀ {kvs : List (Str × PyData)} {L : List (Key × V)}, TPair K F kvs L → TPair K F (kvs.map fun p => if p.1 = x then (p.1, y) else p) (L.map fun kv => if kv.1 = Sum.inr x then (kv.1, v) else kv) := by
    intro kvs
    induction kvs with
    | nil => intro L h; cases h; exact .nil
    | cons p kvs ih =>
      intro L h
      cases h with
      | cons a1 a2 =>
        rename_i q L
        rw [List.map_cons, List.map_cons]
        by_cases c : p.1 = x
        · rw [if_pos c, if_pos (by rw [a1.1, c])]
          exact .cons ⟨a1.1, hv⟩ (ih a2)
        · rw [if_neg c, if_neg (fun z => c (by rw [a1.1] at z; exact Sum.inr.inj z))]
          exact .cons a1 (ih a2)
  have a : ∀ {kvs : List (Str × PyData)} {L : List (Key × V)}, TPair K F kvs L → TPair K F (kvs ++ [(x, y)]) (L ++ [(Sum.inr x, v)]) := by
    intro kvs
    induction kvs with
    | nil => intro L h; cases h; exact .cons ⟨rfl, hv⟩ .nil
    | cons p kvs ih =>
      intro L h
      cases h with
      | cons a1 a2 => exact .cons a1 (ih a2)
  unfold tput putK
  rw [tany]
  rcases tlook (x := x) h with ⟨h1, h2⟩ | ⟨y', v', h1, h2, _⟩
  · rw [h1, h2]; exact a h
  · rw [h1, h2]; exact m h
theorem tput_len (kvs : List (Str × PyData)) (k : Str) (v : PyData) : (tput kvs k v).length ≤ kvs.length + 1 := by
  unfold tput
  split
  · rw [List.length_map]; omega
  · rw [List.length_append, List.length_singleton]; omega
theorem TPair.len {kvs : List (Str × PyData)} {L : List (Key × V)} (h : TPair K F kvs L) : kvs.length = L.length := Paired.length h
end
def dTget : AV → AV → Option AV
  | .ft kvs, .d (.str x) => (tget kvs x).map .d
  | _, _ => none
section
variable {X : Cx} {C : Cc} {a b : Expr} {fa fb : FE} {pos : Pos}
/-- d[k], d a frozen dict with text keys -/
theorem je_tget (hu : X.A.units + 1 < cLine) (ha : JE X C a fa) (hb : JE X C b fb) (hs : NoSl b := by exact fun _ _ => rfl) : JE X C (.Subscript a b pos) (f2 dTget fa fb) := by
  refine pe_sub_ (pe_dget hu ha hb hs) fun σ H Q h => ?_
  have h2 := tE_f2 h
  obtain ⟨B, F, s, r, s', I, hf, k⟩ := h2
  refine ⟨B, F, s, r, s', I, hf, fun v F1 H1 e1 I1 z1 => ?_⟩
  obtain ⟨B, F, s, r, s', I, hf, k⟩ := k v F1 H1 e1 I1 z1
  refine ⟨B, F, s, r, s', I, hf, fun u F2 H2 e2 I2 z2 => ?_⟩
  obtain ⟨B3, F3, a3, b3, r3, ef, za, zb, e, k3⟩ := k u F2 H2 e2 I2 z2
  unfold dTget at e
  split at e
  · rename_i kvs x
    obtain ⟨y, e1, rfl⟩ := Option.map_eq_some_iff.mp e
    obtain ⟨p, L, rfl, h1, h2⟩ := za
    cases zb
    rcases tlook (x := x) h2 with ⟨g1, g2⟩ | ⟨y', w, g1, g2, g3⟩
    · rw [g1] at e1; cases e1
    · rw [g1] at e1
      cases e1
      have g := DGet.k (k := Sum.inr x) (ef _ _ h1)
      rw [g2] at g
      exact ⟨p, w, rfl, g, k3 w F3 H2 (Grow.refl ef) g3⟩
  · cases e
end

/-! ### changes -/
/-- x.append(e), x.extend(e) -/
def fApp (i : Nat) (f : FE) : FS := fun s => match s.Γ[i]? with
  | some (some (.ml _)) => (match f s with
    | some (.d y, s1) => (match s1.Γ[i]? with
      | some (some (.ml xs)) => if xs.length < sizeLine then some (.nx { s1 with Γ := s1.Γ.set i (some (.ml (xs ++ [y]))) }) else none
      | _ => none)
    | _ => none)
  | _ => none
def fExt (i : Nat) (f : FE) : FS := fun s => match s.Γ[i]? with
  | some (some (.ml _)) => (match f s with
    | some (.d (.list ys), s1) => (match s1.Γ[i]? with
      | some (some (.ml xs)) => if xs.length + ys.length ≤ sizeLine then some (.nx { s1 with Γ := s1.Γ.set i (some (.ml (xs ++ ys))) }) else none
      | _ => none)
    | _ => none)
  | _ => none
/-- a store in what a local owns -/
def avSet : AV → AV → PyData → Option AV
  | .ml xs, .d (.int j), z => (ixN xs.length j).map fun n => .ml (xs.set n z)
  | .md kvs, .d k, z => if (keyOf k).isSome = true ∧ kvs.length < sizeLine then some (.md (kput kvs k z)) else none
  | .mt kvs, .d (.str x), z => if kvs.length < sizeLine then some (.mt (tput kvs x z)) else none
  | _, _, _ => none
/-- x[e] = v -/
def fSetIx (i : Nat) (fk fv : FE) : FS := fun s => match fv s with
  | some (.d z, s1) => (match s1.Γ[i]? with
    | some (some _) => (match fk s1 with
      | some (y, s2) => (match s2.Γ[i]? with
        | some (some c) => (match avSet c y z with
          | some c' => some (.nx { s2 with Γ := s2.Γ.set i (some c') })
          | none => none)
        | _ => none)
      | none => none)
    | _ => none)
  | _ => none
section
variable {X : Cx} {C : Cc} {e o b : Expr} {f fk fv : FE} {i : Nat} {apos cpos pos pos' : Pos}
theorem own_list {B : Bg} {F H : Hp} {σ : L2.St} {s : S} {xs : List PyData} (J : EnvOk (Cx.T X C) B F H σ s) (h : s.Γ[i]? = some (some (.ml xs))) : ∃ q vs, σ[i]? = some (some (.ref q)) ∧ H q = some (.lst vs) ∧ DtAll X.K F vs xs ∧
    ∀ vs' xs', DtAll X.K F vs' xs' → EnvOk (Cx.T X C) B F (upd H q (.lst vs')) σ { s with Γ := s.Γ.set i (some (.ml xs')) } := by
  obtain ⟨own, ho, hs⟩ := id J.sl
  obtain ⟨v, g1, g2⟩ := hs i _ h
  obtain ⟨q, vs, rfl, o1, o2, o3⟩ := g2.resolve_left fun z => z
  exact ⟨q, vs, g1, o2, o3, fun vs' xs' z => EnvOk.updOwn J ho hs g1 o1 (av := .ml xs) ⟨q, vs', rfl, o1, upd_same, z⟩⟩
theorem js_app (h : PE X o (tVar i)) (ha : JE X C e f) (hbase : attributeBase o "append" X.env (eval o X.env) = eval o X.env := by rfl)
    (hfew : ((backTo cpos (starEach [e] X.env)).all (fun x => !x.1) && (backToKw cpos (keywordEach [] X.env)).all (fun x => x.1.isSome)
      && decide ([e].length + ([] : List Keyword).length + (if ([] : List Keyword).isEmpty then 0 else 1) < 30)) = true := by rfl)
    (hline : (apos.endLine == cpos.line) = true := by rfl) (hs : starEach [e] X.env = (false, eval e X.env) :: starEach [] X.env := by rfl) (hplain : (backTo cpos (starEach [] X.env)).any (·.1) = false := by rfl)
    (hsw : swapsWith (.Call (.Attribute o "append" apos) [e] [] cpos) none pos.line X.env = pure false := by rfl) : JS X C (.Expr (.Call (.Attribute o "append" apos) [e] [] cpos) pos) (fApp i f) := by
  refine ps_sub_ (ps_expr (pe_bm PySem.F.plainAttrs_list PySem.F.slot_list_append PySem.F.type_list_append mt_append h (pa_cons ha pa_nil hs) hbase hfew hline hs hplain) hsw) fun D σ H q => ?_
  obtain ⟨B, F, s, o, J, hf, k⟩ := q
  unfold fApp at hf
  split at hf
  · rename_i xs0 e0
    obtain ⟨q, vs, g1, g2, g3, _⟩ := own_list J e0
    split at hf
    · rename_i y s1 e1
      split at hf
      · rename_i xs e2
        split at hf
        · rename_i hl
          cases hf
          refine ⟨_, g1, .inl ⟨rfl, _, SqL.of g2⟩, B, F, s, _, _, J, e1, fun v F' H' x1 J1 z => ?_⟩
          obtain ⟨q', vs', h1, h2, h3, h4⟩ := own_list J1 e2
          have eq : q' = q := by rw [g1] at h1; cases h1; rfl
          subst eq
          exact ⟨q', vs', v, rfl, rfl, h2, by rw [h3.len]; exact hl, k σ F' _ x1 (h4 _ _ (Tk.DtAll.app h3 (.one z)))⟩
        · cases hf
      · cases hf
    · cases hf
  · cases hf
theorem js_ext (h : PE X o (tVar i)) (ha : JE X C e f) (hbase : attributeBase o "extend" X.env (eval o X.env) = eval o X.env := by rfl)
    (hfew : ((backTo cpos (starEach [e] X.env)).all (fun x => !x.1) && (backToKw cpos (keywordEach [] X.env)).all (fun x => x.1.isSome)
      && decide ([e].length + ([] : List Keyword).length + (if ([] : List Keyword).isEmpty then 0 else 1) < 30)) = true := by rfl)
    (hline : (apos.endLine == cpos.line) = true := by rfl) (hs : starEach [e] X.env = (false, eval e X.env) :: starEach [] X.env := by rfl) (hplain : (backTo cpos (starEach [] X.env)).any (·.1) = false := by rfl)
    (hsw : swapsWith (.Call (.Attribute o "extend" apos) [e] [] cpos) none pos.line X.env = pure false := by rfl) : JS X C (.Expr (.Call (.Attribute o "extend" apos) [e] [] cpos) pos) (fExt i f) := by
  refine ps_sub_ (ps_expr (pe_bm PySem.F.plainAttrs_list PySem.F.slot_list_extend PySem.F.type_list_extend mt_extend h (pa_cons ha pa_nil hs) hbase hfew hline hs hplain) hsw) fun D σ H q => ?_
  obtain ⟨B, F, s, o, J, hf, k⟩ := q
  unfold fExt at hf
  split at hf
  · rename_i xs0 e0
    obtain ⟨q, vs, g1, g2, g3, _⟩ := own_list J e0
    split at hf
    · rename_i ys s1 e1
      split at hf
      · rename_i xs e2
        split at hf
        · rename_i hl
          cases hf
          refine ⟨_, g1, .inl ⟨rfl, _, SqL.of g2⟩, B, F, s, _, _, J, e1, fun v F' H' x1 J1 z => ?_⟩
          obtain ⟨q', vs', h1, h2, h3, h4⟩ := own_list J1 e2
          have eq : q' = q := by rw [g1] at h1; cases h1; rfl
          subst eq
          cases z with
          | lst hx ax => exact ⟨q', _, vs', _, rfl, rfl, h2, J1.fh _ _ hx, by rw [h3.len, ax.len]; exact hl, k σ F' _ x1 (h4 _ _ (Tk.DtAll.app h3 ax))⟩
        · cases hf
      · cases hf
    · cases hf
  · cases hf
/-- the store by values -/
def rSetV (T : Cfg) : TSet := fun o ix v H R => ∃ B F own σ s i c y z c', EnvOk T B F H σ s ∧ (∀ a j, own a = some j → F a = none ∧ H a ≠ none ∧ B.H0 a = none ∧ ∀ q ∈ B.px, q.1 ≠ a) ∧
  (∀ (j : Nat) (bv : AV), s.Γ[j]? = some (some bv) → ∃ v, σ[j]? = some (some v) ∧ (Frz T B F v bv ∨ Own T own F H j v bv)) ∧ σ[i]? = some (some o) ∧ s.Γ[i]? = some (some c) ∧ Frz T B F ix y ∧ Dt T.K F v z ∧ avSet c y z = some c' ∧
  ∀ H', EnvOk T B F H' σ { s with Γ := s.Γ.set i (some c') } → R H'
theorem set_V (hu : X.A.units + 9 < cLine) : PSet X (rSetV (Cx.T X C)) := by
  intro pins st σ0 H o ix v ov iv u R I ro ri rv h
  obtain ⟨B, F, own, σ, s, i, c, y, z, c', J, ho, hs, hv, hc, zy, zz, e, k⟩ := h
  obtain ⟨v', g1, g2⟩ := hs i _ hc
  have ev : v' = o := by rw [hv] at g1; cases g1; rfl
  subst ev
  unfold avSet at e
  split at e
  · obtain ⟨n, e1, rfl⟩ := Option.map_eq_some_iff.mp e
    obtain ⟨q, vs, rfl, o1, o2, o3⟩ := g2.resolve_left fun z => z
    refine set_list pins st σ0 H _ ix v ov iv u R I ro ri rv ⟨q, vs, _, n, rfl, dt_int zy, o2, by rw [o3.len]; exact e1, k _ ?_⟩
    exact EnvOk.updOwn J ho hs hv o1 (av := .lp) ⟨q, _, rfl, o1, upd_same, Tk.DtAll.set n o3 zz⟩
  · split at e
    · rename_i hk
      cases e
      obtain ⟨kk, ek⟩ := Option.isSome_iff_exists.mp hk.1
      obtain ⟨q, L, rfl, o1, o2, o3⟩ := g2.resolve_left fun z => z
      obtain ⟨b, rfl⟩ := key_ref zy ek
      cases ro
      cases ri
      exact kd_setItem hu I J.fh o2 o3 zy ek zz rv hk.2 fun s' L' I' l' => ⟨_, I', k _ (EnvOk.updOwn J ho hs hv o1 (av := .lp) ⟨q, L', rfl, o1, upd_same, l'⟩)⟩
    · cases e
  · split at e
    · rename_i x hl
      cases e
      obtain ⟨q, L, rfl, o1, o2, o3⟩ := g2.resolve_left fun z => z
      cases ro
      have zy' : Dt X.K F ix (.str _) := zy
      cases zy'
      refine d_setItem (by omega) I (DPut.k (k := Sum.inr x) o2 (by rw [← o3.len]; exact hl)) ri rv fun s' I' => ⟨_, I', k _ (EnvOk.updOwn J ho hs hv o1 (av := .lp) ⟨q, _, rfl, o1, upd_same, tputR zz o3⟩)⟩
    · cases e
  · cases e
theorem js_setIx (hu : X.A.units + 9 < cLine) (h : PE X o (tVar i)) (hb : JE X C b fk) (hv : JE X C e fv) (ha : ∀ v, assign (.Subscript o b pos') X.env v = (do
      let ov ← holding [v] (eval o X.env)
      let iv ← holding [v, ov] (eval b X.env)
      standAt pos'
      holding [v, ov, iv] (setItem ov iv v)
      release [v, ov, iv] []) := by intro _; rfl)
    (hs : swapsWithSole [.Subscript o b pos'] e pos.line X.env = pure false := by rfl) (hw : swappedStores [.Subscript o b pos'] e X.env = pure none := by rfl)
    (h1 : (assignEach [.Subscript o b pos'] X.env).map (·.2) = [assign (.Subscript o b pos') X.env] := by rfl) : JS X C (.Assign [.Subscript o b pos'] e pos) (fSetIx i fk fv) := by
  refine ps_sub_ (ps_asg hv (pg_sub h hb (set_V (C := C) hu) ha) hs hw h1) fun D σ H q => ?_
  obtain ⟨B, F, s, oo, J, hf, k⟩ := q
  unfold fSetIx at hf
  split at hf
  · rename_i z s1 e1
    split at hf
    · rename_i c0 e0
      split at hf
      · rename_i y s2 e2
        split at hf
        · rename_i c e3
          split at hf
          · rename_i c' e4
            cases hf
            refine ⟨B, F, s, _, s1, J, e1, fun v F1 H1 x1 J1 z1 => ?_⟩
            obtain ⟨w, _, w1, _⟩ := J1.get e0
            refine ⟨w, w1, B, F1, s1, y, s2, J1, e2, fun ix F2 H2 x2 J2 z2 => ?_⟩
            obtain ⟨own, ho, hs⟩ := id J2.sl
            exact ⟨B, F2, own, σ, s2, i, c, y, z, c', J2, ho, hs, w1, e3, z2, dt_ex x2 _ _ z1, e4, fun H' J' => k σ F2 H' (x1.trans x2) J'⟩
          · cases hf
        · cases hf
      · cases hf
    · cases hf
  · cases hf
end
end
end Tk

set_option Elab.async false
set_option linter.all false
set_option maxRecDepth 100000
set_option maxHeartbeats 4000000
/-! Tk, part F: defs, slices, displays of dicts, calls of a slot's def, isinstance. -/
namespace Tk
open PySem PySem.Spec PyProof.Rows L2
open Evl (Ex ex_l ex_t fresh_back)

/-! ### a def comes to its denotation -/
section
variable {P : Program} {w : World} {K : PySem.W.Frag} {mg : Str → Option Value} {base : Heap} {C : Cc}
theorem den_out {T : Cfg} {fb : FS} {vs : List V} {H : Hp} {Q : VK} {E : XK} {N ps : List Str} (hp : ps.length ≤ N.length) (h : spD T ps.length (denF N.length fb) vs H Q E) : tS T fb { nx := fun _ H' => Q .non H', rt := Q } (L2.start N vs) H := by
  obtain ⟨hn, B, as, l, r, l', hH, hpx, J, z, hg, k⟩ := h
  subst hH
  have J2 := start_ok (N := N) J z (by rw [hn]; exact hp)
  unfold denF at hg
  split at hg
  · rename_i v s e
    cases hg
    exact ⟨B, B.F0, _, _, J2, e, fun w σ' F' H' x J' z' => k w F' H' x J'.bare z'⟩
  · rename_i s e
    cases hg
    exact ⟨B, B.F0, _, _, J2, e, fun σ' F' H' x J' => k .non F' H' x J'.bare .non⟩
  · cases hg
theorem fn_den {x qual : Str} {st : Stmt} {f : Addr} {fd : FuncData} {N ps : List Str} {k : Nat} {fb : FS} (F : Fun K x qual st f fd) (S : FnScope N ps (defScope st)) (hp : ps.length ≤ N.length)
    (hb : ∀ (cdv : Value) (A : Around) (outer : List Env) (s : Shared) (H : Hp) (E : XK), Room k (A.deeper (envOfC qual (defScope st) s.heap.objs.size f cdv)) → JSs (cxOf CX0 P w K mg base N qual (defScope st) f cdv A outer s H E).nox C (defBody st) fb) :
    FnOk P w K mg base CX0 (k + 1) f fd ps (spD ⟨K, P, w, C⟩ ps.length (denF N.length fb)) :=
  F.ok S (fun vs H Q E h => h.1) fun cdv A outer s H vs Q E hr h => ⟨_, hb cdv A outer s H E hr, den_out hp h⟩
end

/-! ### slices -/
def cutL {α : Type} (xs : List α) (lo hi : Option Int) : List α := (xs.drop (HT.sIx xs.length 0 lo)).take (HT.sIx xs.length xs.length hi - HT.sIx xs.length 0 lo)
abbrev FO := S → Option (Option Int × S)
def foNone : FO := fun s => some (none, s)
def foSome (f : FE) : FO := fun s => match f s with
  | some (.d (.int i), s1) => some (some i, s1)
  | _ => none
def dSl : AV → Option Int → Option Int → Option AV
  | .d (.list xs), lo, hi => some (.d (.list (cutL xs lo hi)))
  | .d (.tuple xs), lo, hi => some (.d (.tuple (cutL xs lo hi)))
  | _, _, _ => none
def fSl (fa : FE) (fl fh : FO) : FE := fun s => match fa s with
  | some (x, s1) => (match fl s1 with
    | some (lo, s2) => (match fh s2 with
      | some (hi, s3) => (match dSl x lo hi with
        | some r => some (r, s3)
        | none => none)
      | none => none)
    | none => none)
  | none => none
def tO (T : Cfg) (f : FO) : TO := fun σ H Q => ∃ B F s r s', EnvOk T B F H σ s ∧ f s = some (r, s') ∧ ∀ F' H', Ex F F' → EnvOk T B F' H' σ s' → Q r H'
abbrev JO (X : Cx) (C : Cc) (e : Option Expr) (f : FO) : Prop := PO X e (tO (Cx.T X C) f)
section
variable {X : Cx} {C : Cc} {a e : Expr} {fa f : FE} {fl fh : FO} {lo hi : Option Expr} {pos p2 : Pos}
theorem jo_none : JO X C none foNone := ⟨fun pins s σ H Q I q => po_none.run pins s σ H Q I (by
  obtain ⟨B, F, st, r, s', J, hf, k⟩ := q
  cases hf
  exact k F H (Ex.refl F) J)⟩
theorem jo_some (h : JE X C e f) : JO X C (some e) (foSome f) := ⟨fun pins s σ H Q I q => (po_some h).run pins s σ H Q I (by
  obtain ⟨B, F, st, r, s', J, hf, k⟩ := q
  unfold foSome at hf
  split at hf
  · rename_i i s1 e1
    cases hf
    exact ⟨B, F, st, _, _, J, e1, fun v F' H' x J' z => ⟨i, dt_int z, k F' H' x J'⟩⟩
  · cases hf)⟩
theorem DtAll.cut {K : PySem.W.Frag} {F : Hp} {vs : List V} {ds : List PyData} (h : DtAll K F vs ds) (lo hi : Option Int) : DtAll K F (cutV vs lo hi) (cutL ds lo hi) := by
  unfold cutV cutL
  rw [h.len]
  exact (h.drop _).take _
theorem cutL_all {α : Type} {xs : List α} {lo hi : Option Int} (h : HT.sIx xs.length 0 lo = 0 ∧ HT.sIx xs.length xs.length hi = xs.length) : cutL xs lo hi = xs := by
  unfold cutL
  rw [h.1, h.2, List.drop_zero, Nat.sub_zero, List.take_length]
theorem sl_D : SlR X (fun x lo hi H Q => ∃ B F a r, Ex F H ∧ Frz (Cx.T X C) B F x a ∧ dSl a lo hi = some r ∧ ∀ v F' H', Grow F H F' H' → Frz (Cx.T X C) B F' v r → Q v H') := by
  intro pins s σ H x v vl vu lo hi sl Q I rx hs pl pu q
  obtain ⟨B, F, a, r, ef, z, e, k⟩ := q
  unfold dSl at e
  split at e
  · cases e
    cases z with
    | lst hx ax => exact sl_list pins s σ H _ v vl vu _ _ sl Q I rx hs pl pu ⟨_, _, rfl, SqL.of (ef _ _ hx), fun p hp => (fun G => k (.ref p) _ _ G (.lst upd_same ((dtAll_ex G.f _ _ ax).cut _ _))) (Grow.new ef hp)⟩
  · cases e
    cases z with
    | tup hx ax =>
      refine sl_tupA pins s σ H _ v vl vu _ _ sl Q I rx hs pl pu ⟨_, _, rfl, ex_t ef hx, fun h => ?_, fun _ p hp => (fun G => k (.ref p) _ _ G (.tup (SqT.of upd_same) ((dtAll_ex G.f _ _ ax).cut _ _))) (Grow.new ef hp)⟩
      rw [ax.len] at h
      rw [cutL_all h] at k
      exact k _ F H (Grow.refl ef) (.tup hx ax)
  · cases e
theorem je_slice (ha : JE X C a fa) (hl : JO X C lo fl) (hh : JO X C hi fh) : JE X C (.Subscript a (.Slice lo hi none p2) pos) (fSl fa fl fh) := by
  refine pe_sub_ (pe_slice (sl_D (C := C)) ha hl hh) fun σ H Q q => ?_
  obtain ⟨B, F, s, r, s', J, hf, k⟩ := q
  unfold fSl at hf
  split at hf
  · rename_i x s1 e1
    split at hf
    · rename_i l s2 e2
      split at hf
      · rename_i u s3 e3
        split at hf
        · rename_i r0 e4
          cases hf
          exact ⟨B, F, s, x, s1, J, e1, fun v F1 H1 x1 J1 z1 => ⟨B, F1, s1, l, s2, J1, e2, fun F2 H2 x2 J2 => ⟨B, F2, s2, u, _, J2, e3, fun F3 H3 x3 J3 =>
            ⟨B, F3, x, _, J3.fh, z1.ex (x2.trans x3), e4, fun w F' H' G z => k w F' H' (((x1.trans x2).trans x3).trans G.f) (J3.grow G) z⟩⟩⟩⟩
        · cases hf
      · cases hf
    · cases hf
  · cases hf
def dRev : AV → Option AV
  | .d (.list xs) => some (.d (.list xs.reverse))
  | _ => none
/-- xs[::-1] -/
theorem je_rev {k : Nat} {p1 p3 : Pos} (ha : JE X C a fa) : JE X C (.Subscript a (.Slice none none (some (.UnaryOp .USub (.Constant (.int 1) k p1) p2)) p3) pos) (f1 dRev fa) := by
  refine pe_sub_ (pe_revL ha) fun σ H Q h => ?_
  obtain ⟨B, F, s, r, s', I, hf, k⟩ := tE_f1 h
  refine ⟨B, F, s, r, s', I, hf, fun v F1 H1 e1 I1 z1 => ?_⟩
  obtain ⟨B3, F3, a3, r3, ef, z, e, k3⟩ := k v F1 H1 e1 I1 z1
  unfold dRev at e
  split at e
  · cases e
    cases z with
    | lst hx ax => exact ⟨_, _, rfl, SqL.of (ef _ _ hx), fun p hp => (fun G => k3 (.ref p) _ _ G (.lst upd_same (dtAll_ex G.f _ _ ax).rev)) (Grow.new ef hp)⟩
  · cases e
end

/-! ### isinstance -/
def dIsi (T : String) : AV → Option AV
  | .d (.int _) => if T = "int" then some (.d (.bool true)) else if T = "bool" then some (.d (.bool false)) else none
  | .d (.bool _) => if T = "int" then some (.d (.bool true)) else if T = "bool" then some (.d (.bool true)) else none
  | _ => none
section
variable {X : Cx} {C : Cc} {a : Expr} {fa : FE} {p p2 pos : Pos}
theorem je_isi {T : String} {x : Str} (ha : JE X C a fa) (hg : Gl X "isinstance") (hm : X.mg "isinstance" = none) (hgT : Gl X x) (hmT : X.mg x = none) (hvT : bootBuiltins x = some (.type T)) (hn : x ≠ "__name__" := by decide) (hd : (x == ("__debug__" : Str)) = false := by decide)
    (hs : starEach [a, .Name x p2] X.env = (false, eval a X.env) :: starEach [.Name x p2] X.env := by rfl) (hs2 : starEach [.Name x p2] X.env = (false, eval (.Name x p2) X.env) :: starEach [] X.env := by rfl) (hpl : (backTo pos (starEach [.Name x p2] X.env)).any (·.1) = false := by rfl) :
    JE X C (.Call (.Name "isinstance" p) [a, .Name x p2] [] pos) (f1 (dIsi T) fa) := by
  refine pe_sub_ (pe_callB call_isi hg hm boot_isinstance (pa_cons ha (pa_cons (pe_bltn (v := .ty T) hgT hmT hvT rfl hn hd) pa_nil hs2) hs) (by decide) (by decide) hs hpl) fun σ H Q h => ?_
  obtain ⟨B, F, s, r, s', I, hf, k⟩ := tE_f1 h
  refine ⟨B, F, s, r, s', I, hf, fun v F1 H1 e1 I1 z1 => ?_⟩
  obtain ⟨B3, F3, a3, r3, ef, z, e, k3⟩ := k v F1 H1 e1 I1 z1
  have bl : ∀ b, some (AV.d (.bool b)) = some r3 → Q (.bl b) H1 := fun b eb => by
    cases eb
    exact k3 _ F3 H1 (Grow.refl ef) (.bl b)
  unfold dIsi at e
  split at e
  · cases z
    split at e
    · rename_i hT; subst hT
      exact ⟨_, .ty "int", .type "int", .type "int", true, rfl, .ty _, .base (.int _), by rfl, bl _ e⟩
    · split at e
      · rename_i hT; subst hT
        exact ⟨_, .ty "bool", .type "int", .type "bool", false, rfl, .ty _, .base (.int _), by first | rfl | decide +kernel, bl _ e⟩
      · cases e
  · cases z
    split at e
    · rename_i hT; subst hT
      exact ⟨_, .ty "int", .type "bool", .type "int", true, rfl, .ty _, .base (.bl _), by first | rfl | decide +kernel, bl _ e⟩
    · split at e
      · rename_i hT; subst hT
        exact ⟨_, .ty "bool", .type "bool", .type "bool", true, rfl, .ty _, .base (.bl _), by first | rfl | decide +kernel, bl _ e⟩
      · cases e
  · cases e
end

/-! ### a call of the def that a local holds -/
def fCallV (i : Nat) (S : Addr → Option Den) (f : FA) : FE := fun s => match s.Γ[i]? with
  | some (some (.fn a)) => (match S a with
    | some g => fCall g f s
    | none => none)
  | _ => none
section
variable {X : Cx} {C : Cc} {e : Expr} {es : List Expr} {x : Str} {p pos : Pos} {k i n : Nat} {fa : FA}
theorem je_callV {S : Addr → Option Den} (hS : ∀ a g, S a = some g → Held X.prog X.w X.K X.mg X.base k a (spD (Cx.T X C) n g)) (hr : Room k X.A) (hN : X.N[i]? = some x) (hv : Vis X.env.scope x) (ha : JAs X C (e :: es) fa) (hn : (e :: es).length = n := by rfl)
    (hdb : (x == ("__debug__" : Str)) = false := by decide) (hcd : (x == ("__classdict__" : Str)) = false := by decide)
    (he : starEach (e :: es) X.env = (false, eval e X.env) :: starEach es X.env := by rfl) (hpl : (backTo pos (starEach es X.env)).any (·.1) = false := by rfl) : JE X C (.Call (.Name x p) (e :: es) [] pos) (fCallV i S fa) := by
  refine pe_sub_ (pe_callA (i := i) (S := fun a => (S a).map (spD (Cx.T X C) n)) (fun f sp h => ?_) hr hN hv ha.pa hdb hcd he hpl) fun σ H Q q => ?_
  · obtain ⟨g, e1, rfl⟩ := Option.map_eq_some_iff.mp h
    exact hS f g e1
  · obtain ⟨B, F, s, r, s', J, hf, kk⟩ := q
    unfold fCallV at hf
    split at hf
    · rename_i a e1
      split at hf
      · rename_i g e2
        obtain ⟨v, own, g1, g2⟩ := J.get e1
        have ev : v = .ref a := g2.elim (fun z => z) fun z => z.elim
        subst ev
        refine ⟨a, _, g1, (show (S a).map _ = some _ by rw [e2]; rfl), ?_⟩
        unfold fCall at hf
        split at hf
        · rename_i as s1 e3
          split at hf
          · rename_i r0 l' e4
            cases hf
            exact ⟨B, F, s, as, s1, J, e3, fun vs F1 H1 x1 J1 z1 => sp_of_call J1 (by rw [z1.len, ha.len _ _ _ e3, hn]) z1 e4 fun w F' H' x2 J2 z2 => kk w F' H' (x1.trans x2) J2 z2⟩
          · cases hf
        · cases hf
      · cases hf
    · cases hf
end

/-! ### dict displays -/
/-- {k: v}, k a nested key -/
abbrev FD := S → Option (List (PyData × PyData) × S)
def fDisp1 (fk fv : FE) : FD := fun s => match fk s with
  | some (.d k, s1) => (match fv s1 with
    | some (.d v, s2) => if (keyOf k).isSome then some ([(k, v)], s2) else none
    | _ => none)
  | _ => none
def fSetD (i : Nat) (f : FD) : FS := fun s => match f s with
  | some (kvs, s1) => some (.nx { s1 with Γ := s1.Γ.set i (some (.md kvs)) })
  | none => none
def tD (T : Cfg) (f : FD) : TE := fun σ H Q => ∃ B F s r s', EnvOk T B F H σ s ∧ f s = some (r, s') ∧ ∀ p L F' H', Ex F F' → EnvOk T (B.with p (DKO T.P T.w p L)) F' H' σ s' → KPair T.K F' r L → Q (.ref p) H'
abbrev JD (X : Cx) (C : Cc) (e : Expr) (f : FD) : Prop := PE X e (tD (Cx.T X C) f)
section
variable {X : Cx} {C : Cc} {k v e : Expr} {pos : Pos} {tk tv : TE} {fk fv : FE} {f : FD}
theorem dko_ok {P : Program} {w : World} {H : Hp} {h : Heap} {a : Addr} {L : List KEnt} (x : DK0 P w h a L) : ObjOk P w H h a (DKO P w a L) := by
  obtain ⟨z, hd, xs, rel, o, es, ep, h1, h2⟩ := x
  refine ⟨⟨z, hd, xs, rel, o, es, ep, h1, h2⟩, ⟨o, h1⟩, fun g1 g2 p k => ?_⟩
  obtain ⟨z, hd, xs, rel, o, es, ep, e1, e2⟩ := p
  exact ⟨z, hd, xs, rel, o, es, ep, k o e1, e2⟩
theorem pe_disp1 (hu : X.A.units + 8 < cLine) (hk : PE X k tk) (hv : PE X v tv) : PE X (.Dict [some k] [v] pos) (fun σ H Q => ∀ p, H p = none → tk σ (upd H p (DKO X.prog X.w p [])) fun x H1 => tv σ H1 fun y H2 => H2 p = some (DKO X.prog X.w p []) ∧
    ∃ F c d kk, x = .ref c ∧ Ex F H2 ∧ Dt X.K F x d ∧ keyOf d = some kk ∧ Q (.ref p) (upd H2 p (DKO X.prog X.w p [(kk, c, y)]))) := by
  refine ⟨fun pins s σ H Q I q => ?_⟩
  have hn := I.hok.fresh (Nat.le_refl s.heap.objs.size)
  have hsm : (s.heap.objs.size == sysModules) = false := beq_eq_false_iff_ne.mpr (Nat.ne_of_gt I.big)
  have emp : DK0 X.prog X.w (s.heap.push { cls := .type "dict", data := .dict #[] }) s.heap.objs.size [] := by
    obtain ⟨o, es, ep, h1, h2, h3, h4, h5, h6⟩ := Heap.DictOfH.new (knd := nestedKind X.prog X.w) s.heap
    exact ⟨Nat.zero_le _, hsm, [], .nil, o, es, ep, h1, h2, h3, h4, h6⟩
  have I1 := I.laid (a := s.heap.objs.size) (o := DKO X.prog X.w s.heap.objs.size []) (h' := s.heap.push { cls := .type "dict", data := .dict #[] }) (t' := s.toks) (fun _ _ q => Heap.get?_push_of_some _ q) (Nat.le_refl _) (dko_ok emp)
  rw [arm_eval_Dict, zip_pairTrees [some k] [v] X.env pos rfl rfl, dictDisplay_pairs (pairTrees [some k] [v] X.env pos) (by intro z; cases z) (by show 1 < 17; decide)]
  refine wpAny_bind (wpAny_standAt (wpAny_bind (wpAny_subDictH (knd := nestedKind X.prog X.w) (Q := fun d s' => wpAny (model X.prog X.w) X.A (pure (Value.ref d)) (EP X pins σ Q) X.xe s') hu (by show 1 ≤ 15; decide) ?_)))
  refine pairTrees_cons_walk (thn (hk.run pins _ σ _ _ I1 (q _ hn)) fun u s1 ⟨x, H1, I2, rx, q1⟩ => thn (hv.run pins s1 σ H1 _ I2 q1) fun u2 s2 ⟨y, H2, I3, ry, e, F, c, d, kk, ex, ef, hd, hkk, q2⟩ => pairTrees_nil_walk ?_)
  subst ex
  cases rx
  obtain ⟨z, _, xs, rel, o, es, ep, h1, h2, h3, h4, h5⟩ := (I3.hok _ _ e).1
  cases rel
  refine ⟨[(kk, c, u2)], ⟨rfl, rfl, key_is I3 ef hd hkk, trivial⟩, ⟨o, es, ep, h1, h2, h3, h4, fun _ hx => by simp at hx, h5⟩, fun h' tk hm sb => wpAny_pure ?_⟩
  have hm2 : h'.DictOfH (nestedKind X.prog X.w) s.heap.objs.size [(kk, c, u2)] := hm
  exact ⟨.ref s.heap.objs.size, _, dko_write (t' := tk) I3 e sb (by show 1 ≤ sizeLine; decide) hsm (.cons ⟨rfl, rfl, ry⟩ .nil) hm2, rfl, q2⟩
theorem jd_disp1 (hu : X.A.units + 8 < cLine) (hk : JE X C k fk) (hv : JE X C v fv) : JD X C (.Dict [some k] [v] pos) (fDisp1 fk fv) := by
  refine pe_sub_ (pe_disp1 hu hk hv) fun σ H Q q => ?_
  obtain ⟨B, F, s, r, s', J, hf, k⟩ := q
  unfold fDisp1 at hf
  split at hf
  · rename_i d s1 e1
    split at hf
    · rename_i y s2 e2
      split at hf
      · rename_i hk
        cases hf
        obtain ⟨kk, ek⟩ := Option.isSome_iff_exists.mp hk
        intro p hp
        refine ⟨_, F, s, _, s1, J.pxNew hp, e1, fun v1 F1 H1 x1 J1 z1 => ⟨_, F1, s1, _, _, J1, e2, fun v2 F2 H2 x2 J2 z2 => ⟨(J2.px (p, _) List.mem_cons_self).1, ?_⟩⟩⟩
        obtain ⟨c, rfl⟩ := key_ref z1 ek
        exact ⟨F2, c, d, kk, rfl, J2.fh, dt_ex x2 _ _ z1, ek, k p _ F2 _ (x1.trans x2) (J2.pxUpd _) (.cons ⟨(keyOf_some ek).1, (keyOf_some ek).2.1, dt_ex x2 _ _ z1, z2⟩ .nil)⟩
      · cases hf
    · cases hf
  · cases hf
theorem js_setD {x : Str} {pos' : Pos} (i : Nat) (hN : X.N.Nodup) (hi : X.N[i]? = some x) (hx : Loc X.env.scope x) (he : JD X C e f) (hs : swapsWith e (some (.Name x pos')) pos.line X.env = pure false := by rfl) (hf : X.fn x = true ∨ X.env.scope.names.lookup x = some .local := by first | exact .inl rfl | exact .inr rfl | assumption) :
    JS X C (.Assign [.Name x pos'] e pos) (fSetD i f) := by
  refine ps_sub_ (ps_set hN hi hx he hs hf) fun D σ H q => ?_
  obtain ⟨B, F, s, o, J, hf, k⟩ := q
  unfold fSetD at hf
  split at hf
  · rename_i kvs s1 e1
    cases hf
    exact ⟨B, F, s, kvs, s1, J, e1, fun p L F' H' x1 J1 z => k _ F' H' x1 (J1.pxOwn i fun own ho => ⟨p, L, rfl, ho, (J1.px (p, _) List.mem_cons_self).1, z⟩)⟩
  · cases hf
end
/-! ### {'a': e, ..}: text keys -/
abbrev FT := S → Option (List (Str × PyData) × S)
def ftNil : FT := fun s => some ([], s)
def ftCons (x : Str) (f : FE) (r : FT) : FT := fun s => match f s with
  | some (.d v, s1) => (match r s1 with
    | some (kvs, s2) => some ((x, v) :: kvs, s2)
    | none => none)
  | _ => none
/-- no key twice -/
def fDispT (f : FT) : FE := fun s => match f s with
  | some (kvs, s1) => if kvs.length ≤ 15 ∧ (kvs.map (·.1)).Nodup then some (.ft kvs, s1) else none
  | none => none
def tPT (T : Cfg) (f : FT) : L2.St → Hp → (List (V × V) → Hp → Prop) → Prop := fun σ H Q => ∃ B F s r s', EnvOk T B F H σ s ∧ f s = some (r, s') ∧ ∀ L F' H', Ex F F' → EnvOk T B F' H' σ s' → TPair T.K F' r L → Q (L.map fun kv => (kV kv.1, kv.2)) H'
structure JPs (X : Cx) (C : Cc) (pos : Pos) (keys : List (Option Expr)) (values : List Expr) (f : FT) : Prop where
  ex : ∃ trs, PPs X pos keys values trs ∧ ∀ σ H Q, tPT (Cx.T X C) f σ H Q → tPairs trs σ H Q
section
variable {X : Cx} {C : Cc} {v : Expr} {pos : Pos} {ks : List (Option Expr)} {vs : List Expr} {fv : FE} {f : FT}
theorem jps_nil : JPs X C pos [] [] ftNil := ⟨[], pps_nil, fun σ H Q q => by
  obtain ⟨B, F, s, r, s', J, hf, k⟩ := q
  cases hf
  exact k [] F H (Ex.refl F) J .nil⟩
theorem jps_cons {x : Str} {j : Nat} {p : Pos} (hv : JE X C v fv) (hr : JPs X C pos ks vs f) : JPs X C pos (some (.Constant (.str x) j p) :: ks) (v :: vs) (ftCons x fv f) := by
  obtain ⟨trs, h1, h2⟩ := hr.ex
  refine ⟨_, pps_cons pe_str hv h1, fun σ H Q q => ?_⟩
  obtain ⟨B, F, s, r, s', J, hf, k⟩ := q
  unfold ftCons at hf
  split at hf
  · rename_i d s1 e1
    split at hf
    · rename_i kvs s2 e2
      cases hf
      refine ⟨B, F, s, _, s1, J, e1, fun w F1 H1 x1 J1 z1 => h2 _ _ _ ⟨B, F1, s1, kvs, _, J1, e2, fun L F2 H2 x2 J2 z2 => ?_⟩⟩
      exact k ((Sum.inr x, w) :: L) F2 H2 (x1.trans x2) J2 (.cons ⟨rfl, dt_ex x2 _ _ z1⟩ z2)
    · cases hf
  · cases hf
theorem mergeK_nodup : ∀ (L acc : List (Key × V)), ((acc ++ L).map (·.1)).Nodup → mergeK acc L = acc ++ L
  | [], acc, _ => by show acc = acc ++ []; rw [List.append_nil]
  | p :: L, acc, h => by
    have hn : ∀ q ∈ acc, q.1 ≠ p.1 := fun q hq e => by
      rw [List.map_append, List.map_cons, List.nodup_append] at h
      exact h.2.2 q.1 (List.mem_map.mpr ⟨q, hq, rfl⟩) p.1 (List.mem_cons_self ..) e
    have e1 : putK acc p.1 p.2 = acc ++ [p] := by
      unfold putK
      rw [if_neg]
      rw [List.any_eq_true]
      rintro ⟨q, hq, e⟩
      exact hn q hq (of_decide_eq_true e)
    show mergeK (putK acc p.1 p.2) L = _
    rw [e1, mergeK_nodup L (acc ++ [p]) (by rw [List.append_assoc]; exact h), List.append_assoc]
    rfl
theorem TPair.keys {K : PySem.W.Frag} {F : Hp} : ∀ {kvs : List (Str × PyData)} {L : List (Key × V)}, TPair K F kvs L → L.map (·.1) = kvs.map fun p => Sum.inr p.1
  | [], _, h => by cases h; rfl
  | p :: kvs, _, h => by
    cases h with
    | cons a b => rw [List.map_cons, List.map_cons, TPair.keys b, a.1]
theorem je_dispT {k0 : Option Expr} (h : JPs X C pos (k0 :: ks) vs f) (hall : (k0 :: ks).all (·.isSome) = true := by rfl) (hl : (k0 :: ks).length = vs.length := by rfl) (h15 : (k0 :: ks).length ≤ 15 := by decide) : JE X C (.Dict (k0 :: ks) vs pos) (fDispT f) := by
  obtain ⟨trs, h1, h2⟩ := h.ex
  refine pe_sub_ (pe_disp h1 hall hl (fun z => nomatch z) h15) fun σ H Q q => ?_
  obtain ⟨B, F, s, r, s', J, hf, k⟩ := q
  unfold fDispT at hf
  split at hf
  · rename_i kvs s1 e1
    split at hf
    · rename_i hd
      cases hf
      intro p hp
      refine h2 _ _ _ ⟨_, F, s, kvs, _, J.pxNew hp, e1, fun L F1 H1 x1 J1 z1 => ⟨(J1.px (p, _) List.mem_cons_self).1, L, rfl, by rw [← z1.len]; exact hd.1, ?_⟩⟩
      have nd : (L.map (·.1)).Nodup := by
        rw [z1.keys]
        have := hd.2
        rw [show (kvs.map fun p => (Sum.inr p.1 : Key)) = (kvs.map (·.1)).map Sum.inr by rw [List.map_map]; rfl]
        exact List.Pairwise.map _ (fun a b hab e => hab (Sum.inr.inj e)) this
      rw [mergeK_nodup L [] nd]
      obtain ⟨y1, y2⟩ := (J1.pxUpd (.dK ([] ++ L))).pxFrz
      exact k (.ref p) _ _ (x1.trans y1) y2 ⟨p, _, rfl, upd_same, z1.ex y1⟩
    · cases hf
  · cases hf
end
end Tk

set_option Elab.async false
set_option linter.all false
set_option maxRecDepth 100000
set_option maxHeartbeats 4000000
/-! Tk, part G: enumerate over a tuple. -/
namespace Tk
open PySem PySem.Spec PyProof.Rows L2
open Evl (Ex ex_l ex_t fresh_back)

theorem meets_enumV {v : Value} {o : Obj} {H : Heap → Prop} (B : Begins v o H) :
    Meets (Builtin.«enumerate.__new__» ⟨[.type "enumerate", v], []⟩) (fun _ R s => H s.heap ∧
      R (.ok (.ret (.ref (s.heap.push o).objs.size))) { s with heap := (s.heap.push o).push { cls := .type "enumerate", data := .fields #[.none, .bool false, .ref s.heap.objs.size, rawInt 0, .none, .none] } }) :=
  .of_wp fun prog w A R s q => by
    obtain ⟨hp, g, d, tk, os⟩ := s
    obtain ⟨q1, q2⟩ := q
    have hsub := sub_enumerate
    have it0 : ∀ {A' : Around} {E : Value → Shared → Prop} {Q : Value → Shared → Prop}, Q (.ref hp.objs.size) ⟨hp.push o, g, d, tk, os⟩ → wpAny (model prog w) A' (pyIter v) Q E ⟨hp, g, d, tk, os⟩ :=
      fun z => B.iter prog w _ _ ⟨hp, g, d, tk, os⟩ _ q1 z
    wp_walk using it0
    refine wpAny_stack_any fun st => wpAny_pure ?_
    split
    · rename_i c _ _ _ _ _
      cases (c == Value.type "enumerate") <;>
      · wp_walk using it0
        exact ⟨_, rfl, q2⟩
    · wp_walk using it0
      exact ⟨_, rfl, q2⟩
section
variable {prog : Program} {w : World} {A : Around} {E : Value → Shared → Prop} {s : Shared}
theorem call_enumV {v : Value} {o : Obj} {H : Heap → Prop} {Q : Value → Shared → Prop} (B : Begins v o H) (h1 : H s.heap)
    (h : ∀ h', IsEnum h' (s.heap.objs.size + 1) s.heap.objs.size 0 .none → h'.get? s.heap.objs.size = some o → h'.objs.size = s.heap.objs.size + 2 → (∀ b ob, s.heap.get? b = some ob → h'.get? b = some ob) → Q (.ref (s.heap.objs.size + 1)) { s with heap := h' }) :
    wpAny (model prog w) A (call (.type "enumerate") [v]) Q E s := by
  refine callType_new F.called_enumerate (by decide) (F.typeCall_enumerate_1 _) (F.newCall_enumerate_1 _) (fun obj => F.args_object_init_2 obj _) F.entry_enumerate_new (meets_enumV B) ⟨h1, ?_⟩
  have z : (s.heap.push o).objs.size = s.heap.objs.size + 1 := Heap.size_push ..
  have e1 := Heap.get?_push_size (s.heap.push o) (o := { cls := .type "enumerate", data := .fields #[.none, .bool false, .ref s.heap.objs.size, rawInt 0, .none, .none] }) rfl
  show _ ∧ _
  rw [z] at e1 ⊢
  exact ⟨⟨_, e1, rfl⟩, h _ e1 (Heap.get?_push_of_some _ (Heap.get?_push_size _ B.free)) (by rw [Heap.size_push, z]) fun b ob y => Heap.get?_push_of_some _ (Heap.get?_push_of_some _ y)⟩
end
/-- the tuple at a, each item in a new pair with its number -/
def ItE (K : PySem.W.Frag) (a : Addr) : It :=
  ⟨fun i H => ∃ (xs : List V) (x : V), SqT K H a xs ∧ xs[i]? = some x, fun i H v H' => ∃ T x, v = .ref T ∧ H T = none ∧ H' = upd H T (.tup [.int (i : Nat), x]) ∧ ∀ xs, SqT K H a xs → xs[i]? = some x, fun i H => ∃ xs : List V, SqT K H a xs ∧ xs.length ≤ i⟩
theorem turn_enumT {P : Program} {w : World} {K : PySem.W.Frag} {elts : List Expr} {kk : Nat} {tpos : Pos} (a e it : Addr) :
    Turn P w K (.Tuple elts kk tpos) (ItE K a) [e, it] e (fun i h => (∃ old, IsEnum h e it ((i : Nat) : Int) old) ∧ h.IsTupleIter it a i ∧ e ≠ it) where
  mem := by simp
  obj := fun i h st b hb => by
    obtain ⟨⟨old, he⟩, ⟨o, ho, hc, hd⟩, _⟩ := st
    rcases (show b = e ∨ b = it by simpa using hb) with rfl | rfl
    · exact ⟨_, he, fun v q => nomatch q⟩
    · exact ⟨o, ho, fun v q => by rw [hd] at q; cases q⟩
  keep := fun i h h' st k => ⟨st.1.imp fun old he => k e (by simp) _ he, st.2.1.at fun o q => k it (by simp) o q, st.2.2⟩
  item := by
    intro X hP hw hK hc i pins s σ H E I hf st hg
    subst hP hw hK
    obtain ⟨⟨old, he⟩, hit, hne⟩ := st
    obtain ⟨xs, x, hq, hx⟩ := hg
    obtain ⟨its, rv, p, hz⟩ := I.tuple hq
    obtain ⟨u, hu, ru⟩ := rv.get hx
    have hel : e < s.heap.objs.size := Heap.lt_size he
    have hil : it < s.heap.objs.size := by obtain ⟨_, q, _⟩ := hit; exact Heap.lt_size q
    have pt : s.heap.IsTuple a its.toArray := p
    have hal : a < s.heap.objs.size := by obtain ⟨_, q, _⟩ := pt; exact Heap.lt_size q
    have hae : a ≠ it := fun z => by
      obtain ⟨o1, h1, h2, n, h3⟩ := pt
      obtain ⟨o2, g1, g2, g3⟩ := hit
      rw [z] at h1
      rw [h1] at g1
      cases g1
      rw [h3] at g3
      cases g3
    have hea : e ≠ a := fun z => by
      obtain ⟨o1, h1, h2, n, h3⟩ := pt
      have he' : s.heap.get? e = some _ := he
      rw [z, h1] at he'
      cases he'
      cases h3
    have hlt : i < its.toArray.size := by
      have := (List.getElem?_eq_some_iff.mp hu).1
      simpa using this
    refine wpAny_pyNext_enum_itemD (Draws.tuple (prog := X.prog) (w := X.w) (A := X.A.in1) (show X.A.in1.handled = none from I.ok.hd hc) it a hae its.toArray) he ⟨hit, pt⟩ hlt hne (by simp [hne, hea]) fun x' h' tk hP ho hst hT hsz hk => ?_
    obtain ⟨hit', _⟩ := hst
    have ex : x' = u := by
      have h1 : its.toArray[i]? = some x' := hP
      rw [show its.toArray[i]? = its[i]? by simp, hu] at h1
      exact (Option.some.inj h1).symm
    subst ex
    refine ⟨_, rfl, wpAny_letOwnedTupleGo_enum (s := { s with heap := h', toks := tk + 1 }) ho fun h'' he' sb => ?_⟩
    have hT2 : h''.get? s.heap.objs.size = some { cls := .type "tuple", data := .seq #[.int i tk, x'] } := (sb.2 _ (Nat.ne_of_gt hel)).trans hT
    have new : ObjOk X.prog X.w (upd H s.heap.objs.size (.tup [.int (i : Nat), x])) h'' s.heap.objs.size (.tup [.int (i : Nat), x]) :=
      ⟨(by decide : 2 ≤ sizeLine), [.int i tk, x'], .cons ⟨_, rfl⟩ (.cons ru .nil), ⟨_, hT2, rfl, _, rfl⟩⟩
    have I1 : Inv X pins σ (upd H s.heap.objs.size (.tup [.int (i : Nat), x])) { s with heap := h'', toks := tk + 1 } :=
      I.turnedNew (ch := [e, it]) (fun b ob hb q => (sb.2 b (fun z => hb (by simp [z]))).trans (hk b ob (fun z => hb (by simp [z])) (fun z => hb (by simp [z])) q)) hf (Nat.le_refl _) new
    refine ⟨.ref s.heap.objs.size, _, I1, rfl, ⟨_, x, rfl, I.hok.fresh (Nat.le_refl _), rfl, fun ys hy => by rw [I.tuple_inj hy hq]; exact hx⟩, ⟨⟨x', by rw [show ((i + 1 : Nat) : Int) = (i : Int) + 1 by omega]; exact he'⟩, hit'.at fun o q => (sb.2 it (Ne.symm hne)).trans q, hne⟩, fun b hb => ?_⟩
    have hb' : b < s.heap.objs.size := by
      rcases (show b = e ∨ b = it by simpa using hb) with rfl | rfl
      · exact hel
      · exact hil
    rw [upd_ne (Nat.ne_of_lt hb')]
    exact (hf b hb).1
  done := by
    intro X hP hw hK hc i pins s σ H E I hf st hg
    subst hP hw hK
    obtain ⟨⟨old, he⟩, hit, hne⟩ := st
    obtain ⟨xs, hq, hx⟩ := hg
    obtain ⟨its, rv, p, hz⟩ := I.tuple hq
    obtain ⟨f0, f1, f2, f3, f4, f5⟩ := hf it (by simp)
    have pt : s.heap.IsTuple a its.toArray := p
    have hl := rv.length
    have hT : s.TypeIs (.ref e) "enumerate" := ⟨_, he, rfl⟩
    unfold pyNext
    refine wpAny_bind (wpAny_attempt (wpAny_callSpecial?_slot (name := Str.ofString "__next__") hT F.slot_enumerate_next (wpAny_call_entry F.slot_enumerate_next hT F.entry_enumerate_next ?_ (F.args_enumerate_next_1 _))))
    show wpAny _ _ (field (.ref e) 2 >>= _) _ _ _
    refine wpAny_bind (wpAny_field he rfl (x := .ref it) rfl (wpAny_bind (wpAny_nextOf_tuple_end (show X.A.in1.handled = none from I.ok.hd hc) hit pt (by simp; omega) fun h' ex he' hx' => ?_)))
    obtain ⟨o, ho, hcl⟩ := hx'
    refine wpAny_bind (wpAny_isInstance (T := "StopIteration") (b := true) ⟨o, ho, hcl⟩ isSubtype_stop (wpAny_pure ⟨rfl, I.turned (t' := s.toks) (fun b o hb q => he' b o hb q) f0 f1 f3 f4 f5⟩))
  self := fun A i s Q E st h => let ⟨⟨_, he⟩, _⟩ := st; wpAny_pyIter_enum he h
def iEnumT (K : PySem.W.Frag) (ta : TA) : TI := fun σ H R => ta σ H fun vs H1 => ∃ a xs, vs = [.ref a] ∧ SqT K H1 a xs ∧ R (ItE K a) H1
theorem pi_enumT {X : Cx} {e : Expr} {ta : TA} {p pos tpos : Pos} {elts : List Expr} {kk : Nat} (hg : Gl X "enumerate") (hm : X.mg "enumerate" = none) (ha : PA X [e] ta) (hs : starEach [e] X.env = [(false, eval e X.env)] := by rfl) :
    PI X (.Tuple elts kk tpos) (.Call (.Name "enumerate" p) [e] [] pos) (iEnumT X.K ta) := by
  refine ⟨fun pins s σ H R I h => Call_ (ld_blt I hg hm boot_enumerate (PyProof.Rows.callWith_type1 (thn (ha.run pos pins s σ H _ I h) fun us s1 ⟨vs, H1, I1, r1, q1⟩ => ?_) hs rfl))⟩
  obtain ⟨a, xs, rfl, hq, q⟩ := q1
  cases r1 with
  | cons r rr =>
    cases rr
    cases r
    obtain ⟨its, rv, p', hz⟩ := I1.tuple hq
    refine call_enumV (begins_tuple a its.toArray) (show s1.heap.IsTuple a its.toArray from p') fun h' he hit hsz hk => wpAny_pyIter_enum he ?_
    refine ⟨s1.heap.objs.size + 1, [s1.heap.objs.size + 1, s1.heap.objs.size], _, _, H1, rfl, I1.kept (t' := s1.toks) hk, turn_enumT a (s1.heap.objs.size + 1) s1.heap.objs.size, ⟨⟨.none, he⟩, ⟨_, hit, rfl, rfl⟩, Nat.succ_ne_self _⟩, fun b hb => ?_, q⟩
    have hle : s1.heap.objs.size ≤ b := by
      rcases (show b = s1.heap.objs.size + 1 ∨ b = s1.heap.objs.size by simpa using hb) with z | z <;> rw [z]
      · exact Nat.le_add_right _ _
      · exact Nat.le_refl _
    exact I1.fpOk hle (I1.hok.fresh hle)
/-- (0, x0), (1, x1), .. -/
def enumD (xs : List PyData) : List PyData := (List.range xs.length).map fun i => .tuple [.int (i : Nat), xs.getD i .none]
def fEnumT (f : FA) : FL := fun s => match f s with
  | some ([.d (.tuple xs)], s1) => some (enumD xs, s1)
  | _ => none
theorem walkD_enumT {T : Cfg} {F : Hp} {a : Addr} {vs : List V} {ds : List PyData} (h : SqT T.K F a vs) (ha : DtAll T.K F vs ds) : WalkD T F (ItE T.K a) (enumD ds) := by
  have el : (enumD ds).length = ds.length := by simp [enumD]
  have hl := ha.len
  unfold WalkD
  refine ⟨fun i H hi e => ?_, fun H e => ⟨vs, ex_t e h, by omega⟩, fun i H x H' hi e y F2 e2 e3 => ?_⟩
  · exact ⟨vs, vs[i]'(by omega), ex_t e h, by simp⟩
  · obtain ⟨p, x, rfl, h2, rfl, h4⟩ := y
    have hx := h4 vs (ex_t e h)
    obtain ⟨d, h1, h3⟩ := ha.back hx
    have G := Grow.new (o := .tup [.int (i : Nat), x]) e3 h2
    refine ⟨_, _, G, ?_, .tup (SqT.of upd_same) (.cons (.int _) (.cons (dt_ex (e2.trans G.f) _ _ h3) .nil))⟩
    simp [enumD, show i < ds.length by omega, (List.getElem?_eq_some_iff.mp h1).2, List.getElem?_eq_getElem (show i < ds.length by omega)]
section
variable {X : Cx} {C : Cc} {e : Expr} {f : FA} {p pos tpos : Pos} {elts : List Expr} {kk : Nat}
theorem ji_enumT (hg : Gl X "enumerate") (hm : X.mg "enumerate" = none) (ha : JAs X C [e] f) (hs : starEach [e] X.env = [(false, eval e X.env)] := by rfl) : JI X C (.Tuple elts kk tpos) (.Call (.Name "enumerate" p) [e] [] pos) (fEnumT f) := by
  refine pi_sub_ (pi_enumT hg hm ha.pa hs) fun σ H R q => ?_
  obtain ⟨B, F, st, r, s', J, hf, k⟩ := q
  unfold fEnumT at hf
  split at hf
  · rename_i xs s1 e1
    cases hf
    refine ⟨B, F, st, _, _, J, e1, fun vs F' H' e2 J2 z => ?_⟩
    obtain ⟨v, rfl, z1⟩ := one_frz z
    cases z1 with
    | tup hx ax => exact ⟨_, _, rfl, ex_t J2.fh hx, k F' H' _ e2 J2 (walkD_enumT hx ax)⟩
  · cases hf
end
end Tk

set_option Elab.async false
set_option linter.all false
set_option maxRecDepth 100000
set_option maxHeartbeats 4000000
/-! Tk, part H: quiet code (it lays new things alone), in the model's own words. -/
namespace Tk
open PySem PySem.Spec PyProof.Rows L2
open Evl (Ex ex_l ex_t fresh_back)

/-- h' has all that h has -/
def Kp (s s' : Shared) : Prop := Keeps s s'
theorem kp_refl (s : Shared) : Keeps s s := ⟨s.heap, s.toks, rfl, fun _ _ e => e⟩
theorem kp_tok (s : Shared) (t : Nat) : Keeps s { s with toks := t } := ⟨s.heap, t, rfl, fun _ _ e => e⟩
theorem kp_trans {a b c : Shared} (h : Keeps a b) (k : Keeps b c) : Keeps a c := by
  obtain ⟨h1, t1, rfl, k1⟩ := h
  obtain ⟨h2, t2, rfl, k2⟩ := k
  exact ⟨h2, t2, rfl, fun x o e => k2 x o (k1 x o e)⟩
theorem kp_get {s s' : Shared} (h : Keeps s s') {b : Addr} {o : Obj} (e : s.heap.get? b = some o) : s'.heap.get? b = some o := by
  obtain ⟨h1, t1, rfl, k1⟩ := h
  exact k1 b o e

mutual
/-- ints, bools, tuples of them -/
inductive RD (h : Heap) : Value → PyData → Prop
  | int (i : Int) (t : Tok) : RD h (.int i t) (.int i)
  | bl (b : Bool) : RD h (.bool b) (.bool b)
  | tup {a : Addr} {its : List Value} {ds : List PyData} : h.IsTuple a its.toArray → RDs h its ds → RD h (.ref a) (.tuple ds)
inductive RDs (h : Heap) : List Value → List PyData → Prop
  | nil : RDs h [] []
  | cons {v : Value} {vs : List Value} {d : PyData} {ds : List PyData} : RD h v d → RDs h vs ds → RDs h (v :: vs) (d :: ds)
end
mutual
theorem rd_mono {h h' : Heap} (e : ∀ b o, o.cls = .type "tuple" → h.get? b = some o → h'.get? b = some o) : ∀ (d : PyData) (v : Value), RD h v d → RD h' v d
  | .int i, _, x => by cases x; exact .int i _
  | .bool b, _, x => by cases x; exact .bl b
  | .tuple ds, _, x => by
    cases x with
    | tup t r => exact .tup (let ⟨o, q1, q2, q3⟩ := t; ⟨o, e _ _ q2 q1, q2, q3⟩) (rds_mono e ds _ r)
  | .none, _, x => by cases x
  | .str _, _, x => by cases x
  | .list _, _, x => by cases x
  | .dict _, _, x => by cases x
theorem rds_mono {h h' : Heap} (e : ∀ b o, o.cls = .type "tuple" → h.get? b = some o → h'.get? b = some o) : ∀ (ds : List PyData) (vs : List Value), RDs h vs ds → RDs h' vs ds
  | [], _, x => by cases x; exact .nil
  | d :: ds, _, x => by
    cases x with
    | cons a b => exact .cons (rd_mono e d _ a) (rds_mono e ds _ b)
end
theorem rd_kp {s s' : Shared} (k : Keeps s s') {d : PyData} {v : Value} (h : RD s.heap v d) : RD s'.heap v d := rd_mono (fun _ _ _ e => kp_get k e) d v h
theorem RDs.len {h : Heap} : ∀ {ds : List PyData} {vs : List Value}, RDs h vs ds → vs.length = ds.length
  | [], _, x => by cases x; rfl
  | _ :: _, _, x => by
    cases x with
    | cons a b => simp [RDs.len b]
theorem RDs.get {h : Heap} : ∀ {ds : List PyData} {vs : List Value} {i : Nat} {v : Value}, RDs h vs ds → vs[i]? = some v → ∃ d, ds[i]? = some d ∧ RD h v d
  | [], _, _, _, x, e => by cases x; simp at e
  | _ :: _, _, i, v, x, e => by
    cases x with
    | cons a b =>
      cases i with
      | zero => simp at e; subst e; exact ⟨_, rfl, a⟩
      | succ i => obtain ⟨d, e1, e2⟩ := RDs.get b (by simpa using e); exact ⟨d, by simpa using e1, e2⟩
mutual
/-- ints and tuples of them -/
def tupI : PyData → Bool
  | .int _ => true
  | .tuple xs => tupIs xs
  | _ => false
def tupIs : List PyData → Bool
  | [] => true
  | x :: xs => tupI x && tupIs xs
end
section
variable {X : Cx} {pins : List (Addr × Obj)} {σ : L2.St} {H F : Hp} {s : Shared}
mutual
theorem rd_of (I : Inv X pins σ H s) (e : Ex F H) : ∀ (d : PyData) (v : V) (u : Value), tupI d = true → Dt X.K F v d → RelV v u → RD s.heap u d
  | .int i, _, _, _, h, r => by
    cases h; obtain ⟨t, rfl⟩ := r; exact .int i t
  | .tuple ds, _, _, q, h, r => by
    cases h with
    | tup hs ha =>
      cases r
      obtain ⟨its, rv, p, _⟩ := I.tuple (ex_t e hs)
      exact .tup p (rds_of I e ds _ its (by simpa [tupI] using q) ha rv)
  | .none, _, _, q, _, _ => by simp [tupI] at q
  | .str _, _, _, q, _, _ => by simp [tupI] at q
  | .bool _, _, _, q, _, _ => by simp [tupI] at q
  | .list _, _, _, q, _, _ => by simp [tupI] at q
  | .dict _, _, _, q, _, _ => by simp [tupI] at q
theorem rds_of (I : Inv X pins σ H s) (e : Ex F H) : ∀ (ds : List PyData) (vs : List V) (us : List Value), tupIs ds = true → DtAll X.K F vs ds → Vals vs us → RDs s.heap us ds
  | [], _, _, _, h, r => by
    cases h; cases r; exact .nil
  | d :: ds, _, _, q, h, r => by
    cases h with
    | cons h1 h2 =>
      cases r with
      | cons r1 r2 =>
        simp [tupIs] at q
        exact .cons (rd_of I e d _ _ q.1 h1 r1) (rds_of I e ds _ _ q.2 h2 r2)
end
end

/-! ### the judgement -/
structure QB (K : PySem.W.Frag) (mg : Str → Option Value) (h : Heap) : Prop where
  kin : K.In h
  glob : h.Ns mainGlobals mg
  blt : ∃ mb, h.Ns builtinsNs mb ∧ ∀ x : Str, x ≠ "__name__" → mb x = bootBuiltins x
  lim : h.NoLimit
theorem QB.mono {K : PySem.W.Frag} {mg : Str → Option Value} {h h' : Heap} (q : QB K mg h) (e : ∀ b o, h.get? b = some o → h'.get? b = some o) : QB K mg h' :=
  ⟨q.kin.keeps e, q.glob.keeps e, let ⟨mb, h1, h2⟩ := q.blt; ⟨mb, h1.keeps e, h2⟩, q.lim.keeps e⟩
theorem QB.of {K : PySem.W.Frag} {mg : Str → Option Value} {base h : Heap} (M : L2.Mod K mg base) (e : ∀ b o, base.get? b = some o → h.get? b = some o) : QB K mg h :=
  ⟨M.kin.keeps e, M.glob.keeps e, let ⟨mb, h1, h2⟩ := M.blt; ⟨mb, h1.keeps e, h2⟩, M.nolimit.keeps e⟩
structure QX where
  P : Program
  w : World
  K : PySem.W.Frag
  mg : Str → Option Value
  env : Env
  kind : env.scope.kind = .function
  gl : env.globals = mainGlobals
  bl : env.builtins = builtinsNs
/-- the names' data -/
abbrev QM := Str → Option PyData
structure QS (X : QX) (m cm : QM) (s : Shared) : Prop where
  qb : QB X.K X.mg s.heap
  ns : ∃ mm, s.heap.Ns X.env.locals mm ∧ ∀ x d, m x = some d → ∃ u, mm x = some u ∧ RD s.heap u d
  cl : ∀ x d, cm x = some d → ∃ c u, X.env.cells.lookup x = some c ∧ s.heap.IsCell c (some u) ∧ RD s.heap u d
theorem QS.kp {X : QX} {m cm : QM} {s s' : Shared} (q : QS X m cm s) (k : Keeps s s') : QS X m cm s' := by
  have e : ∀ b o, s.heap.get? b = some o → s'.heap.get? b = some o := fun _ _ h => kp_get k h
  obtain ⟨mm, h1, h2⟩ := q.ns
  refine ⟨q.qb.mono e, ⟨mm, h1.keeps e, fun x d h => ?_⟩, fun x d h => ?_⟩
  · obtain ⟨u, a, b⟩ := h2 x d h
    exact ⟨u, a, rd_mono (fun _ _ _ q => e _ _ q) d u b⟩
  · obtain ⟨c, u, a, b, r⟩ := q.cl x d h
    exact ⟨c, u, a, b.keeps e, rd_mono (fun _ _ _ q => e _ _ q) d u r⟩
def QE (X : QX) (k : Nat) (m cm : QM) (e : Expr) (d : PyData) : Prop :=
  ∀ (A : Around) (s : Shared) (Q E : Value → Shared → Prop), Room k A → QS X m cm s → (∀ u s', Keeps s s' → RD s'.heap u d → Q u s') → wpAny (model X.P X.w) A (eval e X.env) Q E s
def QT (X : QX) (k : Nat) (m cm : QM) (e : Expr) (b : Bool) : Prop :=
  ∀ (A : Around) (s : Shared) (Q : Bool → Shared → Prop) (E : Value → Shared → Prop), Room k A → QS X m cm s → (∀ s', Keeps s s' → Q b s') → wpAny (model X.P X.w) A (isTrue e X.env (eval e X.env)) Q E s
def QW (X : QX) (k : Nat) (m cm : QM) (e : Expr) (b : Bool) : Prop :=
  ∀ (whole : Sem Value) (A : Around) (s : Shared) (Q : Bool → Shared → Prop) (E : Value → Shared → Prop), Room k A → QS X m cm s → (∀ s', Keeps s s' → Q b s') → wpAny (model X.P X.w) A (isTrue e X.env whole) Q E s
def QA (X : QX) (k : Nat) (m cm : QM) (es : List Expr) (ds : List PyData) : Prop :=
  ∀ (pos : Pos) (A : Around) (s : Shared) (Q : List Value → Shared → Prop) (E : Value → Shared → Prop), Room k A → QS X m cm s → (∀ us s', Keeps s s' → RDs s'.heap us ds → Q us s') → wpAny (model X.P X.w) A (spliced (backTo pos (starEach es X.env))) Q E s
section
variable {X : QX} {k : Nat} {m cm : QM} {a b c e : Expr} {es : List Expr} {x : Str} {pos p : Pos} {d : PyData} {ds : List PyData}
theorem q_name (hk : X.env.kindOf x = some .local) (hm : m x = some d) (hd : (x == ("__debug__" : Str)) = false := by decide) : QE X k m cm (.Name x pos) d := fun A s Q E _ h q => by
  obtain ⟨mm, h1, h2⟩ := h.ns
  obtain ⟨u, h3, h4⟩ := h2 x d hm
  exact wpAny_Name (wpAny_loadName_local X.kind hk h1 h3 (q u s (kp_refl s) h4)) hd
theorem q_free (hk : X.env.kindOf x = some .free) (hm : cm x = some d) (hd : (x == ("__debug__" : Str)) = false := by decide) (hcd : (x == ("__classdict__" : Str)) = false := by decide) : QE X k m cm (.Name x pos) d := fun A s Q E _ h q => by
  obtain ⟨c, u, h1, h2, h3⟩ := h.cl x d hm
  exact wpAny_Name (wpAny_loadName_free X.kind hk h1 h2 (q u s (kp_refl s) h3) hcd) hd
theorem q_int {i : Int} {j : Nat} : QE X k m cm (.Constant (.int i) j pos) (.int i) := fun A s Q E _ h q => wpAny_Constant_int (q _ _ (kp_tok s _) (.int i _))
theorem q_sub {i j : Int} (ha : QE X k m cm a (.int i)) (hb : QE X k m cm b (.int j)) : QE X k m cm (.BinOp a .Sub b pos) (.int (i - j)) := fun A s Q E r h q =>
  wpAny_BinOp (ha A s _ E r h fun u s1 k1 r1 => hb A s1 _ E r (h.kp k1) fun v s2 k2 r2 => by
    cases r1; cases r2
    exact sub_int (q _ _ (kp_trans (kp_trans k1 k2) (kp_tok _ _)) (.int _ _)))
theorem q_one {op} (h : QE X k m cm a d) : QE X k m cm (.BoolOp op [a] pos) d := fun A s Q E r hs q => BoolOp_one (h A s Q E r hs q)
theorem q_and {b1 b2 : Bool} (ha : QE X k m cm a (.bool b1)) (hb : b1 = true → QE X k m cm (.BoolOp .And (b :: es) pos) (.bool b2)) : QE X k m cm (.BoolOp .And (a :: b :: es) pos) (.bool (b1 && b2)) := fun A s Q E r h q =>
  BoolOp_and (ha A s _ E r h fun u s1 k1 r1 => by
    cases r1
    refine wpAny_truthy_bool ?_
    cases b1 with
    | true => exact hb rfl A s1 Q E r (h.kp k1) fun v s2 k2 r2 => q v s2 (kp_trans k1 k2) (by simpa using r2)
    | false => exact q _ s1 k1 (.bl false))
theorem q_not {b1 : Bool} (ha : QE X k m cm a (.bool b1)) : QE X k m cm (.UnaryOp .Not a pos) (.bool (!b1)) := fun A s Q E r h q =>
  UnaryOp_ (ha A s _ E r h fun u s1 k1 r1 => by
    cases r1
    exact not_of (wpAny_truthy_bool (q _ s1 k1 (.bl _))))
theorem q_le2 {i j l : Int} (ha : QE X k m cm a (.int i)) (hb : QE X k m cm b (.int j)) (hc : QE X k m cm c (.int l)) (hm : lastMarks [.LtE, .LtE] [b, c] = false := by with_unfolding_all rfl) :
    QE X k m cm (.Compare a [.LtE, .LtE] [b, c] pos) (.bool (decide (i ≤ j) && decide (j ≤ l))) := fun A s Q E r h q =>
  Compare_chain (ha A s _ E r h fun u s1 k1 r1 => chain_link (hb A s1 _ E r (h.kp k1) fun v s2 k2 r2 => by
    cases r1; cases r2
    refine le_int (wpAny_truthy_bool ?_)
    cases hij : decide (i ≤ j) with
    | false => exact q _ s2 (kp_trans k1 k2) (by rw [hij]; exact .bl false)
    | true =>
      refine chain_last (hc A s2 _ E r (h.kp (kp_trans k1 k2)) fun z s3 k3 r3 => ?_)
      cases r3
      exact le_int (q _ s3 (kp_trans (kp_trans k1 k2) k3) (by rw [hij]; exact .bl _)))) hm
theorem qa_nil : QA X k m cm [] [] := fun pos A s Q E r h q => Calls.spliced_nil (q [] s (kp_refl s) .nil)
theorem qa_cons (ha : QE X k m cm e d) (hr : QA X k m cm es ds) (hs : starEach (e :: es) X.env = (false, eval e X.env) :: starEach es X.env := by rfl) : QA X k m cm (e :: es) (d :: ds) := fun pos A s Q E r h q => by
  rw [hs]
  show wpAny _ _ (spliced ((false, eval e X.env) :: backTo pos (starEach es X.env))) _ _ s
  exact Calls.spliced_cons (ha A s _ E r h fun u s1 k1 r1 => hr pos A s1 _ E r (h.kp k1) fun us s2 k2 r2 => q (u :: us) s2 (kp_trans k1 k2) (.cons (rd_kp k2 r1) r2))
theorem q_blt {A : Around} {s : Shared} {Q E : Value → Shared → Prop} {u : Value} (h : QS X m cm s) (hg : X.env.kindOf x = some .globalImplicit) (hm : X.mg x = none) (hv : bootBuiltins x = some u) (q : Q u s) (hn : x ≠ "__name__" := by decide) (hd : (x == ("__debug__" : Str)) = false := by decide) :
    wpAny (model X.P X.w) A (eval (.Name x pos) X.env) Q E s := by
  obtain ⟨mb, h1, h2⟩ := h.qb.blt
  exact Calls.Name_function_global X.kind hg (Calls.loadGlobal_builtin (by rw [X.gl]; exact h.qb.glob) hm (by rw [X.bl]; exact h1) ((h2 x hn).trans hv) q) hd
theorem q_glob {A : Around} {s : Shared} {Q E : Value → Shared → Prop} {u : Value} (h : QS X m cm s) (hg : X.env.kindOf x = some .globalImplicit) (hm : X.mg x = some u) (q : Q u s) (hd : (x == ("__debug__" : Str)) = false := by decide) :
    wpAny (model X.P X.w) A (eval (.Name x pos) X.env) Q E s := Calls.Name_function_global X.kind hg (Calls.loadGlobal_global (by rw [X.gl]; exact h.qb.glob) hm q) hd
/-- isinstance(e, T), e an int -/
theorem q_isi {T : String} {y : Str} {i : Int} {bb : Bool} {p2 : Pos} (ha : QE X k m cm a (.int i)) (hg : X.env.kindOf "isinstance" = some .globalImplicit) (hm : X.mg "isinstance" = none) (hgT : X.env.kindOf y = some .globalImplicit) (hmT : X.mg y = none) (hvT : bootBuiltins y = some (.type T))
    (hk : PySem.W.kitOne X.K (.type "int") (.type T) = some bb) (hn : y ≠ "__name__" := by decide) (hd : (y == ("__debug__" : Str)) = false := by decide)
    (hs : starEach [a, .Name y p2] X.env = (false, eval a X.env) :: starEach [.Name y p2] X.env := by rfl) (hs2 : starEach [.Name y p2] X.env = (false, eval (.Name y p2) X.env) :: starEach [] X.env := by rfl) (hpl : (backTo pos (starEach [.Name y p2] X.env)).any (·.1) = false := by rfl) :
    QE X k m cm (.Call (.Name "isinstance" p) [a, .Name y p2] [] pos) (.bool bb) := fun A s Q E r h q => by
  refine wpAny_Call_Name_kw (q_blt h hg hm boot_isinstance (callWith_builtin1 ?_ hs hpl))
  rw [hs]
  show wpAny _ _ (spliced ((false, eval a X.env) :: backTo pos (starEach [.Name y p2] X.env))) _ _ s
  refine Calls.spliced_cons (ha A s _ E r h fun u s1 k1 r1 => ?_)
  rw [hs2]
  show wpAny _ _ (spliced ((false, eval (.Name y p2) X.env) :: backTo pos (starEach [] X.env))) _ _ s1
  refine Calls.spliced_cons (q_blt (h.kp k1) hgT hmT hvT (Calls.spliced_nil ?_) hn hd)
  cases r1
  exact PySem.W.kia_one PySem.W.kitx_int (h.kp k1).qb.kin trivial hk (fun z => nomatch z) fun tk => q _ _ (kp_trans k1 (kp_tok _ tk)) (.bl _)
/-- len(e), e a tuple -/
theorem q_len (ha : QE X k m cm a (.tuple ds)) (hl : ds.length ≤ sizeLine) (hg : X.env.kindOf "len" = some .globalImplicit) (hm : X.mg "len" = none) (hv : bootBuiltins "len" = some (.builtin "len"))
    (hs : starEach [a] X.env = (false, eval a X.env) :: starEach [] X.env := by rfl) : QE X k m cm (.Call (.Name "len" p) [a] [] pos) (.int ds.length) := fun A s Q E r h q => by
  refine wpAny_Call_Name_kw (q_blt h hg hm hv (callWith_builtin1 ?_ hs (by rfl)))
  rw [hs]
  show wpAny _ _ (spliced ((false, eval a X.env) :: backTo pos (starEach [] X.env))) _ _ s
  refine Calls.spliced_cons (ha A s _ E r h fun u s1 k1 r1 => Calls.spliced_nil ?_)
  cases r1 with
  | @tup t its _ ht hr =>
    have hlen := hr.len
    have hn := line63
    refine len_tuple (show IsTup s1.heap t its.toArray from ht) (by simp only [List.size_toArray]; omega) ?_
    have : (its.toArray.size : Int) = ds.length := by simp [hlen]
    rw [this]
    exact q _ _ (kp_trans k1 (kp_tok _ _)) (.int _ _)
/-! ### tests -/
theorem qt_val {b1 : Bool} (h : QE X k m cm a (.bool b1)) (he : ∀ whole, isTrue a X.env whole = (do let v ← whole; standAt a.pos; holding [v] (truthy v)) := by intro _; rfl) : QT X k m cm a b1 := fun A s Q E r hs q =>
  isTrue_plain (h A s _ E r hs fun u s1 k1 r1 => by
    cases r1
    exact wpAny_truthy_bool (q s1 k1)) (he _)
theorem qt_not {b1 : Bool} (h : QT X k m cm a b1) : QT X k m cm (.UnaryOp .Not a pos) (!b1) := fun A s Q E r hs q => isTrue_not (h A s _ E r hs q)
theorem qt_le2 {i j l : Int} (ha : QE X k m cm a (.int i)) (hb : QE X k m cm b (.int j)) (hc : QE X k m cm c (.int l)) (hm : lastMarks [.LtE, .LtE] [b, c] = false := by with_unfolding_all rfl) :
    QT X k m cm (.Compare a [.LtE, .LtE] [b, c] pos) (decide (i ≤ j) && decide (j ≤ l)) := fun A s Q E r h q =>
  isTrue_chain (ha A s _ E r h fun u s1 k1 r1 => test_link (hb A s1 _ E r (h.kp k1) fun v s2 k2 r2 => by
    cases r1; cases r2
    refine le_int (wpAny_truthy_bool ?_)
    cases hij : decide (i ≤ j) with
    | false => rw [hij] at q; exact q s2 (kp_trans k1 k2)
    | true =>
      rw [hij] at q
      refine test_last (hc A s2 _ E r (h.kp (kp_trans k1 k2)) fun z s3 k3 r3 => ?_)
      cases r3
      exact le_int (wpAny_truthy_bool (q s3 (kp_trans (kp_trans k1 k2) k3))))) hm
theorem qw_or1 {b1 : Bool} (h : QT X k m cm a b1) : QW X k m cm (.BoolOp .Or [a] pos) b1 := fun wh A s Q E r hs q =>
  isTrue_or (h A s _ E r hs fun s1 k1 => by
    cases b1 with
    | true => exact q s1 k1
    | false => exact isTrue_or_nil (q s1 k1))
theorem qw_or {b1 b2 : Bool} (h : QT X k m cm a b1) (h2 : b1 = false → QW X k m cm (.BoolOp .Or (b :: es) pos) b2) : QW X k m cm (.BoolOp .Or (a :: b :: es) pos) (b1 || b2) := fun wh A s Q E r hs q =>
  isTrue_or (h A s _ E r hs fun s1 k1 => by
    cases b1 with
    | true => exact q s1 k1
    | false => exact h2 rfl wh A s1 Q E r (hs.kp k1) fun s2 k2 => by simpa using q s2 (kp_trans k1 k2))
theorem qt_w {b1 : Bool} (h : QW X k m cm a b1) : QT X k m cm a b1 := fun A s Q E r hs q => h _ A s Q E r hs q
end
end Tk

set_option Elab.async false
set_option linter.all false
set_option maxRecDepth 100000
set_option maxHeartbeats 4000000
/-! Tk, part I: is_number, are_changes as quiet code. -/
namespace Tk
open PySem PySem.Spec PyProof.Rows L2
open Evl (Ex ex_l ex_t fresh_back)

/-- a call of a def, its body's run told by hand -/
theorem q_run {P : Program} {w : World} {K : PySem.W.Frag} {mg : Str → Option Value} {x qual : Str} {st : Stmt} {f : Addr} {fd : FuncData} {N ps : List Str} {A : Around} {s : Shared} {Q E : Value → Shared → Prop} {us : List Value}
    (F : Fun K x qual st f fd) (S : FnScope N ps (defScope st)) (hnc : ∀ y ∈ (defScope st).names, y.2 ≠ .cell) (hb : Binds K fd ps []) (hl : us.length = ps.length) (hr : A.depth < recursionLimit) (q : QB K mg s.heap)
    (h : ∀ cd s1, Keeps s s1 → s1.heap.Ns s.heap.objs.size (bindL (fun y => (defScope st).names.lookup y) (ps.zip us) fun _ => none) →
      wpAny (model P w) (A.deeper (envOfC qual (defScope st) s.heap.objs.size f cd)) (execs (defBody st) (envOfC qual (defScope st) s.heap.objs.size f cd)) (fun fl s' => Q (match fl with | .ret v => v | _ => .none) s') (fun _ _ => False) s1) :
    wpAny (model P w) A (call (.ref f) us) Q E s := by
  obtain ⟨oc, od, kV, doc, pm, an, cdv, ct, osl, rfl, lk, hcd⟩ := F.ex
  have b := hb s us q.kin (by simpa using hl)
  rw [List.append_nil] at b
  refine wpAny_call (codeAny_call_function hr (q.kin _ _ lk) rfl S.co S.gen rfl (PySem.W.codeRec_of q.kin hcd) (b _ _ _ _ ?_))
  have hkind : ∀ y ∈ ps.zip us, (defScope st).names.lookup y.1 = some .local ∨ ((defScope st).names.lookup y.1 = some .cell ∧ ((cellsFrom (s.heap.objs.size + 1) (defScope st).names []).lookup y.1).isSome = true) := fun ⟨n, v⟩ hy => by
    rcases S.par n (List.of_mem_zip hy).1 with z | z
    · exact .inl z
    · exact absurd rfl (hnc _ (PySem.mem_of_lookup z))
  refine wpAny_newFunctionEnv_cells S.kind hkind fun env he s1 y => ?_
  subst he
  refine ⟨q.lim.keeps y.toInCall.keep, codeAny_func ?_⟩
  obtain ⟨h1, tk, e1, kk⟩ := y.done
  exact wpAny_mono (h cdv s1 ⟨h1, tk, e1, kk⟩ y.toInCall.ns) (fun fl s' hs => hs) fun e s' hs => hs.elim
theorem bindL_look {kindOf : Str → Option NameKind} {P : List Str} {vs : List Value} {i : Nat} {x : Str} {v : Value} (nd : P.Nodup) (h1 : P[i]? = some x) (h2 : vs[i]? = some v) (hk : kindOf x = some .local) : bindL kindOf (P.zip vs) (fun _ => none) x = some v :=
  bindL_get nd h1 h2 hk

/-- the text of is_number -/
def IsNumT (st : Stmt) : Prop := ∃ p1 p2 p3 p4 p5 p6 p7 p8 p9 p10 p11 p12 p13 p14 p15,
  defBody st = [.Return (some (.BoolOp .And [.Call (.Name "isinstance" p1) [.Name "value" p2, .Name "int" p3] [] p4, .UnaryOp .Not (.Call (.Name "isinstance" p5) [.Name "value" p6, .Name "bool" p7] [] p8) p9,
    .Compare (.Name "least" p10) [.LtE, .LtE] [.Name "value" p11, .Name "most" p12] p13] p14)) p15]
/-- the names of a quiet def's frame -/
abbrev qxOf (P : Program) (w : World) (K : PySem.W.Frag) (mg : Str → Option Value) (qual : Str) (sc : Scope) (L f : Addr) (cd : Value) (hk : sc.kind = .function) : QX := ⟨P, w, K, mg, envOfC qual sc L f cd, hk, rfl, rfl⟩
structure IsNum (K : PySem.W.Frag) (mg : Str → Option Value) (f : Addr) (fd : FuncData) (st : Stmt) : Prop where
  fn : Fun K "is_number" "is_number" st f fd
  tx : IsNumT st
  sc : FnScope ["value", "least", "most"] ["value", "least", "most"] (defScope st)
  nc : ∀ y ∈ (defScope st).names, y.2 ≠ .cell
  l1 : (defScope st).names.lookup ("value" : Str) = some .local
  l2 : (defScope st).names.lookup ("least" : Str) = some .local
  l3 : (defScope st).names.lookup ("most" : Str) = some .local
  g1 : (defScope st).names.lookup ("isinstance" : Str) = some .globalImplicit
  g2 : (defScope st).names.lookup ("int" : Str) = some .globalImplicit
  g3 : (defScope st).names.lookup ("bool" : Str) = some .globalImplicit
  b : Binds K fd ["value", "least", "most"] []
  m1 : mg ("isinstance" : Str) = none
  m2 : mg ("int" : Str) = none
  m3 : mg ("bool" : Str) = none
def inR (a i b : Int) : Bool := decide (a ≤ i) && decide (i ≤ b)
theorem q_isnum {P : Program} {w : World} {K : PySem.W.Frag} {mg : Str → Option Value} {f : Addr} {fd : FuncData} {st : Stmt} (T : IsNum K mg f fd st) {A : Around} {s : Shared} {Q E : Value → Shared → Prop} {v a b : Int} {t1 t2 t3 : Tok} (hr : Room 1 A) (q : QB K mg s.heap)
    (h : ∀ s', Keeps s s' → Q (.bool (inR a v b)) s') : wpAny (model P w) A (call (.ref f) [.int v t1, .int a t2, .int b t3]) Q E s := by
  refine q_run (mg := mg) T.fn T.sc T.nc T.b rfl hr.depth q fun cd s1 k1 hn => ?_
  obtain ⟨p1, p2, p3, p4, p5, p6, p7, p8, p9, p10, p11, p12, p13, p14, p15, e⟩ := T.tx
  rw [e]
  have nd : (["value", "least", "most"] : List Str).Nodup := T.sc.nd
  let X : QX := qxOf P w K mg "is_number" (defScope st) s.heap.objs.size f cd T.sc.kind
  let mm : QM := fun x => ([("value", .int v), ("least", .int a), ("most", .int b)] : List (Str × PyData)).lookup x
  have hs : QS X mm (fun _ => none) s1 := by
    refine ⟨q.mono fun _ _ e => kp_get k1 e, ⟨_, hn, fun x d hx => ?_⟩, fun x d hx => nomatch hx⟩
    have hm := PySem.mem_of_lookup hx
    simp only [List.mem_cons, List.not_mem_nil, or_false, Prod.mk.injEq] at hm
    rcases hm with ⟨rfl, rfl⟩ | ⟨rfl, rfl⟩ | ⟨rfl, rfl⟩
    · exact ⟨_, bindL_look (i := 0) nd rfl rfl T.l1, .int _ _⟩
    · exact ⟨_, bindL_look (i := 1) nd rfl rfl T.l2, .int _ _⟩
    · exact ⟨_, bindL_look (i := 2) nd rfl rfl T.l3, .int _ _⟩
  have V : ∀ {p}, QE X 0 mm (fun _ => none) (.Name "value" p) (.int v) := fun {p} => q_name T.l1 rfl
  have L : ∀ {p}, QE X 0 mm (fun _ => none) (.Name "least" p) (.int a) := fun {p} => q_name T.l2 rfl
  have M : ∀ {p}, QE X 0 mm (fun _ => none) (.Name "most" p) (.int b) := fun {p} => q_name T.l3 rfl
  have J := q_and (pos := p14) (q_isi (X := X) (T := "int") (y := "int") (bb := true) (p := p1) (p2 := p3) (pos := p4) (V (p := p2)) T.g1 T.m1 T.g2 T.m2 boot_int rfl)
    (fun _ => q_and (q_not (pos := p9) (q_isi (X := X) (T := "bool") (y := "bool") (bb := false) (p := p5) (p2 := p7) (pos := p8) (V (p := p6)) T.g1 T.m1 T.g3 T.m3 boot_bool rfl)) (fun _ => q_one (q_le2 (pos := p13) (L (p := p10)) (V (p := p11)) (M (p := p12)))))
  refine wpAny_execs_cons (wpAny_Return_some (J _ s1 _ _ (hr.deeper _) hs fun u s2 k2 r => ?_))
  cases r
  exact h s2 (kp_trans k1 k2)

/-! ### are_changes -/
def pairI : PyData → Option (Int × Int)
  | .tuple [.int a, .int b] => some (a, b)
  | _ => none
def chOk (n : Nat) (d : PyData) : Bool := match pairI d with
  | some p => inR 0 p.1 ((n : Int) - 1) && inR 1 p.2 3
  | none => false
def chsOk (n : Nat) (ds : List PyData) : Bool := inR 1 ds.length 3 && ds.all (chOk n)
structure QL (X : QX) (m : QM) (s0 s : Shared) : Prop where
  kp : Keeps s0 s
  nw : s0.heap.get? X.env.locals = none
  qb : QB X.K X.mg s0.heap
  ns : ∃ mm, s.heap.Ns X.env.locals mm ∧ ∀ x d, m x = some d → ∃ u, mm x = some u ∧ RD s0.heap u d
section
variable {X : QX} {m m' : QM} {s0 s s' : Shared} {k : Nat}
theorem QL.qs (q : QL X m s0 s) : QS X m (fun _ => none) s :=
  ⟨q.qb.mono fun _ _ e => kp_get q.kp e, let ⟨mm, h1, h2⟩ := q.ns; ⟨mm, h1, fun x d h => let ⟨u, a, b⟩ := h2 x d h; ⟨u, a, rd_kp q.kp b⟩⟩, fun x d h => nomatch h⟩
theorem QL.on (q : QL X m s0 s) (h : Keeps s s') : QL X m s0 s' := ⟨kp_trans q.kp h, q.nw, q.qb, let ⟨mm, h1, h2⟩ := q.ns; ⟨mm, h1.keeps fun _ _ e => kp_get h e, h2⟩⟩
theorem QL.sub (q : QL X m s0 s) (h : ∀ x d, m' x = some d → m x = some d) : QL X m' s0 s := ⟨q.kp, q.nw, q.qb, let ⟨mm, h1, h2⟩ := q.ns; ⟨mm, h1, fun x d e => h2 x d (h x d e)⟩⟩
theorem QL.step (q : QL X m s0 s) {h' : Heap} {t' : Nat} {wr : List Addr} (hk : ∀ b o, b ∉ wr → s.heap.get? b = some o → h'.get? b = some o) (hw : ∀ b ∈ wr, s0.heap.get? b = none ∧ b ≠ X.env.locals) : QL X m s0 { s with heap := h', toks := t' } := by
  obtain ⟨mm, h1, h2⟩ := q.ns
  refine ⟨?_, q.nw, q.qb, mm, ?_, h2⟩
  · obtain ⟨h3, t3, rfl, k3⟩ := q.kp
    exact ⟨h', t', rfl, fun b o e => hk b o (fun z => by rw [(hw b z).1] at e; cases e) (k3 b o e)⟩
  · exact h1.at' fun o e => hk _ o (fun z => (hw _ z).2 rfl) e
/-- a name is stored -/
theorem QL.store {A : Around} {x : Str} {v : Value} {d : PyData} {p : Pos} {Q : Unit → Shared → Prop} {E : Value → Shared → Prop} (q : QL X m s0 s) (hk : X.env.kindOf x = some .local) (hv : RD s0.heap v d)
    (h : ∀ h' t', QL X (fun y => if y = x then some d else m y) s0 { s with heap := h', toks := t' } → (∀ b o, b ≠ X.env.locals → s.heap.get? b = some o → h'.get? b = some o) → Q () { s with heap := h', toks := t' }) : wpAny (model X.P X.w) A (assign (.Name x p) X.env v) Q E s := by
  obtain ⟨mm, h1, h2⟩ := q.ns
  refine wpAny_assign_Name (wpAny_storeName_local hk h1 (fun h' hn hs => ?_) (by rw [X.kind]; rfl))
  refine h h' _ ⟨?_, q.nw, q.qb, _, hn, fun y e hy => ?_⟩ fun b o hb e => (hs.2 b hb).trans e
  · obtain ⟨h3, t3, rfl, k3⟩ := q.kp
    exact ⟨h', _, rfl, fun b o e => (hs.2 b (fun z => by rw [z, q.nw] at e; cases e)).trans (k3 b o e)⟩
  · split at hy
    · rename_i z
      cases hy
      exact ⟨v, by rw [if_pos z], hv⟩
    · rename_i z
      obtain ⟨u, a, b⟩ := h2 y e hy
      exact ⟨u, by rw [if_neg z]; exact a, b⟩
end
section
variable {X : QX} {m cm : QM} {a b c : Expr} {p pos : Pos} {f : Addr} {fd : FuncData} {st : Stmt}
theorem q_callNum {i j l : Int} (T : IsNum X.K X.mg f fd st) (hg : X.env.kindOf "is_number" = some .globalImplicit) (hm : X.mg "is_number" = some (.ref f)) (ha : QE X 1 m cm a (.int i)) (hb : QE X 1 m cm b (.int j)) (hc : QE X 1 m cm c (.int l))
    (h1 : starEach [a, b, c] X.env = (false, eval a X.env) :: starEach [b, c] X.env := by rfl) (h2 : starEach [b, c] X.env = (false, eval b X.env) :: starEach [c] X.env := by rfl) (h3 : starEach [c] X.env = (false, eval c X.env) :: starEach [] X.env := by rfl)
    (hpl : (backTo pos (starEach [b, c] X.env)).any (·.1) = false := by rfl) : QE X 1 m cm (.Call (.Name "is_number" p) [a, b, c] [] pos) (.bool (inR j i l)) := fun A s Q E r h q => by
  refine wpAny_Call_Name_kw (q_glob h hg hm (PySem.W.callWith_K (h₀ := s.heap) h.qb.kin T.fn.kp ?_ h1 hpl))
  refine qa_cons ha (qa_cons hb (qa_cons hc qa_nil h3) h2) h1 pos A s _ E r h fun us s1 k1 r1 => ⟨(h.kp k1).qb.kin, ?_⟩
  cases r1 with
  | cons r1 r2 =>
    cases r2 with
    | cons r2 r3 =>
      cases r3 with
      | cons r3 r4 =>
        cases r4; cases r1; cases r2; cases r3
        exact q_isnum T r (h.kp k1).qb fun s2 k2 => q _ s2 (kp_trans k1 k2) (.bl _)
end
def AreChT (st : Stmt) : Prop := ∃ p1 p2 p3 p4 p5 p6 p7 p8 p9 p10 p11 p12 p13 p14 p15 p16 p17 p18 p19 p20 p21 p22 p23 p24 p25 p26 p27 p28 p29 p30 p31 p32 p33 p34 p35 p36 p37 p38,
  defBody st = [.If (.UnaryOp .Not (.Compare (.Constant (.int 1) 0 p1) [.LtE, .LtE] [.Call (.Name "len" p2) [.Name "changes" p3] [] p4, .Constant (.int 3) 0 p5] p6) p7) [.Return (some (.Constant (.bool false) 0 p8)) p9] [] p10,
    .For (.Tuple [.Name "variable" p11, .Name "add" p12] 0 p13) (.Name "changes" p14) [.If (.BoolOp .Or [.UnaryOp .Not (.Call (.Name "is_number" p15) [.Name "variable" p16, .Constant (.int 0) 0 p17, .BinOp (.Call (.Name "len" p18) [.Name "sizes" p19] [] p20) .Sub (.Constant (.int 1) 0 p21) p22] [] p23) p24,
      .UnaryOp .Not (.Call (.Name "is_number" p25) [.Name "add" p26, .Constant (.int 1) 0 p27, .Constant (.int 3) 0 p28] [] p29) p30] p31) [.Return (some (.Constant (.bool false) 0 p32)) p33] [] p34] [] p35, .Return (some (.Constant (.bool true) 0 p36)) p37] ∧ p38 = p37
structure AreCh (K : PySem.W.Frag) (mg : Str → Option Value) (f : Addr) (fd : FuncData) (st : Stmt) : Prop where
  fn : Fun K "are_changes" "are_changes" st f fd
  tx : AreChT st
  sc : FnScope ["sizes", "changes", "variable", "add"] ["sizes", "changes"] (defScope st)
  nc : ∀ y ∈ (defScope st).names, y.2 ≠ .cell
  l1 : (defScope st).names.lookup ("sizes" : Str) = some .local
  l2 : (defScope st).names.lookup ("changes" : Str) = some .local
  l3 : (defScope st).names.lookup ("variable" : Str) = some .local
  l4 : (defScope st).names.lookup ("add" : Str) = some .local
  g1 : (defScope st).names.lookup ("len" : Str) = some .globalImplicit
  g2 : (defScope st).names.lookup ("is_number" : Str) = some .globalImplicit
  b : Binds K fd ["sizes", "changes"] []
  m1 : mg ("len" : Str) = none
  num : ∃ g gd gt, IsNum K mg g gd gt ∧ mg ("is_number" : Str) = some (.ref g)
theorem q_changes {P : Program} {w : World} {K : PySem.W.Frag} {mg : Str → Option Value} {f : Addr} {fd : FuncData} {st : Stmt} (T : AreCh K mg f fd st) {A : Around} {s : Shared} {Q E : Value → Shared → Prop} {szs ds : List PyData} {u1 u2 : Value} (hr : Room 2 A) (q : QB K mg s.heap)
    (r1 : RD s.heap u1 (.tuple szs)) (r2 : RD s.heap u2 (.tuple ds)) (hl1 : szs.length ≤ sizeLine) (hl2 : ds.length ≤ sizeLine) (hp : ∀ d ∈ ds, (pairI d).isSome = true)
    (h : ∀ s', Keeps s s' → Q (.bool (chsOk szs.length ds)) s') : wpAny (model P w) A (call (.ref f) [u1, u2]) Q E s := by
  refine q_run (mg := mg) T.fn T.sc T.nc T.b rfl hr.depth q fun cd s1 k1 hn => ?_
  obtain ⟨p1, p2, p3, p4, p5, p6, p7, p8, p9, p10, p11, p12, p13, p14, p15, p16, p17, p18, p19, p20, p21, p22, p23, p24, p25, p26, p27, p28, p29, p30, p31, p32, p33, p34, p35, p36, p37, p38, e, _⟩ := T.tx
  rw [e]
  obtain ⟨g, gd, gt, TN, mN⟩ := T.num
  have nd : (["sizes", "changes"] : List Str).Nodup := by decide
  let X : QX := qxOf P w K mg "are_changes" (defScope st) s.heap.objs.size f cd T.sc.kind
  let mm : QM := fun x => ([("sizes", .tuple szs), ("changes", .tuple ds)] : List (Str × PyData)).lookup x
  have r0 : Room 1 (A.deeper (envOfC "are_changes" (defScope st) s.heap.objs.size f cd)) := hr.deeper _
  have hq : QL X mm s s1 := by
    refine ⟨k1, Heap.get?_none_of_le (Nat.le_refl _), q, _, hn, fun x d hx => ?_⟩
    have hm := PySem.mem_of_lookup hx
    simp only [List.mem_cons, List.not_mem_nil, or_false, Prod.mk.injEq] at hm
    rcases hm with ⟨rfl, rfl⟩ | ⟨rfl, rfl⟩
    · exact ⟨_, bindL_look (i := 0) nd rfl rfl T.l1, r1⟩
    · exact ⟨_, bindL_look (i := 1) nd rfl rfl T.l2, r2⟩
  have hlen : bootBuiltins "len" = some (.builtin "len") := boot_len
  -- the first test
  have J1 := qt_not (pos := p7) (qt_le2 (X := X) (k := 1) (m := mm) (cm := fun _ => none) (pos := p6) (q_int (i := 1) (j := 0) (pos := p1)) (q_len (p := p2) (pos := p4) (q_name (pos := p3) (d := .tuple ds) T.l2 rfl) hl2 T.g1 T.m1 hlen) (q_int (i := 3) (j := 0) (pos := p5)))
  refine wpAny_execs_cons (wpAny_If (J1 _ s1 _ _ r0 hq.qs fun s2 k2 => ?_))
  cases hb1 : decide ((1 : Int) ≤ (ds.length : Nat)) && decide (((ds.length : Nat) : Int) ≤ 3) with
  | false =>
    simp only [Bool.not_false, if_true]
    refine wpAny_execs_cons (wpAny_Return_some (Constant_bool ?_))
    have z : chsOk szs.length ds = false := by unfold chsOk inR; rw [hb1]; rfl
    rw [z] at h
    exact h s2 (kp_trans k1 k2)
  | true =>
    simp only [Bool.not_true, Bool.false_eq_true, if_false]
    refine wpAny_execs_nil ?_
    have z : chsOk szs.length ds = ds.all (chOk szs.length) := by unfold chsOk inR; rw [hb1]; rfl
    rw [z] at h
    have hq2 := hq.on k2
    -- the loop
    refine wpAny_execs_cons (wpAny_mono (Q := fun fl s' => Keeps s s' ∧ ((fl = .ret (.bool false) ∧ ds.all (chOk szs.length) = false) ∨ (fl = .next ∧ ds.all (chOk szs.length) = true))) ?_ (fun fl s' hfl => ?_) fun _ _ e => e)
    · refine exec_For_goes ?_
      obtain ⟨m2, n1, n2⟩ := hq2.ns
      obtain ⟨u, n3, n4⟩ := n2 "changes" (.tuple ds) rfl
      cases n4 with
      | @tup a its _ ht0 hr0 =>
        have old : ∀ b o, s.heap.get? b = some o → s2.heap.get? b = some o := fun _ _ e => kp_get hq2.kp e
        have ht2 : s2.heap.IsTuple a its.toArray := ht0.at fun o e => old _ o e
        have hal : a ≠ X.env.locals := fun z => by
          obtain ⟨o, e1, _⟩ := ht0
          rw [z, hq2.nw] at e1; cases e1
        have hIl : (s2.heap.objs.size : Addr) ≠ X.env.locals := fun z => by
          have := n1.lt
          rw [← z] at this
          exact Nat.lt_irrefl _ this
        have hIs : s.heap.get? s2.heap.objs.size = none := by
          cases e : s.heap.get? s2.heap.objs.size with
          | none => rfl
          | some o => exact absurd (Heap.lt_size (old _ o e)) (Nat.lt_irrefl _)
        have haI : a ≠ s2.heap.objs.size := fun z => by
          obtain ⟨o, e1, _⟩ := ht0
          rw [z, hIs] at e1; cases e1
        have hlen2 := hr0.len
        refine wpAny_Name (wpAny_loadName_local T.sc.kind T.l2 n1 n3 (wpAny_pyIter_tuple ht2 ?_)) (by decide)
        refine ⟨s2.heap.objs.size, [s2.heap.objs.size, a], [s2.heap.objs.size], its.toArray.size, _, _, fun i s' => QL X mm s s' ∧ ∀ j, j < i → ∀ d, ds[j]? = some d → chOk szs.length d = true, rfl, Goes.tuple r0.hd s2.heap.objs.size a haI its.toArray,
          ⟨⟨_, Heap.get?_push_size _ rfl, rfl, rfl⟩, ht2.push _⟩, ⟨hq2.on ⟨_, _, rfl, fun b o e => Heap.get?_push_of_some _ e⟩, fun j hj => absurd hj (Nat.not_lt_zero _)⟩, fun i s3 h' tk hG hk _ => ⟨hG.1.step hk fun b hb => ?_, hG.2⟩, fun i v s3 hi hY hSt hG => ?_, fun s3 hG => ?_⟩
        · have eb : b = s2.heap.objs.size := by simpa using hb
          subst eb
          exact ⟨hIs, hIl⟩
        · obtain ⟨d, hd, rv⟩ := hr0.get (i := i) (v := v) (by rw [← hY]; simp)
          have hsome := hp d (List.mem_of_getElem? hd)
          cases hpd : pairI d with
          | none => rw [hpd] at hsome; cases hsome
          | some pq =>
            have ed : ∃ x y, d = .tuple [.int x, .int y] := by
              unfold pairI at hpd
              split at hpd
              · exact ⟨_, _, rfl⟩
              · cases hpd
            obtain ⟨x, y, rfl⟩ := ed
            cases rv with
            | @tup t its2 _ ht3 hr3 =>
              cases hr3 with
              | cons ra rb =>
                cases rb with
                | cons rb rc =>
                  cases rc; cases ra; cases rb
                  rename_i tx ty
                  refine assign_Tuple_tuple r0.hd (show IsTup s3.heap t _ from ht3.at fun o e => kp_get hG.1.kp e) rfl rfl fun h' hx => ?_
                  have kx : ∀ b o, s3.heap.get? b = some o → h'.get? b = some o := fun b o e => hx b o (Nat.ne_of_lt (Heap.lt_size e)) e
                  show wpAny _ _ (assignInOrder [assign (.Name "variable" p11) X.env, assign (.Name "add" p12) X.env] [.int x tx, .int y ty]) _ _ _
                  refine assignInOrder_cons ((hG.1.on (s' := { s3 with heap := h' }) ⟨h', s3.toks, rfl, kx⟩).store T.l3 (.int x tx) fun h3 t3 q3 f3 => assignInOrder_cons (q3.store T.l4 (.int y ty) fun h4 t4 q4 f4 => assignInOrder_nil ?_))
                  have J2 := qt_w (qw_or (pos := p31) (qt_not (pos := p24) (qt_val (q_callNum (X := X) (m := fun z => if z = "add" then some (.int y) else if z = "variable" then some (.int x) else mm z) (cm := fun _ => none) (p := p15) (pos := p23) TN T.g2 mN (q_name (pos := p16) (d := .int x) T.l3 rfl) (q_int (i := 0) (j := 0) (pos := p17))
                      (q_sub (pos := p22) (q_len (p := p18) (pos := p20) (q_name (pos := p19) (d := .tuple szs) T.l1 rfl) hl1 T.g1 T.m1 hlen) (q_int (i := 1) (j := 0) (pos := p21))))))
                    (fun _ => qw_or1 (pos := p31) (qt_not (pos := p30) (qt_val (q_callNum (X := X) (m := fun z => if z = "add" then some (.int y) else if z = "variable" then some (.int x) else mm z) (cm := fun _ => none) (p := p25) (pos := p29) TN T.g2 mN (q_name (pos := p26) (d := .int y) T.l4 rfl) (q_int (i := 1) (j := 0) (pos := p27)) (q_int (i := 3) (j := 0) (pos := p28)))))))
                  refine wpAny_execs_cons (wpAny_If (J2 _ _ _ _ r0 q4.qs fun s5 k5 => ?_))
                  have ec : chOk szs.length (.tuple [.int x, .int y]) = (inR 0 x ((szs.length : Int) - 1) && inR 1 y 3) := rfl
                  have kk : Keeps s s5 := kp_trans q4.kp k5
                  cases hb2 : (!inR 0 x ((szs.length : Nat) - 1 : Int) || !inR 1 y 3) with
                  | true =>
                    simp only [if_true]
                    refine wpAny_execs_cons (wpAny_Return_some (Constant_bool ⟨kk, .inl ⟨rfl, ?_⟩⟩))
                    rw [Bool.eq_false_iff]
                    intro hall
                    have := List.all_eq_true.mp hall _ (List.mem_of_getElem? hd)
                    rw [ec] at this
                    revert this hb2
                    cases inR 0 x ((szs.length : Int) - 1) <;> cases inR 1 y 3 <;> simp
                  | false =>
                    simp only [Bool.false_eq_true, if_false]
                    have okd : chOk szs.length (.tuple [.int x, .int y]) = true := by
                      rw [ec]
                      revert hb2
                      cases inR 0 x ((szs.length : Int) - 1) <;> cases inR 1 y 3 <;> simp
                    refine wpAny_execs_nil (wpAny_execs_nil ⟨⟨(q4.on k5).sub fun z e hz => ?_, fun j hj e he => ?_⟩, ?_⟩)
                    · have hm := PySem.mem_of_lookup hz
                      simp only [List.mem_cons, List.not_mem_nil, or_false, Prod.mk.injEq] at hm
                      rcases hm with ⟨rfl, rfl⟩ | ⟨rfl, rfl⟩ <;> rfl
                    · by_cases hji : j = i
                      · subst hji
                        rw [hd] at he; cases he
                        exact okd
                      · exact hG.2 j (by omega) e he
                    · have fr : ∀ b o, b ≠ X.env.locals → s3.heap.get? b = some o → s5.heap.get? b = some o := fun b o hb e => kp_get k5 (f4 b o hb (f3 b o hb (kx b o e)))
                      exact ⟨hSt.1.at fun o e => fr _ o hIl e, hSt.2.at fun o e => fr _ o hal e⟩
        · refine wpAny_execs_nil ⟨hG.1.kp, .inr ⟨rfl, ?_⟩⟩
          rw [List.all_eq_true]
          intro d hd
          obtain ⟨j, hj, e⟩ := List.getElem_of_mem hd
          exact hG.2 j (by simp; omega) d (by rw [← e]; exact List.getElem?_eq_getElem hj)
    · obtain ⟨kk, ⟨rfl, e1⟩ | ⟨rfl, e1⟩⟩ := hfl
      · rw [e1] at h; exact h s' kk
      · rw [e1] at h
        exact wpAny_execs_cons (wpAny_Return_some (Constant_bool (h s' kk)))
end Tk

set_option Elab.async false
set_option linter.all false
set_option maxRecDepth 100000
set_option maxHeartbeats 4000000
/-! Tk, part J: all(.. for x in a tuple). -/
namespace Tk
open PySem PySem.Spec PyProof.Rows L2
open Evl (Ex ex_l ex_t fresh_back)
open GxR (TabB TabG Tabbed GenS inv_tab sh_eta)

/-- a table of code objects has grown -/
theorem EnvOk.tabbed {T : Cfg} {B : Bg} {F H H2 : Hp} {σ : L2.St} {s : S} {P : Addr} (I : EnvOk T B F H σ s) (hP : P ∈ B.tb) (t : Tabbed P H H2) : EnvOk T B F H2 σ s := by
  obtain ⟨t1, t2⟩ := t
  have hF : F P = none := I.tbF P hP
  have hm : B.mut P := .inr hP
  obtain ⟨ps0, e0, e00⟩ := (I.tb P hP).1
  have nls : ∀ q, B.ls = some q → q.1 ≠ P ∧ q.2 ≠ P := fun q hq => by
    obtain ⟨l, _⟩ := I.ls q hq
    refine ⟨fun z => ?_, fun z => ?_⟩
    · have := l.top; rw [z, e0] at this; cases this
    · have := l.cel; rw [z, e0] at this; cases this
  obtain ⟨own, ho, hs⟩ := I.sl
  have no : ∀ a i, own a = some i → a ≠ P := fun a i q z => (I.tb P hP).2.1 (by rw [← z]; exact (ho a i q).2.2.1)
  refine ⟨fun a u q => ?_, I.f0, I.nw, fun a u q m => ?_, fun a q => ?_, fun R hR => ⟨?_, (I.tb R hR).2⟩, I.tq, fun q hq => ?_, fun q hq => ?_, I.pd, I.len, own, fun a i q => ?_, fun i av q => ?_⟩
  · rw [t2 a fun z => by rw [z, hF] at q; cases q]; exact I.fh a u q
  · rw [t2 a fun z => m (z ▸ hm)]; exact I.kp a u q m
  · by_cases c : a = P
    · obtain ⟨ps, e1, _⟩ := t1
      rw [c, e1]; exact ne_some rfl
    · rw [t2 a c]; exact I.lv a q
  · by_cases c : R = P
    · rw [c]; exact t1
    · obtain ⟨ps, e1, e2⟩ := (I.tb R hR).1
      exact ⟨ps, by rw [t2 R c]; exact e1, e2⟩
  · obtain ⟨l, r⟩ := I.ls q hq
    exact ⟨⟨l.ne, by rw [t2 _ (nls q hq).1]; exact l.top, by rw [t2 _ (nls q hq).2]; exact l.cel, l.f1, l.f2⟩, r⟩
  · obtain ⟨a1, a2, a3⟩ := I.px q hq
    exact ⟨by rw [t2 _ fun z => (I.tb P hP).2.1 (by rw [← z]; exact a3)]; exact a1, a2, a3⟩
  · obtain ⟨a1, a2, a3⟩ := ho a i q
    exact ⟨a1, by rw [t2 a (no a i q)]; exact a2, a3⟩
  · obtain ⟨v, h1, h2⟩ := hs i av q
    exact ⟨v, h1, h2.imp id fun z => z.at (Ex.refl F) fun a q => ⟨q, t2 a (no a i q)⟩⟩

/-- the truth at place j -/
def atJ (l : List Bool) (j : Nat) : Bool := (l[j]?).getD false
theorem all_atJ (l : List Bool) : (List.range l.length).all (atJ l) = l.all id := by
  rw [Bool.eq_iff_iff, List.all_eq_true, List.all_eq_true]
  constructor
  · intro h b hb
    obtain ⟨j, hj, e⟩ := List.getElem_of_mem hb
    have := h j (List.mem_range.mpr hj)
    simpa [atJ, List.getElem?_eq_getElem hj, e] using this
  · intro h j hj
    have hj := List.mem_range.mp hj
    simpa [atJ, List.getElem?_eq_getElem hj] using h _ (List.getElem_mem hj)
section
variable {X : Cx} {pins : List (Addr × Obj)} {σ : L2.St} {H : Hp} {s : Shared}
/-- a generator's block: its names, what its element comes to -/
def EltQ (X : Cx) (k : Nat) (scope : Scope) (x : Str) (elt : Expr) (P : Addr) (s1 : Shared) (ds : List PyData) (bs : List Bool) : Prop :=
  ∀ (cenv : Env) (A : Around) (s2 : Shared) (Q E : Value → Shared → Prop) (m2 : Str → Option Value) (i : Nat) (v : Value) (d : PyData), cenv.scope = scope → cenv.globals = mainGlobals → cenv.builtins = builtinsNs → cenv.cells = cloFrom X.env.cells scope.names [] → Room k A →
    (∀ b o, b ≠ P → s1.heap.get? b = some o → s2.heap.get? b = some o) → ds[i]? = some d → s2.heap.Ns cenv.locals m2 → m2 x = some v → RD s2.heap v d → (∀ s3, Keeps s2 s3 → Q (.bool (atJ bs i)) s3) → wpAny (model X.prog X.w) A (eval elt cenv) Q E s2
/-- the generator g, ready to be walked -/
def GReady (X : Cx) (pins : List (Addr × Obj)) (σ : L2.St) (H1 : Hp) (P : Addr) (bs : List Bool) (g : Addr) (s5 : Shared) : Prop :=
  ∃ (fp wr : List Addr) (G : Array GenState → Array GenState → Prop) (F : Nat → Value → Prop) (St : Nat → Shared → Prop),
    WalksS X.prog X.w X.A.in1 g fp wr G bs.length F St ∧ St 0 s5 ∧ TruthOf X.prog X.w X.A.in1 F (atJ bs) ∧ ∀ s', Moved wr G s5 s' → ∃ H2, Tabbed P H1 H2 ∧ Inv X pins σ H2 s'
theorem gen_tup {c P : Addr} {elt iter : Expr} {x : Str} {px gpos : Pos} {scope : Scope} {te : TE} {k : Nat} {Q' : Value → Shared → Prop} {R : List Bool → Hp → Prop}
    (hr : Room (k + 1) X.A) (TB : TabB X.base X.mg c P) (hcode : X.env.code = .ref c) (W : GenS X.env scope x) (hi : PE X iter te) (hs : ∀ v, genFold iter X.env v = pure v) (I : Inv X pins σ H s)
    (h : te σ H fun v H1 => ∃ (a : Addr) (ds : List PyData) (F : Hp) (bs : List Bool), v = .ref a ∧ Ex F H1 ∧ Dt X.K F (.ref a) (.tuple ds) ∧ tupIs ds = true ∧ bs.length = ds.length ∧ TabG H1 P ∧ (∀ pins s1, Inv X pins σ H1 s1 → EltQ X k scope x elt P s1 ds bs) ∧ R bs H1)
    (hQ : ∀ bs H1 g s5, R bs H1 → GReady X pins σ H1 P bs g s5 → Q' (.ref g) s5) :
    wpAny (model X.prog X.w) X.A (eval (.GeneratorExp elt [⟨.Name x px, iter, [], 0⟩] scope gpos) X.env) Q' X.xe s := by
  refine wpAny_GeneratorExp_walksQD hr.hd W.co (closure_ok W.free) W.cell W.dot W.loc W.kind (by have := hr.dp; omega) ?_ hs
  refine thn (hi.run pins s σ H _ I h) fun xv s1 ⟨v, H1, I1, r1, q1⟩ => ?_
  obtain ⟨a, ds, F, bs, rfl, ef, dt, ti, hbl, ⟨ps, hP, htr⟩, hel, q1⟩ := q1
  cases r1
  have rd : RD s1.heap (.ref a) (.tuple ds) := rd_of I1 ef _ _ _ (by simpa [tupI] using ti) dt rfl
  cases rd with
  | @tup _ its _ ht hrs =>
  have hlen := hrs.len
  have hPs : s1.heap.get? P = some { cls := .none, data := .fields ps } := I1.hok P _ hP
  have hPl : P < s1.heap.objs.size := Heap.lt_size hPs
  have haP : a ≠ P := fun z => by
    obtain ⟨o, e1, e2, _⟩ := ht
    rw [z, hPs] at e1; cases e1; cases e2
  have hal : a < s1.heap.objs.size := by obtain ⟨o, e1, _⟩ := ht; exact Heap.lt_size e1
  refine wpAny_pyIter_tuple ht ?_
  generalize ho : ({ cls := .type "tuple_iterator", data := .fields #[.ref a, .int 0 0] } : Obj) = ob
  have of : ob.isFreed = false := by rw [← ho]; rfl
  have hP2 : (s1.heap.push ob).get? P = some { cls := .none, data := .fields ps } := Heap.get?_push_of_some _ hPs
  have cd : PySem.W.CodeHd (s1.heap.push ob) c P := TB.code.keeps fun b u e => Heap.get?_push_of_some _ (I1.bk b u e)
  have lim2 : (s1.heap.push ob).NoLimit := I1.nolimit.push ob
  have sz2 : (s1.heap.push ob).objs.size = s1.heap.objs.size + 1 := Heap.size_push ..
  have hcP : cStatics ≠ P := fun e => by
    obtain ⟨_, hns, _⟩ := I1.nolimit
    obtain ⟨o', es, ep, ho', hd, _⟩ := hns
    rw [e, hPs] at ho'; cases ho'; cases hd
  have hcl : cStatics < s1.heap.objs.size := let ⟨_, hns, _⟩ := I1.nolimit; hns.lt
  have cont : ∀ (code : Value) (h3 : Heap) (tk : Nat) (ps' : Array Value), Heap.ExtBut P (s1.heap.push ob) h3 → (s1.heap.push ob).objs.size ≤ h3.objs.size → h3.get? P = some { cls := .none, data := .fields ps' } → (∃ more, ps' = ps ++ more) → TriplesOk ps'.toList →
      wpAny (model X.prog X.w) X.A (builtinsFor X.env.globals X.env.builtins) (fun bi s₄ =>
        ∃ Ia fp wr n₀ Pf St₀ pz F, Value.ref s1.heap.objs.size = .ref Ia ∧ (∀ A' : Around, A'.handled = none → Walks X.prog X.w A' Ia fp wr n₀ Pf St₀) ∧ St₀ 0 s₄.heap ∧ (∀ b ∈ fp, b < s₄.heap.objs.size) ∧ s₄.heap.NoLimit ∧ cStatics ∉ wr ∧
          (∀ href : Heap, (∀ b o, s₄.heap.get? b = some o → href.get? b = some o) →
            QuietGenD X.prog X.w (genEnv scope (cloFrom X.env.cells scope.names []) s₄.heap.objs.size code bi X.env) x [] elt (List.range s₄.heap.objs.size) wr Pf pz F href (X.A.depth + 1) (X.A.units + 8)) ∧
          (∀ a h₅ tk gs, gs.bare = true → s₄.heap.objs.size < a → h₅.objs.size = a + 1 → (∀ b o, s₄.heap.get? b = some o → h₅.get? b = some o) →
            WalksS X.prog X.w X.A.in4 a (a :: s₄.heap.objs.size :: List.range s₄.heap.objs.size) (s₄.heap.objs.size :: wr) (GenOnlyQ s₄.gens.size) (passing pz n₀ 0).length
              (fun j y => ∃ i, (passing pz n₀ 0)[j]? = some i ∧ F i y) (GenAt X.prog X.w X.A.in4 a s₄.gens.size s₄.heap.objs.size (List.range s₄.heap.objs.size) wr pz n₀ F) →
            GenAt X.prog X.w X.A.in4 a s₄.gens.size s₄.heap.objs.size (List.range s₄.heap.objs.size) wr pz n₀ F 0 { s₄ with gens := s₄.gens.push gs, toks := tk, heap := h₅ } →
            Q' (.ref a) { s₄ with gens := s₄.gens.push gs, toks := tk, heap := h₅ })) X.xe { s1 with heap := h3, toks := tk } := by
    intro code h3 tk ps' hx hsz hP3 hmore ht3
    obtain ⟨bm, obm, e1, e2, e3, e4, e5, e6, e7, e8⟩ := TB.bm
    have up3 : ∀ b u, b ≠ P → s1.heap.get? b = some u → h3.get? b = some u := fun b u hb e => hx b u hb (Heap.get?_push_of_some _ e)
    refine wpAny_builtinsFor (m := X.mg) (by rw [I1.ok.glob]; exact ((I1.mod.glob.keeps I1.bk).push ob).extBut hx TB.gP) e1 e2 (up3 _ _ e4 (I1.bk _ _ e5)) e6 e7 e8 ?_
    have hit : h3.IsTupleIter s1.heap.objs.size a 0 := ⟨ob, hx _ _ (fun z => Nat.lt_irrefl _ (z ▸ hPl)) (Heap.get?_push_size _ of), by rw [← ho], by rw [← ho]; rfl⟩
    have htu : h3.IsTuple a its.toArray := ht.at fun o e => up3 a o haP e
    refine ⟨s1.heap.objs.size, [s1.heap.objs.size, a], [s1.heap.objs.size], its.toArray.size, _, _, (fun _ => true), (fun i y => i < ds.length ∧ y = .bool (atJ bs i)), rfl, fun A' hA => Walks.tuple hA s1.heap.objs.size a (Nat.ne_of_lt hal) its.toArray, ⟨hit, htu⟩, ?_, lim2.extBut hx hcP, ?_, ?_, ?_⟩
    · intro b hb
      have hb' : b = s1.heap.objs.size ∨ b = a := by simpa using hb
      show b < h3.objs.size
      rcases hb' with z | z
      · rw [z]; show (s1.heap.objs.size : Nat) < _; omega
      · rw [z]; exact Nat.lt_of_lt_of_le hal (by omega)
    · intro z
      have z' : cStatics = s1.heap.objs.size := by simpa using z
      exact Nat.lt_irrefl _ (z' ▸ hcl)
    · intro href hhref
      refine ⟨fun A' E' i v s₂ m₂ hA hD hU hv hn hm hk => ?_, fun A' E' i v s₂ m₂ hA hD hU hv hp hn hm hk => ?_⟩
      · simp only [List.forIn_nil]
        exact wpAny_pure ⟨rfl, kp_refl _⟩
      · have hv' : its.toArray[i]? = some v := hv
        obtain ⟨d, hd, rv⟩ := hrs.get (i := i) (v := v) (by rw [← hv']; simp)
        have up : ∀ b o, b ≠ P → s1.heap.get? b = some o → s₂.heap.get? b = some o := fun b o hb e => by
          have hbl := Heap.lt_size e
          refine hk b (List.mem_range.mpr (Heap.lt_size (up3 b o hb e))) (fun z => ?_) o (hhref b o (up3 b o hb e))
          have z' : b = s1.heap.objs.size := by simpa using z
          exact Nat.lt_irrefl _ (z' ▸ hbl)
        have r2 : RD s₂.heap v d := rd_mono (fun b o hc e => up b o (fun z => by rw [z, hPs] at e; cases e; cases hc) e) d v rv
        exact hel pins s1 I1 _ A' s₂ _ _ m₂ i v d rfl I1.ok.glob rfl rfl ⟨hA, by have := hr.dp; omega, by have := hr.un; omega⟩ up hd hn hm r2 fun s3 k3 => ⟨⟨(List.getElem?_eq_some_iff.mp hd).1, rfl⟩, k3⟩
    · intro g h5 tk5 gs hgb hag hsz5 hk5 W5 hat
      simp only [GxR.passing_true, List.length_range] at W5
      have en : its.toArray.size = bs.length := by simp [hlen, hbl]
      rw [en] at W5 hat
      refine hQ bs H1 g _ q1 ⟨_, _, _, _, _, W5.in4_1, hat, ?_, fun s' hm => ?_⟩
      · intro j y sj Qj Ej hy hQj
        obtain ⟨i, hij, _, rfl⟩ := hy
        obtain ⟨hj, ej⟩ := List.getElem?_eq_some_iff.mp hij
        rw [List.getElem_range] at ej
        subst ej
        exact wpAny_truthy_bool hQj
      · obtain ⟨more, em⟩ := hmore
        have nwr : ∀ b u, s1.heap.get? b = some u → b ∉ h3.objs.size :: [s1.heap.objs.size] := fun b u e hb => by
          have hl := Heap.lt_size e
          rcases List.mem_cons.mp hb with z | z
          · rw [z] at hl
            have h9 : (h3.objs.size : Nat) < s1.heap.objs.size := hl
            omega
          · have z' : b = s1.heap.objs.size := by simpa using z
            exact Nat.lt_irrefl _ (z' ▸ hl)
        have J := inv_tab (more := more) (h' := s'.heap) (g' := s'.gens) (d' := s'.drawn) (t' := s'.toks) I1 hP (fun b u hb e => hm.heap b u (nwr b u e) (hk5 b u (up3 b u hb e)))
          (by rw [← em]; exact hm.heap P _ (nwr P _ hPs) (hk5 P _ hP3)) (AllBare.movedS (I1.bare.push hgb) hm)
        rw [sh_eta s1 s' hm.os] at J
        exact ⟨upd H1 P (.tbl (ps ++ more)), ⟨⟨ps ++ more, upd_same, by rw [← em]; exact ht3⟩, fun b hb => upd_ne hb⟩, J⟩
  refine ⟨lim2, ?_⟩
  cases hf : codeAmong gpos ps.toList with
  | none =>
    refine wpAny_genexprCodeX hcode (cd.code hP2 htr) (cd.tab hP2) hf fun c' h' tk hx hge hlt hco' _ htab' _ => ?_
    obtain ⟨o1, vs, f1, tf, fl, tg, inF, tx, tt, op, _, _, _, _, _, _, _, _, _, htr2, _⟩ := hco'
    exact cont _ h' tk _ hx (Nat.le_trans hge (Nat.le_of_lt hlt)) htab'.2 ⟨_, rfl⟩ htr2
  | some cv =>
    refine wpAny_genexprCode_hit hcode (cd.code hP2 htr) hf ?_
    exact cont cv (s1.heap.push ob) s1.toks ps (Heap.ExtBut.refl _ _) (Nat.le_refl _) hP2 ⟨#[], by simp⟩ htr
/-- all(elt for x in iter), iter a tuple -/
def tAllT (X : Cx) (k : Nat) (scope : Scope) (x : Str) (elt : Expr) (P : Addr) (te : TE) : TE := fun σ H Q => te σ H fun v H1 =>
  ∃ (a : Addr) (ds : List PyData) (F : Hp) (bs : List Bool), v = .ref a ∧ Ex F H1 ∧ Dt X.K F (.ref a) (.tuple ds) ∧ tupIs ds = true ∧ bs.length = ds.length ∧ TabG H1 P ∧ (∀ pins s1, Inv X pins σ H1 s1 → EltQ X k scope x elt P s1 ds bs) ∧ ∀ H2, Tabbed P H1 H2 → Q (.bl (bs.all id)) H2
theorem pe_allT {c P : Addr} {elt iter : Expr} {x : Str} {px p pos gpos : Pos} {scope : Scope} {te : TE} {k : Nat}
    (hr : Room (k + 1) X.A) (hg : Gl X "all") (hm : X.mg "all" = none) (hb : bootBuiltins "all" = some (.builtin "all")) (TB : TabB X.base X.mg c P) (hcode : X.env.code = .ref c) (W : GenS X.env scope x) (hi : PE X iter te) (hs : ∀ v, genFold iter X.env v = pure v)
    (he : starEach [.GeneratorExp elt [⟨.Name x px, iter, [], 0⟩] scope gpos] X.env = (false, eval (.GeneratorExp elt [⟨.Name x px, iter, [], 0⟩] scope gpos) X.env) :: starEach [] X.env := by rfl) :
    PE X (.Call (.Name "all" p) [.GeneratorExp elt [⟨.Name x px, iter, [], 0⟩] scope gpos] [] pos) (tAllT X k scope x elt P te) := by
  refine ⟨fun pins s σ H Q I h => wpAny_Call_Name_kw (ld_blt I hg hm hb (PyProof.Rows.callWith_builtin1 ?_ he (by rfl)))⟩
  rw [he]
  show wpAny _ _ (spliced ((false, eval (.GeneratorExp elt [⟨.Name x px, iter, [], 0⟩] scope gpos) X.env) :: backTo pos (starEach [] X.env))) _ _ s
  refine Calls.spliced_cons (gen_tup (R := fun bs H1 => ∀ H2, Tabbed P H1 H2 → Q (.bl (bs.all id)) H2) hr TB hcode W hi hs I h fun bs H1 g s5 hR hG => ?_)
  obtain ⟨fp, wr, G, F, St, W5, hst, htr, hI⟩ := hG
  refine Calls.spliced_nil (call_all_walkS (W5.self 0 _ _ _ hst ⟨g, fp, wr, G, _, F, St, _, rfl, W5, hst, htr, fun s' hmv => ?_⟩))
  obtain ⟨H2, hT, J⟩ := hI s' hmv
  refine ⟨.bl _, H2, J, rfl, ?_⟩
  rw [all_atJ]
  exact hR H2 hT
/-- a captured name's datum -/
theorem cl_at {T : Cfg} {B : Bg} {F : Hp} {st : S} {scope : Scope} {i : Nat} {y : Str} {d : PyData} (I : Inv X pins σ H s) (hT : T.K = X.K) (J : EnvOk T B F H σ st) (hN : X.N[i]? = some y) (hc : X.env.kindOf y = some .cell) (hΓ : st.Γ[i]? = some (some (.d d))) (ht : tupI d = true) (hf : (y, NameKind.free) ∈ scope.names) :
    ∃ c u, (cloFrom X.env.cells scope.names []).lookup y = some c ∧ s.heap.IsCell c (some u) ∧ RD s.heap u d := by
  obtain ⟨v, own, h1, h2⟩ := J.get hΓ
  have z : Dt X.K F v d := by
    rw [← hT]
    exact h2.resolve_right fun z => z
  obtain ⟨m, hn, hl⟩ := I.loc
  obtain ⟨u, r, l⟩ := hl i y v hN h1 (.inr (.inl hc))
  rcases l with ⟨hk, _⟩ | ⟨_, c, hcc, hcell⟩
  · rw [hc] at hk; cases hk
  · refine ⟨c, u, ?_, hcell, rd_of I J.fh d v u ht z r⟩
    have hm := cloFrom_has (cells := X.env.cells) (acc := []) hf
    obtain ⟨c', e⟩ := mem_lookup hm
    rcases cloFrom_mem (PySem.mem_of_lookup e) with z | ⟨_, z⟩
    · cases z
    · rw [e, z, hcc]; rfl
end
def intsOf : List PyData → Option (List Int)
  | [] => some []
  | .int i :: r => (intsOf r).map (i :: ·)
  | _ :: _ => none
/-- all(is_number(value, a, b) for value in ..) -/
def fAllNum (fi : FE) (il im : Nat) : FE := fun s => match fi s with
  | some (.d (.tuple ds), s1) => (match s1.Γ[il]?, s1.Γ[im]?, intsOf ds with
    | some (some (.d (.int a))), some (some (.d (.int b))), some is => some (.d (.bool (is.all fun i => inR a i b)), s1)
    | _, _, _ => none)
  | _ => none
theorem intsOf_some : ∀ {ds : List PyData} {is : List Int}, intsOf ds = some is → ds = is.map .int
  | [], is, h => by cases h; rfl
  | d :: ds, is, h => by
    cases d with
    | int i =>
      simp only [intsOf, Option.map_eq_some_iff] at h
      obtain ⟨r, h1, rfl⟩ := h
      rw [intsOf_some h1]; rfl
    | _ => simp [intsOf] at h
theorem tupIs_ints : ∀ is : List Int, tupIs (is.map .int) = true
  | [] => rfl
  | i :: is => by simp [tupIs, tupI, tupIs_ints is]
section
variable {X : Cx} {C : Cc} {iter : Expr} {fi : FE} {pos p gpos px p1 p2 p3 p4 p5 : Pos} {scope : Scope} {c P f : Addr} {fd : FuncData} {st : Stmt} {il im : Nat}
theorem je_allNum (hr : Room 2 X.A) (hg : Gl X "all") (hm : X.mg "all" = none) (hb : bootBuiltins "all" = some (.builtin "all")) (TB : TabB X.base X.mg c P) (hcode : X.env.code = .ref c) (hP : P ∈ C.tb) (W : GenS X.env scope "value")
    (T : IsNum X.K X.mg f fd st) (hmf : X.mg "is_number" = some (.ref f)) (hgf : scope.names.lookup ("is_number" : Str) = some .globalImplicit) (hfl : scope.names.lookup ("least" : Str) = some .free) (hfm : scope.names.lookup ("most" : Str) = some .free)
    (hl : X.N[il]? = some "least") (hlc : X.env.kindOf "least" = some .cell) (hmo : X.N[im]? = some "most") (hmc : X.env.kindOf "most" = some .cell)
    (hi : JE X C iter fi) (hs : ∀ v, genFold iter X.env v = pure v := by intro _; rfl) :
    JE X C (.Call (.Name "all" p) [.GeneratorExp (.Call (.Name "is_number" p1) [.Name "value" p2, .Name "least" p3, .Name "most" p4] [] p5) [⟨.Name "value" px, iter, [], 0⟩] scope gpos] [] pos) (fAllNum fi il im) := by
  refine pe_sub_ (pe_allT (k := 1) hr hg hm hb TB hcode W hi hs) fun σ H Q q => ?_
  obtain ⟨B, F, s, r, s', J, hf, k⟩ := q
  unfold fAllNum at hf
  split at hf
  · rename_i ds s1 e1
    split at hf
    · rename_i a b is ea eb ei
      cases hf
      refine ⟨B, F, s, _, _, J, e1, fun v F1 H1 x1 J1 z1 => ?_⟩
      cases z1 with
      | @tup a1 xs _ hx ax =>
        have eds := intsOf_some ei
        have hPB : P ∈ B.tb := by rw [J1.tq]; exact hP
        refine ⟨a1, ds, F1, is.map fun i => inR a i b, rfl, J1.fh, .tup hx ax, by rw [eds]; exact tupIs_ints is, by rw [eds]; simp, (J1.tb P hPB).1, fun pins s2 I2 => ?_, fun H2 t => ?_⟩
        · obtain ⟨cl, ul, l1, l2, l3⟩ := cl_at I2 rfl J1 hl hlc ea rfl (PySem.mem_of_lookup hfl)
          obtain ⟨cm, um, m1, m2, m3⟩ := cl_at I2 rfl J1 hmo hmc eb rfl (PySem.mem_of_lookup hfm)
          obtain ⟨ps, hPH, _⟩ := (J1.tb P hPB).1
          have hPs : s2.heap.get? P = some { cls := .none, data := .fields ps } := I2.hok P _ hPH
          intro cenv A s3 Q E mm i v d h1 h2 h3 h4 hrm up hd hn hx rv hq
          have bup : ∀ b o, X.base.get? b = some o → s3.heap.get? b = some o := fun b o e => up b o (fun z => by
            have := (I2.bs b o e).2
            rw [z, hPH] at this; cases this) (I2.bk b o e)
          have cup : ∀ {c u}, s2.heap.IsCell c (some u) → s3.heap.IsCell c (some u) := fun {c u} h => by
            obtain ⟨o, e1, e2⟩ := h
            refine ⟨o, up c o (fun z => ?_) e1, e2⟩
            rw [z, hPs] at e1; cases e1; cases e2
          have rup : ∀ {u d}, RD s2.heap u d → RD s3.heap u d := fun {u d} h => rd_mono (fun b o hc e => up b o (fun z => by rw [z, hPs] at e; cases e; cases hc) e) d u h
          have hY : cenv.scope.kind = .function := by rw [h1]; exact W.kind
          let Y : QX := ⟨X.prog, X.w, X.K, X.mg, cenv, hY, h2, h3⟩
          have hdi : ∃ j, d = .int j ∧ is[i]? = some j := by
            rw [eds, List.getElem?_map] at hd
            cases e : is[i]? with
            | none => rw [e] at hd; cases hd
            | some j => rw [e] at hd; cases hd; exact ⟨j, rfl, rfl⟩
          obtain ⟨j, rfl, ej⟩ := hdi
          have hk : ∀ y, cenv.kindOf y = scope.names.lookup y := fun y => by show cenv.scope.names.lookup y = _; rw [h1]
          let cmm : QM := fun y => ([("least", .int a), ("most", .int b)] : List (Str × PyData)).lookup y
          let vm : QM := fun y => ([("value", .int j)] : List (Str × PyData)).lookup y
          have hQS : QS Y vm cmm s3 := by
            refine ⟨QB.of I2.mod bup, ⟨mm, hn, fun y e he => ?_⟩, fun y e he => ?_⟩
            · have hm := PySem.mem_of_lookup he
              simp only [List.mem_cons, List.not_mem_nil, or_false, Prod.mk.injEq] at hm
              obtain ⟨rfl, rfl⟩ := hm
              exact ⟨v, hx, rv⟩
            · have hm := PySem.mem_of_lookup he
              simp only [List.mem_cons, List.not_mem_nil, or_false, Prod.mk.injEq] at hm
              rcases hm with ⟨rfl, rfl⟩ | ⟨rfl, rfl⟩
              · exact ⟨cl, ul, by show cenv.cells.lookup _ = _; rw [h4]; exact l1, cup l2, rup l3⟩
              · exact ⟨cm, um, by show cenv.cells.lookup _ = _; rw [h4]; exact m1, cup m2, rup m3⟩
          have JJ := q_callNum (X := Y) (m := vm) (cm := cmm) (p := p1) (pos := p5) T (show cenv.kindOf _ = _ by rw [hk]; exact hgf) hmf (q_name (pos := p2) (d := .int j) (show cenv.kindOf _ = _ by rw [hk]; exact W.loc) rfl)
            (q_free (pos := p3) (d := .int a) (show cenv.kindOf _ = _ by rw [hk]; exact hfl) rfl) (q_free (pos := p4) (d := .int b) (show cenv.kindOf _ = _ by rw [hk]; exact hfm) rfl)
          refine JJ A s3 Q E hrm hQS fun u s4 k4 r4 => ?_
          cases r4
          have eat : atJ (is.map fun i => inR a i b) i = inR a j b := by simp [atJ, ej]
          rw [eat] at hq
          exact hq s4 k4
        · have e2 : (is.map fun i => inR a i b).all id = is.all fun i => inR a i b := by simp [List.all_map, Function.comp_def]
          rw [e2]
          exact k _ F1 H2 x1 (J1.tabbed hPB t) (.bl _)
    · cases hf
  · cases hf
end

/-- the tuples of a list of tuples -/
def tupsOf : List PyData → Option (List (List PyData))
  | [] => some []
  | .tuple cs :: r => (tupsOf r).map (cs :: ·)
  | _ :: _ => none
theorem tupsOf_some : ∀ {ds : List PyData} {css : List (List PyData)}, tupsOf ds = some css → ds = css.map .tuple
  | [], is, h => by cases h; rfl
  | d :: ds, is, h => by
    cases d with
    | tuple i =>
      simp only [tupsOf, Option.map_eq_some_iff] at h
      obtain ⟨r, h1, rfl⟩ := h
      rw [tupsOf_some h1]; rfl
    | _ => simp [tupsOf] at h
/-- changes of the right form -/
def chForm (cs : List PyData) : Bool := decide (cs.length ≤ sizeLine) && cs.all fun d => (pairI d).isSome
theorem tupI_pair {d : PyData} (h : (pairI d).isSome = true) : tupI d = true := by
  unfold pairI at h
  split at h
  · rfl
  · cases h
theorem tupIs_all : ∀ {ds : List PyData}, (∀ d ∈ ds, tupI d = true) → tupIs ds = true
  | [], _ => rfl
  | d :: ds, h => by
    rw [tupIs, h d List.mem_cons_self, tupIs_all fun e he => h e (List.mem_cons_of_mem _ he)]; rfl
/-- all(are_changes(sizes, changes) for changes in ..) -/
def fAllCh (fi : FE) (il : Nat) : FE := fun s => match fi s with
  | some (.d (.tuple ds), s1) => (match s1.Γ[il]?, tupsOf ds with
    | some (some (.d (.tuple szs))), some css => if tupIs szs = true ∧ szs.length ≤ sizeLine ∧ css.all chForm = true then some (.d (.bool (css.all fun cs => chsOk szs.length cs)), s1) else none
    | _, _ => none)
  | _ => none
section
variable {X : QX} {m cm : QM} {a b : Expr} {p pos : Pos} {f : Addr} {fd : FuncData} {st : Stmt}
theorem q_callCh {szs ds : List PyData} (T : AreCh X.K X.mg f fd st) (hg : X.env.kindOf "are_changes" = some .globalImplicit) (hm : X.mg "are_changes" = some (.ref f)) (ha : QE X 2 m cm a (.tuple szs)) (hb : QE X 2 m cm b (.tuple ds)) (hl1 : szs.length ≤ sizeLine) (hl2 : ds.length ≤ sizeLine) (hp : ∀ d ∈ ds, (pairI d).isSome = true)
    (h1 : starEach [a, b] X.env = (false, eval a X.env) :: starEach [b] X.env := by rfl) (h2 : starEach [b] X.env = (false, eval b X.env) :: starEach [] X.env := by rfl)
    (hpl : (backTo pos (starEach [b] X.env)).any (·.1) = false := by rfl) : QE X 2 m cm (.Call (.Name "are_changes" p) [a, b] [] pos) (.bool (chsOk szs.length ds)) := fun A s Q E r h q => by
  refine wpAny_Call_Name_kw (q_glob h hg hm (PySem.W.callWith_K (h₀ := s.heap) h.qb.kin T.fn.kp ?_ h1 hpl))
  refine qa_cons ha (qa_cons hb qa_nil h2) h1 pos A s _ E r h fun us s1 k1 r1 => ⟨(h.kp k1).qb.kin, ?_⟩
  cases r1 with
  | cons r1 r2 =>
    cases r2 with
    | cons r2 r3 =>
      cases r3
      exact q_changes T r (h.kp k1).qb r1 r2 hl1 hl2 hp fun s2 k2 => q _ s2 (kp_trans k1 k2) (.bl _)
end
section
variable {X : Cx} {C : Cc} {iter : Expr} {fi : FE} {pos p gpos px p1 p2 p3 p5 : Pos} {scope : Scope} {c P f : Addr} {fd : FuncData} {st : Stmt} {il : Nat}
theorem je_allCh (hr : Room 3 X.A) (hg : Gl X "all") (hm : X.mg "all" = none) (hb : bootBuiltins "all" = some (.builtin "all")) (TB : TabB X.base X.mg c P) (hcode : X.env.code = .ref c) (hP : P ∈ C.tb) (W : GenS X.env scope "changes")
    (T : AreCh X.K X.mg f fd st) (hmf : X.mg "are_changes" = some (.ref f)) (hgf : scope.names.lookup ("are_changes" : Str) = some .globalImplicit) (hfl : scope.names.lookup ("sizes" : Str) = some .free)
    (hl : X.N[il]? = some "sizes") (hlc : X.env.kindOf "sizes" = some .cell) (hi : JE X C iter fi) (hs : ∀ v, genFold iter X.env v = pure v := by intro _; rfl) :
    JE X C (.Call (.Name "all" p) [.GeneratorExp (.Call (.Name "are_changes" p1) [.Name "sizes" p2, .Name "changes" p3] [] p5) [⟨.Name "changes" px, iter, [], 0⟩] scope gpos] [] pos) (fAllCh fi il) := by
  refine pe_sub_ (pe_allT (k := 2) hr hg hm hb TB hcode W hi hs) fun σ H Q q => ?_
  obtain ⟨B, F, s, r, s', J, hf, k⟩ := q
  unfold fAllCh at hf
  split at hf
  · rename_i ds s1 e1
    split at hf
    · rename_i szs css ea ei
      split at hf
      · rename_i hcond
        obtain ⟨hsz, hln, hall⟩ := hcond
        cases hf
        refine ⟨B, F, s, _, _, J, e1, fun v F1 H1 x1 J1 z1 => ?_⟩
        cases z1 with
        | @tup a1 xs _ hx ax =>
          have eds := tupsOf_some ei
          have hform : ∀ cs ∈ css, cs.length ≤ sizeLine ∧ ∀ d ∈ cs, (pairI d).isSome = true := fun cs hcs => by
            have := List.all_eq_true.mp hall cs hcs
            simp only [chForm, Bool.and_eq_true, decide_eq_true_eq, List.all_eq_true] at this
            exact this
          have hPB : P ∈ B.tb := by rw [J1.tq]; exact hP
          have hti : tupIs ds = true := by
            rw [eds]
            refine tupIs_all fun d hd => ?_
            obtain ⟨cs, hcs, rfl⟩ := List.mem_map.mp hd
            exact tupIs_all fun e he => tupI_pair ((hform cs hcs).2 e he)
          refine ⟨a1, ds, F1, css.map fun cs => chsOk szs.length cs, rfl, J1.fh, .tup hx ax, hti, by rw [eds]; simp, (J1.tb P hPB).1, fun pins s2 I2 => ?_, fun H2 t => ?_⟩
          · obtain ⟨cl, ul, l1, l2, l3⟩ := cl_at I2 rfl J1 hl hlc ea (by simpa [tupI] using hsz) (PySem.mem_of_lookup hfl)
            obtain ⟨ps, hPH, _⟩ := (J1.tb P hPB).1
            have hPs : s2.heap.get? P = some { cls := .none, data := .fields ps } := I2.hok P _ hPH
            intro cenv A s3 Q E mm i v d h1 h2 h3 h4 hrm up hd hn hx rv hq
            have bup : ∀ b o, X.base.get? b = some o → s3.heap.get? b = some o := fun b o e => up b o (fun z => by
              have := (I2.bs b o e).2
              rw [z, hPH] at this; cases this) (I2.bk b o e)
            have cup : ∀ {c u}, s2.heap.IsCell c (some u) → s3.heap.IsCell c (some u) := fun {c u} h => by
              obtain ⟨o, e1, e2⟩ := h
              refine ⟨o, up c o (fun z => ?_) e1, e2⟩
              rw [z, hPs] at e1; cases e1; cases e2
            have rup : ∀ {u d}, RD s2.heap u d → RD s3.heap u d := fun {u d} h => rd_mono (fun b o hc e => up b o (fun z => by rw [z, hPs] at e; cases e; cases hc) e) d u h
            have hY : cenv.scope.kind = .function := by rw [h1]; exact W.kind
            let Y : QX := ⟨X.prog, X.w, X.K, X.mg, cenv, hY, h2, h3⟩
            have hdi : ∃ cs, d = .tuple cs ∧ css[i]? = some cs := by
              rw [eds, List.getElem?_map] at hd
              cases e : css[i]? with
              | none => rw [e] at hd; cases hd
              | some j => rw [e] at hd; cases hd; exact ⟨j, rfl, rfl⟩
            obtain ⟨cs, rfl, ej⟩ := hdi
            have hk : ∀ y, cenv.kindOf y = scope.names.lookup y := fun y => by show cenv.scope.names.lookup y = _; rw [h1]
            let cmm : QM := fun y => ([("sizes", .tuple szs)] : List (Str × PyData)).lookup y
            let vm : QM := fun y => ([("changes", .tuple cs)] : List (Str × PyData)).lookup y
            have hQS : QS Y vm cmm s3 := by
              refine ⟨QB.of I2.mod bup, ⟨mm, hn, fun y e he => ?_⟩, fun y e he => ?_⟩
              · have hm := PySem.mem_of_lookup he
                simp only [List.mem_cons, List.not_mem_nil, or_false, Prod.mk.injEq] at hm
                obtain ⟨rfl, rfl⟩ := hm
                exact ⟨v, hx, rv⟩
              · have hm := PySem.mem_of_lookup he
                simp only [List.mem_cons, List.not_mem_nil, or_false, Prod.mk.injEq] at hm
                obtain ⟨rfl, rfl⟩ := hm
                exact ⟨cl, ul, by show cenv.cells.lookup _ = _; rw [h4]; exact l1, cup l2, rup l3⟩
            have hfc := hform cs (List.mem_of_getElem? ej)
            have JJ := q_callCh (X := Y) (m := vm) (cm := cmm) (p := p1) (pos := p5) T (show cenv.kindOf _ = _ by rw [hk]; exact hgf) hmf (q_free (pos := p2) (d := .tuple szs) (show cenv.kindOf _ = _ by rw [hk]; exact hfl) rfl) (q_name (pos := p3) (d := .tuple cs) (show cenv.kindOf _ = _ by rw [hk]; exact W.loc) rfl) hln hfc.1 hfc.2
            refine JJ A s3 Q E hrm hQS fun u s4 k4 r4 => ?_
            cases r4
            have eat : atJ (css.map fun cs => chsOk szs.length cs) i = chsOk szs.length cs := by simp [atJ, ej]
            rw [eat] at hq
            exact hq s4 k4
          · have e2 : (css.map fun cs => chsOk szs.length cs).all id = css.all fun cs => chsOk szs.length cs := by simp [List.all_map, Function.comp_def]
            rw [e2]
            exact k _ F1 H2 x1 (J1.tabbed hPB t) (.bl _)
      · cases hf
    · cases hf
  · cases hf
end
end Tk

set_option Elab.async false
set_option linter.all false
set_option maxRecDepth 100000
set_option maxHeartbeats 4000000
/-! Tk, part K: defs by their code objects, the making of a program. -/
namespace Tk
open PySem PySem.Spec PyProof.Rows L2
open Evl (Ex ex_l ex_t fresh_back)

/-- a def whose code object stands at c -/
structure FunC (K : PySem.W.Frag) (x qual : Str) (st : Stmt) (f : Addr) (fd : FuncData) (c : Addr) : Prop where
  ex : ∃ (oc : Value) (od : Option Addr) (dV kV doc pm : Value) (an : Option Addr) (ct : Value) (osl : Array (Option Value)),
    fd = PySem.W.fnOf x qual (defArgs st) (defBody st) (defScope st) dV kV doc pm an (.ref c) ct ∧ K.lookup f = some ⟨oc, od, .func fd, osl⟩ ∧ PySem.W.codeIn K (.ref c) qual = true
section
variable {P : Program} {w : World} {K : PySem.W.Frag} {mg : Str → Option Value} {base : Heap} {C : Cc}
theorem FunC.ok {x qual : Str} {st : Stmt} {f c : Addr} {fd : FuncData} {N ps : List Str} {k : Nat} {sp : Sp} (F : FunC K x qual st f fd c) (S : FnScope N ps (defScope st)) (len : ∀ vs H Q E, sp vs H Q E → vs.length = ps.length)
    (hb : ∀ (A : Around) (outer : List Env) (s : Shared) (H : Hp) (vs : List V) (Q : VK) (E : XK), Room k (A.deeper (envOfC qual (defScope st) s.heap.objs.size f (.ref c))) → sp vs H Q E →
      ∃ t, PSs (cxOf CX0 P w K mg base N qual (defScope st) f (.ref c) A outer s H E).nox (defBody st) t ∧ t { nx := fun _ H' => Q .non H', rt := Q } (L2.start N vs) H) : FnOk P w K mg base CX0 (k + 1) f fd ps sp := by
  obtain ⟨oc, od, dV, kV, doc, pm, an, ct, osl, rfl, lk, hcd⟩ := F.ex
  refine fn_of lk hcd S len fun A outer s H vs Q E hr hsp => ?_
  obtain ⟨t, h, q⟩ := hb A outer s H vs Q E hr hsp
  exact ⟨t, h.nox, q⟩
theorem fn_denC {x qual : Str} {st : Stmt} {f c : Addr} {fd : FuncData} {N ps : List Str} {k : Nat} {fb : FS} (F : FunC K x qual st f fd c) (S : FnScope N ps (defScope st)) (hp : ps.length ≤ N.length)
    (hb : ∀ (A : Around) (outer : List Env) (s : Shared) (H : Hp) (E : XK), Room k (A.deeper (envOfC qual (defScope st) s.heap.objs.size f (.ref c))) → JSs (cxOf CX0 P w K mg base N qual (defScope st) f (.ref c) A outer s H E).nox C (defBody st) fb) :
    FnOk P w K mg base CX0 (k + 1) f fd ps (spD ⟨K, P, w, C⟩ ps.length (denF N.length fb)) :=
  F.ok S (fun vs H Q E h => h.1) fun A outer s H vs Q E hr h => ⟨_, hb A outer s H E hr, den_out hp h⟩
end

/-! ### Program(..) -/
/-- what the checks leave as it is -/
def PrOk (n : Nat) (chk : FS) (sz pa tk lv sk : PyData) : Prop := ∀ (x : Addr) (g : LS), ∃ s', chk (enter n [.fn x, .d sz, .d pa, .d tk, .d lv, .d sk] g) = some (.nx s') ∧ s'.g = g ∧
  s'.Γ[0]? = some (some (.fn x)) ∧ s'.Γ[1]? = some (some (.d sz)) ∧ s'.Γ[2]? = some (some (.d pa)) ∧ s'.Γ[3]? = some (some (.d tk)) ∧ s'.Γ[4]? = some (some (.d lv)) ∧ s'.Γ[5]? = some (some (.d sk))
def spI (T : Cfg) (n : Nat) (chk : FS) : Sp := fun vs H Q _ => vs.length = 6 ∧ ∃ (B : Bg) (x dx : Addr) (ws : List V) (l : LS) (sz pa tk lv sk : PyData), vs = .ref x :: ws ∧ H = upd (upd B.H0 dx (.own x)) x (.ins T.C.cl dx []) ∧ B.px = [] ∧ B.H0 x = none ∧ B.H0 dx = none ∧ dx ≠ x ∧
  EnvOk T B B.F0 B.H0 [] ⟨[], l⟩ ∧ FrzAll T B B.F0 ws [.d sz, .d pa, .d tk, .d lv, .d sk] ∧ PrOk n chk sz pa tk lv sk ∧
  ∀ F' H', Ex B.F0 F' → EnvOk T B F' H' [] ⟨[], l⟩ → Frz T B F' (.ref x) (.pr sz pa tk lv sk) → Q .non H'
section
variable {X : Cx} {C : Cc} {s1 s2 s3 s4 s5 : Stmt} {f1 f2 f3 f4 f5 : FS}
theorem init_out {N ps : List Str} {vs : List V} {H : Hp} {Q : VK} {E : XK} (hn : 6 ≤ N.length) (hc : Cls X.K C.cl) (n1 : NoAttr X.K C.cl "sizes") (n2 : NoAttr X.K C.cl "parts") (n3 : NoAttr X.K C.cl "ticks") (n4 : NoAttr X.K C.cl "live") (n5 : NoAttr X.K C.cl "skips")
    (h : spI (Cx.T X C) N.length (fSeq f1 (fSeq f2 (fSeq f3 (fSeq f4 f5)))) vs H Q E) :
    tSeq (tS (Cx.T X C) f1) (tSeq (tS (Cx.T X C) f2) (tSeq (tS (Cx.T X C) f3) (tSeq (tS (Cx.T X C) f4) (tSeq (tS (Cx.T X C) f5)
      (tSeq (sFld X.K (tVar 0) (tVar 1) "sizes") (tSeq (sFld X.K (tVar 0) (tVar 2) "parts") (tSeq (sFld X.K (tVar 0) (tVar 3) "ticks") (tSeq (sFld X.K (tVar 0) (tVar 4) "live") (sFld X.K (tVar 0) (tVar 5) "skips"))))))))) { nx := fun _ H' => Q .non H', rt := Q } (L2.start N vs) H := by
  obtain ⟨hl, B, x, dx, ws, l, sz, pa, tk, lv, sk, rfl, rfl, hpx, hx, hdx, hne, J, z, hok, k⟩ := h
  obtain ⟨s', e, eg, g0, g1, g2, g3, g4, g5⟩ := hok x l
  -- with the instance and its dict beside
  have J1 : EnvOk (Cx.T X C) (B.with dx (.own x)) B.F0 (upd B.H0 dx (.own x)) [] ⟨[], l⟩ := J.pxNew hdx
  have J2 : EnvOk (Cx.T X C) ((B.with dx (.own x)).with x (.ins C.cl dx [])) B.F0 (upd (upd B.H0 dx (.own x)) x (.ins C.cl dx [])) [] ⟨[], l⟩ := J1.pxNew (by rw [upd_ne (Ne.symm hne)]; exact hx)
  have z2 : FrzAll (Cx.T X C) ((B.with dx (.own x)).with x (.ins C.cl dx [])) B.F0 (.ref x :: ws) [.fn x, .d sz, .d pa, .d tk, .d lv, .d sk] := .cons rfl (FrzAll.bg (B := B) (B' := (B.with dx (.own x)).with x (.ins C.cl dx [])) rfl z)
  have J3 := start_ok (N := N) J2 z2 (by rw [hl]; exact hn)
  -- behind the checks
  have fin : ∀ σ' F' H', Ex B.F0 F' → EnvOk (Cx.T X C) ((B.with dx (.own x)).with x (.ins C.cl dx [])) F' H' σ' s' →
      tSeq (sFld X.K (tVar 0) (tVar 1) "sizes") (tSeq (sFld X.K (tVar 0) (tVar 2) "parts") (tSeq (sFld X.K (tVar 0) (tVar 3) "ticks") (tSeq (sFld X.K (tVar 0) (tVar 4) "live") (sFld X.K (tVar 0) (tVar 5) "skips")))) { nx := fun _ H' => Q .non H', rt := Q } σ' H' := by
    intro σ' F' H' x1 I
    have at_ : ∀ {i : Nat} {d : PyData}, s'.Γ[i]? = some (some (.d d)) → ∃ v, σ'[i]? = some (some v) ∧ Dt X.K F' v d := fun {i d} e => by
      obtain ⟨v, own, h1, h2⟩ := I.get e
      exact ⟨v, h1, h2.resolve_right fun z => z⟩
    obtain ⟨v0, own0, a0, b0⟩ := I.get g0
    have e0 : v0 = .ref x := b0.resolve_right fun z => z
    subst e0
    obtain ⟨v1, a1, b1⟩ := at_ g1
    obtain ⟨v2, a2, b2⟩ := at_ g2
    obtain ⟨v3, a3, b3⟩ := at_ g3
    obtain ⟨v4, a4, b4⟩ := at_ g4
    obtain ⟨v5, a5, b5⟩ := at_ g5
    have hx0 : H' x = some (.ins C.cl dx []) := (I.px (x, _) List.mem_cons_self).1
    have I1 := I.pxUpd (.ins C.cl dx (putF "sizes" v1 []))
    have I2 := I1.pxUpd (.ins C.cl dx (putF "parts" v2 (putF "sizes" v1 [])))
    have I3 := I2.pxUpd (.ins C.cl dx (putF "ticks" v3 (putF "parts" v2 (putF "sizes" v1 []))))
    have I4 := I3.pxUpd (.ins C.cl dx (putF "live" v4 (putF "ticks" v3 (putF "parts" v2 (putF "sizes" v1 [])))))
    have I5 := I4.pxUpd (.ins C.cl dx (putF "skips" v5 (putF "live" v4 (putF "ticks" v3 (putF "parts" v2 (putF "sizes" v1 []))))))
    refine ⟨v1, a1, _, a0, x, C.cl, dx, [], rfl, hx0, hc, n1, by decide, ?_⟩
    refine ⟨v2, a2, _, a0, x, C.cl, dx, _, rfl, upd_same, hc, n2, by show 1 < 1000; decide, ?_⟩
    refine ⟨v3, a3, _, a0, x, C.cl, dx, _, rfl, upd_same, hc, n3, by show 2 < 1000; decide, ?_⟩
    refine ⟨v4, a4, _, a0, x, C.cl, dx, _, rfl, upd_same, hc, n4, by show 3 < 1000; decide, ?_⟩
    refine ⟨v5, a5, _, a0, x, C.cl, dx, _, rfl, upd_same, hc, n5, by show 4 < 1000; decide, ?_⟩
    obtain ⟨y1, y2⟩ := I5.pxFrz
    have y3 := y2.pxDrop
    have y4 := y3.bare
    rw [eg] at y4
    refine k _ _ (x1.trans y1) y4 ⟨x, dx, _, rfl, upd_same, ⟨v1, rfl, dt_ex y1 _ _ b1⟩, ⟨v2, rfl, dt_ex y1 _ _ b2⟩, ⟨v3, rfl, dt_ex y1 _ _ b3⟩, ⟨v4, rfl, dt_ex y1 _ _ b4⟩, ⟨v5, rfl, dt_ex y1 _ _ b5⟩⟩
  -- the checks
  have seq_nx : ∀ {f g : FS} {s s' : S}, fSeq f g s = some (.nx s') → ∃ s1, f s = some (.nx s1) ∧ g s1 = some (.nx s') := fun {f g s s'} h => by
    unfold fSeq at h
    split at h
    · rename_i s1 e1; exact ⟨s1, e1, h⟩
    · rename_i hne; exact absurd h (hne s')
  obtain ⟨t1, c1, e⟩ := seq_nx e
  obtain ⟨t2, c2, e⟩ := seq_nx e
  obtain ⟨t3, c3, e⟩ := seq_nx e
  obtain ⟨t4, c4, c5⟩ := seq_nx e
  refine ⟨_, B.F0, _, _, J3, c1, fun σ1 F1 H1 x1 K1 => ⟨_, F1, t1, _, K1, c2, fun σ2 F2 H2 x2 K2 => ⟨_, F2, t2, _, K2, c3, fun σ3 F3 H3 x3 K3 => ⟨_, F3, t3, _, K3, c4, fun σ4 F4 H4 x4 K4 => ⟨_, F4, t4, _, K4, c5, fun σ5 F5 H5 x5 K5 => ?_⟩⟩⟩⟩⟩
  exact fin σ5 F5 H5 ((((x1.trans x2).trans x3).trans x4).trans x5) K5
end
/-- keywords -/
structure JKs (X : Cx) (C : Cc) (kws : List Keyword) (f : FA) : Prop where
  pk : PK X kws (tA (Cx.T X C) f)
  len : ∀ s r s', f s = some (r, s') → r.length = kws.length
theorem pk_sub_ {X : Cx} {kws : List Keyword} {t t' : TA} (h : PK X kws t) (q : ∀ σ H Q, t' σ H Q → t σ H Q) : PK X kws t' := ⟨fun pos pins s σ H Q I r => h.run pos pins s σ H Q I (q σ H Q r)⟩
section
variable {X : Cx} {C : Cc} {e : Expr} {kws : List Keyword} {nm : Option Str} {kpos : Pos} {fa : FE} {f : FA}
theorem jk_nil : JKs X C [] fNil := ⟨pk_sub_ pk_nil fun σ H Q q => by
  obtain ⟨B, F, s, r, s', I, hf, k⟩ := q
  cases hf
  exact k [] F H (Ex.refl F) I .nil, fun s r s' h => by cases h; rfl⟩
theorem jk_cons (ha : JE X C e fa) (hr : JKs X C kws f) : JKs X C (⟨nm, e, kpos⟩ :: kws) (fCons fa f) := by
  refine ⟨pk_sub_ (pk_cons ha hr.pk) fun σ H Q q => ?_, fun s r s' h => ?_⟩
  · obtain ⟨B, F, s, r, s', I, hf, k⟩ := q
    unfold fCons at hf
    split at hf
    · rename_i x s1 e1
      split at hf
      · rename_i xs s2 e2
        cases hf
        exact ⟨B, F, s, x, s1, I, e1, fun v F1 H1 x1 I1 z1 => ⟨B, F1, s1, xs, _, I1, e2, fun vs F2 H2 x2 I2 z2 => k (v :: vs) F2 H2 (x1.trans x2) I2 (.cons (z1.ex x2) z2)⟩⟩
      · cases hf
    · cases hf
  · unfold fCons at h
    split at h
    · split at h
      · rename_i e2
        cases h
        rw [List.length_cons, List.length_cons, hr.len _ _ _ e2]
      · cases h
    · cases h
end
/-- Program(sizes=.., parts=.., ticks=.., live=.., skips=..) -/
def fMake (ok : PyData → PyData → PyData → PyData → PyData → Bool) (f : FA) : FE := fun s => match f s with
  | some ([.d sz, .d pa, .d tk, .d lv, .d sk], s1) => if ok sz pa tk lv sk = true then some (.pr sz pa tk lv sk, s1) else none
  | _ => none
section
variable {X : Cx} {C : Cc} {f : Addr} {fd : FuncData} {ps ks : List Str} {x : Str} {p pos : Pos} {kws : List Keyword} {fk : FA} {n k : Nat} {chk : FS} {g : List Value → List Value → List Value} {ok : PyData → PyData → PyData → PyData → PyData → Bool}
theorem je_make (M : Mk X.K C.cl f) (F : FnOk X.prog X.w X.K X.mg X.base CX0 k f fd ps (spI (Cx.T X C) n chk)) (hok : ∀ sz pa tk lv sk, ok sz pa tk lv sk = true → PrOk n chk sz pa tk lv sk) (hr : Room (k + 1) X.A) (hg : Gl X x) (hm : X.mg x = some (.ref C.cl)) (hb : KBn X.K fd ps 1 ks g fun vs zs => vs ++ zs)
    (hkw : JKs X C kws fk) (h5 : kws.length = 5 := by rfl) (hk5 : ks.length = 5 := by rfl) (hall : (backToKw pos (keywordEach kws X.env)).all (·.1.isSome) = true := by rfl) (hks : (backToKw pos (keywordEach kws X.env)).filterMap (·.1) = ks := by rfl) (hdb : (x == ("__debug__" : Str)) = false := by decide)
    (hpl : ((backTo pos (starEach [] X.env)).any (·.1) || (backToKw pos (keywordEach kws X.env)).any (·.1.isNone)) = false := by rfl) : JE X C (.Call (.Name x p) [] kws pos) (fMake ok fk) := by
  refine pe_sub_ (pe_makeK0 (E := E0) M F hr hg hm hb pass0 hkw.pk hall hks hdb hpl) fun σ H Q q => ?_
  obtain ⟨B, F0, s, r, s', I, hf, kk⟩ := q
  unfold fMake at hf
  split at hf
  · rename_i sz pa tk lv sk s1 e1
    split at hf
    · rename_i hokk
      cases hf
      refine ⟨B, F0, s, _, _, I, e1, fun zs F1 H1 x1 I1 z1 => ⟨rfl, by rw [hk5]; exact z1.len, fun x dx hx hdx hne => ?_⟩⟩
      refine ⟨by show (zs.length + 1) = 6; rw [z1.len]; rfl, B.sub F1 H1, x, dx, zs, s'.g, sz, pa, tk, lv, sk, rfl, rfl, rfl, hx, hdx, hne, I1.subj, FrzAll.bg (B := B) (B' := B.sub F1 H1) rfl z1, hok _ _ _ _ _ hokk, fun F' H' x2 J z2 => ⟨rfl, ?_⟩⟩
      exact kk (.ref x) F' H' (x1.trans x2) (I1.call J) (z2.bg rfl)
    · cases hf
  · cases hf
end
end Tk

set_option Elab.async false
set_option linter.all false
set_option maxRecDepth 100000
set_option maxHeartbeats 4000000
/-! Tk, part L: the draw state of the law. -/
namespace Tk
open PySem PySem.Spec PyProof.Rows L2
open Evl (Ex ex_l ex_t fresh_back)

theorem EnvOk.lsUpd {T : Cfg} {B : Bg} {F H : Hp} {σ : L2.St} {s : S} {p : Addr × Addr} {q : Addr} {o : HO} {g' : LS} (I : EnvOk T B F H σ s) (hp : B.ls = some p) (hq : q = p.1 ∨ q = p.2) (hl : LsAt F (upd H q o) p g') : EnvOk T B F (upd H q o) σ { s with g := g' } := by
  obtain ⟨l, h01, h02⟩ := I.ls p hp
  have hF : F q = none := hq.elim (fun z => z ▸ l.f1) fun z => z ▸ l.f2
  have h0 : B.H0 q ≠ none := hq.elim (fun z => z ▸ h01) fun z => z ▸ h02
  have hm : B.mut q := .inl ⟨p, hp, hq⟩
  have ht : ∃ vs, H q = some (.lst vs) := hq.elim (fun z => ⟨_, z ▸ l.top⟩) fun z => ⟨_, z ▸ l.cel⟩
  obtain ⟨vs, ht⟩ := ht
  obtain ⟨own, ho, hs⟩ := I.sl
  have no : ∀ a i, own a = some i → a ≠ q := fun a i e z => h0 (by rw [← z]; exact (ho a i e).2.2.1)
  refine ⟨fun a u e => ?_, I.f0, I.nw, fun a u e m => ?_, fun a e => ?_, fun R hR => ⟨?_, (I.tb R hR).2⟩, I.tq, fun r hr => ?_, fun r hr => ?_, I.pd, I.len, own, fun a i e => ?_, fun i av e => ?_⟩
  · rw [upd_ne fun z => by rw [z, hF] at e; cases e]; exact I.fh a u e
  · rw [upd_ne fun z => m (by rw [z]; exact hm)]; exact I.kp a u e m
  · by_cases c : a = q
    · rw [c, upd_same]; exact ne_some rfl
    · rw [upd_ne c]; exact I.lv a e
  · obtain ⟨ps, e1, e2⟩ := (I.tb R hR).1
    exact ⟨ps, by rw [upd_ne fun z => by rw [z, ht] at e1; cases e1]; exact e1, e2⟩
  · have e : r = p := Option.some.inj (hr.symm.trans hp)
    subst e
    exact ⟨hl, h01, h02⟩
  · obtain ⟨a1, a2, a3⟩ := I.px r hr
    exact ⟨by rw [upd_ne fun z => h0 (by rw [← z]; exact a3)]; exact a1, a2, a3⟩
  · obtain ⟨a1, a2, a3⟩ := ho a i e
    exact ⟨a1, by rw [upd_ne (no a i e)]; exact a2, a3⟩
  · obtain ⟨v, h1, h2⟩ := hs i av e
    exact ⟨v, h1, h2.imp id fun z => z.at (Ex.refl F) fun a e => ⟨e, upd_ne (no a i e)⟩⟩
theorem EnvOk.lsAt {T : Cfg} {B : Bg} {F H : Hp} {σ : L2.St} {s : S} {i : Nat} (I : EnvOk T B F H σ s) (h : s.Γ[i]? = some (some .lp)) : ∃ p, B.ls = some p ∧ σ[i]? = some (some (.ref p.1)) ∧ LsAt F H p s.g := by
  obtain ⟨v, own, h1, h2⟩ := I.get h
  obtain ⟨p, e, rfl⟩ := h2.resolve_right fun z => z
  exact ⟨p, e, h1, (I.ls p e).1⟩
def isLp : Option (Option AV) → Bool
  | some (some .lp) => true
  | _ => false
theorem isLp_eq {o : Option (Option AV)} (h : isLp o = true) : o = some (some .lp) := by
  unfold isLp at h
  split at h
  · rfl
  · cases h
/-- state[1], state[2] -/
def fLs1 (i : Nat) : FE := fun s => if isLp s.Γ[i]? then some (.d (.int s.g.2.1), s) else none
def fLs2 (i : Nat) : FE := fun s => if isLp s.Γ[i]? then some (.d (.int s.g.2.2), s) else none
/-- len(state[0]), state[0].pop(0) -/
def fLsLen (i : Nat) : FE := fun s => if isLp s.Γ[i]? ∧ s.g.1.length ≤ sizeLine then some (.d (.int s.g.1.length), s) else none
def fLsPop (i : Nat) : FE := fun s => if isLp s.Γ[i]? then (match s.g with
    | (c :: cs, a, b) => some (.d (.int c), { s with g := (cs, a, b) })
    | _ => none) else none
/-- state[1] = e, state[2] = e -/
def fLsSet1 (i : Nat) (f : FE) : FS := fun s => match f s with
  | some (.d (.int v), s1) => if isLp s1.Γ[i]? then some (.nx { s1 with g := (s1.g.1, v, s1.g.2.2) }) else none
  | _ => none
def fLsSet2 (i : Nat) (f : FE) : FS := fun s => match f s with
  | some (.d (.int v), s1) => if isLp s1.Γ[i]? then some (.nx { s1 with g := (s1.g.1, s1.g.2.1, v) }) else none
  | _ => none
section
variable {X : Cx} {C : Cc} {i : Nat} {x : Str} {p p2 p3 p4 pos apos cpos : Pos} {j j2 : Nat} {e : Expr} {fe : FE}
theorem je_ls1 (h : PE X (.Name x p) (tVar i)) : JE X C (.Subscript (.Name x p) (.Constant (.int 1) j p2) pos) (fLs1 i) := by
  refine pe_sub_ (pe_ix ix_list h pe_int (fun _ _ => rfl)) fun σ H Q q => ?_
  obtain ⟨B, F, s, r, s', J, hf, k⟩ := q
  unfold fLs1 at hf
  split at hf
  · rename_i hl
    cases hf
    obtain ⟨pp, _, h1, l⟩ := J.lsAt (isLp_eq hl)
    exact ⟨_, h1, pp.1, _, 1, _, rfl, rfl, SqL.of l.top, rfl, k _ F H (Ex.refl F) J (.int _)⟩
  · cases hf
theorem je_ls2 (h : PE X (.Name x p) (tVar i)) : JE X C (.Subscript (.Name x p) (.Constant (.int 2) j p2) pos) (fLs2 i) := by
  refine pe_sub_ (pe_ix ix_list h pe_int (fun _ _ => rfl)) fun σ H Q q => ?_
  obtain ⟨B, F, s, r, s', J, hf, k⟩ := q
  unfold fLs2 at hf
  split at hf
  · rename_i hl
    cases hf
    obtain ⟨pp, _, h1, l⟩ := J.lsAt (isLp_eq hl)
    exact ⟨_, h1, pp.1, _, 2, _, rfl, rfl, SqL.of l.top, rfl, k _ F H (Ex.refl F) J (.int _)⟩
  · cases hf
theorem je_lsLen (h : PE X (.Name x p) (tVar i)) (hg : Gl X "len") (hm : X.mg "len" = none) : JE X C (.Call (.Name "len" p3) [.Subscript (.Name x p) (.Constant (.int 0) j p2) p4] [] pos) (fLsLen i) := by
  refine pe_sub_ (pe_callB call_len_seq hg hm boot_len (pa_cons (pe_ix ix_list h pe_int (fun _ _ => rfl)) pa_nil (by rfl)) (by decide) (by decide) (by rfl) (by rfl)) fun σ H Q q => ?_
  obtain ⟨B, F, s, r, s', J, hf, k⟩ := q
  unfold fLsLen at hf
  split at hf
  · rename_i hl
    cases hf
    obtain ⟨pp, _, h1, l⟩ := J.lsAt (isLp_eq hl.1)
    refine ⟨_, h1, pp.1, _, 0, _, rfl, rfl, SqL.of l.top, rfl, pp.2, _, rfl, .inl (SqL.of l.cel), ?_⟩
    rw [List.length_map]
    exact k _ F H (Ex.refl F) J (.int _)
  · cases hf
theorem je_lsPop (h : PE X (.Name x p) (tVar i)) (hbase : attributeBase (.Subscript (.Name x p) (.Constant (.int 0) j p2) p4) "pop" X.env (eval (.Subscript (.Name x p) (.Constant (.int 0) j p2) p4) X.env) = eval (.Subscript (.Name x p) (.Constant (.int 0) j p2) p4) X.env := by rfl)
    (hline : (apos.endLine == cpos.line) = true := by rfl) : JE X C (.Call (.Attribute (.Subscript (.Name x p) (.Constant (.int 0) j p2) p4) "pop" apos) [.Constant (.int 0) j2 p3] [] cpos) (fLsPop i) := by
  refine pe_sub_ (pe_bm PySem.F.plainAttrs_list PySem.F.slot_list_pop PySem.F.type_list_pop mt_popAt (pe_ix ix_list h pe_int (fun _ _ => rfl)) (pa_cons pe_int pa_nil (by rfl)) hbase (by rfl) hline (by rfl) (by rfl)) fun σ H Q q => ?_
  obtain ⟨B, F, s, r, s', J, hf, k⟩ := q
  unfold fLsPop at hf
  split at hf
  · rename_i hl
    obtain ⟨pp, hpp, h1, l⟩ := J.lsAt (isLp_eq hl)
    split at hf
    · rename_i c cs a b eg
      cases hf
      rw [eg] at l
      refine ⟨_, h1, pp.1, _, 0, _, rfl, rfl, SqL.of l.top, rfl, .inl ⟨rfl, _, SqL.of l.cel⟩, pp.2, _, 0, 0, .int c, rfl, rfl, l.cel, by decide, by decide, ?_, rfl, ?_⟩
      · simp [seqIndex?]
      · refine k _ F _ (Ex.refl F) (J.lsUpd hpp (.inr rfl) ⟨l.ne, ?_, ?_, l.f1, l.f2⟩) (.int c)
        · rw [upd_ne l.ne]; exact l.top
        · rw [upd_same]; rfl
    · cases hf
  · cases hf
theorem js_lsSet {n : Int} {fs : FS} (h : PE X (.Name x p) (tVar i)) (he : JE X C e fe)
    (hfs : ∀ s o, fs s = some o → ∃ v s1 g', fe s = some (.d (.int v), s1) ∧ s1.Γ[i]? = some (some .lp) ∧ o = .nx { s1 with g := g' } ∧ ∃ j, ixN 3 n = some j ∧ g'.1 = s1.g.1 ∧ ∀ a : Addr, ([.ref a, .int s1.g.2.1, .int s1.g.2.2] : List V).set j (.int v) = [.ref a, .int g'.2.1, .int g'.2.2])
    (ha : ∀ v, assign (.Subscript (.Name x p) (.Constant (.int n) j p2) p4) X.env v = (do
      let ov ← holding [v] (eval (.Name x p) X.env)
      let iv ← holding [v, ov] (eval (.Constant (.int n) j p2) X.env)
      standAt p4
      holding [v, ov, iv] (setItem ov iv v)
      release [v, ov, iv] []) := by intro _; rfl)
    (hs : swapsWithSole [.Subscript (.Name x p) (.Constant (.int n) j p2) p4] e pos.line X.env = pure false := by rfl) (hw : swappedStores [.Subscript (.Name x p) (.Constant (.int n) j p2) p4] e X.env = pure none := by rfl)
    (h1 : (assignEach [.Subscript (.Name x p) (.Constant (.int n) j p2) p4] X.env).map (·.2) = [assign (.Subscript (.Name x p) (.Constant (.int n) j p2) p4) X.env] := by rfl) : JS X C (.Assign [.Subscript (.Name x p) (.Constant (.int n) j p2) p4] e pos) fs := by
  refine ps_sub_ (ps_asg he (pg_sub h pe_int set_list ha) hs hw h1) fun D σ H q => ?_
  obtain ⟨B, F, s, o, J, hf, k⟩ := q
  obtain ⟨v, s1, g', e1, e2, rfl, jj, e3, e4, e5⟩ := hfs s o hf
  refine ⟨B, F, s, _, s1, J, e1, fun u F1 H1 x1 J1 z1 => ?_⟩
  cases z1
  obtain ⟨pp, hpp, g1, l⟩ := J1.lsAt e2
  refine ⟨_, g1, pp.1, _, n, jj, rfl, rfl, l.top, e3, ?_⟩
  rw [e5]
  refine k σ F1 _ x1 (J1.lsUpd hpp (.inl rfl) ⟨l.ne, upd_same, ?_, l.f1, l.f2⟩)
  rw [upd_ne (Ne.symm l.ne), e4]; exact l.cel
theorem js_ls1 (h : PE X (.Name x p) (tVar i)) (he : JE X C e fe)
    (hs : swapsWithSole [.Subscript (.Name x p) (.Constant (.int 1) j p2) p4] e pos.line X.env = pure false := by rfl) (hw : swappedStores [.Subscript (.Name x p) (.Constant (.int 1) j p2) p4] e X.env = pure none := by rfl)
    (h1 : (assignEach [.Subscript (.Name x p) (.Constant (.int 1) j p2) p4] X.env).map (·.2) = [assign (.Subscript (.Name x p) (.Constant (.int 1) j p2) p4) X.env] := by rfl) : JS X C (.Assign [.Subscript (.Name x p) (.Constant (.int 1) j p2) p4] e pos) (fLsSet1 i fe) := by
  refine js_lsSet h he (fun s o hf => ?_) (by intro _; rfl) hs hw h1
  unfold fLsSet1 at hf
  split at hf
  · rename_i v s1 e1
    split at hf
    · rename_i hl
      cases hf
      exact ⟨v, s1, _, e1, isLp_eq hl, rfl, 1, rfl, rfl, fun a => rfl⟩
    · cases hf
  · cases hf
theorem js_ls2 (h : PE X (.Name x p) (tVar i)) (he : JE X C e fe)
    (hs : swapsWithSole [.Subscript (.Name x p) (.Constant (.int 2) j p2) p4] e pos.line X.env = pure false := by rfl) (hw : swappedStores [.Subscript (.Name x p) (.Constant (.int 2) j p2) p4] e X.env = pure none := by rfl)
    (h1 : (assignEach [.Subscript (.Name x p) (.Constant (.int 2) j p2) p4] X.env).map (·.2) = [assign (.Subscript (.Name x p) (.Constant (.int 2) j p2) p4) X.env] := by rfl) : JS X C (.Assign [.Subscript (.Name x p) (.Constant (.int 2) j p2) p4] e pos) (fLsSet2 i fe) := by
  refine js_lsSet h he (fun s o hf => ?_) (by intro _; rfl) hs hw h1
  unfold fLsSet2 at hf
  split at hf
  · rename_i v s1 e1
    split at hf
    · rename_i hl
      cases hf
      exact ⟨v, s1, _, e1, isLp_eq hl, rfl, 2, rfl, rfl, fun a => rfl⟩
    · cases hf
  · cases hf
end
end Tk

set_option Elab.async false
set_option linter.all false
set_option maxRecDepth 100000
set_option maxHeartbeats 4000000
/-! Tk, part M: comparisons as tests, x += e. -/
namespace Tk
open PySem PySem.Spec PyProof.Rows L2
open Evl (Ex ex_l ex_t fresh_back)

section
variable {X : Cx} {C : Cc} {a b c e o : Expr} {fa fb fc f : FE} {pos : Pos} {fo fo' : AV → AV → Option AV}
theorem tE_tst {T : Cfg} {σ : L2.St} {H : Hp} {Q : Bool → Hp → Prop} (h : tT T (fTst f) σ H Q) : tE T f σ H fun x H' => ∃ k, x = .bl k ∧ Q k H' := by
  obtain ⟨B, F, s, r, s', I, hf, k⟩ := h
  unfold fTst at hf
  split at hf
  · rename_i b' s1 e
    cases hf
    exact ⟨B, F, s, _, _, I, e, fun v F' H' e1 I1 z => ⟨_, dt_bl z, k F' H' e1 I1⟩⟩
  · cases hf
theorem jt_of {t : TE} (hp : PT X e (tTest t)) (hq : ∀ σ H Q, tE (Cx.T X C) f σ H Q → t σ H Q) : JT X C e (fTst f) := pt_sub_ hp fun σ H Q q => hq _ _ _ (tE_tst q)
theorem jt_cmp {op : CmpOp} (ho : OpR X (compareOp op) (rD (Cx.T X C) fo)) (ha : JE X C a fa) (hb : JE X C b fb) (hm : behindInMarks op b = false := by first | exact nomark _ | rfl) : JT X C (.Compare a [op] [b] pos) (fTst (f2 fo fa fb)) :=
  jt_of (pt_cmpR ho ha hb hm) fun _ _ _ h => tE_f2 h
theorem jt_inV {i : Nat} (hu : X.A.units + 65 < cLine) (ha : JE X C a f) (h : PE X o (tVar i)) (hm : behindInMarks .In o = false := by rfl) : JT X C (.Compare a [.In] [o] pos) (fTst (fInV false i f)) :=
  jt_of (pt_cmpR (op := .In) (or_inV (C := C) hu false) ha h hm) fun _ _ _ q => tE_inV q
theorem jt_notInV {i : Nat} (hu : X.A.units + 65 < cLine) (ha : JE X C a f) (h : PE X o (tVar i)) (hm : behindInMarks .NotIn o = false := by rfl) : JT X C (.Compare a [.NotIn] [o] pos) (fTst (fInV true i f)) :=
  jt_of (pt_cmpR (op := .NotIn) (or_inV (C := C) hu true) ha h hm) fun _ _ _ q => tE_inV q
theorem tE_chain {T : Cfg} {σ : L2.St} {H : Hp} {Q : VK} (h : tE T (fChain fo fo' fa fb fc) σ H Q) : tChain (rD T fo) (rD T fo') (tE T fa) (tE T fb) (tE T fc) σ H Q := by
  obtain ⟨B, F, s, r, s', I, hf, k⟩ := h
  unfold fChain at hf
  split at hf
  · rename_i x s1 h1
    split at hf
    · rename_i y s2 h2
      refine ⟨B, F, s, x, s1, I, h1, fun v F1 H1 e1 I1 z1 => ⟨B, F1, s1, y, s2, I1, h2, fun u F2 H2 e2 I2 z2 => ?_⟩⟩
      split at hf
      · rename_i h3
        refine ⟨B, F2, x, y, _, I2.fh, z1.ex e2, z2, h3, fun w F3 H3 G z3 => ⟨true, dt_bl z3, iteT ?_⟩⟩
        have I3 := I2.grow G
        split at hf
        · rename_i z s3 h4
          split at hf
          · rename_i r5 h5
            cases hf
            exact ⟨B, F3, s2, z, _, I3, h4, fun t F4 H4 e4 I4 z4 => ⟨B, F4, y, z, _, I4.fh, (z2.ex G.f).ex e4, z4, h5, fun w' F' H' G' z' => k w' F' H' ((((e1.trans e2).trans G.f).trans e4).trans G'.f) (I4.grow G') z'⟩⟩
          · cases hf
        · cases hf
      · rename_i h3
        cases hf
        exact ⟨B, F2, x, y, _, I2.fh, z1.ex e2, z2, h3, fun w F3 H3 G z3 => ⟨false, dt_bl z3, iteF (k _ F3 H3 ((e1.trans e2).trans G.f) (I2.grow G) (.bl false))⟩⟩
      · cases hf
    · cases hf
  · cases hf
theorem jt_chain {op op' : CmpOp} (ho : OpR X (compareOp op) (rD (Cx.T X C) fo)) (ho' : OpR X (compareOp op') (rD (Cx.T X C) fo')) (ha : JE X C a fa) (hb : JE X C b fb) (hc : JE X C c fc)
    (hm : lastMarks [op, op'] [b, c] = false := by with_unfolding_all rfl) : JT X C (.Compare a [op, op'] [b, c] pos) (fTst (fChain fo fo' fa fb fc)) :=
  jt_of (pt_chain ho ho' ha hb hc hm) fun _ _ _ h => tE_chain h
/-- x += e, ints -/
def fAug (i : Nat) (f : FE) : FS := fun s => match s.Γ[i]? with
  | some (some (.d (.int x))) => (match f s with
    | some (.d (.int y), s1) => some (.nx { s1 with Γ := s1.Γ.set i (some (.d (.int (x + y)))) })
    | _ => none)
  | _ => none
theorem js_aug {x : Str} {pos' : Pos} (i : Nat) (hN : X.N.Nodup) (hi : X.N[i]? = some x) (hx : Loc X.env.scope x) (he : JE X C e f) (hf : X.fn x = true ∨ X.env.scope.names.lookup x = some .local := by first | exact .inl rfl | exact .inr rfl | assumption) :
    JS X C (.AugAssign (.Name x pos') .Add e pos) (fAug i f) := by
  refine ps_sub_ (ps_aug hN hi hx he ip_add hf) fun D σ H q => ?_
  obtain ⟨B, F, s, o, J, hf, k⟩ := q
  unfold fAug at hf
  split at hf
  · rename_i x0 e0
    split at hf
    · rename_i y s1 e1
      cases hf
      obtain ⟨v, own, g1, g2⟩ := J.get e0
      have ev : v = .int x0 := dt_int (g2.resolve_right fun z => z)
      subst ev
      exact ⟨_, g1, B, F, s, _, _, J, e1, fun u F' H' x1 J1 z => ⟨x0, y, rfl, dt_int z, k _ F' H' x1 (J1.put i (.int _))⟩⟩
    · cases hf
  · cases hf
end
end Tk

set_option Elab.async false
set_option linter.all false
set_option maxRecDepth 100000
set_option maxHeartbeats 4000000
/-! Tk, part N: defs of a text by their names; the law's first line. -/
namespace Tk
open PySem PySem.Spec PyProof.Rows L2
open Evl (Ex ex_l ex_t fresh_back)

/-- where a def of the text stands -/
structure Dn (K : PySem.W.Frag) (mg : Str → Option Value) (x : Str) (st : Stmt) (f : Addr) : Prop where
  fn : ∃ fd, Fun K x x st f fd
  mgf : mg x = some (.ref f)
/-- a def that may be called, with its denotation -/
structure OkD (P : Program) (w : World) (K : PySem.W.Frag) (mg : Str → Option Value) (base : Heap) (C : Cc) (k : Nat) (x : Str) (f : Addr) (n : Nat) (g : Den) : Prop where
  ex : ∃ (fd : FuncData) (ps : List Str), FnOk P w K mg base CX0 k f fd ps (spD ⟨K, P, w, C⟩ n g) ∧ PySem.W.keepIn K (.ref f) = true ∧ Binds K fd ps []
  mgf : mg x = some (.ref f)
section
variable {P : Program} {w : World} {K : PySem.W.Frag} {mg : Str → Option Value} {base : Heap} {C : Cc} {k n : Nat} {x : Str} {st : Stmt} {f : Addr} {g : Den} {N ps : List Str} {fb : FS}
theorem okD_of (D : Dn K mg x st f) (S : FnScope N ps (defScope st)) (hp : ps.length ≤ N.length)
    (hbind : ∀ (kV doc pm : Value) (an : Option Addr) (cdv ct : Value) (us : List Value), us.length = ps.length → bindArgs (PySem.W.fnOf x x (defArgs st) (defBody st) (defScope st) .none kV doc pm an cdv ct) ⟨us, []⟩ = pure (ps.zip us))
    (hb : ∀ (cdv : Value) (A : Around) (outer : List Env) (s : Shared) (H : Hp) (E : XK), Room k (A.deeper (envOfC x (defScope st) s.heap.objs.size f cdv)) → JSs (cxOf CX0 P w K mg base N x (defScope st) f cdv A outer s H E).nox C (defBody st) fb) :
    OkD P w K mg base C (k + 1) x f ps.length (denF N.length fb) := by
  obtain ⟨fd, F⟩ := D.fn
  exact ⟨⟨fd, ps, fn_den F S hp hb, F.kp, F.binds hbind⟩, D.mgf⟩
theorem OkD.mono (O : OkD P w K mg base C k x f n g) {j : Nat} (h : k ≤ j) : OkD P w K mg base C j x f n g := by
  obtain ⟨fd, ps, F, kp, b⟩ := O.ex
  exact ⟨⟨fd, ps, F.mono h, kp, b⟩, O.mgf⟩
theorem OkD.held (O : OkD P w K mg base C k x f n g) : Held P w K mg base k f (spD ⟨K, P, w, C⟩ n g) := by
  obtain ⟨fd, ps, F, kp, b⟩ := O.ex
  exact ⟨fd, ps, F, kp, b⟩
end
section
variable {X : Cx} {C : Cc} {f : Addr} {e : Expr} {es : List Expr} {x : Str} {p pos : Pos} {k j n : Nat} {g : Den} {fa : FA}
theorem je_callD (O : OkD X.prog X.w X.K X.mg X.base C k x f n g) (hr : Room j X.A) (ha : JAs X C (e :: es) fa) (hg : Gl X x := by rfl) (hkj : k ≤ j := by decide)
    (hn : (e :: es).length = n := by rfl) (hdb : (x == ("__debug__" : Str)) = false := by decide) (he : starEach (e :: es) X.env = (false, eval e X.env) :: starEach es X.env := by rfl) (hpl : (backTo pos (starEach es X.env)).any (·.1) = false := by rfl) :
    JE X C (.Call (.Name x p) (e :: es) [] pos) (fCall g fa) := by
  obtain ⟨fd, ps, F, kp, b⟩ := O.ex
  exact je_call F (hr.mono hkj) hg O.mgf kp b ha hn hdb he hpl
end

/-! ### the law's first line: state = start(script) -/
/-- [list(script), 0, 1] -/
def spS (K : PySem.W.Frag) : Sp := fun vs H Q _ => ∃ (a : Addr) (ns : List Int), vs = [.ref a] ∧ SqL K H a (ns.map V.int) ∧ ∀ p1 p2, H p2 = none → H p1 = none → p1 ≠ p2 → Q (.ref p1) (upd (upd H p2 (.lst (ns.map V.int))) p1 (.lst [.ref p2, .int 0, .int 1]))
section
variable {P : Program} {w : World} {K : PySem.W.Frag} {mg : Str → Option Value} {base : Heap} {st : Stmt} {f : Addr} {fd : FuncData} {x qual : Str}
theorem ok_start {x0 : Str} {p1 p2 p3 p4 p5 p6 p7 : Pos} {j1 j2 : Nat} (F : Fun K x x st f fd) (S : FnScope [x0] [x0] (defScope st)) (hst : defBody st = [.Return (some (.List [.Call (.Name "list" p1) [.Name x0 p2] [] p3, .Constant (.int 0) j1 p4, .Constant (.int 1) j2 p5] p6)) p7])
    (hg : (defScope st).names.lookup ("list" : Str) = some .globalImplicit) (hm : mg "list" = none) (hx : (defScope st).names.lookup x0 = some .local) (hd : (x0 == ("__debug__" : Str)) = false) (hcd : (x0 == ("__classdict__" : Str)) = false) : FnOk P w K mg base CX0 1 f fd [x0] (spS K) := by
  refine F.ok S (fun vs H Q E h => ?_) fun cdv A outer s H vs Q E hr h => ?_
  · obtain ⟨a, ns, rfl, _⟩ := h
    rfl
  · obtain ⟨a, ns, rfl, hS, k⟩ := h
    rw [hst]
    refine ⟨_, pss_one (ps_ret (pe_lst (pa_cons (pe_callTy call_list_of hg hm boot_list (pa_cons (pe_var (i := 0) rfl (.inl hx) hd hcd) pa_nil (by rfl)) (by decide) (by decide) (by rfl) (by rfl)) (pa_cons pe_int (pa_cons pe_int pa_nil (by rfl)) (by rfl)) (by rfl)))), ?_⟩
    refine ⟨_, rfl, a, _, rfl, .inl hS, fun l hl => ?_⟩
    exact ⟨(by decide : 3 ≤ sizeLine), fun p hp => k p l hl (by
      by_cases c : p = l
      · rw [c, upd_same] at hp; cases hp
      · rw [upd_ne c] at hp; exact hp) (fun z => by rw [z, upd_same] at hp; cases hp)⟩
end
/-- what the law starts with, behind its first line -/
theorem law_env {T : Cfg} {H : Hp} {p1 p2 : Addr} {σ : L2.St} {ns : List Int} {n : Nat} (h1 : H p2 = none) (h2 : H p1 = none) (hne : p1 ≠ p2) (htb : ∀ P ∈ T.C.tb, GxR.TabG H P) (hσ : σ.length = n) (hi : 1 < n) :
    ∃ B : Bg, EnvOk T B (fun _ => none) (upd (upd H p2 (.lst (ns.map V.int))) p1 (.lst [.ref p2, .int 0, .int 1])) (σ.set 1 (some (.ref p1))) ⟨none :: some .lp :: List.replicate (n - 2) none, (ns, 0, 1)⟩ := by
  have e1 : upd (upd H p2 (.lst (ns.map V.int))) p1 (.lst [.ref p2, .int 0, .int 1]) p1 = some (.lst [.ref p2, .int 0, .int 1]) := upd_same
  have e2 : upd (upd H p2 (.lst (ns.map V.int))) p1 (.lst [.ref p2, .int 0, .int 1]) p2 = some (.lst (ns.map V.int)) := by rw [upd_ne (Ne.symm hne), upd_same]
  refine ⟨⟨fun _ => none, upd (upd H p2 (.lst (ns.map V.int))) p1 (.lst [.ref p2, .int 0, .int 1]), some (p1, p2), T.C.tb, []⟩, ?_⟩
  refine ⟨(fun a u q => nomatch q), (fun a u q => nomatch q), fun a q => absurd rfl q, fun a u q _ => q, fun a q => q, fun P hP => ?_, rfl, fun q hq => ?_, fun q hq => absurd hq List.not_mem_nil, List.nodup_nil, ?_, fun _ => none, (fun a i q => nomatch q), fun i av q => ?_⟩
  · obtain ⟨ps, e, ht⟩ := htb P hP
    have n1 : P ≠ p1 := fun z => by rw [z, h2] at e; cases e
    have n2 : P ≠ p2 := fun z => by rw [z, h1] at e; cases e
    have e3 : upd (upd H p2 (.lst (ns.map V.int))) p1 (.lst [.ref p2, .int 0, .int 1]) P = some (.tbl ps) := by rw [upd_ne n1, upd_ne n2]; exact e
    exact ⟨⟨ps, e3, ht⟩, ne_some e3, rfl⟩
  · cases hq
    exact ⟨⟨hne, e1, e2, rfl, rfl⟩, ne_some e1, ne_some e2⟩
  · simp [hσ]; omega
  · match i with
    | 0 => cases q
    | 1 =>
      cases q
      exact ⟨.ref p1, List.getElem?_set_self (by rw [hσ]; exact hi), .inl ⟨(p1, p2), rfl, rfl⟩⟩
    | i + 2 =>
      have q' : (List.replicate (n - 2) (none : Option AV))[i]? = some (some av) := q
      rw [List.getElem?_replicate] at q'
      split at q' <;> cases q'
end Tk

set_option Elab.async false
set_option linter.all false
set_option maxRecDepth 100000
set_option maxHeartbeats 4000000
/-! Tk, part O: what the printed derivations lean on. -/
namespace Tk
open PySem PySem.Spec PyProof.Rows L2
open Evl (Ex ex_l ex_t fresh_back)

theorem pvT {X : Cx} {x : Str} {pos : Pos} (i : Nat) (hN : X.N[i]? = some x := by rfl) (hv : Vis X.env.scope x := by first | exact Or.inl rfl | exact Or.inr (Or.inl rfl) | exact Or.inr (Or.inr rfl)) (hd : (x == ("__debug__" : Str)) = false := by decide)
    (hcd : (x == ("__classdict__" : Str)) = false := by decide) : PE X (.Name x pos) (tVar i) := pe_var hN hv hd hcd
section
variable {k : Nat} {A : Around}
theorem u1 (r : Room k A) : A.units + 1 < cLine := by have := r.un; omega
theorem u8 (r : Room k A) : A.units + 8 < cLine := by have := r.un; omega
theorem u9 (r : Room k A) : A.units + 9 < cLine := by have := r.un; omega
theorem u64 (r : Room k A) : A.units + 64 < cLine := by have := r.un; omega
theorem u65 (r : Room k A) : A.units + 65 < cLine := by have := r.un; omega
end
/-- a constant of the module -/
structure Cst (K : PySem.W.Frag) (mg : Str → Option Value) (x : Str) (d : PyData) : Prop where
  ex : ∃ (v : V) (u : Value), mg x = some u ∧ RelV v u ∧ ∀ F, Dt K F v d
theorem Cst.je {X : Cx} {C : Cc} {x : Str} {d : PyData} {pos : Pos} (c : Cst X.K X.mg x d) (hg : Gl X x) (hd : (x == ("__debug__" : Str)) = false := by decide) : JE X C (.Name x pos) (fC d) := by
  obtain ⟨v, u, h1, h2, h3⟩ := c.ex
  exact je_glob hg h1 h2 h3 hd
section
variable {P : Program} {w : World} {K : PySem.W.Frag} {mg : Str → Option Value} {base : Heap} {C : Cc} {k n : Nat} {x : Str} {st : Stmt} {f c : Addr} {g : Den} {N ps : List Str} {fb : FS}
theorem okD_ofC (D : ∃ fd, FunC K x x st f fd c ∧ PySem.W.keepIn K (.ref f) = true ∧ Binds K fd ps []) (hm : mg x = some (.ref f)) (S : FnScope N ps (defScope st)) (hp : ps.length ≤ N.length)
    (hb : ∀ (A : Around) (outer : List Env) (s : Shared) (H : Hp) (E : XK), Room k (A.deeper (envOfC x (defScope st) s.heap.objs.size f (.ref c))) → JSs (cxOf CX0 P w K mg base N x (defScope st) f (.ref c) A outer s H E).nox C (defBody st) fb) :
    OkD P w K mg base C (k + 1) x f ps.length (denF N.length fb) := by
  obtain ⟨fd, F, kp, b⟩ := D
  exact ⟨⟨fd, ps, fn_denC F S hp hb, kp, b⟩, hm⟩
end
/-- the scope of a generator expression in a def's body -/
def genC (sc scope : Scope) (x : Str) : Bool :=
  (match scope.kind with | .function => true | _ => false) && !scope.isCoroutine && (scope.names.all fun y => !decide (y.2 = .cell)) && decide (scope.names.lookup (".0" : Str) = some .local) && decide (scope.names.lookup x = some .local) &&
    (scope.names.all fun y => !decide (y.2 = .free) || decide (sc.names.lookup y.1 = some .cell))
theorem genS_by {qual : Str} {sc scope : Scope} {L f : Addr} {cd : Value} {x : Str} (h : genC sc scope x = true) : GxR.GenS (envOfC qual sc L f cd) scope x := by
  unfold genC at h
  simp only [Bool.and_eq_true, Bool.not_eq_true', decide_eq_true_eq, List.all_eq_true, Bool.or_eq_true, decide_eq_false_iff_not] at h
  obtain ⟨⟨⟨⟨⟨h1, h2⟩, h3⟩, h4⟩, h5⟩, h6⟩ := h
  refine ⟨?_, h2, h3, h4, h5, fun y hy e => ?_⟩
  · split at h1
    · assumption
    · cases h1
  · exact cell_has ((h6 y hy).resolve_left fun z => z e)
/-- Program, as it may be called -/
structure OkI (P : Program) (w : World) (K : PySem.W.Frag) (mg : Str → Option Value) (base : Heap) (C : Cc) (k n : Nat) (chk : FS) : Prop where
  ex : ∃ (f : Addr) (fd : FuncData) (ps : List Str) (g : List Value → List Value → List Value), Mk K C.cl f ∧ FnOk P w K mg base CX0 k f fd ps (spI ⟨K, P, w, C⟩ n chk) ∧ KBn K fd ps 1 ["sizes", "parts", "ticks", "live", "skips"] g fun vs zs => vs ++ zs
  mgf : mg "Program" = some (.ref C.cl)
section
variable {X : Cx} {C : Cc} {p pos : Pos} {kws : List Keyword} {fk : FA} {n k j : Nat} {chk : FS} {ok : PyData → PyData → PyData → PyData → PyData → Bool}
theorem je_makeD (O : OkI X.prog X.w X.K X.mg X.base C k n chk) (hok : ∀ sz pa tk lv sk, ok sz pa tk lv sk = true → PrOk n chk sz pa tk lv sk) (hr : Room j X.A) (hkw : JKs X C kws fk) (hg : Gl X "Program" := by rfl) (hkj : k + 1 ≤ j := by decide)
    (h5 : kws.length = 5 := by rfl) (hall : (backToKw pos (keywordEach kws X.env)).all (·.1.isSome) = true := by rfl) (hks : (backToKw pos (keywordEach kws X.env)).filterMap (·.1) = (["sizes", "parts", "ticks", "live", "skips"] : List Str) := by rfl)
    (hpl : ((backTo pos (starEach [] X.env)).any (·.1) || (backToKw pos (keywordEach kws X.env)).any (·.1.isNone)) = false := by rfl) : JE X C (.Call (.Name "Program" p) [] kws pos) (fMake ok fk) := by
  obtain ⟨f, fd, ps, g, M, F, kb⟩ := O.ex
  exact je_make M F hok (hr.mono hkj) hg O.mgf kb hkw h5 rfl hall hks (by decide) hpl
end
/-- a statement of a class's body -/
def clsDef (s : Stmt) (j : Nat) : Stmt := match s with
  | .ClassDef _ _ _ b _ _ _ _ _ _ _ => b.getD j (.Pass ⟨0, 0, 0, 0⟩)
  | _ => .Pass ⟨0, 0, 0, 0⟩
end Tk

set_option Elab.async false
set_option linter.all false
set_option maxRecDepth 100000
set_option maxHeartbeats 4000000
/-! Tk, part P: the written part without the empty code tables. -/
namespace Tk
open PySem PySem.Spec PyProof.Rows L2

def isTab (o : Obj) : Bool := match o.data with
  | .fields vs => (match o.cls with | .none => true | _ => false) && vs.isEmpty
  | _ => false
def noTab (K : PySem.W.Frag) : PySem.W.Frag := K.filter fun q => !isTab q.2
def tabsOut (K : PySem.W.Frag) : Bool := K.all fun q => !isTab q.2 || ((noTab K).lookup q.1).isNone
theorem noTab_look : ∀ {K : PySem.W.Frag} {a : Addr} {o : Obj}, K.lookup a = some o → isTab o = false → (noTab K).lookup a = some o
  | [], _, _, h, _ => by cases h
  | (b, u) :: K, a, o, h, ho => by
    rw [List.lookup_cons] at h
    unfold noTab
    rw [List.filter_cons]
    cases hb : a == b with
    | true =>
      rw [hb] at h
      cases h
      simp only [ho, Bool.not_false, if_true]
      rw [List.lookup_cons, hb]
    | false =>
      rw [hb] at h
      have ih := noTab_look h ho
      unfold noTab at ih
      split
      · rw [List.lookup_cons, hb]; exact ih
      · exact ih
theorem lookup_of_mem {α : Type} : ∀ {K : List (Addr × α)} {a : Addr} {o : α}, (a, o) ∈ K → ∃ o', K.lookup a = some o'
  | [], _, _, h => by cases h
  | q :: K, a, o, h => by
    by_cases hb : a = q.1
    · exact ⟨q.2, by rw [show q = (q.1, q.2) from rfl, List.lookup_cons, hb]; simp⟩
    · have hb' : (a == q.1) = false := beq_eq_false_iff_ne.mpr hb
      rcases List.mem_cons.mp h with e | h
      · exact absurd (congrArg Prod.fst e) hb
      · obtain ⟨o', e⟩ := lookup_of_mem h
        exact ⟨o', by rw [show q = (q.1, q.2) from rfl, List.lookup_cons, hb']; exact e⟩
theorem mem_of_look {α : Type} : ∀ {K : List (Addr × α)} {a : Addr} {o : α}, K.lookup a = some o → (a, o) ∈ K
  | [], _, _, h => by cases h
  | q :: K, a, o, h => by
    rw [show q = (q.1, q.2) from rfl, List.lookup_cons] at h
    by_cases hb : a = q.1
    · have hb' : (a == q.1) = true := beq_iff_eq.mpr hb
      rw [hb'] at h
      have e : q.2 = o := Option.some.inj h
      rw [← e, hb]; exact List.mem_cons_self
    · have hb' : (a == q.1) = false := beq_eq_false_iff_ne.mpr hb
      rw [hb'] at h
      exact List.mem_cons_of_mem _ (mem_of_look h)
theorem noTab_in {K : PySem.W.Frag} {h : Heap} (X : K.In h) (ht : tabsOut K = true) : (noTab K).In h := fun a o e => by
  obtain ⟨hm, _⟩ := List.mem_filter.mp (mem_of_look e)
  obtain ⟨o', e'⟩ := lookup_of_mem hm
  cases c : isTab o' with
  | false =>
    have := noTab_look e' c
    rw [e] at this
    cases this
    exact X a o e'
  | true =>
    have := List.all_eq_true.mp ht _ (mem_of_look e')
    simp only [c, Bool.not_true, Bool.false_or] at this
    rw [e] at this
    cases this
theorem isTab_eq {P : Addr} {h : Heap} {K : PySem.W.Frag} {vs : Array Value} {cl : Value} {dd : Option Addr} {sl : Array (Option Value)} (X : K.In h) (e : K.lookup P = some ⟨.none, none, .fields #[], #[]⟩) : h.get? P = some { cls := .none, data := .fields #[] } := X _ _ e
end Tk

set_option Elab.async false
set_option linter.all false
set_option maxRecDepth 100000
set_option maxHeartbeats 1000000
/-! Pu, part A: plain data, the typed mirror of a program. -/
namespace Pu
open PySem Tk

/-! ### plain data: no bools, no dicts -/
mutual
def gd : Nat → PyData → Bool
  | _, .none => true
  | _, .int _ => true
  | _, .str x => PyData.strOk x
  | n + 1, .tuple xs => gds n xs
  | n + 1, .list xs => gds n xs
  | _, _ => false
def gds : Nat → List PyData → Bool
  | _, [] => true
  | n, x :: xs => gd n x && gds n xs
end
theorem gds_mem : ∀ {n : Nat} {xs : List PyData}, gds n xs = true ↔ ∀ x ∈ xs, gd n x = true
  | n, [] => by simp [gds]
  | n, x :: xs => by simp [gds, gds_mem (n := n) (xs := xs)]
mutual
theorem eqv_gd : ∀ (d e : PyData) (n m : Nat), gd n d = true → gd m e = true → PyData.eqv d e = decide (d = e)
  | .none, e, n, m, _, he => by cases e <;> simp [PyData.eqv] <;> simp [gd] at he
  | .int i, e, n, m, _, he => by
    cases e with
    | int j => simp [PyData.eqv]; rfl
    | bool b => cases m <;> simp [gd] at he
    | _ => simp [PyData.eqv]
  | .str x, e, n, m, _, he => by
    cases e with
    | str y => simp [PyData.eqv]; rfl
    | _ => simp [PyData.eqv]
  | .tuple xs, e, n, m, hd, he => by
    cases e with
    | tuple ys =>
      cases n with
      | zero => simp [gd] at hd
      | succ n =>
        cases m with
        | zero => simp [gd] at he
        | succ m =>
          simp only [gd] at hd he
          simp only [PyData.eqv, PyData.tuple.injEq]
          exact eqvs_gd xs ys n m hd he
    | _ => simp [PyData.eqv]
  | .list xs, e, n, m, hd, he => by
    cases e with
    | list ys =>
      cases n with
      | zero => simp [gd] at hd
      | succ n =>
        cases m with
        | zero => simp [gd] at he
        | succ m =>
          simp only [gd] at hd he
          simp only [PyData.eqv, PyData.list.injEq]
          exact eqvs_gd xs ys n m hd he
    | _ => simp [PyData.eqv]
  | .bool _, _, n, _, hd, _ => by cases n <;> simp [gd] at hd
  | .dict _, _, n, _, hd, _ => by cases n <;> simp [gd] at hd
theorem eqvs_gd : ∀ (ds es : List PyData) (n m : Nat), gds n ds = true → gds m es = true → PyData.eqvAll ds es = decide (ds = es)
  | [], es, _, _, _, _ => by cases es <;> simp [PyData.eqvAll]
  | d :: ds, es, n, m, hd, he => by
    cases es with
    | nil => simp [PyData.eqvAll]
    | cons e es =>
      simp only [gds, Bool.and_eq_true] at hd he
      simp only [PyData.eqvAll, eqv_gd d e n m hd.1 he.1, eqvs_gd ds es n m hd.2 he.2, List.cons.injEq, Bool.decide_and]
end
mutual
theorem lay_gd : ∀ (d : PyData) (n : Nat), gd n d = true → d.canLay0 = true ∧ d.depth ≤ n
  | .none, n, _ => by simp [PyData.canLay0, PyData.depth]
  | .int i, n, _ => by simp [PyData.canLay0, PyData.depth]
  | .str x, n, h => by simp [PyData.canLay0, PyData.depth]; simpa [gd] using h
  | .tuple xs, n, h => by
    cases n with
    | zero => simp [gd] at h
    | succ n =>
      simp only [gd] at h
      have := lays_gd xs n h
      simp [PyData.canLay0, PyData.depth, this.1, this.2]
  | .list xs, n, h => by
    cases n with
    | zero => simp [gd] at h
    | succ n =>
      simp only [gd] at h
      have := lays_gd xs n h
      simp [PyData.canLay0, PyData.depth, this.1, this.2]
  | .bool _, n, h => by cases n <;> simp [gd] at h
  | .dict _, n, h => by cases n <;> simp [gd] at h
theorem lays_gd : ∀ (ds : List PyData) (n : Nat), gds n ds = true → PyData.canLayAll0 ds = true ∧ PyData.depthAll ds ≤ n
  | [], n, _ => by simp [PyData.canLayAll0, PyData.depthAll]
  | d :: ds, n, h => by
    simp only [gds, Bool.and_eq_true] at h
    have a := lay_gd d n h.1
    have b := lays_gd ds n h.2
    simp [PyData.canLayAll0, PyData.depthAll, a.1, b.1]
    omega
end
theorem shaped_gd {d : PyData} {n : Nat} (h : gd n d = true) (hn : n ≤ 64) : SeqAt.shaped d = true := by
  have := lay_gd d n h
  simp [SeqAt.shaped, this.1]
  omega

/-! ### plain keys: no lists either -/
mutual
def kd : Nat → PyData → Bool
  | _, .none => true
  | _, .int _ => true
  | _, .str x => PyData.strOk x
  | n + 1, .tuple xs => kds n xs
  | _, _ => false
def kds : Nat → List PyData → Bool
  | _, [] => true
  | n, x :: xs => kd n x && kds n xs
end
mutual
theorem gd_kd : ∀ (d : PyData) (n : Nat), kd n d = true → gd n d = true
  | .none, n, _ => by cases n <;> rfl
  | .int i, n, _ => by cases n <;> rfl
  | .str x, n, h => by cases n <;> exact h
  | .tuple xs, n, h => by
    cases n with
    | zero => simp [kd] at h
    | succ n => simp only [kd] at h; simp only [gd]; exact gds_kds xs n h
  | .list _, n, h => by cases n <;> simp [kd] at h
  | .bool _, n, h => by cases n <;> simp [kd] at h
  | .dict _, n, h => by cases n <;> simp [kd] at h
theorem gds_kds : ∀ (ds : List PyData) (n : Nat), kds n ds = true → gds n ds = true
  | [], n, _ => rfl
  | d :: ds, n, h => by
    simp only [kds, Bool.and_eq_true] at h
    simp only [gds, gd_kd d n h.1, gds_kds ds n h.2, Bool.and_self]
end
mutual
theorem nk_kd : ∀ (d : PyData) (n : Nat), kd n d = true → ∃ k, nk d = some k ∧ k.depth ≤ n
  | .none, n, _ => ⟨_, rfl, by simp [NestedKey.depth]⟩
  | .int i, n, _ => ⟨_, rfl, by simp [NestedKey.depth]⟩
  | .str x, n, _ => ⟨_, rfl, by simp [NestedKey.depth]⟩
  | .tuple xs, n, h => by
    cases n with
    | zero => simp [kd] at h
    | succ n =>
      simp only [kd] at h
      obtain ⟨ks, e, hk⟩ := nks_kds xs n h
      exact ⟨.tup ks, by simp [nk, e], by simp [NestedKey.depth]; omega⟩
  | .list _, n, h => by cases n <;> simp [kd] at h
  | .bool _, n, h => by cases n <;> simp [kd] at h
  | .dict _, n, h => by cases n <;> simp [kd] at h
theorem nks_kds : ∀ (ds : List PyData) (n : Nat), kds n ds = true → ∃ ks, nks ds = some ks ∧ NestedKey.depthAll ks ≤ n
  | [], n, _ => ⟨[], rfl, by simp [NestedKey.depthAll]⟩
  | d :: ds, n, h => by
    simp only [kds, Bool.and_eq_true] at h
    obtain ⟨k, e1, e2⟩ := nk_kd d n h.1
    obtain ⟨ks, e3, e4⟩ := nks_kds ds n h.2
    exact ⟨k :: ks, by simp [nks, e1, e3], by simp [NestedKey.depthAll]; omega⟩
end
theorem key_kd {xs : List PyData} {n : Nat} (h : kds n xs = true) (hn : n ≤ 7) : (keyOf (.tuple xs)).isSome = true := by
  obtain ⟨k, e, hk⟩ := nk_kd (.tuple xs) (n + 1) h
  simp only [keyOf, e]
  rw [if_pos (by omega)]
  rfl
end Pu

set_option Elab.async false
set_option linter.all false
set_option maxRecDepth 100000
set_option maxHeartbeats 1000000
/-! Pu, part B: the typed mirror, its data; loops. -/
namespace Pu
open PySem Tk

/-! ### the mirror -/
def nth (xs : List Nat) (i : Nat) : Nat := xs.getD i 0

structure Tb where
  v : Nat
  t : List Nat
deriving DecidableEq
abbrev Ch := List (Nat × Nat)
structure Pt where
  look : Tb
  word : Tb
  press : Option Ch
deriving DecidableEq
structure Pg where
  sz : List Nat
  pa : List Pt
  tk : List Ch
  lv : List Nat
  sk : List Nat
deriving DecidableEq
structure St where
  v : List Nat
  f : Nat
  q : Ch
deriving DecidableEq
inductive Act where
  | point (i : Nat)
  | next
  | press
  | tick (i : Nat)
  | speak
deriving DecidableEq

abbrev eN (n : Nat) : PyData := .int n
abbrev eNs (xs : List Nat) : PyData := .tuple (xs.map eN)
abbrev eP (p : Nat × Nat) : PyData := .tuple [eN p.1, eN p.2]
abbrev ePs (xs : Ch) : PyData := .tuple (xs.map eP)
abbrev eT (t : Tb) : PyData := .tuple [eN t.v, eNs t.t]
def eO : Option Ch → PyData
  | none => .none
  | some c => ePs c
abbrev ePt (p : Pt) : PyData := .tuple [eT p.look, eT p.word, eO p.press]
abbrev ePts (ps : List Pt) : PyData := .tuple (ps.map ePt)
abbrev eTks (ts : List Ch) : PyData := .tuple (ts.map ePs)
def Pg.av (P : Pg) : AV := .pr (eNs P.sz) (ePts P.pa) (eTks P.tk) (eNs P.lv) (eNs P.sk)
abbrev eS (s : St) : PyData := .tuple [eNs s.v, eN s.f, ePs s.q]
def eA : Act → PyData
  | .point i => .tuple [.str "point", eN i]
  | .next => .tuple [.str "next"]
  | .press => .tuple [.str "press"]
  | .tick i => .tuple [.str "tick", eN i]
  | .speak => .tuple [.str "speak"]
abbrev eAs (as : List Act) : PyData := .list (as.map eA)
/-- a spoken message, or () -/
def eSp : Option (Nat × Nat) → PyData
  | none => .tuple []
  | some p => eP p

def words (P : Pg) (v : List Nat) : List Nat := P.pa.map fun p => nth p.word.t (nth v p.word.v)
def looks (P : Pg) (v : List Nat) : List Nat := P.pa.map fun p => nth p.look.t (nth v p.look.v)
def put (q : Ch) (m : Nat × Nat) : Ch := let f := q.map fun o => if o.1 = m.1 then m else o; if m ∈ f then f else f ++ [m]
def chg1 (P : Pg) (v : List Nat) (c : Nat × Nat) : List Nat := v.set c.1 ((nth v c.1 + c.2) % nth P.sz c.1)
def changed (P : Pg) (v : List Nat) (ch : Ch) : List Nat := ch.foldl (chg1 P) v
def nextFocus (P : Pg) (f : Nat) : Nat := (((List.range P.pa.length).map fun i => (f + (i + 1)) % P.pa.length).find? fun p => decide (p ∉ P.sk)).getD f
def acts (P : Pg) (s : St) : List Act :=
  ((List.range P.pa.length).filter fun i => ((P.pa[i]?).bind (·.press)).isSome).map .point ++ [.next] ++ (if ((P.pa[s.f]?).bind (·.press)).isSome then [.press] else []) ++ (List.range P.tk.length).map .tick ++ (if s.q = [] then [] else [.speak])
def pressOf (P : Pg) (i : Nat) : Ch := ((P.pa[i]?).bind (·.press)).getD []
def changesOf (P : Pg) (f : Nat) : Act → Ch
  | .tick i => P.tk.getD i []
  | .press => pressOf P f
  | .point i => pressOf P i
  | _ => []
/-- what the live parts say of a change -/
def sayAll (P : Pg) (v w : List Nat) (q : Ch) : Ch := P.lv.foldl (fun q p => if nth (words P w) p ≠ nth (words P v) p then put q (p, nth (words P w) p) else q) q
def after (P : Pg) (s : St) : Act → St × Option (Nat × Nat)
  | .speak => (⟨s.v, s.f, s.q.drop 1⟩, s.q.head?)
  | .next => (⟨s.v, nextFocus P s.f, put s.q (nextFocus P s.f, nth (words P s.v) (nextFocus P s.f))⟩, none)
  | a => (⟨changed P s.v (changesOf P s.f a), s.f, sayAll P s.v (changed P s.v (changesOf P s.f a)) s.q⟩, none)
def stale (P : Pg) (b : St) (sp : Option (Nat × Nat)) : Bool := match sp with
  | none => false
  | some p => decide (nth (words P b.v) p.1 ≠ p.2)
def unsaid (P : Pg) (s b : St) : Bool := (List.range P.pa.length).any fun i => decide (nth (looks P b.v) i ≠ nth (looks P s.v) i) && decide ((i, nth (words P b.v) i) ∉ b.q)
def start (P : Pg) : St := ⟨P.sz.map fun _ => 0, 0, []⟩

/-! ### what a program of the law is -/
structure TbOk (sz : List Nat) (t : Tb) : Prop where
  hv : t.v < sz.length
  ht : t.t.length = nth sz t.v
  hs : ∀ x ∈ t.t, x ≤ 7
structure ChOk (sz : List Nat) (c : Ch) : Prop where
  l : 1 ≤ c.length
  u : c.length ≤ 3
  c : ∀ p ∈ c, p.1 < sz.length ∧ 1 ≤ p.2 ∧ p.2 ≤ 3
structure PgOk (P : Pg) : Prop where
  s1 : 1 ≤ P.sz.length
  s3 : P.sz.length ≤ 3
  sz : ∀ n ∈ P.sz, 2 ≤ n ∧ n ≤ 4
  p1 : 1 ≤ P.pa.length
  p4 : P.pa.length ≤ 4
  look : ∀ p ∈ P.pa, TbOk P.sz p.look
  word : ∀ p ∈ P.pa, TbOk P.sz p.word
  press : ∀ p ∈ P.pa, ∀ c, p.press = some c → ChOk P.sz c
  t2 : P.tk.length ≤ 2
  tk : ∀ c ∈ P.tk, ChOk P.sz c
  lv : ∀ i ∈ P.lv, i < P.pa.length
  lvn : P.lv.Pairwise (· < ·)
  sk : ∀ i ∈ P.sk, i < P.pa.length
  skn : P.sk.Pairwise (· < ·)
/-- a state of the program -/
structure StOk (P : Pg) (s : St) : Prop where
  l : s.v.length = P.sz.length
  v : ∀ i, i < P.sz.length → nth s.v i < nth P.sz i
  f : s.f < P.pa.length
  q : ∀ m ∈ s.q, m.1 < P.pa.length
  w : ∀ m ∈ s.q, m.2 ≤ 7
  n : (s.q.map (·.1)).Nodup

theorem dPr_sz (P : Pg) : dPr "sizes" P.av = some (.d (eNs P.sz)) := rfl
theorem dPr_pa (P : Pg) : dPr "parts" P.av = some (.d (ePts P.pa)) := rfl
theorem dPr_tk (P : Pg) : dPr "ticks" P.av = some (.d (eTks P.tk)) := rfl
theorem dPr_lv (P : Pg) : dPr "live" P.av = some (.d (eNs P.lv)) := rfl
theorem dPr_sk (P : Pg) : dPr "skips" P.av = some (.d (eNs P.sk)) := rfl
/-- reading a local, by what it holds -/
def rdV (o : Option (Option AV)) (i : Nat) (s : S) : Option (AV × S) := match o with
  | some (some (.ml xs)) => some (.d (.list xs), { s with Γ := s.Γ.set i (some (.d (.list xs))) })
  | some (some (.md kvs)) => some (.fd kvs, { s with Γ := s.Γ.set i (some (.fd kvs)) })
  | some (some (.mt kvs)) => some (.ft kvs, { s with Γ := s.Γ.set i (some (.ft kvs)) })
  | some (some (.ms _)) => none
  | some (some a) => some (a, s)
  | some none => none
  | none => none
theorem fVar_eq (i : Nat) (s : S) : fVar i s = rdV s.Γ[i]? i s := rfl
theorem rdV_av (i : Nat) (s : S) (P : Pg) : rdV (some (some P.av)) i s = some (P.av, s) := rfl
theorem rdV_d (i : Nat) (s : S) (d : PyData) : rdV (some (some (.d d))) i s = some (.d d, s) := rfl
theorem rdV_lp (i : Nat) (s : S) : rdV (some (some .lp)) i s = some (.lp, s) := rfl
theorem rdV_fn (i : Nat) (s : S) (a : Addr) : rdV (some (some (.fn a))) i s = some (.fn a, s) := rfl
theorem rdV_ft (i : Nat) (s : S) (a) : rdV (some (some (.ft a))) i s = some (.ft a, s) := rfl
theorem rdV_fd (i : Nat) (s : S) (a) : rdV (some (some (.fd a))) i s = some (.fd a, s) := rfl
theorem rdV_ml (i : Nat) (s : S) (xs : List PyData) : rdV (some (some (.ml xs))) i s = some (.d (.list xs), { s with Γ := s.Γ.set i (some (.d (.list xs))) }) := rfl
theorem rdV_md (i : Nat) (s : S) (xs) : rdV (some (some (.md xs))) i s = some (.fd xs, { s with Γ := s.Γ.set i (some (.fd xs)) }) := rfl
/-! ### loops -/
theorem wipe_def (s : S) (vs : List Nat) : wipeS s vs = ⟨wipeG s.Γ vs, s.g⟩ := rfl
/-- a list comprehension whose turns leave the state as it was -/
theorem lcGo_map {α : Type} {g : FG} {ft : FB} {fe : FE} {vs : List Nat} {s0 : S} (enc : α → PyData) (p : α → Bool) (f : α → PyData) :
    ∀ (xs : List α) (acc : List PyData), (∀ x ∈ xs, ∃ s1 s2, g (.d (enc x)) s0 = some s1 ∧ ft s1 = some (p x, s2) ∧ (p x = true → ∃ s3, fe s2 = some (.d (f x), s3) ∧ wipeS s3 vs = s0) ∧ (p x = false → wipeS s2 vs = s0)) → acc.length + xs.length ≤ sizeLine →
      lcGo g ft fe vs (xs.map enc) acc s0 = some (acc ++ (xs.filter p).map f, s0)
  | [], acc, _, _ => by simp [lcGo]
  | x :: xs, acc, h, hl => by
    obtain ⟨s1, s2, h1, h2, h3, h4⟩ := h x List.mem_cons_self
    rw [List.map_cons, lcGo]
    simp only [h1, h2]
    cases hp : p x with
    | true =>
      obtain ⟨s3, h5, h6⟩ := h3 hp
      simp only [h5, h6]
      rw [List.length_cons] at hl
      rw [if_pos (by omega), lcGo_map enc p f xs (acc ++ [f x]) (fun y hy => h y (List.mem_cons_of_mem _ hy)) (by rw [List.length_append, List.length_singleton]; omega)]
      simp [hp]
    | false =>
      simp only [h4 hp]
      rw [List.length_cons] at hl
      rw [lcGo_map enc p f xs acc (fun y hy => h y (List.mem_cons_of_mem _ hy)) (by omega)]
      simp [hp]
theorem lcGo_all {α : Type} {g : FG} {fe : FE} {vs : List Nat} {s0 : S} (enc : α → PyData) (f : α → PyData) (xs : List α)
    (h : ∀ x ∈ xs, ∃ s1, g (.d (enc x)) s0 = some s1 ∧ ∃ s3, fe s1 = some (.d (f x), s3) ∧ wipeS s3 vs = s0) (hl : xs.length ≤ sizeLine) : lcGo g fYes fe vs (xs.map enc) [] s0 = some (xs.map f, s0) := by
  have := lcGo_map (g := g) (ft := fYes) (fe := fe) (vs := vs) (s0 := s0) enc (fun _ => true) f xs [] (fun x hx => let ⟨s1, h1, h2⟩ := h x hx; ⟨s1, s1, h1, rfl, fun _ => h2, fun z => by cases z⟩) (by simpa using hl)
  rw [this, List.filter_eq_self.mpr (fun _ _ => rfl), List.nil_append]
theorem ixN_nat {n i : Nat} (h : i < n) : L2.ixN n (i : Int) = some i := by
  unfold L2.ixN
  simp
  omega
theorem atI_nat {α : Type} {xs : List α} {i : Nat} {x : α} (h : xs[i]? = some x) : L2.atI xs (i : Int) = some x := by
  obtain ⟨hl, _⟩ := List.getElem?_eq_some_iff.mp h
  unfold L2.atI
  rw [ixN_nat hl]; exact h
theorem atI_map {xs : List Nat} {i : Nat} (h : i < xs.length) : L2.atI (xs.map eN) (i : Int) = some (eN (nth xs i)) := atI_nat (by simp [h, nth])
/-- a loop that folds -/
theorem forGo_fold {α β : Type} {g : FG} {fb : FS} (enc : α → PyData) (f : β → α → β) (R : β → S → Prop) :
    ∀ (xs : List α) (b : β) (s : S), R b s → (∀ x ∈ xs, ∀ b s, R b s → ∃ s1 s2, g (.d (enc x)) s = some s1 ∧ fb s1 = some (.nx s2) ∧ R (f b x) s2) → ∃ s', forGo g fb (xs.map enc) s = some (.nx s') ∧ R (xs.foldl f b) s'
  | [], b, s, h, _ => ⟨s, rfl, h⟩
  | x :: xs, b, s, h, hs => by
    obtain ⟨s1, s2, h1, h2, h3⟩ := hs x List.mem_cons_self b s h
    obtain ⟨s', h4, h5⟩ := forGo_fold enc f R xs (f b x) s2 h3 fun y hy => hs y (List.mem_cons_of_mem _ hy)
    exact ⟨s', by rw [List.map_cons, forGo]; simp only [h1, h2]; exact h4, h5⟩
/-- a loop that looks for the first x with p x, and hands r x back -/
theorem forGo_find {α : Type} {g : FG} {fb : FS} {gg : LS} (enc : α → PyData) (p : α → Bool) (r : α → AV) (R : S → Prop) :
    ∀ (xs : List α) (s : S), R s → (∀ x ∈ xs, ∀ s, R s → ∃ s1 s2, g (.d (enc x)) s = some s1 ∧ ((p x = true ∧ fb s1 = some (.rt (r x) s2) ∧ s2.g = gg) ∨ (p x = false ∧ fb s1 = some (.nx s2) ∧ R s2))) →
      (∃ x s', xs.find? p = some x ∧ forGo g fb (xs.map enc) s = some (.rt (r x) s') ∧ s'.g = gg) ∨ (∃ s', xs.find? p = none ∧ forGo g fb (xs.map enc) s = some (.nx s') ∧ R s')
  | [], s, h, _ => .inr ⟨s, rfl, rfl, h⟩
  | x :: xs, s, h, hs => by
    obtain ⟨s1, s2, h1, h2⟩ := hs x List.mem_cons_self s h
    rcases h2 with ⟨h2, h3, h4⟩ | ⟨h2, h3, h4⟩
    · exact .inl ⟨x, s2, by simp [h2], by rw [List.map_cons, forGo]; simp only [h1, h3], h4⟩
    · have e : forGo g fb ((x :: xs).map enc) s = forGo g fb (xs.map enc) s2 := by rw [List.map_cons, forGo]; simp only [h1, h3]
      rw [e, List.find?_cons_of_neg (by simp [h2])]
      exact forGo_find enc p r R xs s2 h4 fun y hy => hs y (List.mem_cons_of_mem _ hy)
theorem seq_nx {f h : FS} {s s1 : S} (e : f s = some (.nx s1)) : fSeq f h s = h s1 := by unfold fSeq; rw [e]
theorem seq_rt {f h : FS} {s s1 : S} {v : AV} (e : f s = some (.rt v s1)) : fSeq f h s = some (.rt v s1) := by unfold fSeq; rw [e]
theorem for_ev {fi : FL} {g : FG} {fb : FS} {s s1 : S} {xs : List PyData} (e : fi s = some (xs, s1)) : fFor fi g fb s = forGo g fb xs s1 := by unfold fFor; rw [e]
theorem den_rt {n : Nat} {fb : FS} {as : List AV} {l : LS} {v : AV} {s : S} (e : fb (enter n as l) = some (.rt v s)) : denF n fb as l = some (v, s.g) := by unfold denF; rw [e]
theorem p62 : (2 : Int) ^ 62 = 4611686018427387904 := by decide
theorem b62 {n : Int} (h0 : 0 ≤ n) (h : n ≤ 1000000) : -(2 ^ 62) ≤ n ∧ n < 2 ^ 62 := by
  rw [p62]
  constructor <;> omega
theorem fRng2_ev {f : FA} {s s1 : S} {i j : Int} (h : f s = some ([.d (.int i), .d (.int j)], s1)) (hb : -(2 ^ 62) ≤ i ∧ i < 2 ^ 62 ∧ -(2 ^ 62) ≤ j ∧ j < 2 ^ 62) : fRng2 f s = some (rng i (j - i).toNat, s1) := by
  unfold fRng2
  rw [h]
  exact if_pos hb
theorem fRng1_ev {f : FA} {s s1 : S} {n : Int} (h : f s = some ([.d (.int n)], s1)) (hb : -(2 ^ 62) ≤ n ∧ n < 2 ^ 62) : fRng1 f s = some (rng 0 n.toNat, s1) := by
  unfold fRng1
  rw [h]
  exact if_pos hb
theorem line_big : 1000000 ≤ sizeLine := by decide
end Pu

set_option Elab.async false
set_option linter.all false
set_option maxRecDepth 100000
set_option maxHeartbeats 4000000
namespace Tk.W
open PySem PySem.Spec PyProof.Rows L2 Tk

def top (i : Nat) : Stmt := PySem.Challenge.pw_twoknowers_k31_whole_what_is_never_said.main.body.getD i (.Pass ⟨0, 0, 0, 0⟩)

structure Ad where
  _law_start : Addr
  is_number : Addr
  are_numbers : Addr
  is_table : Addr
  are_changes : Addr
  are_parts : Addr
  are_indexes : Addr
  _law_made : Addr
  start : Addr
  acts : Addr
  changed : Addr
  words : Addr
  next_focus : Addr
  changes_of : Addr
  put : Addr
  after : Addr
  reading : Addr
  looks : Addr
  sight : Addr
  _law_wanted : Addr
  _law_next : Addr
  _law_first : Addr
  _law_table : Addr
  _law_changes : Addr
  _law_part : Addr
  _law_data : Addr
  is_stale : Addr
  is_unsaid : Addr
  run_to : Addr
  first_run : Addr
  first_stale : Addr
  first_unsaid : Addr
  _law_told : Addr
  law : Addr
  init : Addr
  code_init : Addr
  tab_init : Addr
  code_are_numbers : Addr
  tab_are_numbers : Addr

abbrev sc_ps_are_numbers : List Str := ["values", "least", "most"]

abbrev s_is_number : Stmt := top 25
abbrev N_is_number : List Str := ["value", "least", "most"]
theorem sc_is_number : FnScope N_is_number ["value", "least", "most"] (defScope s_is_number) := ⟨rfl, rfl, rfl, by decide +kernel, rfl, by decide +kernel, by decide +kernel⟩
noncomputable def b_is_number (A : Ad) : FS :=
  (fRet (fAndV (f1 (dIsi "int") (fVar 0)) (fAndV (fNotV (f1 (dIsi "bool") (fVar 0))) (fChain dLe dLe (fVar 1) (fVar 0) (fVar 2)))))
noncomputable def g_is_number (A : Ad) : Den := denF 3 (b_is_number A)

abbrev s_are_numbers : Stmt := top 26
abbrev N_are_numbers : List Str := ["values", "least", "most"]
theorem sc_are_numbers : FnScope N_are_numbers ["values", "least", "most"] (defScope s_are_numbers) := ⟨rfl, rfl, rfl, by decide +kernel, rfl, by decide +kernel, by decide +kernel⟩
noncomputable def b_are_numbers (A : Ad) : FS :=
  (fRet (fAllNum (fVar 0) 1 2))
noncomputable def g_are_numbers (A : Ad) : Den := denF 3 (b_are_numbers A)

abbrev s_is_table : Stmt := top 27
abbrev N_is_table : List Str := ["sizes", "pair", "variable", "table"]
theorem sc_is_table : FnScope N_is_table ["sizes", "pair"] (defScope s_is_table) := ⟨rfl, rfl, rfl, by decide +kernel, rfl, by decide +kernel, by decide +kernel⟩
noncomputable def b_is_table (A : Ad) : FS :=
  (fSeq (fAsg (gTp 2 (gsCons (gNm 2) (gsCons (gNm 3) gsNil))) (fVar 1))
  (fSeq (fIfS (fNot (fTst (fCall (g_is_number A) (fCons (fVar 2) (fCons (fC (.int 0)) (fCons (f2 dSub (fLenV 0) (fC (.int 1))) fNil)))))) (fRet (fC (.bool false))) fSkip)
  (fRet (fAndV (f2 dEq (fLenV 3) (fIxV 0 (fVar 2))) (fCall (g_are_numbers A) (fCons (fVar 3) (fCons (fC (.int 0)) (fCons (fC (.int 7)) fNil))))))))
noncomputable def g_is_table (A : Ad) : Den := denF 4 (b_is_table A)

abbrev s_are_changes : Stmt := top 28
abbrev N_are_changes : List Str := ["sizes", "changes", "variable", "add"]
theorem sc_are_changes : FnScope N_are_changes ["sizes", "changes"] (defScope s_are_changes) := ⟨rfl, rfl, rfl, by decide +kernel, rfl, by decide +kernel, by decide +kernel⟩
noncomputable def b_are_changes (A : Ad) : FS :=
  (fSeq (fIfS (fNot (fTst (fChain dLe dLe (fC (.int 1)) (fLenV 1) (fC (.int 3))))) (fRet (fC (.bool false))) fSkip)
  (fSeq (fFor (fIt (fVar 1)) (gTp 2 (gsCons (gNm 2) (gsCons (gNm 3) gsNil))) (fIfS (fOr (fNot (fTst (fCall (g_is_number A) (fCons (fVar 2) (fCons (fC (.int 0)) (fCons (f2 dSub (fLenV 0) (fC (.int 1))) fNil)))))) (fNot (fTst (fCall (g_is_number A) (fCons (fVar 3) (fCons (fC (.int 1)) (fCons (fC (.int 3)) fNil))))))) (fRet (fC (.bool false))) fSkip))
  (fRet (fC (.bool true)))))
noncomputable def g_are_changes (A : Ad) : Den := denF 4 (b_are_changes A)

abbrev s_are_parts : Stmt := top 29
abbrev N_are_parts : List Str := ["sizes", "parts", "look", "word", "press"]
theorem sc_are_parts : FnScope N_are_parts ["sizes", "parts"] (defScope s_are_parts) := ⟨rfl, rfl, rfl, by decide +kernel, rfl, by decide +kernel, by decide +kernel⟩
noncomputable def b_are_parts (A : Ad) : FS :=
  (fSeq (fIfS (fNot (fTst (fChain dLe dLe (fC (.int 1)) (fLenV 1) (fC (.int 4))))) (fRet (fC (.bool false))) fSkip)
  (fSeq (fFor (fIt (fVar 1)) (gTp 3 (gsCons (gNm 2) (gsCons (gNm 3) (gsCons (gNm 4) gsNil)))) (fSeq (fIfS (fOr (fNot (fTst (fCall (g_is_table A) (fCons (fVar 0) (fCons (fVar 2) fNil))))) (fNot (fTst (fCall (g_is_table A) (fCons (fVar 0) (fCons (fVar 3) fNil)))))) (fRet (fC (.bool false))) fSkip)
  (fIfS (fAnd (fTst (f2 dIsNot (fVar 4) (fC .none))) (fNot (fTst (fCall (g_are_changes A) (fCons (fVar 0) (fCons (fVar 4) fNil)))))) (fRet (fC (.bool false))) fSkip)))
  (fRet (fC (.bool true)))))
noncomputable def g_are_parts (A : Ad) : Den := denF 5 (b_are_parts A)

abbrev s_are_indexes : Stmt := top 30
abbrev N_are_indexes : List Str := ["indexes", "count", "last", "part"]
theorem sc_are_indexes : FnScope N_are_indexes ["indexes", "count"] (defScope s_are_indexes) := ⟨rfl, rfl, rfl, by decide +kernel, rfl, by decide +kernel, by decide +kernel⟩
noncomputable def b_are_indexes (A : Ad) : FS :=
  (fSeq (fSet 2 (f1 dNeg (fC (.int 1))))
  (fSeq (fFor (fIt (fVar 0)) (gNm 3) (fSeq (fIfS (fNot (fTst (fCall (g_is_number A) (fCons (fVar 3) (fCons (f2 dAdd (fVar 2) (fC (.int 1))) (fCons (f2 dSub (fVar 1) (fC (.int 1))) fNil)))))) (fRet (fC (.bool false))) fSkip)
  (fSet 2 (fVar 3))))
  (fRet (fC (.bool true)))))
noncomputable def g_are_indexes (A : Ad) : Den := denF 4 (b_are_indexes A)

abbrev s_init : Stmt := clsDef (top 31) 0
abbrev N_init : List Str := ["self", "sizes", "parts", "ticks", "live", "skips"]
theorem sc_init : FnScope N_init N_init (defScope s_init) := ⟨rfl, rfl, rfl, by decide +kernel, rfl, by decide +kernel, by decide +kernel⟩
noncomputable def chk_init (A : Ad) : FS :=
  (fSeq (fIfS (fOr (fNot (fTst (fChain dLe dLe (fC (.int 1)) (fLenV 1) (fC (.int 3))))) (fNot (fTst (fCall (g_are_numbers A) (fCons (fVar 1) (fCons (fC (.int 2)) (fCons (fC (.int 4)) fNil))))))) fNever fSkip)
  (fSeq (fIfS (fNot (fTst (fCall (g_are_parts A) (fCons (fVar 1) (fCons (fVar 2) fNil))))) fNever fSkip)
  (fSeq (fIfS (fOr (fTst (f2 dGt (fLenV 3) (fC (.int 2)))) (fNot (fTst (fAllCh (fVar 3) 1)))) fNever fSkip)
  (fSeq (fIfS (fNot (fTst (fCall (g_are_indexes A) (fCons (fVar 4) (fCons (fLenV 2) fNil))))) fNever fSkip)
  (fIfS (fNot (fTst (fCall (g_are_indexes A) (fCons (fVar 5) (fCons (fLenV 2) fNil))))) fNever fSkip)))))

open Classical in
/-- a program that the checks let through -/
noncomputable def okPr (A : Ad) : PyData → PyData → PyData → PyData → PyData → Bool := fun sz pa tk lv sk => decide (PrOk 6 (chk_init A) sz pa tk lv sk)
open Classical in
theorem prOk_ok (A : Ad) (sz pa tk lv sk : PyData) (h : okPr A sz pa tk lv sk = true) : PrOk 6 (chk_init A) sz pa tk lv sk := of_decide_eq_true (by unfold okPr at h; exact h)

abbrev s__law_made : Stmt := top 38
abbrev N__law_made : List Str := ["_law_data_here"]
theorem sc__law_made : FnScope N__law_made ["_law_data_here"] (defScope s__law_made) := ⟨rfl, rfl, rfl, by decide +kernel, rfl, by decide +kernel, by decide +kernel⟩
noncomputable def b__law_made (A : Ad) : FS :=
  (fRet (fMake (okPr A) (fCons (f2 dTget (fVar 0) (fC (.str "sizes"))) (fCons (f2 dTget (fVar 0) (fC (.str "parts"))) (fCons (f2 dTget (fVar 0) (fC (.str "ticks"))) (fCons (f2 dTget (fVar 0) (fC (.str "live"))) (fCons (f2 dTget (fVar 0) (fC (.str "skips"))) fNil)))))))
noncomputable def g__law_made (A : Ad) : Den := denF 1 (b__law_made A)

abbrev s_start : Stmt := top 5
abbrev N_start : List Str := ["program", "_"]
theorem sc_start : FnScope N_start ["program"] (defScope s_start) := ⟨rfl, rfl, rfl, by decide +kernel, rfl, by decide +kernel, by decide +kernel⟩
noncomputable def b_start (A : Ad) : FS :=
  (fRet (fTup (fCons (fCB dTuple (fCons (fOfL (fLc (fIt (f1 (dPr "sizes") (fVar 0))) (gNm 1) fYes (fC (.int 0)) [1])) fNil)) (fCons (fC (.int 0)) (fCons (fTup fNil) fNil)))))
noncomputable def g_start (A : Ad) : Den := denF 2 (b_start A)

abbrev s_acts : Stmt := top 13
abbrev N_acts : List Str := ["program", "state", "_", "focus", "queue", "found", "part", "row", "index"]
theorem sc_acts : FnScope N_acts ["program", "state"] (defScope s_acts) := ⟨rfl, rfl, rfl, by decide +kernel, rfl, by decide +kernel, by decide +kernel⟩
noncomputable def b_acts (A : Ad) : FS :=
  (fSeq (fAsg (gTp 3 (gsCons (gNm 2) (gsCons (gNm 3) (gsCons (gNm 4) gsNil)))) (fVar 1))
  (fSeq (fSetL 5 (fLc (fEnumT (fCons (f1 (dPr "parts") (fVar 0)) fNil)) (gTp 2 (gsCons (gNm 6) (gsCons (gNm 7) gsNil))) (fTst (f2 dIsNot (fIxV 7 (fC (.int 2))) (fC .none))) (fTup (fCons (fC (.str "point")) (fCons (fVar 6) fNil))) [6, 7]))
  (fSeq (fApp 5 (fTup (fCons (fC (.str "next")) fNil)))
  (fSeq (fIfS (fTst (f2 dIsNot (f2 dIx (f2 dIx (f1 (dPr "parts") (fVar 0)) (fVar 3)) (fC (.int 2))) (fC .none))) (fApp 5 (fTup (fCons (fC (.str "press")) fNil))) fSkip)
  (fSeq (fExt 5 (fOfL (fLc (fRng1 (fCons (fCB dLen (fCons (f1 (dPr "ticks") (fVar 0)) fNil)) fNil)) (gNm 8) fYes (fTup (fCons (fC (.str "tick")) (fCons (fVar 8) fNil))) [8])))
  (fSeq (fIfS (fTru (fVar 4)) (fApp 5 (fTup (fCons (fC (.str "speak")) fNil))) fSkip)
  (fRet (fVar 5))))))))
noncomputable def g_acts (A : Ad) : Den := denF 9 (b_acts A)

abbrev s_changed : Stmt := top 11
abbrev N_changed : List Str := ["program", "values", "changes", "found", "variable", "add"]
theorem sc_changed : FnScope N_changed ["program", "values", "changes"] (defScope s_changed) := ⟨rfl, rfl, rfl, by decide +kernel, rfl, by decide +kernel, by decide +kernel⟩
noncomputable def b_changed (A : Ad) : FS :=
  (fSeq (fSetL 3 (fCL dList (fCons (fVar 1) fNil)))
  (fSeq (fFor (fIt (fVar 2)) (gTp 2 (gsCons (gNm 4) (gsCons (gNm 5) gsNil))) (fSetIx 3 (fVar 4) (f2 dMod (f2 dAdd (fIxV 3 (fVar 4)) (fVar 5)) (f2 dIx (f1 (dPr "sizes") (fVar 0)) (fVar 4)))))
  (fRet (fCB dTuple (fCons (fVar 3) fNil)))))
noncomputable def g_changed (A : Ad) : Den := denF 6 (b_changed A)

abbrev s_words : Stmt := top 7
abbrev N_words : List Str := ["program", "values", "_", "variable", "table"]
theorem sc_words : FnScope N_words ["program", "values"] (defScope s_words) := ⟨rfl, rfl, rfl, by decide +kernel, rfl, by decide +kernel, by decide +kernel⟩
noncomputable def b_words (A : Ad) : FS :=
  (fRet (fCB dTuple (fCons (fOfL (fLc (fIt (f1 (dPr "parts") (fVar 0))) (gTp 3 (gsCons (gNm 2) (gsCons (gTp 2 (gsCons (gNm 3) (gsCons (gNm 4) gsNil))) (gsCons (gNm 2) gsNil)))) fYes (fIxV 4 (fIxV 1 (fVar 3))) [2, 3, 4])) fNil)))
noncomputable def g_words (A : Ad) : Den := denF 5 (b_words A)

abbrev s_next_focus : Stmt := top 12
abbrev N_next_focus : List Str := ["program", "focus", "count", "step", "part"]
theorem sc_next_focus : FnScope N_next_focus ["program", "focus"] (defScope s_next_focus) := ⟨rfl, rfl, rfl, by decide +kernel, rfl, by decide +kernel, by decide +kernel⟩
noncomputable def b_next_focus (A : Ad) : FS :=
  (fSeq (fSet 2 (fCB dLen (fCons (f1 (dPr "parts") (fVar 0)) fNil)))
  (fSeq (fFor (fRng2 (fCons (fC (.int 1)) (fCons (f2 dAdd (fVar 2) (fC (.int 1))) fNil))) (gNm 3) (fSeq (fSet 4 (f2 dMod (f2 dAdd (fVar 1) (fVar 3)) (fVar 2)))
  (fIfS (fTst (f2 dNotIn (fVar 4) (f1 (dPr "skips") (fVar 0)))) (fRet (fVar 4)) fSkip)))
  (fRet (fVar 1))))
noncomputable def g_next_focus (A : Ad) : Den := denF 5 (b_next_focus A)

abbrev s_changes_of : Stmt := top 14
abbrev N_changes_of : List Str := ["program", "focus", "act", "part"]
theorem sc_changes_of : FnScope N_changes_of ["program", "focus", "act"] (defScope s_changes_of) := ⟨rfl, rfl, rfl, by decide +kernel, rfl, by decide +kernel, by decide +kernel⟩
noncomputable def b_changes_of (A : Ad) : FS :=
  (fSeq (fIfS (fTst (f2 dEq (fIxV 2 (fC (.int 0))) (fC (.str "tick")))) (fRet (f2 dIx (f1 (dPr "ticks") (fVar 0)) (fIxV 2 (fC (.int 1))))) fSkip)
  (fSeq (fSet 3 (fIf (fTst (f2 dEq (fIxV 2 (fC (.int 0))) (fC (.str "press")))) (fVar 1) (fIxV 2 (fC (.int 1)))))
  (fRet (f2 dIx (f2 dIx (f1 (dPr "parts") (fVar 0)) (fVar 3)) (fC (.int 2))))))
noncomputable def g_changes_of (A : Ad) : Den := denF 4 (b_changes_of A)

abbrev s_put : Stmt := top 10
abbrev N_put : List Str := ["queue", "message", "found", "one"]
theorem sc_put : FnScope N_put ["queue", "message"] (defScope s_put) := ⟨rfl, rfl, rfl, by decide +kernel, rfl, by decide +kernel, by decide +kernel⟩
noncomputable def b_put (A : Ad) : FS :=
  (fSeq (fSetL 2 (fLc (fIt (fVar 0)) (gNm 3) fYes (fIf (fTst (f2 dEq (fIxV 3 (fC (.int 0))) (fIxV 1 (fC (.int 0))))) (fVar 1) (fVar 3)) [3]))
  (fSeq (fIfS (fTst (fInV true 2 (fVar 1))) (fApp 2 (fVar 1)) fSkip)
  (fRet (fCB dTuple (fCons (fVar 2) fNil)))))
noncomputable def g_put (A : Ad) : Den := denF 4 (b_put A)

abbrev s_after : Stmt := top 15
abbrev N_after : List Str := ["program", "state", "act", "values", "focus", "queue", "later", "before", "behind", "part"]
theorem sc_after : FnScope N_after ["program", "state", "act"] (defScope s_after) := ⟨rfl, rfl, rfl, by decide +kernel, rfl, by decide +kernel, by decide +kernel⟩
noncomputable def b_after (A : Ad) : FS :=
  (fSeq (fIfS (fTst (f2 dNotIn (fVar 2) (fCall (g_acts A) (fCons (fVar 0) (fCons (fVar 1) fNil))))) fNever fSkip)
  (fSeq (fAsg (gTp 3 (gsCons (gNm 3) (gsCons (gNm 4) (gsCons (gNm 5) gsNil)))) (fVar 1))
  (fSeq (fIfS (fTst (f2 dEq (fIxV 2 (fC (.int 0))) (fC (.str "speak")))) (fRet (fTup (fCons (fTup (fCons (fVar 3) (fCons (fVar 4) (fCons (fSl (fVar 5) (foSome (fC (.int 1))) foNone) fNil)))) (fCons (fIxV 5 (fC (.int 0))) fNil)))) fSkip)
  (fSeq (fIfS (fTst (f2 dEq (fIxV 2 (fC (.int 0))) (fC (.str "next")))) (fSeq (fSet 4 (fCall (g_next_focus A) (fCons (fVar 0) (fCons (fVar 4) fNil))))
  (fRet (fTup (fCons (fTup (fCons (fVar 3) (fCons (fVar 4) (fCons (fCall (g_put A) (fCons (fVar 5) (fCons (fTup (fCons (fVar 4) (fCons (f2 dIx (fCall (g_words A) (fCons (fVar 0) (fCons (fVar 3) fNil))) (fVar 4)) fNil))) fNil))) fNil)))) (fCons (fTup fNil) fNil))))) fSkip)
  (fSeq (fSet 6 (fCall (g_changed A) (fCons (fVar 0) (fCons (fVar 3) (fCons (fCall (g_changes_of A) (fCons (fVar 0) (fCons (fVar 4) (fCons (fVar 2) fNil)))) fNil)))))
  (fSeq (fSet 7 (fCall (g_words A) (fCons (fVar 0) (fCons (fVar 3) fNil))))
  (fSeq (fSet 8 (fCall (g_words A) (fCons (fVar 0) (fCons (fVar 6) fNil))))
  (fSeq (fFor (fIt (f1 (dPr "live") (fVar 0))) (gNm 9) (fIfS (fTst (f2 dNe (fIxV 8 (fVar 9)) (fIxV 7 (fVar 9)))) (fSet 5 (fCall (g_put A) (fCons (fVar 5) (fCons (fTup (fCons (fVar 9) (fCons (fIxV 8 (fVar 9)) fNil))) fNil)))) fSkip))
  (fRet (fTup (fCons (fTup (fCons (fVar 6) (fCons (fVar 4) (fCons (fVar 5) fNil)))) (fCons (fTup fNil) fNil))))))))))))
noncomputable def g_after (A : Ad) : Den := denF 10 (b_after A)

abbrev s_reading : Stmt := top 9
abbrev N_reading : List Str := ["program", "state"]
theorem sc_reading : FnScope N_reading ["program", "state"] (defScope s_reading) := ⟨rfl, rfl, rfl, by decide +kernel, rfl, by decide +kernel, by decide +kernel⟩
noncomputable def b_reading (A : Ad) : FS :=
  (fRet (f2 dAdd (fCall (g_words A) (fCons (fVar 0) (fCons (fIxV 1 (fC (.int 0))) fNil))) (fTup (fCons (fIxV 1 (fC (.int 1))) fNil))))
noncomputable def g_reading (A : Ad) : Den := denF 2 (b_reading A)

abbrev s_looks : Stmt := top 6
abbrev N_looks : List Str := ["program", "values", "variable", "table", "_"]
theorem sc_looks : FnScope N_looks ["program", "values"] (defScope s_looks) := ⟨rfl, rfl, rfl, by decide +kernel, rfl, by decide +kernel, by decide +kernel⟩
noncomputable def b_looks (A : Ad) : FS :=
  (fRet (fCB dTuple (fCons (fOfL (fLc (fIt (f1 (dPr "parts") (fVar 0))) (gTp 3 (gsCons (gTp 2 (gsCons (gNm 2) (gsCons (gNm 3) gsNil))) (gsCons (gNm 4) (gsCons (gNm 4) gsNil)))) fYes (fIxV 3 (fIxV 1 (fVar 2))) [2, 3, 4])) fNil)))
noncomputable def g_looks (A : Ad) : Den := denF 5 (b_looks A)

abbrev s_sight : Stmt := top 8
abbrev N_sight : List Str := ["program", "state"]
theorem sc_sight : FnScope N_sight ["program", "state"] (defScope s_sight) := ⟨rfl, rfl, rfl, by decide +kernel, rfl, by decide +kernel, by decide +kernel⟩
noncomputable def b_sight (A : Ad) : FS :=
  (fRet (f2 dAdd (fCall (g_looks A) (fCons (fVar 0) (fCons (fIxV 1 (fC (.int 0))) fNil))) (fTup (fCons (fIxV 1 (fC (.int 1))) fNil))))
noncomputable def g_sight (A : Ad) : Den := denF 2 (b_sight A)

abbrev s__law_wanted : Stmt := top 40
abbrev N__law_wanted : List Str := ["_law_program", "_law_kind", "_law_before", "_law_act", "_law_behind", "_law_spoken", "_law_said", "_law_old", "_law_now", "_law_part_here"]
theorem sc__law_wanted : FnScope N__law_wanted ["_law_program", "_law_kind", "_law_before", "_law_act", "_law_behind", "_law_spoken"] (defScope s__law_wanted) := ⟨rfl, rfl, rfl, by decide +kernel, rfl, by decide +kernel, by decide +kernel⟩
noncomputable def b__law_wanted (A : Ad) : FS :=
  (fSeq (fSet 6 (fCall (g_reading A) (fCons (fVar 0) (fCons (fVar 4) fNil))))
  (fSeq (fIfS (fTst (f2 dEq (fVar 1) (fC (.str "stale")))) (fRet (fAndV (f2 dNe (fVar 5) (fTup fNil)) (f2 dNe (fIxV 6 (fIxV 5 (fC (.int 0)))) (fIxV 5 (fC (.int 1)))))) fSkip)
  (fSeq (fSet 7 (fCall (g_sight A) (fCons (fVar 0) (fCons (fVar 2) fNil))))
  (fSeq (fSet 8 (fCall (g_sight A) (fCons (fVar 0) (fCons (fVar 4) fNil))))
  (fSeq (fFor (fRng1 (fCons (fCB dLen (fCons (f1 (dPr "parts") (fVar 0)) fNil)) fNil)) (gNm 9) (fIfS (fAnd (fTst (f2 dNe (fIxV 7 (fVar 9)) (fIxV 8 (fVar 9)))) (fTst (f2 dNotIn (fTup (fCons (fVar 9) (fCons (fIxV 6 (fVar 9)) fNil))) (fIxV 4 (fC (.int 2)))))) (fRet (fC (.bool true))) fSkip))
  (fRet (fC (.bool false))))))))
noncomputable def g__law_wanted (A : Ad) : Den := denF 10 (b__law_wanted A)

abbrev s__law_next : Stmt := top 33
abbrev N__law_next : List Str := ["_law_state", "_law_many", "_law_cell", "_law_drawn"]
theorem sc__law_next : FnScope N__law_next ["_law_state", "_law_many"] (defScope s__law_next) := ⟨rfl, rfl, rfl, by decide +kernel, rfl, by decide +kernel, by decide +kernel⟩
noncomputable def b__law_next (A : Ad) : FS :=
  (fSeq (fIfS (fTst (f2 dLt (fLs1 0) (fVar 1))) (fIfS (fTst (f2 dGt (fLsLen 0) (fC (.int 0)))) (fSeq (fSet 2 (fLsPop 0))
  (fSeq (fLsSet1 0 (fIf (fTst (f2 dGe (fVar 2) (fC (.int 0)))) (f2 dMul (fC (.int 2)) (fVar 2)) (f2 dSub (f2 dMul (f1 dNeg (fC (.int 2))) (fVar 2)) (fC (.int 1)))))
  (fLsSet2 0 (f2 dMod (fCB dInt (fCons (f2 dAdd (f2 dMul (fLs2 0) (fC (.int 69621))) (fLs1 0)) fNil)) (fC (.int 2147483647)))))) (fSeq (fLsSet2 0 (f2 dMod (fCB dInt (fCons (f2 dAdd (f2 dMul (fLs2 0) (fC (.int 48271))) (fC (.int 11))) fNil)) (fC (.int 2147483647))))
  (fLsSet1 0 (f2 dMod (fCB dInt (fCons (f2 dMul (fLs2 0) (fLs2 0)) fNil)) (fC (.int 1000003)))))) fSkip)
  (fSeq (fSet 3 (f2 dMod (fCB dInt (fCons (fLs1 0) fNil)) (fVar 1)))
  (fSeq (fLsSet1 0 (f2 dDiv (fLs1 0) (fVar 1)))
  (fRet (fVar 3)))))
noncomputable def g__law_next (A : Ad) : Den := denF 4 (b__law_next A)

abbrev s__law_first : Stmt := top 41
abbrev N__law_first : List Str := ["_law_program", "_law_kind", "_law_state", "_law_world", "_law_k", "_law_allowed", "_law_act", "_law_behind", "_law_spoken"]
theorem sc__law_first : FnScope N__law_first ["_law_program", "_law_kind", "_law_state"] (defScope s__law_first) := ⟨rfl, rfl, rfl, by decide +kernel, rfl, by decide +kernel, by decide +kernel⟩
noncomputable def b__law_first (A : Ad) : FS :=
  (fSeq (fSet 3 (fCall (g_start A) (fCons (fVar 0) fNil)))
  (fSeq (fFor (fRng1 (fCons (fC (.int 40)) fNil)) (gNm 4) (fSeq (fSet 5 (fCall (g_acts A) (fCons (fVar 0) (fCons (fVar 3) fNil))))
  (fSeq (fSet 6 (fIxV 5 (fCall (g__law_next A) (fCons (fVar 2) (fCons (fLenV 5) fNil)))))
  (fSeq (fAsg (gTp 2 (gsCons (gNm 7) (gsCons (gNm 8) gsNil))) (fCall (g_after A) (fCons (fVar 0) (fCons (fVar 3) (fCons (fVar 6) fNil)))))
  (fSeq (fIfS (fTst (fCall (g__law_wanted A) (fCons (fVar 0) (fCons (fVar 1) (fCons (fVar 3) (fCons (fVar 6) (fCons (fVar 7) (fCons (fVar 8) fNil)))))))) (fRet (f2 dAdd (fVar 4) (fC (.int 1)))) fSkip)
  (fSet 3 (fVar 7)))))))
  (fRet (fC (.int 0)))))
noncomputable def g__law_first (A : Ad) : Den := denF 9 (b__law_first A)

abbrev s__law_table : Stmt := top 34
abbrev N__law_table : List Str := ["_law_state", "_law_sizes", "_law_place", "_law_most", "_law_k"]
theorem sc__law_table : FnScope N__law_table ["_law_state", "_law_sizes"] (defScope s__law_table) := ⟨rfl, rfl, rfl, by decide +kernel, rfl, by decide +kernel, by decide +kernel⟩
noncomputable def b__law_table (A : Ad) : FS :=
  (fSeq (fSet 2 (fCall (g__law_next A) (fCons (fVar 0) (fCons (fLenV 1) fNil))))
  (fSeq (fSet 3 (f2 dIx (fOfL (fLst (fCons (fC (.int 2)) (fCons (fC (.int 2)) (fCons (fC (.int 3)) (fCons (fC (.int 8)) fNil)))))) (fCall (g__law_next A) (fCons (fVar 0) (fCons (fC (.int 4)) fNil)))))
  (fRet (fTup (fCons (fVar 2) (fCons (fCB dTuple (fCons (fOfL (fLc (fRng1 (fCons (fIxV 1 (fVar 2)) fNil)) (gNm 4) fYes (fCall (g__law_next A) (fCons (fVar 0) (fCons (fVar 3) fNil))) [4])) fNil)) fNil))))))
noncomputable def g__law_table (A : Ad) : Den := denF 5 (b__law_table A)

abbrev s__law_changes : Stmt := top 35
abbrev N__law_changes : List Str := ["_law_state", "_law_sizes", "_law_found", "_law_k"]
theorem sc__law_changes : FnScope N__law_changes ["_law_state", "_law_sizes"] (defScope s__law_changes) := ⟨rfl, rfl, rfl, by decide +kernel, rfl, by decide +kernel, by decide +kernel⟩
noncomputable def b__law_changes (A : Ad) : FS :=
  (fSeq (fSetL 2 (fLst fNil))
  (fSeq (fFor (fRng1 (fCons (f2 dIx (fOfL (fLst (fCons (fC (.int 1)) (fCons (fC (.int 1)) (fCons (fC (.int 1)) (fCons (fC (.int 1)) (fCons (fC (.int 2)) (fCons (fC (.int 3)) fNil)))))))) (fCall (g__law_next A) (fCons (fVar 0) (fCons (fC (.int 6)) fNil)))) fNil)) (gNm 3) (fApp 2 (fTup (fCons (fCall (g__law_next A) (fCons (fVar 0) (fCons (fLenV 1) fNil))) (fCons (f2 dAdd (fC (.int 1)) (fCall (g__law_next A) (fCons (fVar 0) (fCons (fC (.int 3)) fNil)))) fNil)))))
  (fRet (fCB dTuple (fCons (fVar 2) fNil)))))
noncomputable def g__law_changes (A : Ad) : Den := denF 4 (b__law_changes A)

abbrev s__law_part : Stmt := top 36
abbrev N__law_part : List Str := ["_law_state", "_law_sizes", "_law_look", "_law_word", "_law_press"]
theorem sc__law_part : FnScope N__law_part ["_law_state", "_law_sizes"] (defScope s__law_part) := ⟨rfl, rfl, rfl, by decide +kernel, rfl, by decide +kernel, by decide +kernel⟩
noncomputable def b__law_part (A : Ad) : FS :=
  (fSeq (fSet 2 (fCall (g__law_table A) (fCons (fVar 0) (fCons (fVar 1) fNil))))
  (fSeq (fSet 3 (fCall (g__law_table A) (fCons (fVar 0) (fCons (fVar 1) fNil))))
  (fSeq (fIfS (fTst (f2 dEq (fCall (g__law_next A) (fCons (fVar 0) (fCons (fC (.int 3)) fNil))) (fC (.int 0)))) (fSet 3 (fVar 2)) fSkip)
  (fSeq (fSet 4 (fC .none))
  (fSeq (fIfS (fTst (f2 dGt (fCall (g__law_next A) (fCons (fVar 0) (fCons (fC (.int 3)) fNil))) (fC (.int 0)))) (fSet 4 (fCall (g__law_changes A) (fCons (fVar 0) (fCons (fVar 1) fNil)))) fSkip)
  (fRet (fTup (fCons (fVar 2) (fCons (fVar 3) (fCons (fVar 4) fNil))))))))))
noncomputable def g__law_part (A : Ad) : Den := denF 5 (b__law_part A)

abbrev s__law_data : Stmt := top 37
abbrev N__law_data : List Str := ["_law_state", "_law_sizes", "_law_parts", "_law_ticks", "_law_live", "_law_skips", "_law_k"]
theorem sc__law_data : FnScope N__law_data ["_law_state"] (defScope s__law_data) := ⟨rfl, rfl, rfl, by decide +kernel, rfl, by decide +kernel, by decide +kernel⟩
noncomputable def b__law_data (A : Ad) : FS :=
  (fSeq (fSet 1 (f2 dIx (fOfL (fLst (fCons (fTup (fCons (fC (.int 2)) fNil)) (fCons (fTup (fCons (fC (.int 2)) fNil)) (fCons (fTup (fCons (fC (.int 3)) fNil)) (fCons (fTup (fCons (fC (.int 4)) fNil)) (fCons (fTup (fCons (fC (.int 2)) (fCons (fC (.int 2)) fNil))) (fCons (fTup (fCons (fC (.int 2)) (fCons (fC (.int 3)) fNil))) (fCons (fTup (fCons (fC (.int 2)) (fCons (fC (.int 2)) (fCons (fC (.int 2)) fNil)))) fNil))))))))) (fCall (g__law_next A) (fCons (fVar 0) (fCons (fC (.int 7)) fNil)))))
  (fSeq (fSet 2 (fCB dTuple (fCons (fOfL (fLc (fRng1 (fCons (f2 dIx (fOfL (fLst (fCons (fC (.int 1)) (fCons (fC (.int 1)) (fCons (fC (.int 1)) (fCons (fC (.int 2)) (fCons (fC (.int 2)) (fCons (fC (.int 2)) (fCons (fC (.int 3)) (fCons (fC (.int 4)) fNil)))))))))) (fCall (g__law_next A) (fCons (fVar 0) (fCons (fC (.int 8)) fNil)))) fNil)) (gNm 6) fYes (fCall (g__law_part A) (fCons (fVar 0) (fCons (fVar 1) fNil))) [6])) fNil)))
  (fSeq (fSet 3 (fCB dTuple (fCons (fOfL (fLc (fRng1 (fCons (f2 dIx (fOfL (fLst (fCons (fC (.int 0)) (fCons (fC (.int 0)) (fCons (fC (.int 0)) (fCons (fC (.int 1)) (fCons (fC (.int 1)) (fCons (fC (.int 2)) fNil)))))))) (fCall (g__law_next A) (fCons (fVar 0) (fCons (fC (.int 6)) fNil)))) fNil)) (gNm 6) fYes (fCall (g__law_changes A) (fCons (fVar 0) (fCons (fVar 1) fNil))) [6])) fNil)))
  (fSeq (fSet 4 (fCB dTuple (fCons (fOfL (fLc (fRng1 (fCons (fLenV 2) fNil)) (gNm 6) (fTst (f2 dGt (fCall (g__law_next A) (fCons (fVar 0) (fCons (fC (.int 3)) fNil))) (fC (.int 0)))) (fVar 6) [6])) fNil)))
  (fSeq (fSet 5 (fCB dTuple (fCons (fOfL (fLc (fRng1 (fCons (fLenV 2) fNil)) (gNm 6) (fTst (f2 dEq (fCall (g__law_next A) (fCons (fVar 0) (fCons (fC (.int 5)) fNil))) (fC (.int 0)))) (fVar 6) [6])) fNil)))
  (fRet (fDispT (ftCons "sizes" (fVar 1) (ftCons "parts" (fVar 2) (ftCons "ticks" (fVar 3) (ftCons "live" (fVar 4) (ftCons "skips" (fVar 5) ftNil))))))))))))
noncomputable def g__law_data (A : Ad) : Den := denF 7 (b__law_data A)

abbrev s_is_stale : Stmt := top 17
abbrev N_is_stale : List Str := ["program", "state", "act", "behind", "spoken"]
theorem sc_is_stale : FnScope N_is_stale ["program", "state", "act", "behind", "spoken"] (defScope s_is_stale) := ⟨rfl, rfl, rfl, by decide +kernel, rfl, by decide +kernel, by decide +kernel⟩
noncomputable def b_is_stale (A : Ad) : FS :=
  (fRet (fAndV (f2 dNe (fVar 4) (fTup fNil)) (f2 dNe (f2 dIx (fCall (g_words A) (fCons (fVar 0) (fCons (fIxV 3 (fC (.int 0))) fNil))) (fIxV 4 (fC (.int 0)))) (fIxV 4 (fC (.int 1))))))
noncomputable def g_is_stale (A : Ad) : Den := denF 5 (b_is_stale A)

abbrev s_is_unsaid : Stmt := top 18
abbrev N_is_unsaid : List Str := ["program", "state", "act", "behind", "spoken", "before", "now", "said", "part", "look"]
theorem sc_is_unsaid : FnScope N_is_unsaid ["program", "state", "act", "behind", "spoken"] (defScope s_is_unsaid) := ⟨rfl, rfl, rfl, by decide +kernel, rfl, by decide +kernel, by decide +kernel⟩
noncomputable def b_is_unsaid (A : Ad) : FS :=
  (fSeq (fSet 5 (fCall (g_looks A) (fCons (fVar 0) (fCons (fIxV 1 (fC (.int 0))) fNil))))
  (fSeq (fSet 6 (fCall (g_looks A) (fCons (fVar 0) (fCons (fIxV 3 (fC (.int 0))) fNil))))
  (fSeq (fSet 7 (fCall (g_words A) (fCons (fVar 0) (fCons (fIxV 3 (fC (.int 0))) fNil))))
  (fSeq (fFor (fEnumT (fCons (fVar 6) fNil)) (gTp 2 (gsCons (gNm 8) (gsCons (gNm 9) gsNil))) (fIfS (fAnd (fTst (f2 dNe (fVar 9) (fIxV 5 (fVar 8)))) (fTst (f2 dNotIn (fTup (fCons (fVar 8) (fCons (fIxV 7 (fVar 8)) fNil))) (fIxV 3 (fC (.int 2)))))) (fRet (fC (.bool true))) fSkip))
  (fRet (fC (.bool false)))))))
noncomputable def g_is_unsaid (A : Ad) : Den := denF 10 (b_is_unsaid A)

abbrev s_run_to : Stmt := top 19
abbrev N_run_to : List Str := ["ways", "state", "found", "act"]
theorem sc_run_to : FnScope N_run_to ["ways", "state"] (defScope s_run_to) := ⟨rfl, rfl, rfl, by decide +kernel, rfl, by decide +kernel, by decide +kernel⟩
noncomputable def b_run_to (A : Ad) : FS :=
  (fSeq (fSetL 2 (fLst fNil))
  (fSeq (fWhile (fTst (f2 dIsNot (fIxV 0 (fVar 1)) (fC .none))) (fSeq (fAsg (gTp 2 (gsCons (gNm 1) (gsCons (gNm 3) gsNil))) (fIxV 0 (fVar 1)))
  (fApp 2 (fVar 3))))
  (fRet (f1 dRev (fVar 2)))))
noncomputable def g_run_to (A : Ad) : Den := denF 4 (b_run_to A)

open Classical in
noncomputable def S_fns (A : Ad) : Addr → Option Den := fun a => if a = A.is_stale then some (g_is_stale A) else if a = A.is_unsaid then some (g_is_unsaid A) else none

abbrev s_first_run : Stmt := top 20
abbrev N_first_run : List Str := ["program", "limit", "is_wanted", "found", "ways", "index", "state", "act", "behind", "spoken"]
theorem sc_first_run : FnScope N_first_run ["program", "limit", "is_wanted"] (defScope s_first_run) := ⟨rfl, rfl, rfl, by decide +kernel, rfl, by decide +kernel, by decide +kernel⟩
noncomputable def b_first_run (A : Ad) : FS :=
  (fSeq (fSetL 3 (fLst (fCons (fCall (g_start A) (fCons (fVar 0) fNil)) fNil)))
  (fSeq (fSetD 4 (fDisp1 (fIxV 3 (fC (.int 0))) (fC .none)))
  (fSeq (fSet 5 (fC (.int 0)))
  (fSeq (fWhile (fTst (f2 dLt (fVar 5) (fLenV 3))) (fSeq (fSet 6 (fIxV 3 (fVar 5)))
  (fSeq (fFor (fIt (fCall (g_acts A) (fCons (fVar 0) (fCons (fVar 6) fNil)))) (gNm 7) (fSeq (fAsg (gTp 2 (gsCons (gNm 8) (gsCons (gNm 9) gsNil))) (fCall (g_after A) (fCons (fVar 0) (fCons (fVar 6) (fCons (fVar 7) fNil)))))
  (fSeq (fIfS (fTst (fCallV 2 (S_fns A) (fCons (fVar 0) (fCons (fVar 6) (fCons (fVar 7) (fCons (fVar 8) (fCons (fVar 9) fNil))))))) (fRet (fTup (fCons (fC (.str "run")) (fCons (f2 dAdd (fCall (g_run_to A) (fCons (fVar 4) (fCons (fVar 6) fNil))) (fOfL (fLst (fCons (fVar 7) fNil)))) fNil)))) fSkip)
  (fIfS (fTst (fInV true 4 (fVar 8))) (fSeq (fIfS (fTst (f2 dEq (fLenV 3) (fVar 1))) (fRet (fTup (fCons (fC (.str "many")) fNil))) fSkip)
  (fSeq (fSetIx 4 (fVar 8) (fTup (fCons (fVar 6) (fCons (fVar 7) fNil))))
  (fApp 3 (fVar 8)))) fSkip))))
  (fAug 5 (fC (.int 1))))))
  (fRet (fTup (fCons (fC (.str "never")) (fCons (fLenV 3) fNil))))))))
noncomputable def g_first_run (A : Ad) : Den := denF 10 (b_first_run A)

abbrev s_first_stale : Stmt := top 21
abbrev N_first_stale : List Str := ["program", "limit"]
theorem sc_first_stale : FnScope N_first_stale ["program", "limit"] (defScope s_first_stale) := ⟨rfl, rfl, rfl, by decide +kernel, rfl, by decide +kernel, by decide +kernel⟩
noncomputable def b_first_stale (A : Ad) : FS :=
  (fRet (fCall (g_first_run A) (fCons (fVar 0) (fCons (fVar 1) (fCons (fFn A.is_stale) fNil)))))
noncomputable def g_first_stale (A : Ad) : Den := denF 2 (b_first_stale A)

abbrev s_first_unsaid : Stmt := top 22
abbrev N_first_unsaid : List Str := ["program", "limit"]
theorem sc_first_unsaid : FnScope N_first_unsaid ["program", "limit"] (defScope s_first_unsaid) := ⟨rfl, rfl, rfl, by decide +kernel, rfl, by decide +kernel, by decide +kernel⟩
noncomputable def b_first_unsaid (A : Ad) : FS :=
  (fRet (fCall (g_first_run A) (fCons (fVar 0) (fCons (fVar 1) (fCons (fFn A.is_unsaid) fNil)))))
noncomputable def g_first_unsaid (A : Ad) : Den := denF 2 (b_first_unsaid A)

abbrev s__law_told : Stmt := top 42
abbrev N__law_told : List Str := ["_law_program", "_law_kind", "_law_run", "_law_world", "_law_k", "_law_behind", "_law_spoken"]
theorem sc__law_told : FnScope N__law_told ["_law_program", "_law_kind", "_law_run"] (defScope s__law_told) := ⟨rfl, rfl, rfl, by decide +kernel, rfl, by decide +kernel, by decide +kernel⟩
noncomputable def b__law_told (A : Ad) : FS :=
  (fSeq (fSet 3 (fCall (g_start A) (fCons (fVar 0) fNil)))
  (fSeq (fFor (fRng1 (fCons (fLenV 2) fNil)) (gNm 4) (fSeq (fIfS (fTst (f2 dNotIn (fIxV 2 (fVar 4)) (fCall (g_acts A) (fCons (fVar 0) (fCons (fVar 3) fNil))))) (fRet (fC (.bool false))) fSkip)
  (fSeq (fAsg (gTp 2 (gsCons (gNm 5) (gsCons (gNm 6) gsNil))) (fCall (g_after A) (fCons (fVar 0) (fCons (fVar 3) (fCons (fIxV 2 (fVar 4)) fNil)))))
  (fSeq (fIfS (fTst (f2 dNe (fCall (g__law_wanted A) (fCons (fVar 0) (fCons (fVar 1) (fCons (fVar 3) (fCons (fIxV 2 (fVar 4)) (fCons (fVar 5) (fCons (fVar 6) fNil))))))) (f2 dEq (fVar 4) (f2 dSub (fLenV 2) (fC (.int 1)))))) (fRet (fC (.bool false))) fSkip)
  (fSet 3 (fVar 5))))))
  (fRet (f2 dGt (fLenV 2) (fC (.int 0))))))
noncomputable def g__law_told (A : Ad) : Den := denF 7 (b__law_told A)

abbrev s__law_start : Stmt := top 39
abbrev N__law_start : List Str := ["_law_script"]
theorem sc__law_start : FnScope N__law_start ["_law_script"] (defScope s__law_start) := ⟨rfl, rfl, rfl, by decide +kernel, rfl, by decide +kernel, by decide +kernel⟩

abbrev s_law : Stmt := top 43
abbrev N_law : List Str := ["_law_script", "_law_state", "_law_program", "_law_limit", "_law_kind", "_law_told_here", "_law_count"]
theorem sc_law : FnScope N_law ["_law_script"] (defScope s_law) := ⟨rfl, rfl, rfl, by decide +kernel, rfl, by decide +kernel, by decide +kernel⟩

noncomputable def b_law (A : Ad) : FS :=
  (fSeq (fSet 2 (fCall (g__law_made A) (fCons (fCall (g__law_data A) (fCons (fVar 1) fNil)) fNil)))
  (fSeq (fSet 3 (f2 dAdd (fC (.int 1)) (fCall (g__law_next A) (fCons (fVar 1) (fCons (fC (.int 60)) fNil)))))
  (fSeq (fSet 4 (f2 dIx (fOfL (fLst (fCons (fC (.str "stale")) (fCons (fC (.str "unsaid")) fNil)))) (fCall (g__law_next A) (fCons (fVar 1) (fCons (fC (.int 2)) fNil)))))
  (fSeq (fSet 5 (fIf (fTst (f2 dEq (fVar 4) (fC (.str "stale")))) (fCall (g_first_stale A) (fCons (fVar 2) (fCons (fVar 3) fNil))) (fCall (g_first_unsaid A) (fCons (fVar 2) (fCons (fVar 3) fNil)))))
  (fSeq (fSet 6 (fCall (g__law_first A) (fCons (fVar 2) (fCons (fVar 4) (fCons (fVar 1) fNil)))))
  (fSeq (fIfS (fTst (f2 dEq (fIxV 5 (fC (.int 0))) (fC (.str "never")))) (fRet (fAndV (f2 dEq (fVar 6) (fC (.int 0))) (fChain dLe dLe (fC (.int 1)) (fIxV 5 (fC (.int 1))) (fVar 3)))) fSkip)
  (fSeq (fIfS (fTst (f2 dEq (fIxV 5 (fC (.int 0))) (fC (.str "run")))) (fRet (fAndV (fCall (g__law_told A) (fCons (fVar 2) (fCons (fVar 4) (fCons (fIxV 5 (fC (.int 1))) fNil)))) (fOrV (f2 dEq (fVar 6) (fC (.int 0))) (f2 dGe (fVar 6) (fCB dLen (fCons (fIxV 5 (fC (.int 1))) fNil)))))) fSkip)
  (fRet (f2 dEq (fVar 5) (fTup (fCons (fC (.str "many")) fNil)))))))))))

/-- where the text's defs, class, built-ins stand -/
structure Tx (K : PySem.W.Frag) (mg : Str → Option Value) (base : Heap) (C : Cc) (A : Ad) : Prop where
  _law_start : Dn K mg "_law_start" s__law_start A._law_start
  is_number : Dn K mg "is_number" s_is_number A.is_number
  are_numbers : Dn K mg "are_numbers" s_are_numbers A.are_numbers
  is_table : Dn K mg "is_table" s_is_table A.is_table
  are_changes : Dn K mg "are_changes" s_are_changes A.are_changes
  are_parts : Dn K mg "are_parts" s_are_parts A.are_parts
  are_indexes : Dn K mg "are_indexes" s_are_indexes A.are_indexes
  _law_made : Dn K mg "_law_made" s__law_made A._law_made
  start : Dn K mg "start" s_start A.start
  acts : Dn K mg "acts" s_acts A.acts
  changed : Dn K mg "changed" s_changed A.changed
  words : Dn K mg "words" s_words A.words
  next_focus : Dn K mg "next_focus" s_next_focus A.next_focus
  changes_of : Dn K mg "changes_of" s_changes_of A.changes_of
  put : Dn K mg "put" s_put A.put
  after : Dn K mg "after" s_after A.after
  reading : Dn K mg "reading" s_reading A.reading
  looks : Dn K mg "looks" s_looks A.looks
  sight : Dn K mg "sight" s_sight A.sight
  _law_wanted : Dn K mg "_law_wanted" s__law_wanted A._law_wanted
  _law_next : Dn K mg "_law_next" s__law_next A._law_next
  _law_first : Dn K mg "_law_first" s__law_first A._law_first
  _law_table : Dn K mg "_law_table" s__law_table A._law_table
  _law_changes : Dn K mg "_law_changes" s__law_changes A._law_changes
  _law_part : Dn K mg "_law_part" s__law_part A._law_part
  _law_data : Dn K mg "_law_data" s__law_data A._law_data
  is_stale : Dn K mg "is_stale" s_is_stale A.is_stale
  is_unsaid : Dn K mg "is_unsaid" s_is_unsaid A.is_unsaid
  run_to : Dn K mg "run_to" s_run_to A.run_to
  first_run : Dn K mg "first_run" s_first_run A.first_run
  first_stale : Dn K mg "first_stale" s_first_stale A.first_stale
  first_unsaid : Dn K mg "first_unsaid" s_first_unsaid A.first_unsaid
  _law_told : Dn K mg "_law_told" s__law_told A._law_told
  law : Dn K mg "law" s_law A.law
  code_are_numbers : ∃ fd, FunC K "are_numbers" "are_numbers" s_are_numbers A.are_numbers fd A.code_are_numbers ∧ PySem.W.keepIn K (.ref A.are_numbers) = true ∧ Binds K fd (sc_ps_are_numbers) []
  tabB_are_numbers : GxR.TabB base mg A.code_are_numbers A.tab_are_numbers
  ptab_are_numbers : A.tab_are_numbers ∈ C.tb
  z_all : mg "all" = none
  z_bool : mg "bool" = none
  z_enumerate : mg "enumerate" = none
  z_int : mg "int" = none
  z_isinstance : mg "isinstance" = none
  z_len : mg "len" = none
  z_list : mg "list" = none
  z_range : mg "range" = none
  z_tuple : mg "tuple" = none
  c_MOST_NUMBER : Cst K mg "MOST_NUMBER" (.int 7)
  cls : Cls K C.cl
  n_sizes : NoAttr K C.cl "sizes"
  n_parts : NoAttr K C.cl "parts"
  n_ticks : NoAttr K C.cl "ticks"
  n_live : NoAttr K C.cl "live"
  n_skips : NoAttr K C.cl "skips"
  mgP : mg "Program" = some (.ref C.cl)
  tabB_init : GxR.TabB base mg A.code_init A.tab_init
  ptab_init : A.tab_init ∈ C.tb
  init : ∃ (fd : FuncData) (g : List Value → List Value → List Value), FunC K "__init__" "Program.__init__" s_init A.init fd A.code_init ∧ Mk K C.cl A.init ∧ KBn K fd N_init 1 ["sizes", "parts", "ticks", "live", "skips"] g fun vs zs => vs ++ zs

section
variable {P : Program} {w : World} {K : PySem.W.Frag} {mg : Str → Option Value} {base : Heap} {C : Cc} {A : Ad}

theorem isNum (T : Tx K mg base C A) : ∃ fd, IsNum K mg A.is_number fd s_is_number := by
  obtain ⟨fd, F⟩ := T.is_number.fn
  exact ⟨fd, { fn := F, tx := ⟨_, _, _, _, _, _, _, _, _, _, _, _, _, _, _, rfl⟩, sc := sc_is_number, nc := (by decide +kernel), l1 := (by kernel_rfl), l2 := (by kernel_rfl), l3 := (by kernel_rfl), g1 := (by kernel_rfl), g2 := (by kernel_rfl), g3 := (by kernel_rfl), b := (F.binds fun _ _ _ _ _ _ us hl => match us, hl with | [_, _, _], _ => rfl), m1 := T.z_isinstance, m2 := T.z_int, m3 := T.z_bool }⟩
theorem areCh (T : Tx K mg base C A) : ∃ fd, AreCh K mg A.are_changes fd s_are_changes := by
  obtain ⟨fd, F⟩ := T.are_changes.fn
  obtain ⟨gd, hg⟩ := isNum T
  exact ⟨fd, { fn := F, tx := ⟨_, _, _, _, _, _, _, _, _, _, _, _, _, _, _, _, _, _, _, _, _, _, _, _, _, _, _, _, _, _, _, _, _, _, _, _, _, _, rfl, rfl⟩, sc := sc_are_changes, nc := (by decide +kernel), l1 := (by kernel_rfl), l2 := (by kernel_rfl), l3 := (by kernel_rfl), l4 := (by kernel_rfl), g1 := (by kernel_rfl), g2 := (by kernel_rfl), b := (F.binds fun _ _ _ _ _ _ us hl => match us, hl with | [_, _], _ => rfl), m1 := T.z_len, num := ⟨_, gd, _, hg, T.is_number.mgf⟩ }⟩

theorem ok_is_number (T : Tx K mg base C A) : OkD P w K mg base C 1 "is_number" A.is_number 3 (g_is_number A) :=
  okD_of T.is_number sc_is_number (by decide) (fun _ _ _ _ _ _ us hl => match us, hl with | [_, _, _], _ => rfl) fun cdv Ar outer s H E hr =>
    (jss_one (js_ret (je_and (je_isi (T := "int") (je_var 0) rfl T.z_isinstance rfl T.z_int boot_int) (je_and (je_not (je_isi (T := "bool") (je_var 0) rfl T.z_isinstance rfl T.z_bool boot_bool)) (je_one (je_chain (jo_le) (jo_le) (je_var 1) (je_var 0) (je_var 2)))))))

theorem ok_are_numbers (T : Tx K mg base C A) : OkD P w K mg base C 3 "are_numbers" A.are_numbers 3 (g_are_numbers A) :=
  okD_ofC T.code_are_numbers T.are_numbers.mgf sc_are_numbers (by decide) fun Ar outer s H E hr =>
    (jss_one (js_ret (je_allNum (hr.mono (by decide)) rfl T.z_all boot_all T.tabB_are_numbers rfl T.ptab_are_numbers (genS_by (by kernel_rfl)) (isNum T).choose_spec T.is_number.mgf (by kernel_rfl) (by kernel_rfl) (by kernel_rfl) (il := 1) rfl (by kernel_rfl) (im := 2) rfl (by kernel_rfl) (je_var 0))))

theorem ok_is_table (T : Tx K mg base C A) : OkD P w K mg base C 4 "is_table" A.is_table 2 (g_is_table A) :=
  okD_of T.is_table sc_is_table (by decide) (fun _ _ _ _ _ _ us hl => match us, hl with | [_, _], _ => rfl) fun cdv Ar outer s H E hr =>
    (jss_cons (js_asg (je_var 1) (jg_tup rfl (jgs_cons (jg_name 2 sc_is_table.nd rfl (by first | exact Or.inl rfl | exact Or.inr rfl)) (jgs_cons (jg_name 3 sc_is_table.nd rfl (by first | exact Or.inl rfl | exact Or.inr rfl)) jgs_nil))))
    (jss_cons (js_if (jt_not (jt_val (je_callD (ok_is_number T) hr (ja_cons (je_var 2) (ja_cons je_int (ja_cons (je_op jo_sub (je_lenV (pvT 0) rfl T.z_len) je_int) ja_nil)))))) (jss_one (js_ret je_bl)) jss_nil)
    (jss_one (js_ret (je_and (je_cmp (jo_eq (u64 hr)) (je_lenV (pvT 3) rfl T.z_len) (je_ixV (u9 hr) (pvT 0) (je_var 2))) (je_one (je_callD (ok_are_numbers T) hr (ja_cons (je_var 3) (ja_cons je_int (ja_cons (T.c_MOST_NUMBER.je rfl) ja_nil))))))))))

theorem ok_are_changes (T : Tx K mg base C A) : OkD P w K mg base C 2 "are_changes" A.are_changes 2 (g_are_changes A) :=
  okD_of T.are_changes sc_are_changes (by decide) (fun _ _ _ _ _ _ us hl => match us, hl with | [_, _], _ => rfl) fun cdv Ar outer s H E hr =>
    (jss_cons (js_if (jt_not (jt_chain (jo_le) (jo_le) je_int (je_lenV (pvT 1) rfl T.z_len) je_int)) (jss_one (js_ret je_bl)) jss_nil)
    (jss_cons (js_for PassesOwn.never rfl (ji_seq (je_var 1)) (jg_tup rfl (jgs_cons (jg_name 2 sc_are_changes.nd rfl (by first | exact Or.inl rfl | exact Or.inr rfl)) (jgs_cons (jg_name 3 sc_are_changes.nd rfl (by first | exact Or.inl rfl | exact Or.inr rfl)) jgs_nil))) (jss_one (js_if (jt_w (jw_or (jt_not (jt_val (je_callD (ok_is_number T) hr (ja_cons (je_var 2) (ja_cons je_int (ja_cons (je_op jo_sub (je_lenV (pvT 0) rfl T.z_len) je_int) ja_nil)))))) (jw_or1 (jt_not (jt_val (je_callD (ok_is_number T) hr (ja_cons (je_var 3) (ja_cons je_int (ja_cons je_int ja_nil))))))))) (jss_one (js_ret je_bl)) jss_nil)))
    (jss_one (js_ret je_bl))))

theorem ok_are_parts (T : Tx K mg base C A) : OkD P w K mg base C 5 "are_parts" A.are_parts 2 (g_are_parts A) :=
  okD_of T.are_parts sc_are_parts (by decide) (fun _ _ _ _ _ _ us hl => match us, hl with | [_, _], _ => rfl) fun cdv Ar outer s H E hr =>
    (jss_cons (js_if (jt_not (jt_chain (jo_le) (jo_le) je_int (je_lenV (pvT 1) rfl T.z_len) je_int)) (jss_one (js_ret je_bl)) jss_nil)
    (jss_cons (js_for PassesOwn.never rfl (ji_seq (je_var 1)) (jg_tup rfl (jgs_cons (jg_name 2 sc_are_parts.nd rfl (by first | exact Or.inl rfl | exact Or.inr rfl)) (jgs_cons (jg_name 3 sc_are_parts.nd rfl (by first | exact Or.inl rfl | exact Or.inr rfl)) (jgs_cons (jg_name 4 sc_are_parts.nd rfl (by first | exact Or.inl rfl | exact Or.inr rfl)) jgs_nil)))) (jss_cons (js_if (jt_w (jw_or (jt_not (jt_val (je_callD (ok_is_table T) hr (ja_cons (je_var 0) (ja_cons (je_var 2) ja_nil))))) (jw_or1 (jt_not (jt_val (je_callD (ok_is_table T) hr (ja_cons (je_var 0) (ja_cons (je_var 3) ja_nil)))))))) (jss_one (js_ret je_bl)) jss_nil)
    (jss_one (js_if (jt_w (jw_and (jt_cmp (jo_isNot) (je_var 4) je_non) (jw_and1 (jt_not (jt_val (je_callD (ok_are_changes T) hr (ja_cons (je_var 0) (ja_cons (je_var 4) ja_nil)))))))) (jss_one (js_ret je_bl)) jss_nil))))
    (jss_one (js_ret je_bl))))

theorem ok_are_indexes (T : Tx K mg base C A) : OkD P w K mg base C 2 "are_indexes" A.are_indexes 2 (g_are_indexes A) :=
  okD_of T.are_indexes sc_are_indexes (by decide) (fun _ _ _ _ _ _ us hl => match us, hl with | [_, _], _ => rfl) fun cdv Ar outer s H E hr =>
    (jss_cons (js_set 2 sc_are_indexes.nd rfl (by first | exact Or.inl rfl | exact Or.inr rfl) (je_neg je_int))
    (jss_cons (js_for PassesOwn.never rfl (ji_seq (je_var 0)) (jg_name 3 sc_are_indexes.nd rfl (by first | exact Or.inl rfl | exact Or.inr rfl)) (jss_cons (js_if (jt_not (jt_val (je_callD (ok_is_number T) hr (ja_cons (je_var 3) (ja_cons (je_op jo_add (je_var 2) je_int) (ja_cons (je_op jo_sub (je_var 1) je_int) ja_nil)))))) (jss_one (js_ret je_bl)) jss_nil)
    (jss_one (js_set 2 sc_are_indexes.nd rfl (by first | exact Or.inl rfl | exact Or.inr rfl) (je_var 3)))))
    (jss_one (js_ret je_bl))))

theorem ok_init (T : Tx K mg base C A) : OkI P w K mg base C 6 6 (chk_init A) := by
  obtain ⟨fd, g, F, M, kb⟩ := T.init
  refine ⟨⟨A.init, fd, N_init, g, M, ?_, kb⟩, T.mgP⟩
  refine F.ok sc_init (fun vs H Q E h => h.1) fun Ar outer s H vs Q E hr h => ⟨_,
    (pss_cons (js_if (jt_w (jw_or (jt_not (jt_chain (jo_le) (jo_le) je_int (je_lenV (pvT 1) rfl T.z_len) je_int)) (jw_or1 (jt_not (jt_val (je_callD (ok_are_numbers T) hr (ja_cons (je_var 1) (ja_cons je_int (ja_cons je_int ja_nil))))))))) (jss_one js_never) jss_nil)
      (pss_cons (js_if (jt_not (jt_val (je_callD (ok_are_parts T) hr (ja_cons (je_var 1) (ja_cons (je_var 2) ja_nil))))) (jss_one js_never) jss_nil)
      (pss_cons (js_if (jt_w (jw_or (jt_cmp (jo_gt) (je_lenV (pvT 3) rfl T.z_len) je_int) (jw_or1 (jt_not (jt_val (je_allCh (hr.mono (by decide)) rfl T.z_all boot_all T.tabB_init rfl T.ptab_init (genS_by (by kernel_rfl)) (areCh T).choose_spec T.are_changes.mgf (by kernel_rfl) (by kernel_rfl) (il := 1) rfl (by kernel_rfl) (je_var 3))))))) (jss_one js_never) jss_nil)
      (pss_cons (js_if (jt_not (jt_val (je_callD (ok_are_indexes T) hr (ja_cons (je_var 4) (ja_cons (je_lenV (pvT 2) rfl T.z_len) ja_nil))))) (jss_one js_never) jss_nil)
      (pss_cons (js_if (jt_not (jt_val (je_callD (ok_are_indexes T) hr (ja_cons (je_var 5) (ja_cons (je_lenV (pvT 2) rfl T.z_len) ja_nil))))) (jss_one js_never) jss_nil)
      (pss_cons (ps_fld (pvT 0) (pvT 1) (by rfl)) (pss_cons (ps_fld (pvT 0) (pvT 2) (by rfl)) (pss_cons (ps_fld (pvT 0) (pvT 3) (by rfl)) (pss_cons (ps_fld (pvT 0) (pvT 4) (by rfl)) (pss_one (ps_fld (pvT 0) (pvT 5) (by rfl)))))))))))), ?_⟩
  exact init_out (X := (cxOf CX0 P w K mg base N_init "Program.__init__" (defScope s_init) A.init (.ref A.code_init) Ar outer s H E).nox) (C := C) (N := N_init) (ps := N_init) (by decide) T.cls T.n_sizes T.n_parts T.n_ticks T.n_live T.n_skips h

theorem ok__law_made (T : Tx K mg base C A) : OkD P w K mg base C 8 "_law_made" A._law_made 1 (g__law_made A) :=
  okD_of T._law_made sc__law_made (by decide) (fun _ _ _ _ _ _ us hl => match us, hl with | [_], _ => rfl) fun cdv Ar outer s H E hr =>
    (jss_one (js_ret (je_makeD (ok_init T) (prOk_ok A) hr (jk_cons (je_tget (u1 hr) (je_var 0) je_str) (jk_cons (je_tget (u1 hr) (je_var 0) je_str) (jk_cons (je_tget (u1 hr) (je_var 0) je_str) (jk_cons (je_tget (u1 hr) (je_var 0) je_str) (jk_cons (je_tget (u1 hr) (je_var 0) je_str) jk_nil))))))))

theorem ok_start (T : Tx K mg base C A) : OkD P w K mg base C 1 "start" A.start 1 (g_start A) :=
  okD_of T.start sc_start (by decide) (fun _ _ _ _ _ _ us hl => match us, hl with | [_], _ => rfl) fun cdv Ar outer s H E hr =>
    (jss_one (js_ret (je_tup (ja_cons (je_callTy jc_tuple rfl T.z_tuple boot_tuple (ja_cons (je_ofL (jl_lc rfl sc_start.nd (ji_seq (je_pr (je_var 0) T.cls T.n_sizes)) (own := [("_", 1)]) (blkOk_by (by kernel_rfl)) (fun _ _ _ _ _ => (jg_name 1 sc_start.nd rfl (by first | exact Or.inl rfl | exact Or.inr rfl))) (fun _ _ _ _ _ => jts_nil) (fun _ _ _ _ _ => je_int))) ja_nil)) (ja_cons je_int (ja_cons (je_tup ja_nil) ja_nil))))))

theorem ok_acts (T : Tx K mg base C A) : OkD P w K mg base C 1 "acts" A.acts 2 (g_acts A) :=
  okD_of T.acts sc_acts (by decide) (fun _ _ _ _ _ _ us hl => match us, hl with | [_, _], _ => rfl) fun cdv Ar outer s H E hr =>
    (jss_cons (js_asg (je_var 1) (jg_tup rfl (jgs_cons (jg_name 2 sc_acts.nd rfl (by first | exact Or.inl rfl | exact Or.inr rfl)) (jgs_cons (jg_name 3 sc_acts.nd rfl (by first | exact Or.inl rfl | exact Or.inr rfl)) (jgs_cons (jg_name 4 sc_acts.nd rfl (by first | exact Or.inl rfl | exact Or.inr rfl)) jgs_nil)))))
    (jss_cons (js_setLc 5 rfl sc_acts.nd rfl rfl rfl (ji_enumT rfl T.z_enumerate (ja_cons (je_pr (je_var 0) T.cls T.n_parts) ja_nil)) (own := [("part", 6), ("row", 7)]) (blkOk_by (by kernel_rfl)) (fun _ _ _ _ _ => (jg_tup rfl (jgs_cons (jg_name 6 sc_acts.nd rfl (by first | exact Or.inl rfl | exact Or.inr rfl)) (jgs_cons (jg_name 7 sc_acts.nd rfl (by first | exact Or.inl rfl | exact Or.inr rfl)) jgs_nil)))) (fun _ _ _ _ _ => (jts_one (jt_cmp (jo_isNot) (je_ixV (u9 hr) (pvT 7) je_int) je_non))) (fun _ _ _ _ _ => (je_tup (ja_cons je_str (ja_cons (je_var 6) ja_nil)))))
    (jss_cons (js_app (pvT 5) (je_tup (ja_cons je_str ja_nil)))
    (jss_cons (js_if (jt_cmp (jo_isNot) (je_ix (je_ix (je_pr (je_var 0) T.cls T.n_parts) (je_var 3)) je_int) je_non) (jss_one (js_app (pvT 5) (je_tup (ja_cons je_str ja_nil)))) jss_nil)
    (jss_cons (js_ext (pvT 5) (je_ofL (jl_lc rfl sc_acts.nd (ji_range1 rfl T.z_range (ja_cons (je_callB jc_len rfl T.z_len boot_len (ja_cons (je_pr (je_var 0) T.cls T.n_ticks) ja_nil)) ja_nil)) (own := [("index", 8)]) (blkOk_by (by kernel_rfl)) (fun _ _ _ _ _ => (jg_name 8 sc_acts.nd rfl (by first | exact Or.inl rfl | exact Or.inr rfl))) (fun _ _ _ _ _ => jts_nil) (fun _ _ _ _ _ => (je_tup (ja_cons je_str (ja_cons (je_var 8) ja_nil)))))))
    (jss_cons (js_if (jt_tru (je_var 4)) (jss_one (js_app (pvT 5) (je_tup (ja_cons je_str ja_nil)))) jss_nil)
    (jss_one (js_ret (je_var 5)))))))))

theorem ok_changed (T : Tx K mg base C A) : OkD P w K mg base C 1 "changed" A.changed 3 (g_changed A) :=
  okD_of T.changed sc_changed (by decide) (fun _ _ _ _ _ _ us hl => match us, hl with | [_, _, _], _ => rfl) fun cdv Ar outer s H E hr =>
    (jss_cons (js_setL 3 sc_changed.nd rfl (by first | exact Or.inl rfl | exact Or.inr rfl) (jl_callTy jc_list rfl T.z_list boot_list (ja_cons (je_var 1) ja_nil)))
    (jss_cons (js_for PassesOwn.never rfl (ji_seq (je_var 2)) (jg_tup rfl (jgs_cons (jg_name 4 sc_changed.nd rfl (by first | exact Or.inl rfl | exact Or.inr rfl)) (jgs_cons (jg_name 5 sc_changed.nd rfl (by first | exact Or.inl rfl | exact Or.inr rfl)) jgs_nil))) (jss_one (js_setIx (u9 hr) (pvT 3) (je_var 4) (je_op jo_mod (je_op jo_add (je_ixV (u9 hr) (pvT 3) (je_var 4)) (je_var 5)) (je_ix (je_pr (je_var 0) T.cls T.n_sizes) (je_var 4))))))
    (jss_one (js_ret (je_callTy jc_tuple rfl T.z_tuple boot_tuple (ja_cons (je_var 3) ja_nil))))))

theorem ok_words (T : Tx K mg base C A) : OkD P w K mg base C 1 "words" A.words 2 (g_words A) :=
  okD_of T.words sc_words (by decide) (fun _ _ _ _ _ _ us hl => match us, hl with | [_, _], _ => rfl) fun cdv Ar outer s H E hr =>
    (jss_one (js_ret (je_callTy jc_tuple rfl T.z_tuple boot_tuple (ja_cons (je_ofL (jl_lc rfl sc_words.nd (ji_seq (je_pr (je_var 0) T.cls T.n_parts)) (own := [("_", 2), ("variable", 3), ("table", 4)]) (blkOk_by (by kernel_rfl)) (fun _ _ _ _ _ => (jg_tup rfl (jgs_cons (jg_name 2 sc_words.nd rfl (by first | exact Or.inl rfl | exact Or.inr rfl)) (jgs_cons (jg_tup rfl (jgs_cons (jg_name 3 sc_words.nd rfl (by first | exact Or.inl rfl | exact Or.inr rfl)) (jgs_cons (jg_name 4 sc_words.nd rfl (by first | exact Or.inl rfl | exact Or.inr rfl)) jgs_nil))) (jgs_cons (jg_name 2 sc_words.nd rfl (by first | exact Or.inl rfl | exact Or.inr rfl)) jgs_nil))))) (fun _ _ _ _ _ => jts_nil) (fun _ _ _ _ _ => (je_ixV (u9 hr) (pvT 4) (je_ixV (u9 hr) (pvT 1) (je_var 3)))))) ja_nil))))

theorem ok_next_focus (T : Tx K mg base C A) : OkD P w K mg base C 1 "next_focus" A.next_focus 2 (g_next_focus A) :=
  okD_of T.next_focus sc_next_focus (by decide) (fun _ _ _ _ _ _ us hl => match us, hl with | [_, _], _ => rfl) fun cdv Ar outer s H E hr =>
    (jss_cons (js_set 2 sc_next_focus.nd rfl (by first | exact Or.inl rfl | exact Or.inr rfl) (je_callB jc_len rfl T.z_len boot_len (ja_cons (je_pr (je_var 0) T.cls T.n_parts) ja_nil)))
    (jss_cons (js_for PassesOwn.never rfl (ji_range2 rfl T.z_range (ja_cons je_int (ja_cons (je_op jo_add (je_var 2) je_int) ja_nil))) (jg_name 3 sc_next_focus.nd rfl (by first | exact Or.inl rfl | exact Or.inr rfl)) (jss_cons (js_set 4 sc_next_focus.nd rfl (by first | exact Or.inl rfl | exact Or.inr rfl) (je_op jo_mod (je_op jo_add (je_var 1) (je_var 3)) (je_var 2)))
    (jss_one (js_if (jt_cmp (jo_notIn (u65 hr)) (je_var 4) (je_pr (je_var 0) T.cls T.n_skips)) (jss_one (js_ret (je_var 4))) jss_nil))))
    (jss_one (js_ret (je_var 1)))))

theorem ok_changes_of (T : Tx K mg base C A) : OkD P w K mg base C 1 "changes_of" A.changes_of 3 (g_changes_of A) :=
  okD_of T.changes_of sc_changes_of (by decide) (fun _ _ _ _ _ _ us hl => match us, hl with | [_, _, _], _ => rfl) fun cdv Ar outer s H E hr =>
    (jss_cons (js_if (jt_cmp (jo_eq (u64 hr)) (je_ixV (u9 hr) (pvT 2) je_int) je_str) (jss_one (js_ret (je_ix (je_pr (je_var 0) T.cls T.n_ticks) (je_ixV (u9 hr) (pvT 2) je_int)))) jss_nil)
    (jss_cons (js_set 3 sc_changes_of.nd rfl (by first | exact Or.inl rfl | exact Or.inr rfl) (je_if (jt_cmp (jo_eq (u64 hr)) (je_ixV (u9 hr) (pvT 2) je_int) je_str) (je_var 1) (je_ixV (u9 hr) (pvT 2) je_int)))
    (jss_one (js_ret (je_ix (je_ix (je_pr (je_var 0) T.cls T.n_parts) (je_var 3)) je_int)))))

theorem ok_put (T : Tx K mg base C A) : OkD P w K mg base C 1 "put" A.put 2 (g_put A) :=
  okD_of T.put sc_put (by decide) (fun _ _ _ _ _ _ us hl => match us, hl with | [_, _], _ => rfl) fun cdv Ar outer s H E hr =>
    (jss_cons (js_setLc 2 rfl sc_put.nd rfl rfl rfl (ji_seq (je_var 0)) (own := [("one", 3)]) (blkOk_by (by kernel_rfl)) (fun _ _ _ _ _ => (jg_name 3 sc_put.nd rfl (by first | exact Or.inl rfl | exact Or.inr rfl))) (fun _ _ _ _ _ => jts_nil) (fun _ _ _ _ _ => (je_if (jt_cmp (jo_eq (u64 hr)) (je_ixV (u9 hr) (pvT 3) je_int) (je_ixV (u9 hr) (pvT 1) je_int)) (je_var 1) (je_var 3))))
    (jss_cons (js_if (jt_notInV (u65 hr) (je_var 1) (pvT 2)) (jss_one (js_app (pvT 2) (je_var 1))) jss_nil)
    (jss_one (js_ret (je_callTy jc_tuple rfl T.z_tuple boot_tuple (ja_cons (je_var 2) ja_nil))))))

theorem ok_after (T : Tx K mg base C A) : OkD P w K mg base C 2 "after" A.after 3 (g_after A) :=
  okD_of T.after sc_after (by decide) (fun _ _ _ _ _ _ us hl => match us, hl with | [_, _, _], _ => rfl) fun cdv Ar outer s H E hr =>
    (jss_cons (js_if (jt_cmp (jo_notIn (u65 hr)) (je_var 2) (je_callD (ok_acts T) hr (ja_cons (je_var 0) (ja_cons (je_var 1) ja_nil)))) (jss_one js_never) jss_nil)
    (jss_cons (js_asg (je_var 1) (jg_tup rfl (jgs_cons (jg_name 3 sc_after.nd rfl (by first | exact Or.inl rfl | exact Or.inr rfl)) (jgs_cons (jg_name 4 sc_after.nd rfl (by first | exact Or.inl rfl | exact Or.inr rfl)) (jgs_cons (jg_name 5 sc_after.nd rfl (by first | exact Or.inl rfl | exact Or.inr rfl)) jgs_nil)))))
    (jss_cons (js_if (jt_cmp (jo_eq (u64 hr)) (je_ixV (u9 hr) (pvT 2) je_int) je_str) (jss_one (js_ret (je_tup (ja_cons (je_tup (ja_cons (je_var 3) (ja_cons (je_var 4) (ja_cons (je_slice (je_var 5) (jo_some je_int) jo_none) ja_nil)))) (ja_cons (je_ixV (u9 hr) (pvT 5) je_int) ja_nil))))) jss_nil)
    (jss_cons (js_if (jt_cmp (jo_eq (u64 hr)) (je_ixV (u9 hr) (pvT 2) je_int) je_str) (jss_cons (js_set 4 sc_after.nd rfl (by first | exact Or.inl rfl | exact Or.inr rfl) (je_callD (ok_next_focus T) hr (ja_cons (je_var 0) (ja_cons (je_var 4) ja_nil))))
    (jss_one (js_ret (je_tup (ja_cons (je_tup (ja_cons (je_var 3) (ja_cons (je_var 4) (ja_cons (je_callD (ok_put T) hr (ja_cons (je_var 5) (ja_cons (je_tup (ja_cons (je_var 4) (ja_cons (je_ix (je_callD (ok_words T) hr (ja_cons (je_var 0) (ja_cons (je_var 3) ja_nil))) (je_var 4)) ja_nil))) ja_nil))) ja_nil)))) (ja_cons (je_tup ja_nil) ja_nil)))))) jss_nil)
    (jss_cons (js_set 6 sc_after.nd rfl (by first | exact Or.inl rfl | exact Or.inr rfl) (je_callD (ok_changed T) hr (ja_cons (je_var 0) (ja_cons (je_var 3) (ja_cons (je_callD (ok_changes_of T) hr (ja_cons (je_var 0) (ja_cons (je_var 4) (ja_cons (je_var 2) ja_nil)))) ja_nil)))))
    (jss_cons (js_set 7 sc_after.nd rfl (by first | exact Or.inl rfl | exact Or.inr rfl) (je_callD (ok_words T) hr (ja_cons (je_var 0) (ja_cons (je_var 3) ja_nil))))
    (jss_cons (js_set 8 sc_after.nd rfl (by first | exact Or.inl rfl | exact Or.inr rfl) (je_callD (ok_words T) hr (ja_cons (je_var 0) (ja_cons (je_var 6) ja_nil))))
    (jss_cons (js_for PassesOwn.never rfl (ji_seq (je_pr (je_var 0) T.cls T.n_live)) (jg_name 9 sc_after.nd rfl (by first | exact Or.inl rfl | exact Or.inr rfl)) (jss_one (js_if (jt_cmp (jo_ne (u64 hr)) (je_ixV (u9 hr) (pvT 8) (je_var 9)) (je_ixV (u9 hr) (pvT 7) (je_var 9))) (jss_one (js_set 5 sc_after.nd rfl (by first | exact Or.inl rfl | exact Or.inr rfl) (je_callD (ok_put T) hr (ja_cons (je_var 5) (ja_cons (je_tup (ja_cons (je_var 9) (ja_cons (je_ixV (u9 hr) (pvT 8) (je_var 9)) ja_nil))) ja_nil))))) jss_nil)))
    (jss_one (js_ret (je_tup (ja_cons (je_tup (ja_cons (je_var 6) (ja_cons (je_var 4) (ja_cons (je_var 5) ja_nil)))) (ja_cons (je_tup ja_nil) ja_nil)))))))))))))

theorem ok_reading (T : Tx K mg base C A) : OkD P w K mg base C 2 "reading" A.reading 2 (g_reading A) :=
  okD_of T.reading sc_reading (by decide) (fun _ _ _ _ _ _ us hl => match us, hl with | [_, _], _ => rfl) fun cdv Ar outer s H E hr =>
    (jss_one (js_ret (je_op jo_add (je_callD (ok_words T) hr (ja_cons (je_var 0) (ja_cons (je_ixV (u9 hr) (pvT 1) je_int) ja_nil))) (je_tup (ja_cons (je_ixV (u9 hr) (pvT 1) je_int) ja_nil)))))

theorem ok_looks (T : Tx K mg base C A) : OkD P w K mg base C 1 "looks" A.looks 2 (g_looks A) :=
  okD_of T.looks sc_looks (by decide) (fun _ _ _ _ _ _ us hl => match us, hl with | [_, _], _ => rfl) fun cdv Ar outer s H E hr =>
    (jss_one (js_ret (je_callTy jc_tuple rfl T.z_tuple boot_tuple (ja_cons (je_ofL (jl_lc rfl sc_looks.nd (ji_seq (je_pr (je_var 0) T.cls T.n_parts)) (own := [("variable", 2), ("table", 3), ("_", 4)]) (blkOk_by (by kernel_rfl)) (fun _ _ _ _ _ => (jg_tup rfl (jgs_cons (jg_tup rfl (jgs_cons (jg_name 2 sc_looks.nd rfl (by first | exact Or.inl rfl | exact Or.inr rfl)) (jgs_cons (jg_name 3 sc_looks.nd rfl (by first | exact Or.inl rfl | exact Or.inr rfl)) jgs_nil))) (jgs_cons (jg_name 4 sc_looks.nd rfl (by first | exact Or.inl rfl | exact Or.inr rfl)) (jgs_cons (jg_name 4 sc_looks.nd rfl (by first | exact Or.inl rfl | exact Or.inr rfl)) jgs_nil))))) (fun _ _ _ _ _ => jts_nil) (fun _ _ _ _ _ => (je_ixV (u9 hr) (pvT 3) (je_ixV (u9 hr) (pvT 1) (je_var 2)))))) ja_nil))))

theorem ok_sight (T : Tx K mg base C A) : OkD P w K mg base C 2 "sight" A.sight 2 (g_sight A) :=
  okD_of T.sight sc_sight (by decide) (fun _ _ _ _ _ _ us hl => match us, hl with | [_, _], _ => rfl) fun cdv Ar outer s H E hr =>
    (jss_one (js_ret (je_op jo_add (je_callD (ok_looks T) hr (ja_cons (je_var 0) (ja_cons (je_ixV (u9 hr) (pvT 1) je_int) ja_nil))) (je_tup (ja_cons (je_ixV (u9 hr) (pvT 1) je_int) ja_nil)))))

theorem ok__law_wanted (T : Tx K mg base C A) : OkD P w K mg base C 3 "_law_wanted" A._law_wanted 6 (g__law_wanted A) :=
  okD_of T._law_wanted sc__law_wanted (by decide) (fun _ _ _ _ _ _ us hl => match us, hl with | [_, _, _, _, _, _], _ => rfl) fun cdv Ar outer s H E hr =>
    (jss_cons (js_set 6 sc__law_wanted.nd rfl (by first | exact Or.inl rfl | exact Or.inr rfl) (je_callD (ok_reading T) hr (ja_cons (je_var 0) (ja_cons (je_var 4) ja_nil))))
    (jss_cons (js_if (jt_cmp (jo_eq (u64 hr)) (je_var 1) je_str) (jss_one (js_ret (je_and (je_cmp (jo_ne (u64 hr)) (je_var 5) (je_tup ja_nil)) (je_one (je_cmp (jo_ne (u64 hr)) (je_ixV (u9 hr) (pvT 6) (je_ixV (u9 hr) (pvT 5) je_int)) (je_ixV (u9 hr) (pvT 5) je_int)))))) jss_nil)
    (jss_cons (js_set 7 sc__law_wanted.nd rfl (by first | exact Or.inl rfl | exact Or.inr rfl) (je_callD (ok_sight T) hr (ja_cons (je_var 0) (ja_cons (je_var 2) ja_nil))))
    (jss_cons (js_set 8 sc__law_wanted.nd rfl (by first | exact Or.inl rfl | exact Or.inr rfl) (je_callD (ok_sight T) hr (ja_cons (je_var 0) (ja_cons (je_var 4) ja_nil))))
    (jss_cons (js_for PassesOwn.never rfl (ji_range1 rfl T.z_range (ja_cons (je_callB jc_len rfl T.z_len boot_len (ja_cons (je_pr (je_var 0) T.cls T.n_parts) ja_nil)) ja_nil)) (jg_name 9 sc__law_wanted.nd rfl (by first | exact Or.inl rfl | exact Or.inr rfl)) (jss_one (js_if (jt_w (jw_and (jt_cmp (jo_ne (u64 hr)) (je_ixV (u9 hr) (pvT 7) (je_var 9)) (je_ixV (u9 hr) (pvT 8) (je_var 9))) (jw_and1 (jt_cmp (jo_notIn (u65 hr)) (je_tup (ja_cons (je_var 9) (ja_cons (je_ixV (u9 hr) (pvT 6) (je_var 9)) ja_nil))) (je_ixV (u9 hr) (pvT 4) je_int))))) (jss_one (js_ret je_bl)) jss_nil)))
    (jss_one (js_ret je_bl)))))))

theorem ok__law_next (T : Tx K mg base C A) : OkD P w K mg base C 1 "_law_next" A._law_next 2 (g__law_next A) :=
  okD_of T._law_next sc__law_next (by decide) (fun _ _ _ _ _ _ us hl => match us, hl with | [_, _], _ => rfl) fun cdv Ar outer s H E hr =>
    (jss_cons (js_if (jt_cmp (jo_lt) (je_ls1 (pvT 0)) (je_var 1)) (jss_one (js_if (jt_cmp (jo_gt) (je_lsLen (pvT 0) rfl T.z_len) je_int) (jss_cons (js_set 2 sc__law_next.nd rfl (by first | exact Or.inl rfl | exact Or.inr rfl) (je_lsPop (pvT 0)))
    (jss_cons (js_ls1 (pvT 0) (je_if (jt_cmp (jo_ge) (je_var 2) je_int) (je_op jo_mul je_int (je_var 2)) (je_op jo_sub (je_op jo_mul (je_neg je_int) (je_var 2)) je_int)))
    (jss_one (js_ls2 (pvT 0) (je_op jo_mod (je_callTy jc_int rfl T.z_int boot_int (ja_cons (je_op jo_add (je_op jo_mul (je_ls2 (pvT 0)) je_int) (je_ls1 (pvT 0))) ja_nil)) je_int))))) (jss_cons (js_ls2 (pvT 0) (je_op jo_mod (je_callTy jc_int rfl T.z_int boot_int (ja_cons (je_op jo_add (je_op jo_mul (je_ls2 (pvT 0)) je_int) je_int) ja_nil)) je_int))
    (jss_one (js_ls1 (pvT 0) (je_op jo_mod (je_callTy jc_int rfl T.z_int boot_int (ja_cons (je_op jo_mul (je_ls2 (pvT 0)) (je_ls2 (pvT 0))) ja_nil)) je_int)))))) jss_nil)
    (jss_cons (js_set 3 sc__law_next.nd rfl (by first | exact Or.inl rfl | exact Or.inr rfl) (je_op jo_mod (je_callTy jc_int rfl T.z_int boot_int (ja_cons (je_ls1 (pvT 0)) ja_nil)) (je_var 1)))
    (jss_cons (js_ls1 (pvT 0) (je_op jo_div (je_ls1 (pvT 0)) (je_var 1)))
    (jss_one (js_ret (je_var 3))))))

theorem ok__law_first (T : Tx K mg base C A) : OkD P w K mg base C 4 "_law_first" A._law_first 3 (g__law_first A) :=
  okD_of T._law_first sc__law_first (by decide) (fun _ _ _ _ _ _ us hl => match us, hl with | [_, _, _], _ => rfl) fun cdv Ar outer s H E hr =>
    (jss_cons (js_set 3 sc__law_first.nd rfl (by first | exact Or.inl rfl | exact Or.inr rfl) (je_callD (ok_start T) hr (ja_cons (je_var 0) ja_nil)))
    (jss_cons (js_for PassesOwn.never rfl (ji_range1 rfl T.z_range (ja_cons je_int ja_nil)) (jg_name 4 sc__law_first.nd rfl (by first | exact Or.inl rfl | exact Or.inr rfl)) (jss_cons (js_set 5 sc__law_first.nd rfl (by first | exact Or.inl rfl | exact Or.inr rfl) (je_callD (ok_acts T) hr (ja_cons (je_var 0) (ja_cons (je_var 3) ja_nil))))
    (jss_cons (js_set 6 sc__law_first.nd rfl (by first | exact Or.inl rfl | exact Or.inr rfl) (je_ixV (u9 hr) (pvT 5) (je_callD (ok__law_next T) hr (ja_cons (je_var 2) (ja_cons (je_lenV (pvT 5) rfl T.z_len) ja_nil)))))
    (jss_cons (js_asg (je_callD (ok_after T) hr (ja_cons (je_var 0) (ja_cons (je_var 3) (ja_cons (je_var 6) ja_nil)))) (jg_tup rfl (jgs_cons (jg_name 7 sc__law_first.nd rfl (by first | exact Or.inl rfl | exact Or.inr rfl)) (jgs_cons (jg_name 8 sc__law_first.nd rfl (by first | exact Or.inl rfl | exact Or.inr rfl)) jgs_nil))))
    (jss_cons (js_if (jt_val (je_callD (ok__law_wanted T) hr (ja_cons (je_var 0) (ja_cons (je_var 1) (ja_cons (je_var 3) (ja_cons (je_var 6) (ja_cons (je_var 7) (ja_cons (je_var 8) ja_nil)))))))) (jss_one (js_ret (je_op jo_add (je_var 4) je_int))) jss_nil)
    (jss_one (js_set 3 sc__law_first.nd rfl (by first | exact Or.inl rfl | exact Or.inr rfl) (je_var 7))))))))
    (jss_one (js_ret je_int))))

theorem ok__law_table (T : Tx K mg base C A) : OkD P w K mg base C 2 "_law_table" A._law_table 2 (g__law_table A) :=
  okD_of T._law_table sc__law_table (by decide) (fun _ _ _ _ _ _ us hl => match us, hl with | [_, _], _ => rfl) fun cdv Ar outer s H E hr =>
    (jss_cons (js_set 2 sc__law_table.nd rfl (by first | exact Or.inl rfl | exact Or.inr rfl) (je_callD (ok__law_next T) hr (ja_cons (je_var 0) (ja_cons (je_lenV (pvT 1) rfl T.z_len) ja_nil))))
    (jss_cons (js_set 3 sc__law_table.nd rfl (by first | exact Or.inl rfl | exact Or.inr rfl) (je_ix (je_ofL (jl_lst (ja_cons je_int (ja_cons je_int (ja_cons je_int (ja_cons je_int ja_nil)))))) (je_callD (ok__law_next T) hr (ja_cons (je_var 0) (ja_cons je_int ja_nil)))))
    (jss_one (js_ret (je_tup (ja_cons (je_var 2) (ja_cons (je_callTy jc_tuple rfl T.z_tuple boot_tuple (ja_cons (je_ofL (jl_lc rfl sc__law_table.nd (ji_range1 rfl T.z_range (ja_cons (je_ixV (u9 hr) (pvT 1) (je_var 2)) ja_nil)) (own := [("_law_k", 4)]) (blkOk_by (by kernel_rfl)) (fun _ _ _ _ _ => (jg_name 4 sc__law_table.nd rfl (by first | exact Or.inl rfl | exact Or.inr rfl))) (fun _ _ _ _ _ => jts_nil) (fun _ _ _ _ _ => (je_callD (ok__law_next T) hr (ja_cons (je_var 0) (ja_cons (je_var 3) ja_nil)))))) ja_nil)) ja_nil)))))))

theorem ok__law_changes (T : Tx K mg base C A) : OkD P w K mg base C 2 "_law_changes" A._law_changes 2 (g__law_changes A) :=
  okD_of T._law_changes sc__law_changes (by decide) (fun _ _ _ _ _ _ us hl => match us, hl with | [_, _], _ => rfl) fun cdv Ar outer s H E hr =>
    (jss_cons (js_setL 2 sc__law_changes.nd rfl (by first | exact Or.inl rfl | exact Or.inr rfl) (jl_lst ja_nil))
    (jss_cons (js_for PassesOwn.never rfl (ji_range1 rfl T.z_range (ja_cons (je_ix (je_ofL (jl_lst (ja_cons je_int (ja_cons je_int (ja_cons je_int (ja_cons je_int (ja_cons je_int (ja_cons je_int ja_nil)))))))) (je_callD (ok__law_next T) hr (ja_cons (je_var 0) (ja_cons je_int ja_nil)))) ja_nil)) (jg_name 3 sc__law_changes.nd rfl (by first | exact Or.inl rfl | exact Or.inr rfl)) (jss_one (js_app (pvT 2) (je_tup (ja_cons (je_callD (ok__law_next T) hr (ja_cons (je_var 0) (ja_cons (je_lenV (pvT 1) rfl T.z_len) ja_nil))) (ja_cons (je_op jo_add je_int (je_callD (ok__law_next T) hr (ja_cons (je_var 0) (ja_cons je_int ja_nil)))) ja_nil))))))
    (jss_one (js_ret (je_callTy jc_tuple rfl T.z_tuple boot_tuple (ja_cons (je_var 2) ja_nil))))))

theorem ok__law_part (T : Tx K mg base C A) : OkD P w K mg base C 3 "_law_part" A._law_part 2 (g__law_part A) :=
  okD_of T._law_part sc__law_part (by decide) (fun _ _ _ _ _ _ us hl => match us, hl with | [_, _], _ => rfl) fun cdv Ar outer s H E hr =>
    (jss_cons (js_set 2 sc__law_part.nd rfl (by first | exact Or.inl rfl | exact Or.inr rfl) (je_callD (ok__law_table T) hr (ja_cons (je_var 0) (ja_cons (je_var 1) ja_nil))))
    (jss_cons (js_set 3 sc__law_part.nd rfl (by first | exact Or.inl rfl | exact Or.inr rfl) (je_callD (ok__law_table T) hr (ja_cons (je_var 0) (ja_cons (je_var 1) ja_nil))))
    (jss_cons (js_if (jt_cmp (jo_eq (u64 hr)) (je_callD (ok__law_next T) hr (ja_cons (je_var 0) (ja_cons je_int ja_nil))) je_int) (jss_one (js_set 3 sc__law_part.nd rfl (by first | exact Or.inl rfl | exact Or.inr rfl) (je_var 2))) jss_nil)
    (jss_cons (js_set 4 sc__law_part.nd rfl (by first | exact Or.inl rfl | exact Or.inr rfl) je_non)
    (jss_cons (js_if (jt_cmp (jo_gt) (je_callD (ok__law_next T) hr (ja_cons (je_var 0) (ja_cons je_int ja_nil))) je_int) (jss_one (js_set 4 sc__law_part.nd rfl (by first | exact Or.inl rfl | exact Or.inr rfl) (je_callD (ok__law_changes T) hr (ja_cons (je_var 0) (ja_cons (je_var 1) ja_nil))))) jss_nil)
    (jss_one (js_ret (je_tup (ja_cons (je_var 2) (ja_cons (je_var 3) (ja_cons (je_var 4) ja_nil)))))))))))

theorem ok__law_data (T : Tx K mg base C A) : OkD P w K mg base C 4 "_law_data" A._law_data 1 (g__law_data A) :=
  okD_of T._law_data sc__law_data (by decide) (fun _ _ _ _ _ _ us hl => match us, hl with | [_], _ => rfl) fun cdv Ar outer s H E hr =>
    (jss_cons (js_set 1 sc__law_data.nd rfl (by first | exact Or.inl rfl | exact Or.inr rfl) (je_ix (je_ofL (jl_lst (ja_cons (je_tup (ja_cons je_int ja_nil)) (ja_cons (je_tup (ja_cons je_int ja_nil)) (ja_cons (je_tup (ja_cons je_int ja_nil)) (ja_cons (je_tup (ja_cons je_int ja_nil)) (ja_cons (je_tup (ja_cons je_int (ja_cons je_int ja_nil))) (ja_cons (je_tup (ja_cons je_int (ja_cons je_int ja_nil))) (ja_cons (je_tup (ja_cons je_int (ja_cons je_int (ja_cons je_int ja_nil)))) ja_nil))))))))) (je_callD (ok__law_next T) hr (ja_cons (je_var 0) (ja_cons je_int ja_nil)))))
    (jss_cons (js_set 2 sc__law_data.nd rfl (by first | exact Or.inl rfl | exact Or.inr rfl) (je_callTy jc_tuple rfl T.z_tuple boot_tuple (ja_cons (je_ofL (jl_lc rfl sc__law_data.nd (ji_range1 rfl T.z_range (ja_cons (je_ix (je_ofL (jl_lst (ja_cons je_int (ja_cons je_int (ja_cons je_int (ja_cons je_int (ja_cons je_int (ja_cons je_int (ja_cons je_int (ja_cons je_int ja_nil)))))))))) (je_callD (ok__law_next T) hr (ja_cons (je_var 0) (ja_cons je_int ja_nil)))) ja_nil)) (own := [("_law_k", 6)]) (blkOk_by (by kernel_rfl)) (fun _ _ _ _ _ => (jg_name 6 sc__law_data.nd rfl (by first | exact Or.inl rfl | exact Or.inr rfl))) (fun _ _ _ _ _ => jts_nil) (fun _ _ _ _ _ => (je_callD (ok__law_part T) hr (ja_cons (je_var 0) (ja_cons (je_var 1) ja_nil)))))) ja_nil)))
    (jss_cons (js_set 3 sc__law_data.nd rfl (by first | exact Or.inl rfl | exact Or.inr rfl) (je_callTy jc_tuple rfl T.z_tuple boot_tuple (ja_cons (je_ofL (jl_lc rfl sc__law_data.nd (ji_range1 rfl T.z_range (ja_cons (je_ix (je_ofL (jl_lst (ja_cons je_int (ja_cons je_int (ja_cons je_int (ja_cons je_int (ja_cons je_int (ja_cons je_int ja_nil)))))))) (je_callD (ok__law_next T) hr (ja_cons (je_var 0) (ja_cons je_int ja_nil)))) ja_nil)) (own := [("_law_k", 6)]) (blkOk_by (by kernel_rfl)) (fun _ _ _ _ _ => (jg_name 6 sc__law_data.nd rfl (by first | exact Or.inl rfl | exact Or.inr rfl))) (fun _ _ _ _ _ => jts_nil) (fun _ _ _ _ _ => (je_callD (ok__law_changes T) hr (ja_cons (je_var 0) (ja_cons (je_var 1) ja_nil)))))) ja_nil)))
    (jss_cons (js_set 4 sc__law_data.nd rfl (by first | exact Or.inl rfl | exact Or.inr rfl) (je_callTy jc_tuple rfl T.z_tuple boot_tuple (ja_cons (je_ofL (jl_lc rfl sc__law_data.nd (ji_range1 rfl T.z_range (ja_cons (je_lenV (pvT 2) rfl T.z_len) ja_nil)) (own := [("_law_k", 6)]) (blkOk_by (by kernel_rfl)) (fun _ _ _ _ _ => (jg_name 6 sc__law_data.nd rfl (by first | exact Or.inl rfl | exact Or.inr rfl))) (fun _ _ _ _ _ => (jts_one (jt_cmp (jo_gt) (je_callD (ok__law_next T) hr (ja_cons (je_var 0) (ja_cons je_int ja_nil))) je_int))) (fun _ _ _ _ _ => (je_var 6)))) ja_nil)))
    (jss_cons (js_set 5 sc__law_data.nd rfl (by first | exact Or.inl rfl | exact Or.inr rfl) (je_callTy jc_tuple rfl T.z_tuple boot_tuple (ja_cons (je_ofL (jl_lc rfl sc__law_data.nd (ji_range1 rfl T.z_range (ja_cons (je_lenV (pvT 2) rfl T.z_len) ja_nil)) (own := [("_law_k", 6)]) (blkOk_by (by kernel_rfl)) (fun _ _ _ _ _ => (jg_name 6 sc__law_data.nd rfl (by first | exact Or.inl rfl | exact Or.inr rfl))) (fun _ _ _ _ _ => (jts_one (jt_cmp (jo_eq (u64 hr)) (je_callD (ok__law_next T) hr (ja_cons (je_var 0) (ja_cons je_int ja_nil))) je_int))) (fun _ _ _ _ _ => (je_var 6)))) ja_nil)))
    (jss_one (js_ret (je_dispT (jps_cons (je_var 1) (jps_cons (je_var 2) (jps_cons (je_var 3) (jps_cons (je_var 4) (jps_cons (je_var 5) jps_nil)))))))))))))

theorem ok_is_stale (T : Tx K mg base C A) : OkD P w K mg base C 2 "is_stale" A.is_stale 5 (g_is_stale A) :=
  okD_of T.is_stale sc_is_stale (by decide) (fun _ _ _ _ _ _ us hl => match us, hl with | [_, _, _, _, _], _ => rfl) fun cdv Ar outer s H E hr =>
    (jss_one (js_ret (je_and (je_cmp (jo_ne (u64 hr)) (je_var 4) (je_tup ja_nil)) (je_one (je_cmp (jo_ne (u64 hr)) (je_ix (je_callD (ok_words T) hr (ja_cons (je_var 0) (ja_cons (je_ixV (u9 hr) (pvT 3) je_int) ja_nil))) (je_ixV (u9 hr) (pvT 4) je_int)) (je_ixV (u9 hr) (pvT 4) je_int))))))

theorem ok_is_unsaid (T : Tx K mg base C A) : OkD P w K mg base C 2 "is_unsaid" A.is_unsaid 5 (g_is_unsaid A) :=
  okD_of T.is_unsaid sc_is_unsaid (by decide) (fun _ _ _ _ _ _ us hl => match us, hl with | [_, _, _, _, _], _ => rfl) fun cdv Ar outer s H E hr =>
    (jss_cons (js_set 5 sc_is_unsaid.nd rfl (by first | exact Or.inl rfl | exact Or.inr rfl) (je_callD (ok_looks T) hr (ja_cons (je_var 0) (ja_cons (je_ixV (u9 hr) (pvT 1) je_int) ja_nil))))
    (jss_cons (js_set 6 sc_is_unsaid.nd rfl (by first | exact Or.inl rfl | exact Or.inr rfl) (je_callD (ok_looks T) hr (ja_cons (je_var 0) (ja_cons (je_ixV (u9 hr) (pvT 3) je_int) ja_nil))))
    (jss_cons (js_set 7 sc_is_unsaid.nd rfl (by first | exact Or.inl rfl | exact Or.inr rfl) (je_callD (ok_words T) hr (ja_cons (je_var 0) (ja_cons (je_ixV (u9 hr) (pvT 3) je_int) ja_nil))))
    (jss_cons (js_for PassesOwn.never rfl (ji_enumT rfl T.z_enumerate (ja_cons (je_var 6) ja_nil)) (jg_tup rfl (jgs_cons (jg_name 8 sc_is_unsaid.nd rfl (by first | exact Or.inl rfl | exact Or.inr rfl)) (jgs_cons (jg_name 9 sc_is_unsaid.nd rfl (by first | exact Or.inl rfl | exact Or.inr rfl)) jgs_nil))) (jss_one (js_if (jt_w (jw_and (jt_cmp (jo_ne (u64 hr)) (je_var 9) (je_ixV (u9 hr) (pvT 5) (je_var 8))) (jw_and1 (jt_cmp (jo_notIn (u65 hr)) (je_tup (ja_cons (je_var 8) (ja_cons (je_ixV (u9 hr) (pvT 7) (je_var 8)) ja_nil))) (je_ixV (u9 hr) (pvT 3) je_int))))) (jss_one (js_ret je_bl)) jss_nil)))
    (jss_one (js_ret je_bl))))))

theorem ok_run_to (T : Tx K mg base C A) : OkD P w K mg base C 1 "run_to" A.run_to 2 (g_run_to A) :=
  okD_of T.run_to sc_run_to (by decide) (fun _ _ _ _ _ _ us hl => match us, hl with | [_, _], _ => rfl) fun cdv Ar outer s H E hr =>
    (jss_cons (js_setL 2 sc_run_to.nd rfl (by first | exact Or.inl rfl | exact Or.inr rfl) (jl_lst ja_nil))
    (jss_cons (js_while PassesOwn.never (jt_cmp (jo_isNot) (je_ixV (u9 hr) (pvT 0) (je_var 1)) je_non) (jss_cons (js_asg (je_ixV (u9 hr) (pvT 0) (je_var 1)) (jg_tup rfl (jgs_cons (jg_name 1 sc_run_to.nd rfl (by first | exact Or.inl rfl | exact Or.inr rfl)) (jgs_cons (jg_name 3 sc_run_to.nd rfl (by first | exact Or.inl rfl | exact Or.inr rfl)) jgs_nil))))
    (jss_one (js_app (pvT 2) (je_var 3)))))
    (jss_one (js_ret (je_rev (je_var 2))))))

theorem hS_fns (T : Tx K mg base C A) : ∀ a g, S_fns A a = some g → Held P w K mg base 2 a (spD ⟨K, P, w, C⟩ 5 g) := fun a g h => by
  unfold S_fns at h
  split at h
  · rename_i e; cases h; subst e
    exact ((ok_is_stale T).mono (by decide)).held
  · split at h
    · rename_i e; cases h; subst e
      exact ((ok_is_unsaid T).mono (by decide)).held
    · cases h

theorem ok_first_run (T : Tx K mg base C A) : OkD P w K mg base C 3 "first_run" A.first_run 3 (g_first_run A) :=
  okD_of T.first_run sc_first_run (by decide) (fun _ _ _ _ _ _ us hl => match us, hl with | [_, _, _], _ => rfl) fun cdv Ar outer s H E hr =>
    (jss_cons (js_setL 3 sc_first_run.nd rfl (by first | exact Or.inl rfl | exact Or.inr rfl) (jl_lst (ja_cons (je_callD (ok_start T) hr (ja_cons (je_var 0) ja_nil)) ja_nil)))
    (jss_cons (js_setD 4 sc_first_run.nd rfl (by first | exact Or.inl rfl | exact Or.inr rfl) (jd_disp1 (u8 hr) (je_ixV (u9 hr) (pvT 3) je_int) je_non))
    (jss_cons (js_set 5 sc_first_run.nd rfl (by first | exact Or.inl rfl | exact Or.inr rfl) je_int)
    (jss_cons (js_while PassesOwn.never (jt_cmp (jo_lt) (je_var 5) (je_lenV (pvT 3) rfl T.z_len)) (jss_cons (js_set 6 sc_first_run.nd rfl (by first | exact Or.inl rfl | exact Or.inr rfl) (je_ixV (u9 hr) (pvT 3) (je_var 5)))
    (jss_cons (js_for PassesOwn.never rfl (ji_seq (je_callD (ok_acts T) hr (ja_cons (je_var 0) (ja_cons (je_var 6) ja_nil)))) (jg_name 7 sc_first_run.nd rfl (by first | exact Or.inl rfl | exact Or.inr rfl)) (jss_cons (js_asg (je_callD (ok_after T) hr (ja_cons (je_var 0) (ja_cons (je_var 6) (ja_cons (je_var 7) ja_nil)))) (jg_tup rfl (jgs_cons (jg_name 8 sc_first_run.nd rfl (by first | exact Or.inl rfl | exact Or.inr rfl)) (jgs_cons (jg_name 9 sc_first_run.nd rfl (by first | exact Or.inl rfl | exact Or.inr rfl)) jgs_nil))))
    (jss_cons (js_if (jt_val (je_callV (S := S_fns A) (hS_fns T) hr rfl (Or.inl rfl) (ja_cons (je_var 0) (ja_cons (je_var 6) (ja_cons (je_var 7) (ja_cons (je_var 8) (ja_cons (je_var 9) ja_nil))))))) (jss_one (js_ret (je_tup (ja_cons je_str (ja_cons (je_op jo_add (je_callD (ok_run_to T) hr (ja_cons (je_var 4) (ja_cons (je_var 6) ja_nil))) (je_ofL (jl_lst (ja_cons (je_var 7) ja_nil)))) ja_nil))))) jss_nil)
    (jss_one (js_if (jt_notInV (u65 hr) (je_var 8) (pvT 4)) (jss_cons (js_if (jt_cmp (jo_eq (u64 hr)) (je_lenV (pvT 3) rfl T.z_len) (je_var 1)) (jss_one (js_ret (je_tup (ja_cons je_str ja_nil)))) jss_nil)
    (jss_cons (js_setIx (u9 hr) (pvT 4) (je_var 8) (je_tup (ja_cons (je_var 6) (ja_cons (je_var 7) ja_nil))))
    (jss_one (js_app (pvT 3) (je_var 8))))) jss_nil)))))
    (jss_one (js_aug 5 sc_first_run.nd rfl (by first | exact Or.inl rfl | exact Or.inr rfl) je_int)))))
    (jss_one (js_ret (je_tup (ja_cons je_str (ja_cons (je_lenV (pvT 3) rfl T.z_len) ja_nil)))))))))

theorem ok_first_stale (T : Tx K mg base C A) : OkD P w K mg base C 4 "first_stale" A.first_stale 2 (g_first_stale A) :=
  okD_of T.first_stale sc_first_stale (by decide) (fun _ _ _ _ _ _ us hl => match us, hl with | [_, _], _ => rfl) fun cdv Ar outer s H E hr =>
    (jss_one (js_ret (je_callD (ok_first_run T) hr (ja_cons (je_var 0) (ja_cons (je_var 1) (ja_cons (je_fn (f := A.is_stale) rfl T.is_stale.mgf) ja_nil))))))

theorem ok_first_unsaid (T : Tx K mg base C A) : OkD P w K mg base C 4 "first_unsaid" A.first_unsaid 2 (g_first_unsaid A) :=
  okD_of T.first_unsaid sc_first_unsaid (by decide) (fun _ _ _ _ _ _ us hl => match us, hl with | [_, _], _ => rfl) fun cdv Ar outer s H E hr =>
    (jss_one (js_ret (je_callD (ok_first_run T) hr (ja_cons (je_var 0) (ja_cons (je_var 1) (ja_cons (je_fn (f := A.is_unsaid) rfl T.is_unsaid.mgf) ja_nil))))))

theorem ok__law_told (T : Tx K mg base C A) : OkD P w K mg base C 4 "_law_told" A._law_told 3 (g__law_told A) :=
  okD_of T._law_told sc__law_told (by decide) (fun _ _ _ _ _ _ us hl => match us, hl with | [_, _, _], _ => rfl) fun cdv Ar outer s H E hr =>
    (jss_cons (js_set 3 sc__law_told.nd rfl (by first | exact Or.inl rfl | exact Or.inr rfl) (je_callD (ok_start T) hr (ja_cons (je_var 0) ja_nil)))
    (jss_cons (js_for PassesOwn.never rfl (ji_range1 rfl T.z_range (ja_cons (je_lenV (pvT 2) rfl T.z_len) ja_nil)) (jg_name 4 sc__law_told.nd rfl (by first | exact Or.inl rfl | exact Or.inr rfl)) (jss_cons (js_if (jt_cmp (jo_notIn (u65 hr)) (je_ixV (u9 hr) (pvT 2) (je_var 4)) (je_callD (ok_acts T) hr (ja_cons (je_var 0) (ja_cons (je_var 3) ja_nil)))) (jss_one (js_ret je_bl)) jss_nil)
    (jss_cons (js_asg (je_callD (ok_after T) hr (ja_cons (je_var 0) (ja_cons (je_var 3) (ja_cons (je_ixV (u9 hr) (pvT 2) (je_var 4)) ja_nil)))) (jg_tup rfl (jgs_cons (jg_name 5 sc__law_told.nd rfl (by first | exact Or.inl rfl | exact Or.inr rfl)) (jgs_cons (jg_name 6 sc__law_told.nd rfl (by first | exact Or.inl rfl | exact Or.inr rfl)) jgs_nil))))
    (jss_cons (js_if (jt_cmp (jo_ne (u64 hr)) (je_callD (ok__law_wanted T) hr (ja_cons (je_var 0) (ja_cons (je_var 1) (ja_cons (je_var 3) (ja_cons (je_ixV (u9 hr) (pvT 2) (je_var 4)) (ja_cons (je_var 5) (ja_cons (je_var 6) ja_nil))))))) (je_cmp (jo_eq (u64 hr)) (je_var 4) (je_op jo_sub (je_lenV (pvT 2) rfl T.z_len) je_int))) (jss_one (js_ret je_bl)) jss_nil)
    (jss_one (js_set 3 sc__law_told.nd rfl (by first | exact Or.inl rfl | exact Or.inr rfl) (je_var 5)))))))
    (jss_one (js_ret (je_cmp (jo_gt) (je_lenV (pvT 2) rfl T.z_len) je_int)))))

theorem ok__law_start (T : Tx K mg base C A) : ∃ fd, Fun K "_law_start" "_law_start" s__law_start A._law_start fd ∧ Binds K fd ["_law_script"] [] ∧ FnOk P w K mg base CX0 1 A._law_start fd ["_law_script"] (spS K) := by
  obtain ⟨fd, F⟩ := T._law_start.fn
  exact ⟨fd, F, (F.binds fun _ _ _ _ _ _ us hl => match us, hl with | [_], _ => rfl), Tk.ok_start F sc__law_start rfl (by kernel_rfl) T.z_list (by kernel_rfl) (by decide) (by decide)⟩
/-- the law answers True where its denotation does -/
def spLaw (K : PySem.W.Frag) (C : Cc) (A : Ad) : Sp := fun vs H Q _ => ∃ (a : Addr) (ns : List Int), vs = [.ref a] ∧ SqL K H a (ns.map V.int) ∧ (∀ P ∈ C.tb, GxR.TabG H P) ∧
  (∃ s', b_law A ⟨none :: some .lp :: List.replicate 5 none, (ns, 0, 1)⟩ = some (.rt (.d (.bool true)) s')) ∧ ∀ H', Q (.bl true) H'
theorem ok_law {fd : FuncData} (T : Tx K mg base C A) (F : Fun K "law" "law" s_law A.law fd) : FnOk P w K mg base CX0 9 A.law fd ["_law_script"] (spLaw K C A) := by
  obtain ⟨fs, Fs, bs, Os⟩ := ok__law_start (P := P) (w := w) T
  refine F.ok sc_law (fun vs H Q E h => ?_) fun cdv Ar outer s H vs Q E hr h => ⟨_,
    pss_cons (ps_set (i := 1) sc_law.nd rfl (Or.inl rfl) (pe_call (E := E0) Os (hr.mono (by decide)) rfl T._law_start.mgf Fs.kp bs .nil pass0 (pa_cons (pvT 0) pa_nil)))
    (jss_cons (js_set 2 sc_law.nd rfl (by first | exact Or.inl rfl | exact Or.inr rfl) (je_callD (ok__law_made T) hr (ja_cons (je_callD (ok__law_data T) hr (ja_cons (je_var 1) ja_nil)) ja_nil)))
    (jss_cons (js_set 3 sc_law.nd rfl (by first | exact Or.inl rfl | exact Or.inr rfl) (je_op jo_add je_int (je_callD (ok__law_next T) hr (ja_cons (je_var 1) (ja_cons je_int ja_nil)))))
    (jss_cons (js_set 4 sc_law.nd rfl (by first | exact Or.inl rfl | exact Or.inr rfl) (je_ix (je_ofL (jl_lst (ja_cons je_str (ja_cons je_str ja_nil)))) (je_callD (ok__law_next T) hr (ja_cons (je_var 1) (ja_cons je_int ja_nil)))))
    (jss_cons (js_set 5 sc_law.nd rfl (by first | exact Or.inl rfl | exact Or.inr rfl) (je_if (jt_cmp (jo_eq (u64 hr)) (je_var 4) je_str) (je_callD (ok_first_stale T) hr (ja_cons (je_var 2) (ja_cons (je_var 3) ja_nil))) (je_callD (ok_first_unsaid T) hr (ja_cons (je_var 2) (ja_cons (je_var 3) ja_nil)))))
    (jss_cons (js_set 6 sc_law.nd rfl (by first | exact Or.inl rfl | exact Or.inr rfl) (je_callD (ok__law_first T) hr (ja_cons (je_var 2) (ja_cons (je_var 4) (ja_cons (je_var 1) ja_nil)))))
    (jss_cons (js_if (jt_cmp (jo_eq (u64 hr)) (je_ixV (u9 hr) (pvT 5) je_int) je_str) (jss_one (js_ret (je_and (je_cmp (jo_eq (u64 hr)) (je_var 6) je_int) (je_one (je_chain (jo_le) (jo_le) je_int (je_ixV (u9 hr) (pvT 5) je_int) (je_var 3)))))) jss_nil)
    (jss_cons (js_if (jt_cmp (jo_eq (u64 hr)) (je_ixV (u9 hr) (pvT 5) je_int) je_str) (jss_one (js_ret (je_and (je_callD (ok__law_told T) hr (ja_cons (je_var 2) (ja_cons (je_var 4) (ja_cons (je_ixV (u9 hr) (pvT 5) je_int) ja_nil)))) (je_one (je_or (je_cmp (jo_eq (u64 hr)) (je_var 6) je_int) (je_one (je_cmp (jo_ge) (je_var 6) (je_callB jc_len rfl T.z_len boot_len (ja_cons (je_ixV (u9 hr) (pvT 5) je_int) ja_nil))))))))) jss_nil)
    (jss_one (js_ret (je_cmp (jo_eq (u64 hr)) (je_var 5) (je_tup (ja_cons je_str ja_nil)))))))))))), ?_⟩
  · obtain ⟨a, ns, rfl, _⟩ := h
    rfl
  · obtain ⟨a, ns, rfl, hS, htb, ⟨s', hb⟩, hQ⟩ := h
    refine ⟨_, rfl, a, ns, rfl, hS, fun p1 p2 h2 h1 hne => ?_⟩
    obtain ⟨B, J⟩ := law_env (T := ⟨K, P, w, C⟩) (σ := L2.start N_law [.ref a]) (ns := ns) (n := 7) h2 h1 hne htb rfl (by decide)
    exact ⟨B, _, _, _, J, hb, fun v σ' F' H' _ _ z => by cases z; exact hQ H'⟩

end
end Tk.W


set_option Elab.async false
set_option linter.all false
set_option maxRecDepth 100000
set_option maxHeartbeats 1000000
/-! Pu, part C: what the defs answer. -/
namespace Pu
open PySem Tk Tk.W
theorem start_ev (A : Ad) (P : Pg) (g : LS) (hl : P.sz.length ≤ 100) : g_start A [P.av] g = some (.d (eS (start P)), g) := by
  have hb := line_big
  have h := lcGo_all (g := gNm 1) (fe := fC (.int 0)) (vs := [1]) (s0 := ⟨[some P.av, none], g⟩) eN (fun _ => PyData.int 0) P.sz (fun x hx => ⟨_, rfl, _, rfl, rfl⟩) (by omega)
  unfold g_start denF enter b_start
  simp [fRet, fTup, fCons, fNil, fCB, fOfL, fLc, fIt, f1, fVar_eq, rdV_av, dPr_sz, wipeS, wipeG, h, dTuple, dats, fC, start]
theorem words_ev (A : Ad) (P : Pg) (v : List Nat) (g : LS) (hl : P.pa.length ≤ 100) (hv : ∀ p ∈ P.pa, p.word.v < v.length ∧ nth v p.word.v < p.word.t.length) : g_words A [P.av, .d (eNs v)] g = some (.d (eNs (words P v)), g) := by
  have hb := line_big
  have h := lcGo_all (g := gTp 3 (gsCons (gNm 2) (gsCons (gTp 2 (gsCons (gNm 3) (gsCons (gNm 4) gsNil))) (gsCons (gNm 2) gsNil)))) (fe := fIxV 4 (fIxV 1 (fVar 3))) (vs := [2, 3, 4]) (s0 := ⟨[some P.av, some (.d (eNs v)), none, none, none], g⟩) ePt (fun p => eN (nth p.word.t (nth v p.word.v))) P.pa
    (fun p hp => ⟨_, rfl, ⟨[some P.av, some (.d (eNs v)), some (.d (eO p.press)), some (.d (eN p.word.v)), some (.d (eNs p.word.t))], g⟩, ?_, rfl⟩) (by omega)
  · unfold g_words denF enter b_words
    simp [fRet, fTup, fCons, fNil, fCB, fOfL, fLc, fIt, f1, fVar_eq, rdV_av, dPr_pa, wipeS, wipeG, h, dTuple, dats, fC, words]
  · obtain ⟨h1, h2⟩ := hv p hp
    simp [fIxV, fVar_eq, rdV_d, avIx, atI_map h1, atI_map h2]
theorem looks_ev (A : Ad) (P : Pg) (v : List Nat) (g : LS) (hl : P.pa.length ≤ 100) (hv : ∀ p ∈ P.pa, p.look.v < v.length ∧ nth v p.look.v < p.look.t.length) : g_looks A [P.av, .d (eNs v)] g = some (.d (eNs (looks P v)), g) := by
  have hb := line_big
  have h := lcGo_all (g := gTp 3 (gsCons (gTp 2 (gsCons (gNm 2) (gsCons (gNm 3) gsNil))) (gsCons (gNm 4) (gsCons (gNm 4) gsNil)))) (fe := fIxV 3 (fIxV 1 (fVar 2))) (vs := [2, 3, 4]) (s0 := ⟨[some P.av, some (.d (eNs v)), none, none, none], g⟩) ePt (fun p => eN (nth p.look.t (nth v p.look.v))) P.pa
    (fun p hp => ⟨_, rfl, ⟨[some P.av, some (.d (eNs v)), some (.d (eN p.look.v)), some (.d (eNs p.look.t)), some (.d (eO p.press))], g⟩, ?_, rfl⟩) (by omega)
  · unfold g_looks denF enter b_looks
    simp [fRet, fTup, fCons, fNil, fCB, fOfL, fLc, fIt, f1, fVar_eq, rdV_av, dPr_pa, wipeS, wipeG, h, dTuple, dats, fC, looks]
  · obtain ⟨h1, h2⟩ := hv p hp
    simp [fIxV, fVar_eq, rdV_d, avIx, atI_map h1, atI_map h2]
theorem cast_eq (a b : Nat) : ((a : Int) = (b : Int)) = (a = b) := by simp only [eq_iff_iff]; omega
theorem gd_eP (n : Nat) (q : Nat × Nat) : gd (n + 1) (eP q) = true := rfl
theorem gds_map {α : Type} {n : Nat} {f : α → PyData} {xs : List α} (h : ∀ x ∈ xs, gd n (f x) = true) : gds n (xs.map f) = true := by
  rw [gds_mem]
  intro d hd
  obtain ⟨x, hx, rfl⟩ := List.mem_map.mp hd
  exact h x hx
theorem shaped_ePs {q : Ch} : SeqAt.shaped (.list (q.map eP)) = true := shaped_gd (n := 3) (gds_map fun x _ => gd_eP 1 x) (by decide)
theorem shaped_eP {q : Nat × Nat} : SeqAt.shaped (eP q) = true := shaped_gd (n := 3) (gd_eP 2 q) (by decide)
theorem eqv_eN (a b : Nat) : PyData.eqv (eN a) (eN b) = decide (a = b) := by
  rw [eqv_gd _ _ 0 0 rfl rfl]
  simp [cast_eq]
theorem eP_inj {a b : Nat × Nat} : (eP a = eP b) = (a = b) := by
  simp [cast_eq, Prod.ext_iff]
theorem eqv_eP (a b : Nat × Nat) : PyData.eqv (eP a) (eP b) = decide (a = b) := by
  rw [eqv_gd _ _ 3 3 (gd_eP 2 a) (gd_eP 2 b)]
  exact decide_eq_decide.mpr (by rw [eP_inj])
theorem put_ev (A : Ad) (q : Ch) (m : Nat × Nat) (g : LS) (hl : q.length ≤ 100) : g_put A [.d (ePs q), .d (eP m)] g = some (.d (ePs (put q m)), g) := by
  have hb := line_big
  have h := lcGo_all (g := gNm 3) (fe := fIf (fTst (f2 dEq (fIxV 3 (fC (.int 0))) (fIxV 1 (fC (.int 0))))) (fVar 1) (fVar 3)) (vs := [3]) (s0 := ⟨[some (.d (ePs q)), some (.d (eP m)), none, none], g⟩) eP (fun o => eP (if o.1 = m.1 then m else o)) q
    (fun o ho => ⟨_, rfl, ⟨[some (.d (ePs q)), some (.d (eP m)), none, some (.d (eP o))], g⟩, ?_, rfl⟩) (by omega)
  · have h2 : q.map (fun o => eP (if o.1 = m.1 then m else o)) = (q.map fun o => if o.1 = m.1 then m else o).map eP := by rw [List.map_map]; rfl
    rw [h2] at h
    generalize hq : (q.map fun o => if o.1 = m.1 then m else o) = q' at h
    have hl' : q'.length ≤ 100 := by rw [← hq, List.length_map]; exact hl
    have hin : (q'.map eP).any (fun z => PyData.eqv z (eP m)) = decide (m ∈ q') := by
      rw [List.any_map, Bool.eq_iff_iff, List.any_eq_true, decide_eq_true_eq]
      constructor
      · rintro ⟨x, hx, e⟩
        have e' : PyData.eqv (eP x) (eP m) = true := e
        rw [eqv_eP, decide_eq_true_eq] at e'
        rw [← e']; exact hx
      · intro hm
        exact ⟨m, hm, by show PyData.eqv (eP m) (eP m) = true; rw [eqv_eP]; simp⟩
    have hp : put q m = if m ∈ q' then q' else q' ++ [m] := by unfold put; rw [← hq]
    unfold g_put denF enter b_put
    simp [-List.any_map, fSeq, fSetL, fRet, fTup, fCons, fNil, fCB, fOfL, fLc, fIt, f1, fVar_eq, rdV_d, wipeS, wipeG, h, dTuple, dats, fC, fIfS, fTst, fInV, avIn, shaped_eP, shaped_ePs, hin, hp]
    by_cases hc : m ∈ q'
    · simp [hc, fSkip, rdV_ml]
    · have hz : q'.length < sizeLine := by omega
      simp [hc, fApp, fVar_eq, rdV_d, rdV_ml, hz]
  · have e0 : ∀ p : Nat × Nat, L2.atI [eN p.1, eN p.2] 0 = some (eN p.1) := fun p => rfl
    have hs : ∀ n : Nat, SeqAt.shaped (eN n) = true := fun n => rfl
    simp [fIf, fTst, f2, fIxV, fC, avIx, e0, dEq, hs, eqv_eN, fVar_eq]
    by_cases hc : o.1 = m.1 <;> simp [hc, rdV_d]
theorem fmod_nat (a n : Nat) : (a : Int).fmod n = ((a % n : Nat) : Int) := by
  rw [Int.fmod_eq_emod_of_nonneg _ (Int.natCast_nonneg n)]
  rfl
theorem chg1_len (P : Pg) (v : List Nat) (c : Nat × Nat) : (chg1 P v c).length = v.length := by simp [chg1]
theorem changed_len (P : Pg) : ∀ (ch : Ch) (v : List Nat), (changed P v ch).length = v.length
  | [], v => rfl
  | c :: ch, v => by
    show (changed P (chg1 P v c) ch).length = _
    rw [changed_len P ch, chg1_len]
theorem changed_ev (A : Ad) (P : Pg) (v : List Nat) (ch : Ch) (g : LS) (hl : v.length = P.sz.length) (hz : ∀ n ∈ P.sz, 1 ≤ n) (hc : ∀ c ∈ ch, c.1 < P.sz.length) : g_changed A [P.av, .d (eNs v), .d (ePs ch)] g = some (.d (eNs (changed P v ch)), g) := by
  have R0 : ∀ x ∈ ch, ∀ (w : List Nat) (s : S), (w.length = P.sz.length ∧ ∃ a b, s = ⟨[some P.av, some (.d (eNs v)), some (.d (ePs ch)), some (.ml (w.map eN)), a, b], g⟩) → ∃ s1 s2, (gTp 2 (gsCons (gNm 4) (gsCons (gNm 5) gsNil))) (.d (eP x)) s = some s1 ∧
      (fSetIx 3 (fVar 4) (f2 dMod (f2 dAdd (fIxV 3 (fVar 4)) (fVar 5)) (f2 dIx (f1 (dPr "sizes") (fVar 0)) (fVar 4)))) s1 = some (.nx s2) ∧ ((chg1 P w x).length = P.sz.length ∧ ∃ a b, s2 = ⟨[some P.av, some (.d (eNs v)), some (.d (ePs ch)), some (.ml ((chg1 P w x).map eN)), a, b], g⟩) := by
    rintro x hx w s ⟨hw, a, b, rfl⟩
    have h1 : x.1 < w.length := by rw [hw]; exact hc x hx
    have h2 := hc x hx
    have h3 : nth P.sz x.1 ≠ 0 := by
      have : nth P.sz x.1 ∈ P.sz := by simp [nth, h2]
      have := hz _ this
      omega
    refine ⟨_, ⟨[some P.av, some (.d (eNs v)), some (.d (ePs ch)), some (.ml ((chg1 P w x).map eN)), some (.d (eN x.1)), some (.d (eN x.2))], g⟩, rfl, ?_, by rw [chg1_len]; exact hw, _, _, rfl⟩
    simp [fSetIx, f2, f1, fVar_eq, rdV_d, rdV_av, fIxV, avIx, atI_map h1, dAdd, dPr_sz, dIx, atI_map h2, dMod, h3, avSet, ixN_nat h1]
    have e : (((nth w x.1 : Nat) : Int) + (x.2 : Nat)).fmod (nth P.sz x.1 : Nat) = (((nth w x.1 + x.2) % nth P.sz x.1 : Nat) : Int) := by
      rw [← fmod_nat]; rfl
    rw [e]
    simp [chg1, List.map_set]
    rfl
  unfold g_changed denF enter b_changed
  obtain ⟨s', e1, e2, a, b, rfl⟩ := forGo_fold eP (chg1 P) (fun w s => w.length = P.sz.length ∧ ∃ a b, s = ⟨[some P.av, some (.d (eNs v)), some (.d (ePs ch)), some (.ml (w.map eN)), a, b], g⟩) ch v ⟨[some P.av, some (.d (eNs v)), some (.d (ePs ch)), some (.ml (v.map eN)), none, none], g⟩ ⟨hl, none, none, rfl⟩ R0
  simp [fSeq, fSetL, fCL, fCons, fNil, fVar_eq, rdV_d, dList, fFor, fIt, e1, fRet, fCB, rdV_ml, dTuple]
  rfl
theorem shaped_eNs {xs : List Nat} : SeqAt.shaped (.list (xs.map eN)) = true := shaped_gd (n := 3) (gds_map fun x _ => rfl) (by decide)
theorem any_eN (xs : List Nat) (a : Nat) : (xs.map eN).any (fun z => PyData.eqv z (eN a)) = decide (a ∈ xs) := by
  rw [List.any_map, Bool.eq_iff_iff, List.any_eq_true, decide_eq_true_eq]
  constructor
  · rintro ⟨x, hx, e⟩
    have e' : PyData.eqv (eN x) (eN a) = true := e
    rw [eqv_eN, decide_eq_true_eq] at e'
    rw [← e']; exact hx
  · intro hm
    exact ⟨a, hm, by show PyData.eqv (eN a) (eN a) = true; rw [eqv_eN]; simp⟩
end Pu

set_option Elab.async false
set_option linter.all false
set_option maxRecDepth 100000
set_option maxHeartbeats 400000
namespace Pu
open PySem Tk Tk.W
theorem nf_step (P : Pg) (f x : Nat) (g : LS) (a b : Option AV) (h1 : 1 ≤ P.pa.length) :
    fSeq (fSet 4 (f2 dMod (f2 dAdd (fVar 1) (fVar 3)) (fVar 2))) (fIfS (fTst (f2 dNotIn (fVar 4) (f1 (dPr "skips") (fVar 0)))) (fRet (fVar 4)) fSkip) ⟨[some P.av, some (.d (eN f)), some (.d (eN P.pa.length)), some (.d (.int (1 + (x : Int)))), b], g⟩ =
      some (if (f + (x + 1)) % P.pa.length ∉ P.sk then .rt (.d (eN ((f + (x + 1)) % P.pa.length))) ⟨[some P.av, some (.d (eN f)), some (.d (eN P.pa.length)), some (.d (.int (1 + (x : Int)))), some (.d (eN ((f + (x + 1)) % P.pa.length)))], g⟩
        else .nx ⟨[some P.av, some (.d (eN f)), some (.d (eN P.pa.length)), some (.d (.int (1 + (x : Int)))), some (.d (eN ((f + (x + 1)) % P.pa.length)))], g⟩) := by
  have hnil : P.pa ≠ [] := fun z => by rw [z] at h1; simp at h1
  have em : ((f : Int) + (1 + (x : Int))).fmod (P.pa.length : Nat) = (((f + (x + 1)) % P.pa.length : Nat) : Int) := by
    have e : ((f : Int) + (1 + (x : Int))) = ((f + (x + 1) : Nat) : Int) := by omega
    rw [e, fmod_nat]
  have hs : ∀ n : Nat, SeqAt.shaped (eN n) = true := fun n => rfl
  generalize hm : (f + (x + 1)) % P.pa.length = m at em ⊢
  generalize hn : P.pa.length = n at em ⊢
  have hz : (n : Int) ≠ 0 := by omega
  have e1 : dMod (.d (.int ((f : Int) + (1 + (x : Int))))) (.d (eN n)) = some (.d (eN m)) := by
    show (if (n : Int) ≠ 0 then some (AV.d (.int (((f : Int) + (1 + (x : Int))).fmod n))) else none) = _
    rw [if_pos hz, em]
  have e2 : dNotIn (.d (eN m)) (.d (eNs P.sk)) = some (.d (.bool (decide (m ∉ P.sk)))) := by
    show (if SeqAt.shaped (eN m) = true ∧ SeqAt.shaped (.list (P.sk.map eN)) = true then some (AV.d (.bool (!(P.sk.map eN).any fun z => PyData.eqv z (eN m)))) else none) = _
    rw [if_pos ⟨hs m, shaped_eNs⟩, any_eN]
    simp
  simp only [fSeq, fSet, f2, f1, fVar_eq, List.getElem?_cons_succ, List.getElem?_cons_zero, rdV_d, rdV_av, dAdd, e1, List.set_cons_succ, List.set_cons_zero, fIfS, fTst, dPr_sk, e2, fRet, fSkip]
  by_cases hc : m ∈ P.sk <;> simp [hc, rdV_d]
theorem nf_rng (P : Pg) (f : Nat) (g : LS) (hl : P.pa.length ≤ 100) : fRng2 (fCons (fC (.int 1)) (fCons (f2 dAdd (fVar 2) (fC (.int 1))) fNil)) ⟨[some P.av, some (.d (eN f)), some (.d (eN P.pa.length)), none, none], g⟩ =
      some ((List.range P.pa.length).map fun i => PyData.int (1 + ((i : Nat) : Int)), ⟨[some P.av, some (.d (eN f)), some (.d (eN P.pa.length)), none, none], g⟩) := by
  have h0 : fCons (fC (.int 1)) (fCons (f2 dAdd (fVar 2) (fC (.int 1))) fNil) ⟨[some P.av, some (.d (eN f)), some (.d (eN P.pa.length)), none, none], g⟩ = some ([.d (.int 1), .d (.int (((P.pa.length : Nat) : Int) + 1))], ⟨[some P.av, some (.d (eN f)), some (.d (eN P.pa.length)), none, none], g⟩) := rfl
  have b1 := b62 (n := 1) (by omega) (by omega)
  have b2 := b62 (n := ((P.pa.length : Nat) : Int) + 1) (by omega) (by omega)
  rw [fRng2_ev h0 ⟨b1.1, b1.2, b2.1, b2.2⟩, show (((P.pa.length : Nat) : Int) + 1 - 1).toNat = P.pa.length by omega]
  rfl
theorem next_focus_ev (A : Ad) (P : Pg) (f : Nat) (g : LS) (hl : P.pa.length ≤ 100) (h1 : 1 ≤ P.pa.length) : g_next_focus A [P.av, .d (eN f)] g = some (.d (eN (nextFocus P f)), g) := by
  have hr := nf_rng P f g hl
  have F := forGo_find (g := gNm 3) (gg := g) (fb := fSeq (fSet 4 (f2 dMod (f2 dAdd (fVar 1) (fVar 3)) (fVar 2))) (fIfS (fTst (f2 dNotIn (fVar 4) (f1 (dPr "skips") (fVar 0)))) (fRet (fVar 4)) fSkip)) (fun i : Nat => PyData.int (1 + (i : Int))) (fun i => decide ((f + (i + 1)) % P.pa.length ∉ P.sk)) (fun i => .d (eN ((f + (i + 1)) % P.pa.length)))
    (fun s => ∃ a b, s = (⟨[some P.av, some (.d (eN f)), some (.d (eN P.pa.length)), a, b], g⟩ : S)) (List.range P.pa.length) ⟨[some P.av, some (.d (eN f)), some (.d (eN P.pa.length)), none, none], g⟩ ⟨_, _, rfl⟩ (by
      rintro x hx s ⟨a, b, rfl⟩
      have e := nf_step P f x g a b h1
      refine ⟨_, ⟨[some P.av, some (.d (eN f)), some (.d (eN P.pa.length)), some (.d (.int (1 + (x : Int)))), some (.d (eN ((f + (x + 1)) % P.pa.length)))], g⟩, rfl, ?_⟩
      by_cases hc : (f + (x + 1)) % P.pa.length ∈ P.sk
      · rw [if_neg (fun z => z hc)] at e
        exact .inr ⟨decide_eq_false fun z => z hc, e, _, _, rfl⟩
      · rw [if_pos hc] at e
        exact .inl ⟨decide_eq_true hc, e, rfl⟩)
  have e2 : nextFocus P f = ((List.range P.pa.length).find? fun i => decide ((f + (i + 1)) % P.pa.length ∉ P.sk)).elim f fun i => (f + (i + 1)) % P.pa.length := by
    unfold nextFocus
    rw [List.find?_map]
    show (Option.map _ ((List.range P.pa.length).find? fun i => decide ((f + (i + 1)) % P.pa.length ∉ P.sk))).getD f = _
    cases (List.range P.pa.length).find? (fun i => decide ((f + (i + 1)) % P.pa.length ∉ P.sk)) <;> rfl
  have e1 : fSet 2 (fCB dLen (fCons (f1 (dPr "parts") (fVar 0)) fNil)) ⟨[some P.av, some (.d (eN f)), none, none, none], g⟩ = some (.nx ⟨[some P.av, some (.d (eN f)), some (.d (eN P.pa.length)), none, none], g⟩) := by
    simp [fSet, fCB, fCons, fNil, f1, fVar_eq, rdV_av, dPr_pa, dLen]
  rcases F with ⟨x, s', h2, h3, h4⟩ | ⟨s', h2, h3, a, b, rfl⟩
  · rw [h2] at e2
    have e3 : b_next_focus A (enter 5 [P.av, .d (eN f)] g) = some (.rt (.d (eN ((f + (x + 1)) % P.pa.length))) s') := by
      show fSeq _ (fSeq (fFor _ _ _) _) ⟨[some P.av, some (.d (eN f)), none, none, none], g⟩ = _
      rw [seq_nx e1]
      exact seq_rt ((for_ev hr).trans h3)
    have e4 := den_rt e3
    rw [h4] at e4
    rw [e2]
    exact e4
  · rw [h2] at e2
    have e3 : b_next_focus A (enter 5 [P.av, .d (eN f)] g) = some (.rt (.d (eN f)) ⟨[some P.av, some (.d (eN f)), some (.d (eN P.pa.length)), a, b], g⟩) := by
      show fSeq _ (fSeq (fFor _ _ _) _) ⟨[some P.av, some (.d (eN f)), none, none, none], g⟩ = _
      rw [seq_nx e1, seq_nx ((for_ev hr).trans h3)]
      rfl
    have e4 := den_rt e3
    rw [e2]
    exact e4
end Pu

set_option Elab.async false
set_option linter.all false
set_option maxRecDepth 100000
set_option maxHeartbeats 400000
/-! Pu, part E: changes_of, acts. -/
namespace Pu
open PySem Tk Tk.W
theorem dEq_str {a b : Str} (ha : PyData.strOk a = true) (hb : PyData.strOk b = true) : dEq (.d (.str a)) (.d (.str b)) = some (.d (.bool (a == b))) := by
  have h1 : SeqAt.shaped (.str a) = true := shaped_gd (n := 0) ha (by decide)
  have h2 : SeqAt.shaped (.str b) = true := shaped_gd (n := 0) hb (by decide)
  show (if SeqAt.shaped (.str a) = true ∧ SeqAt.shaped (.str b) = true then some (AV.d (.bool (PyData.eqv (.str a) (.str b)))) else none) = _
  rw [if_pos ⟨h1, h2⟩]
  rfl
theorem ok_tick : PyData.strOk "tick" = true := by decide +kernel
theorem ok_press : PyData.strOk "press" = true := by decide +kernel
theorem ok_point : PyData.strOk "point" = true := by decide +kernel
theorem ok_next : PyData.strOk "next" = true := by decide +kernel
theorem ok_speak : PyData.strOk "speak" = true := by decide +kernel
/-- the act's word -/
def aW : Act → Str
  | .point _ => "point"
  | .next => "next"
  | .press => "press"
  | .tick _ => "tick"
  | .speak => "speak"
theorem aW_ok (a : Act) : PyData.strOk (aW a) = true := by
  cases a
  · exact ok_point
  · exact ok_next
  · exact ok_press
  · exact ok_tick
  · exact ok_speak
theorem aW_at (a : Act) : avIx (.d (eA a)) (.d (.int 0)) = some (.str (aW a)) := by cases a <;> rfl
theorem atI_map' {α : Type} {f : α → PyData} {xs : List α} {i : Nat} {x : α} (h : xs[i]? = some x) : L2.atI (xs.map f) (i : Int) = some (f x) := atI_nat (by simp [h])
/-- act[0] == word -/
theorem word_ev {i : Nat} {w : Str} {s : S} {a : Act} (hw : PyData.strOk w = true) (h : s.Γ[i]? = some (some (.d (eA a)))) : fTst (f2 dEq (fIxV i (fC (.int 0))) (fC (.str w))) s = some (aW a == w, s) := by
  simp only [fTst, f2, fIxV, h, fC, aW_at, dEq_str (aW_ok a) hw]
/-- an act that the state allows -/
def actIn (P : Pg) (f : Nat) : Act → Prop
  | .tick i => i < P.tk.length
  | .press => ∃ p c, P.pa[f]? = some p ∧ p.press = some c
  | .point i => ∃ p c, P.pa[i]? = some p ∧ p.press = some c
  | _ => False
theorem if_ev {t : FB} {f h : FS} {s s1 : S} {b : Bool} (e : t s = some (b, s1)) : fIfS t f h s = if b then f s1 else h s1 := by unfold fIfS; rw [e]; cases b <;> rfl
theorem part_press {A : S} {P : Pg} {i : Nat} {p : Pt} {c : Ch} (h : P.pa[i]? = some p) (hc : p.press = some c) : f2 dIx (f2 dIx (f1 (dPr "parts") (fVar 0)) (fVar 3)) (fC (.int 2)) ⟨[some P.av, A.Γ.getD 0 none, A.Γ.getD 1 none, some (.d (eN i))], A.g⟩ = some (.d (ePs c), ⟨[some P.av, A.Γ.getD 0 none, A.Γ.getD 1 none, some (.d (eN i))], A.g⟩) := by
  have ix2 : L2.atI [eT p.look, eT p.word, eO p.press] 2 = some (ePs c) := by rw [hc]; rfl
  simp only [f2, f1, fVar_eq, List.getElem?_cons_succ, List.getElem?_cons_zero, rdV_av, dPr_pa, rdV_d, dIx, atI_map' h, Option.map_some, fC, ix2]
theorem changes_of_ev (A : Ad) (P : Pg) (f : Nat) (a : Act) (g : LS) (h : actIn P f a) : g_changes_of A [P.av, .d (eN f), .d (eA a)] g = some (.d (ePs (changesOf P f a)), g) := by
  have w1 := word_ev (i := 2) (s := ⟨[some P.av, some (.d (eN f)), some (.d (eA a)), none], g⟩) ok_tick rfl
  have w2 := word_ev (i := 2) (s := ⟨[some P.av, some (.d (eN f)), some (.d (eA a)), none], g⟩) ok_press rfl
  cases a with
  | tick i =>
    have hi : P.tk[i]? = some (P.tk.getD i []) := by simp [actIn] at h; simp [h]
    have e3 : b_changes_of A (enter 4 [P.av, .d (eN f), .d (eA (.tick i))] g) = some (.rt (.d (ePs (P.tk.getD i []))) ⟨[some P.av, some (.d (eN f)), some (.d (eA (.tick i))), none], g⟩) := by
      show fSeq _ _ _ = _
      refine seq_rt ((if_ev w1).trans ?_)
      have a1 : L2.atI [PyData.str "tick", eN i] 1 = some (eN i) := rfl
      show fRet _ _ = _
      simp only [fRet, f2, f1, fVar_eq, List.getElem?_cons_succ, List.getElem?_cons_zero, rdV_av, dPr_tk, fIxV, fC, eA, avIx, a1, dIx, atI_map' hi, Option.map_some]
    exact den_rt e3
  | press =>
    obtain ⟨p, c, h1, h2⟩ := h
    have e3 : b_changes_of A (enter 4 [P.av, .d (eN f), .d (eA .press)] g) = some (.rt (.d (ePs c)) ⟨[some P.av, some (.d (eN f)), some (.d (eA .press)), some (.d (eN f))], g⟩) := by
      show fSeq _ (fSeq _ _) ⟨[some P.av, some (.d (eN f)), some (.d (eA .press)), none], g⟩ = _
      rw [seq_nx ((if_ev w1).trans rfl)]
      refine (seq_nx (s1 := ⟨[some P.av, some (.d (eN f)), some (.d (eA .press)), some (.d (eN f))], g⟩) ?_).trans ?_
      · show fSet 3 (fIf _ _ _) _ = _
        simp only [fSet, fIf, w2]
        rfl
      · show fRet _ _ = _
        have := part_press (A := ⟨[some (.d (eN f)), some (.d (eA .press))], g⟩) h1 h2
        unfold fRet
        rw [show (⟨[some P.av, some (.d (eN f)), some (.d (eA .press)), some (.d (eN f))], g⟩ : S) = ⟨[some P.av, List.getD [some (.d (eN f)), some (.d (eA .press))] 0 none, List.getD [some (.d (eN f)), some (.d (eA .press))] 1 none, some (.d (eN f))], g⟩ from rfl, this]
    have e4 := den_rt e3
    have e5 : changesOf P f .press = c := by simp [changesOf, pressOf, h1, h2]
    rw [e5]; exact e4
  | point i =>
    obtain ⟨p, c, h1, h2⟩ := h
    have e3 : b_changes_of A (enter 4 [P.av, .d (eN f), .d (eA (.point i))] g) = some (.rt (.d (ePs c)) ⟨[some P.av, some (.d (eN f)), some (.d (eA (.point i))), some (.d (eN i))], g⟩) := by
      show fSeq _ (fSeq _ _) ⟨[some P.av, some (.d (eN f)), some (.d (eA (.point i))), none], g⟩ = _
      rw [seq_nx ((if_ev w1).trans rfl)]
      refine (seq_nx (s1 := ⟨[some P.av, some (.d (eN f)), some (.d (eA (.point i))), some (.d (eN i))], g⟩) ?_).trans ?_
      · show fSet 3 (fIf _ _ _) _ = _
        simp only [fSet, fIf, w2]
        rfl
      · show fRet _ _ = _
        have := part_press (A := ⟨[some (.d (eN f)), some (.d (eA (.point i)))], g⟩) h1 h2
        unfold fRet
        rw [show (⟨[some P.av, some (.d (eN f)), some (.d (eA (.point i))), some (.d (eN i))], g⟩ : S) = ⟨[some P.av, List.getD [some (.d (eN f)), some (.d (eA (.point i)))] 0 none, List.getD [some (.d (eN f)), some (.d (eA (.point i)))] 1 none, some (.d (eN i))], g⟩ from rfl, this]
    have e4 := den_rt e3
    have e5 : changesOf P f (.point i) = c := by simp [changesOf, pressOf, h1, h2]
    rw [e5]; exact e4
  | next => exact h.elim
  | speak => exact h.elim
end Pu

set_option Elab.async false
set_option linter.all false
set_option maxRecDepth 100000
set_option maxHeartbeats 1000000
/-! Pu, part W: what a denotation leads to, said by what follows (rules that simp uses from the outside in). -/
namespace Pu
open PySem Tk

def WV {α : Type} (o : Option α) (Q : α → Prop) : Prop := ∃ r, o = some r ∧ Q r
def WE (f : FE) (s : S) (Q : AV → S → Prop) : Prop := WV (f s) fun p => Q p.1 p.2
def WB (f : FB) (s : S) (Q : Bool → S → Prop) : Prop := WV (f s) fun p => Q p.1 p.2
def WA (f : FA) (s : S) (Q : List AV → S → Prop) : Prop := WV (f s) fun p => Q p.1 p.2
def WL (f : FL) (s : S) (Q : List PyData → S → Prop) : Prop := WV (f s) fun p => Q p.1 p.2
def WD (f : FD) (s : S) (Q : List (PyData × PyData) → S → Prop) : Prop := WV (f s) fun p => Q p.1 p.2
def WT (f : FT) (s : S) (Q : List (Str × PyData) → S → Prop) : Prop := WV (f s) fun p => Q p.1 p.2
def WO (f : FO) (s : S) (Q : Option Int → S → Prop) : Prop := WV (f s) fun p => Q p.1 p.2
def WS (f : FS) (s : S) (Q : Out → Prop) : Prop := WV (f s) Q
def WG (g : FG) (a : AV) (s : S) (Q : S → Prop) : Prop := WV (g a s) Q
def WGs (g : FGs) (a : List PyData) (s : S) (Q : S → Prop) : Prop := WV (g a s) Q
/-- a call -/
def WC (g : Den) (as : List AV) (l : LS) (Q : AV → LS → Prop) : Prop := WV (g as l) fun p => Q p.1 p.2
/-- what follows a statement in its block -/
def KSeq (h : FS) (Q : Out → Prop) : Out → Prop
  | .nx s => WS h s Q
  | o => Q o
def KRet (Q : AV → LS → Prop) : Out → Prop
  | .rt v s => Q v s.g
  | .nx s => Q (.d .none) s.g
  | _ => False
/-- what follows a turn of a loop -/
def KTurn (N : S → Prop) (Q : Out → Prop) : Out → Prop
  | .nx s => N s
  | .ct s => N s
  | .bk s => Q (.nx s)
  | .rt v s => Q (.rt v s)
/-- a choice -/
def WIf (b : Bool) (p q : Prop) : Prop := if b = true then p else q
/-- an answer of a test -/
def WTst (a : AV) (Q : Bool → Prop) : Prop := WV (match a with | .d (.bool b) => some b | _ => none) Q

section
variable {s : S} {Q : AV → S → Prop} {R : Out → Prop}
@[simp] theorem wv_some {α : Type} {r : α} {Q : α → Prop} : WV (some r) Q = Q r := by simp [WV]
@[simp] theorem wv_none {α : Type} {Q : α → Prop} : WV (none : Option α) Q = False := by simp [WV]
theorem WV.mono {α : Type} {o : Option α} {P Q : α → Prop} (h : WV o P) (q : ∀ r, P r → Q r) : WV o Q := let ⟨r, a, b⟩ := h; ⟨r, a, q r b⟩
theorem WV.of {α : Type} {o : Option α} {r : α} {Q : α → Prop} (h : o = some r) (q : Q r) : WV o Q := ⟨r, h, q⟩
theorem WS.mono {f : FS} {P Q : Out → Prop} (h : WS f s P) (q : ∀ r, P r → Q r) : WS f s Q := WV.mono h q
theorem WE.mono {f : FE} {P Q : AV → S → Prop} (h : WE f s P) (q : ∀ r t, P r t → Q r t) : WE f s Q := WV.mono h fun _ z => q _ _ z
theorem WC.mono {g : Den} {as : List AV} {l : LS} {P Q : AV → LS → Prop} (h : WC g as l P) (q : ∀ r t, P r t → Q r t) : WC g as l Q := WV.mono h fun _ z => q _ _ z
theorem WC.of {g : Den} {as : List AV} {l l' : LS} {r : AV} {Q : AV → LS → Prop} (h : g as l = some (r, l')) (q : Q r l') : WC g as l Q := WV.of h q

theorem we_var {i : Nat} : WE (fVar i) s Q = WV (rdV s.Γ[i]? i s) fun p => Q p.1 p.2 := rfl
theorem we_C {x : PyData} : WE (fC x) s Q = Q (.d x) s := by unfold WE fC; rw [wv_some]
theorem we_fn {x : Addr} : WE (fFn x) s Q = Q (.fn x) s := by unfold WE fFn; rw [wv_some]
theorem we_f2 {fo : AV → AV → Option AV} {a b : FE} : WE (f2 fo a b) s Q = WE a s fun x s1 => WE b s1 fun y s2 => WV (fo x y) fun r => Q r s2 := by
  unfold WE f2
  cases a s with
  | none => simp
  | some p =>
    obtain ⟨x, s1⟩ := p
    simp only [wv_some]
    cases b s1 with
    | none => simp
    | some p =>
      obtain ⟨y, s2⟩ := p
      simp only [wv_some]
      cases fo x y <;> simp
theorem we_f1 {fo : AV → Option AV} {a : FE} : WE (f1 fo a) s Q = WE a s fun x s1 => WV (fo x) fun r => Q r s1 := by
  unfold WE f1
  cases a s with
  | none => simp
  | some p =>
    obtain ⟨x, s1⟩ := p
    simp only [wv_some]
    cases fo x <;> simp
theorem we_chain {fo fo' : AV → AV → Option AV} {a b c : FE} : WE (fChain fo fo' a b c) s Q = WE a s fun x s1 => WE b s1 fun y s2 => WV (fo x y) fun r => WTst r fun t => WIf t (WE c s2 fun z s3 => WV (fo' y z) fun r => Q r s3) (Q (.d (.bool false)) s2) := by
  unfold WE fChain WTst
  cases a s with
  | none => simp
  | some p =>
    obtain ⟨x, s1⟩ := p
    simp only [wv_some]
    cases b s1 with
    | none => simp
    | some p =>
      obtain ⟨y, s2⟩ := p
      simp only [wv_some]
      cases fo x y with
      | none => simp
      | some r =>
        simp only [wv_some]
        split
        · rename_i h; cases h; simp only [wv_some, WIf, if_true]
          cases c s2 with
          | none => simp
          | some p =>
            obtain ⟨z, s3⟩ := p
            simp only [wv_some]
            cases fo' y z <;> simp
        · rename_i h; cases h; simp [WIf]
        · rename_i h1 h2
          simp only [wv_none]
          split
          · rename_i t
            cases t
            · exact absurd rfl h2
            · exact absurd rfl h1
          · simp
theorem wb_tst {a : FE} {Q : Bool → S → Prop} : WB (fTst a) s Q = WE a s fun x s1 => WTst x fun b => Q b s1 := by
  unfold WB WE fTst WTst
  cases a s with
  | none => simp
  | some p =>
    obtain ⟨x, s1⟩ := p
    simp only [wv_some]
    split <;> rename_i h
    · simp only [Option.some.injEq, Prod.mk.injEq] at h; obtain ⟨rfl, rfl⟩ := h; simp
    · split
      · exact absurd rfl (h _ _)
      · simp
@[simp] theorem wtst_b {b : Bool} {Q : Bool → Prop} : WTst (.d (.bool b)) Q = Q b := by simp [WTst]
theorem wb_tru {a : FE} {Q : Bool → S → Prop} : WB (fTru a) s Q = WE a s fun x s1 => WV (tru x) fun b => Q b s1 := by
  unfold WB WE fTru
  cases a s with
  | none => simp
  | some p =>
    obtain ⟨x, s1⟩ := p
    simp only [wv_some]
    cases tru x <;> simp
theorem wb_and {a b : FB} {Q : Bool → S → Prop} : WB (fAnd a b) s Q = WB a s fun x s1 => WIf x (WB b s1 Q) (Q false s1) := by
  unfold WB fAnd
  cases a s with
  | none => simp
  | some p => obtain ⟨x, s1⟩ := p; cases x <;> simp [WIf]
theorem wb_or {a b : FB} {Q : Bool → S → Prop} : WB (fOr a b) s Q = WB a s fun x s1 => WIf x (Q true s1) (WB b s1 Q) := by
  unfold WB fOr
  cases a s with
  | none => simp
  | some p => obtain ⟨x, s1⟩ := p; cases x <;> simp [WIf]
theorem wb_not {a : FB} {Q : Bool → S → Prop} : WB (fNot a) s Q = WB a s fun x s1 => Q (!x) s1 := by
  unfold WB fNot
  cases a s with
  | none => simp
  | some p => obtain ⟨x, s1⟩ := p; simp
theorem wb_yes {Q : Bool → S → Prop} : WB fYes s Q = Q true s := by simp [WB, fYes]
theorem we_andV {a b : FE} : WE (fAndV a b) s Q = WE a s fun x s1 => WTst x fun t => WIf t (WE b s1 Q) (Q (.d (.bool false)) s1) := by
  unfold WE fAndV WTst
  cases a s with
  | none => simp
  | some p =>
    obtain ⟨x, s1⟩ := p
    simp only [wv_some]
    split <;> rename_i h
    · cases h; simp [WIf]
    · cases h; simp [WIf]
    · rename_i h2
      split
      · rename_i t; cases t
        · first | exact absurd rfl (h2 _) | exact absurd rfl (h _)
        · first | exact absurd rfl (h2 _) | exact absurd rfl (h _)
      · simp
theorem we_orV {a b : FE} : WE (fOrV a b) s Q = WE a s fun x s1 => WTst x fun t => WIf t (Q (.d (.bool true)) s1) (WE b s1 Q) := by
  unfold WE fOrV WTst
  cases a s with
  | none => simp
  | some p =>
    obtain ⟨x, s1⟩ := p
    simp only [wv_some]
    split <;> rename_i h
    · cases h; simp [WIf]
    · cases h; simp [WIf]
    · rename_i h2
      split
      · rename_i t; cases t
        · first | exact absurd rfl (h2 _) | exact absurd rfl (h _)
        · first | exact absurd rfl (h2 _) | exact absurd rfl (h _)
      · simp
theorem we_notV {a : FE} : WE (fNotV a) s Q = WE a s fun x s1 => WTst x fun t => Q (.d (.bool (!t))) s1 := by
  unfold WE fNotV WTst
  cases a s with
  | none => simp
  | some p =>
    obtain ⟨x, s1⟩ := p
    simp only [wv_some]
    split <;> rename_i h
    · cases h; simp
    · split
      · exact absurd rfl (h _ _)
      · simp
theorem we_if {t : FB} {a b : FE} : WE (fIf t a b) s Q = WB t s fun x s1 => WIf x (WE a s1 Q) (WE b s1 Q) := by
  unfold WE WB fIf
  cases t s with
  | none => simp
  | some p => obtain ⟨x, s1⟩ := p; cases x <;> simp [WIf]
theorem wa_nil {Q : List AV → S → Prop} : WA fNil s Q = Q [] s := by simp [WA, fNil]
theorem wa_cons {a : FE} {r : FA} {Q : List AV → S → Prop} : WA (fCons a r) s Q = WE a s fun x s1 => WA r s1 fun xs s2 => Q (x :: xs) s2 := by
  unfold WA WE fCons
  cases a s with
  | none => simp
  | some p =>
    obtain ⟨x, s1⟩ := p
    simp only [wv_some]
    cases r s1 <;> simp
theorem we_tup {a : FA} : WE (fTup a) s Q = WA a s fun as s1 => WV (dats as) fun ds => Q (.d (.tuple ds)) s1 := by
  unfold WA WE fTup
  cases a s with
  | none => simp
  | some p => obtain ⟨as, s1⟩ := p; simp only [wv_some]; cases dats as <;> simp
theorem wl_lst {a : FA} {Q : List PyData → S → Prop} : WL (fLst a) s Q = WA a s fun as s1 => WV (dats as) fun ds => Q ds s1 := by
  unfold WA WL fLst
  cases a s with
  | none => simp
  | some p => obtain ⟨as, s1⟩ := p; simp only [wv_some]; cases dats as <;> simp
theorem we_ofL {f : FL} : WE (fOfL f) s Q = WL f s fun ds s1 => Q (.d (.list ds)) s1 := by
  unfold WE WL fOfL
  cases f s <;> simp
/-- what a loop goes over -/
def seqOf : AV → Option (List PyData)
  | .d (.tuple xs) => some xs
  | .d (.list xs) => some xs
  | _ => none
theorem wl_it {a : FE} {Q : List PyData → S → Prop} : WL (fIt a) s Q = WE a s fun x s1 => WV (seqOf x) fun xs => Q xs s1 := by
  unfold WE WL fIt
  cases a s with
  | none => simp
  | some p =>
    obtain ⟨x, s1⟩ := p
    simp only [wv_some]
    split <;> rename_i h
    · cases h; simp [seqOf]
    · cases h; simp [seqOf]
    · rename_i h2
      have : seqOf x = none := by
        unfold seqOf
        split
        · first | exact absurd rfl (h _ _) | exact absurd rfl (h2 _ _)
        · first | exact absurd rfl (h _ _) | exact absurd rfl (h2 _ _)
        · rfl
      rw [this]; simp
theorem we_CB {fo : List AV → Option AV} {f : FA} : WE (fCB fo f) s Q = WA f s fun as s1 => WV (fo as) fun r => Q r s1 := by
  unfold WE WA fCB
  cases f s with
  | none => simp
  | some p => obtain ⟨as, s1⟩ := p; simp only [wv_some]; cases fo as <;> simp
theorem wl_CL {fo : List AV → Option (List PyData)} {f : FA} {Q : List PyData → S → Prop} : WL (fCL fo f) s Q = WA f s fun as s1 => WV (fo as) fun r => Q r s1 := by
  unfold WL WA fCL
  cases f s with
  | none => simp
  | some p => obtain ⟨as, s1⟩ := p; simp only [wv_some]; cases fo as <;> simp
theorem we_call {g : Den} {f : FA} : WE (fCall g f) s Q = WA f s fun as s1 => WC g as s1.g fun r l => Q r ⟨s1.Γ, l⟩ := by
  unfold WE WA WC fCall
  cases f s with
  | none => simp
  | some p => obtain ⟨as, s1⟩ := p; simp only [wv_some]; cases g as s1.g <;> simp
theorem we_callV {i : Nat} {T : Addr → Option Den} {f : FA} {a : Addr} {g : Den} (h : s.Γ[i]? = some (some (.fn a))) (hg : T a = some g) : WE (fCallV i T f) s Q = WE (fCall g f) s Q := by
  unfold WE fCallV
  rw [h]
  simp only [hg]
theorem wc_den {n : Nat} {fb : FS} {as : List AV} {l : LS} {Q : AV → LS → Prop} : WC (denF n fb) as l Q = WS fb (enter n as l) (KRet Q) := by
  unfold WC WS denF KRet
  cases fb (enter n as l) with
  | none => simp
  | some o => cases o <;> simp
theorem wg_nm {i : Nat} {a : AV} {Q : S → Prop} : WG (gNm i) a s Q = Q ⟨s.Γ.set i (some a), s.g⟩ := by simp [WG, gNm]
theorem wgs_nil {Q : S → Prop} : WGs gsNil [] s Q = Q s := by simp [WGs, gsNil]
theorem wgs_cons {g : FG} {r : FGs} {d : PyData} {ds : List PyData} {Q : S → Prop} : WGs (gsCons g r) (d :: ds) s Q = WG g (.d d) s fun s1 => WGs r ds s1 Q := by
  unfold WGs WG gsCons
  simp only []
  cases g (.d d) s <;> simp
theorem wg_tp {n : Nat} {g : FGs} {ds : List PyData} {Q : S → Prop} (h : ds.length = n) : WG (gTp n g) (.d (.tuple ds)) s Q = WGs g ds s Q := by
  unfold WG WGs gTp
  simp only [h, if_true]
theorem ws_seq {f h : FS} : WS (fSeq f h) s R = WS f s (KSeq h R) := by
  unfold WS fSeq KSeq
  cases f s with
  | none => simp
  | some o => cases o <;> simp [WS]
theorem ks_nx {h : FS} {t : S} : KSeq h R (.nx t) = WS h t R := rfl
theorem ks_rt {h : FS} {t : S} {v : AV} : KSeq h R (.rt v t) = R (.rt v t) := rfl
theorem ks_bk {h : FS} {t : S} : KSeq h R (.bk t) = R (.bk t) := rfl
theorem ks_ct {h : FS} {t : S} : KSeq h R (.ct t) = R (.ct t) := rfl
theorem kr_rt {t : S} {v : AV} {Q : AV → LS → Prop} : KRet Q (.rt v t) = Q v t.g := rfl
theorem kr_nx {t : S} {Q : AV → LS → Prop} : KRet Q (.nx t) = Q (.d .none) t.g := rfl
theorem kt_nx {t : S} {N : S → Prop} : KTurn N R (.nx t) = N t := rfl
theorem kt_ct {t : S} {N : S → Prop} : KTurn N R (.ct t) = N t := rfl
theorem kt_bk {t : S} {N : S → Prop} : KTurn N R (.bk t) = R (.nx t) := rfl
theorem kt_rt {t : S} {v : AV} {N : S → Prop} : KTurn N R (.rt v t) = R (.rt v t) := rfl
theorem ws_skip : WS fSkip s R = R (.nx s) := by simp [WS, fSkip]
theorem ws_break : WS fBreak s R = R (.bk s) := by simp [WS, fBreak]
theorem ws_cont : WS fCont s R = R (.ct s) := by simp [WS, fCont]
theorem ws_never : WS fNever s R = False := by simp [WS, fNever]
theorem ws_set {i : Nat} {f : FE} : WS (fSet i f) s R = WE f s fun a s1 => R (.nx ⟨s1.Γ.set i (some a), s1.g⟩) := by
  unfold WS WE fSet
  cases f s <;> simp
theorem ws_setL {i : Nat} {f : FL} : WS (fSetL i f) s R = WL f s fun xs s1 => R (.nx ⟨s1.Γ.set i (some (.ml xs)), s1.g⟩) := by
  unfold WS WL fSetL
  cases f s <;> simp
theorem ws_setD {i : Nat} {f : FD} : WS (fSetD i f) s R = WD f s fun xs s1 => R (.nx ⟨s1.Γ.set i (some (.md xs)), s1.g⟩) := by
  unfold WS WD fSetD
  cases f s <;> simp
theorem ws_asg {g : FG} {f : FE} : WS (fAsg g f) s R = WE f s fun a s1 => WG g a s1 fun s2 => R (.nx s2) := by
  unfold WS WE WG fAsg
  cases f s with
  | none => simp
  | some p => obtain ⟨a, s1⟩ := p; simp only [wv_some]; cases g a s1 <;> simp
theorem ws_ret {f : FE} : WS (fRet f) s R = WE f s fun a s1 => R (.rt a s1) := by
  unfold WS WE fRet
  cases f s <;> simp
theorem ws_retN : WS fRetN s R = R (.rt (.d .none) s) := by simp [WS, fRetN]
theorem ws_if {t : FB} {f h : FS} : WS (fIfS t f h) s R = WB t s fun b s1 => WIf b (WS f s1 R) (WS h s1 R) := by
  unfold WS WB fIfS
  cases t s with
  | none => simp
  | some p => obtain ⟨x, s1⟩ := p; cases x <;> simp [WIf]
@[simp] theorem wif_t {p q : Prop} : WIf true p q = p := by simp [WIf]
@[simp] theorem wif_f {p q : Prop} : WIf false p q = q := by simp [WIf]
@[simp] theorem wif_not {b : Bool} {p q : Prop} : WIf (!b) p q = WIf b q p := by cases b <;> simp
theorem wif_dec {c p q : Prop} [Decidable c] : WIf (decide c) p q = if c then p else q := by simp [WIf]
theorem WIf.of {b : Bool} {p q : Prop} (h1 : b = true → p) (h2 : b = false → q) : WIf b p q := by cases b <;> simp_all
theorem WIf.dec {c p q : Prop} [Decidable c] (h1 : c → p) (h2 : ¬ c → q) : WIf (decide c) p q := WIf.of (fun h => h1 (of_decide_eq_true h)) fun h => h2 (of_decide_eq_false h)
def lenOf : Option (Option AV) → Option Nat
  | some (some (.ml xs)) => some xs.length
  | some (some (.d (.list xs))) => some xs.length
  | some (some (.d (.tuple xs))) => some xs.length
  | _ => none
theorem we_lenV {i : Nat} : WE (fLenV i) s Q = WV (lenOf s.Γ[i]?) fun n => Q (.d (.int (n : Nat))) s := by
  unfold WE fLenV
  generalize s.Γ[i]? = o
  cases o with
  | none => simp [lenOf]
  | some o =>
    cases o with
    | none => simp [lenOf]
    | some a =>
      cases a with
      | d x => cases x <;> simp [lenOf]
      | ml x => simp [lenOf]
      | _ => simp [lenOf]
theorem we_ixV {i : Nat} {f : FE} : WE (fIxV i f) s Q = WV (s.Γ[i]?.bind id) fun _ => WE f s fun y s1 => WV (s1.Γ[i]?.bind id) fun c => WV (avIx c y) fun d => Q (.d d) s1 := by
  unfold WE fIxV
  cases s.Γ[i]? with
  | none => simp
  | some o =>
    cases o with
    | none => simp
    | some c0 =>
      simp only [Option.bind_some, id, wv_some]
      cases f s with
      | none => simp
      | some p =>
        obtain ⟨y, s1⟩ := p
        simp only [wv_some]
        cases s1.Γ[i]? with
        | none => simp
        | some o =>
          cases o with
          | none => simp
          | some c =>
            simp only [Option.bind_some, id, wv_some]
            cases avIx c y <;> simp
theorem we_inV {n : Bool} {i : Nat} {f : FE} : WE (fInV n i f) s Q = WE f s fun y s1 => WV (s1.Γ[i]?.bind id) fun c => WV (avIn y c) fun b => Q (.d (.bool (if n then !b else b))) s1 := by
  unfold WE fInV
  cases f s with
  | none => simp
  | some p =>
    obtain ⟨y, s1⟩ := p
    simp only [wv_some]
    cases s1.Γ[i]? with
    | none => simp
    | some o =>
      cases o with
      | none => simp
      | some c =>
        simp only [Option.bind_some, id, wv_some]
        cases avIn y c <;> simp
def datOf : AV → Option PyData
  | .d x => some x
  | _ => none
def mlOf : Option (Option AV) → Option (List PyData)
  | some (some (.ml xs)) => some xs
  | _ => none
theorem ws_app {i : Nat} {f : FE} (h : (mlOf s.Γ[i]?).isSome = true) : WS (fApp i f) s R = WE f s fun a s1 => WV (datOf a) fun y => WV (mlOf s1.Γ[i]?) fun xs => xs.length < sizeLine ∧ R (.nx ⟨s1.Γ.set i (some (.ml (xs ++ [y]))), s1.g⟩) := by
  have h0 : ∃ xs, s.Γ[i]? = some (some (.ml xs)) := by
    revert h
    cases s.Γ[i]? with
    | none => simp [mlOf]
    | some o =>
      cases o with
      | none => simp [mlOf]
      | some a => cases a <;> simp [mlOf]
  obtain ⟨xs0, h0⟩ := h0
  unfold WS WE fApp
  rw [h0]
  simp only []
  cases f s with
  | none => simp
  | some p =>
    obtain ⟨a, s1⟩ := p
    simp only [wv_some]
    cases a with
    | d y =>
      simp only [datOf, wv_some]
      cases s1.Γ[i]? with
      | none => simp [mlOf]
      | some o =>
        cases o with
        | none => simp [mlOf]
        | some a =>
          cases a with
          | ml xs =>
            simp only [mlOf, wv_some]
            by_cases c : xs.length < sizeLine <;> simp [c]
          | _ => simp [mlOf]
    | _ => simp [datOf]
def lstOf : AV → Option (List PyData)
  | .d (.list x) => some x
  | _ => none
theorem ws_ext {i : Nat} {f : FE} (h : (mlOf s.Γ[i]?).isSome = true) : WS (fExt i f) s R = WE f s fun a s1 => WV (lstOf a) fun ys => WV (mlOf s1.Γ[i]?) fun xs => xs.length + ys.length ≤ sizeLine ∧ R (.nx ⟨s1.Γ.set i (some (.ml (xs ++ ys))), s1.g⟩) := by
  have h0 : ∃ xs, s.Γ[i]? = some (some (.ml xs)) := by
    revert h
    cases s.Γ[i]? with
    | none => simp [mlOf]
    | some o =>
      cases o with
      | none => simp [mlOf]
      | some a => cases a <;> simp [mlOf]
  obtain ⟨xs0, h0⟩ := h0
  unfold WS WE fExt
  rw [h0]
  simp only []
  cases f s with
  | none => simp
  | some p =>
    obtain ⟨a, s1⟩ := p
    simp only [wv_some]
    split <;> rename_i hp
    · simp only [Option.some.injEq, Prod.mk.injEq] at hp
      obtain ⟨rfl, rfl⟩ := hp
      simp only [lstOf, wv_some]
      cases s1.Γ[i]? with
      | none => simp [mlOf]
      | some o =>
        cases o with
        | none => simp [mlOf]
        | some a =>
          cases a with
          | ml xs =>
            simp only [mlOf, wv_some]
            split
            · rename_i c; simp [c]
            · rename_i c; simp [c]
          | _ => simp [mlOf]
    · have : lstOf a = none := by
        unfold lstOf
        split
        · exact absurd rfl (hp _ _)
        · rfl
      rw [this]; simp
theorem ws_setIx {i : Nat} {fk fv : FE} : WS (fSetIx i fk fv) s R = WE fv s fun a s1 => WV (datOf a) fun z => WV (s1.Γ[i]?.bind id) fun _ => WE fk s1 fun y s2 => WV (s2.Γ[i]?.bind id) fun c => WV (avSet c y z) fun c' => R (.nx ⟨s2.Γ.set i (some c'), s2.g⟩) := by
  unfold WS WE fSetIx
  cases fv s with
  | none => simp
  | some p =>
    obtain ⟨a, s1⟩ := p
    simp only [wv_some]
    cases a with
    | d z =>
      simp only [datOf, wv_some]
      cases s1.Γ[i]? with
      | none => simp
      | some o =>
        cases o with
        | none => simp
        | some c0 =>
          simp only [Option.bind_some, id, wv_some]
          cases fk s1 with
          | none => simp
          | some p =>
            obtain ⟨y, s2⟩ := p
            simp only [wv_some]
            cases s2.Γ[i]? with
            | none => simp
            | some o =>
              cases o with
              | none => simp
              | some c =>
                simp only [Option.bind_some, id, wv_some]
                cases avSet c y z <;> simp
    | _ => simp [datOf]
theorem wo_none {Q : Option Int → S → Prop} : WO foNone s Q = Q none s := by simp [WO, foNone]
def intOf : AV → Option Int
  | .d (.int i) => some i
  | _ => none
theorem wo_some {f : FE} {Q : Option Int → S → Prop} : WO (foSome f) s Q = WE f s fun a s1 => WV (intOf a) fun i => Q (some i) s1 := by
  unfold WO WE foSome
  cases f s with
  | none => simp
  | some p =>
    obtain ⟨a, s1⟩ := p
    simp only [wv_some]
    split <;> rename_i hp
    · simp only [Option.some.injEq, Prod.mk.injEq] at hp
      obtain ⟨rfl, rfl⟩ := hp
      simp [intOf]
    · have : intOf a = none := by
        unfold intOf
        split
        · exact absurd rfl (hp _ _)
        · rfl
      rw [this]; simp
theorem we_sl {fa : FE} {fl fh : FO} : WE (fSl fa fl fh) s Q = WE fa s fun x s1 => WO fl s1 fun lo s2 => WO fh s2 fun hi s3 => WV (dSl x lo hi) fun r => Q r s3 := by
  unfold WE WO fSl
  cases fa s with
  | none => simp
  | some p =>
    obtain ⟨a, s1⟩ := p
    simp only [wv_some]
    cases fl s1 with
    | none => simp
    | some p =>
      obtain ⟨lo, s2⟩ := p
      simp only [wv_some]
      cases fh s2 with
      | none => simp
      | some p =>
        obtain ⟨hi, s3⟩ := p
        simp only [wv_some]
        cases dSl a lo hi <;> simp
theorem wd_disp1 {fk fv : FE} {Q : List (PyData × PyData) → S → Prop} : WD (fDisp1 fk fv) s Q = WE fk s fun a s1 => WV (datOf a) fun k => WE fv s1 fun b s2 => WV (datOf b) fun v => (keyOf k).isSome = true ∧ Q [(k, v)] s2 := by
  unfold WD WE fDisp1
  cases fk s with
  | none => simp
  | some p =>
    obtain ⟨a, s1⟩ := p
    simp only [wv_some]
    cases a with
    | d k =>
      simp only [datOf, wv_some]
      cases fv s1 with
      | none => simp
      | some p =>
        obtain ⟨b, s2⟩ := p
        simp only [wv_some]
        cases b with
        | d v => simp only [wv_some]; split <;> simp_all
        | _ => simp
    | _ => simp [datOf]
theorem wt_nil {Q : List (Str × PyData) → S → Prop} : WT ftNil s Q = Q [] s := by simp [WT, ftNil]
theorem wt_cons {x : Str} {f : FE} {r : FT} {Q : List (Str × PyData) → S → Prop} : WT (ftCons x f r) s Q = WE f s fun a s1 => WV (datOf a) fun v => WT r s1 fun kvs s2 => Q ((x, v) :: kvs) s2 := by
  unfold WT WE ftCons
  cases f s with
  | none => simp
  | some p =>
    obtain ⟨a, s1⟩ := p
    simp only [wv_some]
    cases a with
    | d k =>
      simp only [datOf, wv_some]
      cases r s1 <;> simp
    | _ => simp [datOf]
theorem we_dispT {f : FT} : WE (fDispT f) s Q = WT f s fun kvs s1 => (kvs.length ≤ 15 ∧ (kvs.map (·.1)).Nodup) ∧ Q (.ft kvs) s1 := by
  unfold WE WT fDispT
  cases f s with
  | none => simp
  | some p =>
    obtain ⟨kvs, s1⟩ := p
    simp only [wv_some]
    split
    · rename_i h; simp only [h.1, h.2, wv_some, and_self, true_and]
    · rename_i h; simp only [wv_none, false_iff, eq_iff_iff]; exact fun z => h z.1
theorem wl_rng1 {f : FA} {Q : List PyData → S → Prop} {n : Int} {s1 : S} (hb : -(2 ^ 62) ≤ n ∧ n < 2 ^ 62) (h : WA f s fun as t => as = [.d (.int n)] ∧ t = s1) (q : Q (rng 0 n.toNat) s1) : WL (fRng1 f) s Q := by
  obtain ⟨p, h1, h2, h3⟩ := h
  obtain ⟨as, t⟩ := p
  simp only at h2 h3
  subst h2 h3
  exact WV.of (fRng1_ev h1 hb) q
theorem ws_ls1 {i : Nat} (h : isLp s.Γ[i]? = true) : WE (fLs1 i) s Q = Q (.d (.int s.g.2.1)) s := by unfold WE fLs1; rw [if_pos h, wv_some]
theorem ws_ls2 {i : Nat} (h : isLp s.Γ[i]? = true) : WE (fLs2 i) s Q = Q (.d (.int s.g.2.2)) s := by unfold WE fLs2; rw [if_pos h, wv_some]
theorem ws_lsLen {i : Nat} (h : isLp s.Γ[i]? = true) (hl : s.g.1.length ≤ sizeLine) : WE (fLsLen i) s Q = Q (.d (.int s.g.1.length)) s := by unfold WE fLsLen; rw [if_pos ⟨h, hl⟩, wv_some]
theorem ws_lsSet1 {i : Nat} {f : FE} : WS (fLsSet1 i f) s R = WE f s fun a s1 => WV (intOf a) fun v => isLp s1.Γ[i]? = true ∧ R (.nx ⟨s1.Γ, (s1.g.1, v, s1.g.2.2)⟩) := by
  unfold WS WE fLsSet1
  cases f s with
  | none => simp
  | some p =>
    obtain ⟨a, s1⟩ := p
    simp only [wv_some]
    split <;> rename_i hp
    · simp only [Option.some.injEq, Prod.mk.injEq] at hp
      obtain ⟨rfl, rfl⟩ := hp
      simp only [intOf, wv_some]
      split <;> simp_all
    · have : intOf a = none := by
        unfold intOf
        split
        · exact absurd rfl (hp _ _)
        · rfl
      rw [this]; simp
theorem ws_lsSet2 {i : Nat} {f : FE} : WS (fLsSet2 i f) s R = WE f s fun a s1 => WV (intOf a) fun v => isLp s1.Γ[i]? = true ∧ R (.nx ⟨s1.Γ, (s1.g.1, s1.g.2.1, v)⟩) := by
  unfold WS WE fLsSet2
  cases f s with
  | none => simp
  | some p =>
    obtain ⟨a, s1⟩ := p
    simp only [wv_some]
    split <;> rename_i hp
    · simp only [Option.some.injEq, Prod.mk.injEq] at hp
      obtain ⟨rfl, rfl⟩ := hp
      simp only [intOf, wv_some]
      split <;> simp_all
    · have : intOf a = none := by
        unfold intOf
        split
        · exact absurd rfl (hp _ _)
        · rfl
      rw [this]; simp
theorem we_lsPop {i : Nat} {c : Int} {cs : List Int} {a b : Int} {Γ : List (Option AV)} (h : isLp Γ[i]? = true) : WE (fLsPop i) ⟨Γ, (c :: cs, a, b)⟩ Q = Q (.d (.int c)) ⟨Γ, (cs, a, b)⟩ := by
  unfold WE fLsPop
  rw [if_pos h, wv_some]
theorem ws_aug {i : Nat} {f : FE} {x : Int} (h : s.Γ[i]? = some (some (.d (.int x)))) : WS (fAug i f) s R = WE f s fun a s1 => WV (intOf a) fun y => R (.nx ⟨s1.Γ.set i (some (.d (.int (x + y)))), s1.g⟩) := by
  unfold WS WE fAug
  rw [h]
  simp only []
  cases f s with
  | none => simp
  | some p =>
    obtain ⟨a, s1⟩ := p
    simp only [wv_some]
    split <;> rename_i hp
    · simp only [Option.some.injEq, Prod.mk.injEq] at hp
      obtain ⟨rfl, rfl⟩ := hp
      simp [intOf]
    · have : intOf a = none := by
        unfold intOf
        split
        · exact absurd rfl (hp _ _)
        · rfl
      rw [this]; simp
/-! ### loops -/
theorem ws_for {fi : FL} {g : FG} {fb : FS} : WS (fFor fi g fb) s R = WL fi s fun xs s1 => WS (forGo g fb xs) s1 R := by
  unfold WS WL fFor
  cases fi s <;> simp
/-- a loop by its invariant: what is done, what is left -/
theorem ws_forGo {α : Type} {g : FG} {fb : FS} (enc : α → PyData) (I : List α → List α → S → Prop) : ∀ (xs done : List α) (s : S), I done xs s →
    (∀ done x rest s, I done (x :: rest) s → WG g (.d (enc x)) s fun s1 => WS fb s1 (KTurn (I (done ++ [x]) rest) R)) → (∀ s, I (done ++ xs) [] s → R (.nx s)) → WS (forGo g fb (xs.map enc)) s R
  | [], done, s, h, _, hn => WV.of (r := .nx s) rfl (hn s (by simpa using h))
  | x :: xs, done, s, h, hs, hn => by
    obtain ⟨s1, e1, o, e2, h2⟩ := hs done x xs s h
    unfold WS
    rw [List.map_cons, forGo]
    simp only [e1, e2]
    cases o with
    | nx s2 => exact ws_forGo enc I xs (done ++ [x]) s2 h2 hs (fun s z => hn s (by simpa using z))
    | ct s2 => exact ws_forGo enc I xs (done ++ [x]) s2 h2 hs (fun s z => hn s (by simpa using z))
    | bk s2 => exact WV.of rfl h2
    | rt v s2 => exact WV.of rfl h2
/-- a while by its invariant and its measure -/
theorem whileN_mono {t : FB} {f : FS} : ∀ {n m : Nat} {s : S} {o : Out}, whileN t f n s = some o → n ≤ m → whileN t f m s = some o
  | 0, _, _, _, h, _ => by simp [whileN] at h
  | n + 1, 0, _, _, _, h => absurd h (by omega)
  | n + 1, m + 1, s, o, h, hm => by
    rw [whileN] at h ⊢
    cases ht : t s with
    | none => rw [ht] at h; cases h
    | some p =>
      obtain ⟨b, s1⟩ := p
      rw [ht] at h
      cases b with
      | false => exact h
      | true =>
        simp only at h ⊢
        cases hf : f s1 with
        | none => rw [hf] at h; cases h
        | some o' =>
          rw [hf] at h
          cases o' with
          | nx s2 => exact whileN_mono h (by omega)
          | ct s2 => exact whileN_mono h (by omega)
          | bk s2 => exact h
          | rt v s2 => exact h
theorem ws_while_n {t : FB} {f : FS} {n : Nat} {o : Out} (h : whileN t f n s = some o) (q : R o) : WS (fWhile t f) s R := by
  have hx : ∃ n, (whileN t f n s).isSome = true := ⟨n, by rw [h]; rfl⟩
  unfold WS fWhile
  rw [dif_pos hx]
  have h2 := hx.choose_spec
  obtain ⟨o', e⟩ := Option.isSome_iff_exists.mp h2
  have : o' = o := by
    rcases Nat.le_total n hx.choose with c | c
    · have := whileN_mono h c
      rw [e] at this
      exact Option.some.inj this
    · have := whileN_mono e c
      rw [h] at this
      exact (Option.some.inj this).symm
  rw [e, this, wv_some]; exact q
theorem ws_while {t : FB} {f : FS} (I : S → Prop) (μ : S → Nat) (h0 : I s) (hs : ∀ s, I s → WB t s fun b s1 => WIf b (WS f s1 (KTurn (fun s2 => I s2 ∧ μ s2 < μ s) R)) (R (.nx s1))) : WS (fWhile t f) s R := by
  have key : ∀ k s, μ s ≤ k → I s → ∃ n o, whileN t f n s = some o ∧ R o := by
    intro k
    induction k with
    | zero =>
      intro s hk hi
      obtain ⟨⟨b, s1⟩, e1, h1⟩ := hs s hi
      cases b with
      | false =>
        exact ⟨1, .nx s1, by rw [whileN, e1], by simpa using h1⟩
      | true =>
        rw [wif_t] at h1
        obtain ⟨o, e2, h2⟩ := h1
        cases o with
        | nx s2 => exact absurd h2.2 (by omega)
        | ct s2 => exact absurd h2.2 (by omega)
        | bk s2 => exact ⟨1, .nx s2, by rw [whileN, e1]; simp only [e2], h2⟩
        | rt v s2 => exact ⟨1, .rt v s2, by rw [whileN, e1]; simp only [e2], h2⟩
    | succ k ih =>
      intro s hk hi
      obtain ⟨⟨b, s1⟩, e1, h1⟩ := hs s hi
      cases b with
      | false =>
        exact ⟨1, .nx s1, by rw [whileN, e1], by simpa using h1⟩
      | true =>
        rw [wif_t] at h1
        obtain ⟨o, e2, h2⟩ := h1
        cases o with
        | nx s2 =>
          obtain ⟨n, o, e3, h3⟩ := ih s2 (by have := h2.2; omega) h2.1
          exact ⟨n + 1, o, by rw [whileN, e1]; simp only [e2]; exact e3, h3⟩
        | ct s2 =>
          obtain ⟨n, o, e3, h3⟩ := ih s2 (by have := h2.2; omega) h2.1
          exact ⟨n + 1, o, by rw [whileN, e1]; simp only [e2]; exact e3, h3⟩
        | bk s2 => exact ⟨1, .nx s2, by rw [whileN, e1]; simp only [e2], h2⟩
        | rt v s2 => exact ⟨1, .rt v s2, by rw [whileN, e1]; simp only [e2], h2⟩
  obtain ⟨n, o, e, h⟩ := key (μ s) s (Nat.le_refl _) h0
  exact ws_while_n e h
/-- a list comprehension, by an invariant of what is made and of what is left -/
theorem wl_lc {fi : FL} {g : FG} {ft : FB} {fe : FE} {vs : List Nat} {Q : List PyData → S → Prop} : WL (fLc fi g ft fe vs) s Q = WL fi s fun xs s1 => WV (lcGo g ft fe vs xs [] ⟨wipeG s1.Γ vs, s1.g⟩) fun p => Q p.1 p.2 := by
  unfold WL fLc wipeS
  cases fi s <;> simp
theorem wl_lcGo {α β : Type} {g : FG} {ft : FB} {fe : FE} {vs : List Nat} {Q : List PyData × S → Prop} (enc : α → PyData) (dnc : β → PyData) (I : List α → List α → List β → S → Prop) : ∀ (xs done : List α) (acc : List β) (s : S), acc.length + xs.length ≤ sizeLine → I done xs acc s →
    (∀ done x rest acc s, I done (x :: rest) acc s → WG g (.d (enc x)) s fun s1 => WB ft s1 fun b s2 => WIf b (WE fe s2 fun r s3 => ∃ y, r = .d (dnc y) ∧ I (done ++ [x]) rest (acc ++ [y]) ⟨wipeG s3.Γ vs, s3.g⟩) (I (done ++ [x]) rest acc ⟨wipeG s2.Γ vs, s2.g⟩)) →
    (∀ acc s, I (done ++ xs) [] acc s → Q (acc.map dnc, s)) → WV (lcGo g ft fe vs (xs.map enc) (acc.map dnc) s) Q
  | [], done, acc, s, _, h, _, hn => WV.of rfl (hn acc s (by simpa using h))
  | x :: xs, done, acc, s, hl, h, hs, hn => by
    obtain ⟨s1, e1, ⟨b, s2⟩, e2, h2⟩ := hs done x xs acc s h
    rw [List.length_cons] at hl
    rw [List.map_cons, lcGo]
    simp only [e1, e2]
    cases b with
    | true =>
      rw [wif_t] at h2
      obtain ⟨⟨r, s3⟩, e3, y, rfl, h3⟩ := h2
      simp only [e3, wipeS]
      rw [if_pos (by rw [List.length_map]; omega)]
      have e4 : acc.map dnc ++ [dnc y] = (acc ++ [y]).map dnc := by simp
      rw [e4]
      exact wl_lcGo enc dnc I xs (done ++ [x]) (acc ++ [y]) _ (by rw [List.length_append, List.length_singleton]; omega) h3 hs (fun acc s z => hn acc s (by simpa using z))
    | false =>
      rw [wif_f] at h2
      simp only [wipeS]
      exact wl_lcGo enc dnc I xs (done ++ [x]) acc _ (by omega) h2 hs (fun acc s z => hn acc s (by simpa using z))
theorem wl_enumT {f : FA} {xs : List PyData} {s1 : S} {Q : List PyData → S → Prop} (h : WA f s fun as t => as = [.d (.tuple xs)] ∧ t = s1) (q : Q (enumD xs) s1) : WL (fEnumT f) s Q := by
  obtain ⟨⟨as, t⟩, h1, h2, h3⟩ := h
  simp only at h2 h3
  subst h2 h3
  refine WV.of (r := (enumD xs, t)) ?_ q
  unfold fEnumT
  rw [h1]
def pgOf (ok : PyData → PyData → PyData → PyData → PyData → Bool) : List AV → Option AV
  | [.d sz, .d pa, .d tk, .d lv, .d sk] => if ok sz pa tk lv sk = true then some (.pr sz pa tk lv sk) else none
  | _ => none
theorem we_make {ok : PyData → PyData → PyData → PyData → PyData → Bool} {f : FA} : WE (fMake ok f) s Q = WA f s fun as s1 => WV (pgOf ok as) fun r => Q r s1 := by
  unfold WE WA fMake pgOf
  cases f s with
  | none => simp
  | some p =>
    obtain ⟨as, s1⟩ := p
    simp only [wv_some]
    split <;> rename_i hp
    · simp only [Option.some.injEq, Prod.mk.injEq] at hp
      obtain ⟨rfl, rfl⟩ := hp
      simp only []
      split <;> simp
    · split
      · exact absurd rfl (hp _ _ _ _ _ _)
      · simp
end
end Pu

set_option Elab.async false
set_option linter.all false
set_option maxRecDepth 100000
set_option maxHeartbeats 1000000
/-! Pu, part X: the small rules beside those of part W. -/
namespace Pu
open PySem Tk
section
variable {s : S} {Q : AV → S → Prop} {R : Out → Prop}
theorem dats_nil : dats [] = some [] := rfl
theorem dats_d {x : PyData} {as : List AV} : dats (.d x :: as) = (dats as).map (x :: ·) := rfl
theorem dAdd_i {i j : Int} : dAdd (.d (.int i)) (.d (.int j)) = some (.d (.int (i + j))) := rfl
theorem dSub_i {i j : Int} : dSub (.d (.int i)) (.d (.int j)) = some (.d (.int (i - j))) := rfl
theorem dMul_i {i j : Int} (h : (-(2 ^ 64) < i ∧ i < 2 ^ 64) ∨ (-(2 ^ 64) < j ∧ j < 2 ^ 64)) : dMul (.d (.int i)) (.d (.int j)) = some (.d (.int (i * j))) := if_pos h
theorem dMod_i {i j : Int} (h : j ≠ 0) : dMod (.d (.int i)) (.d (.int j)) = some (.d (.int (i.fmod j))) := if_pos h
theorem dDiv_i {i j : Int} (h : j ≠ 0) (h2 : j.natAbs < 1073741824) : dDiv (.d (.int i)) (.d (.int j)) = some (.d (.int (i.fdiv j))) := if_pos ⟨h, h2⟩
theorem dIx_t {xs : List PyData} {i : Int} : dIx (.d (.tuple xs)) (.d (.int i)) = (L2.atI xs i).map .d := rfl
theorem dIx_l {xs : List PyData} {i : Int} : dIx (.d (.list xs)) (.d (.int i)) = (L2.atI xs i).map .d := rfl
theorem at0 {x : PyData} {xs : List PyData} : L2.atI (x :: xs) 0 = some x := atI_nat (i := 0) rfl
theorem at1 {x y : PyData} {xs : List PyData} : L2.atI (x :: y :: xs) 1 = some y := atI_nat (i := 1) rfl
theorem at2 {x y z : PyData} {xs : List PyData} : L2.atI (x :: y :: z :: xs) 2 = some z := atI_nat (i := 2) rfl
theorem dNeg_i {i : Int} : dNeg (.d (.int i)) = some (.d (.int (-i))) := rfl
theorem dTuple_l {xs : List PyData} : dTuple [.d (.list xs)] = some (.d (.tuple xs)) := rfl
theorem dTuple_t {xs : List PyData} : dTuple [.d (.tuple xs)] = some (.d (.tuple xs)) := rfl
theorem dList_l {xs : List PyData} : dList [.d (.list xs)] = some xs := rfl
theorem dList_t {xs : List PyData} : dList [.d (.tuple xs)] = some xs := rfl
theorem dInt_i {i : Int} : dInt [.d (.int i)] = some (.d (.int i)) := rfl
theorem dLen_l {xs : List PyData} : dLen [.d (.list xs)] = some (.d (.int xs.length)) := rfl
theorem dLen_t {xs : List PyData} : dLen [.d (.tuple xs)] = some (.d (.int xs.length)) := rfl
theorem rdV_non (i : Nat) (s : S) : rdV (some none) i s = none := rfl
theorem ws_ls1' {Γ : List (Option AV)} {l : LS} : WE (fLs1 0) ⟨some .lp :: Γ, l⟩ Q = Q (.d (.int l.2.1)) ⟨some .lp :: Γ, l⟩ := ws_ls1 rfl
theorem ws_ls2' {Γ : List (Option AV)} {l : LS} : WE (fLs2 0) ⟨some .lp :: Γ, l⟩ Q = Q (.d (.int l.2.2)) ⟨some .lp :: Γ, l⟩ := ws_ls2 rfl
theorem wg_tp' {n : Nat} {g : FGs} {ds : List PyData} {Q : S → Prop} (h : ds.length = n) : WG (gTp n g) (.d (.tuple ds)) s Q = WGs g ds s Q := wg_tp h
theorem ws_app' {Γ : List (Option AV)} {l : LS} {i : Nat} {f : FE} (h : (mlOf Γ[i]?).isSome = true) : WS (fApp i f) ⟨Γ, l⟩ R = WE f ⟨Γ, l⟩ fun a s1 => WV (datOf a) fun y => WV (mlOf s1.Γ[i]?) fun xs => xs.length < sizeLine ∧ R (.nx ⟨s1.Γ.set i (some (.ml (xs ++ [y]))), s1.g⟩) := ws_app h
theorem ws_ext' {Γ : List (Option AV)} {l : LS} {i : Nat} {f : FE} (h : (mlOf Γ[i]?).isSome = true) : WS (fExt i f) ⟨Γ, l⟩ R = WE f ⟨Γ, l⟩ fun a s1 => WV (lstOf a) fun ys => WV (mlOf s1.Γ[i]?) fun xs => xs.length + ys.length ≤ sizeLine ∧ R (.nx ⟨s1.Γ.set i (some (.ml (xs ++ ys))), s1.g⟩) := ws_ext h
theorem lenOf_ml {xs : List PyData} : lenOf (some (some (.ml xs))) = some xs.length := rfl
theorem lenOf_l {xs : List PyData} : lenOf (some (some (.d (.list xs)))) = some xs.length := rfl
theorem lenOf_t {xs : List PyData} : lenOf (some (some (.d (.tuple xs)))) = some xs.length := rfl
theorem datOf_d {x : PyData} : datOf (.d x) = some x := rfl
theorem mlOf_ml {xs : List PyData} : mlOf (some (some (.ml xs))) = some xs := by simp only [mlOf]
theorem lstOf_l {xs : List PyData} : lstOf (.d (.list xs)) = some xs := rfl
theorem intOf_i {i : Int} : intOf (.d (.int i)) = some i := rfl
theorem seqOf_t {xs : List PyData} : seqOf (.d (.tuple xs)) = some xs := rfl
theorem seqOf_l {xs : List PyData} : seqOf (.d (.list xs)) = some xs := rfl
theorem dCmp_i {p : Int → Int → Bool} {i j : Int} : dCmp p (.d (.int i)) (.d (.int j)) = some (.d (.bool (p i j))) := rfl
theorem isLp_lp : isLp (some (some .lp)) = true := rfl
theorem avIx_ml {xs : List PyData} {i : Int} : avIx (.ml xs) (.d (.int i)) = L2.atI xs i := rfl
theorem avIx_l {xs : List PyData} {i : Int} : avIx (.d (.list xs)) (.d (.int i)) = L2.atI xs i := rfl
theorem avIx_t {xs : List PyData} {i : Int} : avIx (.d (.tuple xs)) (.d (.int i)) = L2.atI xs i := rfl
theorem wv_map {α β : Type} {f : α → β} {o : Option α} {Q : β → Prop} : WV (o.map f) Q = WV o fun x => Q (f x) := by cases o <;> simp
theorem wv_if {α : Type} {c : Prop} [Decidable c] {x : α} {Q : α → Prop} : WV (if c then some x else none) Q = (c ∧ Q x) := by
  by_cases h : c <;> simp [h]
theorem dMod_p {i j : Int} {Q : AV → Prop} : WV (dMod (.d (.int i)) (.d (.int j))) Q = (j ≠ 0 ∧ Q (.d (.int (i.fmod j)))) := wv_if
theorem dDiv_p {i j : Int} {Q : AV → Prop} : WV (dDiv (.d (.int i)) (.d (.int j))) Q = ((j ≠ 0 ∧ j.natAbs < 1073741824) ∧ Q (.d (.int (i.fdiv j)))) := wv_if
theorem dMul_p {i j : Int} {Q : AV → Prop} : WV (dMul (.d (.int i)) (.d (.int j))) Q = (((-(2 ^ 64) < i ∧ i < 2 ^ 64) ∨ (-(2 ^ 64) < j ∧ j < 2 ^ 64)) ∧ Q (.d (.int (i * j)))) := wv_if
theorem dAdd_t {x y : List PyData} {Q : AV → Prop} : WV (dAdd (.d (.tuple x)) (.d (.tuple y))) Q = (x.length + y.length ≤ sizeLine ∧ Q (.d (.tuple (x ++ y)))) := wv_if
theorem dAdd_l {x y : List PyData} {Q : AV → Prop} : WV (dAdd (.d (.list x)) (.d (.list y))) Q = (x.length + y.length ≤ sizeLine ∧ Q (.d (.list (x ++ y)))) := wv_if
/-- bounds of a range -/
def inB (n : Int) : Prop := -(2 ^ 62) ≤ n ∧ n < 2 ^ 62
theorem inB_of {n : Int} (h : -1000000 ≤ n) (h2 : n ≤ 1000000) : inB n := by
  unfold inB
  rw [p62]
  constructor <;> omega
instance {n : Int} : Decidable (inB n) := by unfold inB; infer_instance
def rngOf : List AV → Option (List PyData)
  | [.d (.int n)] => if inB n then some (rng 0 n.toNat) else none
  | [.d (.int i), .d (.int j)] => if inB i ∧ inB j then some (rng i (j - i).toNat) else none
  | _ => none
theorem rngOf_1 {n : Int} {Q : List PyData → Prop} : WV (rngOf [.d (.int n)]) Q = (inB n ∧ Q (rng 0 n.toNat)) := by unfold rngOf; exact wv_if
theorem rngOf_2 {i j : Int} {Q : List PyData → Prop} : WV (rngOf [.d (.int i), .d (.int j)]) Q = ((inB i ∧ inB j) ∧ Q (rng i (j - i).toNat)) := by unfold rngOf; exact wv_if
theorem wl_rng1' {f : FA} {Q : List PyData → S → Prop} : WL (fRng1 f) s Q = WA f s fun as s1 => as.length = 1 ∧ WV (rngOf as) fun xs => Q xs s1 := by
  unfold WL WA fRng1
  cases f s with
  | none => simp
  | some p =>
    obtain ⟨as, s1⟩ := p
    simp only [wv_some]
    split <;> rename_i hp
    · simp only [Option.some.injEq, Prod.mk.injEq] at hp
      obtain ⟨rfl, rfl⟩ := hp
      rw [rngOf_1]
      simp only [List.length_cons, List.length_nil, true_and, wv_if]
      rfl
    · rw [wv_none]
      refine propext ⟨False.elim, fun h => ?_⟩
      obtain ⟨h1, xs, h2, h3⟩ := h
      match as, h1 with
      | [x], _ =>
        unfold rngOf at h2
        split at h2
        · rename_i e; cases e; exact hp _ _ rfl
        · rename_i e; cases e
        · cases h2
theorem wl_rng2' {f : FA} {Q : List PyData → S → Prop} : WL (fRng2 f) s Q = WA f s fun as s1 => as.length = 2 ∧ WV (rngOf as) fun xs => Q xs s1 := by
  unfold WL WA fRng2
  cases f s with
  | none => simp
  | some p =>
    obtain ⟨as, s1⟩ := p
    simp only [wv_some]
    split <;> rename_i hp
    · simp only [Option.some.injEq, Prod.mk.injEq] at hp
      obtain ⟨rfl, rfl⟩ := hp
      rw [rngOf_2]
      simp only [List.length_cons, List.length_nil, true_and, wv_if]
      simp only [inB, and_assoc]
    · rw [wv_none]
      refine propext ⟨False.elim, fun h => ?_⟩
      obtain ⟨h1, xs, h2, h3⟩ := h
      match as, h1 with
      | [x, y], _ =>
        unfold rngOf at h2
        split at h2
        · rename_i e; cases e
        · rename_i e; cases e; exact hp _ _ _ rfl
        · cases h2
theorem rng_nat {n : Nat} : rng 0 n = (List.range n).map fun i => PyData.int ((0 : Int) + (i : Nat)) := rfl
theorem rng_nat' {n : Nat} : rng 0 n = (List.range n).map eN := by
  unfold rng
  exact List.map_congr_left fun i _ => by rw [Int.zero_add]
theorem wv_at {xs : List PyData} {i : Nat} {Q : PyData → Prop} (h : i < xs.length) (q : ∀ x ∈ xs, Q x) : WV (L2.atI xs (i : Int)) Q := WV.of (atI_nat (List.getElem?_eq_getElem h)) (q _ (List.getElem_mem h))
theorem wv_atN {xs : List Nat} {i : Nat} {Q : PyData → Prop} (h : i < xs.length) (q : Q (eN (nth xs i))) : WV (L2.atI (xs.map eN) (i : Int)) Q := WV.of (atI_map h) q
theorem wv_atM {α : Type} {f : α → PyData} {xs : List α} {i : Nat} {x : α} {Q : PyData → Prop} (h : xs[i]? = some x) (q : Q (f x)) : WV (L2.atI (xs.map f) (i : Int)) Q := WV.of (atI_nat (by simp [h])) q
theorem wipeG_n {Γ : List (Option AV)} : wipeG Γ [] = Γ := rfl
theorem wipeG_c {Γ : List (Option AV)} {v : Nat} {vs : List Nat} : wipeG Γ (v :: vs) = (wipeG Γ vs).set v none := rfl
theorem enter_eq {n : Nat} {as : List AV} {g : LS} : enter n as g = ⟨as.map some ++ List.replicate (n - as.length) none, g⟩ := rfl

/-- the draw state is right -/
structure LsOk (l : LS) : Prop where
  n : l.1.length ≤ 63
  a : 0 ≤ l.2.1
theorem p64 : (2 : Int) ^ 64 = 18446744073709551616 := by decide
theorem b64 {n : Int} (h0 : -100000000000 ≤ n) (h : n ≤ 100000000000) : -(2 ^ 64) < n ∧ n < 2 ^ 64 := by
  rw [p64]
  constructor <;> omega
end
end Pu

set_option Elab.async false
set_option linter.all false
set_option maxRecDepth 100000
set_option maxHeartbeats 1000000
/-! Pu, part F: the draws. -/
namespace Pu
open PySem Tk Tk.W
theorem next_end {cs : List Int} {a b m : Int} {Q : AV → LS → Prop} (hn : cs.length ≤ 63) (ha : 0 ≤ a) (h1 : 1 ≤ m) (h2 : m ≤ 1000000) (q : ∀ (r : Nat) l', (r : Int) < m → LsOk l' → Q (.d (eN r)) l') :
    m ≠ 0 ∧ (m ≠ 0 ∧ m.natAbs < 1073741824) ∧ Q (AV.d (PyData.int (a.fmod m))) (cs, a.fdiv m, b) := by
  refine ⟨by omega, ⟨by omega, by omega⟩, ?_⟩
  obtain ⟨r, hr⟩ : ∃ r : Nat, a.fmod m = (r : Int) := ⟨(a.fmod m).toNat, by
    rw [Int.fmod_eq_emod_of_nonneg _ (by omega)]
    exact (Int.toNat_of_nonneg (Int.emod_nonneg _ (by omega))).symm⟩
  rw [hr]
  refine q r _ ?_ ⟨hn, ?_⟩
  · rw [← hr, Int.fmod_eq_emod_of_nonneg _ (by omega)]
    exact Int.emod_lt_of_pos _ (by omega)
  · exact Int.fdiv_nonneg ha (by omega)
theorem next_wc {A : Ad} {l : LS} {m : Int} {Q : AV → LS → Prop} (hl : LsOk l) (h1 : 1 ≤ m) (h2 : m ≤ 1000000) (q : ∀ (r : Nat) l', (r : Int) < m → LsOk l' → Q (.d (eN r)) l') : WC (g__law_next A) [.lp, .d (.int m)] l Q := by
  unfold g__law_next b__law_next
  rw [wc_den, enter_eq, ws_seq]
  simp only [List.map_cons, List.map_nil, List.length_cons, List.length_nil, List.replicate, List.cons_append, List.nil_append, Nat.reduceAdd, Nat.reduceSub]
  obtain ⟨cs, a, b⟩ := l
  have hn : cs.length ≤ 63 := hl.n
  have ha : 0 ≤ a := hl.a
  have hz := line_big
  rw [ws_if]
  simp only [↓ws_seq, ↓ws_set, ↓ws_setL, ↓ws_setD, ↓ws_asg, ↓ws_ret, ↓ws_retN, ↓ws_if, ↓ws_skip, ↓ws_break, ↓ws_cont, ↓ws_never, ↓we_var, ↓we_C, ↓we_fn, ↓we_f2, ↓we_f1, ↓we_chain, ↓wb_tst, ↓wb_tru, ↓wb_and, ↓wb_or, ↓wb_not, ↓wb_yes, ↓we_andV, ↓we_orV, ↓we_notV, ↓we_if, ↓wa_nil, ↓wa_cons, ↓we_tup, ↓wl_lst, ↓we_ofL, ↓wl_it, ↓we_CB, ↓wl_CL, ↓we_call, ↓wg_nm, ↓wgs_nil, ↓wgs_cons, ↓ks_nx, ↓ks_rt, ↓ks_bk, ↓ks_ct, ↓kr_rt, ↓kr_nx, ↓kt_nx, ↓kt_ct, ↓kt_bk, ↓kt_rt, ↓wv_some, ↓wtst_b, ↓wif_t, ↓wif_f, ↓wif_not, ↓we_lenV, ↓we_ixV, ↓we_inV, ↓ws_setIx, ↓wo_none, ↓wo_some, ↓we_sl, ↓wd_disp1, ↓wt_nil, ↓wt_cons, ↓we_dispT, ↓we_make, ↓ws_lsSet1, ↓ws_lsSet2, ↓ws_for, ↓wl_lc, List.getElem?_cons_zero, List.getElem?_cons_succ, List.set_cons_zero, List.set_cons_succ, Option.bind_some, id, rdV_av, rdV_d, rdV_lp, rdV_fn, rdV_ft, rdV_fd, rdV_ml, rdV_md, lenOf_ml, lenOf_l, lenOf_t, datOf_d, mlOf_ml, lstOf_l, intOf_i, seqOf_t, seqOf_l, dCmp_i, isLp_lp, avIx_ml, avIx_l, avIx_t, wv_map, dMod_p, dDiv_p, dAdd_t, dAdd_l, true_and, and_true, wif_dec, dats_nil, dats_d, dAdd_i, dSub_i, dMul_i, dIx_t, dIx_l, at0, at1, at2, dNeg_i, dTuple_l, dTuple_t, dList_l, dList_t, dInt_i, dLen_l, dLen_t, dPr_sz, dPr_pa, dPr_tk, dPr_lv, dPr_sk, ws_ls1', ws_ls2', wg_tp', ws_app', ws_ext', rdV_non, Option.map_some, List.length_cons, List.length_nil]
  split
  · have e : WE (fLsLen 0) ⟨[some .lp, some (.d (.int m)), none, none], (cs, a, b)⟩ = fun Q => Q (.d (.int cs.length)) ⟨[some .lp, some (.d (.int m)), none, none], (cs, a, b)⟩ := by
      funext Q
      exact ws_lsLen rfl (by show cs.length ≤ _; omega)
    simp only [↓ws_seq, ↓ws_set, ↓ws_setL, ↓ws_setD, ↓ws_asg, ↓ws_ret, ↓ws_retN, ↓ws_if, ↓ws_skip, ↓ws_break, ↓ws_cont, ↓ws_never, ↓we_var, ↓we_C, ↓we_fn, ↓we_f2, ↓we_f1, ↓we_chain, ↓wb_tst, ↓wb_tru, ↓wb_and, ↓wb_or, ↓wb_not, ↓wb_yes, ↓we_andV, ↓we_orV, ↓we_notV, ↓we_if, ↓wa_nil, ↓wa_cons, ↓we_tup, ↓wl_lst, ↓we_ofL, ↓wl_it, ↓we_CB, ↓wl_CL, ↓we_call, ↓wg_nm, ↓wgs_nil, ↓wgs_cons, ↓ks_nx, ↓ks_rt, ↓ks_bk, ↓ks_ct, ↓kr_rt, ↓kr_nx, ↓kt_nx, ↓kt_ct, ↓kt_bk, ↓kt_rt, ↓wv_some, ↓wtst_b, ↓wif_t, ↓wif_f, ↓wif_not, ↓we_lenV, ↓we_ixV, ↓we_inV, ↓ws_setIx, ↓wo_none, ↓wo_some, ↓we_sl, ↓wd_disp1, ↓wt_nil, ↓wt_cons, ↓we_dispT, ↓we_make, ↓ws_lsSet1, ↓ws_lsSet2, ↓ws_for, ↓wl_lc, List.getElem?_cons_zero, List.getElem?_cons_succ, List.set_cons_zero, List.set_cons_succ, Option.bind_some, id, rdV_av, rdV_d, rdV_lp, rdV_fn, rdV_ft, rdV_fd, rdV_ml, rdV_md, lenOf_ml, lenOf_l, lenOf_t, datOf_d, mlOf_ml, lstOf_l, intOf_i, seqOf_t, seqOf_l, dCmp_i, isLp_lp, avIx_ml, avIx_l, avIx_t, wv_map, dMod_p, dDiv_p, dAdd_t, dAdd_l, true_and, and_true, wif_dec, dats_nil, dats_d, dAdd_i, dSub_i, dMul_i, dIx_t, dIx_l, at0, at1, at2, dNeg_i, dTuple_l, dTuple_t, dList_l, dList_t, dInt_i, dLen_l, dLen_t, dPr_sz, dPr_pa, dPr_tk, dPr_lv, dPr_sk, ws_ls1', ws_ls2', wg_tp', ws_app', ws_ext', rdV_non, Option.map_some, List.length_cons, List.length_nil, e]
    split
    · cases cs with
      | nil => simp at *
      | cons c cs =>
        rw [we_lsPop rfl]
        have m1 := (b64 (n := 2) (by decide) (by decide))
        have m2 := (b64 (n := -2) (by decide) (by decide))
        have m3 := (b64 (n := 69621) (by decide) (by decide))
        simp only [↓ws_seq, ↓ws_set, ↓ws_setL, ↓ws_setD, ↓ws_asg, ↓ws_ret, ↓ws_retN, ↓ws_if, ↓ws_skip, ↓ws_break, ↓ws_cont, ↓ws_never, ↓we_var, ↓we_C, ↓we_fn, ↓we_f2, ↓we_f1, ↓we_chain, ↓wb_tst, ↓wb_tru, ↓wb_and, ↓wb_or, ↓wb_not, ↓wb_yes, ↓we_andV, ↓we_orV, ↓we_notV, ↓we_if, ↓wa_nil, ↓wa_cons, ↓we_tup, ↓wl_lst, ↓we_ofL, ↓wl_it, ↓we_CB, ↓wl_CL, ↓we_call, ↓wg_nm, ↓wgs_nil, ↓wgs_cons, ↓ks_nx, ↓ks_rt, ↓ks_bk, ↓ks_ct, ↓kr_rt, ↓kr_nx, ↓kt_nx, ↓kt_ct, ↓kt_bk, ↓kt_rt, ↓wv_some, ↓wtst_b, ↓wif_t, ↓wif_f, ↓wif_not, ↓we_lenV, ↓we_ixV, ↓we_inV, ↓ws_setIx, ↓wo_none, ↓wo_some, ↓we_sl, ↓wd_disp1, ↓wt_nil, ↓wt_cons, ↓we_dispT, ↓we_make, ↓ws_lsSet1, ↓ws_lsSet2, ↓ws_for, ↓wl_lc, List.getElem?_cons_zero, List.getElem?_cons_succ, List.set_cons_zero, List.set_cons_succ, Option.bind_some, id, rdV_av, rdV_d, rdV_lp, rdV_fn, rdV_ft, rdV_fd, rdV_ml, rdV_md, lenOf_ml, lenOf_l, lenOf_t, datOf_d, mlOf_ml, lstOf_l, intOf_i, seqOf_t, seqOf_l, dCmp_i, isLp_lp, avIx_ml, avIx_l, avIx_t, wv_map, dMod_p, dDiv_p, dAdd_t, dAdd_l, true_and, and_true, wif_dec, dats_nil, dats_d, dAdd_i, dSub_i, dMul_i, dIx_t, dIx_l, at0, at1, at2, dNeg_i, dTuple_l, dTuple_t, dList_l, dList_t, dInt_i, dLen_l, dLen_t, dPr_sz, dPr_pa, dPr_tk, dPr_lv, dPr_sk, ws_ls1', ws_ls2', wg_tp', ws_app', ws_ext', rdV_non, Option.map_some, List.length_cons, List.length_nil, dMul_p, m1, m2, m3, and_self, true_or, or_true]
        have hn' : cs.length ≤ 63 := by simp at hn; omega
        split
        · exact ⟨by decide, next_end hn' (by omega) h1 h2 q⟩
        · exact ⟨by decide, next_end hn' (by omega) h1 h2 q⟩
    · have m3 := (b64 (n := 48271) (by decide) (by decide))
      have hb : ∀ x : Int, 0 ≤ x.fmod 2147483647 ∧ x.fmod 2147483647 < 2147483647 := fun x => by
        rw [Int.fmod_eq_emod_of_nonneg _ (by omega)]
        omega
      simp only [↓ws_seq, ↓ws_set, ↓ws_setL, ↓ws_setD, ↓ws_asg, ↓ws_ret, ↓ws_retN, ↓ws_if, ↓ws_skip, ↓ws_break, ↓ws_cont, ↓ws_never, ↓we_var, ↓we_C, ↓we_fn, ↓we_f2, ↓we_f1, ↓we_chain, ↓wb_tst, ↓wb_tru, ↓wb_and, ↓wb_or, ↓wb_not, ↓wb_yes, ↓we_andV, ↓we_orV, ↓we_notV, ↓we_if, ↓wa_nil, ↓wa_cons, ↓we_tup, ↓wl_lst, ↓we_ofL, ↓wl_it, ↓we_CB, ↓wl_CL, ↓we_call, ↓wg_nm, ↓wgs_nil, ↓wgs_cons, ↓ks_nx, ↓ks_rt, ↓ks_bk, ↓ks_ct, ↓kr_rt, ↓kr_nx, ↓kt_nx, ↓kt_ct, ↓kt_bk, ↓kt_rt, ↓wv_some, ↓wtst_b, ↓wif_t, ↓wif_f, ↓wif_not, ↓we_lenV, ↓we_ixV, ↓we_inV, ↓ws_setIx, ↓wo_none, ↓wo_some, ↓we_sl, ↓wd_disp1, ↓wt_nil, ↓wt_cons, ↓we_dispT, ↓we_make, ↓ws_lsSet1, ↓ws_lsSet2, ↓ws_for, ↓wl_lc, List.getElem?_cons_zero, List.getElem?_cons_succ, List.set_cons_zero, List.set_cons_succ, Option.bind_some, id, rdV_av, rdV_d, rdV_lp, rdV_fn, rdV_ft, rdV_fd, rdV_ml, rdV_md, lenOf_ml, lenOf_l, lenOf_t, datOf_d, mlOf_ml, lstOf_l, intOf_i, seqOf_t, seqOf_l, dCmp_i, isLp_lp, avIx_ml, avIx_l, avIx_t, wv_map, dMod_p, dDiv_p, dAdd_t, dAdd_l, true_and, and_true, wif_dec, dats_nil, dats_d, dAdd_i, dSub_i, dMul_i, dIx_t, dIx_l, at0, at1, at2, dNeg_i, dTuple_l, dTuple_t, dList_l, dList_t, dInt_i, dLen_l, dLen_t, dPr_sz, dPr_pa, dPr_tk, dPr_lv, dPr_sk, ws_ls1', ws_ls2', wg_tp', ws_app', ws_ext', rdV_non, Option.map_some, List.length_cons, List.length_nil, dMul_p, m3, and_self, true_or, or_true]
      have h3 := hb (b * 48271 + 11)
      refine ⟨by decide, .inl (b64 ?_ ?_), by decide, next_end hn ?_ h1 h2 q⟩
      · omega
      · omega
      · rw [Int.fmod_eq_emod_of_nonneg _ (by omega)]
        exact Int.emod_nonneg _ (by decide)
  · exact next_end hn ha h1 h2 q
end Pu

set_option Elab.async false
set_option linter.all false
set_option maxRecDepth 100000
set_option maxHeartbeats 1000000
/-! Pu, part G: tables, changes, parts. -/
namespace Pu
open PySem Tk Tk.W
theorem nth_mem {xs : List Nat} {i : Nat} (h : i < xs.length) : nth xs i ∈ xs := by simp [nth, h]
theorem table_wc {A : Ad} {l : LS} {sz : List Nat} {Q : AV → LS → Prop} (hl : LsOk l) (h1 : 1 ≤ sz.length) (h3 : sz.length ≤ 3) (hz : ∀ n ∈ sz, 2 ≤ n ∧ n ≤ 4) (q : ∀ t l', TbOk sz t → LsOk l' → Q (.d (eT t)) l') : WC (g__law_table A) [.lp, .d (eNs sz)] l Q := by
  have hb := line_big
  unfold g__law_table b__law_table
  rw [wc_den, enter_eq]
  simp only [List.map_cons, List.map_nil, List.length_cons, List.length_nil, List.replicate, List.cons_append, List.nil_append, Nat.reduceAdd, Nat.reduceSub]
  simp only [↓ws_seq, ↓ws_set, ↓ws_setL, ↓ws_setD, ↓ws_asg, ↓ws_ret, ↓ws_retN, ↓ws_if, ↓ws_skip, ↓ws_break, ↓ws_cont, ↓ws_never, ↓we_var, ↓we_C, ↓we_fn, ↓we_f2, ↓we_f1, ↓we_chain, ↓wb_tst, ↓wb_tru, ↓wb_and, ↓wb_or, ↓wb_not, ↓wb_yes, ↓we_andV, ↓we_orV, ↓we_notV, ↓we_if, ↓wa_nil, ↓wa_cons, ↓we_tup, ↓wl_lst, ↓we_ofL, ↓wl_it, ↓we_CB, ↓wl_CL, ↓we_call, ↓wg_nm, ↓wgs_nil, ↓wgs_cons, ↓ks_nx, ↓ks_rt, ↓ks_bk, ↓ks_ct, ↓kr_rt, ↓kr_nx, ↓kt_nx, ↓kt_ct, ↓kt_bk, ↓kt_rt, ↓wv_some, ↓wtst_b, ↓wif_t, ↓wif_f, ↓wif_not, ↓we_lenV, ↓we_ixV, ↓we_inV, ↓ws_setIx, ↓wo_none, ↓wo_some, ↓we_sl, ↓wd_disp1, ↓wt_nil, ↓wt_cons, ↓we_dispT, ↓we_make, ↓ws_lsSet1, ↓ws_lsSet2, ↓ws_for, ↓wl_lc, ↓wl_rng1', ↓wl_rng2', List.getElem?_cons_zero, List.getElem?_cons_succ, List.set_cons_zero, List.set_cons_succ, Option.bind_some, id, rdV_av, rdV_d, rdV_lp, rdV_fn, rdV_ft, rdV_fd, rdV_ml, rdV_md, lenOf_ml, lenOf_l, lenOf_t, datOf_d, mlOf_ml, lstOf_l, intOf_i, seqOf_t, seqOf_l, dCmp_i, isLp_lp, avIx_ml, avIx_l, avIx_t, wv_map, dMod_p, dDiv_p, dAdd_t, dAdd_l, rngOf_1, rngOf_2, Option.isSome_some, true_and, and_true, rng_nat', Int.toNat_natCast, wipeG_n, wipeG_c, wif_dec, dats_nil, dats_d, dAdd_i, dSub_i, dMul_i, dIx_t, dIx_l, at0, at1, at2, dNeg_i, dTuple_l, dTuple_t, dList_l, dList_t, dInt_i, dLen_l, dLen_t, dPr_sz, dPr_pa, dPr_tk, dPr_lv, dPr_sk, ws_ls1', ws_ls2', wg_tp', ws_app', ws_ext', rdV_non, Option.map_some, List.length_cons, List.length_nil, List.length_map]
  refine next_wc hl (by omega) (by omega) fun v l1 hv hl1 => ?_
  simp only [↓ws_seq, ↓ws_set, ↓ws_setL, ↓ws_setD, ↓ws_asg, ↓ws_ret, ↓ws_retN, ↓ws_if, ↓ws_skip, ↓ws_break, ↓ws_cont, ↓ws_never, ↓we_var, ↓we_C, ↓we_fn, ↓we_f2, ↓we_f1, ↓we_chain, ↓wb_tst, ↓wb_tru, ↓wb_and, ↓wb_or, ↓wb_not, ↓wb_yes, ↓we_andV, ↓we_orV, ↓we_notV, ↓we_if, ↓wa_nil, ↓wa_cons, ↓we_tup, ↓wl_lst, ↓we_ofL, ↓wl_it, ↓we_CB, ↓wl_CL, ↓we_call, ↓wg_nm, ↓wgs_nil, ↓wgs_cons, ↓ks_nx, ↓ks_rt, ↓ks_bk, ↓ks_ct, ↓kr_rt, ↓kr_nx, ↓kt_nx, ↓kt_ct, ↓kt_bk, ↓kt_rt, ↓wv_some, ↓wtst_b, ↓wif_t, ↓wif_f, ↓wif_not, ↓we_lenV, ↓we_ixV, ↓we_inV, ↓ws_setIx, ↓wo_none, ↓wo_some, ↓we_sl, ↓wd_disp1, ↓wt_nil, ↓wt_cons, ↓we_dispT, ↓we_make, ↓ws_lsSet1, ↓ws_lsSet2, ↓ws_for, ↓wl_lc, ↓wl_rng1', ↓wl_rng2', List.getElem?_cons_zero, List.getElem?_cons_succ, List.set_cons_zero, List.set_cons_succ, Option.bind_some, id, rdV_av, rdV_d, rdV_lp, rdV_fn, rdV_ft, rdV_fd, rdV_ml, rdV_md, lenOf_ml, lenOf_l, lenOf_t, datOf_d, mlOf_ml, lstOf_l, intOf_i, seqOf_t, seqOf_l, dCmp_i, isLp_lp, avIx_ml, avIx_l, avIx_t, wv_map, dMod_p, dDiv_p, dAdd_t, dAdd_l, rngOf_1, rngOf_2, Option.isSome_some, true_and, and_true, rng_nat', Int.toNat_natCast, wipeG_n, wipeG_c, wif_dec, dats_nil, dats_d, dAdd_i, dSub_i, dMul_i, dIx_t, dIx_l, at0, at1, at2, dNeg_i, dTuple_l, dTuple_t, dList_l, dList_t, dInt_i, dLen_l, dLen_t, dPr_sz, dPr_pa, dPr_tk, dPr_lv, dPr_sk, ws_ls1', ws_ls2', wg_tp', ws_app', ws_ext', rdV_non, Option.map_some, List.length_cons, List.length_nil]
  refine next_wc hl1 (by omega) (by omega) fun k l2 hk hl2 => ?_
  simp only [↓ws_seq, ↓ws_set, ↓ws_setL, ↓ws_setD, ↓ws_asg, ↓ws_ret, ↓ws_retN, ↓ws_if, ↓ws_skip, ↓ws_break, ↓ws_cont, ↓ws_never, ↓we_var, ↓we_C, ↓we_fn, ↓we_f2, ↓we_f1, ↓we_chain, ↓wb_tst, ↓wb_tru, ↓wb_and, ↓wb_or, ↓wb_not, ↓wb_yes, ↓we_andV, ↓we_orV, ↓we_notV, ↓we_if, ↓wa_nil, ↓wa_cons, ↓we_tup, ↓wl_lst, ↓we_ofL, ↓wl_it, ↓we_CB, ↓wl_CL, ↓we_call, ↓wg_nm, ↓wgs_nil, ↓wgs_cons, ↓ks_nx, ↓ks_rt, ↓ks_bk, ↓ks_ct, ↓kr_rt, ↓kr_nx, ↓kt_nx, ↓kt_ct, ↓kt_bk, ↓kt_rt, ↓wv_some, ↓wtst_b, ↓wif_t, ↓wif_f, ↓wif_not, ↓we_lenV, ↓we_ixV, ↓we_inV, ↓ws_setIx, ↓wo_none, ↓wo_some, ↓we_sl, ↓wd_disp1, ↓wt_nil, ↓wt_cons, ↓we_dispT, ↓we_make, ↓ws_lsSet1, ↓ws_lsSet2, ↓ws_for, ↓wl_lc, ↓wl_rng1', ↓wl_rng2', List.getElem?_cons_zero, List.getElem?_cons_succ, List.set_cons_zero, List.set_cons_succ, Option.bind_some, id, rdV_av, rdV_d, rdV_lp, rdV_fn, rdV_ft, rdV_fd, rdV_ml, rdV_md, lenOf_ml, lenOf_l, lenOf_t, datOf_d, mlOf_ml, lstOf_l, intOf_i, seqOf_t, seqOf_l, dCmp_i, isLp_lp, avIx_ml, avIx_l, avIx_t, wv_map, dMod_p, dDiv_p, dAdd_t, dAdd_l, rngOf_1, rngOf_2, Option.isSome_some, true_and, and_true, rng_nat', Int.toNat_natCast, wipeG_n, wipeG_c, wif_dec, dats_nil, dats_d, dAdd_i, dSub_i, dMul_i, dIx_t, dIx_l, at0, at1, at2, dNeg_i, dTuple_l, dTuple_t, dList_l, dList_t, dInt_i, dLen_l, dLen_t, dPr_sz, dPr_pa, dPr_tk, dPr_lv, dPr_sk, ws_ls1', ws_ls2', wg_tp', ws_app', ws_ext', rdV_non, Option.map_some, List.length_cons, List.length_nil]
  refine wv_at (by simp; omega) fun m hm => ?_
  have hv' : v < sz.length := by omega
  obtain ⟨mm, rfl, m1, m2⟩ : ∃ mm : Nat, m = .int mm ∧ 1 ≤ mm ∧ mm ≤ 8 := by
    simp only [List.mem_cons, List.not_mem_nil, or_false] at hm
    rcases hm with rfl | rfl | rfl | rfl
    · exact ⟨2, rfl, by decide, by decide⟩
    · exact ⟨2, rfl, by decide, by decide⟩
    · exact ⟨3, rfl, by decide, by decide⟩
    · exact ⟨8, rfl, by decide, by decide⟩
  refine wv_atN hv' ?_
  have hz' := hz _ (nth_mem hv')
  simp only [↓ws_seq, ↓ws_set, ↓ws_setL, ↓ws_setD, ↓ws_asg, ↓ws_ret, ↓ws_retN, ↓ws_if, ↓ws_skip, ↓ws_break, ↓ws_cont, ↓ws_never, ↓we_var, ↓we_C, ↓we_fn, ↓we_f2, ↓we_f1, ↓we_chain, ↓wb_tst, ↓wb_tru, ↓wb_and, ↓wb_or, ↓wb_not, ↓wb_yes, ↓we_andV, ↓we_orV, ↓we_notV, ↓we_if, ↓wa_nil, ↓wa_cons, ↓we_tup, ↓wl_lst, ↓we_ofL, ↓wl_it, ↓we_CB, ↓wl_CL, ↓we_call, ↓wg_nm, ↓wgs_nil, ↓wgs_cons, ↓ks_nx, ↓ks_rt, ↓ks_bk, ↓ks_ct, ↓kr_rt, ↓kr_nx, ↓kt_nx, ↓kt_ct, ↓kt_bk, ↓kt_rt, ↓wv_some, ↓wtst_b, ↓wif_t, ↓wif_f, ↓wif_not, ↓we_lenV, ↓we_ixV, ↓we_inV, ↓ws_setIx, ↓wo_none, ↓wo_some, ↓we_sl, ↓wd_disp1, ↓wt_nil, ↓wt_cons, ↓we_dispT, ↓we_make, ↓ws_lsSet1, ↓ws_lsSet2, ↓ws_for, ↓wl_lc, ↓wl_rng1', ↓wl_rng2', List.getElem?_cons_zero, List.getElem?_cons_succ, List.set_cons_zero, List.set_cons_succ, Option.bind_some, id, rdV_av, rdV_d, rdV_lp, rdV_fn, rdV_ft, rdV_fd, rdV_ml, rdV_md, lenOf_ml, lenOf_l, lenOf_t, datOf_d, mlOf_ml, lstOf_l, intOf_i, seqOf_t, seqOf_l, dCmp_i, isLp_lp, avIx_ml, avIx_l, avIx_t, wv_map, dMod_p, dDiv_p, dAdd_t, dAdd_l, rngOf_1, rngOf_2, Option.isSome_some, true_and, and_true, rng_nat', Int.toNat_natCast, wipeG_n, wipeG_c, wif_dec, dats_nil, dats_d, dAdd_i, dSub_i, dMul_i, dIx_t, dIx_l, at0, at1, at2, dNeg_i, dTuple_l, dTuple_t, dList_l, dList_t, dInt_i, dLen_l, dLen_t, dPr_sz, dPr_pa, dPr_tk, dPr_lv, dPr_sk, ws_ls1', ws_ls2', wg_tp', ws_app', ws_ext', rdV_non, Option.map_some, List.length_cons, List.length_nil]
  refine ⟨inB_of (by omega) (by omega), ?_⟩
  refine wl_lcGo eN eN (fun done rest acc s => acc.length = done.length ∧ (∀ x ∈ acc, x ≤ 7) ∧ ∃ l, LsOk l ∧ s = ⟨[some .lp, some (.d (eNs sz)), some (.d (eN v)), some (.d (.int mm)), none], l⟩) (List.range (nth sz v)) [] [] _ (by simp; omega) ⟨rfl, by simp, l2, hl2, rfl⟩ ?_ ?_
  · rintro done x rest acc s ⟨e1, e2, l, hl, rfl⟩
    simp only [↓ws_seq, ↓ws_set, ↓ws_setL, ↓ws_setD, ↓ws_asg, ↓ws_ret, ↓ws_retN, ↓ws_if, ↓ws_skip, ↓ws_break, ↓ws_cont, ↓ws_never, ↓we_var, ↓we_C, ↓we_fn, ↓we_f2, ↓we_f1, ↓we_chain, ↓wb_tst, ↓wb_tru, ↓wb_and, ↓wb_or, ↓wb_not, ↓wb_yes, ↓we_andV, ↓we_orV, ↓we_notV, ↓we_if, ↓wa_nil, ↓wa_cons, ↓we_tup, ↓wl_lst, ↓we_ofL, ↓wl_it, ↓we_CB, ↓wl_CL, ↓we_call, ↓wg_nm, ↓wgs_nil, ↓wgs_cons, ↓ks_nx, ↓ks_rt, ↓ks_bk, ↓ks_ct, ↓kr_rt, ↓kr_nx, ↓kt_nx, ↓kt_ct, ↓kt_bk, ↓kt_rt, ↓wv_some, ↓wtst_b, ↓wif_t, ↓wif_f, ↓wif_not, ↓we_lenV, ↓we_ixV, ↓we_inV, ↓ws_setIx, ↓wo_none, ↓wo_some, ↓we_sl, ↓wd_disp1, ↓wt_nil, ↓wt_cons, ↓we_dispT, ↓we_make, ↓ws_lsSet1, ↓ws_lsSet2, ↓ws_for, ↓wl_lc, ↓wl_rng1', ↓wl_rng2', List.getElem?_cons_zero, List.getElem?_cons_succ, List.set_cons_zero, List.set_cons_succ, Option.bind_some, id, rdV_av, rdV_d, rdV_lp, rdV_fn, rdV_ft, rdV_fd, rdV_ml, rdV_md, lenOf_ml, lenOf_l, lenOf_t, datOf_d, mlOf_ml, lstOf_l, intOf_i, seqOf_t, seqOf_l, dCmp_i, isLp_lp, avIx_ml, avIx_l, avIx_t, wv_map, dMod_p, dDiv_p, dAdd_t, dAdd_l, rngOf_1, rngOf_2, Option.isSome_some, true_and, and_true, rng_nat', Int.toNat_natCast, wipeG_n, wipeG_c, wif_dec, dats_nil, dats_d, dAdd_i, dSub_i, dMul_i, dIx_t, dIx_l, at0, at1, at2, dNeg_i, dTuple_l, dTuple_t, dList_l, dList_t, dInt_i, dLen_l, dLen_t, dPr_sz, dPr_pa, dPr_tk, dPr_lv, dPr_sk, ws_ls1', ws_ls2', wg_tp', ws_app', ws_ext', rdV_non, Option.map_some, List.length_cons, List.length_nil]
    refine next_wc hl (by omega) (by omega) fun y l' hy hl' => ?_
    refine ⟨y, rfl, by simp [e1], ?_, l', hl', rfl⟩
    intro x hx
    rcases List.mem_append.mp hx with hx | hx
    · exact e2 x hx
    · simp at hx; omega
  · rintro acc s ⟨e1, e2, l, hl, rfl⟩
    exact q ⟨v, acc⟩ l ⟨hv', by simpa using e1, e2⟩ hl
theorem changes_wc {A : Ad} {l : LS} {sz : List Nat} {Q : AV → LS → Prop} (hl : LsOk l) (h1 : 1 ≤ sz.length) (h3 : sz.length ≤ 3) (q : ∀ c l', ChOk sz c → LsOk l' → Q (.d (ePs c)) l') : WC (g__law_changes A) [.lp, .d (eNs sz)] l Q := by
  have hb := line_big
  unfold g__law_changes b__law_changes
  rw [wc_den, enter_eq]
  simp only [List.map_cons, List.map_nil, List.length_cons, List.length_nil, List.replicate, List.cons_append, List.nil_append, Nat.reduceAdd, Nat.reduceSub]
  simp only [↓ws_seq, ↓ws_set, ↓ws_setL, ↓ws_setD, ↓ws_asg, ↓ws_ret, ↓ws_retN, ↓ws_if, ↓ws_skip, ↓ws_break, ↓ws_cont, ↓ws_never, ↓we_var, ↓we_C, ↓we_fn, ↓we_f2, ↓we_f1, ↓we_chain, ↓wb_tst, ↓wb_tru, ↓wb_and, ↓wb_or, ↓wb_not, ↓wb_yes, ↓we_andV, ↓we_orV, ↓we_notV, ↓we_if, ↓wa_nil, ↓wa_cons, ↓we_tup, ↓wl_lst, ↓we_ofL, ↓wl_it, ↓we_CB, ↓wl_CL, ↓we_call, ↓wg_nm, ↓wgs_nil, ↓wgs_cons, ↓ks_nx, ↓ks_rt, ↓ks_bk, ↓ks_ct, ↓kr_rt, ↓kr_nx, ↓kt_nx, ↓kt_ct, ↓kt_bk, ↓kt_rt, ↓wv_some, ↓wtst_b, ↓wif_t, ↓wif_f, ↓wif_not, ↓we_lenV, ↓we_ixV, ↓we_inV, ↓ws_setIx, ↓wo_none, ↓wo_some, ↓we_sl, ↓wd_disp1, ↓wt_nil, ↓wt_cons, ↓we_dispT, ↓we_make, ↓ws_lsSet1, ↓ws_lsSet2, ↓ws_for, ↓wl_lc, ↓wl_rng1', ↓wl_rng2', List.getElem?_cons_zero, List.getElem?_cons_succ, List.set_cons_zero, List.set_cons_succ, Option.bind_some, id, rdV_av, rdV_d, rdV_lp, rdV_fn, rdV_ft, rdV_fd, rdV_ml, rdV_md, lenOf_ml, lenOf_l, lenOf_t, datOf_d, mlOf_ml, lstOf_l, intOf_i, seqOf_t, seqOf_l, dCmp_i, isLp_lp, avIx_ml, avIx_l, avIx_t, wv_map, dMod_p, dDiv_p, dAdd_t, dAdd_l, rngOf_1, rngOf_2, Option.isSome_some, true_and, and_true, rng_nat', Int.toNat_natCast, wipeG_n, wipeG_c, wif_dec, dats_nil, dats_d, dAdd_i, dSub_i, dMul_i, dIx_t, dIx_l, at0, at1, at2, dNeg_i, dTuple_l, dTuple_t, dList_l, dList_t, dInt_i, dLen_l, dLen_t, dPr_sz, dPr_pa, dPr_tk, dPr_lv, dPr_sk, ws_ls1', ws_ls2', wg_tp', ws_app', ws_ext', rdV_non, Option.map_some, List.length_cons, List.length_nil, List.length_map]
  refine next_wc hl (by omega) (by omega) fun v l1 hv hl1 => ?_
  simp only [↓ws_seq, ↓ws_set, ↓ws_setL, ↓ws_setD, ↓ws_asg, ↓ws_ret, ↓ws_retN, ↓ws_if, ↓ws_skip, ↓ws_break, ↓ws_cont, ↓ws_never, ↓we_var, ↓we_C, ↓we_fn, ↓we_f2, ↓we_f1, ↓we_chain, ↓wb_tst, ↓wb_tru, ↓wb_and, ↓wb_or, ↓wb_not, ↓wb_yes, ↓we_andV, ↓we_orV, ↓we_notV, ↓we_if, ↓wa_nil, ↓wa_cons, ↓we_tup, ↓wl_lst, ↓we_ofL, ↓wl_it, ↓we_CB, ↓wl_CL, ↓we_call, ↓wg_nm, ↓wgs_nil, ↓wgs_cons, ↓ks_nx, ↓ks_rt, ↓ks_bk, ↓ks_ct, ↓kr_rt, ↓kr_nx, ↓kt_nx, ↓kt_ct, ↓kt_bk, ↓kt_rt, ↓wv_some, ↓wtst_b, ↓wif_t, ↓wif_f, ↓wif_not, ↓we_lenV, ↓we_ixV, ↓we_inV, ↓ws_setIx, ↓wo_none, ↓wo_some, ↓we_sl, ↓wd_disp1, ↓wt_nil, ↓wt_cons, ↓we_dispT, ↓we_make, ↓ws_lsSet1, ↓ws_lsSet2, ↓ws_for, ↓wl_lc, ↓wl_rng1', ↓wl_rng2', List.getElem?_cons_zero, List.getElem?_cons_succ, List.set_cons_zero, List.set_cons_succ, Option.bind_some, id, rdV_av, rdV_d, rdV_lp, rdV_fn, rdV_ft, rdV_fd, rdV_ml, rdV_md, lenOf_ml, lenOf_l, lenOf_t, datOf_d, mlOf_ml, lstOf_l, intOf_i, seqOf_t, seqOf_l, dCmp_i, isLp_lp, avIx_ml, avIx_l, avIx_t, wv_map, dMod_p, dDiv_p, dAdd_t, dAdd_l, rngOf_1, rngOf_2, Option.isSome_some, true_and, and_true, rng_nat', Int.toNat_natCast, wipeG_n, wipeG_c, wif_dec, dats_nil, dats_d, dAdd_i, dSub_i, dMul_i, dIx_t, dIx_l, at0, at1, at2, dNeg_i, dTuple_l, dTuple_t, dList_l, dList_t, dInt_i, dLen_l, dLen_t, dPr_sz, dPr_pa, dPr_tk, dPr_lv, dPr_sk, ws_ls1', ws_ls2', wg_tp', ws_app', ws_ext', rdV_non, Option.map_some, List.length_cons, List.length_nil]
  refine wv_at (by simp; omega) fun m hm => ?_
  obtain ⟨mm, rfl, m1, m2⟩ : ∃ mm : Nat, m = .int mm ∧ 1 ≤ mm ∧ mm ≤ 3 := by
    simp only [List.mem_cons, List.not_mem_nil, or_false] at hm
    rcases hm with rfl | rfl | rfl | rfl | rfl | rfl
    · exact ⟨1, rfl, by decide, by decide⟩
    · exact ⟨1, rfl, by decide, by decide⟩
    · exact ⟨1, rfl, by decide, by decide⟩
    · exact ⟨1, rfl, by decide, by decide⟩
    · exact ⟨2, rfl, by decide, by decide⟩
    · exact ⟨3, rfl, by decide, by decide⟩
  simp only [↓ws_seq, ↓ws_set, ↓ws_setL, ↓ws_setD, ↓ws_asg, ↓ws_ret, ↓ws_retN, ↓ws_if, ↓ws_skip, ↓ws_break, ↓ws_cont, ↓ws_never, ↓we_var, ↓we_C, ↓we_fn, ↓we_f2, ↓we_f1, ↓we_chain, ↓wb_tst, ↓wb_tru, ↓wb_and, ↓wb_or, ↓wb_not, ↓wb_yes, ↓we_andV, ↓we_orV, ↓we_notV, ↓we_if, ↓wa_nil, ↓wa_cons, ↓we_tup, ↓wl_lst, ↓we_ofL, ↓wl_it, ↓we_CB, ↓wl_CL, ↓we_call, ↓wg_nm, ↓wgs_nil, ↓wgs_cons, ↓ks_nx, ↓ks_rt, ↓ks_bk, ↓ks_ct, ↓kr_rt, ↓kr_nx, ↓kt_nx, ↓kt_ct, ↓kt_bk, ↓kt_rt, ↓wv_some, ↓wtst_b, ↓wif_t, ↓wif_f, ↓wif_not, ↓we_lenV, ↓we_ixV, ↓we_inV, ↓ws_setIx, ↓wo_none, ↓wo_some, ↓we_sl, ↓wd_disp1, ↓wt_nil, ↓wt_cons, ↓we_dispT, ↓we_make, ↓ws_lsSet1, ↓ws_lsSet2, ↓ws_for, ↓wl_lc, ↓wl_rng1', ↓wl_rng2', List.getElem?_cons_zero, List.getElem?_cons_succ, List.set_cons_zero, List.set_cons_succ, Option.bind_some, id, rdV_av, rdV_d, rdV_lp, rdV_fn, rdV_ft, rdV_fd, rdV_ml, rdV_md, lenOf_ml, lenOf_l, lenOf_t, datOf_d, mlOf_ml, lstOf_l, intOf_i, seqOf_t, seqOf_l, dCmp_i, isLp_lp, avIx_ml, avIx_l, avIx_t, wv_map, dMod_p, dDiv_p, dAdd_t, dAdd_l, rngOf_1, rngOf_2, Option.isSome_some, true_and, and_true, rng_nat', Int.toNat_natCast, wipeG_n, wipeG_c, wif_dec, dats_nil, dats_d, dAdd_i, dSub_i, dMul_i, dIx_t, dIx_l, at0, at1, at2, dNeg_i, dTuple_l, dTuple_t, dList_l, dList_t, dInt_i, dLen_l, dLen_t, dPr_sz, dPr_pa, dPr_tk, dPr_lv, dPr_sk, ws_ls1', ws_ls2', wg_tp', ws_app', ws_ext', rdV_non, Option.map_some, List.length_cons, List.length_nil]
  refine ⟨inB_of (by omega) (by omega), ?_⟩
  refine ws_forGo eN (fun done rest s => ∃ c l o, done.length = c.length ∧ (∀ p ∈ c, p.1 < sz.length ∧ 1 ≤ p.2 ∧ p.2 ≤ 3) ∧ done.length + rest.length = mm ∧ LsOk l ∧ s = ⟨[some .lp, some (.d (eNs sz)), some (.ml (c.map eP)), o], l⟩) (List.range mm) [] _ ⟨[], l1, none, rfl, by simp, by simp, hl1, rfl⟩ ?_ ?_
  · rintro done x rest s ⟨c, l, o, e1, e2, e3, hl, rfl⟩
    rw [List.length_cons] at e3
    simp only [↓ws_seq, ↓ws_set, ↓ws_setL, ↓ws_setD, ↓ws_asg, ↓ws_ret, ↓ws_retN, ↓ws_if, ↓ws_skip, ↓ws_break, ↓ws_cont, ↓ws_never, ↓we_var, ↓we_C, ↓we_fn, ↓we_f2, ↓we_f1, ↓we_chain, ↓wb_tst, ↓wb_tru, ↓wb_and, ↓wb_or, ↓wb_not, ↓wb_yes, ↓we_andV, ↓we_orV, ↓we_notV, ↓we_if, ↓wa_nil, ↓wa_cons, ↓we_tup, ↓wl_lst, ↓we_ofL, ↓wl_it, ↓we_CB, ↓wl_CL, ↓we_call, ↓wg_nm, ↓wgs_nil, ↓wgs_cons, ↓ks_nx, ↓ks_rt, ↓ks_bk, ↓ks_ct, ↓kr_rt, ↓kr_nx, ↓kt_nx, ↓kt_ct, ↓kt_bk, ↓kt_rt, ↓wv_some, ↓wtst_b, ↓wif_t, ↓wif_f, ↓wif_not, ↓we_lenV, ↓we_ixV, ↓we_inV, ↓ws_setIx, ↓wo_none, ↓wo_some, ↓we_sl, ↓wd_disp1, ↓wt_nil, ↓wt_cons, ↓we_dispT, ↓we_make, ↓ws_lsSet1, ↓ws_lsSet2, ↓ws_for, ↓wl_lc, ↓wl_rng1', ↓wl_rng2', List.getElem?_cons_zero, List.getElem?_cons_succ, List.set_cons_zero, List.set_cons_succ, Option.bind_some, id, rdV_av, rdV_d, rdV_lp, rdV_fn, rdV_ft, rdV_fd, rdV_ml, rdV_md, lenOf_ml, lenOf_l, lenOf_t, datOf_d, mlOf_ml, lstOf_l, intOf_i, seqOf_t, seqOf_l, dCmp_i, isLp_lp, avIx_ml, avIx_l, avIx_t, wv_map, dMod_p, dDiv_p, dAdd_t, dAdd_l, rngOf_1, rngOf_2, Option.isSome_some, true_and, and_true, rng_nat', Int.toNat_natCast, wipeG_n, wipeG_c, wif_dec, dats_nil, dats_d, dAdd_i, dSub_i, dMul_i, dIx_t, dIx_l, at0, at1, at2, dNeg_i, dTuple_l, dTuple_t, dList_l, dList_t, dInt_i, dLen_l, dLen_t, dPr_sz, dPr_pa, dPr_tk, dPr_lv, dPr_sk, ws_ls1', ws_ls2', wg_tp', ws_app', ws_ext', rdV_non, Option.map_some, List.length_cons, List.length_nil, List.length_map]
    refine next_wc hl (by omega) (by omega) fun y l' hy hl' => ?_
    simp only [↓ws_seq, ↓ws_set, ↓ws_setL, ↓ws_setD, ↓ws_asg, ↓ws_ret, ↓ws_retN, ↓ws_if, ↓ws_skip, ↓ws_break, ↓ws_cont, ↓ws_never, ↓we_var, ↓we_C, ↓we_fn, ↓we_f2, ↓we_f1, ↓we_chain, ↓wb_tst, ↓wb_tru, ↓wb_and, ↓wb_or, ↓wb_not, ↓wb_yes, ↓we_andV, ↓we_orV, ↓we_notV, ↓we_if, ↓wa_nil, ↓wa_cons, ↓we_tup, ↓wl_lst, ↓we_ofL, ↓wl_it, ↓we_CB, ↓wl_CL, ↓we_call, ↓wg_nm, ↓wgs_nil, ↓wgs_cons, ↓ks_nx, ↓ks_rt, ↓ks_bk, ↓ks_ct, ↓kr_rt, ↓kr_nx, ↓kt_nx, ↓kt_ct, ↓kt_bk, ↓kt_rt, ↓wv_some, ↓wtst_b, ↓wif_t, ↓wif_f, ↓wif_not, ↓we_lenV, ↓we_ixV, ↓we_inV, ↓ws_setIx, ↓wo_none, ↓wo_some, ↓we_sl, ↓wd_disp1, ↓wt_nil, ↓wt_cons, ↓we_dispT, ↓we_make, ↓ws_lsSet1, ↓ws_lsSet2, ↓ws_for, ↓wl_lc, ↓wl_rng1', ↓wl_rng2', List.getElem?_cons_zero, List.getElem?_cons_succ, List.set_cons_zero, List.set_cons_succ, Option.bind_some, id, rdV_av, rdV_d, rdV_lp, rdV_fn, rdV_ft, rdV_fd, rdV_ml, rdV_md, lenOf_ml, lenOf_l, lenOf_t, datOf_d, mlOf_ml, lstOf_l, intOf_i, seqOf_t, seqOf_l, dCmp_i, isLp_lp, avIx_ml, avIx_l, avIx_t, wv_map, dMod_p, dDiv_p, dAdd_t, dAdd_l, rngOf_1, rngOf_2, Option.isSome_some, true_and, and_true, rng_nat', Int.toNat_natCast, wipeG_n, wipeG_c, wif_dec, dats_nil, dats_d, dAdd_i, dSub_i, dMul_i, dIx_t, dIx_l, at0, at1, at2, dNeg_i, dTuple_l, dTuple_t, dList_l, dList_t, dInt_i, dLen_l, dLen_t, dPr_sz, dPr_pa, dPr_tk, dPr_lv, dPr_sk, ws_ls1', ws_ls2', wg_tp', ws_app', ws_ext', rdV_non, Option.map_some, List.length_cons, List.length_nil]
    refine next_wc hl' (by omega) (by omega) fun z l'' hz hl'' => ?_
    simp only [↓ws_seq, ↓ws_set, ↓ws_setL, ↓ws_setD, ↓ws_asg, ↓ws_ret, ↓ws_retN, ↓ws_if, ↓ws_skip, ↓ws_break, ↓ws_cont, ↓ws_never, ↓we_var, ↓we_C, ↓we_fn, ↓we_f2, ↓we_f1, ↓we_chain, ↓wb_tst, ↓wb_tru, ↓wb_and, ↓wb_or, ↓wb_not, ↓wb_yes, ↓we_andV, ↓we_orV, ↓we_notV, ↓we_if, ↓wa_nil, ↓wa_cons, ↓we_tup, ↓wl_lst, ↓we_ofL, ↓wl_it, ↓we_CB, ↓wl_CL, ↓we_call, ↓wg_nm, ↓wgs_nil, ↓wgs_cons, ↓ks_nx, ↓ks_rt, ↓ks_bk, ↓ks_ct, ↓kr_rt, ↓kr_nx, ↓kt_nx, ↓kt_ct, ↓kt_bk, ↓kt_rt, ↓wv_some, ↓wtst_b, ↓wif_t, ↓wif_f, ↓wif_not, ↓we_lenV, ↓we_ixV, ↓we_inV, ↓ws_setIx, ↓wo_none, ↓wo_some, ↓we_sl, ↓wd_disp1, ↓wt_nil, ↓wt_cons, ↓we_dispT, ↓we_make, ↓ws_lsSet1, ↓ws_lsSet2, ↓ws_for, ↓wl_lc, ↓wl_rng1', ↓wl_rng2', List.getElem?_cons_zero, List.getElem?_cons_succ, List.set_cons_zero, List.set_cons_succ, Option.bind_some, id, rdV_av, rdV_d, rdV_lp, rdV_fn, rdV_ft, rdV_fd, rdV_ml, rdV_md, lenOf_ml, lenOf_l, lenOf_t, datOf_d, mlOf_ml, lstOf_l, intOf_i, seqOf_t, seqOf_l, dCmp_i, isLp_lp, avIx_ml, avIx_l, avIx_t, wv_map, dMod_p, dDiv_p, dAdd_t, dAdd_l, rngOf_1, rngOf_2, Option.isSome_some, true_and, and_true, rng_nat', Int.toNat_natCast, wipeG_n, wipeG_c, wif_dec, dats_nil, dats_d, dAdd_i, dSub_i, dMul_i, dIx_t, dIx_l, at0, at1, at2, dNeg_i, dTuple_l, dTuple_t, dList_l, dList_t, dInt_i, dLen_l, dLen_t, dPr_sz, dPr_pa, dPr_tk, dPr_lv, dPr_sk, ws_ls1', ws_ls2', wg_tp', ws_app', ws_ext', rdV_non, Option.map_some, List.length_cons, List.length_nil, List.length_map]
    refine ⟨by omega, c ++ [(y, 1 + z)], l'', some (.d (eN x)), by simp [e1], ?_, by rw [List.length_append, List.length_singleton]; omega, hl'', ?_⟩
    · intro x hx
      rcases List.mem_append.mp hx with hx | hx
      · exact e2 x hx
      · simp at hx; subst hx; exact ⟨by omega, by omega, by omega⟩
    · rw [List.map_append]
      rfl
  · rintro s ⟨c, l, o, e1, e2, e3, hl, rfl⟩
    rw [List.length_nil] at e3
    simp only [↓ws_seq, ↓ws_set, ↓ws_setL, ↓ws_setD, ↓ws_asg, ↓ws_ret, ↓ws_retN, ↓ws_if, ↓ws_skip, ↓ws_break, ↓ws_cont, ↓ws_never, ↓we_var, ↓we_C, ↓we_fn, ↓we_f2, ↓we_f1, ↓we_chain, ↓wb_tst, ↓wb_tru, ↓wb_and, ↓wb_or, ↓wb_not, ↓wb_yes, ↓we_andV, ↓we_orV, ↓we_notV, ↓we_if, ↓wa_nil, ↓wa_cons, ↓we_tup, ↓wl_lst, ↓we_ofL, ↓wl_it, ↓we_CB, ↓wl_CL, ↓we_call, ↓wg_nm, ↓wgs_nil, ↓wgs_cons, ↓ks_nx, ↓ks_rt, ↓ks_bk, ↓ks_ct, ↓kr_rt, ↓kr_nx, ↓kt_nx, ↓kt_ct, ↓kt_bk, ↓kt_rt, ↓wv_some, ↓wtst_b, ↓wif_t, ↓wif_f, ↓wif_not, ↓we_lenV, ↓we_ixV, ↓we_inV, ↓ws_setIx, ↓wo_none, ↓wo_some, ↓we_sl, ↓wd_disp1, ↓wt_nil, ↓wt_cons, ↓we_dispT, ↓we_make, ↓ws_lsSet1, ↓ws_lsSet2, ↓ws_for, ↓wl_lc, ↓wl_rng1', ↓wl_rng2', List.getElem?_cons_zero, List.getElem?_cons_succ, List.set_cons_zero, List.set_cons_succ, Option.bind_some, id, rdV_av, rdV_d, rdV_lp, rdV_fn, rdV_ft, rdV_fd, rdV_ml, rdV_md, lenOf_ml, lenOf_l, lenOf_t, datOf_d, mlOf_ml, lstOf_l, intOf_i, seqOf_t, seqOf_l, dCmp_i, isLp_lp, avIx_ml, avIx_l, avIx_t, wv_map, dMod_p, dDiv_p, dAdd_t, dAdd_l, rngOf_1, rngOf_2, Option.isSome_some, true_and, and_true, rng_nat', Int.toNat_natCast, wipeG_n, wipeG_c, wif_dec, dats_nil, dats_d, dAdd_i, dSub_i, dMul_i, dIx_t, dIx_l, at0, at1, at2, dNeg_i, dTuple_l, dTuple_t, dList_l, dList_t, dInt_i, dLen_l, dLen_t, dPr_sz, dPr_pa, dPr_tk, dPr_lv, dPr_sk, ws_ls1', ws_ls2', wg_tp', ws_app', ws_ext', rdV_non, Option.map_some, List.length_cons, List.length_nil]
    exact q c l ⟨by omega, by omega, e2⟩ hl
end Pu

set_option Elab.async false
set_option linter.all false
set_option maxRecDepth 100000
set_option maxHeartbeats 1000000
/-! Pu, part H: parts, the data of a program. -/
namespace Pu
open PySem Tk Tk.W
structure PtOk (sz : List Nat) (p : Pt) : Prop where
  look : TbOk sz p.look
  word : TbOk sz p.word
  press : ∀ c, p.press = some c → ChOk sz c
theorem dEq_gd {x y : PyData} {Q : AV → Prop} (hx : gd 60 x = true) (hy : gd 60 y = true) : WV (dEq (.d x) (.d y)) Q = Q (.d (.bool (decide (x = y)))) := by
  have h1 := shaped_gd hx (by decide)
  have h2 := shaped_gd hy (by decide)
  show WV (if _ then _ else _) Q = _
  rw [if_pos ⟨h1, h2⟩, wv_some, eqv_gd _ _ _ _ hx hy]
theorem dNe_gd {x y : PyData} {Q : AV → Prop} (hx : gd 60 x = true) (hy : gd 60 y = true) : WV (dNe (.d x) (.d y)) Q = Q (.d (.bool (decide (x ≠ y)))) := by
  have h1 := shaped_gd hx (by decide)
  have h2 := shaped_gd hy (by decide)
  show WV (if _ then _ else _) Q = _
  rw [if_pos ⟨h1, h2⟩, wv_some, eqv_gd _ _ _ _ hx hy]
  congr 3
  by_cases h : x = y <;> simp [h]
theorem dEq_i {i j : Int} : dEq (.d (.int i)) (.d (.int j)) = some (.d (.bool (decide (i = j)))) := by
  have h : WV (dEq (.d (.int i)) (.d (.int j))) fun r => r = .d (.bool (decide (i = j))) := by
    rw [dEq_gd rfl rfl]
    simp
  obtain ⟨r, h1, h2⟩ := h
  rw [h1, h2]
theorem dNe_i {i j : Int} : dNe (.d (.int i)) (.d (.int j)) = some (.d (.bool (decide (i ≠ j)))) := by
  have h : WV (dNe (.d (.int i)) (.d (.int j))) fun r => r = .d (.bool (decide (i ≠ j))) := by
    rw [dNe_gd rfl rfl]
    simp
  obtain ⟨r, h1, h2⟩ := h
  rw [h1, h2]
theorem part_wc {A : Ad} {l : LS} {sz : List Nat} {Q : AV → LS → Prop} (hl : LsOk l) (h1 : 1 ≤ sz.length) (h3 : sz.length ≤ 3) (hz : ∀ n ∈ sz, 2 ≤ n ∧ n ≤ 4) (q : ∀ p l', PtOk sz p → LsOk l' → Q (.d (ePt p)) l') : WC (g__law_part A) [.lp, .d (eNs sz)] l Q := by
  unfold g__law_part b__law_part
  rw [wc_den, enter_eq]
  simp only [List.map_cons, List.map_nil, List.length_cons, List.length_nil, List.replicate, List.cons_append, List.nil_append, Nat.reduceAdd, Nat.reduceSub]
  simp only [↓ws_seq, ↓ws_set, ↓ws_setL, ↓ws_setD, ↓ws_asg, ↓ws_ret, ↓ws_retN, ↓ws_if, ↓ws_skip, ↓ws_break, ↓ws_cont, ↓ws_never, ↓we_var, ↓we_C, ↓we_fn, ↓we_f2, ↓we_f1, ↓we_chain, ↓wb_tst, ↓wb_tru, ↓wb_and, ↓wb_or, ↓wb_not, ↓wb_yes, ↓we_andV, ↓we_orV, ↓we_notV, ↓we_if, ↓wa_nil, ↓wa_cons, ↓we_tup, ↓wl_lst, ↓we_ofL, ↓wl_it, ↓we_CB, ↓wl_CL, ↓we_call, ↓wg_nm, ↓wgs_nil, ↓wgs_cons, ↓ks_nx, ↓ks_rt, ↓ks_bk, ↓ks_ct, ↓kr_rt, ↓kr_nx, ↓kt_nx, ↓kt_ct, ↓kt_bk, ↓kt_rt, ↓wv_some, ↓wtst_b, ↓wif_t, ↓wif_f, ↓wif_not, ↓we_lenV, ↓we_ixV, ↓we_inV, ↓ws_setIx, ↓wo_none, ↓wo_some, ↓we_sl, ↓wd_disp1, ↓wt_nil, ↓wt_cons, ↓we_dispT, ↓we_make, ↓ws_lsSet1, ↓ws_lsSet2, ↓ws_for, ↓wl_lc, ↓wl_rng1', ↓wl_rng2', List.getElem?_cons_zero, List.getElem?_cons_succ, List.set_cons_zero, List.set_cons_succ, Option.bind_some, id, rdV_av, rdV_d, rdV_lp, rdV_fn, rdV_ft, rdV_fd, rdV_ml, rdV_md, lenOf_ml, lenOf_l, lenOf_t, datOf_d, mlOf_ml, lstOf_l, intOf_i, seqOf_t, seqOf_l, dCmp_i, isLp_lp, avIx_ml, avIx_l, avIx_t, wv_map, dMod_p, dDiv_p, dAdd_t, dAdd_l, rngOf_1, rngOf_2, Option.isSome_some, true_and, and_true, rng_nat', Int.toNat_natCast, wipeG_n, wipeG_c, wif_dec, dats_nil, dats_d, dAdd_i, dSub_i, dMul_i, dIx_t, dIx_l, at0, at1, at2, dNeg_i, dTuple_l, dTuple_t, dList_l, dList_t, dInt_i, dLen_l, dLen_t, dPr_sz, dPr_pa, dPr_tk, dPr_lv, dPr_sk, ws_ls1', ws_ls2', wg_tp', ws_app', ws_ext', rdV_non, Option.map_some, List.length_cons, List.length_nil, List.length_map]
  refine table_wc hl h1 h3 hz fun a l1 ha hl1 => ?_
  simp only [↓ws_seq, ↓ws_set, ↓ws_setL, ↓ws_setD, ↓ws_asg, ↓ws_ret, ↓ws_retN, ↓ws_if, ↓ws_skip, ↓ws_break, ↓ws_cont, ↓ws_never, ↓we_var, ↓we_C, ↓we_fn, ↓we_f2, ↓we_f1, ↓we_chain, ↓wb_tst, ↓wb_tru, ↓wb_and, ↓wb_or, ↓wb_not, ↓wb_yes, ↓we_andV, ↓we_orV, ↓we_notV, ↓we_if, ↓wa_nil, ↓wa_cons, ↓we_tup, ↓wl_lst, ↓we_ofL, ↓wl_it, ↓we_CB, ↓wl_CL, ↓we_call, ↓wg_nm, ↓wgs_nil, ↓wgs_cons, ↓ks_nx, ↓ks_rt, ↓ks_bk, ↓ks_ct, ↓kr_rt, ↓kr_nx, ↓kt_nx, ↓kt_ct, ↓kt_bk, ↓kt_rt, ↓wv_some, ↓wtst_b, ↓wif_t, ↓wif_f, ↓wif_not, ↓we_lenV, ↓we_ixV, ↓we_inV, ↓ws_setIx, ↓wo_none, ↓wo_some, ↓we_sl, ↓wd_disp1, ↓wt_nil, ↓wt_cons, ↓we_dispT, ↓we_make, ↓ws_lsSet1, ↓ws_lsSet2, ↓ws_for, ↓wl_lc, ↓wl_rng1', ↓wl_rng2', List.getElem?_cons_zero, List.getElem?_cons_succ, List.set_cons_zero, List.set_cons_succ, Option.bind_some, id, rdV_av, rdV_d, rdV_lp, rdV_fn, rdV_ft, rdV_fd, rdV_ml, rdV_md, lenOf_ml, lenOf_l, lenOf_t, datOf_d, mlOf_ml, lstOf_l, intOf_i, seqOf_t, seqOf_l, dCmp_i, isLp_lp, avIx_ml, avIx_l, avIx_t, wv_map, dMod_p, dDiv_p, dAdd_t, dAdd_l, rngOf_1, rngOf_2, Option.isSome_some, true_and, and_true, rng_nat', Int.toNat_natCast, wipeG_n, wipeG_c, wif_dec, dats_nil, dats_d, dAdd_i, dSub_i, dMul_i, dIx_t, dIx_l, at0, at1, at2, dNeg_i, dTuple_l, dTuple_t, dList_l, dList_t, dInt_i, dLen_l, dLen_t, dPr_sz, dPr_pa, dPr_tk, dPr_lv, dPr_sk, ws_ls1', ws_ls2', wg_tp', ws_app', ws_ext', rdV_non, Option.map_some, List.length_cons, List.length_nil]
  refine table_wc hl1 h1 h3 hz fun b l2 hb hl2 => ?_
  simp only [↓ws_seq, ↓ws_set, ↓ws_setL, ↓ws_setD, ↓ws_asg, ↓ws_ret, ↓ws_retN, ↓ws_if, ↓ws_skip, ↓ws_break, ↓ws_cont, ↓ws_never, ↓we_var, ↓we_C, ↓we_fn, ↓we_f2, ↓we_f1, ↓we_chain, ↓wb_tst, ↓wb_tru, ↓wb_and, ↓wb_or, ↓wb_not, ↓wb_yes, ↓we_andV, ↓we_orV, ↓we_notV, ↓we_if, ↓wa_nil, ↓wa_cons, ↓we_tup, ↓wl_lst, ↓we_ofL, ↓wl_it, ↓we_CB, ↓wl_CL, ↓we_call, ↓wg_nm, ↓wgs_nil, ↓wgs_cons, ↓ks_nx, ↓ks_rt, ↓ks_bk, ↓ks_ct, ↓kr_rt, ↓kr_nx, ↓kt_nx, ↓kt_ct, ↓kt_bk, ↓kt_rt, ↓wv_some, ↓wtst_b, ↓wif_t, ↓wif_f, ↓wif_not, ↓we_lenV, ↓we_ixV, ↓we_inV, ↓ws_setIx, ↓wo_none, ↓wo_some, ↓we_sl, ↓wd_disp1, ↓wt_nil, ↓wt_cons, ↓we_dispT, ↓we_make, ↓ws_lsSet1, ↓ws_lsSet2, ↓ws_for, ↓wl_lc, ↓wl_rng1', ↓wl_rng2', List.getElem?_cons_zero, List.getElem?_cons_succ, List.set_cons_zero, List.set_cons_succ, Option.bind_some, id, rdV_av, rdV_d, rdV_lp, rdV_fn, rdV_ft, rdV_fd, rdV_ml, rdV_md, lenOf_ml, lenOf_l, lenOf_t, datOf_d, mlOf_ml, lstOf_l, intOf_i, seqOf_t, seqOf_l, dCmp_i, isLp_lp, avIx_ml, avIx_l, avIx_t, wv_map, dMod_p, dDiv_p, dAdd_t, dAdd_l, rngOf_1, rngOf_2, Option.isSome_some, true_and, and_true, rng_nat', Int.toNat_natCast, wipeG_n, wipeG_c, wif_dec, dats_nil, dats_d, dAdd_i, dSub_i, dMul_i, dIx_t, dIx_l, at0, at1, at2, dNeg_i, dTuple_l, dTuple_t, dList_l, dList_t, dInt_i, dLen_l, dLen_t, dPr_sz, dPr_pa, dPr_tk, dPr_lv, dPr_sk, ws_ls1', ws_ls2', wg_tp', ws_app', ws_ext', rdV_non, Option.map_some, List.length_cons, List.length_nil]
  refine next_wc hl2 (by omega) (by omega) fun k l3 hk hl3 => ?_
  simp only [↓ws_seq, ↓ws_set, ↓ws_setL, ↓ws_setD, ↓ws_asg, ↓ws_ret, ↓ws_retN, ↓ws_if, ↓ws_skip, ↓ws_break, ↓ws_cont, ↓ws_never, ↓we_var, ↓we_C, ↓we_fn, ↓we_f2, ↓we_f1, ↓we_chain, ↓wb_tst, ↓wb_tru, ↓wb_and, ↓wb_or, ↓wb_not, ↓wb_yes, ↓we_andV, ↓we_orV, ↓we_notV, ↓we_if, ↓wa_nil, ↓wa_cons, ↓we_tup, ↓wl_lst, ↓we_ofL, ↓wl_it, ↓we_CB, ↓wl_CL, ↓we_call, ↓wg_nm, ↓wgs_nil, ↓wgs_cons, ↓ks_nx, ↓ks_rt, ↓ks_bk, ↓ks_ct, ↓kr_rt, ↓kr_nx, ↓kt_nx, ↓kt_ct, ↓kt_bk, ↓kt_rt, ↓wv_some, ↓wtst_b, ↓wif_t, ↓wif_f, ↓wif_not, ↓we_lenV, ↓we_ixV, ↓we_inV, ↓ws_setIx, ↓wo_none, ↓wo_some, ↓we_sl, ↓wd_disp1, ↓wt_nil, ↓wt_cons, ↓we_dispT, ↓we_make, ↓ws_lsSet1, ↓ws_lsSet2, ↓ws_for, ↓wl_lc, ↓wl_rng1', ↓wl_rng2', List.getElem?_cons_zero, List.getElem?_cons_succ, List.set_cons_zero, List.set_cons_succ, Option.bind_some, id, rdV_av, rdV_d, rdV_lp, rdV_fn, rdV_ft, rdV_fd, rdV_ml, rdV_md, lenOf_ml, lenOf_l, lenOf_t, datOf_d, mlOf_ml, lstOf_l, intOf_i, seqOf_t, seqOf_l, dCmp_i, isLp_lp, avIx_ml, avIx_l, avIx_t, wv_map, dMod_p, dDiv_p, dAdd_t, dAdd_l, rngOf_1, rngOf_2, Option.isSome_some, true_and, and_true, rng_nat', Int.toNat_natCast, wipeG_n, wipeG_c, wif_dec, dats_nil, dats_d, dAdd_i, dSub_i, dMul_i, dIx_t, dIx_l, at0, at1, at2, dNeg_i, dTuple_l, dTuple_t, dList_l, dList_t, dInt_i, dLen_l, dLen_t, dPr_sz, dPr_pa, dPr_tk, dPr_lv, dPr_sk, ws_ls1', ws_ls2', wg_tp', ws_app', ws_ext', rdV_non, Option.map_some, List.length_cons, List.length_nil, dEq_i]
  have key : ∀ (w : Tb), TbOk sz w → ∀ l3, LsOk l3 → WS (fSeq (fSet 4 (fC PyData.none)) (fSeq (fIfS (fTst (f2 dGt (fCall (g__law_next A) (fCons (fVar 0) (fCons (fC (PyData.int 3)) fNil))) (fC (PyData.int 0)))) (fSet 4 (fCall (g__law_changes A) (fCons (fVar 0) (fCons (fVar 1) fNil)))) fSkip) (fRet (fTup (fCons (fVar 2) (fCons (fVar 3) (fCons (fVar 4) fNil)))))))
      ⟨[some .lp, some (.d (eNs sz)), some (.d (eT a)), some (.d (eT w)), none], l3⟩ (KRet Q) := by
    intro w hw l3 hl3
    simp only [↓ws_seq, ↓ws_set, ↓ws_setL, ↓ws_setD, ↓ws_asg, ↓ws_ret, ↓ws_retN, ↓ws_if, ↓ws_skip, ↓ws_break, ↓ws_cont, ↓ws_never, ↓we_var, ↓we_C, ↓we_fn, ↓we_f2, ↓we_f1, ↓we_chain, ↓wb_tst, ↓wb_tru, ↓wb_and, ↓wb_or, ↓wb_not, ↓wb_yes, ↓we_andV, ↓we_orV, ↓we_notV, ↓we_if, ↓wa_nil, ↓wa_cons, ↓we_tup, ↓wl_lst, ↓we_ofL, ↓wl_it, ↓we_CB, ↓wl_CL, ↓we_call, ↓wg_nm, ↓wgs_nil, ↓wgs_cons, ↓ks_nx, ↓ks_rt, ↓ks_bk, ↓ks_ct, ↓kr_rt, ↓kr_nx, ↓kt_nx, ↓kt_ct, ↓kt_bk, ↓kt_rt, ↓wv_some, ↓wtst_b, ↓wif_t, ↓wif_f, ↓wif_not, ↓we_lenV, ↓we_ixV, ↓we_inV, ↓ws_setIx, ↓wo_none, ↓wo_some, ↓we_sl, ↓wd_disp1, ↓wt_nil, ↓wt_cons, ↓we_dispT, ↓we_make, ↓ws_lsSet1, ↓ws_lsSet2, ↓ws_for, ↓wl_lc, ↓wl_rng1', ↓wl_rng2', List.getElem?_cons_zero, List.getElem?_cons_succ, List.set_cons_zero, List.set_cons_succ, Option.bind_some, id, rdV_av, rdV_d, rdV_lp, rdV_fn, rdV_ft, rdV_fd, rdV_ml, rdV_md, lenOf_ml, lenOf_l, lenOf_t, datOf_d, mlOf_ml, lstOf_l, intOf_i, seqOf_t, seqOf_l, dCmp_i, isLp_lp, avIx_ml, avIx_l, avIx_t, wv_map, dMod_p, dDiv_p, dAdd_t, dAdd_l, rngOf_1, rngOf_2, Option.isSome_some, true_and, and_true, rng_nat', Int.toNat_natCast, wipeG_n, wipeG_c, wif_dec, dats_nil, dats_d, dAdd_i, dSub_i, dMul_i, dIx_t, dIx_l, at0, at1, at2, dNeg_i, dTuple_l, dTuple_t, dList_l, dList_t, dInt_i, dLen_l, dLen_t, dPr_sz, dPr_pa, dPr_tk, dPr_lv, dPr_sk, ws_ls1', ws_ls2', wg_tp', ws_app', ws_ext', rdV_non, Option.map_some, List.length_cons, List.length_nil]
    refine next_wc hl3 (by omega) (by omega) fun k l4 hk hl4 => ?_
    simp only [↓ws_seq, ↓ws_set, ↓ws_setL, ↓ws_setD, ↓ws_asg, ↓ws_ret, ↓ws_retN, ↓ws_if, ↓ws_skip, ↓ws_break, ↓ws_cont, ↓ws_never, ↓we_var, ↓we_C, ↓we_fn, ↓we_f2, ↓we_f1, ↓we_chain, ↓wb_tst, ↓wb_tru, ↓wb_and, ↓wb_or, ↓wb_not, ↓wb_yes, ↓we_andV, ↓we_orV, ↓we_notV, ↓we_if, ↓wa_nil, ↓wa_cons, ↓we_tup, ↓wl_lst, ↓we_ofL, ↓wl_it, ↓we_CB, ↓wl_CL, ↓we_call, ↓wg_nm, ↓wgs_nil, ↓wgs_cons, ↓ks_nx, ↓ks_rt, ↓ks_bk, ↓ks_ct, ↓kr_rt, ↓kr_nx, ↓kt_nx, ↓kt_ct, ↓kt_bk, ↓kt_rt, ↓wv_some, ↓wtst_b, ↓wif_t, ↓wif_f, ↓wif_not, ↓we_lenV, ↓we_ixV, ↓we_inV, ↓ws_setIx, ↓wo_none, ↓wo_some, ↓we_sl, ↓wd_disp1, ↓wt_nil, ↓wt_cons, ↓we_dispT, ↓we_make, ↓ws_lsSet1, ↓ws_lsSet2, ↓ws_for, ↓wl_lc, ↓wl_rng1', ↓wl_rng2', List.getElem?_cons_zero, List.getElem?_cons_succ, List.set_cons_zero, List.set_cons_succ, Option.bind_some, id, rdV_av, rdV_d, rdV_lp, rdV_fn, rdV_ft, rdV_fd, rdV_ml, rdV_md, lenOf_ml, lenOf_l, lenOf_t, datOf_d, mlOf_ml, lstOf_l, intOf_i, seqOf_t, seqOf_l, dCmp_i, isLp_lp, avIx_ml, avIx_l, avIx_t, wv_map, dMod_p, dDiv_p, dAdd_t, dAdd_l, rngOf_1, rngOf_2, Option.isSome_some, true_and, and_true, rng_nat', Int.toNat_natCast, wipeG_n, wipeG_c, wif_dec, dats_nil, dats_d, dAdd_i, dSub_i, dMul_i, dIx_t, dIx_l, at0, at1, at2, dNeg_i, dTuple_l, dTuple_t, dList_l, dList_t, dInt_i, dLen_l, dLen_t, dPr_sz, dPr_pa, dPr_tk, dPr_lv, dPr_sk, ws_ls1', ws_ls2', wg_tp', ws_app', ws_ext', rdV_non, Option.map_some, List.length_cons, List.length_nil]
    split
    · refine changes_wc hl4 h1 h3 fun c l5 hc hl5 => ?_
      simp only [↓ws_seq, ↓ws_set, ↓ws_setL, ↓ws_setD, ↓ws_asg, ↓ws_ret, ↓ws_retN, ↓ws_if, ↓ws_skip, ↓ws_break, ↓ws_cont, ↓ws_never, ↓we_var, ↓we_C, ↓we_fn, ↓we_f2, ↓we_f1, ↓we_chain, ↓wb_tst, ↓wb_tru, ↓wb_and, ↓wb_or, ↓wb_not, ↓wb_yes, ↓we_andV, ↓we_orV, ↓we_notV, ↓we_if, ↓wa_nil, ↓wa_cons, ↓we_tup, ↓wl_lst, ↓we_ofL, ↓wl_it, ↓we_CB, ↓wl_CL, ↓we_call, ↓wg_nm, ↓wgs_nil, ↓wgs_cons, ↓ks_nx, ↓ks_rt, ↓ks_bk, ↓ks_ct, ↓kr_rt, ↓kr_nx, ↓kt_nx, ↓kt_ct, ↓kt_bk, ↓kt_rt, ↓wv_some, ↓wtst_b, ↓wif_t, ↓wif_f, ↓wif_not, ↓we_lenV, ↓we_ixV, ↓we_inV, ↓ws_setIx, ↓wo_none, ↓wo_some, ↓we_sl, ↓wd_disp1, ↓wt_nil, ↓wt_cons, ↓we_dispT, ↓we_make, ↓ws_lsSet1, ↓ws_lsSet2, ↓ws_for, ↓wl_lc, ↓wl_rng1', ↓wl_rng2', List.getElem?_cons_zero, List.getElem?_cons_succ, List.set_cons_zero, List.set_cons_succ, Option.bind_some, id, rdV_av, rdV_d, rdV_lp, rdV_fn, rdV_ft, rdV_fd, rdV_ml, rdV_md, lenOf_ml, lenOf_l, lenOf_t, datOf_d, mlOf_ml, lstOf_l, intOf_i, seqOf_t, seqOf_l, dCmp_i, isLp_lp, avIx_ml, avIx_l, avIx_t, wv_map, dMod_p, dDiv_p, dAdd_t, dAdd_l, rngOf_1, rngOf_2, Option.isSome_some, true_and, and_true, rng_nat', Int.toNat_natCast, wipeG_n, wipeG_c, wif_dec, dats_nil, dats_d, dAdd_i, dSub_i, dMul_i, dIx_t, dIx_l, at0, at1, at2, dNeg_i, dTuple_l, dTuple_t, dList_l, dList_t, dInt_i, dLen_l, dLen_t, dPr_sz, dPr_pa, dPr_tk, dPr_lv, dPr_sk, ws_ls1', ws_ls2', wg_tp', ws_app', ws_ext', rdV_non, Option.map_some, List.length_cons, List.length_nil]
      exact q ⟨a, w, some c⟩ l5 ⟨ha, hw, fun c' h => by cases h; exact hc⟩ hl5
    · exact q ⟨a, w, none⟩ l4 ⟨ha, hw, fun c' h => by cases h⟩ hl4
  split
  · have := key a ha l3 hl3
    simp only [↓ws_seq, ↓ws_set, ↓ws_setL, ↓ws_setD, ↓ws_asg, ↓ws_ret, ↓ws_retN, ↓ws_if, ↓ws_skip, ↓ws_break, ↓ws_cont, ↓ws_never, ↓we_var, ↓we_C, ↓we_fn, ↓we_f2, ↓we_f1, ↓we_chain, ↓wb_tst, ↓wb_tru, ↓wb_and, ↓wb_or, ↓wb_not, ↓wb_yes, ↓we_andV, ↓we_orV, ↓we_notV, ↓we_if, ↓wa_nil, ↓wa_cons, ↓we_tup, ↓wl_lst, ↓we_ofL, ↓wl_it, ↓we_CB, ↓wl_CL, ↓we_call, ↓wg_nm, ↓wgs_nil, ↓wgs_cons, ↓ks_nx, ↓ks_rt, ↓ks_bk, ↓ks_ct, ↓kr_rt, ↓kr_nx, ↓kt_nx, ↓kt_ct, ↓kt_bk, ↓kt_rt, ↓wv_some, ↓wtst_b, ↓wif_t, ↓wif_f, ↓wif_not, ↓we_lenV, ↓we_ixV, ↓we_inV, ↓ws_setIx, ↓wo_none, ↓wo_some, ↓we_sl, ↓wd_disp1, ↓wt_nil, ↓wt_cons, ↓we_dispT, ↓we_make, ↓ws_lsSet1, ↓ws_lsSet2, ↓ws_for, ↓wl_lc, ↓wl_rng1', ↓wl_rng2', List.getElem?_cons_zero, List.getElem?_cons_succ, List.set_cons_zero, List.set_cons_succ, Option.bind_some, id, rdV_av, rdV_d, rdV_lp, rdV_fn, rdV_ft, rdV_fd, rdV_ml, rdV_md, lenOf_ml, lenOf_l, lenOf_t, datOf_d, mlOf_ml, lstOf_l, intOf_i, seqOf_t, seqOf_l, dCmp_i, isLp_lp, avIx_ml, avIx_l, avIx_t, wv_map, dMod_p, dDiv_p, dAdd_t, dAdd_l, rngOf_1, rngOf_2, Option.isSome_some, true_and, and_true, rng_nat', Int.toNat_natCast, wipeG_n, wipeG_c, wif_dec, dats_nil, dats_d, dAdd_i, dSub_i, dMul_i, dIx_t, dIx_l, at0, at1, at2, dNeg_i, dTuple_l, dTuple_t, dList_l, dList_t, dInt_i, dLen_l, dLen_t, dPr_sz, dPr_pa, dPr_tk, dPr_lv, dPr_sk, ws_ls1', ws_ls2', wg_tp', ws_app', ws_ext', rdV_non, Option.map_some, List.length_cons, List.length_nil] at this
    exact this
  · have := key b hb l3 hl3
    simp only [↓ws_seq, ↓ws_set, ↓ws_setL, ↓ws_setD, ↓ws_asg, ↓ws_ret, ↓ws_retN, ↓ws_if, ↓ws_skip, ↓ws_break, ↓ws_cont, ↓ws_never, ↓we_var, ↓we_C, ↓we_fn, ↓we_f2, ↓we_f1, ↓we_chain, ↓wb_tst, ↓wb_tru, ↓wb_and, ↓wb_or, ↓wb_not, ↓wb_yes, ↓we_andV, ↓we_orV, ↓we_notV, ↓we_if, ↓wa_nil, ↓wa_cons, ↓we_tup, ↓wl_lst, ↓we_ofL, ↓wl_it, ↓we_CB, ↓wl_CL, ↓we_call, ↓wg_nm, ↓wgs_nil, ↓wgs_cons, ↓ks_nx, ↓ks_rt, ↓ks_bk, ↓ks_ct, ↓kr_rt, ↓kr_nx, ↓kt_nx, ↓kt_ct, ↓kt_bk, ↓kt_rt, ↓wv_some, ↓wtst_b, ↓wif_t, ↓wif_f, ↓wif_not, ↓we_lenV, ↓we_ixV, ↓we_inV, ↓ws_setIx, ↓wo_none, ↓wo_some, ↓we_sl, ↓wd_disp1, ↓wt_nil, ↓wt_cons, ↓we_dispT, ↓we_make, ↓ws_lsSet1, ↓ws_lsSet2, ↓ws_for, ↓wl_lc, ↓wl_rng1', ↓wl_rng2', List.getElem?_cons_zero, List.getElem?_cons_succ, List.set_cons_zero, List.set_cons_succ, Option.bind_some, id, rdV_av, rdV_d, rdV_lp, rdV_fn, rdV_ft, rdV_fd, rdV_ml, rdV_md, lenOf_ml, lenOf_l, lenOf_t, datOf_d, mlOf_ml, lstOf_l, intOf_i, seqOf_t, seqOf_l, dCmp_i, isLp_lp, avIx_ml, avIx_l, avIx_t, wv_map, dMod_p, dDiv_p, dAdd_t, dAdd_l, rngOf_1, rngOf_2, Option.isSome_some, true_and, and_true, rng_nat', Int.toNat_natCast, wipeG_n, wipeG_c, wif_dec, dats_nil, dats_d, dAdd_i, dSub_i, dMul_i, dIx_t, dIx_l, at0, at1, at2, dNeg_i, dTuple_l, dTuple_t, dList_l, dList_t, dInt_i, dLen_l, dLen_t, dPr_sz, dPr_pa, dPr_tk, dPr_lv, dPr_sk, ws_ls1', ws_ls2', wg_tp', ws_app', ws_ext', rdV_non, Option.map_some, List.length_cons, List.length_nil] at this
    exact this

/-- what _law_data hands back -/
def ftOf (P : Pg) : AV := .ft [("sizes", eNs P.sz), ("parts", ePts P.pa), ("ticks", eTks P.tk), ("live", eNs P.lv), ("skips", eNs P.sk)]
/-- a draw of some of the parts -/
theorem some_wc {A : Ad} {l : LS} {a1 a2 a3 a4 a5 : Option AV} {m : Int} {n : Nat} {Q : List PyData × S → Prop} {c : AV → AV → Option AV} (p : Nat → Bool) (hc : ∀ r : Nat, c (.d (eN r)) (.d (.int 0)) = some (.d (.bool (p r))))
    (hm : 1 ≤ m) (hm2 : m ≤ 100) (hn : n ≤ 100) (hl : LsOk l) (q : ∀ (ks : List Nat) l', (∀ k ∈ ks, k < n) → ks.Pairwise (· < ·) → LsOk l' → Q (ks.map eN, ⟨[some .lp, a1, a2, a3, a4, a5, none], l'⟩)) :
    WV (lcGo (gNm 6) (fTst (f2 c (fCall (g__law_next A) (fCons (fVar 0) (fCons (fC (.int m)) fNil))) (fC (.int 0)))) (fVar 6) [6] ((List.range n).map eN) [] ⟨[some .lp, a1, a2, a3, a4, a5, none], l⟩) Q := by
  have hb := line_big
  refine wl_lcGo eN eN (fun done rest acc s => done ++ rest = List.range n ∧ acc.Sublist done ∧ ∃ l, LsOk l ∧ s = ⟨[some .lp, a1, a2, a3, a4, a5, none], l⟩) (List.range n) [] [] _ (by simp; omega) ⟨rfl, List.Sublist.refl _, l, hl, rfl⟩ ?_ ?_
  · rintro done x rest acc s ⟨e1, e2, l, hl, rfl⟩
    simp only [↓ws_seq, ↓ws_set, ↓ws_setL, ↓ws_setD, ↓ws_asg, ↓ws_ret, ↓ws_retN, ↓ws_if, ↓ws_skip, ↓ws_break, ↓ws_cont, ↓ws_never, ↓we_var, ↓we_C, ↓we_fn, ↓we_f2, ↓we_f1, ↓we_chain, ↓wb_tst, ↓wb_tru, ↓wb_and, ↓wb_or, ↓wb_not, ↓wb_yes, ↓we_andV, ↓we_orV, ↓we_notV, ↓we_if, ↓wa_nil, ↓wa_cons, ↓we_tup, ↓wl_lst, ↓we_ofL, ↓wl_it, ↓we_CB, ↓wl_CL, ↓we_call, ↓wg_nm, ↓wgs_nil, ↓wgs_cons, ↓ks_nx, ↓ks_rt, ↓ks_bk, ↓ks_ct, ↓kr_rt, ↓kr_nx, ↓kt_nx, ↓kt_ct, ↓kt_bk, ↓kt_rt, ↓wv_some, ↓wtst_b, ↓wif_t, ↓wif_f, ↓wif_not, ↓we_lenV, ↓we_ixV, ↓we_inV, ↓ws_setIx, ↓wo_none, ↓wo_some, ↓we_sl, ↓wd_disp1, ↓wt_nil, ↓wt_cons, ↓we_dispT, ↓we_make, ↓ws_lsSet1, ↓ws_lsSet2, ↓ws_for, ↓wl_lc, ↓wl_rng1', ↓wl_rng2', List.getElem?_cons_zero, List.getElem?_cons_succ, List.set_cons_zero, List.set_cons_succ, Option.bind_some, id, rdV_av, rdV_d, rdV_lp, rdV_fn, rdV_ft, rdV_fd, rdV_ml, rdV_md, lenOf_ml, lenOf_l, lenOf_t, datOf_d, mlOf_ml, lstOf_l, intOf_i, seqOf_t, seqOf_l, dCmp_i, isLp_lp, avIx_ml, avIx_l, avIx_t, wv_map, dMod_p, dDiv_p, dAdd_t, dAdd_l, rngOf_1, rngOf_2, Option.isSome_some, true_and, and_true, rng_nat', Int.toNat_natCast, wipeG_n, wipeG_c, wif_dec, dats_nil, dats_d, dAdd_i, dSub_i, dMul_i, dIx_t, dIx_l, at0, at1, at2, dNeg_i, dTuple_l, dTuple_t, dList_l, dList_t, dInt_i, dLen_l, dLen_t, dPr_sz, dPr_pa, dPr_tk, dPr_lv, dPr_sk, ws_ls1', ws_ls2', wg_tp', ws_app', ws_ext', rdV_non, Option.map_some, List.length_cons, List.length_nil]
    refine next_wc hl (by omega) (by omega) fun r l' hr hl' => ?_
    simp only [↓ws_seq, ↓ws_set, ↓ws_setL, ↓ws_setD, ↓ws_asg, ↓ws_ret, ↓ws_retN, ↓ws_if, ↓ws_skip, ↓ws_break, ↓ws_cont, ↓ws_never, ↓we_var, ↓we_C, ↓we_fn, ↓we_f2, ↓we_f1, ↓we_chain, ↓wb_tst, ↓wb_tru, ↓wb_and, ↓wb_or, ↓wb_not, ↓wb_yes, ↓we_andV, ↓we_orV, ↓we_notV, ↓we_if, ↓wa_nil, ↓wa_cons, ↓we_tup, ↓wl_lst, ↓we_ofL, ↓wl_it, ↓we_CB, ↓wl_CL, ↓we_call, ↓wg_nm, ↓wgs_nil, ↓wgs_cons, ↓ks_nx, ↓ks_rt, ↓ks_bk, ↓ks_ct, ↓kr_rt, ↓kr_nx, ↓kt_nx, ↓kt_ct, ↓kt_bk, ↓kt_rt, ↓wv_some, ↓wtst_b, ↓wif_t, ↓wif_f, ↓wif_not, ↓we_lenV, ↓we_ixV, ↓we_inV, ↓ws_setIx, ↓wo_none, ↓wo_some, ↓we_sl, ↓wd_disp1, ↓wt_nil, ↓wt_cons, ↓we_dispT, ↓we_make, ↓ws_lsSet1, ↓ws_lsSet2, ↓ws_for, ↓wl_lc, ↓wl_rng1', ↓wl_rng2', List.getElem?_cons_zero, List.getElem?_cons_succ, List.set_cons_zero, List.set_cons_succ, Option.bind_some, id, rdV_av, rdV_d, rdV_lp, rdV_fn, rdV_ft, rdV_fd, rdV_ml, rdV_md, lenOf_ml, lenOf_l, lenOf_t, datOf_d, mlOf_ml, lstOf_l, intOf_i, seqOf_t, seqOf_l, dCmp_i, isLp_lp, avIx_ml, avIx_l, avIx_t, wv_map, dMod_p, dDiv_p, dAdd_t, dAdd_l, rngOf_1, rngOf_2, Option.isSome_some, true_and, and_true, rng_nat', Int.toNat_natCast, wipeG_n, wipeG_c, wif_dec, dats_nil, dats_d, dAdd_i, dSub_i, dMul_i, dIx_t, dIx_l, at0, at1, at2, dNeg_i, dTuple_l, dTuple_t, dList_l, dList_t, dInt_i, dLen_l, dLen_t, dPr_sz, dPr_pa, dPr_tk, dPr_lv, dPr_sk, ws_ls1', ws_ls2', wg_tp', ws_app', ws_ext', rdV_non, Option.map_some, List.length_cons, List.length_nil, hc]
    refine WIf.of (fun _ => ?_) fun _ => ?_
    · exact ⟨x, rfl, by rw [← e1]; simp, List.Sublist.append e2 (List.Sublist.refl _), l', hl', rfl⟩
    · exact ⟨by rw [← e1]; simp, e2.trans (List.sublist_append_left _ _), l', hl', rfl⟩
  · rintro acc s ⟨e1, e2, l, hl, rfl⟩
    rw [List.append_nil] at e1
    rw [e1] at e2
    exact q acc l (fun k hk => List.mem_range.mp (e2.subset hk)) (List.pairwise_lt_range.sublist e2) hl
theorem data_wc {A : Ad} {l : LS} {Q : AV → LS → Prop} (hl : LsOk l) (q : ∀ P l', PgOk P → LsOk l' → Q (ftOf P) l') : WC (g__law_data A) [.lp] l Q := by
  have hb := line_big
  unfold g__law_data b__law_data
  rw [wc_den, enter_eq]
  simp only [List.map_cons, List.map_nil, List.length_cons, List.length_nil, List.replicate, List.cons_append, List.nil_append, Nat.reduceAdd, Nat.reduceSub]
  simp only [↓ws_seq, ↓ws_set, ↓ws_setL, ↓ws_setD, ↓ws_asg, ↓ws_ret, ↓ws_retN, ↓ws_if, ↓ws_skip, ↓ws_break, ↓ws_cont, ↓ws_never, ↓we_var, ↓we_C, ↓we_fn, ↓we_f2, ↓we_f1, ↓we_chain, ↓wb_tst, ↓wb_tru, ↓wb_and, ↓wb_or, ↓wb_not, ↓wb_yes, ↓we_andV, ↓we_orV, ↓we_notV, ↓we_if, ↓wa_nil, ↓wa_cons, ↓we_tup, ↓wl_lst, ↓we_ofL, ↓wl_it, ↓we_CB, ↓wl_CL, ↓we_call, ↓wg_nm, ↓wgs_nil, ↓wgs_cons, ↓ks_nx, ↓ks_rt, ↓ks_bk, ↓ks_ct, ↓kr_rt, ↓kr_nx, ↓kt_nx, ↓kt_ct, ↓kt_bk, ↓kt_rt, ↓wv_some, ↓wtst_b, ↓wif_t, ↓wif_f, ↓wif_not, ↓we_lenV, ↓we_ixV, ↓we_inV, ↓ws_setIx, ↓wo_none, ↓wo_some, ↓we_sl, ↓wd_disp1, ↓wt_nil, ↓wt_cons, ↓we_dispT, ↓we_make, ↓ws_lsSet1, ↓ws_lsSet2, ↓ws_for, ↓wl_lc, ↓wl_rng1', ↓wl_rng2', List.getElem?_cons_zero, List.getElem?_cons_succ, List.set_cons_zero, List.set_cons_succ, Option.bind_some, id, rdV_av, rdV_d, rdV_lp, rdV_fn, rdV_ft, rdV_fd, rdV_ml, rdV_md, lenOf_ml, lenOf_l, lenOf_t, datOf_d, mlOf_ml, lstOf_l, intOf_i, seqOf_t, seqOf_l, dCmp_i, isLp_lp, avIx_ml, avIx_l, avIx_t, wv_map, dMod_p, dDiv_p, dAdd_t, dAdd_l, rngOf_1, rngOf_2, Option.isSome_some, true_and, and_true, rng_nat', Int.toNat_natCast, wipeG_n, wipeG_c, wif_dec, dats_nil, dats_d, dAdd_i, dSub_i, dMul_i, dIx_t, dIx_l, at0, at1, at2, dNeg_i, dTuple_l, dTuple_t, dList_l, dList_t, dInt_i, dLen_l, dLen_t, dPr_sz, dPr_pa, dPr_tk, dPr_lv, dPr_sk, ws_ls1', ws_ls2', wg_tp', ws_app', ws_ext', rdV_non, Option.map_some, List.length_cons, List.length_nil, List.length_map]
  refine next_wc hl (by omega) (by omega) fun k l1 hk hl1 => ?_
  try simp only [↓ws_seq, ↓ws_set, ↓ws_setL, ↓ws_setD, ↓ws_asg, ↓ws_ret, ↓ws_retN, ↓ws_if, ↓ws_skip, ↓ws_break, ↓ws_cont, ↓ws_never, ↓we_var, ↓we_C, ↓we_fn, ↓we_f2, ↓we_f1, ↓we_chain, ↓wb_tst, ↓wb_tru, ↓wb_and, ↓wb_or, ↓wb_not, ↓wb_yes, ↓we_andV, ↓we_orV, ↓we_notV, ↓we_if, ↓wa_nil, ↓wa_cons, ↓we_tup, ↓wl_lst, ↓we_ofL, ↓wl_it, ↓we_CB, ↓wl_CL, ↓we_call, ↓wg_nm, ↓wgs_nil, ↓wgs_cons, ↓ks_nx, ↓ks_rt, ↓ks_bk, ↓ks_ct, ↓kr_rt, ↓kr_nx, ↓kt_nx, ↓kt_ct, ↓kt_bk, ↓kt_rt, ↓wv_some, ↓wtst_b, ↓wif_t, ↓wif_f, ↓wif_not, ↓we_lenV, ↓we_ixV, ↓we_inV, ↓ws_setIx, ↓wo_none, ↓wo_some, ↓we_sl, ↓wd_disp1, ↓wt_nil, ↓wt_cons, ↓we_dispT, ↓we_make, ↓ws_lsSet1, ↓ws_lsSet2, ↓ws_for, ↓wl_lc, ↓wl_rng1', ↓wl_rng2', List.getElem?_cons_zero, List.getElem?_cons_succ, List.set_cons_zero, List.set_cons_succ, Option.bind_some, id, rdV_av, rdV_d, rdV_lp, rdV_fn, rdV_ft, rdV_fd, rdV_ml, rdV_md, lenOf_ml, lenOf_l, lenOf_t, datOf_d, mlOf_ml, lstOf_l, intOf_i, seqOf_t, seqOf_l, dCmp_i, isLp_lp, avIx_ml, avIx_l, avIx_t, wv_map, dMod_p, dDiv_p, dAdd_t, dAdd_l, rngOf_1, rngOf_2, Option.isSome_some, true_and, and_true, rng_nat', Int.toNat_natCast, wipeG_n, wipeG_c, wif_dec, dats_nil, dats_d, dAdd_i, dSub_i, dMul_i, dIx_t, dIx_l, at0, at1, at2, dNeg_i, dTuple_l, dTuple_t, dList_l, dList_t, dInt_i, dLen_l, dLen_t, dPr_sz, dPr_pa, dPr_tk, dPr_lv, dPr_sk, ws_ls1', ws_ls2', wg_tp', ws_app', ws_ext', rdV_non, Option.map_some, List.length_cons, List.length_nil]
  refine wv_at (by simp; omega) fun m hm => ?_
  obtain ⟨sz, rfl, z1, z3, hz⟩ : ∃ sz : List Nat, m = eNs sz ∧ 1 ≤ sz.length ∧ sz.length ≤ 3 ∧ ∀ n ∈ sz, 2 ≤ n ∧ n ≤ 4 := by
    simp only [List.mem_cons, List.not_mem_nil, or_false] at hm
    rcases hm with rfl | rfl | rfl | rfl | rfl | rfl | rfl
    · exact ⟨[2], rfl, by decide, by decide, by decide⟩
    · exact ⟨[2], rfl, by decide, by decide, by decide⟩
    · exact ⟨[3], rfl, by decide, by decide, by decide⟩
    · exact ⟨[4], rfl, by decide, by decide, by decide⟩
    · exact ⟨[2, 2], rfl, by decide, by decide, by decide⟩
    · exact ⟨[2, 3], rfl, by decide, by decide, by decide⟩
    · exact ⟨[2, 2, 2], rfl, by decide, by decide, by decide⟩
  try simp only [↓ws_seq, ↓ws_set, ↓ws_setL, ↓ws_setD, ↓ws_asg, ↓ws_ret, ↓ws_retN, ↓ws_if, ↓ws_skip, ↓ws_break, ↓ws_cont, ↓ws_never, ↓we_var, ↓we_C, ↓we_fn, ↓we_f2, ↓we_f1, ↓we_chain, ↓wb_tst, ↓wb_tru, ↓wb_and, ↓wb_or, ↓wb_not, ↓wb_yes, ↓we_andV, ↓we_orV, ↓we_notV, ↓we_if, ↓wa_nil, ↓wa_cons, ↓we_tup, ↓wl_lst, ↓we_ofL, ↓wl_it, ↓we_CB, ↓wl_CL, ↓we_call, ↓wg_nm, ↓wgs_nil, ↓wgs_cons, ↓ks_nx, ↓ks_rt, ↓ks_bk, ↓ks_ct, ↓kr_rt, ↓kr_nx, ↓kt_nx, ↓kt_ct, ↓kt_bk, ↓kt_rt, ↓wv_some, ↓wtst_b, ↓wif_t, ↓wif_f, ↓wif_not, ↓we_lenV, ↓we_ixV, ↓we_inV, ↓ws_setIx, ↓wo_none, ↓wo_some, ↓we_sl, ↓wd_disp1, ↓wt_nil, ↓wt_cons, ↓we_dispT, ↓we_make, ↓ws_lsSet1, ↓ws_lsSet2, ↓ws_for, ↓wl_lc, ↓wl_rng1', ↓wl_rng2', List.getElem?_cons_zero, List.getElem?_cons_succ, List.set_cons_zero, List.set_cons_succ, Option.bind_some, id, rdV_av, rdV_d, rdV_lp, rdV_fn, rdV_ft, rdV_fd, rdV_ml, rdV_md, lenOf_ml, lenOf_l, lenOf_t, datOf_d, mlOf_ml, lstOf_l, intOf_i, seqOf_t, seqOf_l, dCmp_i, isLp_lp, avIx_ml, avIx_l, avIx_t, wv_map, dMod_p, dDiv_p, dAdd_t, dAdd_l, rngOf_1, rngOf_2, Option.isSome_some, true_and, and_true, rng_nat', Int.toNat_natCast, wipeG_n, wipeG_c, wif_dec, dats_nil, dats_d, dAdd_i, dSub_i, dMul_i, dIx_t, dIx_l, at0, at1, at2, dNeg_i, dTuple_l, dTuple_t, dList_l, dList_t, dInt_i, dLen_l, dLen_t, dPr_sz, dPr_pa, dPr_tk, dPr_lv, dPr_sk, ws_ls1', ws_ls2', wg_tp', ws_app', ws_ext', rdV_non, Option.map_some, List.length_cons, List.length_nil]
  refine next_wc hl1 (by omega) (by omega) fun k2 l2 hk2 hl2 => ?_
  try simp only [↓ws_seq, ↓ws_set, ↓ws_setL, ↓ws_setD, ↓ws_asg, ↓ws_ret, ↓ws_retN, ↓ws_if, ↓ws_skip, ↓ws_break, ↓ws_cont, ↓ws_never, ↓we_var, ↓we_C, ↓we_fn, ↓we_f2, ↓we_f1, ↓we_chain, ↓wb_tst, ↓wb_tru, ↓wb_and, ↓wb_or, ↓wb_not, ↓wb_yes, ↓we_andV, ↓we_orV, ↓we_notV, ↓we_if, ↓wa_nil, ↓wa_cons, ↓we_tup, ↓wl_lst, ↓we_ofL, ↓wl_it, ↓we_CB, ↓wl_CL, ↓we_call, ↓wg_nm, ↓wgs_nil, ↓wgs_cons, ↓ks_nx, ↓ks_rt, ↓ks_bk, ↓ks_ct, ↓kr_rt, ↓kr_nx, ↓kt_nx, ↓kt_ct, ↓kt_bk, ↓kt_rt, ↓wv_some, ↓wtst_b, ↓wif_t, ↓wif_f, ↓wif_not, ↓we_lenV, ↓we_ixV, ↓we_inV, ↓ws_setIx, ↓wo_none, ↓wo_some, ↓we_sl, ↓wd_disp1, ↓wt_nil, ↓wt_cons, ↓we_dispT, ↓we_make, ↓ws_lsSet1, ↓ws_lsSet2, ↓ws_for, ↓wl_lc, ↓wl_rng1', ↓wl_rng2', List.getElem?_cons_zero, List.getElem?_cons_succ, List.set_cons_zero, List.set_cons_succ, Option.bind_some, id, rdV_av, rdV_d, rdV_lp, rdV_fn, rdV_ft, rdV_fd, rdV_ml, rdV_md, lenOf_ml, lenOf_l, lenOf_t, datOf_d, mlOf_ml, lstOf_l, intOf_i, seqOf_t, seqOf_l, dCmp_i, isLp_lp, avIx_ml, avIx_l, avIx_t, wv_map, dMod_p, dDiv_p, dAdd_t, dAdd_l, rngOf_1, rngOf_2, Option.isSome_some, true_and, and_true, rng_nat', Int.toNat_natCast, wipeG_n, wipeG_c, wif_dec, dats_nil, dats_d, dAdd_i, dSub_i, dMul_i, dIx_t, dIx_l, at0, at1, at2, dNeg_i, dTuple_l, dTuple_t, dList_l, dList_t, dInt_i, dLen_l, dLen_t, dPr_sz, dPr_pa, dPr_tk, dPr_lv, dPr_sk, ws_ls1', ws_ls2', wg_tp', ws_app', ws_ext', rdV_non, Option.map_some, List.length_cons, List.length_nil]
  refine wv_at (by simp; omega) fun m hm => ?_
  obtain ⟨np, rfl, n1, n4⟩ : ∃ mm : Nat, m = .int mm ∧ 1 ≤ mm ∧ mm ≤ 4 := by
    simp only [List.mem_cons, List.not_mem_nil, or_false] at hm
    rcases hm with rfl | rfl | rfl | rfl | rfl | rfl | rfl | rfl
    · exact ⟨1, rfl, by decide, by decide⟩
    · exact ⟨1, rfl, by decide, by decide⟩
    · exact ⟨1, rfl, by decide, by decide⟩
    · exact ⟨2, rfl, by decide, by decide⟩
    · exact ⟨2, rfl, by decide, by decide⟩
    · exact ⟨2, rfl, by decide, by decide⟩
    · exact ⟨3, rfl, by decide, by decide⟩
    · exact ⟨4, rfl, by decide, by decide⟩
  try simp only [↓ws_seq, ↓ws_set, ↓ws_setL, ↓ws_setD, ↓ws_asg, ↓ws_ret, ↓ws_retN, ↓ws_if, ↓ws_skip, ↓ws_break, ↓ws_cont, ↓ws_never, ↓we_var, ↓we_C, ↓we_fn, ↓we_f2, ↓we_f1, ↓we_chain, ↓wb_tst, ↓wb_tru, ↓wb_and, ↓wb_or, ↓wb_not, ↓wb_yes, ↓we_andV, ↓we_orV, ↓we_notV, ↓we_if, ↓wa_nil, ↓wa_cons, ↓we_tup, ↓wl_lst, ↓we_ofL, ↓wl_it, ↓we_CB, ↓wl_CL, ↓we_call, ↓wg_nm, ↓wgs_nil, ↓wgs_cons, ↓ks_nx, ↓ks_rt, ↓ks_bk, ↓ks_ct, ↓kr_rt, ↓kr_nx, ↓kt_nx, ↓kt_ct, ↓kt_bk, ↓kt_rt, ↓wv_some, ↓wtst_b, ↓wif_t, ↓wif_f, ↓wif_not, ↓we_lenV, ↓we_ixV, ↓we_inV, ↓ws_setIx, ↓wo_none, ↓wo_some, ↓we_sl, ↓wd_disp1, ↓wt_nil, ↓wt_cons, ↓we_dispT, ↓we_make, ↓ws_lsSet1, ↓ws_lsSet2, ↓ws_for, ↓wl_lc, ↓wl_rng1', ↓wl_rng2', List.getElem?_cons_zero, List.getElem?_cons_succ, List.set_cons_zero, List.set_cons_succ, Option.bind_some, id, rdV_av, rdV_d, rdV_lp, rdV_fn, rdV_ft, rdV_fd, rdV_ml, rdV_md, lenOf_ml, lenOf_l, lenOf_t, datOf_d, mlOf_ml, lstOf_l, intOf_i, seqOf_t, seqOf_l, dCmp_i, isLp_lp, avIx_ml, avIx_l, avIx_t, wv_map, dMod_p, dDiv_p, dAdd_t, dAdd_l, rngOf_1, rngOf_2, Option.isSome_some, true_and, and_true, rng_nat', Int.toNat_natCast, wipeG_n, wipeG_c, wif_dec, dats_nil, dats_d, dAdd_i, dSub_i, dMul_i, dIx_t, dIx_l, at0, at1, at2, dNeg_i, dTuple_l, dTuple_t, dList_l, dList_t, dInt_i, dLen_l, dLen_t, dPr_sz, dPr_pa, dPr_tk, dPr_lv, dPr_sk, ws_ls1', ws_ls2', wg_tp', ws_app', ws_ext', rdV_non, Option.map_some, List.length_cons, List.length_nil]
  refine ⟨inB_of (by omega) (by omega), ?_⟩
  refine wl_lcGo eN ePt (fun done rest acc s => acc.length = done.length ∧ (∀ p ∈ acc, PtOk sz p) ∧ ∃ l, LsOk l ∧ s = ⟨[some .lp, some (.d (eNs sz)), none, none, none, none, none], l⟩) (List.range np) [] [] _ (by simp; omega) ⟨rfl, by simp, l2, hl2, rfl⟩ ?_ ?_
  · rintro done x rest acc s ⟨e1, e2, l, hl, rfl⟩
    try simp only [↓ws_seq, ↓ws_set, ↓ws_setL, ↓ws_setD, ↓ws_asg, ↓ws_ret, ↓ws_retN, ↓ws_if, ↓ws_skip, ↓ws_break, ↓ws_cont, ↓ws_never, ↓we_var, ↓we_C, ↓we_fn, ↓we_f2, ↓we_f1, ↓we_chain, ↓wb_tst, ↓wb_tru, ↓wb_and, ↓wb_or, ↓wb_not, ↓wb_yes, ↓we_andV, ↓we_orV, ↓we_notV, ↓we_if, ↓wa_nil, ↓wa_cons, ↓we_tup, ↓wl_lst, ↓we_ofL, ↓wl_it, ↓we_CB, ↓wl_CL, ↓we_call, ↓wg_nm, ↓wgs_nil, ↓wgs_cons, ↓ks_nx, ↓ks_rt, ↓ks_bk, ↓ks_ct, ↓kr_rt, ↓kr_nx, ↓kt_nx, ↓kt_ct, ↓kt_bk, ↓kt_rt, ↓wv_some, ↓wtst_b, ↓wif_t, ↓wif_f, ↓wif_not, ↓we_lenV, ↓we_ixV, ↓we_inV, ↓ws_setIx, ↓wo_none, ↓wo_some, ↓we_sl, ↓wd_disp1, ↓wt_nil, ↓wt_cons, ↓we_dispT, ↓we_make, ↓ws_lsSet1, ↓ws_lsSet2, ↓ws_for, ↓wl_lc, ↓wl_rng1', ↓wl_rng2', List.getElem?_cons_zero, List.getElem?_cons_succ, List.set_cons_zero, List.set_cons_succ, Option.bind_some, id, rdV_av, rdV_d, rdV_lp, rdV_fn, rdV_ft, rdV_fd, rdV_ml, rdV_md, lenOf_ml, lenOf_l, lenOf_t, datOf_d, mlOf_ml, lstOf_l, intOf_i, seqOf_t, seqOf_l, dCmp_i, isLp_lp, avIx_ml, avIx_l, avIx_t, wv_map, dMod_p, dDiv_p, dAdd_t, dAdd_l, rngOf_1, rngOf_2, Option.isSome_some, true_and, and_true, rng_nat', Int.toNat_natCast, wipeG_n, wipeG_c, wif_dec, dats_nil, dats_d, dAdd_i, dSub_i, dMul_i, dIx_t, dIx_l, at0, at1, at2, dNeg_i, dTuple_l, dTuple_t, dList_l, dList_t, dInt_i, dLen_l, dLen_t, dPr_sz, dPr_pa, dPr_tk, dPr_lv, dPr_sk, ws_ls1', ws_ls2', wg_tp', ws_app', ws_ext', rdV_non, Option.map_some, List.length_cons, List.length_nil]
    refine part_wc hl z1 z3 hz fun p l' hp hl' => ?_
    refine ⟨p, rfl, by simp [e1], ?_, l', hl', rfl⟩
    intro x hx
    rcases List.mem_append.mp hx with hx | hx
    · exact e2 x hx
    · simp at hx; subst hx; exact hp
  rintro pa s ⟨e1, hpa, l3, hl3, rfl⟩
  try simp only [↓ws_seq, ↓ws_set, ↓ws_setL, ↓ws_setD, ↓ws_asg, ↓ws_ret, ↓ws_retN, ↓ws_if, ↓ws_skip, ↓ws_break, ↓ws_cont, ↓ws_never, ↓we_var, ↓we_C, ↓we_fn, ↓we_f2, ↓we_f1, ↓we_chain, ↓wb_tst, ↓wb_tru, ↓wb_and, ↓wb_or, ↓wb_not, ↓wb_yes, ↓we_andV, ↓we_orV, ↓we_notV, ↓we_if, ↓wa_nil, ↓wa_cons, ↓we_tup, ↓wl_lst, ↓we_ofL, ↓wl_it, ↓we_CB, ↓wl_CL, ↓we_call, ↓wg_nm, ↓wgs_nil, ↓wgs_cons, ↓ks_nx, ↓ks_rt, ↓ks_bk, ↓ks_ct, ↓kr_rt, ↓kr_nx, ↓kt_nx, ↓kt_ct, ↓kt_bk, ↓kt_rt, ↓wv_some, ↓wtst_b, ↓wif_t, ↓wif_f, ↓wif_not, ↓we_lenV, ↓we_ixV, ↓we_inV, ↓ws_setIx, ↓wo_none, ↓wo_some, ↓we_sl, ↓wd_disp1, ↓wt_nil, ↓wt_cons, ↓we_dispT, ↓we_make, ↓ws_lsSet1, ↓ws_lsSet2, ↓ws_for, ↓wl_lc, ↓wl_rng1', ↓wl_rng2', List.getElem?_cons_zero, List.getElem?_cons_succ, List.set_cons_zero, List.set_cons_succ, Option.bind_some, id, rdV_av, rdV_d, rdV_lp, rdV_fn, rdV_ft, rdV_fd, rdV_ml, rdV_md, lenOf_ml, lenOf_l, lenOf_t, datOf_d, mlOf_ml, lstOf_l, intOf_i, seqOf_t, seqOf_l, dCmp_i, isLp_lp, avIx_ml, avIx_l, avIx_t, wv_map, dMod_p, dDiv_p, dAdd_t, dAdd_l, rngOf_1, rngOf_2, Option.isSome_some, true_and, and_true, rng_nat', Int.toNat_natCast, wipeG_n, wipeG_c, wif_dec, dats_nil, dats_d, dAdd_i, dSub_i, dMul_i, dIx_t, dIx_l, at0, at1, at2, dNeg_i, dTuple_l, dTuple_t, dList_l, dList_t, dInt_i, dLen_l, dLen_t, dPr_sz, dPr_pa, dPr_tk, dPr_lv, dPr_sk, ws_ls1', ws_ls2', wg_tp', ws_app', ws_ext', rdV_non, Option.map_some, List.length_cons, List.length_nil]
  refine next_wc hl3 (by omega) (by omega) fun k3 l4 hk3 hl4 => ?_
  try simp only [↓ws_seq, ↓ws_set, ↓ws_setL, ↓ws_setD, ↓ws_asg, ↓ws_ret, ↓ws_retN, ↓ws_if, ↓ws_skip, ↓ws_break, ↓ws_cont, ↓ws_never, ↓we_var, ↓we_C, ↓we_fn, ↓we_f2, ↓we_f1, ↓we_chain, ↓wb_tst, ↓wb_tru, ↓wb_and, ↓wb_or, ↓wb_not, ↓wb_yes, ↓we_andV, ↓we_orV, ↓we_notV, ↓we_if, ↓wa_nil, ↓wa_cons, ↓we_tup, ↓wl_lst, ↓we_ofL, ↓wl_it, ↓we_CB, ↓wl_CL, ↓we_call, ↓wg_nm, ↓wgs_nil, ↓wgs_cons, ↓ks_nx, ↓ks_rt, ↓ks_bk, ↓ks_ct, ↓kr_rt, ↓kr_nx, ↓kt_nx, ↓kt_ct, ↓kt_bk, ↓kt_rt, ↓wv_some, ↓wtst_b, ↓wif_t, ↓wif_f, ↓wif_not, ↓we_lenV, ↓we_ixV, ↓we_inV, ↓ws_setIx, ↓wo_none, ↓wo_some, ↓we_sl, ↓wd_disp1, ↓wt_nil, ↓wt_cons, ↓we_dispT, ↓we_make, ↓ws_lsSet1, ↓ws_lsSet2, ↓ws_for, ↓wl_lc, ↓wl_rng1', ↓wl_rng2', List.getElem?_cons_zero, List.getElem?_cons_succ, List.set_cons_zero, List.set_cons_succ, Option.bind_some, id, rdV_av, rdV_d, rdV_lp, rdV_fn, rdV_ft, rdV_fd, rdV_ml, rdV_md, lenOf_ml, lenOf_l, lenOf_t, datOf_d, mlOf_ml, lstOf_l, intOf_i, seqOf_t, seqOf_l, dCmp_i, isLp_lp, avIx_ml, avIx_l, avIx_t, wv_map, dMod_p, dDiv_p, dAdd_t, dAdd_l, rngOf_1, rngOf_2, Option.isSome_some, true_and, and_true, rng_nat', Int.toNat_natCast, wipeG_n, wipeG_c, wif_dec, dats_nil, dats_d, dAdd_i, dSub_i, dMul_i, dIx_t, dIx_l, at0, at1, at2, dNeg_i, dTuple_l, dTuple_t, dList_l, dList_t, dInt_i, dLen_l, dLen_t, dPr_sz, dPr_pa, dPr_tk, dPr_lv, dPr_sk, ws_ls1', ws_ls2', wg_tp', ws_app', ws_ext', rdV_non, Option.map_some, List.length_cons, List.length_nil]
  refine wv_at (by simp; omega) fun m hm => ?_
  obtain ⟨nt, rfl, t2⟩ : ∃ mm : Nat, m = .int mm ∧ mm ≤ 2 := by
    simp only [List.mem_cons, List.not_mem_nil, or_false] at hm
    rcases hm with rfl | rfl | rfl | rfl | rfl | rfl
    · exact ⟨0, rfl, by decide⟩
    · exact ⟨0, rfl, by decide⟩
    · exact ⟨0, rfl, by decide⟩
    · exact ⟨1, rfl, by decide⟩
    · exact ⟨1, rfl, by decide⟩
    · exact ⟨2, rfl, by decide⟩
  try simp only [↓ws_seq, ↓ws_set, ↓ws_setL, ↓ws_setD, ↓ws_asg, ↓ws_ret, ↓ws_retN, ↓ws_if, ↓ws_skip, ↓ws_break, ↓ws_cont, ↓ws_never, ↓we_var, ↓we_C, ↓we_fn, ↓we_f2, ↓we_f1, ↓we_chain, ↓wb_tst, ↓wb_tru, ↓wb_and, ↓wb_or, ↓wb_not, ↓wb_yes, ↓we_andV, ↓we_orV, ↓we_notV, ↓we_if, ↓wa_nil, ↓wa_cons, ↓we_tup, ↓wl_lst, ↓we_ofL, ↓wl_it, ↓we_CB, ↓wl_CL, ↓we_call, ↓wg_nm, ↓wgs_nil, ↓wgs_cons, ↓ks_nx, ↓ks_rt, ↓ks_bk, ↓ks_ct, ↓kr_rt, ↓kr_nx, ↓kt_nx, ↓kt_ct, ↓kt_bk, ↓kt_rt, ↓wv_some, ↓wtst_b, ↓wif_t, ↓wif_f, ↓wif_not, ↓we_lenV, ↓we_ixV, ↓we_inV, ↓ws_setIx, ↓wo_none, ↓wo_some, ↓we_sl, ↓wd_disp1, ↓wt_nil, ↓wt_cons, ↓we_dispT, ↓we_make, ↓ws_lsSet1, ↓ws_lsSet2, ↓ws_for, ↓wl_lc, ↓wl_rng1', ↓wl_rng2', List.getElem?_cons_zero, List.getElem?_cons_succ, List.set_cons_zero, List.set_cons_succ, Option.bind_some, id, rdV_av, rdV_d, rdV_lp, rdV_fn, rdV_ft, rdV_fd, rdV_ml, rdV_md, lenOf_ml, lenOf_l, lenOf_t, datOf_d, mlOf_ml, lstOf_l, intOf_i, seqOf_t, seqOf_l, dCmp_i, isLp_lp, avIx_ml, avIx_l, avIx_t, wv_map, dMod_p, dDiv_p, dAdd_t, dAdd_l, rngOf_1, rngOf_2, Option.isSome_some, true_and, and_true, rng_nat', Int.toNat_natCast, wipeG_n, wipeG_c, wif_dec, dats_nil, dats_d, dAdd_i, dSub_i, dMul_i, dIx_t, dIx_l, at0, at1, at2, dNeg_i, dTuple_l, dTuple_t, dList_l, dList_t, dInt_i, dLen_l, dLen_t, dPr_sz, dPr_pa, dPr_tk, dPr_lv, dPr_sk, ws_ls1', ws_ls2', wg_tp', ws_app', ws_ext', rdV_non, Option.map_some, List.length_cons, List.length_nil]
  refine ⟨inB_of (by omega) (by omega), ?_⟩
  refine wl_lcGo eN ePs (fun done rest acc s => acc.length = done.length ∧ (∀ p ∈ acc, ChOk sz p) ∧ ∃ l, LsOk l ∧ s = ⟨[some .lp, some (.d (eNs sz)), some (.d (ePts pa)), none, none, none, none], l⟩) (List.range nt) [] [] _ (by simp; omega) ⟨rfl, by simp, l4, hl4, rfl⟩ ?_ ?_
  · rintro done x rest acc s ⟨e1, e2, l, hl, rfl⟩
    try simp only [↓ws_seq, ↓ws_set, ↓ws_setL, ↓ws_setD, ↓ws_asg, ↓ws_ret, ↓ws_retN, ↓ws_if, ↓ws_skip, ↓ws_break, ↓ws_cont, ↓ws_never, ↓we_var, ↓we_C, ↓we_fn, ↓we_f2, ↓we_f1, ↓we_chain, ↓wb_tst, ↓wb_tru, ↓wb_and, ↓wb_or, ↓wb_not, ↓wb_yes, ↓we_andV, ↓we_orV, ↓we_notV, ↓we_if, ↓wa_nil, ↓wa_cons, ↓we_tup, ↓wl_lst, ↓we_ofL, ↓wl_it, ↓we_CB, ↓wl_CL, ↓we_call, ↓wg_nm, ↓wgs_nil, ↓wgs_cons, ↓ks_nx, ↓ks_rt, ↓ks_bk, ↓ks_ct, ↓kr_rt, ↓kr_nx, ↓kt_nx, ↓kt_ct, ↓kt_bk, ↓kt_rt, ↓wv_some, ↓wtst_b, ↓wif_t, ↓wif_f, ↓wif_not, ↓we_lenV, ↓we_ixV, ↓we_inV, ↓ws_setIx, ↓wo_none, ↓wo_some, ↓we_sl, ↓wd_disp1, ↓wt_nil, ↓wt_cons, ↓we_dispT, ↓we_make, ↓ws_lsSet1, ↓ws_lsSet2, ↓ws_for, ↓wl_lc, ↓wl_rng1', ↓wl_rng2', List.getElem?_cons_zero, List.getElem?_cons_succ, List.set_cons_zero, List.set_cons_succ, Option.bind_some, id, rdV_av, rdV_d, rdV_lp, rdV_fn, rdV_ft, rdV_fd, rdV_ml, rdV_md, lenOf_ml, lenOf_l, lenOf_t, datOf_d, mlOf_ml, lstOf_l, intOf_i, seqOf_t, seqOf_l, dCmp_i, isLp_lp, avIx_ml, avIx_l, avIx_t, wv_map, dMod_p, dDiv_p, dAdd_t, dAdd_l, rngOf_1, rngOf_2, Option.isSome_some, true_and, and_true, rng_nat', Int.toNat_natCast, wipeG_n, wipeG_c, wif_dec, dats_nil, dats_d, dAdd_i, dSub_i, dMul_i, dIx_t, dIx_l, at0, at1, at2, dNeg_i, dTuple_l, dTuple_t, dList_l, dList_t, dInt_i, dLen_l, dLen_t, dPr_sz, dPr_pa, dPr_tk, dPr_lv, dPr_sk, ws_ls1', ws_ls2', wg_tp', ws_app', ws_ext', rdV_non, Option.map_some, List.length_cons, List.length_nil]
    refine changes_wc hl z1 z3 fun p l' hp hl' => ?_
    refine ⟨p, rfl, by simp [e1], ?_, l', hl', rfl⟩
    intro x hx
    rcases List.mem_append.mp hx with hx | hx
    · exact e2 x hx
    · simp at hx; subst hx; exact hp
  rintro tk s ⟨e2, htk, l5, hl5, rfl⟩
  have hnp : pa.length = np := by simpa using e1
  simp only [↓ws_seq, ↓ws_set, ↓ws_setL, ↓ws_setD, ↓ws_asg, ↓ws_ret, ↓ws_retN, ↓ws_if, ↓ws_skip, ↓ws_break, ↓ws_cont, ↓ws_never, ↓we_var, ↓we_C, ↓we_fn, ↓we_f2, ↓we_f1, ↓we_chain, ↓wb_tst, ↓wb_tru, ↓wb_and, ↓wb_or, ↓wb_not, ↓wb_yes, ↓we_andV, ↓we_orV, ↓we_notV, ↓we_if, ↓wa_nil, ↓wa_cons, ↓we_tup, ↓wl_lst, ↓we_ofL, ↓wl_it, ↓we_CB, ↓wl_CL, ↓we_call, ↓wg_nm, ↓wgs_nil, ↓wgs_cons, ↓ks_nx, ↓ks_rt, ↓ks_bk, ↓ks_ct, ↓kr_rt, ↓kr_nx, ↓kt_nx, ↓kt_ct, ↓kt_bk, ↓kt_rt, ↓wv_some, ↓wtst_b, ↓wif_t, ↓wif_f, ↓wif_not, ↓we_lenV, ↓we_ixV, ↓we_inV, ↓ws_setIx, ↓wo_none, ↓wo_some, ↓we_sl, ↓wd_disp1, ↓wt_nil, ↓wt_cons, ↓we_dispT, ↓we_make, ↓ws_lsSet1, ↓ws_lsSet2, ↓ws_for, ↓wl_lc, ↓wl_rng1', ↓wl_rng2', List.getElem?_cons_zero, List.getElem?_cons_succ, List.set_cons_zero, List.set_cons_succ, Option.bind_some, id, rdV_av, rdV_d, rdV_lp, rdV_fn, rdV_ft, rdV_fd, rdV_ml, rdV_md, lenOf_ml, lenOf_l, lenOf_t, datOf_d, mlOf_ml, lstOf_l, intOf_i, seqOf_t, seqOf_l, dCmp_i, isLp_lp, avIx_ml, avIx_l, avIx_t, wv_map, dMod_p, dDiv_p, dAdd_t, dAdd_l, rngOf_1, rngOf_2, Option.isSome_some, true_and, and_true, rng_nat', Int.toNat_natCast, wipeG_n, wipeG_c, wif_dec, dats_nil, dats_d, dAdd_i, dSub_i, dMul_i, dIx_t, dIx_l, at0, at1, at2, dNeg_i, dTuple_l, dTuple_t, dList_l, dList_t, dInt_i, dLen_l, dLen_t, dPr_sz, dPr_pa, dPr_tk, dPr_lv, dPr_sk, ws_ls1', ws_ls2', wg_tp', ws_app', ws_ext', rdV_non, Option.map_some, List.length_cons, List.length_nil, List.length_map]
  refine ⟨inB_of (by omega) (by omega), ?_⟩
  refine some_wc (fun r => decide ((0 : Int) < r)) (fun r => rfl) (by omega) (by omega) (by omega) hl5 fun lv l6 lv1 lv2 hl6 => ?_
  simp only [↓ws_seq, ↓ws_set, ↓ws_setL, ↓ws_setD, ↓ws_asg, ↓ws_ret, ↓ws_retN, ↓ws_if, ↓ws_skip, ↓ws_break, ↓ws_cont, ↓ws_never, ↓we_var, ↓we_C, ↓we_fn, ↓we_f2, ↓we_f1, ↓we_chain, ↓wb_tst, ↓wb_tru, ↓wb_and, ↓wb_or, ↓wb_not, ↓wb_yes, ↓we_andV, ↓we_orV, ↓we_notV, ↓we_if, ↓wa_nil, ↓wa_cons, ↓we_tup, ↓wl_lst, ↓we_ofL, ↓wl_it, ↓we_CB, ↓wl_CL, ↓we_call, ↓wg_nm, ↓wgs_nil, ↓wgs_cons, ↓ks_nx, ↓ks_rt, ↓ks_bk, ↓ks_ct, ↓kr_rt, ↓kr_nx, ↓kt_nx, ↓kt_ct, ↓kt_bk, ↓kt_rt, ↓wv_some, ↓wtst_b, ↓wif_t, ↓wif_f, ↓wif_not, ↓we_lenV, ↓we_ixV, ↓we_inV, ↓ws_setIx, ↓wo_none, ↓wo_some, ↓we_sl, ↓wd_disp1, ↓wt_nil, ↓wt_cons, ↓we_dispT, ↓we_make, ↓ws_lsSet1, ↓ws_lsSet2, ↓ws_for, ↓wl_lc, ↓wl_rng1', ↓wl_rng2', List.getElem?_cons_zero, List.getElem?_cons_succ, List.set_cons_zero, List.set_cons_succ, Option.bind_some, id, rdV_av, rdV_d, rdV_lp, rdV_fn, rdV_ft, rdV_fd, rdV_ml, rdV_md, lenOf_ml, lenOf_l, lenOf_t, datOf_d, mlOf_ml, lstOf_l, intOf_i, seqOf_t, seqOf_l, dCmp_i, isLp_lp, avIx_ml, avIx_l, avIx_t, wv_map, dMod_p, dDiv_p, dAdd_t, dAdd_l, rngOf_1, rngOf_2, Option.isSome_some, true_and, and_true, rng_nat', Int.toNat_natCast, wipeG_n, wipeG_c, wif_dec, dats_nil, dats_d, dAdd_i, dSub_i, dMul_i, dIx_t, dIx_l, at0, at1, at2, dNeg_i, dTuple_l, dTuple_t, dList_l, dList_t, dInt_i, dLen_l, dLen_t, dPr_sz, dPr_pa, dPr_tk, dPr_lv, dPr_sk, ws_ls1', ws_ls2', wg_tp', ws_app', ws_ext', rdV_non, Option.map_some, List.length_cons, List.length_nil, List.length_map]
  refine ⟨inB_of (by omega) (by omega), ?_⟩
  refine some_wc (fun r => decide ((r : Int) = 0)) (fun r => dEq_i) (by omega) (by omega) (by omega) hl6 fun sk l7 sk1 sk2 hl7 => ?_
  simp only [↓ws_seq, ↓ws_set, ↓ws_setL, ↓ws_setD, ↓ws_asg, ↓ws_ret, ↓ws_retN, ↓ws_if, ↓ws_skip, ↓ws_break, ↓ws_cont, ↓ws_never, ↓we_var, ↓we_C, ↓we_fn, ↓we_f2, ↓we_f1, ↓we_chain, ↓wb_tst, ↓wb_tru, ↓wb_and, ↓wb_or, ↓wb_not, ↓wb_yes, ↓we_andV, ↓we_orV, ↓we_notV, ↓we_if, ↓wa_nil, ↓wa_cons, ↓we_tup, ↓wl_lst, ↓we_ofL, ↓wl_it, ↓we_CB, ↓wl_CL, ↓we_call, ↓wg_nm, ↓wgs_nil, ↓wgs_cons, ↓ks_nx, ↓ks_rt, ↓ks_bk, ↓ks_ct, ↓kr_rt, ↓kr_nx, ↓kt_nx, ↓kt_ct, ↓kt_bk, ↓kt_rt, ↓wv_some, ↓wtst_b, ↓wif_t, ↓wif_f, ↓wif_not, ↓we_lenV, ↓we_ixV, ↓we_inV, ↓ws_setIx, ↓wo_none, ↓wo_some, ↓we_sl, ↓wd_disp1, ↓wt_nil, ↓wt_cons, ↓we_dispT, ↓we_make, ↓ws_lsSet1, ↓ws_lsSet2, ↓ws_for, ↓wl_lc, ↓wl_rng1', ↓wl_rng2', List.getElem?_cons_zero, List.getElem?_cons_succ, List.set_cons_zero, List.set_cons_succ, Option.bind_some, id, rdV_av, rdV_d, rdV_lp, rdV_fn, rdV_ft, rdV_fd, rdV_ml, rdV_md, lenOf_ml, lenOf_l, lenOf_t, datOf_d, mlOf_ml, lstOf_l, intOf_i, seqOf_t, seqOf_l, dCmp_i, isLp_lp, avIx_ml, avIx_l, avIx_t, wv_map, dMod_p, dDiv_p, dAdd_t, dAdd_l, rngOf_1, rngOf_2, Option.isSome_some, true_and, and_true, rng_nat', Int.toNat_natCast, wipeG_n, wipeG_c, wif_dec, dats_nil, dats_d, dAdd_i, dSub_i, dMul_i, dIx_t, dIx_l, at0, at1, at2, dNeg_i, dTuple_l, dTuple_t, dList_l, dList_t, dInt_i, dLen_l, dLen_t, dPr_sz, dPr_pa, dPr_tk, dPr_lv, dPr_sk, ws_ls1', ws_ls2', wg_tp', ws_app', ws_ext', rdV_non, Option.map_some, List.length_cons, List.length_nil, List.map_cons, List.map_nil]
  refine ⟨⟨by decide, by decide⟩, ?_⟩
  exact q ⟨sz, pa, tk, lv, sk⟩ l7 ⟨z1, z3, hz, by simp; omega, by simp; omega, fun p hp => (hpa p hp).look, fun p hp => (hpa p hp).word, fun p hp => (hpa p hp).press, by simp at e2 ⊢; omega, htk, lv1, lv2, sk1, sk2⟩ hl7
end Pu

set_option Elab.async false
set_option linter.all false
set_option maxRecDepth 100000
set_option maxHeartbeats 1000000
/-! Pu, part I: a program of the law passes the checks. -/
namespace Pu
open PySem Tk Tk.W
theorem isNumber_wc {A : Ad} {l : LS} {v a b : Int} {Q : AV → LS → Prop} (h1 : a ≤ v) (h2 : v ≤ b) (q : Q (.d (.bool true)) l) : WC (g_is_number A) [.d (.int v), .d (.int a), .d (.int b)] l Q := by
  have e1 : ∀ v, dIsi "int" (.d (.int v)) = some (.d (.bool true)) := fun v => rfl
  have e2 : ∀ v, dIsi "bool" (.d (.int v)) = some (.d (.bool false)) := fun v => rfl
  unfold g_is_number b_is_number
  rw [wc_den, enter_eq]
  simp only [List.map_cons, List.map_nil, List.length_cons, List.length_nil, List.replicate, List.cons_append, List.nil_append, Nat.reduceAdd, Nat.reduceSub]
  simp only [↓ws_seq, ↓ws_set, ↓ws_setL, ↓ws_setD, ↓ws_asg, ↓ws_ret, ↓ws_retN, ↓ws_if, ↓ws_skip, ↓ws_break, ↓ws_cont, ↓ws_never, ↓we_var, ↓we_C, ↓we_fn, ↓we_f2, ↓we_f1, ↓we_chain, ↓wb_tst, ↓wb_tru, ↓wb_and, ↓wb_or, ↓wb_not, ↓wb_yes, ↓we_andV, ↓we_orV, ↓we_notV, ↓we_if, ↓wa_nil, ↓wa_cons, ↓we_tup, ↓wl_lst, ↓we_ofL, ↓wl_it, ↓we_CB, ↓wl_CL, ↓we_call, ↓wg_nm, ↓wgs_nil, ↓wgs_cons, ↓ks_nx, ↓ks_rt, ↓ks_bk, ↓ks_ct, ↓kr_rt, ↓kr_nx, ↓kt_nx, ↓kt_ct, ↓kt_bk, ↓kt_rt, ↓wv_some, ↓wtst_b, ↓wif_t, ↓wif_f, ↓wif_not, ↓we_lenV, ↓we_ixV, ↓we_inV, ↓ws_setIx, ↓wo_none, ↓wo_some, ↓we_sl, ↓wd_disp1, ↓wt_nil, ↓wt_cons, ↓we_dispT, ↓we_make, ↓ws_lsSet1, ↓ws_lsSet2, ↓ws_for, ↓wl_lc, ↓wl_rng1', ↓wl_rng2', List.getElem?_cons_zero, List.getElem?_cons_succ, List.set_cons_zero, List.set_cons_succ, Option.bind_some, id, rdV_av, rdV_d, rdV_lp, rdV_fn, rdV_ft, rdV_fd, rdV_ml, rdV_md, lenOf_ml, lenOf_l, lenOf_t, datOf_d, mlOf_ml, lstOf_l, intOf_i, seqOf_t, seqOf_l, dCmp_i, isLp_lp, avIx_ml, avIx_l, avIx_t, wv_map, dMod_p, dDiv_p, dAdd_t, dAdd_l, rngOf_1, rngOf_2, Option.isSome_some, true_and, and_true, rng_nat', Int.toNat_natCast, wipeG_n, wipeG_c, wif_dec, dats_nil, dats_d, dAdd_i, dSub_i, dMul_i, dIx_t, dIx_l, at0, at1, at2, dNeg_i, dTuple_l, dTuple_t, dList_l, dList_t, dInt_i, dLen_l, dLen_t, dPr_sz, dPr_pa, dPr_tk, dPr_lv, dPr_sk, ws_ls1', ws_ls2', wg_tp', ws_app', ws_ext', rdV_non, Option.map_some, List.length_cons, List.length_nil, e1, e2, Bool.not_false, h1, h2, decide_true]
  exact q
theorem intsOf_eN (xs : List Nat) : intsOf (xs.map eN) = some (xs.map fun n : Nat => (n : Int)) := by
  induction xs with
  | nil => rfl
  | cons x xs ih => show (intsOf (xs.map eN)).map _ = _; rw [ih]; rfl
theorem areNumbers_wc {A : Ad} {l : LS} {xs : List Nat} {a b : Int} {Q : AV → LS → Prop} (h : ∀ x ∈ xs, a ≤ (x : Int) ∧ (x : Int) ≤ b) (q : Q (.d (.bool true)) l) : WC (g_are_numbers A) [.d (eNs xs), .d (.int a), .d (.int b)] l Q := by
  unfold g_are_numbers b_are_numbers
  rw [wc_den, enter_eq, ws_ret]
  refine WV.of (r := (.d (.bool true), ⟨[some (.d (eNs xs)), some (.d (.int a)), some (.d (.int b))], l⟩)) ?_ (show Q _ _ from q)
  have e : (xs.map fun n : Nat => (n : Int)).all (fun i => inR a i b) = true := by
    rw [List.all_eq_true]
    intro x hx
    obtain ⟨n, hn, rfl⟩ := List.mem_map.mp hx
    have := h n hn
    simp [inR, this]
  unfold fAllNum
  simp only [List.map_cons, List.map_nil, List.length_cons, List.length_nil, List.replicate, List.cons_append, List.nil_append, Nat.reduceAdd, Nat.reduceSub, fVar_eq, List.getElem?_cons_zero, List.getElem?_cons_succ, rdV_d, intsOf_eN, e, List.append_nil]
theorem isTable_wc {A : Ad} {l : LS} {sz : List Nat} {t : Tb} {Q : AV → LS → Prop} (h : TbOk sz t) (q : Q (.d (.bool true)) l) : WC (g_is_table A) [.d (eNs sz), .d (eT t)] l Q := by
  have hv := h.hv
  unfold g_is_table b_is_table
  rw [wc_den, enter_eq]
  simp only [List.map_cons, List.map_nil, List.length_cons, List.length_nil, List.replicate, List.cons_append, List.nil_append, Nat.reduceAdd, Nat.reduceSub]
  simp only [↓ws_seq, ↓ws_set, ↓ws_setL, ↓ws_setD, ↓ws_asg, ↓ws_ret, ↓ws_retN, ↓ws_if, ↓ws_skip, ↓ws_break, ↓ws_cont, ↓ws_never, ↓we_var, ↓we_C, ↓we_fn, ↓we_f2, ↓we_f1, ↓we_chain, ↓wb_tst, ↓wb_tru, ↓wb_and, ↓wb_or, ↓wb_not, ↓wb_yes, ↓we_andV, ↓we_orV, ↓we_notV, ↓we_if, ↓wa_nil, ↓wa_cons, ↓we_tup, ↓wl_lst, ↓we_ofL, ↓wl_it, ↓we_CB, ↓wl_CL, ↓we_call, ↓wg_nm, ↓wgs_nil, ↓wgs_cons, ↓ks_nx, ↓ks_rt, ↓ks_bk, ↓ks_ct, ↓kr_rt, ↓kr_nx, ↓kt_nx, ↓kt_ct, ↓kt_bk, ↓kt_rt, ↓wv_some, ↓wtst_b, ↓wif_t, ↓wif_f, ↓wif_not, ↓we_lenV, ↓we_ixV, ↓we_inV, ↓ws_setIx, ↓wo_none, ↓wo_some, ↓we_sl, ↓wd_disp1, ↓wt_nil, ↓wt_cons, ↓we_dispT, ↓we_make, ↓ws_lsSet1, ↓ws_lsSet2, ↓ws_for, ↓wl_lc, ↓wl_rng1', ↓wl_rng2', List.getElem?_cons_zero, List.getElem?_cons_succ, List.set_cons_zero, List.set_cons_succ, Option.bind_some, id, rdV_av, rdV_d, rdV_lp, rdV_fn, rdV_ft, rdV_fd, rdV_ml, rdV_md, lenOf_ml, lenOf_l, lenOf_t, datOf_d, mlOf_ml, lstOf_l, intOf_i, seqOf_t, seqOf_l, dCmp_i, isLp_lp, avIx_ml, avIx_l, avIx_t, wv_map, dMod_p, dDiv_p, dAdd_t, dAdd_l, rngOf_1, rngOf_2, Option.isSome_some, true_and, and_true, rng_nat', Int.toNat_natCast, wipeG_n, wipeG_c, wif_dec, dats_nil, dats_d, dAdd_i, dSub_i, dMul_i, dIx_t, dIx_l, at0, at1, at2, dNeg_i, dTuple_l, dTuple_t, dList_l, dList_t, dInt_i, dLen_l, dLen_t, dPr_sz, dPr_pa, dPr_tk, dPr_lv, dPr_sk, ws_ls1', ws_ls2', wg_tp', ws_app', ws_ext', rdV_non, Option.map_some, List.length_cons, List.length_nil, List.length_map]
  refine isNumber_wc (by omega) (by omega) ?_
  simp only [↓ws_seq, ↓ws_set, ↓ws_setL, ↓ws_setD, ↓ws_asg, ↓ws_ret, ↓ws_retN, ↓ws_if, ↓ws_skip, ↓ws_break, ↓ws_cont, ↓ws_never, ↓we_var, ↓we_C, ↓we_fn, ↓we_f2, ↓we_f1, ↓we_chain, ↓wb_tst, ↓wb_tru, ↓wb_and, ↓wb_or, ↓wb_not, ↓wb_yes, ↓we_andV, ↓we_orV, ↓we_notV, ↓we_if, ↓wa_nil, ↓wa_cons, ↓we_tup, ↓wl_lst, ↓we_ofL, ↓wl_it, ↓we_CB, ↓wl_CL, ↓we_call, ↓wg_nm, ↓wgs_nil, ↓wgs_cons, ↓ks_nx, ↓ks_rt, ↓ks_bk, ↓ks_ct, ↓kr_rt, ↓kr_nx, ↓kt_nx, ↓kt_ct, ↓kt_bk, ↓kt_rt, ↓wv_some, ↓wtst_b, ↓wif_t, ↓wif_f, ↓wif_not, ↓we_lenV, ↓we_ixV, ↓we_inV, ↓ws_setIx, ↓wo_none, ↓wo_some, ↓we_sl, ↓wd_disp1, ↓wt_nil, ↓wt_cons, ↓we_dispT, ↓we_make, ↓ws_lsSet1, ↓ws_lsSet2, ↓ws_for, ↓wl_lc, ↓wl_rng1', ↓wl_rng2', List.getElem?_cons_zero, List.getElem?_cons_succ, List.set_cons_zero, List.set_cons_succ, Option.bind_some, id, rdV_av, rdV_d, rdV_lp, rdV_fn, rdV_ft, rdV_fd, rdV_ml, rdV_md, lenOf_ml, lenOf_l, lenOf_t, datOf_d, mlOf_ml, lstOf_l, intOf_i, seqOf_t, seqOf_l, dCmp_i, isLp_lp, avIx_ml, avIx_l, avIx_t, wv_map, dMod_p, dDiv_p, dAdd_t, dAdd_l, rngOf_1, rngOf_2, Option.isSome_some, true_and, and_true, rng_nat', Int.toNat_natCast, wipeG_n, wipeG_c, wif_dec, dats_nil, dats_d, dAdd_i, dSub_i, dMul_i, dIx_t, dIx_l, at0, at1, at2, dNeg_i, dTuple_l, dTuple_t, dList_l, dList_t, dInt_i, dLen_l, dLen_t, dPr_sz, dPr_pa, dPr_tk, dPr_lv, dPr_sk, ws_ls1', ws_ls2', wg_tp', ws_app', ws_ext', rdV_non, Option.map_some, List.length_cons, List.length_nil, List.length_map, Bool.not_true]
  refine wv_atN hv ?_
  simp only [↓ws_seq, ↓ws_set, ↓ws_setL, ↓ws_setD, ↓ws_asg, ↓ws_ret, ↓ws_retN, ↓ws_if, ↓ws_skip, ↓ws_break, ↓ws_cont, ↓ws_never, ↓we_var, ↓we_C, ↓we_fn, ↓we_f2, ↓we_f1, ↓we_chain, ↓wb_tst, ↓wb_tru, ↓wb_and, ↓wb_or, ↓wb_not, ↓wb_yes, ↓we_andV, ↓we_orV, ↓we_notV, ↓we_if, ↓wa_nil, ↓wa_cons, ↓we_tup, ↓wl_lst, ↓we_ofL, ↓wl_it, ↓we_CB, ↓wl_CL, ↓we_call, ↓wg_nm, ↓wgs_nil, ↓wgs_cons, ↓ks_nx, ↓ks_rt, ↓ks_bk, ↓ks_ct, ↓kr_rt, ↓kr_nx, ↓kt_nx, ↓kt_ct, ↓kt_bk, ↓kt_rt, ↓wv_some, ↓wtst_b, ↓wif_t, ↓wif_f, ↓wif_not, ↓we_lenV, ↓we_ixV, ↓we_inV, ↓ws_setIx, ↓wo_none, ↓wo_some, ↓we_sl, ↓wd_disp1, ↓wt_nil, ↓wt_cons, ↓we_dispT, ↓we_make, ↓ws_lsSet1, ↓ws_lsSet2, ↓ws_for, ↓wl_lc, ↓wl_rng1', ↓wl_rng2', List.getElem?_cons_zero, List.getElem?_cons_succ, List.set_cons_zero, List.set_cons_succ, Option.bind_some, id, rdV_av, rdV_d, rdV_lp, rdV_fn, rdV_ft, rdV_fd, rdV_ml, rdV_md, lenOf_ml, lenOf_l, lenOf_t, datOf_d, mlOf_ml, lstOf_l, intOf_i, seqOf_t, seqOf_l, dCmp_i, isLp_lp, avIx_ml, avIx_l, avIx_t, wv_map, dMod_p, dDiv_p, dAdd_t, dAdd_l, rngOf_1, rngOf_2, Option.isSome_some, true_and, and_true, rng_nat', Int.toNat_natCast, wipeG_n, wipeG_c, wif_dec, dats_nil, dats_d, dAdd_i, dSub_i, dMul_i, dIx_t, dIx_l, at0, at1, at2, dNeg_i, dTuple_l, dTuple_t, dList_l, dList_t, dInt_i, dLen_l, dLen_t, dPr_sz, dPr_pa, dPr_tk, dPr_lv, dPr_sk, ws_ls1', ws_ls2', wg_tp', ws_app', ws_ext', rdV_non, Option.map_some, List.length_cons, List.length_nil, dEq_i, h.ht, decide_true]
  refine areNumbers_wc (fun x hx => ?_) q
  have := h.hs x hx
  omega
theorem areChanges_wc {A : Ad} {l : LS} {sz : List Nat} {c : Ch} {Q : AV → LS → Prop} (h : ChOk sz c) (q : Q (.d (.bool true)) l) : WC (g_are_changes A) [.d (eNs sz), .d (ePs c)] l Q := by
  have h1 := h.l
  have h2 := h.u
  unfold g_are_changes b_are_changes
  rw [wc_den, enter_eq]
  simp only [List.map_cons, List.map_nil, List.length_cons, List.length_nil, List.replicate, List.cons_append, List.nil_append, Nat.reduceAdd, Nat.reduceSub]
  have e1 : (1 : Int) ≤ (c.length : Nat) := by omega
  have e2 : ((c.length : Nat) : Int) ≤ 3 := by omega
  simp only [↓ws_seq, ↓ws_set, ↓ws_setL, ↓ws_setD, ↓ws_asg, ↓ws_ret, ↓ws_retN, ↓ws_if, ↓ws_skip, ↓ws_break, ↓ws_cont, ↓ws_never, ↓we_var, ↓we_C, ↓we_fn, ↓we_f2, ↓we_f1, ↓we_chain, ↓wb_tst, ↓wb_tru, ↓wb_and, ↓wb_or, ↓wb_not, ↓wb_yes, ↓we_andV, ↓we_orV, ↓we_notV, ↓we_if, ↓wa_nil, ↓wa_cons, ↓we_tup, ↓wl_lst, ↓we_ofL, ↓wl_it, ↓we_CB, ↓wl_CL, ↓we_call, ↓wg_nm, ↓wgs_nil, ↓wgs_cons, ↓ks_nx, ↓ks_rt, ↓ks_bk, ↓ks_ct, ↓kr_rt, ↓kr_nx, ↓kt_nx, ↓kt_ct, ↓kt_bk, ↓kt_rt, ↓wv_some, ↓wtst_b, ↓wif_t, ↓wif_f, ↓wif_not, ↓we_lenV, ↓we_ixV, ↓we_inV, ↓ws_setIx, ↓wo_none, ↓wo_some, ↓we_sl, ↓wd_disp1, ↓wt_nil, ↓wt_cons, ↓we_dispT, ↓we_make, ↓ws_lsSet1, ↓ws_lsSet2, ↓ws_for, ↓wl_lc, ↓wl_rng1', ↓wl_rng2', List.getElem?_cons_zero, List.getElem?_cons_succ, List.set_cons_zero, List.set_cons_succ, Option.bind_some, id, rdV_av, rdV_d, rdV_lp, rdV_fn, rdV_ft, rdV_fd, rdV_ml, rdV_md, lenOf_ml, lenOf_l, lenOf_t, datOf_d, mlOf_ml, lstOf_l, intOf_i, seqOf_t, seqOf_l, dCmp_i, isLp_lp, avIx_ml, avIx_l, avIx_t, wv_map, dMod_p, dDiv_p, dAdd_t, dAdd_l, rngOf_1, rngOf_2, Option.isSome_some, true_and, and_true, rng_nat', Int.toNat_natCast, wipeG_n, wipeG_c, wif_dec, dats_nil, dats_d, dAdd_i, dSub_i, dMul_i, dIx_t, dIx_l, at0, at1, at2, dNeg_i, dTuple_l, dTuple_t, dList_l, dList_t, dInt_i, dLen_l, dLen_t, dPr_sz, dPr_pa, dPr_tk, dPr_lv, dPr_sk, ws_ls1', ws_ls2', wg_tp', ws_app', ws_ext', rdV_non, Option.map_some, List.length_cons, List.length_nil, List.length_map, e1, e2, decide_true, Bool.not_true]
  refine ws_forGo eP (fun done rest s => (∀ p ∈ rest, p.1 < sz.length ∧ 1 ≤ p.2 ∧ p.2 ≤ 3) ∧ ∃ a b, s = ⟨[some (.d (eNs sz)), some (.d (ePs c)), a, b], l⟩) c [] _ ⟨h.c, none, none, rfl⟩ ?_ ?_
  · rintro done x rest s ⟨e1, a, b, rfl⟩
    have hx := e1 x List.mem_cons_self
    simp only [↓ws_seq, ↓ws_set, ↓ws_setL, ↓ws_setD, ↓ws_asg, ↓ws_ret, ↓ws_retN, ↓ws_if, ↓ws_skip, ↓ws_break, ↓ws_cont, ↓ws_never, ↓we_var, ↓we_C, ↓we_fn, ↓we_f2, ↓we_f1, ↓we_chain, ↓wb_tst, ↓wb_tru, ↓wb_and, ↓wb_or, ↓wb_not, ↓wb_yes, ↓we_andV, ↓we_orV, ↓we_notV, ↓we_if, ↓wa_nil, ↓wa_cons, ↓we_tup, ↓wl_lst, ↓we_ofL, ↓wl_it, ↓we_CB, ↓wl_CL, ↓we_call, ↓wg_nm, ↓wgs_nil, ↓wgs_cons, ↓ks_nx, ↓ks_rt, ↓ks_bk, ↓ks_ct, ↓kr_rt, ↓kr_nx, ↓kt_nx, ↓kt_ct, ↓kt_bk, ↓kt_rt, ↓wv_some, ↓wtst_b, ↓wif_t, ↓wif_f, ↓wif_not, ↓we_lenV, ↓we_ixV, ↓we_inV, ↓ws_setIx, ↓wo_none, ↓wo_some, ↓we_sl, ↓wd_disp1, ↓wt_nil, ↓wt_cons, ↓we_dispT, ↓we_make, ↓ws_lsSet1, ↓ws_lsSet2, ↓ws_for, ↓wl_lc, ↓wl_rng1', ↓wl_rng2', List.getElem?_cons_zero, List.getElem?_cons_succ, List.set_cons_zero, List.set_cons_succ, Option.bind_some, id, rdV_av, rdV_d, rdV_lp, rdV_fn, rdV_ft, rdV_fd, rdV_ml, rdV_md, lenOf_ml, lenOf_l, lenOf_t, datOf_d, mlOf_ml, lstOf_l, intOf_i, seqOf_t, seqOf_l, dCmp_i, isLp_lp, avIx_ml, avIx_l, avIx_t, wv_map, dMod_p, dDiv_p, dAdd_t, dAdd_l, rngOf_1, rngOf_2, Option.isSome_some, true_and, and_true, rng_nat', Int.toNat_natCast, wipeG_n, wipeG_c, wif_dec, dats_nil, dats_d, dAdd_i, dSub_i, dMul_i, dIx_t, dIx_l, at0, at1, at2, dNeg_i, dTuple_l, dTuple_t, dList_l, dList_t, dInt_i, dLen_l, dLen_t, dPr_sz, dPr_pa, dPr_tk, dPr_lv, dPr_sk, ws_ls1', ws_ls2', wg_tp', ws_app', ws_ext', rdV_non, Option.map_some, List.length_cons, List.length_nil, List.length_map]
    refine isNumber_wc (by omega) (by omega) ?_
    simp only [↓ws_seq, ↓ws_set, ↓ws_setL, ↓ws_setD, ↓ws_asg, ↓ws_ret, ↓ws_retN, ↓ws_if, ↓ws_skip, ↓ws_break, ↓ws_cont, ↓ws_never, ↓we_var, ↓we_C, ↓we_fn, ↓we_f2, ↓we_f1, ↓we_chain, ↓wb_tst, ↓wb_tru, ↓wb_and, ↓wb_or, ↓wb_not, ↓wb_yes, ↓we_andV, ↓we_orV, ↓we_notV, ↓we_if, ↓wa_nil, ↓wa_cons, ↓we_tup, ↓wl_lst, ↓we_ofL, ↓wl_it, ↓we_CB, ↓wl_CL, ↓we_call, ↓wg_nm, ↓wgs_nil, ↓wgs_cons, ↓ks_nx, ↓ks_rt, ↓ks_bk, ↓ks_ct, ↓kr_rt, ↓kr_nx, ↓kt_nx, ↓kt_ct, ↓kt_bk, ↓kt_rt, ↓wv_some, ↓wtst_b, ↓wif_t, ↓wif_f, ↓wif_not, ↓we_lenV, ↓we_ixV, ↓we_inV, ↓ws_setIx, ↓wo_none, ↓wo_some, ↓we_sl, ↓wd_disp1, ↓wt_nil, ↓wt_cons, ↓we_dispT, ↓we_make, ↓ws_lsSet1, ↓ws_lsSet2, ↓ws_for, ↓wl_lc, ↓wl_rng1', ↓wl_rng2', List.getElem?_cons_zero, List.getElem?_cons_succ, List.set_cons_zero, List.set_cons_succ, Option.bind_some, id, rdV_av, rdV_d, rdV_lp, rdV_fn, rdV_ft, rdV_fd, rdV_ml, rdV_md, lenOf_ml, lenOf_l, lenOf_t, datOf_d, mlOf_ml, lstOf_l, intOf_i, seqOf_t, seqOf_l, dCmp_i, isLp_lp, avIx_ml, avIx_l, avIx_t, wv_map, dMod_p, dDiv_p, dAdd_t, dAdd_l, rngOf_1, rngOf_2, Option.isSome_some, true_and, and_true, rng_nat', Int.toNat_natCast, wipeG_n, wipeG_c, wif_dec, dats_nil, dats_d, dAdd_i, dSub_i, dMul_i, dIx_t, dIx_l, at0, at1, at2, dNeg_i, dTuple_l, dTuple_t, dList_l, dList_t, dInt_i, dLen_l, dLen_t, dPr_sz, dPr_pa, dPr_tk, dPr_lv, dPr_sk, ws_ls1', ws_ls2', wg_tp', ws_app', ws_ext', rdV_non, Option.map_some, List.length_cons, List.length_nil, Bool.not_true]
    refine isNumber_wc (by omega) (by omega) ?_
    simp only [↓ws_seq, ↓ws_set, ↓ws_setL, ↓ws_setD, ↓ws_asg, ↓ws_ret, ↓ws_retN, ↓ws_if, ↓ws_skip, ↓ws_break, ↓ws_cont, ↓ws_never, ↓we_var, ↓we_C, ↓we_fn, ↓we_f2, ↓we_f1, ↓we_chain, ↓wb_tst, ↓wb_tru, ↓wb_and, ↓wb_or, ↓wb_not, ↓wb_yes, ↓we_andV, ↓we_orV, ↓we_notV, ↓we_if, ↓wa_nil, ↓wa_cons, ↓we_tup, ↓wl_lst, ↓we_ofL, ↓wl_it, ↓we_CB, ↓wl_CL, ↓we_call, ↓wg_nm, ↓wgs_nil, ↓wgs_cons, ↓ks_nx, ↓ks_rt, ↓ks_bk, ↓ks_ct, ↓kr_rt, ↓kr_nx, ↓kt_nx, ↓kt_ct, ↓kt_bk, ↓kt_rt, ↓wv_some, ↓wtst_b, ↓wif_t, ↓wif_f, ↓wif_not, ↓we_lenV, ↓we_ixV, ↓we_inV, ↓ws_setIx, ↓wo_none, ↓wo_some, ↓we_sl, ↓wd_disp1, ↓wt_nil, ↓wt_cons, ↓we_dispT, ↓we_make, ↓ws_lsSet1, ↓ws_lsSet2, ↓ws_for, ↓wl_lc, ↓wl_rng1', ↓wl_rng2', List.getElem?_cons_zero, List.getElem?_cons_succ, List.set_cons_zero, List.set_cons_succ, Option.bind_some, id, rdV_av, rdV_d, rdV_lp, rdV_fn, rdV_ft, rdV_fd, rdV_ml, rdV_md, lenOf_ml, lenOf_l, lenOf_t, datOf_d, mlOf_ml, lstOf_l, intOf_i, seqOf_t, seqOf_l, dCmp_i, isLp_lp, avIx_ml, avIx_l, avIx_t, wv_map, dMod_p, dDiv_p, dAdd_t, dAdd_l, rngOf_1, rngOf_2, Option.isSome_some, true_and, and_true, rng_nat', Int.toNat_natCast, wipeG_n, wipeG_c, wif_dec, dats_nil, dats_d, dAdd_i, dSub_i, dMul_i, dIx_t, dIx_l, at0, at1, at2, dNeg_i, dTuple_l, dTuple_t, dList_l, dList_t, dInt_i, dLen_l, dLen_t, dPr_sz, dPr_pa, dPr_tk, dPr_lv, dPr_sk, ws_ls1', ws_ls2', wg_tp', ws_app', ws_ext', rdV_non, Option.map_some, List.length_cons, List.length_nil, Bool.not_true]
    exact ⟨fun p hp => e1 p (List.mem_cons_of_mem _ hp), _, _, rfl⟩
  · rintro s ⟨e1, a, b, rfl⟩
    simp only [↓ws_seq, ↓ws_set, ↓ws_setL, ↓ws_setD, ↓ws_asg, ↓ws_ret, ↓ws_retN, ↓ws_if, ↓ws_skip, ↓ws_break, ↓ws_cont, ↓ws_never, ↓we_var, ↓we_C, ↓we_fn, ↓we_f2, ↓we_f1, ↓we_chain, ↓wb_tst, ↓wb_tru, ↓wb_and, ↓wb_or, ↓wb_not, ↓wb_yes, ↓we_andV, ↓we_orV, ↓we_notV, ↓we_if, ↓wa_nil, ↓wa_cons, ↓we_tup, ↓wl_lst, ↓we_ofL, ↓wl_it, ↓we_CB, ↓wl_CL, ↓we_call, ↓wg_nm, ↓wgs_nil, ↓wgs_cons, ↓ks_nx, ↓ks_rt, ↓ks_bk, ↓ks_ct, ↓kr_rt, ↓kr_nx, ↓kt_nx, ↓kt_ct, ↓kt_bk, ↓kt_rt, ↓wv_some, ↓wtst_b, ↓wif_t, ↓wif_f, ↓wif_not, ↓we_lenV, ↓we_ixV, ↓we_inV, ↓ws_setIx, ↓wo_none, ↓wo_some, ↓we_sl, ↓wd_disp1, ↓wt_nil, ↓wt_cons, ↓we_dispT, ↓we_make, ↓ws_lsSet1, ↓ws_lsSet2, ↓ws_for, ↓wl_lc, ↓wl_rng1', ↓wl_rng2', List.getElem?_cons_zero, List.getElem?_cons_succ, List.set_cons_zero, List.set_cons_succ, Option.bind_some, id, rdV_av, rdV_d, rdV_lp, rdV_fn, rdV_ft, rdV_fd, rdV_ml, rdV_md, lenOf_ml, lenOf_l, lenOf_t, datOf_d, mlOf_ml, lstOf_l, intOf_i, seqOf_t, seqOf_l, dCmp_i, isLp_lp, avIx_ml, avIx_l, avIx_t, wv_map, dMod_p, dDiv_p, dAdd_t, dAdd_l, rngOf_1, rngOf_2, Option.isSome_some, true_and, and_true, rng_nat', Int.toNat_natCast, wipeG_n, wipeG_c, wif_dec, dats_nil, dats_d, dAdd_i, dSub_i, dMul_i, dIx_t, dIx_l, at0, at1, at2, dNeg_i, dTuple_l, dTuple_t, dList_l, dList_t, dInt_i, dLen_l, dLen_t, dPr_sz, dPr_pa, dPr_tk, dPr_lv, dPr_sk, ws_ls1', ws_ls2', wg_tp', ws_app', ws_ext', rdV_non, Option.map_some, List.length_cons, List.length_nil]
    exact q
theorem areParts_wc {A : Ad} {l : LS} {P : Pg} {Q : AV → LS → Prop} (h : PgOk P) (q : Q (.d (.bool true)) l) : WC (g_are_parts A) [.d (eNs P.sz), .d (ePts P.pa)] l Q := by
  have h1 := h.p1
  have h2 := h.p4
  unfold g_are_parts b_are_parts
  rw [wc_den, enter_eq]
  simp only [List.map_cons, List.map_nil, List.length_cons, List.length_nil, List.replicate, List.cons_append, List.nil_append, Nat.reduceAdd, Nat.reduceSub]
  have e1 : (1 : Int) ≤ (P.pa.length : Nat) := by omega
  have e2 : ((P.pa.length : Nat) : Int) ≤ 4 := by omega
  simp only [↓ws_seq, ↓ws_set, ↓ws_setL, ↓ws_setD, ↓ws_asg, ↓ws_ret, ↓ws_retN, ↓ws_if, ↓ws_skip, ↓ws_break, ↓ws_cont, ↓ws_never, ↓we_var, ↓we_C, ↓we_fn, ↓we_f2, ↓we_f1, ↓we_chain, ↓wb_tst, ↓wb_tru, ↓wb_and, ↓wb_or, ↓wb_not, ↓wb_yes, ↓we_andV, ↓we_orV, ↓we_notV, ↓we_if, ↓wa_nil, ↓wa_cons, ↓we_tup, ↓wl_lst, ↓we_ofL, ↓wl_it, ↓we_CB, ↓wl_CL, ↓we_call, ↓wg_nm, ↓wgs_nil, ↓wgs_cons, ↓ks_nx, ↓ks_rt, ↓ks_bk, ↓ks_ct, ↓kr_rt, ↓kr_nx, ↓kt_nx, ↓kt_ct, ↓kt_bk, ↓kt_rt, ↓wv_some, ↓wtst_b, ↓wif_t, ↓wif_f, ↓wif_not, ↓we_lenV, ↓we_ixV, ↓we_inV, ↓ws_setIx, ↓wo_none, ↓wo_some, ↓we_sl, ↓wd_disp1, ↓wt_nil, ↓wt_cons, ↓we_dispT, ↓we_make, ↓ws_lsSet1, ↓ws_lsSet2, ↓ws_for, ↓wl_lc, ↓wl_rng1', ↓wl_rng2', List.getElem?_cons_zero, List.getElem?_cons_succ, List.set_cons_zero, List.set_cons_succ, Option.bind_some, id, rdV_av, rdV_d, rdV_lp, rdV_fn, rdV_ft, rdV_fd, rdV_ml, rdV_md, lenOf_ml, lenOf_l, lenOf_t, datOf_d, mlOf_ml, lstOf_l, intOf_i, seqOf_t, seqOf_l, dCmp_i, isLp_lp, avIx_ml, avIx_l, avIx_t, wv_map, dMod_p, dDiv_p, dAdd_t, dAdd_l, rngOf_1, rngOf_2, Option.isSome_some, true_and, and_true, rng_nat', Int.toNat_natCast, wipeG_n, wipeG_c, wif_dec, dats_nil, dats_d, dAdd_i, dSub_i, dMul_i, dIx_t, dIx_l, at0, at1, at2, dNeg_i, dTuple_l, dTuple_t, dList_l, dList_t, dInt_i, dLen_l, dLen_t, dPr_sz, dPr_pa, dPr_tk, dPr_lv, dPr_sk, ws_ls1', ws_ls2', wg_tp', ws_app', ws_ext', rdV_non, Option.map_some, List.length_cons, List.length_nil, List.length_map, e1, e2, decide_true, Bool.not_true]
  refine ws_forGo ePt (fun done rest s => (∀ p ∈ rest, PtOk P.sz p) ∧ ∃ a b c, s = ⟨[some (.d (eNs P.sz)), some (.d (ePts P.pa)), a, b, c], l⟩) P.pa [] _ ⟨fun p hp => ⟨h.look p hp, h.word p hp, h.press p hp⟩, none, none, none, rfl⟩ ?_ ?_
  · rintro done x rest s ⟨e1, a, b, c, rfl⟩
    have hx := e1 x List.mem_cons_self
    simp only [↓ws_seq, ↓ws_set, ↓ws_setL, ↓ws_setD, ↓ws_asg, ↓ws_ret, ↓ws_retN, ↓ws_if, ↓ws_skip, ↓ws_break, ↓ws_cont, ↓ws_never, ↓we_var, ↓we_C, ↓we_fn, ↓we_f2, ↓we_f1, ↓we_chain, ↓wb_tst, ↓wb_tru, ↓wb_and, ↓wb_or, ↓wb_not, ↓wb_yes, ↓we_andV, ↓we_orV, ↓we_notV, ↓we_if, ↓wa_nil, ↓wa_cons, ↓we_tup, ↓wl_lst, ↓we_ofL, ↓wl_it, ↓we_CB, ↓wl_CL, ↓we_call, ↓wg_nm, ↓wgs_nil, ↓wgs_cons, ↓ks_nx, ↓ks_rt, ↓ks_bk, ↓ks_ct, ↓kr_rt, ↓kr_nx, ↓kt_nx, ↓kt_ct, ↓kt_bk, ↓kt_rt, ↓wv_some, ↓wtst_b, ↓wif_t, ↓wif_f, ↓wif_not, ↓we_lenV, ↓we_ixV, ↓we_inV, ↓ws_setIx, ↓wo_none, ↓wo_some, ↓we_sl, ↓wd_disp1, ↓wt_nil, ↓wt_cons, ↓we_dispT, ↓we_make, ↓ws_lsSet1, ↓ws_lsSet2, ↓ws_for, ↓wl_lc, ↓wl_rng1', ↓wl_rng2', List.getElem?_cons_zero, List.getElem?_cons_succ, List.set_cons_zero, List.set_cons_succ, Option.bind_some, id, rdV_av, rdV_d, rdV_lp, rdV_fn, rdV_ft, rdV_fd, rdV_ml, rdV_md, lenOf_ml, lenOf_l, lenOf_t, datOf_d, mlOf_ml, lstOf_l, intOf_i, seqOf_t, seqOf_l, dCmp_i, isLp_lp, avIx_ml, avIx_l, avIx_t, wv_map, dMod_p, dDiv_p, dAdd_t, dAdd_l, rngOf_1, rngOf_2, Option.isSome_some, true_and, and_true, rng_nat', Int.toNat_natCast, wipeG_n, wipeG_c, wif_dec, dats_nil, dats_d, dAdd_i, dSub_i, dMul_i, dIx_t, dIx_l, at0, at1, at2, dNeg_i, dTuple_l, dTuple_t, dList_l, dList_t, dInt_i, dLen_l, dLen_t, dPr_sz, dPr_pa, dPr_tk, dPr_lv, dPr_sk, ws_ls1', ws_ls2', wg_tp', ws_app', ws_ext', rdV_non, Option.map_some, List.length_cons, List.length_nil]
    refine isTable_wc hx.look ?_
    simp only [↓ws_seq, ↓ws_set, ↓ws_setL, ↓ws_setD, ↓ws_asg, ↓ws_ret, ↓ws_retN, ↓ws_if, ↓ws_skip, ↓ws_break, ↓ws_cont, ↓ws_never, ↓we_var, ↓we_C, ↓we_fn, ↓we_f2, ↓we_f1, ↓we_chain, ↓wb_tst, ↓wb_tru, ↓wb_and, ↓wb_or, ↓wb_not, ↓wb_yes, ↓we_andV, ↓we_orV, ↓we_notV, ↓we_if, ↓wa_nil, ↓wa_cons, ↓we_tup, ↓wl_lst, ↓we_ofL, ↓wl_it, ↓we_CB, ↓wl_CL, ↓we_call, ↓wg_nm, ↓wgs_nil, ↓wgs_cons, ↓ks_nx, ↓ks_rt, ↓ks_bk, ↓ks_ct, ↓kr_rt, ↓kr_nx, ↓kt_nx, ↓kt_ct, ↓kt_bk, ↓kt_rt, ↓wv_some, ↓wtst_b, ↓wif_t, ↓wif_f, ↓wif_not, ↓we_lenV, ↓we_ixV, ↓we_inV, ↓ws_setIx, ↓wo_none, ↓wo_some, ↓we_sl, ↓wd_disp1, ↓wt_nil, ↓wt_cons, ↓we_dispT, ↓we_make, ↓ws_lsSet1, ↓ws_lsSet2, ↓ws_for, ↓wl_lc, ↓wl_rng1', ↓wl_rng2', List.getElem?_cons_zero, List.getElem?_cons_succ, List.set_cons_zero, List.set_cons_succ, Option.bind_some, id, rdV_av, rdV_d, rdV_lp, rdV_fn, rdV_ft, rdV_fd, rdV_ml, rdV_md, lenOf_ml, lenOf_l, lenOf_t, datOf_d, mlOf_ml, lstOf_l, intOf_i, seqOf_t, seqOf_l, dCmp_i, isLp_lp, avIx_ml, avIx_l, avIx_t, wv_map, dMod_p, dDiv_p, dAdd_t, dAdd_l, rngOf_1, rngOf_2, Option.isSome_some, true_and, and_true, rng_nat', Int.toNat_natCast, wipeG_n, wipeG_c, wif_dec, dats_nil, dats_d, dAdd_i, dSub_i, dMul_i, dIx_t, dIx_l, at0, at1, at2, dNeg_i, dTuple_l, dTuple_t, dList_l, dList_t, dInt_i, dLen_l, dLen_t, dPr_sz, dPr_pa, dPr_tk, dPr_lv, dPr_sk, ws_ls1', ws_ls2', wg_tp', ws_app', ws_ext', rdV_non, Option.map_some, List.length_cons, List.length_nil, Bool.not_true]
    refine isTable_wc hx.word ?_
    simp only [↓ws_seq, ↓ws_set, ↓ws_setL, ↓ws_setD, ↓ws_asg, ↓ws_ret, ↓ws_retN, ↓ws_if, ↓ws_skip, ↓ws_break, ↓ws_cont, ↓ws_never, ↓we_var, ↓we_C, ↓we_fn, ↓we_f2, ↓we_f1, ↓we_chain, ↓wb_tst, ↓wb_tru, ↓wb_and, ↓wb_or, ↓wb_not, ↓wb_yes, ↓we_andV, ↓we_orV, ↓we_notV, ↓we_if, ↓wa_nil, ↓wa_cons, ↓we_tup, ↓wl_lst, ↓we_ofL, ↓wl_it, ↓we_CB, ↓wl_CL, ↓we_call, ↓wg_nm, ↓wgs_nil, ↓wgs_cons, ↓ks_nx, ↓ks_rt, ↓ks_bk, ↓ks_ct, ↓kr_rt, ↓kr_nx, ↓kt_nx, ↓kt_ct, ↓kt_bk, ↓kt_rt, ↓wv_some, ↓wtst_b, ↓wif_t, ↓wif_f, ↓wif_not, ↓we_lenV, ↓we_ixV, ↓we_inV, ↓ws_setIx, ↓wo_none, ↓wo_some, ↓we_sl, ↓wd_disp1, ↓wt_nil, ↓wt_cons, ↓we_dispT, ↓we_make, ↓ws_lsSet1, ↓ws_lsSet2, ↓ws_for, ↓wl_lc, ↓wl_rng1', ↓wl_rng2', List.getElem?_cons_zero, List.getElem?_cons_succ, List.set_cons_zero, List.set_cons_succ, Option.bind_some, id, rdV_av, rdV_d, rdV_lp, rdV_fn, rdV_ft, rdV_fd, rdV_ml, rdV_md, lenOf_ml, lenOf_l, lenOf_t, datOf_d, mlOf_ml, lstOf_l, intOf_i, seqOf_t, seqOf_l, dCmp_i, isLp_lp, avIx_ml, avIx_l, avIx_t, wv_map, dMod_p, dDiv_p, dAdd_t, dAdd_l, rngOf_1, rngOf_2, Option.isSome_some, true_and, and_true, rng_nat', Int.toNat_natCast, wipeG_n, wipeG_c, wif_dec, dats_nil, dats_d, dAdd_i, dSub_i, dMul_i, dIx_t, dIx_l, at0, at1, at2, dNeg_i, dTuple_l, dTuple_t, dList_l, dList_t, dInt_i, dLen_l, dLen_t, dPr_sz, dPr_pa, dPr_tk, dPr_lv, dPr_sk, ws_ls1', ws_ls2', wg_tp', ws_app', ws_ext', rdV_non, Option.map_some, List.length_cons, List.length_nil, Bool.not_true]
    cases hp : x.press with
    | none =>
      have e : dIsNot (.d (eO none)) (.d .none) = some (.d (.bool false)) := rfl
      simp only [↓ws_seq, ↓ws_set, ↓ws_setL, ↓ws_setD, ↓ws_asg, ↓ws_ret, ↓ws_retN, ↓ws_if, ↓ws_skip, ↓ws_break, ↓ws_cont, ↓ws_never, ↓we_var, ↓we_C, ↓we_fn, ↓we_f2, ↓we_f1, ↓we_chain, ↓wb_tst, ↓wb_tru, ↓wb_and, ↓wb_or, ↓wb_not, ↓wb_yes, ↓we_andV, ↓we_orV, ↓we_notV, ↓we_if, ↓wa_nil, ↓wa_cons, ↓we_tup, ↓wl_lst, ↓we_ofL, ↓wl_it, ↓we_CB, ↓wl_CL, ↓we_call, ↓wg_nm, ↓wgs_nil, ↓wgs_cons, ↓ks_nx, ↓ks_rt, ↓ks_bk, ↓ks_ct, ↓kr_rt, ↓kr_nx, ↓kt_nx, ↓kt_ct, ↓kt_bk, ↓kt_rt, ↓wv_some, ↓wtst_b, ↓wif_t, ↓wif_f, ↓wif_not, ↓we_lenV, ↓we_ixV, ↓we_inV, ↓ws_setIx, ↓wo_none, ↓wo_some, ↓we_sl, ↓wd_disp1, ↓wt_nil, ↓wt_cons, ↓we_dispT, ↓we_make, ↓ws_lsSet1, ↓ws_lsSet2, ↓ws_for, ↓wl_lc, ↓wl_rng1', ↓wl_rng2', List.getElem?_cons_zero, List.getElem?_cons_succ, List.set_cons_zero, List.set_cons_succ, Option.bind_some, id, rdV_av, rdV_d, rdV_lp, rdV_fn, rdV_ft, rdV_fd, rdV_ml, rdV_md, lenOf_ml, lenOf_l, lenOf_t, datOf_d, mlOf_ml, lstOf_l, intOf_i, seqOf_t, seqOf_l, dCmp_i, isLp_lp, avIx_ml, avIx_l, avIx_t, wv_map, dMod_p, dDiv_p, dAdd_t, dAdd_l, rngOf_1, rngOf_2, Option.isSome_some, true_and, and_true, rng_nat', Int.toNat_natCast, wipeG_n, wipeG_c, wif_dec, dats_nil, dats_d, dAdd_i, dSub_i, dMul_i, dIx_t, dIx_l, at0, at1, at2, dNeg_i, dTuple_l, dTuple_t, dList_l, dList_t, dInt_i, dLen_l, dLen_t, dPr_sz, dPr_pa, dPr_tk, dPr_lv, dPr_sk, ws_ls1', ws_ls2', wg_tp', ws_app', ws_ext', rdV_non, Option.map_some, List.length_cons, List.length_nil, e]
      exact ⟨fun p hp => e1 p (List.mem_cons_of_mem _ hp), _, _, _, rfl⟩
    | some ch =>
      have e : dIsNot (.d (eO (some ch))) (.d .none) = some (.d (.bool true)) := rfl
      simp only [↓ws_seq, ↓ws_set, ↓ws_setL, ↓ws_setD, ↓ws_asg, ↓ws_ret, ↓ws_retN, ↓ws_if, ↓ws_skip, ↓ws_break, ↓ws_cont, ↓ws_never, ↓we_var, ↓we_C, ↓we_fn, ↓we_f2, ↓we_f1, ↓we_chain, ↓wb_tst, ↓wb_tru, ↓wb_and, ↓wb_or, ↓wb_not, ↓wb_yes, ↓we_andV, ↓we_orV, ↓we_notV, ↓we_if, ↓wa_nil, ↓wa_cons, ↓we_tup, ↓wl_lst, ↓we_ofL, ↓wl_it, ↓we_CB, ↓wl_CL, ↓we_call, ↓wg_nm, ↓wgs_nil, ↓wgs_cons, ↓ks_nx, ↓ks_rt, ↓ks_bk, ↓ks_ct, ↓kr_rt, ↓kr_nx, ↓kt_nx, ↓kt_ct, ↓kt_bk, ↓kt_rt, ↓wv_some, ↓wtst_b, ↓wif_t, ↓wif_f, ↓wif_not, ↓we_lenV, ↓we_ixV, ↓we_inV, ↓ws_setIx, ↓wo_none, ↓wo_some, ↓we_sl, ↓wd_disp1, ↓wt_nil, ↓wt_cons, ↓we_dispT, ↓we_make, ↓ws_lsSet1, ↓ws_lsSet2, ↓ws_for, ↓wl_lc, ↓wl_rng1', ↓wl_rng2', List.getElem?_cons_zero, List.getElem?_cons_succ, List.set_cons_zero, List.set_cons_succ, Option.bind_some, id, rdV_av, rdV_d, rdV_lp, rdV_fn, rdV_ft, rdV_fd, rdV_ml, rdV_md, lenOf_ml, lenOf_l, lenOf_t, datOf_d, mlOf_ml, lstOf_l, intOf_i, seqOf_t, seqOf_l, dCmp_i, isLp_lp, avIx_ml, avIx_l, avIx_t, wv_map, dMod_p, dDiv_p, dAdd_t, dAdd_l, rngOf_1, rngOf_2, Option.isSome_some, true_and, and_true, rng_nat', Int.toNat_natCast, wipeG_n, wipeG_c, wif_dec, dats_nil, dats_d, dAdd_i, dSub_i, dMul_i, dIx_t, dIx_l, at0, at1, at2, dNeg_i, dTuple_l, dTuple_t, dList_l, dList_t, dInt_i, dLen_l, dLen_t, dPr_sz, dPr_pa, dPr_tk, dPr_lv, dPr_sk, ws_ls1', ws_ls2', wg_tp', ws_app', ws_ext', rdV_non, Option.map_some, List.length_cons, List.length_nil, e]
      refine areChanges_wc (hx.press ch hp) ?_
      simp only [↓ws_seq, ↓ws_set, ↓ws_setL, ↓ws_setD, ↓ws_asg, ↓ws_ret, ↓ws_retN, ↓ws_if, ↓ws_skip, ↓ws_break, ↓ws_cont, ↓ws_never, ↓we_var, ↓we_C, ↓we_fn, ↓we_f2, ↓we_f1, ↓we_chain, ↓wb_tst, ↓wb_tru, ↓wb_and, ↓wb_or, ↓wb_not, ↓wb_yes, ↓we_andV, ↓we_orV, ↓we_notV, ↓we_if, ↓wa_nil, ↓wa_cons, ↓we_tup, ↓wl_lst, ↓we_ofL, ↓wl_it, ↓we_CB, ↓wl_CL, ↓we_call, ↓wg_nm, ↓wgs_nil, ↓wgs_cons, ↓ks_nx, ↓ks_rt, ↓ks_bk, ↓ks_ct, ↓kr_rt, ↓kr_nx, ↓kt_nx, ↓kt_ct, ↓kt_bk, ↓kt_rt, ↓wv_some, ↓wtst_b, ↓wif_t, ↓wif_f, ↓wif_not, ↓we_lenV, ↓we_ixV, ↓we_inV, ↓ws_setIx, ↓wo_none, ↓wo_some, ↓we_sl, ↓wd_disp1, ↓wt_nil, ↓wt_cons, ↓we_dispT, ↓we_make, ↓ws_lsSet1, ↓ws_lsSet2, ↓ws_for, ↓wl_lc, ↓wl_rng1', ↓wl_rng2', List.getElem?_cons_zero, List.getElem?_cons_succ, List.set_cons_zero, List.set_cons_succ, Option.bind_some, id, rdV_av, rdV_d, rdV_lp, rdV_fn, rdV_ft, rdV_fd, rdV_ml, rdV_md, lenOf_ml, lenOf_l, lenOf_t, datOf_d, mlOf_ml, lstOf_l, intOf_i, seqOf_t, seqOf_l, dCmp_i, isLp_lp, avIx_ml, avIx_l, avIx_t, wv_map, dMod_p, dDiv_p, dAdd_t, dAdd_l, rngOf_1, rngOf_2, Option.isSome_some, true_and, and_true, rng_nat', Int.toNat_natCast, wipeG_n, wipeG_c, wif_dec, dats_nil, dats_d, dAdd_i, dSub_i, dMul_i, dIx_t, dIx_l, at0, at1, at2, dNeg_i, dTuple_l, dTuple_t, dList_l, dList_t, dInt_i, dLen_l, dLen_t, dPr_sz, dPr_pa, dPr_tk, dPr_lv, dPr_sk, ws_ls1', ws_ls2', wg_tp', ws_app', ws_ext', rdV_non, Option.map_some, List.length_cons, List.length_nil, Bool.not_true]
      exact ⟨fun p hp => e1 p (List.mem_cons_of_mem _ hp), _, _, _, rfl⟩
  · rintro s ⟨e1, a, b, c, rfl⟩
    simp only [↓ws_seq, ↓ws_set, ↓ws_setL, ↓ws_setD, ↓ws_asg, ↓ws_ret, ↓ws_retN, ↓ws_if, ↓ws_skip, ↓ws_break, ↓ws_cont, ↓ws_never, ↓we_var, ↓we_C, ↓we_fn, ↓we_f2, ↓we_f1, ↓we_chain, ↓wb_tst, ↓wb_tru, ↓wb_and, ↓wb_or, ↓wb_not, ↓wb_yes, ↓we_andV, ↓we_orV, ↓we_notV, ↓we_if, ↓wa_nil, ↓wa_cons, ↓we_tup, ↓wl_lst, ↓we_ofL, ↓wl_it, ↓we_CB, ↓wl_CL, ↓we_call, ↓wg_nm, ↓wgs_nil, ↓wgs_cons, ↓ks_nx, ↓ks_rt, ↓ks_bk, ↓ks_ct, ↓kr_rt, ↓kr_nx, ↓kt_nx, ↓kt_ct, ↓kt_bk, ↓kt_rt, ↓wv_some, ↓wtst_b, ↓wif_t, ↓wif_f, ↓wif_not, ↓we_lenV, ↓we_ixV, ↓we_inV, ↓ws_setIx, ↓wo_none, ↓wo_some, ↓we_sl, ↓wd_disp1, ↓wt_nil, ↓wt_cons, ↓we_dispT, ↓we_make, ↓ws_lsSet1, ↓ws_lsSet2, ↓ws_for, ↓wl_lc, ↓wl_rng1', ↓wl_rng2', List.getElem?_cons_zero, List.getElem?_cons_succ, List.set_cons_zero, List.set_cons_succ, Option.bind_some, id, rdV_av, rdV_d, rdV_lp, rdV_fn, rdV_ft, rdV_fd, rdV_ml, rdV_md, lenOf_ml, lenOf_l, lenOf_t, datOf_d, mlOf_ml, lstOf_l, intOf_i, seqOf_t, seqOf_l, dCmp_i, isLp_lp, avIx_ml, avIx_l, avIx_t, wv_map, dMod_p, dDiv_p, dAdd_t, dAdd_l, rngOf_1, rngOf_2, Option.isSome_some, true_and, and_true, rng_nat', Int.toNat_natCast, wipeG_n, wipeG_c, wif_dec, dats_nil, dats_d, dAdd_i, dSub_i, dMul_i, dIx_t, dIx_l, at0, at1, at2, dNeg_i, dTuple_l, dTuple_t, dList_l, dList_t, dInt_i, dLen_l, dLen_t, dPr_sz, dPr_pa, dPr_tk, dPr_lv, dPr_sk, ws_ls1', ws_ls2', wg_tp', ws_app', ws_ext', rdV_non, Option.map_some, List.length_cons, List.length_nil]
    exact q
theorem areIndexes_wc {A : Ad} {l : LS} {xs : List Nat} {n : Nat} {Q : AV → LS → Prop} (h : ∀ x ∈ xs, x < n) (hp : xs.Pairwise (· < ·)) (q : Q (.d (.bool true)) l) : WC (g_are_indexes A) [.d (eNs xs), .d (eN n)] l Q := by
  unfold g_are_indexes b_are_indexes
  rw [wc_den, enter_eq]
  simp only [List.map_cons, List.map_nil, List.length_cons, List.length_nil, List.replicate, List.cons_append, List.nil_append, Nat.reduceAdd, Nat.reduceSub]
  simp only [↓ws_seq, ↓ws_set, ↓ws_setL, ↓ws_setD, ↓ws_asg, ↓ws_ret, ↓ws_retN, ↓ws_if, ↓ws_skip, ↓ws_break, ↓ws_cont, ↓ws_never, ↓we_var, ↓we_C, ↓we_fn, ↓we_f2, ↓we_f1, ↓we_chain, ↓wb_tst, ↓wb_tru, ↓wb_and, ↓wb_or, ↓wb_not, ↓wb_yes, ↓we_andV, ↓we_orV, ↓we_notV, ↓we_if, ↓wa_nil, ↓wa_cons, ↓we_tup, ↓wl_lst, ↓we_ofL, ↓wl_it, ↓we_CB, ↓wl_CL, ↓we_call, ↓wg_nm, ↓wgs_nil, ↓wgs_cons, ↓ks_nx, ↓ks_rt, ↓ks_bk, ↓ks_ct, ↓kr_rt, ↓kr_nx, ↓kt_nx, ↓kt_ct, ↓kt_bk, ↓kt_rt, ↓wv_some, ↓wtst_b, ↓wif_t, ↓wif_f, ↓wif_not, ↓we_lenV, ↓we_ixV, ↓we_inV, ↓ws_setIx, ↓wo_none, ↓wo_some, ↓we_sl, ↓wd_disp1, ↓wt_nil, ↓wt_cons, ↓we_dispT, ↓we_make, ↓ws_lsSet1, ↓ws_lsSet2, ↓ws_for, ↓wl_lc, ↓wl_rng1', ↓wl_rng2', List.getElem?_cons_zero, List.getElem?_cons_succ, List.set_cons_zero, List.set_cons_succ, Option.bind_some, id, rdV_av, rdV_d, rdV_lp, rdV_fn, rdV_ft, rdV_fd, rdV_ml, rdV_md, lenOf_ml, lenOf_l, lenOf_t, datOf_d, mlOf_ml, lstOf_l, intOf_i, seqOf_t, seqOf_l, dCmp_i, isLp_lp, avIx_ml, avIx_l, avIx_t, wv_map, dMod_p, dDiv_p, dAdd_t, dAdd_l, rngOf_1, rngOf_2, Option.isSome_some, true_and, and_true, rng_nat', Int.toNat_natCast, wipeG_n, wipeG_c, wif_dec, dats_nil, dats_d, dAdd_i, dSub_i, dMul_i, dIx_t, dIx_l, at0, at1, at2, dNeg_i, dTuple_l, dTuple_t, dList_l, dList_t, dInt_i, dLen_l, dLen_t, dPr_sz, dPr_pa, dPr_tk, dPr_lv, dPr_sk, ws_ls1', ws_ls2', wg_tp', ws_app', ws_ext', rdV_non, Option.map_some, List.length_cons, List.length_nil]
  refine ws_forGo eN (fun done rest s => (∀ p ∈ rest, p < n) ∧ rest.Pairwise (· < ·) ∧ ∃ (k : Int) (a : Option AV), (∀ p ∈ rest, k < (p : Int)) ∧ s = ⟨[some (.d (eNs xs)), some (.d (eN n)), some (.d (.int k)), a], l⟩) xs [] _ ⟨h, hp, -1, none, fun p hp => by omega, rfl⟩ ?_ ?_
  · rintro done x rest s ⟨e1, e2, k, a, e3, rfl⟩
    have hx := e1 x List.mem_cons_self
    have hk := e3 x List.mem_cons_self
    simp only [↓ws_seq, ↓ws_set, ↓ws_setL, ↓ws_setD, ↓ws_asg, ↓ws_ret, ↓ws_retN, ↓ws_if, ↓ws_skip, ↓ws_break, ↓ws_cont, ↓ws_never, ↓we_var, ↓we_C, ↓we_fn, ↓we_f2, ↓we_f1, ↓we_chain, ↓wb_tst, ↓wb_tru, ↓wb_and, ↓wb_or, ↓wb_not, ↓wb_yes, ↓we_andV, ↓we_orV, ↓we_notV, ↓we_if, ↓wa_nil, ↓wa_cons, ↓we_tup, ↓wl_lst, ↓we_ofL, ↓wl_it, ↓we_CB, ↓wl_CL, ↓we_call, ↓wg_nm, ↓wgs_nil, ↓wgs_cons, ↓ks_nx, ↓ks_rt, ↓ks_bk, ↓ks_ct, ↓kr_rt, ↓kr_nx, ↓kt_nx, ↓kt_ct, ↓kt_bk, ↓kt_rt, ↓wv_some, ↓wtst_b, ↓wif_t, ↓wif_f, ↓wif_not, ↓we_lenV, ↓we_ixV, ↓we_inV, ↓ws_setIx, ↓wo_none, ↓wo_some, ↓we_sl, ↓wd_disp1, ↓wt_nil, ↓wt_cons, ↓we_dispT, ↓we_make, ↓ws_lsSet1, ↓ws_lsSet2, ↓ws_for, ↓wl_lc, ↓wl_rng1', ↓wl_rng2', List.getElem?_cons_zero, List.getElem?_cons_succ, List.set_cons_zero, List.set_cons_succ, Option.bind_some, id, rdV_av, rdV_d, rdV_lp, rdV_fn, rdV_ft, rdV_fd, rdV_ml, rdV_md, lenOf_ml, lenOf_l, lenOf_t, datOf_d, mlOf_ml, lstOf_l, intOf_i, seqOf_t, seqOf_l, dCmp_i, isLp_lp, avIx_ml, avIx_l, avIx_t, wv_map, dMod_p, dDiv_p, dAdd_t, dAdd_l, rngOf_1, rngOf_2, Option.isSome_some, true_and, and_true, rng_nat', Int.toNat_natCast, wipeG_n, wipeG_c, wif_dec, dats_nil, dats_d, dAdd_i, dSub_i, dMul_i, dIx_t, dIx_l, at0, at1, at2, dNeg_i, dTuple_l, dTuple_t, dList_l, dList_t, dInt_i, dLen_l, dLen_t, dPr_sz, dPr_pa, dPr_tk, dPr_lv, dPr_sk, ws_ls1', ws_ls2', wg_tp', ws_app', ws_ext', rdV_non, Option.map_some, List.length_cons, List.length_nil]
    refine isNumber_wc (by omega) (by omega) ?_
    simp only [↓ws_seq, ↓ws_set, ↓ws_setL, ↓ws_setD, ↓ws_asg, ↓ws_ret, ↓ws_retN, ↓ws_if, ↓ws_skip, ↓ws_break, ↓ws_cont, ↓ws_never, ↓we_var, ↓we_C, ↓we_fn, ↓we_f2, ↓we_f1, ↓we_chain, ↓wb_tst, ↓wb_tru, ↓wb_and, ↓wb_or, ↓wb_not, ↓wb_yes, ↓we_andV, ↓we_orV, ↓we_notV, ↓we_if, ↓wa_nil, ↓wa_cons, ↓we_tup, ↓wl_lst, ↓we_ofL, ↓wl_it, ↓we_CB, ↓wl_CL, ↓we_call, ↓wg_nm, ↓wgs_nil, ↓wgs_cons, ↓ks_nx, ↓ks_rt, ↓ks_bk, ↓ks_ct, ↓kr_rt, ↓kr_nx, ↓kt_nx, ↓kt_ct, ↓kt_bk, ↓kt_rt, ↓wv_some, ↓wtst_b, ↓wif_t, ↓wif_f, ↓wif_not, ↓we_lenV, ↓we_ixV, ↓we_inV, ↓ws_setIx, ↓wo_none, ↓wo_some, ↓we_sl, ↓wd_disp1, ↓wt_nil, ↓wt_cons, ↓we_dispT, ↓we_make, ↓ws_lsSet1, ↓ws_lsSet2, ↓ws_for, ↓wl_lc, ↓wl_rng1', ↓wl_rng2', List.getElem?_cons_zero, List.getElem?_cons_succ, List.set_cons_zero, List.set_cons_succ, Option.bind_some, id, rdV_av, rdV_d, rdV_lp, rdV_fn, rdV_ft, rdV_fd, rdV_ml, rdV_md, lenOf_ml, lenOf_l, lenOf_t, datOf_d, mlOf_ml, lstOf_l, intOf_i, seqOf_t, seqOf_l, dCmp_i, isLp_lp, avIx_ml, avIx_l, avIx_t, wv_map, dMod_p, dDiv_p, dAdd_t, dAdd_l, rngOf_1, rngOf_2, Option.isSome_some, true_and, and_true, rng_nat', Int.toNat_natCast, wipeG_n, wipeG_c, wif_dec, dats_nil, dats_d, dAdd_i, dSub_i, dMul_i, dIx_t, dIx_l, at0, at1, at2, dNeg_i, dTuple_l, dTuple_t, dList_l, dList_t, dInt_i, dLen_l, dLen_t, dPr_sz, dPr_pa, dPr_tk, dPr_lv, dPr_sk, ws_ls1', ws_ls2', wg_tp', ws_app', ws_ext', rdV_non, Option.map_some, List.length_cons, List.length_nil, Bool.not_true]
    obtain ⟨e4, e5⟩ := List.pairwise_cons.mp e2
    exact ⟨fun p hp => e1 p (List.mem_cons_of_mem _ hp), e5, _, _, fun p hp => by have := e4 p hp; omega, rfl⟩
  · rintro s ⟨e1, e2, k, a, e3, rfl⟩
    simp only [↓ws_seq, ↓ws_set, ↓ws_setL, ↓ws_setD, ↓ws_asg, ↓ws_ret, ↓ws_retN, ↓ws_if, ↓ws_skip, ↓ws_break, ↓ws_cont, ↓ws_never, ↓we_var, ↓we_C, ↓we_fn, ↓we_f2, ↓we_f1, ↓we_chain, ↓wb_tst, ↓wb_tru, ↓wb_and, ↓wb_or, ↓wb_not, ↓wb_yes, ↓we_andV, ↓we_orV, ↓we_notV, ↓we_if, ↓wa_nil, ↓wa_cons, ↓we_tup, ↓wl_lst, ↓we_ofL, ↓wl_it, ↓we_CB, ↓wl_CL, ↓we_call, ↓wg_nm, ↓wgs_nil, ↓wgs_cons, ↓ks_nx, ↓ks_rt, ↓ks_bk, ↓ks_ct, ↓kr_rt, ↓kr_nx, ↓kt_nx, ↓kt_ct, ↓kt_bk, ↓kt_rt, ↓wv_some, ↓wtst_b, ↓wif_t, ↓wif_f, ↓wif_not, ↓we_lenV, ↓we_ixV, ↓we_inV, ↓ws_setIx, ↓wo_none, ↓wo_some, ↓we_sl, ↓wd_disp1, ↓wt_nil, ↓wt_cons, ↓we_dispT, ↓we_make, ↓ws_lsSet1, ↓ws_lsSet2, ↓ws_for, ↓wl_lc, ↓wl_rng1', ↓wl_rng2', List.getElem?_cons_zero, List.getElem?_cons_succ, List.set_cons_zero, List.set_cons_succ, Option.bind_some, id, rdV_av, rdV_d, rdV_lp, rdV_fn, rdV_ft, rdV_fd, rdV_ml, rdV_md, lenOf_ml, lenOf_l, lenOf_t, datOf_d, mlOf_ml, lstOf_l, intOf_i, seqOf_t, seqOf_l, dCmp_i, isLp_lp, avIx_ml, avIx_l, avIx_t, wv_map, dMod_p, dDiv_p, dAdd_t, dAdd_l, rngOf_1, rngOf_2, Option.isSome_some, true_and, and_true, rng_nat', Int.toNat_natCast, wipeG_n, wipeG_c, wif_dec, dats_nil, dats_d, dAdd_i, dSub_i, dMul_i, dIx_t, dIx_l, at0, at1, at2, dNeg_i, dTuple_l, dTuple_t, dList_l, dList_t, dInt_i, dLen_l, dLen_t, dPr_sz, dPr_pa, dPr_tk, dPr_lv, dPr_sk, ws_ls1', ws_ls2', wg_tp', ws_app', ws_ext', rdV_non, Option.map_some, List.length_cons, List.length_nil]
    exact q
end Pu

set_option Elab.async false
set_option linter.all false
set_option maxRecDepth 100000
set_option maxHeartbeats 1000000
/-! Pu, part J: the making of a program of the law. -/
namespace Pu
open PySem Tk Tk.W
theorem tupsOf_tk (ts : List Ch) : tupsOf (ts.map ePs) = some (ts.map fun c => c.map eP) := by
  induction ts with
  | nil => rfl
  | cons x xs ih => show (tupsOf (xs.map ePs)).map _ = _; rw [ih]; rfl
theorem tupIs_eN (xs : List Nat) : tupIs (xs.map eN) = true := by
  induction xs with
  | nil => rfl
  | cons x xs ih => show (tupI (eN x) && tupIs (xs.map eN)) = true; rw [ih]; rfl
theorem allCh_wb {A : S → Prop} {s : S} {P : Pg} {Q : AV → S → Prop} (h : PgOk P) (h3 : s.Γ[3]? = some (some (.d (eTks P.tk)))) (h1 : s.Γ[1]? = some (some (.d (eNs P.sz)))) (q : Q (.d (.bool true)) s) : WE (fAllCh (fVar 3) 1) s Q := by
  have hb := line_big
  have s3 := h.s3
  refine WV.of (r := (.d (.bool true), s)) ?_ (show Q _ _ from q)
  unfold fAllCh
  have e1 : fVar 3 s = some (.d (eTks P.tk), s) := by rw [fVar_eq, h3]; rfl
  have c1 : (P.tk.map fun c => c.map eP).all chForm = true := by
    rw [List.all_eq_true]
    intro x hx
    obtain ⟨c, hc, rfl⟩ := List.mem_map.mp hx
    have := (h.tk c hc).u
    unfold chForm
    rw [Bool.and_eq_true]
    refine ⟨by simp; omega, ?_⟩
    rw [List.all_eq_true]
    intro y hy
    obtain ⟨p, hp, rfl⟩ := List.mem_map.mp hy
    rfl
  have c2 : (P.tk.map fun c => c.map eP).all (fun cs => chsOk (P.sz.map eN).length cs) = true := by
    rw [List.all_eq_true]
    intro x hx
    obtain ⟨c, hc, rfl⟩ := List.mem_map.mp hx
    have h1 := (h.tk c hc).u
    have h2 := (h.tk c hc).l
    unfold chsOk inR
    simp only [Bool.and_eq_true, decide_eq_true_eq, List.length_map]
    refine ⟨⟨by omega, by omega⟩, ?_⟩
    rw [List.all_eq_true]
    intro y hy
    obtain ⟨p, hp, rfl⟩ := List.mem_map.mp hy
    have := (h.tk c hc).c p hp
    show (inR 0 (p.1 : Nat) _ && inR 1 (p.2 : Nat) 3) = true
    simp only [inR, Bool.and_eq_true, decide_eq_true_eq]
    omega
  rw [e1]
  simp only [h1, tupsOf_tk, tupIs_eN, c1, c2, List.length_map, true_and, and_true]
  rw [List.length_map] at c2
  rw [if_pos (by omega), c2]
theorem okPr_ok {A : Ad} {P : Pg} (h : PgOk P) : okPr A (eNs P.sz) (ePts P.pa) (eTks P.tk) (eNs P.lv) (eNs P.sk) = true := by
  refine @decide_eq_true (PrOk 6 (chk_init A) _ _ _ _ _) (_) ?_
  intro x g
  have s1 := h.s1
  have s3 := h.s3
  have t2 := h.t2
  have key : WS (chk_init A) (enter 6 [.fn x, .d (eNs P.sz), .d (ePts P.pa), .d (eTks P.tk), .d (eNs P.lv), .d (eNs P.sk)] g) fun o => o = .nx ⟨[some (.fn x), some (.d (eNs P.sz)), some (.d (ePts P.pa)), some (.d (eTks P.tk)), some (.d (eNs P.lv)), some (.d (eNs P.sk))], g⟩ := by
    unfold chk_init
    rw [enter_eq]
    simp only [List.map_cons, List.map_nil, List.length_cons, List.length_nil, List.replicate, List.cons_append, List.nil_append, Nat.reduceAdd, Nat.reduceSub, List.append_nil]
    have e1 : (1 : Int) ≤ (P.sz.length : Nat) := by omega
    have e2 : ((P.sz.length : Nat) : Int) ≤ 3 := by omega
    have e3 : ¬ ((2 : Int) < (P.tk.length : Nat)) := by omega
    simp only [↓ws_seq, ↓ws_set, ↓ws_setL, ↓ws_setD, ↓ws_asg, ↓ws_ret, ↓ws_retN, ↓ws_if, ↓ws_skip, ↓ws_break, ↓ws_cont, ↓ws_never, ↓we_var, ↓we_C, ↓we_fn, ↓we_f2, ↓we_f1, ↓we_chain, ↓wb_tst, ↓wb_tru, ↓wb_and, ↓wb_or, ↓wb_not, ↓wb_yes, ↓we_andV, ↓we_orV, ↓we_notV, ↓we_if, ↓wa_nil, ↓wa_cons, ↓we_tup, ↓wl_lst, ↓we_ofL, ↓wl_it, ↓we_CB, ↓wl_CL, ↓we_call, ↓wg_nm, ↓wgs_nil, ↓wgs_cons, ↓ks_nx, ↓ks_rt, ↓ks_bk, ↓ks_ct, ↓kr_rt, ↓kr_nx, ↓kt_nx, ↓kt_ct, ↓kt_bk, ↓kt_rt, ↓wv_some, ↓wtst_b, ↓wif_t, ↓wif_f, ↓wif_not, ↓we_lenV, ↓we_ixV, ↓we_inV, ↓ws_setIx, ↓wo_none, ↓wo_some, ↓we_sl, ↓wd_disp1, ↓wt_nil, ↓wt_cons, ↓we_dispT, ↓we_make, ↓ws_lsSet1, ↓ws_lsSet2, ↓ws_for, ↓wl_lc, ↓wl_rng1', ↓wl_rng2', List.getElem?_cons_zero, List.getElem?_cons_succ, List.set_cons_zero, List.set_cons_succ, Option.bind_some, id, rdV_av, rdV_d, rdV_lp, rdV_fn, rdV_ft, rdV_fd, rdV_ml, rdV_md, lenOf_ml, lenOf_l, lenOf_t, datOf_d, mlOf_ml, lstOf_l, intOf_i, seqOf_t, seqOf_l, dCmp_i, isLp_lp, avIx_ml, avIx_l, avIx_t, wv_map, dMod_p, dDiv_p, dAdd_t, dAdd_l, rngOf_1, rngOf_2, Option.isSome_some, ↓reduceIte, true_and, and_true, rng_nat', Int.toNat_natCast, wipeG_n, wipeG_c, wif_dec, dats_nil, dats_d, dAdd_i, dSub_i, dMul_i, dIx_t, dIx_l, at0, at1, at2, dNeg_i, dTuple_l, dTuple_t, dList_l, dList_t, dInt_i, dLen_l, dLen_t, dPr_sz, dPr_pa, dPr_tk, dPr_lv, dPr_sk, ws_ls1', ws_ls2', wg_tp', ws_app', ws_ext', rdV_non, Option.map_some, List.length_cons, List.length_nil, List.length_map, e1, e2, decide_true, Bool.not_true]
    refine areNumbers_wc (a := 2) (b := 4) (fun x hx => by have := h.sz x hx; omega) ?_
    simp only [↓ws_seq, ↓ws_set, ↓ws_setL, ↓ws_setD, ↓ws_asg, ↓ws_ret, ↓ws_retN, ↓ws_if, ↓ws_skip, ↓ws_break, ↓ws_cont, ↓ws_never, ↓we_var, ↓we_C, ↓we_fn, ↓we_f2, ↓we_f1, ↓we_chain, ↓wb_tst, ↓wb_tru, ↓wb_and, ↓wb_or, ↓wb_not, ↓wb_yes, ↓we_andV, ↓we_orV, ↓we_notV, ↓we_if, ↓wa_nil, ↓wa_cons, ↓we_tup, ↓wl_lst, ↓we_ofL, ↓wl_it, ↓we_CB, ↓wl_CL, ↓we_call, ↓wg_nm, ↓wgs_nil, ↓wgs_cons, ↓ks_nx, ↓ks_rt, ↓ks_bk, ↓ks_ct, ↓kr_rt, ↓kr_nx, ↓kt_nx, ↓kt_ct, ↓kt_bk, ↓kt_rt, ↓wv_some, ↓wtst_b, ↓wif_t, ↓wif_f, ↓wif_not, ↓we_lenV, ↓we_ixV, ↓we_inV, ↓ws_setIx, ↓wo_none, ↓wo_some, ↓we_sl, ↓wd_disp1, ↓wt_nil, ↓wt_cons, ↓we_dispT, ↓we_make, ↓ws_lsSet1, ↓ws_lsSet2, ↓ws_for, ↓wl_lc, ↓wl_rng1', ↓wl_rng2', List.getElem?_cons_zero, List.getElem?_cons_succ, List.set_cons_zero, List.set_cons_succ, Option.bind_some, id, rdV_av, rdV_d, rdV_lp, rdV_fn, rdV_ft, rdV_fd, rdV_ml, rdV_md, lenOf_ml, lenOf_l, lenOf_t, datOf_d, mlOf_ml, lstOf_l, intOf_i, seqOf_t, seqOf_l, dCmp_i, isLp_lp, avIx_ml, avIx_l, avIx_t, wv_map, dMod_p, dDiv_p, dAdd_t, dAdd_l, rngOf_1, rngOf_2, Option.isSome_some, ↓reduceIte, true_and, and_true, rng_nat', Int.toNat_natCast, wipeG_n, wipeG_c, wif_dec, dats_nil, dats_d, dAdd_i, dSub_i, dMul_i, dIx_t, dIx_l, at0, at1, at2, dNeg_i, dTuple_l, dTuple_t, dList_l, dList_t, dInt_i, dLen_l, dLen_t, dPr_sz, dPr_pa, dPr_tk, dPr_lv, dPr_sk, ws_ls1', ws_ls2', wg_tp', ws_app', ws_ext', rdV_non, Option.map_some, List.length_cons, List.length_nil, Bool.not_true]
    refine areParts_wc h ?_
    simp only [↓ws_seq, ↓ws_set, ↓ws_setL, ↓ws_setD, ↓ws_asg, ↓ws_ret, ↓ws_retN, ↓ws_if, ↓ws_skip, ↓ws_break, ↓ws_cont, ↓ws_never, ↓we_var, ↓we_C, ↓we_fn, ↓we_f2, ↓we_f1, ↓we_chain, ↓wb_tst, ↓wb_tru, ↓wb_and, ↓wb_or, ↓wb_not, ↓wb_yes, ↓we_andV, ↓we_orV, ↓we_notV, ↓we_if, ↓wa_nil, ↓wa_cons, ↓we_tup, ↓wl_lst, ↓we_ofL, ↓wl_it, ↓we_CB, ↓wl_CL, ↓we_call, ↓wg_nm, ↓wgs_nil, ↓wgs_cons, ↓ks_nx, ↓ks_rt, ↓ks_bk, ↓ks_ct, ↓kr_rt, ↓kr_nx, ↓kt_nx, ↓kt_ct, ↓kt_bk, ↓kt_rt, ↓wv_some, ↓wtst_b, ↓wif_t, ↓wif_f, ↓wif_not, ↓we_lenV, ↓we_ixV, ↓we_inV, ↓ws_setIx, ↓wo_none, ↓wo_some, ↓we_sl, ↓wd_disp1, ↓wt_nil, ↓wt_cons, ↓we_dispT, ↓we_make, ↓ws_lsSet1, ↓ws_lsSet2, ↓ws_for, ↓wl_lc, ↓wl_rng1', ↓wl_rng2', List.getElem?_cons_zero, List.getElem?_cons_succ, List.set_cons_zero, List.set_cons_succ, Option.bind_some, id, rdV_av, rdV_d, rdV_lp, rdV_fn, rdV_ft, rdV_fd, rdV_ml, rdV_md, lenOf_ml, lenOf_l, lenOf_t, datOf_d, mlOf_ml, lstOf_l, intOf_i, seqOf_t, seqOf_l, dCmp_i, isLp_lp, avIx_ml, avIx_l, avIx_t, wv_map, dMod_p, dDiv_p, dAdd_t, dAdd_l, rngOf_1, rngOf_2, Option.isSome_some, ↓reduceIte, true_and, and_true, rng_nat', Int.toNat_natCast, wipeG_n, wipeG_c, wif_dec, dats_nil, dats_d, dAdd_i, dSub_i, dMul_i, dIx_t, dIx_l, at0, at1, at2, dNeg_i, dTuple_l, dTuple_t, dList_l, dList_t, dInt_i, dLen_l, dLen_t, dPr_sz, dPr_pa, dPr_tk, dPr_lv, dPr_sk, ws_ls1', ws_ls2', wg_tp', ws_app', ws_ext', rdV_non, Option.map_some, List.length_cons, List.length_nil, List.length_map, Bool.not_true, e3, decide_false]
    refine allCh_wb (A := fun _ => True) h rfl rfl ?_
    simp only [↓ws_seq, ↓ws_set, ↓ws_setL, ↓ws_setD, ↓ws_asg, ↓ws_ret, ↓ws_retN, ↓ws_if, ↓ws_skip, ↓ws_break, ↓ws_cont, ↓ws_never, ↓we_var, ↓we_C, ↓we_fn, ↓we_f2, ↓we_f1, ↓we_chain, ↓wb_tst, ↓wb_tru, ↓wb_and, ↓wb_or, ↓wb_not, ↓wb_yes, ↓we_andV, ↓we_orV, ↓we_notV, ↓we_if, ↓wa_nil, ↓wa_cons, ↓we_tup, ↓wl_lst, ↓we_ofL, ↓wl_it, ↓we_CB, ↓wl_CL, ↓we_call, ↓wg_nm, ↓wgs_nil, ↓wgs_cons, ↓ks_nx, ↓ks_rt, ↓ks_bk, ↓ks_ct, ↓kr_rt, ↓kr_nx, ↓kt_nx, ↓kt_ct, ↓kt_bk, ↓kt_rt, ↓wv_some, ↓wtst_b, ↓wif_t, ↓wif_f, ↓wif_not, ↓we_lenV, ↓we_ixV, ↓we_inV, ↓ws_setIx, ↓wo_none, ↓wo_some, ↓we_sl, ↓wd_disp1, ↓wt_nil, ↓wt_cons, ↓we_dispT, ↓we_make, ↓ws_lsSet1, ↓ws_lsSet2, ↓ws_for, ↓wl_lc, ↓wl_rng1', ↓wl_rng2', List.getElem?_cons_zero, List.getElem?_cons_succ, List.set_cons_zero, List.set_cons_succ, Option.bind_some, id, rdV_av, rdV_d, rdV_lp, rdV_fn, rdV_ft, rdV_fd, rdV_ml, rdV_md, lenOf_ml, lenOf_l, lenOf_t, datOf_d, mlOf_ml, lstOf_l, intOf_i, seqOf_t, seqOf_l, dCmp_i, isLp_lp, avIx_ml, avIx_l, avIx_t, wv_map, dMod_p, dDiv_p, dAdd_t, dAdd_l, rngOf_1, rngOf_2, Option.isSome_some, ↓reduceIte, true_and, and_true, rng_nat', Int.toNat_natCast, wipeG_n, wipeG_c, wif_dec, dats_nil, dats_d, dAdd_i, dSub_i, dMul_i, dIx_t, dIx_l, at0, at1, at2, dNeg_i, dTuple_l, dTuple_t, dList_l, dList_t, dInt_i, dLen_l, dLen_t, dPr_sz, dPr_pa, dPr_tk, dPr_lv, dPr_sk, ws_ls1', ws_ls2', wg_tp', ws_app', ws_ext', rdV_non, Option.map_some, List.length_cons, List.length_nil, List.length_map, Bool.not_true]
    refine areIndexes_wc h.lv h.lvn ?_
    simp only [↓ws_seq, ↓ws_set, ↓ws_setL, ↓ws_setD, ↓ws_asg, ↓ws_ret, ↓ws_retN, ↓ws_if, ↓ws_skip, ↓ws_break, ↓ws_cont, ↓ws_never, ↓we_var, ↓we_C, ↓we_fn, ↓we_f2, ↓we_f1, ↓we_chain, ↓wb_tst, ↓wb_tru, ↓wb_and, ↓wb_or, ↓wb_not, ↓wb_yes, ↓we_andV, ↓we_orV, ↓we_notV, ↓we_if, ↓wa_nil, ↓wa_cons, ↓we_tup, ↓wl_lst, ↓we_ofL, ↓wl_it, ↓we_CB, ↓wl_CL, ↓we_call, ↓wg_nm, ↓wgs_nil, ↓wgs_cons, ↓ks_nx, ↓ks_rt, ↓ks_bk, ↓ks_ct, ↓kr_rt, ↓kr_nx, ↓kt_nx, ↓kt_ct, ↓kt_bk, ↓kt_rt, ↓wv_some, ↓wtst_b, ↓wif_t, ↓wif_f, ↓wif_not, ↓we_lenV, ↓we_ixV, ↓we_inV, ↓ws_setIx, ↓wo_none, ↓wo_some, ↓we_sl, ↓wd_disp1, ↓wt_nil, ↓wt_cons, ↓we_dispT, ↓we_make, ↓ws_lsSet1, ↓ws_lsSet2, ↓ws_for, ↓wl_lc, ↓wl_rng1', ↓wl_rng2', List.getElem?_cons_zero, List.getElem?_cons_succ, List.set_cons_zero, List.set_cons_succ, Option.bind_some, id, rdV_av, rdV_d, rdV_lp, rdV_fn, rdV_ft, rdV_fd, rdV_ml, rdV_md, lenOf_ml, lenOf_l, lenOf_t, datOf_d, mlOf_ml, lstOf_l, intOf_i, seqOf_t, seqOf_l, dCmp_i, isLp_lp, avIx_ml, avIx_l, avIx_t, wv_map, dMod_p, dDiv_p, dAdd_t, dAdd_l, rngOf_1, rngOf_2, Option.isSome_some, ↓reduceIte, true_and, and_true, rng_nat', Int.toNat_natCast, wipeG_n, wipeG_c, wif_dec, dats_nil, dats_d, dAdd_i, dSub_i, dMul_i, dIx_t, dIx_l, at0, at1, at2, dNeg_i, dTuple_l, dTuple_t, dList_l, dList_t, dInt_i, dLen_l, dLen_t, dPr_sz, dPr_pa, dPr_tk, dPr_lv, dPr_sk, ws_ls1', ws_ls2', wg_tp', ws_app', ws_ext', rdV_non, Option.map_some, List.length_cons, List.length_nil, List.length_map, Bool.not_true]
    refine areIndexes_wc h.sk h.skn ?_
    simp only [↓ws_seq, ↓ws_set, ↓ws_setL, ↓ws_setD, ↓ws_asg, ↓ws_ret, ↓ws_retN, ↓ws_if, ↓ws_skip, ↓ws_break, ↓ws_cont, ↓ws_never, ↓we_var, ↓we_C, ↓we_fn, ↓we_f2, ↓we_f1, ↓we_chain, ↓wb_tst, ↓wb_tru, ↓wb_and, ↓wb_or, ↓wb_not, ↓wb_yes, ↓we_andV, ↓we_orV, ↓we_notV, ↓we_if, ↓wa_nil, ↓wa_cons, ↓we_tup, ↓wl_lst, ↓we_ofL, ↓wl_it, ↓we_CB, ↓wl_CL, ↓we_call, ↓wg_nm, ↓wgs_nil, ↓wgs_cons, ↓ks_nx, ↓ks_rt, ↓ks_bk, ↓ks_ct, ↓kr_rt, ↓kr_nx, ↓kt_nx, ↓kt_ct, ↓kt_bk, ↓kt_rt, ↓wv_some, ↓wtst_b, ↓wif_t, ↓wif_f, ↓wif_not, ↓we_lenV, ↓we_ixV, ↓we_inV, ↓ws_setIx, ↓wo_none, ↓wo_some, ↓we_sl, ↓wd_disp1, ↓wt_nil, ↓wt_cons, ↓we_dispT, ↓we_make, ↓ws_lsSet1, ↓ws_lsSet2, ↓ws_for, ↓wl_lc, ↓wl_rng1', ↓wl_rng2', List.getElem?_cons_zero, List.getElem?_cons_succ, List.set_cons_zero, List.set_cons_succ, Option.bind_some, id, rdV_av, rdV_d, rdV_lp, rdV_fn, rdV_ft, rdV_fd, rdV_ml, rdV_md, lenOf_ml, lenOf_l, lenOf_t, datOf_d, mlOf_ml, lstOf_l, intOf_i, seqOf_t, seqOf_l, dCmp_i, isLp_lp, avIx_ml, avIx_l, avIx_t, wv_map, dMod_p, dDiv_p, dAdd_t, dAdd_l, rngOf_1, rngOf_2, Option.isSome_some, ↓reduceIte, true_and, and_true, rng_nat', Int.toNat_natCast, wipeG_n, wipeG_c, wif_dec, dats_nil, dats_d, dAdd_i, dSub_i, dMul_i, dIx_t, dIx_l, at0, at1, at2, dNeg_i, dTuple_l, dTuple_t, dList_l, dList_t, dInt_i, dLen_l, dLen_t, dPr_sz, dPr_pa, dPr_tk, dPr_lv, dPr_sk, ws_ls1', ws_ls2', wg_tp', ws_app', ws_ext', rdV_non, Option.map_some, List.length_cons, List.length_nil, List.length_map, Bool.not_true]
  obtain ⟨o, e, rfl⟩ := key
  exact ⟨_, e, rfl, rfl, rfl, rfl, rfl, rfl, rfl⟩
theorem made_wc {A : Ad} {l : LS} {P : Pg} {Q : AV → LS → Prop} (h : PgOk P) (q : Q P.av l) : WC (g__law_made A) [ftOf P] l Q := by
  unfold g__law_made b__law_made
  rw [wc_den, enter_eq]
  simp only [List.map_cons, List.map_nil, List.length_cons, List.length_nil, List.replicate, List.cons_append, List.nil_append, Nat.reduceAdd, Nat.reduceSub, List.append_nil, ftOf]
  have g1 : dTget (ftOf P) (.d (.str "sizes")) = some (.d (eNs P.sz)) := rfl
  have g2 : dTget (ftOf P) (.d (.str "parts")) = some (.d (ePts P.pa)) := rfl
  have g3 : dTget (ftOf P) (.d (.str "ticks")) = some (.d (eTks P.tk)) := rfl
  have g4 : dTget (ftOf P) (.d (.str "live")) = some (.d (eNs P.lv)) := rfl
  have g5 : dTget (ftOf P) (.d (.str "skips")) = some (.d (eNs P.sk)) := rfl
  unfold ftOf at g1 g2 g3 g4 g5
  have e : pgOf (okPr A) [.d (eNs P.sz), .d (ePts P.pa), .d (eTks P.tk), .d (eNs P.lv), .d (eNs P.sk)] = some P.av := if_pos (okPr_ok h)
  simp only [↓ws_seq, ↓ws_set, ↓ws_setL, ↓ws_setD, ↓ws_asg, ↓ws_ret, ↓ws_retN, ↓ws_if, ↓ws_skip, ↓ws_break, ↓ws_cont, ↓ws_never, ↓we_var, ↓we_C, ↓we_fn, ↓we_f2, ↓we_f1, ↓we_chain, ↓wb_tst, ↓wb_tru, ↓wb_and, ↓wb_or, ↓wb_not, ↓wb_yes, ↓we_andV, ↓we_orV, ↓we_notV, ↓we_if, ↓wa_nil, ↓wa_cons, ↓we_tup, ↓wl_lst, ↓we_ofL, ↓wl_it, ↓we_CB, ↓wl_CL, ↓we_call, ↓wg_nm, ↓wgs_nil, ↓wgs_cons, ↓ks_nx, ↓ks_rt, ↓ks_bk, ↓ks_ct, ↓kr_rt, ↓kr_nx, ↓kt_nx, ↓kt_ct, ↓kt_bk, ↓kt_rt, ↓wv_some, ↓wtst_b, ↓wif_t, ↓wif_f, ↓wif_not, ↓we_lenV, ↓we_ixV, ↓we_inV, ↓ws_setIx, ↓wo_none, ↓wo_some, ↓we_sl, ↓wd_disp1, ↓wt_nil, ↓wt_cons, ↓we_dispT, ↓we_make, ↓ws_lsSet1, ↓ws_lsSet2, ↓ws_for, ↓wl_lc, ↓wl_rng1', ↓wl_rng2', List.getElem?_cons_zero, List.getElem?_cons_succ, List.set_cons_zero, List.set_cons_succ, Option.bind_some, id, rdV_av, rdV_d, rdV_lp, rdV_fn, rdV_ft, rdV_fd, rdV_ml, rdV_md, lenOf_ml, lenOf_l, lenOf_t, datOf_d, mlOf_ml, lstOf_l, intOf_i, seqOf_t, seqOf_l, dCmp_i, isLp_lp, avIx_ml, avIx_l, avIx_t, wv_map, dMod_p, dDiv_p, dAdd_t, dAdd_l, rngOf_1, rngOf_2, Option.isSome_some, ↓reduceIte, true_and, and_true, rng_nat', Int.toNat_natCast, wipeG_n, wipeG_c, wif_dec, dats_nil, dats_d, dAdd_i, dSub_i, dMul_i, dIx_t, dIx_l, at0, at1, at2, dNeg_i, dTuple_l, dTuple_t, dList_l, dList_t, dInt_i, dLen_l, dLen_t, dPr_sz, dPr_pa, dPr_tk, dPr_lv, dPr_sk, ws_ls1', ws_ls2', wg_tp', ws_app', ws_ext', rdV_non, Option.map_some, List.length_cons, List.length_nil, g1, g2, g3, g4, g5, e]
  exact q
end Pu

set_option Elab.async false
set_option linter.all false
set_option maxRecDepth 100000
set_option maxHeartbeats 1000000
/-! Pu, part K: acts. -/
namespace Pu
open PySem Tk Tk.W
structure VOk (P : Pg) (v : List Nat) : Prop where
  l : v.length = P.sz.length
  v : ∀ i, i < P.sz.length → nth v i < nth P.sz i
theorem StOk.vok {P : Pg} {s : St} (h : StOk P s) : VOk P s.v := ⟨h.l, h.v⟩
section
variable {A : Ad} {l : LS} {P : Pg} {Q : AV → LS → Prop}
theorem start_wc (h : PgOk P) : WC (g_start A) [P.av] l Q = Q (.d (eS (start P))) l := by
  unfold WC
  rw [start_ev A P l (by have := h.s3; omega), wv_some]
theorem words_wc {v : List Nat} (h : PgOk P) (hv : VOk P v) : WC (g_words A) [P.av, .d (eNs v)] l Q = Q (.d (eNs (words P v))) l := by
  unfold WC
  rw [words_ev A P v l (by have := h.p4; omega) (fun p hp => ⟨by rw [hv.l]; exact (h.word p hp).hv, by rw [(h.word p hp).ht]; exact hv.v _ (h.word p hp).hv⟩), wv_some]
theorem looks_wc {v : List Nat} (h : PgOk P) (hv : VOk P v) : WC (g_looks A) [P.av, .d (eNs v)] l Q = Q (.d (eNs (looks P v))) l := by
  unfold WC
  rw [looks_ev A P v l (by have := h.p4; omega) (fun p hp => ⟨by rw [hv.l]; exact (h.look p hp).hv, by rw [(h.look p hp).ht]; exact hv.v _ (h.look p hp).hv⟩), wv_some]
theorem put_wc {q : Ch} {m : Nat × Nat} (h : q.length ≤ 100) : WC (g_put A) [.d (ePs q), .d (eP m)] l Q = Q (.d (ePs (put q m))) l := by
  unfold WC
  rw [put_ev A q m l h, wv_some]
theorem changed_wc {v : List Nat} {ch : Ch} (h : PgOk P) (hv : VOk P v) (hc : ∀ c ∈ ch, c.1 < P.sz.length) : WC (g_changed A) [P.av, .d (eNs v), .d (ePs ch)] l Q = Q (.d (eNs (changed P v ch))) l := by
  unfold WC
  rw [changed_ev A P v ch l hv.l (fun n hn => by have := (h.sz n hn).1; omega) hc, wv_some]
theorem nextFocus_wc {f : Nat} (h : PgOk P) : WC (g_next_focus A) [P.av, .d (eN f)] l Q = Q (.d (eN (nextFocus P f))) l := by
  unfold WC
  rw [next_focus_ev A P f l (by have := h.p4; omega) h.p1, wv_some]
theorem changesOf_wc {f : Nat} {a : Act} (h : actIn P f a) : WC (g_changes_of A) [P.av, .d (eN f), .d (eA a)] l Q = Q (.d (ePs (changesOf P f a))) l := by
  unfold WC
  rw [changes_of_ev A P f a l h, wv_some]
end
section
variable {s : S} {Q : AV → S → Prop} {R : Out → Prop}
def enumOf : List AV → Option (List PyData)
  | [.d (.tuple xs)] => some (enumD xs)
  | _ => none
theorem enumOf_t {xs : List PyData} : enumOf [.d (.tuple xs)] = some (enumD xs) := by simp only [enumOf]
theorem wl_enumT' {f : FA} {Q : List PyData → S → Prop} : WL (fEnumT f) s Q = WA f s fun as s1 => WV (enumOf as) fun xs => Q xs s1 := by
  unfold WL WA fEnumT
  cases f s with
  | none => simp
  | some p =>
    obtain ⟨as, s1⟩ := p
    simp only [wv_some]
    split <;> rename_i hp
    · simp only [Option.some.injEq, Prod.mk.injEq] at hp
      obtain ⟨rfl, rfl⟩ := hp
      rw [enumOf_t, wv_some, wv_some]
    · rw [wv_none]
      have : enumOf as = none := by
        unfold enumOf
        split
        · exact absurd rfl (hp _ _)
        · rfl
      rw [this, wv_none]
end
theorem isNot_press (p : Option Ch) : dIsNot (.d (eO p)) (.d .none) = some (.d (.bool p.isSome)) := by cases p <;> rfl
theorem enum_map {α : Type} (f : α → PyData) (xs : List α) : enumD (xs.map f) = (List.range xs.length).map fun i => .tuple [eN i, (xs.map f).getD i .none] := by
  unfold enumD
  rw [List.length_map]
theorem tru_ps (q : Ch) : tru (.d (ePs q)) = some (decide (q ≠ [])) := by cases q <;> rfl
def isPress (P : Pg) (i : Nat) : Bool := ((P.pa[i]?).bind (·.press)).isSome
theorem acts_eq (P : Pg) (s : St) : acts P s = ((List.range P.pa.length).filter (isPress P)).map .point ++ [.next] ++ (if isPress P s.f = true then [.press] else []) ++ (List.range P.tk.length).map .tick ++ (if s.q = [] then [] else [.speak]) := rfl
theorem acts_len (P : Pg) (s : St) (h : PgOk P) : (acts P s).length ≤ 12 := by
  have h1 := h.p4
  have h2 := h.t2
  have h3 : ((List.range P.pa.length).filter (isPress P)).length ≤ P.pa.length := by
    have := List.length_filter_le (isPress P) (List.range P.pa.length)
    simpa using this
  rw [acts_eq]
  simp only [List.length_append, List.length_map, List.length_range, List.length_cons, List.length_nil]
  split <;> split <;> simp <;> omega
theorem acts_wc {A : Ad} {l : LS} {P : Pg} {s : St} {Q : AV → LS → Prop} (h : PgOk P) (hs : s.f < P.pa.length) : WC (g_acts A) [P.av, .d (eS s)] l Q = Q (.d (eAs (acts P s))) l := by
  have hb := line_big
  have h1 := h.p4
  have h2 := h.t2
  suffices H : WC (g_acts A) [P.av, .d (eS s)] l fun r t => r = .d (eAs (acts P s)) ∧ t = l by
    obtain ⟨⟨r, t⟩, e, rfl, rfl⟩ := H
    unfold WC
    rw [e, wv_some]
  unfold g_acts b_acts
  rw [wc_den, enter_eq]
  simp only [List.map_cons, List.map_nil, List.length_cons, List.length_nil, List.replicate, List.cons_append, List.nil_append, Nat.reduceAdd, Nat.reduceSub]
  simp only [↓ws_seq, ↓ws_set, ↓ws_setL, ↓ws_setD, ↓ws_asg, ↓ws_ret, ↓ws_retN, ↓ws_if, ↓ws_skip, ↓ws_break, ↓ws_cont, ↓ws_never, ↓we_var, ↓we_C, ↓we_fn, ↓we_f2, ↓we_f1, ↓we_chain, ↓wb_tst, ↓wb_tru, ↓wb_and, ↓wb_or, ↓wb_not, ↓wb_yes, ↓we_andV, ↓we_orV, ↓we_notV, ↓we_if, ↓wa_nil, ↓wa_cons, ↓we_tup, ↓wl_lst, ↓we_ofL, ↓wl_it, ↓we_CB, ↓wl_CL, ↓we_call, ↓wg_nm, ↓wgs_nil, ↓wgs_cons, ↓ks_nx, ↓ks_rt, ↓ks_bk, ↓ks_ct, ↓kr_rt, ↓kr_nx, ↓kt_nx, ↓kt_ct, ↓kt_bk, ↓kt_rt, ↓wv_some, ↓wtst_b, ↓wif_t, ↓wif_f, ↓wif_not, ↓we_lenV, ↓we_ixV, ↓we_inV, ↓ws_setIx, ↓wo_none, ↓wo_some, ↓we_sl, ↓wd_disp1, ↓wt_nil, ↓wt_cons, ↓we_dispT, ↓we_make, ↓ws_lsSet1, ↓ws_lsSet2, ↓ws_for, ↓wl_lc, ↓wl_rng1', ↓wl_rng2', ↓wl_enumT', List.getElem?_cons_zero, List.getElem?_cons_succ, List.set_cons_zero, List.set_cons_succ, Option.bind_some, id, rdV_av, rdV_d, rdV_lp, rdV_fn, rdV_ft, rdV_fd, rdV_ml, rdV_md, lenOf_ml, lenOf_l, lenOf_t, datOf_d, mlOf_ml, lstOf_l, intOf_i, seqOf_t, seqOf_l, dCmp_i, isLp_lp, avIx_ml, avIx_l, avIx_t, wv_map, dMod_p, dDiv_p, dAdd_t, dAdd_l, enumOf_t, rngOf_1, rngOf_2, Option.isSome_some, ↓reduceIte, true_and, and_true, rng_nat', Int.toNat_natCast, wipeG_n, wipeG_c, wif_dec, dats_nil, dats_d, dAdd_i, dSub_i, dMul_i, dIx_t, dIx_l, at0, at1, at2, dNeg_i, dTuple_l, dTuple_t, dList_l, dList_t, dInt_i, dLen_l, dLen_t, dPr_sz, dPr_pa, dPr_tk, dPr_lv, dPr_sk, ws_ls1', ws_ls2', wg_tp', ws_app', ws_ext', rdV_non, Option.map_some, List.length_cons, List.length_nil, enum_map]
  refine wl_lcGo _ eA (fun done rest acc t => done ++ rest = List.range P.pa.length ∧ acc = (done.filter (isPress P)).map .point ∧ t = ⟨[some P.av, some (.d (eS s)), some (.d (eNs s.v)), some (.d (eN s.f)), some (.d (ePs s.q)), none, none, none, none], l⟩) (List.range P.pa.length) [] [] _ (by simp; omega) ⟨rfl, rfl, rfl⟩ ?_ ?_
  · rintro done x rest acc t ⟨e1, rfl, rfl⟩
    have hx : x < P.pa.length := by
      have : x ∈ List.range P.pa.length := by rw [← e1]; simp
      simpa using this
    have hp : (P.pa.map ePt).getD x .none = ePt P.pa[x] := by simp [hx]
    have hq : isPress P x = P.pa[x].press.isSome := by simp [isPress, hx]
    simp only [↓ws_seq, ↓ws_set, ↓ws_setL, ↓ws_setD, ↓ws_asg, ↓ws_ret, ↓ws_retN, ↓ws_if, ↓ws_skip, ↓ws_break, ↓ws_cont, ↓ws_never, ↓we_var, ↓we_C, ↓we_fn, ↓we_f2, ↓we_f1, ↓we_chain, ↓wb_tst, ↓wb_tru, ↓wb_and, ↓wb_or, ↓wb_not, ↓wb_yes, ↓we_andV, ↓we_orV, ↓we_notV, ↓we_if, ↓wa_nil, ↓wa_cons, ↓we_tup, ↓wl_lst, ↓we_ofL, ↓wl_it, ↓we_CB, ↓wl_CL, ↓we_call, ↓wg_nm, ↓wgs_nil, ↓wgs_cons, ↓ks_nx, ↓ks_rt, ↓ks_bk, ↓ks_ct, ↓kr_rt, ↓kr_nx, ↓kt_nx, ↓kt_ct, ↓kt_bk, ↓kt_rt, ↓wv_some, ↓wtst_b, ↓wif_t, ↓wif_f, ↓wif_not, ↓we_lenV, ↓we_ixV, ↓we_inV, ↓ws_setIx, ↓wo_none, ↓wo_some, ↓we_sl, ↓wd_disp1, ↓wt_nil, ↓wt_cons, ↓we_dispT, ↓we_make, ↓ws_lsSet1, ↓ws_lsSet2, ↓ws_for, ↓wl_lc, ↓wl_rng1', ↓wl_rng2', ↓wl_enumT', List.getElem?_cons_zero, List.getElem?_cons_succ, List.set_cons_zero, List.set_cons_succ, Option.bind_some, id, rdV_av, rdV_d, rdV_lp, rdV_fn, rdV_ft, rdV_fd, rdV_ml, rdV_md, lenOf_ml, lenOf_l, lenOf_t, datOf_d, mlOf_ml, lstOf_l, intOf_i, seqOf_t, seqOf_l, dCmp_i, isLp_lp, avIx_ml, avIx_l, avIx_t, wv_map, dMod_p, dDiv_p, dAdd_t, dAdd_l, enumOf_t, rngOf_1, rngOf_2, Option.isSome_some, ↓reduceIte, true_and, and_true, rng_nat', Int.toNat_natCast, wipeG_n, wipeG_c, wif_dec, dats_nil, dats_d, dAdd_i, dSub_i, dMul_i, dIx_t, dIx_l, at0, at1, at2, dNeg_i, dTuple_l, dTuple_t, dList_l, dList_t, dInt_i, dLen_l, dLen_t, dPr_sz, dPr_pa, dPr_tk, dPr_lv, dPr_sk, ws_ls1', ws_ls2', wg_tp', ws_app', ws_ext', rdV_non, Option.map_some, List.length_cons, List.length_nil, hp, isNot_press]
    refine WIf.of (fun c => ?_) fun c => ?_
    · refine ⟨.point x, rfl, by rw [← e1]; simp, ?_⟩
      rw [List.filter_append]
      simp [hq, c]
    · refine ⟨by rw [← e1]; simp, ?_⟩
      rw [List.filter_append]
      simp [hq, c]
  rintro acc t ⟨e1, rfl, rfl⟩
  rw [List.append_nil] at e1
  rw [e1]
  have hl1 : ((List.range P.pa.length).filter (isPress P)).length ≤ P.pa.length := by
    have := List.length_filter_le (isPress P) (List.range P.pa.length)
    simpa using this
  have hf : P.pa[s.f]? = some P.pa[s.f] := List.getElem?_eq_getElem hs
  have hq : isPress P s.f = P.pa[s.f].press.isSome := by simp [isPress, hs]
  simp only [↓ws_seq, ↓ws_set, ↓ws_setL, ↓ws_setD, ↓ws_asg, ↓ws_ret, ↓ws_retN, ↓ws_if, ↓ws_skip, ↓ws_break, ↓ws_cont, ↓ws_never, ↓we_var, ↓we_C, ↓we_fn, ↓we_f2, ↓we_f1, ↓we_chain, ↓wb_tst, ↓wb_tru, ↓wb_and, ↓wb_or, ↓wb_not, ↓wb_yes, ↓we_andV, ↓we_orV, ↓we_notV, ↓we_if, ↓wa_nil, ↓wa_cons, ↓we_tup, ↓wl_lst, ↓we_ofL, ↓wl_it, ↓we_CB, ↓wl_CL, ↓we_call, ↓wg_nm, ↓wgs_nil, ↓wgs_cons, ↓ks_nx, ↓ks_rt, ↓ks_bk, ↓ks_ct, ↓kr_rt, ↓kr_nx, ↓kt_nx, ↓kt_ct, ↓kt_bk, ↓kt_rt, ↓wv_some, ↓wtst_b, ↓wif_t, ↓wif_f, ↓wif_not, ↓we_lenV, ↓we_ixV, ↓we_inV, ↓ws_setIx, ↓wo_none, ↓wo_some, ↓we_sl, ↓wd_disp1, ↓wt_nil, ↓wt_cons, ↓we_dispT, ↓we_make, ↓ws_lsSet1, ↓ws_lsSet2, ↓ws_for, ↓wl_lc, ↓wl_rng1', ↓wl_rng2', ↓wl_enumT', List.getElem?_cons_zero, List.getElem?_cons_succ, List.set_cons_zero, List.set_cons_succ, Option.bind_some, id, rdV_av, rdV_d, rdV_lp, rdV_fn, rdV_ft, rdV_fd, rdV_ml, rdV_md, lenOf_ml, lenOf_l, lenOf_t, datOf_d, mlOf_ml, lstOf_l, intOf_i, seqOf_t, seqOf_l, dCmp_i, isLp_lp, avIx_ml, avIx_l, avIx_t, wv_map, dMod_p, dDiv_p, dAdd_t, dAdd_l, enumOf_t, rngOf_1, rngOf_2, Option.isSome_some, ↓reduceIte, true_and, and_true, rng_nat', Int.toNat_natCast, wipeG_n, wipeG_c, wif_dec, dats_nil, dats_d, dAdd_i, dSub_i, dMul_i, dIx_t, dIx_l, at0, at1, at2, dNeg_i, dTuple_l, dTuple_t, dList_l, dList_t, dInt_i, dLen_l, dLen_t, dPr_sz, dPr_pa, dPr_tk, dPr_lv, dPr_sk, ws_ls1', ws_ls2', wg_tp', ws_app', ws_ext', rdV_non, Option.map_some, List.length_cons, List.length_nil, List.length_map]
  refine ⟨by omega, ?_⟩
  refine wv_atM hf ?_
  simp only [↓ws_seq, ↓ws_set, ↓ws_setL, ↓ws_setD, ↓ws_asg, ↓ws_ret, ↓ws_retN, ↓ws_if, ↓ws_skip, ↓ws_break, ↓ws_cont, ↓ws_never, ↓we_var, ↓we_C, ↓we_fn, ↓we_f2, ↓we_f1, ↓we_chain, ↓wb_tst, ↓wb_tru, ↓wb_and, ↓wb_or, ↓wb_not, ↓wb_yes, ↓we_andV, ↓we_orV, ↓we_notV, ↓we_if, ↓wa_nil, ↓wa_cons, ↓we_tup, ↓wl_lst, ↓we_ofL, ↓wl_it, ↓we_CB, ↓wl_CL, ↓we_call, ↓wg_nm, ↓wgs_nil, ↓wgs_cons, ↓ks_nx, ↓ks_rt, ↓ks_bk, ↓ks_ct, ↓kr_rt, ↓kr_nx, ↓kt_nx, ↓kt_ct, ↓kt_bk, ↓kt_rt, ↓wv_some, ↓wtst_b, ↓wif_t, ↓wif_f, ↓wif_not, ↓we_lenV, ↓we_ixV, ↓we_inV, ↓ws_setIx, ↓wo_none, ↓wo_some, ↓we_sl, ↓wd_disp1, ↓wt_nil, ↓wt_cons, ↓we_dispT, ↓we_make, ↓ws_lsSet1, ↓ws_lsSet2, ↓ws_for, ↓wl_lc, ↓wl_rng1', ↓wl_rng2', ↓wl_enumT', List.getElem?_cons_zero, List.getElem?_cons_succ, List.set_cons_zero, List.set_cons_succ, Option.bind_some, id, rdV_av, rdV_d, rdV_lp, rdV_fn, rdV_ft, rdV_fd, rdV_ml, rdV_md, lenOf_ml, lenOf_l, lenOf_t, datOf_d, mlOf_ml, lstOf_l, intOf_i, seqOf_t, seqOf_l, dCmp_i, isLp_lp, avIx_ml, avIx_l, avIx_t, wv_map, dMod_p, dDiv_p, dAdd_t, dAdd_l, enumOf_t, rngOf_1, rngOf_2, Option.isSome_some, ↓reduceIte, true_and, and_true, rng_nat', Int.toNat_natCast, wipeG_n, wipeG_c, wif_dec, dats_nil, dats_d, dAdd_i, dSub_i, dMul_i, dIx_t, dIx_l, at0, at1, at2, dNeg_i, dTuple_l, dTuple_t, dList_l, dList_t, dInt_i, dLen_l, dLen_t, dPr_sz, dPr_pa, dPr_tk, dPr_lv, dPr_sk, ws_ls1', ws_ls2', wg_tp', ws_app', ws_ext', rdV_non, Option.map_some, List.length_cons, List.length_nil, isNot_press, ← hq]
  have key : ∀ pre : List Act, pre.length ≤ 10 → WS (fSeq (fExt 5 (fOfL (fLc (fRng1 (fCons (fCB dLen (fCons (f1 (dPr "ticks") (fVar 0)) fNil)) fNil)) (gNm 8) fYes (fTup (fCons (fC (.str "tick")) (fCons (fVar 8) fNil))) [8])))
      (fSeq (fIfS (fTru (fVar 4)) (fApp 5 (fTup (fCons (fC (.str "speak")) fNil))) fSkip)
      (fRet (fVar 5)))) ⟨[some P.av, some (.d (eS s)), some (.d (eNs s.v)), some (.d (eN s.f)), some (.d (ePs s.q)), some (.ml (pre.map eA)), none, none, none], l⟩ (KRet fun r t => r = .d (eAs (pre ++ (List.range P.tk.length).map .tick ++ (if s.q = [] then [] else [.speak]))) ∧ t = l) := by
    intro pre hpre
    simp only [↓ws_seq, ↓ws_set, ↓ws_setL, ↓ws_setD, ↓ws_asg, ↓ws_ret, ↓ws_retN, ↓ws_if, ↓ws_skip, ↓ws_break, ↓ws_cont, ↓ws_never, ↓we_var, ↓we_C, ↓we_fn, ↓we_f2, ↓we_f1, ↓we_chain, ↓wb_tst, ↓wb_tru, ↓wb_and, ↓wb_or, ↓wb_not, ↓wb_yes, ↓we_andV, ↓we_orV, ↓we_notV, ↓we_if, ↓wa_nil, ↓wa_cons, ↓we_tup, ↓wl_lst, ↓we_ofL, ↓wl_it, ↓we_CB, ↓wl_CL, ↓we_call, ↓wg_nm, ↓wgs_nil, ↓wgs_cons, ↓ks_nx, ↓ks_rt, ↓ks_bk, ↓ks_ct, ↓kr_rt, ↓kr_nx, ↓kt_nx, ↓kt_ct, ↓kt_bk, ↓kt_rt, ↓wv_some, ↓wtst_b, ↓wif_t, ↓wif_f, ↓wif_not, ↓we_lenV, ↓we_ixV, ↓we_inV, ↓ws_setIx, ↓wo_none, ↓wo_some, ↓we_sl, ↓wd_disp1, ↓wt_nil, ↓wt_cons, ↓we_dispT, ↓we_make, ↓ws_lsSet1, ↓ws_lsSet2, ↓ws_for, ↓wl_lc, ↓wl_rng1', ↓wl_rng2', ↓wl_enumT', List.getElem?_cons_zero, List.getElem?_cons_succ, List.set_cons_zero, List.set_cons_succ, Option.bind_some, id, rdV_av, rdV_d, rdV_lp, rdV_fn, rdV_ft, rdV_fd, rdV_ml, rdV_md, lenOf_ml, lenOf_l, lenOf_t, datOf_d, mlOf_ml, lstOf_l, intOf_i, seqOf_t, seqOf_l, dCmp_i, isLp_lp, avIx_ml, avIx_l, avIx_t, wv_map, dMod_p, dDiv_p, dAdd_t, dAdd_l, enumOf_t, rngOf_1, rngOf_2, Option.isSome_some, ↓reduceIte, true_and, and_true, rng_nat', Int.toNat_natCast, wipeG_n, wipeG_c, wif_dec, dats_nil, dats_d, dAdd_i, dSub_i, dMul_i, dIx_t, dIx_l, at0, at1, at2, dNeg_i, dTuple_l, dTuple_t, dList_l, dList_t, dInt_i, dLen_l, dLen_t, dPr_sz, dPr_pa, dPr_tk, dPr_lv, dPr_sk, ws_ls1', ws_ls2', wg_tp', ws_app', ws_ext', rdV_non, Option.map_some, List.length_cons, List.length_nil, List.length_map]
    refine ⟨inB_of (by omega) (by omega), ?_⟩
    refine wl_lcGo eN eA (fun done rest acc t => acc = done.map .tick ∧ t = ⟨[some P.av, some (.d (eS s)), some (.d (eNs s.v)), some (.d (eN s.f)), some (.d (ePs s.q)), some (.ml (pre.map eA)), none, none, none], l⟩) (List.range P.tk.length) [] [] _ (by simp; omega) ⟨rfl, rfl⟩ ?_ ?_
    · rintro done x rest acc t ⟨rfl, rfl⟩
      simp only [↓ws_seq, ↓ws_set, ↓ws_setL, ↓ws_setD, ↓ws_asg, ↓ws_ret, ↓ws_retN, ↓ws_if, ↓ws_skip, ↓ws_break, ↓ws_cont, ↓ws_never, ↓we_var, ↓we_C, ↓we_fn, ↓we_f2, ↓we_f1, ↓we_chain, ↓wb_tst, ↓wb_tru, ↓wb_and, ↓wb_or, ↓wb_not, ↓wb_yes, ↓we_andV, ↓we_orV, ↓we_notV, ↓we_if, ↓wa_nil, ↓wa_cons, ↓we_tup, ↓wl_lst, ↓we_ofL, ↓wl_it, ↓we_CB, ↓wl_CL, ↓we_call, ↓wg_nm, ↓wgs_nil, ↓wgs_cons, ↓ks_nx, ↓ks_rt, ↓ks_bk, ↓ks_ct, ↓kr_rt, ↓kr_nx, ↓kt_nx, ↓kt_ct, ↓kt_bk, ↓kt_rt, ↓wv_some, ↓wtst_b, ↓wif_t, ↓wif_f, ↓wif_not, ↓we_lenV, ↓we_ixV, ↓we_inV, ↓ws_setIx, ↓wo_none, ↓wo_some, ↓we_sl, ↓wd_disp1, ↓wt_nil, ↓wt_cons, ↓we_dispT, ↓we_make, ↓ws_lsSet1, ↓ws_lsSet2, ↓ws_for, ↓wl_lc, ↓wl_rng1', ↓wl_rng2', ↓wl_enumT', List.getElem?_cons_zero, List.getElem?_cons_succ, List.set_cons_zero, List.set_cons_succ, Option.bind_some, id, rdV_av, rdV_d, rdV_lp, rdV_fn, rdV_ft, rdV_fd, rdV_ml, rdV_md, lenOf_ml, lenOf_l, lenOf_t, datOf_d, mlOf_ml, lstOf_l, intOf_i, seqOf_t, seqOf_l, dCmp_i, isLp_lp, avIx_ml, avIx_l, avIx_t, wv_map, dMod_p, dDiv_p, dAdd_t, dAdd_l, enumOf_t, rngOf_1, rngOf_2, Option.isSome_some, ↓reduceIte, true_and, and_true, rng_nat', Int.toNat_natCast, wipeG_n, wipeG_c, wif_dec, dats_nil, dats_d, dAdd_i, dSub_i, dMul_i, dIx_t, dIx_l, at0, at1, at2, dNeg_i, dTuple_l, dTuple_t, dList_l, dList_t, dInt_i, dLen_l, dLen_t, dPr_sz, dPr_pa, dPr_tk, dPr_lv, dPr_sk, ws_ls1', ws_ls2', wg_tp', ws_app', ws_ext', rdV_non, Option.map_some, List.length_cons, List.length_nil]
      exact ⟨.tick x, rfl, by simp⟩
    rintro acc t ⟨rfl, rfl⟩
    simp only [↓ws_seq, ↓ws_set, ↓ws_setL, ↓ws_setD, ↓ws_asg, ↓ws_ret, ↓ws_retN, ↓ws_if, ↓ws_skip, ↓ws_break, ↓ws_cont, ↓ws_never, ↓we_var, ↓we_C, ↓we_fn, ↓we_f2, ↓we_f1, ↓we_chain, ↓wb_tst, ↓wb_tru, ↓wb_and, ↓wb_or, ↓wb_not, ↓wb_yes, ↓we_andV, ↓we_orV, ↓we_notV, ↓we_if, ↓wa_nil, ↓wa_cons, ↓we_tup, ↓wl_lst, ↓we_ofL, ↓wl_it, ↓we_CB, ↓wl_CL, ↓we_call, ↓wg_nm, ↓wgs_nil, ↓wgs_cons, ↓ks_nx, ↓ks_rt, ↓ks_bk, ↓ks_ct, ↓kr_rt, ↓kr_nx, ↓kt_nx, ↓kt_ct, ↓kt_bk, ↓kt_rt, ↓wv_some, ↓wtst_b, ↓wif_t, ↓wif_f, ↓wif_not, ↓we_lenV, ↓we_ixV, ↓we_inV, ↓ws_setIx, ↓wo_none, ↓wo_some, ↓we_sl, ↓wd_disp1, ↓wt_nil, ↓wt_cons, ↓we_dispT, ↓we_make, ↓ws_lsSet1, ↓ws_lsSet2, ↓ws_for, ↓wl_lc, ↓wl_rng1', ↓wl_rng2', ↓wl_enumT', List.getElem?_cons_zero, List.getElem?_cons_succ, List.set_cons_zero, List.set_cons_succ, Option.bind_some, id, rdV_av, rdV_d, rdV_lp, rdV_fn, rdV_ft, rdV_fd, rdV_ml, rdV_md, lenOf_ml, lenOf_l, lenOf_t, datOf_d, mlOf_ml, lstOf_l, intOf_i, seqOf_t, seqOf_l, dCmp_i, isLp_lp, avIx_ml, avIx_l, avIx_t, wv_map, dMod_p, dDiv_p, dAdd_t, dAdd_l, enumOf_t, rngOf_1, rngOf_2, Option.isSome_some, ↓reduceIte, true_and, and_true, rng_nat', Int.toNat_natCast, wipeG_n, wipeG_c, wif_dec, dats_nil, dats_d, dAdd_i, dSub_i, dMul_i, dIx_t, dIx_l, at0, at1, at2, dNeg_i, dTuple_l, dTuple_t, dList_l, dList_t, dInt_i, dLen_l, dLen_t, dPr_sz, dPr_pa, dPr_tk, dPr_lv, dPr_sk, ws_ls1', ws_ls2', wg_tp', ws_app', ws_ext', rdV_non, Option.map_some, List.length_cons, List.length_nil, List.length_map, List.length_append, List.nil_append, List.length_range, tru_ps]
    refine ⟨by omega, ?_⟩
    split
    · rename_i c
      refine ⟨by omega, ?_⟩
      try rw [if_neg c]
      show AV.d (.list _) = AV.d (.list _)
      rw [List.map_append, List.map_append]
      rfl
    · rename_i c
      try rw [if_pos (by simpa using c)]
      show AV.d (.list _) = AV.d (.list _)
      rw [List.map_append, List.map_append, List.map_nil, List.append_nil]
  rw [acts_eq]
  simp only [↓ws_seq, ↓ws_set, ↓ws_setL, ↓ws_setD, ↓ws_asg, ↓ws_ret, ↓ws_retN, ↓ws_if, ↓ws_skip, ↓ws_break, ↓ws_cont, ↓ws_never, ↓we_var, ↓we_C, ↓we_fn, ↓we_f2, ↓we_f1, ↓we_chain, ↓wb_tst, ↓wb_tru, ↓wb_and, ↓wb_or, ↓wb_not, ↓wb_yes, ↓we_andV, ↓we_orV, ↓we_notV, ↓we_if, ↓wa_nil, ↓wa_cons, ↓we_tup, ↓wl_lst, ↓we_ofL, ↓wl_it, ↓we_CB, ↓wl_CL, ↓we_call, ↓wg_nm, ↓wgs_nil, ↓wgs_cons, ↓ks_nx, ↓ks_rt, ↓ks_bk, ↓ks_ct, ↓kr_rt, ↓kr_nx, ↓kt_nx, ↓kt_ct, ↓kt_bk, ↓kt_rt, ↓wv_some, ↓wtst_b, ↓wif_t, ↓wif_f, ↓wif_not, ↓we_lenV, ↓we_ixV, ↓we_inV, ↓ws_setIx, ↓wo_none, ↓wo_some, ↓we_sl, ↓wd_disp1, ↓wt_nil, ↓wt_cons, ↓we_dispT, ↓we_make, ↓ws_lsSet1, ↓ws_lsSet2, ↓ws_for, ↓wl_lc, ↓wl_rng1', ↓wl_rng2', ↓wl_enumT', List.getElem?_cons_zero, List.getElem?_cons_succ, List.set_cons_zero, List.set_cons_succ, Option.bind_some, id, rdV_av, rdV_d, rdV_lp, rdV_fn, rdV_ft, rdV_fd, rdV_ml, rdV_md, lenOf_ml, lenOf_l, lenOf_t, datOf_d, mlOf_ml, lstOf_l, intOf_i, seqOf_t, seqOf_l, dCmp_i, isLp_lp, avIx_ml, avIx_l, avIx_t, wv_map, dMod_p, dDiv_p, dAdd_t, dAdd_l, enumOf_t, rngOf_1, rngOf_2, Option.isSome_some, ↓reduceIte, true_and, and_true, rng_nat', Int.toNat_natCast, wipeG_n, wipeG_c, wif_dec, dats_nil, dats_d, dAdd_i, dSub_i, dMul_i, dIx_t, dIx_l, at0, at1, at2, dNeg_i, dTuple_l, dTuple_t, dList_l, dList_t, dInt_i, dLen_l, dLen_t, dPr_sz, dPr_pa, dPr_tk, dPr_lv, dPr_sk, ws_ls1', ws_ls2', wg_tp', ws_app', ws_ext', rdV_non, Option.map_some, List.length_cons, List.length_nil, List.length_map] at key
  refine WIf.of (fun c => ?_) fun c => ?_
  · refine ⟨by simp; omega, ?_⟩
    have := key (((List.range P.pa.length).filter (isPress P)).map .point ++ [.next] ++ [.press]) (by simp; omega)
    rw [if_pos c]
    rw [List.map_append, List.map_append] at this
    exact this
  · have := key (((List.range P.pa.length).filter (isPress P)).map .point ++ [.next]) (by simp; omega)
    rw [if_neg (by simp [c]), List.append_nil]
    rw [List.map_append] at this
    exact this
end Pu

set_option Elab.async false
set_option linter.all false
set_option maxRecDepth 100000
set_option maxHeartbeats 1000000
/-! Pu, part L: after. -/
namespace Pu
open PySem Tk Tk.W
section
variable {α : Type} [BEq α] [LawfulBEq α] {enc : α → PyData} {n : Nat}
theorem any_enc (hg : ∀ x, gd 50 (enc x) = true) (hi : ∀ x y, enc x = enc y → x = y) (xs : List α) (a : α) : (xs.map enc).any (fun z => PyData.eqv z (enc a)) = decide (a ∈ xs) := by
  rw [List.any_map, Bool.eq_iff_iff, List.any_eq_true, decide_eq_true_eq]
  constructor
  · rintro ⟨x, hx, e⟩
    have e' : PyData.eqv (enc x) (enc a) = true := e
    rw [eqv_gd _ _ 50 50 (hg x) (hg a), decide_eq_true_eq] at e'
    rw [← hi _ _ e']; exact hx
  · intro hm
    refine ⟨a, hm, ?_⟩
    show PyData.eqv (enc a) (enc a) = true
    rw [eqv_gd _ _ 50 50 (hg a) (hg a)]
    simp
theorem sh_enc (hg : ∀ x, gd 50 (enc x) = true) (xs : List α) : SeqAt.shaped (.list (xs.map enc)) = true := shaped_gd (n := 51) (gds_map fun x _ => hg x) (by decide)
theorem dIn_t (hg : ∀ x, gd 50 (enc x) = true) (hi : ∀ x y, enc x = enc y → x = y) (xs : List α) (a : α) : dIn (.d (enc a)) (.d (.tuple (xs.map enc))) = some (.d (.bool (decide (a ∈ xs)))) := by
  have h : (if SeqAt.shaped (enc a) = true ∧ SeqAt.shaped (.list (xs.map enc)) = true then some (AV.d (.bool ((xs.map enc).any fun z => PyData.eqv z (enc a)))) else none) = some (.d (.bool (decide (a ∈ xs)))) := by
    rw [if_pos ⟨shaped_gd (hg a) (by decide), sh_enc hg xs⟩, any_enc hg hi]
  exact h
theorem dIn_l (hg : ∀ x, gd 50 (enc x) = true) (hi : ∀ x y, enc x = enc y → x = y) (xs : List α) (a : α) : dIn (.d (enc a)) (.d (.list (xs.map enc))) = some (.d (.bool (decide (a ∈ xs)))) := by
  have h : (if SeqAt.shaped (enc a) = true ∧ SeqAt.shaped (.list (xs.map enc)) = true then some (AV.d (.bool ((xs.map enc).any fun z => PyData.eqv z (enc a)))) else none) = some (.d (.bool (decide (a ∈ xs)))) := by
    rw [if_pos ⟨shaped_gd (hg a) (by decide), sh_enc hg xs⟩, any_enc hg hi]
  exact h
theorem dNotIn_t (hg : ∀ x, gd 50 (enc x) = true) (hi : ∀ x y, enc x = enc y → x = y) (xs : List α) (a : α) : dNotIn (.d (enc a)) (.d (.tuple (xs.map enc))) = some (.d (.bool (!decide (a ∈ xs)))) := by
  have h : (if SeqAt.shaped (enc a) = true ∧ SeqAt.shaped (.list (xs.map enc)) = true then some (AV.d (.bool (!(xs.map enc).any fun z => PyData.eqv z (enc a)))) else none) = some (.d (.bool (!decide (a ∈ xs)))) := by
    rw [if_pos ⟨shaped_gd (hg a) (by decide), sh_enc hg xs⟩, any_enc hg hi]
  exact h
theorem dNotIn_l (hg : ∀ x, gd 50 (enc x) = true) (hi : ∀ x y, enc x = enc y → x = y) (xs : List α) (a : α) : dNotIn (.d (enc a)) (.d (.list (xs.map enc))) = some (.d (.bool (!decide (a ∈ xs)))) := by
  have h : (if SeqAt.shaped (enc a) = true ∧ SeqAt.shaped (.list (xs.map enc)) = true then some (AV.d (.bool (!(xs.map enc).any fun z => PyData.eqv z (enc a)))) else none) = some (.d (.bool (!decide (a ∈ xs)))) := by
    rw [if_pos ⟨shaped_gd (hg a) (by decide), sh_enc hg xs⟩, any_enc hg hi]
  exact h
end
theorem eA_gd (a : Act) : gd 50 (eA a) = true := by
  cases a <;> simp [eA, gd, gds, ok_tick, ok_press, ok_point, ok_next, ok_speak]
theorem eN_inj {a b : Nat} (h : eN a = eN b) : a = b := by
  have := PyData.int.inj h
  omega
theorem aW_inj {s t : Str} (h : PyData.str s = PyData.str t) : s = t := PyData.str.inj h
theorem eA_inj (a b : Act) (h : eA a = eA b) : a = b := by
  cases a <;> cases b <;> simp [eA] at h <;> first | rfl | (exact absurd h (by decide)) | (have := h; simp at this; try omega) | skip
  all_goals first | (congr 1; omega) | (exfalso; have := h.1; revert this; decide)
theorem pigeon : ∀ (n : Nat) (xs : List Nat), xs.Nodup → (∀ x ∈ xs, x < n) → xs.length ≤ n
  | 0, xs, _, h => by
    cases xs with
    | nil => exact Nat.le_refl _
    | cons x xs => exact absurd (h x List.mem_cons_self) (by omega)
  | n + 1, xs, hn, h => by
    by_cases c : n ∈ xs
    · have e := List.length_erase_of_mem c
      have := pigeon n (xs.erase n) (hn.erase n) fun x hx => by
        have h1 := h x (List.mem_of_mem_erase hx)
        have h2 : x ≠ n := ((hn.mem_erase_iff).mp hx).1
        omega
      omega
    · have := pigeon n xs hn fun x hx => by
        have h1 := h x hx
        have h2 : x ≠ n := fun e => c (e ▸ hx)
        omega
      omega
/-! ### the states stay states -/
theorem nth_le {xs : List Nat} {i m : Nat} (h : ∀ x ∈ xs, x ≤ m) : nth xs i ≤ m := by
  by_cases c : i < xs.length
  · exact h _ (nth_mem c)
  · have : nth xs i = 0 := by simp [nth]; rw [List.getElem?_eq_none (by omega)]; rfl
    omega
theorem words_len (P : Pg) (v : List Nat) : (words P v).length = P.pa.length := by simp [words]
theorem looks_len (P : Pg) (v : List Nat) : (looks P v).length = P.pa.length := by simp [looks]
theorem words_le {P : Pg} (h : PgOk P) (v : List Nat) (i : Nat) : nth (words P v) i ≤ 7 := nth_le fun x hx => by
  obtain ⟨p, hp, rfl⟩ := List.mem_map.mp hx
  exact nth_le (h.word p hp).hs
theorem put_fst {q : Ch} {m : Nat × Nat} : ((q.map fun o => if o.1 = m.1 then m else o).map (·.1)) = q.map (·.1) := by
  rw [List.map_map]
  exact List.map_congr_left fun o _ => by
    by_cases c : o.1 = m.1 <;> simp [c]
theorem put_mem {q : Ch} {m x : Nat × Nat} (h : x ∈ put q m) : x = m ∨ x ∈ q := by
  unfold put at h
  have key : x ∈ (q.map fun o => if o.1 = m.1 then m else o) → x = m ∨ x ∈ q := fun hx => by
    obtain ⟨o, ho, e⟩ := List.mem_map.mp hx
    split at e
    · exact .inl e.symm
    · exact .inr (e ▸ ho)
  simp only at h
  split at h
  · exact key h
  · rcases List.mem_append.mp h with h | h
    · exact key h
    · simp at h; exact .inl h
theorem put_nodup {q : Ch} {m : Nat × Nat} (h : (q.map (·.1)).Nodup) : ((put q m).map (·.1)).Nodup := by
  unfold put
  simp only
  split
  · rw [put_fst]; exact h
  · rename_i c
    rw [List.map_append, put_fst]
    refine List.nodup_append.mpr ⟨h, by simp, fun a ha b hb => ?_⟩
    simp at hb
    subst hb
    rintro rfl
    obtain ⟨o, ho, e⟩ := List.mem_map.mp ha
    exact c (List.mem_map.mpr ⟨o, ho, by rw [if_pos e]⟩)
/-- a queue of the program -/
structure QOk (P : Pg) (c : Ch) : Prop where
  q : ∀ m ∈ c, m.1 < P.pa.length
  w : ∀ m ∈ c, m.2 ≤ 7
  n : (c.map (·.1)).Nodup
theorem StOk.qok {P : Pg} {s : St} (h : StOk P s) : QOk P s.q := ⟨h.q, h.w, h.n⟩
theorem QOk.len {P : Pg} {q : Ch} (h : QOk P q) : q.length ≤ P.pa.length := by
  have := pigeon P.pa.length (q.map (·.1)) h.n fun x hx => by
    obtain ⟨m, hm, rfl⟩ := List.mem_map.mp hx
    exact h.q m hm
  simpa using this
theorem QOk.put {P : Pg} {q : Ch} (h : QOk P q) {m : Nat × Nat} (h1 : m.1 < P.pa.length) (h2 : m.2 ≤ 7) : QOk P (put q m) :=
  ⟨fun x hx => (put_mem hx).elim (fun e => e ▸ h1) (h.q x), fun x hx => (put_mem hx).elim (fun e => e ▸ h2) (h.w x), put_nodup h.n⟩
theorem nth_set {v : List Nat} {i j x : Nat} (h : i < v.length) : nth (v.set i x) j = if j = i then x else nth v j := by
  unfold nth
  by_cases c : j = i
  · subst c; simp [h]
  · rw [if_neg c]
    simp only [List.getD_eq_getElem?_getD]
    rw [List.getElem?_set_ne (Ne.symm c)]
theorem VOk.chg1 {P : Pg} {v : List Nat} (h : VOk P v) (hz : ∀ n ∈ P.sz, 1 ≤ n) {c : Nat × Nat} (hc : c.1 < P.sz.length) : VOk P (chg1 P v c) := by
  refine ⟨by rw [chg1_len]; exact h.l, fun i hi => ?_⟩
  unfold Pu.chg1
  rw [nth_set (by rw [h.l]; exact hc)]
  split
  · rename_i e; subst e
    have := hz _ (nth_mem hc)
    exact Nat.mod_lt _ (by omega)
  · exact h.v i hi
theorem VOk.changed {P : Pg} (hz : ∀ n ∈ P.sz, 1 ≤ n) : ∀ (ch : Ch) (v : List Nat), VOk P v → (∀ c ∈ ch, c.1 < P.sz.length) → VOk P (changed P v ch)
  | [], v, h, _ => h
  | c :: ch, v, h, hc => VOk.changed hz ch (Pu.chg1 P v c) (h.chg1 hz (hc c List.mem_cons_self)) fun d hd => hc d (List.mem_cons_of_mem _ hd)
theorem PgOk.sz1 {P : Pg} (h : PgOk P) : ∀ n ∈ P.sz, 1 ≤ n := fun n hn => by have := (h.sz n hn).1; omega
theorem nextFocus_lt {P : Pg} (h : PgOk P) {f : Nat} (hf : f < P.pa.length) : nextFocus P f < P.pa.length := by
  unfold nextFocus
  cases e : (((List.range P.pa.length).map fun i => (f + (i + 1)) % P.pa.length).find? fun p => decide (p ∉ P.sk)) with
  | none => exact hf
  | some x =>
    have := List.mem_of_find?_eq_some e
    obtain ⟨i, _, rfl⟩ := List.mem_map.mp this
    exact Nat.mod_lt _ (by omega)
theorem QOk.sayAll {P : Pg} (hP : PgOk P) (v w : List Nat) : ∀ (lv : List Nat) (q : Ch), (∀ i ∈ lv, i < P.pa.length) → QOk P q → QOk P (lv.foldl (fun q p => if nth (words P w) p ≠ nth (words P v) p then Pu.put q (p, nth (words P w) p) else q) q)
  | [], q, _, h => h
  | p :: lv, q, hl, h => by
    rw [List.foldl_cons]
    refine QOk.sayAll hP v w lv _ (fun i hi => hl i (List.mem_cons_of_mem _ hi)) ?_
    split
    · exact h.put (hl p List.mem_cons_self) (words_le hP w p)
    · exact h
theorem press_some {P : Pg} {i : Nat} (h : isPress P i = true) : ∃ p c, P.pa[i]? = some p ∧ p.press = some c := by
  unfold isPress at h
  cases e : P.pa[i]? with
  | none => rw [e] at h; cases h
  | some p =>
    rw [e] at h
    obtain ⟨c, hc⟩ := Option.isSome_iff_exists.mp h
    exact ⟨p, c, rfl, hc⟩
theorem act_in {P : Pg} {s : St} {a : Act} (h : a ∈ acts P s) : (a = .speak ∧ s.q ≠ []) ∨ a = .next ∨ actIn P s.f a := by
  rw [acts_eq] at h
  simp only [List.mem_append, List.mem_map, List.mem_cons, List.not_mem_nil, or_false, List.mem_filter, List.mem_range] at h
  rcases h with (((⟨i, ⟨_, hi⟩, rfl⟩ | rfl) | h) | ⟨i, hi, rfl⟩) | h
  · exact .inr (.inr (press_some hi))
  · exact .inr (.inl rfl)
  · split at h
    · rename_i c
      simp at h; subst h
      exact .inr (.inr (press_some c))
    · cases h
  · exact .inr (.inr hi)
  · split at h
    · cases h
    · rename_i c; simp at h; exact .inl ⟨h, c⟩
theorem changes_ok {P : Pg} (hP : PgOk P) {f : Nat} {a : Act} (h : actIn P f a) : ChOk P.sz (changesOf P f a) := by
  cases a with
  | tick i =>
    have hi : i < P.tk.length := h
    have : P.tk.getD i [] ∈ P.tk := by rw [List.getD_eq_getElem?_getD, List.getElem?_eq_getElem hi]; exact List.getElem_mem hi
    exact hP.tk _ this
  | press =>
    obtain ⟨p, c, h1, h2⟩ := h
    have : changesOf P f .press = c := by simp [changesOf, pressOf, h1, h2]
    rw [this]
    exact hP.press p (List.mem_of_getElem? h1) c h2
  | point i =>
    obtain ⟨p, c, h1, h2⟩ := h
    have : changesOf P f (.point i) = c := by simp [changesOf, pressOf, h1, h2]
    rw [this]
    exact hP.press p (List.mem_of_getElem? h1) c h2
  | next => exact h.elim
  | speak => exact h.elim
/-- behind a change -/
theorem after_chg {P : Pg} {s : St} {a : Act} (h : actIn P s.f a) : after P s a = (⟨changed P s.v (changesOf P s.f a), s.f, sayAll P s.v (changed P s.v (changesOf P s.f a)) s.q⟩, none) := by
  cases a with
  | next => exact h.elim
  | speak => exact h.elim
  | _ => rfl
theorem StOk.after {P : Pg} (hP : PgOk P) {s : St} (hs : StOk P s) {a : Act} (ha : a ∈ acts P s) : StOk P (after P s a).1 := by
  rcases act_in ha with ⟨rfl, _⟩ | rfl | h
  · exact ⟨hs.l, hs.v, hs.f, fun m hm => hs.q m (List.mem_of_mem_drop hm), fun m hm => hs.w m (List.mem_of_mem_drop hm), (List.drop_sublist 1 s.q |>.map (·.1)).nodup hs.n⟩
  · have hf := nextFocus_lt hP hs.f
    have hq := hs.qok.put (m := (nextFocus P s.f, nth (words P s.v) (nextFocus P s.f))) hf (words_le hP _ _)
    exact ⟨hs.l, hs.v, hf, hq.q, hq.w, hq.n⟩
  · rw [after_chg h]
    have hc := changes_ok hP h
    have hv := VOk.changed hP.sz1 (changesOf P s.f a) s.v hs.vok fun c hc' => (hc.c c hc').1
    have hq := QOk.sayAll hP s.v (changed P s.v (changesOf P s.f a)) P.lv s.q hP.lv hs.qok
    exact ⟨hv.l, hv.v, hs.f, hq.q, hq.w, hq.n⟩
theorem StOk.start {P : Pg} (hP : PgOk P) : StOk P (start P) := by
  refine ⟨by simp [Pu.start], fun i hi => ?_, by have := hP.p1; exact this, by simp [Pu.start], by simp [Pu.start], by simp [Pu.start]⟩
  have h1 := hP.sz1 _ (nth_mem hi)
  have : nth (Pu.start P).v i = 0 := by simp [Pu.start, nth, hi]
  omega
end Pu

set_option Elab.async false
set_option linter.all false
set_option maxRecDepth 100000
set_option maxHeartbeats 1000000
/-! Pu, part M: after, reading, sight. -/
namespace Pu
open PySem Tk Tk.W
/-- what after hands back -/
abbrev eR (r : St × Option (Nat × Nat)) : PyData := .tuple [eS r.1, eSp r.2]
theorem word_str {i : Nat} {w : Str} {s : S} {a : Act} {Q : Bool → S → Prop} (hw : PyData.strOk w = true) (h : s.Γ[i]? = some (some (.d (eA a)))) : WB (fTst (f2 dEq (fIxV i (fC (.int 0))) (fC (.str w)))) s Q = Q (aW a == w) s := by
  unfold WB
  rw [word_ev hw h, wv_some]
theorem sayFold_none (P : Pg) (v w : List Nat) (q : Ch) : sayAll P v w q = P.lv.foldl (fun q p => if nth (words P w) p ≠ nth (words P v) p then put q (p, nth (words P w) p) else q) q := rfl
theorem cut1 (q : Ch) : Tk.cutL (q.map eP) (some 1) none = (q.drop 1).map eP := by
  unfold Tk.cutL
  rw [show (some (1 : Int)) = some ((1 : Nat) : Int) from rfl, HT.sIx_nat, HT.sIx_none]
  cases q with
  | nil => rfl
  | cons x q =>
    have e : min 1 ((x :: q).map eP).length = 1 := by simp
    rw [e]
    simp [List.take_of_length_le]
theorem after_wc {A : Ad} {l : LS} {P : Pg} {s : St} {a : Act} {Q : AV → LS → Prop} (h : PgOk P) (hs : StOk P s) (ha : a ∈ acts P s) : WC (g_after A) [P.av, .d (eS s), .d (eA a)] l Q = Q (.d (eR (after P s a))) l := by
  suffices H : WC (g_after A) [P.av, .d (eS s), .d (eA a)] l fun r t => r = .d (eR (after P s a)) ∧ t = l by
    obtain ⟨⟨r, t⟩, e, rfl, rfl⟩ := H
    unfold WC
    rw [e, wv_some]
  have hb := line_big
  have hq := hs.qok.len
  have h4 := h.p4
  unfold g_after b_after
  rw [wc_den, enter_eq]
  simp only [List.map_cons, List.map_nil, List.length_cons, List.length_nil, List.replicate, List.cons_append, List.nil_append, Nat.reduceAdd, Nat.reduceSub]
  have e1 : dNotIn (.d (eA a)) (.d (eAs (acts P s))) = some (.d (.bool (!decide (a ∈ acts P s)))) := dNotIn_l eA_gd eA_inj _ _
  have w1 := fun Q => word_str (i := 2) (s := ⟨[some P.av, some (.d (eS s)), some (.d (eA a)), some (.d (eNs s.v)), some (.d (eN s.f)), some (.d (ePs s.q)), none, none, none, none], l⟩) (a := a) (Q := Q) ok_speak rfl
  have w2 := fun Q => word_str (i := 2) (s := ⟨[some P.av, some (.d (eS s)), some (.d (eA a)), some (.d (eNs s.v)), some (.d (eN s.f)), some (.d (ePs s.q)), none, none, none, none], l⟩) (a := a) (Q := Q) ok_next rfl
  have hd : decide (a ∈ acts P s) = true := decide_eq_true ha
  rcases act_in ha with ⟨rfl, hne⟩ | rfl | hin
  · have e0 : (aW .speak == "speak") = true := by decide +kernel
    obtain ⟨m, hm⟩ : ∃ m, s.q[0]? = some m := by
      cases hq : s.q with
      | nil => exact absurd hq hne
      | cons m q => exact ⟨m, rfl⟩
    have ed : dSl (.d (ePs s.q)) (some 1) none = some (.d (.tuple (Tk.cutL (s.q.map eP) (some 1) none))) := rfl
    rw [cut1] at ed
    simp only [↓ws_seq, ↓ws_set, ↓ws_setL, ↓ws_setD, ↓ws_asg, ↓ws_ret, ↓ws_retN, ↓ws_if, ↓ws_skip, ↓ws_break, ↓ws_cont, ↓ws_never, ↓we_var, ↓we_C, ↓we_fn, ↓we_f2, ↓we_f1, ↓we_chain, ↓wb_tst, ↓wb_tru, ↓wb_and, ↓wb_or, ↓wb_not, ↓wb_yes, ↓we_andV, ↓we_orV, ↓we_notV, ↓we_if, ↓wa_nil, ↓wa_cons, ↓we_tup, ↓wl_lst, ↓we_ofL, ↓wl_it, ↓we_CB, ↓wl_CL, ↓we_call, ↓wg_nm, ↓wgs_nil, ↓wgs_cons, ↓ks_nx, ↓ks_rt, ↓ks_bk, ↓ks_ct, ↓kr_rt, ↓kr_nx, ↓kt_nx, ↓kt_ct, ↓kt_bk, ↓kt_rt, ↓wv_some, ↓wtst_b, ↓wif_t, ↓wif_f, ↓wif_not, ↓we_lenV, ↓we_ixV, ↓we_inV, ↓ws_setIx, ↓wo_none, ↓wo_some, ↓we_sl, ↓wd_disp1, ↓wt_nil, ↓wt_cons, ↓we_dispT, ↓we_make, ↓ws_lsSet1, ↓ws_lsSet2, ↓ws_for, ↓wl_lc, ↓wl_rng1', ↓wl_rng2', ↓wl_enumT', List.getElem?_cons_zero, List.getElem?_cons_succ, List.set_cons_zero, List.set_cons_succ, Option.bind_some, id, rdV_av, rdV_d, rdV_lp, rdV_fn, rdV_ft, rdV_fd, rdV_ml, rdV_md, lenOf_ml, lenOf_l, lenOf_t, datOf_d, mlOf_ml, lstOf_l, intOf_i, seqOf_t, seqOf_l, dCmp_i, isLp_lp, avIx_ml, avIx_l, avIx_t, wv_map, dMod_p, dDiv_p, dAdd_t, dAdd_l, enumOf_t, rngOf_1, rngOf_2, Option.isSome_some, ↓reduceIte, true_and, and_true, rng_nat', Int.toNat_natCast, wipeG_n, wipeG_c, wif_dec, dats_nil, dats_d, dAdd_i, dSub_i, dMul_i, dIx_t, dIx_l, at0, at1, at2, dNeg_i, dTuple_l, dTuple_t, dList_l, dList_t, dInt_i, dLen_l, dLen_t, dPr_sz, dPr_pa, dPr_tk, dPr_lv, dPr_sk, ws_ls1', ws_ls2', wg_tp', ws_app', ws_ext', rdV_non, Option.map_some, List.length_cons, List.length_nil, acts_wc h hs.f, e1, hd, Bool.not_true, aW_at, dEq_str (aW_ok _) ok_speak, e0, ed]
    refine wv_atM (i := 0) hm ?_
    have hm' : s.q.head? = some m := by rw [List.head?_eq_getElem?]; exact hm
    simp only [after, hm']
    rfl
  · have e0 : (aW .next == "speak") = false := by decide +kernel
    have e2 : (aW .next == "next") = true := by decide +kernel
    have hf := nextFocus_lt h hs.f
    simp only [↓ws_seq, ↓ws_set, ↓ws_setL, ↓ws_setD, ↓ws_asg, ↓ws_ret, ↓ws_retN, ↓ws_if, ↓ws_skip, ↓ws_break, ↓ws_cont, ↓ws_never, ↓we_var, ↓we_C, ↓we_fn, ↓we_f2, ↓we_f1, ↓we_chain, ↓wb_tst, ↓wb_tru, ↓wb_and, ↓wb_or, ↓wb_not, ↓wb_yes, ↓we_andV, ↓we_orV, ↓we_notV, ↓we_if, ↓wa_nil, ↓wa_cons, ↓we_tup, ↓wl_lst, ↓we_ofL, ↓wl_it, ↓we_CB, ↓wl_CL, ↓we_call, ↓wg_nm, ↓wgs_nil, ↓wgs_cons, ↓ks_nx, ↓ks_rt, ↓ks_bk, ↓ks_ct, ↓kr_rt, ↓kr_nx, ↓kt_nx, ↓kt_ct, ↓kt_bk, ↓kt_rt, ↓wv_some, ↓wtst_b, ↓wif_t, ↓wif_f, ↓wif_not, ↓we_lenV, ↓we_ixV, ↓we_inV, ↓ws_setIx, ↓wo_none, ↓wo_some, ↓we_sl, ↓wd_disp1, ↓wt_nil, ↓wt_cons, ↓we_dispT, ↓we_make, ↓ws_lsSet1, ↓ws_lsSet2, ↓ws_for, ↓wl_lc, ↓wl_rng1', ↓wl_rng2', ↓wl_enumT', List.getElem?_cons_zero, List.getElem?_cons_succ, List.set_cons_zero, List.set_cons_succ, Option.bind_some, id, rdV_av, rdV_d, rdV_lp, rdV_fn, rdV_ft, rdV_fd, rdV_ml, rdV_md, lenOf_ml, lenOf_l, lenOf_t, datOf_d, mlOf_ml, lstOf_l, intOf_i, seqOf_t, seqOf_l, dCmp_i, isLp_lp, avIx_ml, avIx_l, avIx_t, wv_map, dMod_p, dDiv_p, dAdd_t, dAdd_l, enumOf_t, rngOf_1, rngOf_2, Option.isSome_some, ↓reduceIte, true_and, and_true, rng_nat', Int.toNat_natCast, wipeG_n, wipeG_c, wif_dec, dats_nil, dats_d, dAdd_i, dSub_i, dMul_i, dIx_t, dIx_l, at0, at1, at2, dNeg_i, dTuple_l, dTuple_t, dList_l, dList_t, dInt_i, dLen_l, dLen_t, dPr_sz, dPr_pa, dPr_tk, dPr_lv, dPr_sk, ws_ls1', ws_ls2', wg_tp', ws_app', ws_ext', rdV_non, Option.map_some, List.length_cons, List.length_nil, acts_wc h hs.f, e1, hd, Bool.not_true, aW_at, dEq_str (aW_ok _) ok_speak, dEq_str (aW_ok _) ok_next, e0, e2, nextFocus_wc h, words_wc h hs.vok]
    refine wv_atN (by rw [words_len]; exact hf) ?_
    have := fun Q => put_wc (A := A) (l := l) (Q := Q) (q := s.q) (m := (nextFocus P s.f, nth (words P s.v) (nextFocus P s.f))) (by omega : s.q.length ≤ 100)
    simp only [↓ws_seq, ↓ws_set, ↓ws_setL, ↓ws_setD, ↓ws_asg, ↓ws_ret, ↓ws_retN, ↓ws_if, ↓ws_skip, ↓ws_break, ↓ws_cont, ↓ws_never, ↓we_var, ↓we_C, ↓we_fn, ↓we_f2, ↓we_f1, ↓we_chain, ↓wb_tst, ↓wb_tru, ↓wb_and, ↓wb_or, ↓wb_not, ↓wb_yes, ↓we_andV, ↓we_orV, ↓we_notV, ↓we_if, ↓wa_nil, ↓wa_cons, ↓we_tup, ↓wl_lst, ↓we_ofL, ↓wl_it, ↓we_CB, ↓wl_CL, ↓we_call, ↓wg_nm, ↓wgs_nil, ↓wgs_cons, ↓ks_nx, ↓ks_rt, ↓ks_bk, ↓ks_ct, ↓kr_rt, ↓kr_nx, ↓kt_nx, ↓kt_ct, ↓kt_bk, ↓kt_rt, ↓wv_some, ↓wtst_b, ↓wif_t, ↓wif_f, ↓wif_not, ↓we_lenV, ↓we_ixV, ↓we_inV, ↓ws_setIx, ↓wo_none, ↓wo_some, ↓we_sl, ↓wd_disp1, ↓wt_nil, ↓wt_cons, ↓we_dispT, ↓we_make, ↓ws_lsSet1, ↓ws_lsSet2, ↓ws_for, ↓wl_lc, ↓wl_rng1', ↓wl_rng2', ↓wl_enumT', List.getElem?_cons_zero, List.getElem?_cons_succ, List.set_cons_zero, List.set_cons_succ, Option.bind_some, id, rdV_av, rdV_d, rdV_lp, rdV_fn, rdV_ft, rdV_fd, rdV_ml, rdV_md, lenOf_ml, lenOf_l, lenOf_t, datOf_d, mlOf_ml, lstOf_l, intOf_i, seqOf_t, seqOf_l, dCmp_i, isLp_lp, avIx_ml, avIx_l, avIx_t, wv_map, dMod_p, dDiv_p, dAdd_t, dAdd_l, enumOf_t, rngOf_1, rngOf_2, Option.isSome_some, ↓reduceIte, true_and, and_true, rng_nat', Int.toNat_natCast, wipeG_n, wipeG_c, wif_dec, dats_nil, dats_d, dAdd_i, dSub_i, dMul_i, dIx_t, dIx_l, at0, at1, at2, dNeg_i, dTuple_l, dTuple_t, dList_l, dList_t, dInt_i, dLen_l, dLen_t, dPr_sz, dPr_pa, dPr_tk, dPr_lv, dPr_sk, ws_ls1', ws_ls2', wg_tp', ws_app', ws_ext', rdV_non, Option.map_some, List.length_cons, List.length_nil, this]
    rfl
  · have e0 : (aW a == "speak") = false := by
      cases a with
      | next => exact hin.elim
      | speak => exact hin.elim
      | press => decide +kernel
      | point i => exact (by decide +kernel : (("point" : Str) == "speak") = false)
      | tick i => exact (by decide +kernel : (("tick" : Str) == "speak") = false)
    have e2 : (aW a == "next") = false := by
      cases a with
      | next => exact hin.elim
      | speak => exact hin.elim
      | press => decide +kernel
      | point i => exact (by decide +kernel : (("point" : Str) == "next") = false)
      | tick i => exact (by decide +kernel : (("tick" : Str) == "next") = false)
    have hc := changes_ok h hin
    have hv := VOk.changed h.sz1 (changesOf P s.f a) s.v hs.vok fun c hc' => (hc.c c hc').1
    simp only [↓ws_seq, ↓ws_set, ↓ws_setL, ↓ws_setD, ↓ws_asg, ↓ws_ret, ↓ws_retN, ↓ws_if, ↓ws_skip, ↓ws_break, ↓ws_cont, ↓ws_never, ↓we_var, ↓we_C, ↓we_fn, ↓we_f2, ↓we_f1, ↓we_chain, ↓wb_tst, ↓wb_tru, ↓wb_and, ↓wb_or, ↓wb_not, ↓wb_yes, ↓we_andV, ↓we_orV, ↓we_notV, ↓we_if, ↓wa_nil, ↓wa_cons, ↓we_tup, ↓wl_lst, ↓we_ofL, ↓wl_it, ↓we_CB, ↓wl_CL, ↓we_call, ↓wg_nm, ↓wgs_nil, ↓wgs_cons, ↓ks_nx, ↓ks_rt, ↓ks_bk, ↓ks_ct, ↓kr_rt, ↓kr_nx, ↓kt_nx, ↓kt_ct, ↓kt_bk, ↓kt_rt, ↓wv_some, ↓wtst_b, ↓wif_t, ↓wif_f, ↓wif_not, ↓we_lenV, ↓we_ixV, ↓we_inV, ↓ws_setIx, ↓wo_none, ↓wo_some, ↓we_sl, ↓wd_disp1, ↓wt_nil, ↓wt_cons, ↓we_dispT, ↓we_make, ↓ws_lsSet1, ↓ws_lsSet2, ↓ws_for, ↓wl_lc, ↓wl_rng1', ↓wl_rng2', ↓wl_enumT', List.getElem?_cons_zero, List.getElem?_cons_succ, List.set_cons_zero, List.set_cons_succ, Option.bind_some, id, rdV_av, rdV_d, rdV_lp, rdV_fn, rdV_ft, rdV_fd, rdV_ml, rdV_md, lenOf_ml, lenOf_l, lenOf_t, datOf_d, mlOf_ml, lstOf_l, intOf_i, seqOf_t, seqOf_l, dCmp_i, isLp_lp, avIx_ml, avIx_l, avIx_t, wv_map, dMod_p, dDiv_p, dAdd_t, dAdd_l, enumOf_t, rngOf_1, rngOf_2, Option.isSome_some, ↓reduceIte, true_and, and_true, rng_nat', Int.toNat_natCast, wipeG_n, wipeG_c, wif_dec, dats_nil, dats_d, dAdd_i, dSub_i, dMul_i, dIx_t, dIx_l, at0, at1, at2, dNeg_i, dTuple_l, dTuple_t, dList_l, dList_t, dInt_i, dLen_l, dLen_t, dPr_sz, dPr_pa, dPr_tk, dPr_lv, dPr_sk, ws_ls1', ws_ls2', wg_tp', ws_app', ws_ext', rdV_non, Option.map_some, List.length_cons, List.length_nil, acts_wc h hs.f, e1, hd, Bool.not_true, aW_at, dEq_str (aW_ok _) ok_speak, dEq_str (aW_ok _) ok_next, e0, e2, changesOf_wc hin, changed_wc h hs.vok fun c hc' => (hc.c c hc').1, words_wc h hs.vok, words_wc h hv]
    rw [after_chg hin]
    generalize hw : changed P s.v (changesOf P s.f a) = w at *
    refine ws_forGo eN (fun done rest t => (∀ i ∈ rest, i < P.pa.length) ∧ ∃ q o, QOk P q ∧ rest.foldl (fun q p => if nth (words P w) p ≠ nth (words P s.v) p then put q (p, nth (words P w) p) else q) q = sayAll P s.v w s.q ∧
      t = ⟨[some P.av, some (.d (eS s)), some (.d (eA a)), some (.d (eNs s.v)), some (.d (eN s.f)), some (.d (ePs q)), some (.d (eNs w)), some (.d (eNs (words P s.v))), some (.d (eNs (words P w))), o], l⟩) P.lv [] _ ⟨h.lv, s.q, none, hs.qok, rfl, rfl⟩ ?_ ?_
    · rintro done x rest t ⟨e1, q, o, hq, e2, rfl⟩
      have hx := e1 x List.mem_cons_self
      have e1' := fun i hi => e1 i (List.mem_cons_of_mem _ hi)
      have hl := hq.len
      simp only [↓ws_seq, ↓ws_set, ↓ws_setL, ↓ws_setD, ↓ws_asg, ↓ws_ret, ↓ws_retN, ↓ws_if, ↓ws_skip, ↓ws_break, ↓ws_cont, ↓ws_never, ↓we_var, ↓we_C, ↓we_fn, ↓we_f2, ↓we_f1, ↓we_chain, ↓wb_tst, ↓wb_tru, ↓wb_and, ↓wb_or, ↓wb_not, ↓wb_yes, ↓we_andV, ↓we_orV, ↓we_notV, ↓we_if, ↓wa_nil, ↓wa_cons, ↓we_tup, ↓wl_lst, ↓we_ofL, ↓wl_it, ↓we_CB, ↓wl_CL, ↓we_call, ↓wg_nm, ↓wgs_nil, ↓wgs_cons, ↓ks_nx, ↓ks_rt, ↓ks_bk, ↓ks_ct, ↓kr_rt, ↓kr_nx, ↓kt_nx, ↓kt_ct, ↓kt_bk, ↓kt_rt, ↓wv_some, ↓wtst_b, ↓wif_t, ↓wif_f, ↓wif_not, ↓we_lenV, ↓we_ixV, ↓we_inV, ↓ws_setIx, ↓wo_none, ↓wo_some, ↓we_sl, ↓wd_disp1, ↓wt_nil, ↓wt_cons, ↓we_dispT, ↓we_make, ↓ws_lsSet1, ↓ws_lsSet2, ↓ws_for, ↓wl_lc, ↓wl_rng1', ↓wl_rng2', ↓wl_enumT', List.getElem?_cons_zero, List.getElem?_cons_succ, List.set_cons_zero, List.set_cons_succ, Option.bind_some, id, rdV_av, rdV_d, rdV_lp, rdV_fn, rdV_ft, rdV_fd, rdV_ml, rdV_md, lenOf_ml, lenOf_l, lenOf_t, datOf_d, mlOf_ml, lstOf_l, intOf_i, seqOf_t, seqOf_l, dCmp_i, isLp_lp, avIx_ml, avIx_l, avIx_t, wv_map, dMod_p, dDiv_p, dAdd_t, dAdd_l, enumOf_t, rngOf_1, rngOf_2, Option.isSome_some, ↓reduceIte, true_and, and_true, rng_nat', Int.toNat_natCast, wipeG_n, wipeG_c, wif_dec, dats_nil, dats_d, dAdd_i, dSub_i, dMul_i, dIx_t, dIx_l, at0, at1, at2, dNeg_i, dTuple_l, dTuple_t, dList_l, dList_t, dInt_i, dLen_l, dLen_t, dPr_sz, dPr_pa, dPr_tk, dPr_lv, dPr_sk, ws_ls1', ws_ls2', wg_tp', ws_app', ws_ext', rdV_non, Option.map_some, List.length_cons, List.length_nil]
      refine wv_atN (by rw [words_len]; exact hx) ?_
      refine wv_atN (by rw [words_len]; exact hx) ?_
      rw [List.foldl_cons] at e2
      have e3 : ((nth (words P w) x : Nat) : Int) ≠ ((nth (words P s.v) x : Nat) : Int) ↔ nth (words P w) x ≠ nth (words P s.v) x := by omega
      simp only [↓ws_seq, ↓ws_set, ↓ws_setL, ↓ws_setD, ↓ws_asg, ↓ws_ret, ↓ws_retN, ↓ws_if, ↓ws_skip, ↓ws_break, ↓ws_cont, ↓ws_never, ↓we_var, ↓we_C, ↓we_fn, ↓we_f2, ↓we_f1, ↓we_chain, ↓wb_tst, ↓wb_tru, ↓wb_and, ↓wb_or, ↓wb_not, ↓wb_yes, ↓we_andV, ↓we_orV, ↓we_notV, ↓we_if, ↓wa_nil, ↓wa_cons, ↓we_tup, ↓wl_lst, ↓we_ofL, ↓wl_it, ↓we_CB, ↓wl_CL, ↓we_call, ↓wg_nm, ↓wgs_nil, ↓wgs_cons, ↓ks_nx, ↓ks_rt, ↓ks_bk, ↓ks_ct, ↓kr_rt, ↓kr_nx, ↓kt_nx, ↓kt_ct, ↓kt_bk, ↓kt_rt, ↓wv_some, ↓wtst_b, ↓wif_t, ↓wif_f, ↓wif_not, ↓we_lenV, ↓we_ixV, ↓we_inV, ↓ws_setIx, ↓wo_none, ↓wo_some, ↓we_sl, ↓wd_disp1, ↓wt_nil, ↓wt_cons, ↓we_dispT, ↓we_make, ↓ws_lsSet1, ↓ws_lsSet2, ↓ws_for, ↓wl_lc, ↓wl_rng1', ↓wl_rng2', ↓wl_enumT', List.getElem?_cons_zero, List.getElem?_cons_succ, List.set_cons_zero, List.set_cons_succ, Option.bind_some, id, rdV_av, rdV_d, rdV_lp, rdV_fn, rdV_ft, rdV_fd, rdV_ml, rdV_md, lenOf_ml, lenOf_l, lenOf_t, datOf_d, mlOf_ml, lstOf_l, intOf_i, seqOf_t, seqOf_l, dCmp_i, isLp_lp, avIx_ml, avIx_l, avIx_t, wv_map, dMod_p, dDiv_p, dAdd_t, dAdd_l, enumOf_t, rngOf_1, rngOf_2, Option.isSome_some, ↓reduceIte, true_and, and_true, rng_nat', Int.toNat_natCast, wipeG_n, wipeG_c, wif_dec, dats_nil, dats_d, dAdd_i, dSub_i, dMul_i, dIx_t, dIx_l, at0, at1, at2, dNeg_i, dTuple_l, dTuple_t, dList_l, dList_t, dInt_i, dLen_l, dLen_t, dPr_sz, dPr_pa, dPr_tk, dPr_lv, dPr_sk, ws_ls1', ws_ls2', wg_tp', ws_app', ws_ext', rdV_non, Option.map_some, List.length_cons, List.length_nil, dNe_i, e3]
      split
      · rename_i c
        rw [if_pos c] at e2
        have := fun Q => put_wc (A := A) (l := l) (Q := Q) (q := q) (m := (x, nth (words P w) x)) (by omega : q.length ≤ 100)
        refine wv_atN (by rw [words_len]; exact hx) ?_
        simp only [↓ws_seq, ↓ws_set, ↓ws_setL, ↓ws_setD, ↓ws_asg, ↓ws_ret, ↓ws_retN, ↓ws_if, ↓ws_skip, ↓ws_break, ↓ws_cont, ↓ws_never, ↓we_var, ↓we_C, ↓we_fn, ↓we_f2, ↓we_f1, ↓we_chain, ↓wb_tst, ↓wb_tru, ↓wb_and, ↓wb_or, ↓wb_not, ↓wb_yes, ↓we_andV, ↓we_orV, ↓we_notV, ↓we_if, ↓wa_nil, ↓wa_cons, ↓we_tup, ↓wl_lst, ↓we_ofL, ↓wl_it, ↓we_CB, ↓wl_CL, ↓we_call, ↓wg_nm, ↓wgs_nil, ↓wgs_cons, ↓ks_nx, ↓ks_rt, ↓ks_bk, ↓ks_ct, ↓kr_rt, ↓kr_nx, ↓kt_nx, ↓kt_ct, ↓kt_bk, ↓kt_rt, ↓wv_some, ↓wtst_b, ↓wif_t, ↓wif_f, ↓wif_not, ↓we_lenV, ↓we_ixV, ↓we_inV, ↓ws_setIx, ↓wo_none, ↓wo_some, ↓we_sl, ↓wd_disp1, ↓wt_nil, ↓wt_cons, ↓we_dispT, ↓we_make, ↓ws_lsSet1, ↓ws_lsSet2, ↓ws_for, ↓wl_lc, ↓wl_rng1', ↓wl_rng2', ↓wl_enumT', List.getElem?_cons_zero, List.getElem?_cons_succ, List.set_cons_zero, List.set_cons_succ, Option.bind_some, id, rdV_av, rdV_d, rdV_lp, rdV_fn, rdV_ft, rdV_fd, rdV_ml, rdV_md, lenOf_ml, lenOf_l, lenOf_t, datOf_d, mlOf_ml, lstOf_l, intOf_i, seqOf_t, seqOf_l, dCmp_i, isLp_lp, avIx_ml, avIx_l, avIx_t, wv_map, dMod_p, dDiv_p, dAdd_t, dAdd_l, enumOf_t, rngOf_1, rngOf_2, Option.isSome_some, ↓reduceIte, true_and, and_true, rng_nat', Int.toNat_natCast, wipeG_n, wipeG_c, wif_dec, dats_nil, dats_d, dAdd_i, dSub_i, dMul_i, dIx_t, dIx_l, at0, at1, at2, dNeg_i, dTuple_l, dTuple_t, dList_l, dList_t, dInt_i, dLen_l, dLen_t, dPr_sz, dPr_pa, dPr_tk, dPr_lv, dPr_sk, ws_ls1', ws_ls2', wg_tp', ws_app', ws_ext', rdV_non, Option.map_some, List.length_cons, List.length_nil, this]
        exact ⟨e1', _, _, hq.put hx (words_le h _ _), e2, rfl⟩
      · rename_i c
        rw [if_neg c] at e2
        exact ⟨e1', q, _, hq, e2, rfl⟩
    · rintro t ⟨_, q, o, hq, e2, rfl⟩
      simp only [↓ws_seq, ↓ws_set, ↓ws_setL, ↓ws_setD, ↓ws_asg, ↓ws_ret, ↓ws_retN, ↓ws_if, ↓ws_skip, ↓ws_break, ↓ws_cont, ↓ws_never, ↓we_var, ↓we_C, ↓we_fn, ↓we_f2, ↓we_f1, ↓we_chain, ↓wb_tst, ↓wb_tru, ↓wb_and, ↓wb_or, ↓wb_not, ↓wb_yes, ↓we_andV, ↓we_orV, ↓we_notV, ↓we_if, ↓wa_nil, ↓wa_cons, ↓we_tup, ↓wl_lst, ↓we_ofL, ↓wl_it, ↓we_CB, ↓wl_CL, ↓we_call, ↓wg_nm, ↓wgs_nil, ↓wgs_cons, ↓ks_nx, ↓ks_rt, ↓ks_bk, ↓ks_ct, ↓kr_rt, ↓kr_nx, ↓kt_nx, ↓kt_ct, ↓kt_bk, ↓kt_rt, ↓wv_some, ↓wtst_b, ↓wif_t, ↓wif_f, ↓wif_not, ↓we_lenV, ↓we_ixV, ↓we_inV, ↓ws_setIx, ↓wo_none, ↓wo_some, ↓we_sl, ↓wd_disp1, ↓wt_nil, ↓wt_cons, ↓we_dispT, ↓we_make, ↓ws_lsSet1, ↓ws_lsSet2, ↓ws_for, ↓wl_lc, ↓wl_rng1', ↓wl_rng2', ↓wl_enumT', List.getElem?_cons_zero, List.getElem?_cons_succ, List.set_cons_zero, List.set_cons_succ, Option.bind_some, id, rdV_av, rdV_d, rdV_lp, rdV_fn, rdV_ft, rdV_fd, rdV_ml, rdV_md, lenOf_ml, lenOf_l, lenOf_t, datOf_d, mlOf_ml, lstOf_l, intOf_i, seqOf_t, seqOf_l, dCmp_i, isLp_lp, avIx_ml, avIx_l, avIx_t, wv_map, dMod_p, dDiv_p, dAdd_t, dAdd_l, enumOf_t, rngOf_1, rngOf_2, Option.isSome_some, ↓reduceIte, true_and, and_true, rng_nat', Int.toNat_natCast, wipeG_n, wipeG_c, wif_dec, dats_nil, dats_d, dAdd_i, dSub_i, dMul_i, dIx_t, dIx_l, at0, at1, at2, dNeg_i, dTuple_l, dTuple_t, dList_l, dList_t, dInt_i, dLen_l, dLen_t, dPr_sz, dPr_pa, dPr_tk, dPr_lv, dPr_sk, ws_ls1', ws_ls2', wg_tp', ws_app', ws_ext', rdV_non, Option.map_some, List.length_cons, List.length_nil]
      rw [← e2]
      exact rfl
theorem reading_wc {A : Ad} {l : LS} {P : Pg} {s : St} {Q : AV → LS → Prop} (h : PgOk P) (hs : VOk P s.v) : WC (g_reading A) [P.av, .d (eS s)] l Q = Q (.d (eNs (words P s.v ++ [s.f]))) l := by
  have hb := line_big
  have h4 := h.p4
  have e : (words P s.v).length + 1 ≤ sizeLine := by rw [words_len]; omega
  unfold g_reading b_reading
  rw [wc_den, enter_eq]
  simp only [List.map_cons, List.map_nil, List.length_cons, List.length_nil, List.replicate, List.cons_append, List.nil_append, Nat.reduceAdd, Nat.reduceSub]
  simp only [↓ws_seq, ↓ws_set, ↓ws_setL, ↓ws_setD, ↓ws_asg, ↓ws_ret, ↓ws_retN, ↓ws_if, ↓ws_skip, ↓ws_break, ↓ws_cont, ↓ws_never, ↓we_var, ↓we_C, ↓we_fn, ↓we_f2, ↓we_f1, ↓we_chain, ↓wb_tst, ↓wb_tru, ↓wb_and, ↓wb_or, ↓wb_not, ↓wb_yes, ↓we_andV, ↓we_orV, ↓we_notV, ↓we_if, ↓wa_nil, ↓wa_cons, ↓we_tup, ↓wl_lst, ↓we_ofL, ↓wl_it, ↓we_CB, ↓wl_CL, ↓we_call, ↓wg_nm, ↓wgs_nil, ↓wgs_cons, ↓ks_nx, ↓ks_rt, ↓ks_bk, ↓ks_ct, ↓kr_rt, ↓kr_nx, ↓kt_nx, ↓kt_ct, ↓kt_bk, ↓kt_rt, ↓wv_some, ↓wtst_b, ↓wif_t, ↓wif_f, ↓wif_not, ↓we_lenV, ↓we_ixV, ↓we_inV, ↓ws_setIx, ↓wo_none, ↓wo_some, ↓we_sl, ↓wd_disp1, ↓wt_nil, ↓wt_cons, ↓we_dispT, ↓we_make, ↓ws_lsSet1, ↓ws_lsSet2, ↓ws_for, ↓wl_lc, ↓wl_rng1', ↓wl_rng2', ↓wl_enumT', List.getElem?_cons_zero, List.getElem?_cons_succ, List.set_cons_zero, List.set_cons_succ, Option.bind_some, id, rdV_av, rdV_d, rdV_lp, rdV_fn, rdV_ft, rdV_fd, rdV_ml, rdV_md, lenOf_ml, lenOf_l, lenOf_t, datOf_d, mlOf_ml, lstOf_l, intOf_i, seqOf_t, seqOf_l, dCmp_i, isLp_lp, avIx_ml, avIx_l, avIx_t, wv_map, dMod_p, dDiv_p, dAdd_t, dAdd_l, enumOf_t, rngOf_1, rngOf_2, Option.isSome_some, ↓reduceIte, true_and, and_true, rng_nat', Int.toNat_natCast, wipeG_n, wipeG_c, wif_dec, dats_nil, dats_d, dAdd_i, dSub_i, dMul_i, dIx_t, dIx_l, at0, at1, at2, dNeg_i, dTuple_l, dTuple_t, dList_l, dList_t, dInt_i, dLen_l, dLen_t, dPr_sz, dPr_pa, dPr_tk, dPr_lv, dPr_sk, ws_ls1', ws_ls2', wg_tp', ws_app', ws_ext', rdV_non, Option.map_some, List.length_cons, List.length_nil, words_wc h hs, List.length_map, e, Nat.zero_add]
  show _ = Q (AV.d (.tuple ((words P s.v ++ [s.f]).map eN))) l
  rw [List.map_append]
  rfl
theorem sight_wc {A : Ad} {l : LS} {P : Pg} {s : St} {Q : AV → LS → Prop} (h : PgOk P) (hs : VOk P s.v) : WC (g_sight A) [P.av, .d (eS s)] l Q = Q (.d (eNs (looks P s.v ++ [s.f]))) l := by
  have hb := line_big
  have h4 := h.p4
  have e : (looks P s.v).length + 1 ≤ sizeLine := by rw [looks_len]; omega
  unfold g_sight b_sight
  rw [wc_den, enter_eq]
  simp only [List.map_cons, List.map_nil, List.length_cons, List.length_nil, List.replicate, List.cons_append, List.nil_append, Nat.reduceAdd, Nat.reduceSub]
  simp only [↓ws_seq, ↓ws_set, ↓ws_setL, ↓ws_setD, ↓ws_asg, ↓ws_ret, ↓ws_retN, ↓ws_if, ↓ws_skip, ↓ws_break, ↓ws_cont, ↓ws_never, ↓we_var, ↓we_C, ↓we_fn, ↓we_f2, ↓we_f1, ↓we_chain, ↓wb_tst, ↓wb_tru, ↓wb_and, ↓wb_or, ↓wb_not, ↓wb_yes, ↓we_andV, ↓we_orV, ↓we_notV, ↓we_if, ↓wa_nil, ↓wa_cons, ↓we_tup, ↓wl_lst, ↓we_ofL, ↓wl_it, ↓we_CB, ↓wl_CL, ↓we_call, ↓wg_nm, ↓wgs_nil, ↓wgs_cons, ↓ks_nx, ↓ks_rt, ↓ks_bk, ↓ks_ct, ↓kr_rt, ↓kr_nx, ↓kt_nx, ↓kt_ct, ↓kt_bk, ↓kt_rt, ↓wv_some, ↓wtst_b, ↓wif_t, ↓wif_f, ↓wif_not, ↓we_lenV, ↓we_ixV, ↓we_inV, ↓ws_setIx, ↓wo_none, ↓wo_some, ↓we_sl, ↓wd_disp1, ↓wt_nil, ↓wt_cons, ↓we_dispT, ↓we_make, ↓ws_lsSet1, ↓ws_lsSet2, ↓ws_for, ↓wl_lc, ↓wl_rng1', ↓wl_rng2', ↓wl_enumT', List.getElem?_cons_zero, List.getElem?_cons_succ, List.set_cons_zero, List.set_cons_succ, Option.bind_some, id, rdV_av, rdV_d, rdV_lp, rdV_fn, rdV_ft, rdV_fd, rdV_ml, rdV_md, lenOf_ml, lenOf_l, lenOf_t, datOf_d, mlOf_ml, lstOf_l, intOf_i, seqOf_t, seqOf_l, dCmp_i, isLp_lp, avIx_ml, avIx_l, avIx_t, wv_map, dMod_p, dDiv_p, dAdd_t, dAdd_l, enumOf_t, rngOf_1, rngOf_2, Option.isSome_some, ↓reduceIte, true_and, and_true, rng_nat', Int.toNat_natCast, wipeG_n, wipeG_c, wif_dec, dats_nil, dats_d, dAdd_i, dSub_i, dMul_i, dIx_t, dIx_l, at0, at1, at2, dNeg_i, dTuple_l, dTuple_t, dList_l, dList_t, dInt_i, dLen_l, dLen_t, dPr_sz, dPr_pa, dPr_tk, dPr_lv, dPr_sk, ws_ls1', ws_ls2', wg_tp', ws_app', ws_ext', rdV_non, Option.map_some, List.length_cons, List.length_nil, looks_wc h hs, List.length_map, e, Nat.zero_add]
  show _ = Q (AV.d (.tuple ((looks P s.v ++ [s.f]).map eN))) l
  rw [List.map_append]
  rfl
end Pu

set_option Elab.async false
set_option linter.all false
set_option maxRecDepth 100000
set_option maxHeartbeats 1000000
/-! Pu, part N: stale, unsaid, wanted. -/
namespace Pu
open PySem Tk Tk.W
theorem eSp_ne (sp : Option (Nat × Nat)) : dNe (.d (eSp sp)) (.d (.tuple [])) = some (.d (.bool sp.isSome)) := by
  cases sp with
  | none => rfl
  | some p => rfl
theorem eP_gd (p : Nat × Nat) : gd 50 (eP p) = true := rfl
theorem eP_inj' (a b : Nat × Nat) (h : eP a = eP b) : a = b := by rw [eP_inj] at h; exact h
theorem natNe {a b : Nat} : ((a : Int) ≠ (b : Int)) = (a ≠ b) := by simp only [ne_eq, cast_eq]
/-- a message of the program -/
def SpOk (P : Pg) (sp : Option (Nat × Nat)) : Prop := ∀ p, sp = some p → p.1 < P.pa.length
theorem after_sp {P : Pg} {s : St} (hs : StOk P s) (a : Act) : SpOk P (after P s a).2 := by
  intro p hp
  cases a with
  | speak =>
    have : s.q.head? = some p := hp
    exact hs.q p (List.mem_of_mem_head? this)
  | _ => cases hp
theorem isStale_wc {A : Ad} {l : LS} {P : Pg} {s b : St} {a : Act} {sp : Option (Nat × Nat)} {Q : AV → LS → Prop} (h : PgOk P) (hv : VOk P b.v) (hsp : SpOk P sp) : WC (g_is_stale A) [P.av, .d (eS s), .d (eA a), .d (eS b), .d (eSp sp)] l Q = Q (.d (.bool (stale P b sp))) l := by
  suffices H : WC (g_is_stale A) [P.av, .d (eS s), .d (eA a), .d (eS b), .d (eSp sp)] l fun r t => r = .d (.bool (stale P b sp)) ∧ t = l by
    obtain ⟨⟨r, t⟩, e, rfl, rfl⟩ := H
    unfold WC
    rw [e, wv_some]
  unfold g_is_stale b_is_stale
  rw [wc_den, enter_eq]
  simp only [List.map_cons, List.map_nil, List.length_cons, List.length_nil, List.replicate, List.cons_append, List.nil_append, Nat.reduceAdd, Nat.reduceSub, List.append_nil]
  simp only [↓ws_seq, ↓ws_set, ↓ws_setL, ↓ws_setD, ↓ws_asg, ↓ws_ret, ↓ws_retN, ↓ws_if, ↓ws_skip, ↓ws_break, ↓ws_cont, ↓ws_never, ↓we_var, ↓we_C, ↓we_fn, ↓we_f2, ↓we_f1, ↓we_chain, ↓wb_tst, ↓wb_tru, ↓wb_and, ↓wb_or, ↓wb_not, ↓wb_yes, ↓we_andV, ↓we_orV, ↓we_notV, ↓we_if, ↓wa_nil, ↓wa_cons, ↓we_tup, ↓wl_lst, ↓we_ofL, ↓wl_it, ↓we_CB, ↓wl_CL, ↓we_call, ↓wg_nm, ↓wgs_nil, ↓wgs_cons, ↓ks_nx, ↓ks_rt, ↓ks_bk, ↓ks_ct, ↓kr_rt, ↓kr_nx, ↓kt_nx, ↓kt_ct, ↓kt_bk, ↓kt_rt, ↓wv_some, ↓wtst_b, ↓wif_t, ↓wif_f, ↓wif_not, ↓we_lenV, ↓we_ixV, ↓we_inV, ↓ws_setIx, ↓wo_none, ↓wo_some, ↓we_sl, ↓wd_disp1, ↓wt_nil, ↓wt_cons, ↓we_dispT, ↓we_make, ↓ws_lsSet1, ↓ws_lsSet2, ↓ws_for, ↓wl_lc, ↓wl_rng1', ↓wl_rng2', ↓wl_enumT', List.getElem?_cons_zero, List.getElem?_cons_succ, List.set_cons_zero, List.set_cons_succ, Option.bind_some, id, rdV_av, rdV_d, rdV_lp, rdV_fn, rdV_ft, rdV_fd, rdV_ml, rdV_md, lenOf_ml, lenOf_l, lenOf_t, datOf_d, mlOf_ml, lstOf_l, intOf_i, seqOf_t, seqOf_l, dCmp_i, isLp_lp, avIx_ml, avIx_l, avIx_t, wv_map, dMod_p, dDiv_p, dAdd_t, dAdd_l, enumOf_t, rngOf_1, rngOf_2, Option.isSome_some, ↓reduceIte, true_and, and_true, rng_nat', Int.toNat_natCast, wipeG_n, wipeG_c, wif_dec, dats_nil, dats_d, dAdd_i, dSub_i, dMul_i, dIx_t, dIx_l, at0, at1, at2, dNeg_i, dTuple_l, dTuple_t, dList_l, dList_t, dInt_i, dLen_l, dLen_t, dPr_sz, dPr_pa, dPr_tk, dPr_lv, dPr_sk, ws_ls1', ws_ls2', wg_tp', ws_app', ws_ext', rdV_non, Option.map_some, List.length_cons, List.length_nil, eSp_ne]
  cases sp with
  | none => rfl
  | some p =>
    have hp : p.1 < P.pa.length := hsp p rfl
    simp only [↓ws_seq, ↓ws_set, ↓ws_setL, ↓ws_setD, ↓ws_asg, ↓ws_ret, ↓ws_retN, ↓ws_if, ↓ws_skip, ↓ws_break, ↓ws_cont, ↓ws_never, ↓we_var, ↓we_C, ↓we_fn, ↓we_f2, ↓we_f1, ↓we_chain, ↓wb_tst, ↓wb_tru, ↓wb_and, ↓wb_or, ↓wb_not, ↓wb_yes, ↓we_andV, ↓we_orV, ↓we_notV, ↓we_if, ↓wa_nil, ↓wa_cons, ↓we_tup, ↓wl_lst, ↓we_ofL, ↓wl_it, ↓we_CB, ↓wl_CL, ↓we_call, ↓wg_nm, ↓wgs_nil, ↓wgs_cons, ↓ks_nx, ↓ks_rt, ↓ks_bk, ↓ks_ct, ↓kr_rt, ↓kr_nx, ↓kt_nx, ↓kt_ct, ↓kt_bk, ↓kt_rt, ↓wv_some, ↓wtst_b, ↓wif_t, ↓wif_f, ↓wif_not, ↓we_lenV, ↓we_ixV, ↓we_inV, ↓ws_setIx, ↓wo_none, ↓wo_some, ↓we_sl, ↓wd_disp1, ↓wt_nil, ↓wt_cons, ↓we_dispT, ↓we_make, ↓ws_lsSet1, ↓ws_lsSet2, ↓ws_for, ↓wl_lc, ↓wl_rng1', ↓wl_rng2', ↓wl_enumT', List.getElem?_cons_zero, List.getElem?_cons_succ, List.set_cons_zero, List.set_cons_succ, Option.bind_some, id, rdV_av, rdV_d, rdV_lp, rdV_fn, rdV_ft, rdV_fd, rdV_ml, rdV_md, lenOf_ml, lenOf_l, lenOf_t, datOf_d, mlOf_ml, lstOf_l, intOf_i, seqOf_t, seqOf_l, dCmp_i, isLp_lp, avIx_ml, avIx_l, avIx_t, wv_map, dMod_p, dDiv_p, dAdd_t, dAdd_l, enumOf_t, rngOf_1, rngOf_2, Option.isSome_some, ↓reduceIte, true_and, and_true, rng_nat', Int.toNat_natCast, wipeG_n, wipeG_c, wif_dec, dats_nil, dats_d, dAdd_i, dSub_i, dMul_i, dIx_t, dIx_l, at0, at1, at2, dNeg_i, dTuple_l, dTuple_t, dList_l, dList_t, dInt_i, dLen_l, dLen_t, dPr_sz, dPr_pa, dPr_tk, dPr_lv, dPr_sk, ws_ls1', ws_ls2', wg_tp', ws_app', ws_ext', rdV_non, Option.map_some, List.length_cons, List.length_nil, Option.isSome_some, eSp, words_wc h hv]
    refine wv_atN (by rw [words_len]; exact hp) ?_
    simp only [↓ws_seq, ↓ws_set, ↓ws_setL, ↓ws_setD, ↓ws_asg, ↓ws_ret, ↓ws_retN, ↓ws_if, ↓ws_skip, ↓ws_break, ↓ws_cont, ↓ws_never, ↓we_var, ↓we_C, ↓we_fn, ↓we_f2, ↓we_f1, ↓we_chain, ↓wb_tst, ↓wb_tru, ↓wb_and, ↓wb_or, ↓wb_not, ↓wb_yes, ↓we_andV, ↓we_orV, ↓we_notV, ↓we_if, ↓wa_nil, ↓wa_cons, ↓we_tup, ↓wl_lst, ↓we_ofL, ↓wl_it, ↓we_CB, ↓wl_CL, ↓we_call, ↓wg_nm, ↓wgs_nil, ↓wgs_cons, ↓ks_nx, ↓ks_rt, ↓ks_bk, ↓ks_ct, ↓kr_rt, ↓kr_nx, ↓kt_nx, ↓kt_ct, ↓kt_bk, ↓kt_rt, ↓wv_some, ↓wtst_b, ↓wif_t, ↓wif_f, ↓wif_not, ↓we_lenV, ↓we_ixV, ↓we_inV, ↓ws_setIx, ↓wo_none, ↓wo_some, ↓we_sl, ↓wd_disp1, ↓wt_nil, ↓wt_cons, ↓we_dispT, ↓we_make, ↓ws_lsSet1, ↓ws_lsSet2, ↓ws_for, ↓wl_lc, ↓wl_rng1', ↓wl_rng2', ↓wl_enumT', List.getElem?_cons_zero, List.getElem?_cons_succ, List.set_cons_zero, List.set_cons_succ, Option.bind_some, id, rdV_av, rdV_d, rdV_lp, rdV_fn, rdV_ft, rdV_fd, rdV_ml, rdV_md, lenOf_ml, lenOf_l, lenOf_t, datOf_d, mlOf_ml, lstOf_l, intOf_i, seqOf_t, seqOf_l, dCmp_i, isLp_lp, avIx_ml, avIx_l, avIx_t, wv_map, dMod_p, dDiv_p, dAdd_t, dAdd_l, enumOf_t, rngOf_1, rngOf_2, Option.isSome_some, ↓reduceIte, true_and, and_true, rng_nat', Int.toNat_natCast, wipeG_n, wipeG_c, wif_dec, dats_nil, dats_d, dAdd_i, dSub_i, dMul_i, dIx_t, dIx_l, at0, at1, at2, dNeg_i, dTuple_l, dTuple_t, dList_l, dList_t, dInt_i, dLen_l, dLen_t, dPr_sz, dPr_pa, dPr_tk, dPr_lv, dPr_sk, ws_ls1', ws_ls2', wg_tp', ws_app', ws_ext', rdV_non, Option.map_some, List.length_cons, List.length_nil, dNe_i, natNe]
    rfl
theorem any_snoc {α : Type} (p : α → Bool) (xs : List α) (x : α) : (xs ++ [x]).any p = (xs.any p || p x) := by simp
def unsaidAt (P : Pg) (s b : St) (i : Nat) : Bool := decide (nth (looks P b.v) i ≠ nth (looks P s.v) i) && !decide ((i, nth (words P b.v) i) ∈ b.q)
theorem unsaid_eq (P : Pg) (s b : St) : unsaid P s b = (List.range P.pa.length).any (unsaidAt P s b) := by
  unfold unsaid unsaidAt
  congr 1
  funext i
  congr 1
  by_cases c : (i, nth (words P b.v) i) ∈ b.q <;> simp [c]
theorem isUnsaid_wc {A : Ad} {l : LS} {P : Pg} {s b : St} {a : Act} {sp : Option (Nat × Nat)} {Q : AV → LS → Prop} (h : PgOk P) (hs : VOk P s.v) (hv : VOk P b.v) : WC (g_is_unsaid A) [P.av, .d (eS s), .d (eA a), .d (eS b), .d (eSp sp)] l Q = Q (.d (.bool (unsaid P s b))) l := by
  suffices H : WC (g_is_unsaid A) [P.av, .d (eS s), .d (eA a), .d (eS b), .d (eSp sp)] l fun r t => r = .d (.bool (unsaid P s b)) ∧ t = l by
    obtain ⟨⟨r, t⟩, e, rfl, rfl⟩ := H
    unfold WC
    rw [e, wv_some]
  unfold g_is_unsaid b_is_unsaid
  rw [wc_den, enter_eq, unsaid_eq]
  simp only [List.map_cons, List.map_nil, List.length_cons, List.length_nil, List.replicate, List.cons_append, List.nil_append, Nat.reduceAdd, Nat.reduceSub, List.append_nil]
  simp only [↓ws_seq, ↓ws_set, ↓ws_setL, ↓ws_setD, ↓ws_asg, ↓ws_ret, ↓ws_retN, ↓ws_if, ↓ws_skip, ↓ws_break, ↓ws_cont, ↓ws_never, ↓we_var, ↓we_C, ↓we_fn, ↓we_f2, ↓we_f1, ↓we_chain, ↓wb_tst, ↓wb_tru, ↓wb_and, ↓wb_or, ↓wb_not, ↓wb_yes, ↓we_andV, ↓we_orV, ↓we_notV, ↓we_if, ↓wa_nil, ↓wa_cons, ↓we_tup, ↓wl_lst, ↓we_ofL, ↓wl_it, ↓we_CB, ↓wl_CL, ↓we_call, ↓wg_nm, ↓wgs_nil, ↓wgs_cons, ↓ks_nx, ↓ks_rt, ↓ks_bk, ↓ks_ct, ↓kr_rt, ↓kr_nx, ↓kt_nx, ↓kt_ct, ↓kt_bk, ↓kt_rt, ↓wv_some, ↓wtst_b, ↓wif_t, ↓wif_f, ↓wif_not, ↓we_lenV, ↓we_ixV, ↓we_inV, ↓ws_setIx, ↓wo_none, ↓wo_some, ↓we_sl, ↓wd_disp1, ↓wt_nil, ↓wt_cons, ↓we_dispT, ↓we_make, ↓ws_lsSet1, ↓ws_lsSet2, ↓ws_for, ↓wl_lc, ↓wl_rng1', ↓wl_rng2', ↓wl_enumT', List.getElem?_cons_zero, List.getElem?_cons_succ, List.set_cons_zero, List.set_cons_succ, Option.bind_some, id, rdV_av, rdV_d, rdV_lp, rdV_fn, rdV_ft, rdV_fd, rdV_ml, rdV_md, lenOf_ml, lenOf_l, lenOf_t, datOf_d, mlOf_ml, lstOf_l, intOf_i, seqOf_t, seqOf_l, dCmp_i, isLp_lp, avIx_ml, avIx_l, avIx_t, wv_map, dMod_p, dDiv_p, dAdd_t, dAdd_l, enumOf_t, rngOf_1, rngOf_2, Option.isSome_some, ↓reduceIte, true_and, and_true, rng_nat', Int.toNat_natCast, wipeG_n, wipeG_c, wif_dec, dats_nil, dats_d, dAdd_i, dSub_i, dMul_i, dIx_t, dIx_l, at0, at1, at2, dNeg_i, dTuple_l, dTuple_t, dList_l, dList_t, dInt_i, dLen_l, dLen_t, dPr_sz, dPr_pa, dPr_tk, dPr_lv, dPr_sk, ws_ls1', ws_ls2', wg_tp', ws_app', ws_ext', rdV_non, Option.map_some, List.length_cons, List.length_nil, looks_wc h hs, looks_wc h hv, words_wc h hv, enum_map, looks_len]
  refine ws_forGo _ (fun done rest t => done ++ rest = List.range P.pa.length ∧ done.any (unsaidAt P s b) = false ∧ ∃ o1 o2, t = ⟨[some P.av, some (.d (eS s)), some (.d (eA a)), some (.d (eS b)), some (.d (eSp sp)), some (.d (eNs (looks P s.v))), some (.d (eNs (looks P b.v))), some (.d (eNs (words P b.v))), o1, o2], l⟩) (List.range P.pa.length) [] _ ⟨rfl, rfl, none, none, rfl⟩ ?_ ?_
  · rintro done x rest t ⟨e1, e2, o1, o2, rfl⟩
    have hx : x < P.pa.length := by
      have : x ∈ List.range P.pa.length := by rw [← e1]; simp
      simpa using this
    have hg : ((looks P b.v).map eN).getD x .none = eN (nth (looks P b.v) x) := by
      have : x < (looks P b.v).length := by rw [looks_len]; exact hx
      simp [nth, this]
    have hin : dNotIn (.d (eP (x, nth (words P b.v) x))) (.d (ePs b.q)) = some (.d (.bool (!decide ((x, nth (words P b.v) x) ∈ b.q)))) := dNotIn_t eP_gd eP_inj' _ _
    simp only [↓ws_seq, ↓ws_set, ↓ws_setL, ↓ws_setD, ↓ws_asg, ↓ws_ret, ↓ws_retN, ↓ws_if, ↓ws_skip, ↓ws_break, ↓ws_cont, ↓ws_never, ↓we_var, ↓we_C, ↓we_fn, ↓we_f2, ↓we_f1, ↓we_chain, ↓wb_tst, ↓wb_tru, ↓wb_and, ↓wb_or, ↓wb_not, ↓wb_yes, ↓we_andV, ↓we_orV, ↓we_notV, ↓we_if, ↓wa_nil, ↓wa_cons, ↓we_tup, ↓wl_lst, ↓we_ofL, ↓wl_it, ↓we_CB, ↓wl_CL, ↓we_call, ↓wg_nm, ↓wgs_nil, ↓wgs_cons, ↓ks_nx, ↓ks_rt, ↓ks_bk, ↓ks_ct, ↓kr_rt, ↓kr_nx, ↓kt_nx, ↓kt_ct, ↓kt_bk, ↓kt_rt, ↓wv_some, ↓wtst_b, ↓wif_t, ↓wif_f, ↓wif_not, ↓we_lenV, ↓we_ixV, ↓we_inV, ↓ws_setIx, ↓wo_none, ↓wo_some, ↓we_sl, ↓wd_disp1, ↓wt_nil, ↓wt_cons, ↓we_dispT, ↓we_make, ↓ws_lsSet1, ↓ws_lsSet2, ↓ws_for, ↓wl_lc, ↓wl_rng1', ↓wl_rng2', ↓wl_enumT', List.getElem?_cons_zero, List.getElem?_cons_succ, List.set_cons_zero, List.set_cons_succ, Option.bind_some, id, rdV_av, rdV_d, rdV_lp, rdV_fn, rdV_ft, rdV_fd, rdV_ml, rdV_md, lenOf_ml, lenOf_l, lenOf_t, datOf_d, mlOf_ml, lstOf_l, intOf_i, seqOf_t, seqOf_l, dCmp_i, isLp_lp, avIx_ml, avIx_l, avIx_t, wv_map, dMod_p, dDiv_p, dAdd_t, dAdd_l, enumOf_t, rngOf_1, rngOf_2, Option.isSome_some, ↓reduceIte, true_and, and_true, rng_nat', Int.toNat_natCast, wipeG_n, wipeG_c, wif_dec, dats_nil, dats_d, dAdd_i, dSub_i, dMul_i, dIx_t, dIx_l, at0, at1, at2, dNeg_i, dTuple_l, dTuple_t, dList_l, dList_t, dInt_i, dLen_l, dLen_t, dPr_sz, dPr_pa, dPr_tk, dPr_lv, dPr_sk, ws_ls1', ws_ls2', wg_tp', ws_app', ws_ext', rdV_non, Option.map_some, List.length_cons, List.length_nil, hg]
    refine wv_atN (by rw [looks_len]; exact hx) ?_
    simp only [↓ws_seq, ↓ws_set, ↓ws_setL, ↓ws_setD, ↓ws_asg, ↓ws_ret, ↓ws_retN, ↓ws_if, ↓ws_skip, ↓ws_break, ↓ws_cont, ↓ws_never, ↓we_var, ↓we_C, ↓we_fn, ↓we_f2, ↓we_f1, ↓we_chain, ↓wb_tst, ↓wb_tru, ↓wb_and, ↓wb_or, ↓wb_not, ↓wb_yes, ↓we_andV, ↓we_orV, ↓we_notV, ↓we_if, ↓wa_nil, ↓wa_cons, ↓we_tup, ↓wl_lst, ↓we_ofL, ↓wl_it, ↓we_CB, ↓wl_CL, ↓we_call, ↓wg_nm, ↓wgs_nil, ↓wgs_cons, ↓ks_nx, ↓ks_rt, ↓ks_bk, ↓ks_ct, ↓kr_rt, ↓kr_nx, ↓kt_nx, ↓kt_ct, ↓kt_bk, ↓kt_rt, ↓wv_some, ↓wtst_b, ↓wif_t, ↓wif_f, ↓wif_not, ↓we_lenV, ↓we_ixV, ↓we_inV, ↓ws_setIx, ↓wo_none, ↓wo_some, ↓we_sl, ↓wd_disp1, ↓wt_nil, ↓wt_cons, ↓we_dispT, ↓we_make, ↓ws_lsSet1, ↓ws_lsSet2, ↓ws_for, ↓wl_lc, ↓wl_rng1', ↓wl_rng2', ↓wl_enumT', List.getElem?_cons_zero, List.getElem?_cons_succ, List.set_cons_zero, List.set_cons_succ, Option.bind_some, id, rdV_av, rdV_d, rdV_lp, rdV_fn, rdV_ft, rdV_fd, rdV_ml, rdV_md, lenOf_ml, lenOf_l, lenOf_t, datOf_d, mlOf_ml, lstOf_l, intOf_i, seqOf_t, seqOf_l, dCmp_i, isLp_lp, avIx_ml, avIx_l, avIx_t, wv_map, dMod_p, dDiv_p, dAdd_t, dAdd_l, enumOf_t, rngOf_1, rngOf_2, Option.isSome_some, ↓reduceIte, true_and, and_true, rng_nat', Int.toNat_natCast, wipeG_n, wipeG_c, wif_dec, dats_nil, dats_d, dAdd_i, dSub_i, dMul_i, dIx_t, dIx_l, at0, at1, at2, dNeg_i, dTuple_l, dTuple_t, dList_l, dList_t, dInt_i, dLen_l, dLen_t, dPr_sz, dPr_pa, dPr_tk, dPr_lv, dPr_sk, ws_ls1', ws_ls2', wg_tp', ws_app', ws_ext', rdV_non, Option.map_some, List.length_cons, List.length_nil, dNe_i, natNe]
    by_cases c : nth (looks P b.v) x ≠ nth (looks P s.v) x
    · rw [if_pos c]
      refine wv_atN (by rw [words_len]; exact hx) ?_
      simp only [↓ws_seq, ↓ws_set, ↓ws_setL, ↓ws_setD, ↓ws_asg, ↓ws_ret, ↓ws_retN, ↓ws_if, ↓ws_skip, ↓ws_break, ↓ws_cont, ↓ws_never, ↓we_var, ↓we_C, ↓we_fn, ↓we_f2, ↓we_f1, ↓we_chain, ↓wb_tst, ↓wb_tru, ↓wb_and, ↓wb_or, ↓wb_not, ↓wb_yes, ↓we_andV, ↓we_orV, ↓we_notV, ↓we_if, ↓wa_nil, ↓wa_cons, ↓we_tup, ↓wl_lst, ↓we_ofL, ↓wl_it, ↓we_CB, ↓wl_CL, ↓we_call, ↓wg_nm, ↓wgs_nil, ↓wgs_cons, ↓ks_nx, ↓ks_rt, ↓ks_bk, ↓ks_ct, ↓kr_rt, ↓kr_nx, ↓kt_nx, ↓kt_ct, ↓kt_bk, ↓kt_rt, ↓wv_some, ↓wtst_b, ↓wif_t, ↓wif_f, ↓wif_not, ↓we_lenV, ↓we_ixV, ↓we_inV, ↓ws_setIx, ↓wo_none, ↓wo_some, ↓we_sl, ↓wd_disp1, ↓wt_nil, ↓wt_cons, ↓we_dispT, ↓we_make, ↓ws_lsSet1, ↓ws_lsSet2, ↓ws_for, ↓wl_lc, ↓wl_rng1', ↓wl_rng2', ↓wl_enumT', List.getElem?_cons_zero, List.getElem?_cons_succ, List.set_cons_zero, List.set_cons_succ, Option.bind_some, id, rdV_av, rdV_d, rdV_lp, rdV_fn, rdV_ft, rdV_fd, rdV_ml, rdV_md, lenOf_ml, lenOf_l, lenOf_t, datOf_d, mlOf_ml, lstOf_l, intOf_i, seqOf_t, seqOf_l, dCmp_i, isLp_lp, avIx_ml, avIx_l, avIx_t, wv_map, dMod_p, dDiv_p, dAdd_t, dAdd_l, enumOf_t, rngOf_1, rngOf_2, Option.isSome_some, ↓reduceIte, true_and, and_true, rng_nat', Int.toNat_natCast, wipeG_n, wipeG_c, wif_dec, dats_nil, dats_d, dAdd_i, dSub_i, dMul_i, dIx_t, dIx_l, at0, at1, at2, dNeg_i, dTuple_l, dTuple_t, dList_l, dList_t, dInt_i, dLen_l, dLen_t, dPr_sz, dPr_pa, dPr_tk, dPr_lv, dPr_sk, ws_ls1', ws_ls2', wg_tp', ws_app', ws_ext', rdV_non, Option.map_some, List.length_cons, List.length_nil, hin]
      split
      · rename_i c2
        refine ⟨by rw [← e1]; simp, ?_, _, _, rfl⟩
        rw [any_snoc, e2]
        simp [unsaidAt, c2]
      · rename_i c2
        have : (List.range P.pa.length).any (unsaidAt P s b) = true := by
          rw [← e1]
          simp [unsaidAt, c, c2]
        simp only [this]
    · rw [if_neg c]
      refine ⟨by rw [← e1]; simp, ?_, _, _, rfl⟩
      rw [any_snoc, e2]
      simp only [unsaidAt, c, decide_false, Bool.false_and, Bool.or_false]
  · rintro t ⟨e1, e2, o1, o2, rfl⟩
    simp only [↓ws_seq, ↓ws_set, ↓ws_setL, ↓ws_setD, ↓ws_asg, ↓ws_ret, ↓ws_retN, ↓ws_if, ↓ws_skip, ↓ws_break, ↓ws_cont, ↓ws_never, ↓we_var, ↓we_C, ↓we_fn, ↓we_f2, ↓we_f1, ↓we_chain, ↓wb_tst, ↓wb_tru, ↓wb_and, ↓wb_or, ↓wb_not, ↓wb_yes, ↓we_andV, ↓we_orV, ↓we_notV, ↓we_if, ↓wa_nil, ↓wa_cons, ↓we_tup, ↓wl_lst, ↓we_ofL, ↓wl_it, ↓we_CB, ↓wl_CL, ↓we_call, ↓wg_nm, ↓wgs_nil, ↓wgs_cons, ↓ks_nx, ↓ks_rt, ↓ks_bk, ↓ks_ct, ↓kr_rt, ↓kr_nx, ↓kt_nx, ↓kt_ct, ↓kt_bk, ↓kt_rt, ↓wv_some, ↓wtst_b, ↓wif_t, ↓wif_f, ↓wif_not, ↓we_lenV, ↓we_ixV, ↓we_inV, ↓ws_setIx, ↓wo_none, ↓wo_some, ↓we_sl, ↓wd_disp1, ↓wt_nil, ↓wt_cons, ↓we_dispT, ↓we_make, ↓ws_lsSet1, ↓ws_lsSet2, ↓ws_for, ↓wl_lc, ↓wl_rng1', ↓wl_rng2', ↓wl_enumT', List.getElem?_cons_zero, List.getElem?_cons_succ, List.set_cons_zero, List.set_cons_succ, Option.bind_some, id, rdV_av, rdV_d, rdV_lp, rdV_fn, rdV_ft, rdV_fd, rdV_ml, rdV_md, lenOf_ml, lenOf_l, lenOf_t, datOf_d, mlOf_ml, lstOf_l, intOf_i, seqOf_t, seqOf_l, dCmp_i, isLp_lp, avIx_ml, avIx_l, avIx_t, wv_map, dMod_p, dDiv_p, dAdd_t, dAdd_l, enumOf_t, rngOf_1, rngOf_2, Option.isSome_some, ↓reduceIte, true_and, and_true, rng_nat', Int.toNat_natCast, wipeG_n, wipeG_c, wif_dec, dats_nil, dats_d, dAdd_i, dSub_i, dMul_i, dIx_t, dIx_l, at0, at1, at2, dNeg_i, dTuple_l, dTuple_t, dList_l, dList_t, dInt_i, dLen_l, dLen_t, dPr_sz, dPr_pa, dPr_tk, dPr_lv, dPr_sk, ws_ls1', ws_ls2', wg_tp', ws_app', ws_ext', rdV_non, Option.map_some, List.length_cons, List.length_nil]
    rw [List.append_nil] at e1
    rw [List.nil_append] at e2
    rw [e2]
end Pu

set_option Elab.async false
set_option linter.all false
set_option maxRecDepth 100000
set_option maxHeartbeats 1000000
/-! Pu, part O: what the law wants. -/
namespace Pu
open PySem Tk Tk.W
/-- the kind's word -/
def kW (k : Bool) : Str := if k then "stale" else "unsaid"
def want (P : Pg) (k : Bool) (s b : St) (sp : Option (Nat × Nat)) : Bool := if k then stale P b sp else unsaid P s b
theorem ok_stale : PyData.strOk "stale" = true := by decide +kernel
theorem ok_unsaid : PyData.strOk "unsaid" = true := by decide +kernel
theorem kW_ok (k : Bool) : PyData.strOk (kW k) = true := by
  cases k
  · exact ok_unsaid
  · exact ok_stale
theorem kW_eq (k : Bool) : (kW k == "stale") = k := by
  cases k
  · exact (by decide +kernel : (("unsaid" : Str) == "stale") = false)
  · exact (by decide +kernel : (("stale" : Str) == "stale") = true)
theorem nth_app {xs ys : List Nat} {i : Nat} (h : i < xs.length) : nth (xs ++ ys) i = nth xs i := by
  unfold nth
  rw [List.getD_eq_getElem?_getD, List.getD_eq_getElem?_getD, List.getElem?_append_left h]
theorem lawWanted_wc {A : Ad} {l : LS} {P : Pg} {k : Bool} {s b : St} {a : Act} {sp : Option (Nat × Nat)} {Q : AV → LS → Prop} (h : PgOk P) (hs : VOk P s.v) (hv : VOk P b.v) (hsp : SpOk P sp) :
    WC (g__law_wanted A) [P.av, .d (.str (kW k)), .d (eS s), .d (eA a), .d (eS b), .d (eSp sp)] l Q = Q (.d (.bool (want P k s b sp))) l := by
  suffices H : WC (g__law_wanted A) [P.av, .d (.str (kW k)), .d (eS s), .d (eA a), .d (eS b), .d (eSp sp)] l fun r t => r = .d (.bool (want P k s b sp)) ∧ t = l by
    obtain ⟨⟨r, t⟩, e, rfl, rfl⟩ := H
    unfold WC
    rw [e, wv_some]
  have h4 := h.p4
  have lw : (words P b.v ++ [b.f]).length = P.pa.length + 1 := by simp [words_len]
  have l1 : (looks P s.v ++ [s.f]).length = P.pa.length + 1 := by simp [looks_len]
  have l2 : (looks P b.v ++ [b.f]).length = P.pa.length + 1 := by simp [looks_len]
  unfold g__law_wanted b__law_wanted
  rw [wc_den, enter_eq]
  simp only [List.map_cons, List.map_nil, List.length_cons, List.length_nil, List.replicate, List.cons_append, List.nil_append, Nat.reduceAdd, Nat.reduceSub, List.append_nil]
  simp only [↓ws_seq, ↓ws_set, ↓ws_setL, ↓ws_setD, ↓ws_asg, ↓ws_ret, ↓ws_retN, ↓ws_if, ↓ws_skip, ↓ws_break, ↓ws_cont, ↓ws_never, ↓we_var, ↓we_C, ↓we_fn, ↓we_f2, ↓we_f1, ↓we_chain, ↓wb_tst, ↓wb_tru, ↓wb_and, ↓wb_or, ↓wb_not, ↓wb_yes, ↓we_andV, ↓we_orV, ↓we_notV, ↓we_if, ↓wa_nil, ↓wa_cons, ↓we_tup, ↓wl_lst, ↓we_ofL, ↓wl_it, ↓we_CB, ↓wl_CL, ↓we_call, ↓wg_nm, ↓wgs_nil, ↓wgs_cons, ↓ks_nx, ↓ks_rt, ↓ks_bk, ↓ks_ct, ↓kr_rt, ↓kr_nx, ↓kt_nx, ↓kt_ct, ↓kt_bk, ↓kt_rt, ↓wv_some, ↓wtst_b, ↓wif_t, ↓wif_f, ↓wif_not, ↓we_lenV, ↓we_ixV, ↓we_inV, ↓ws_setIx, ↓wo_none, ↓wo_some, ↓we_sl, ↓wd_disp1, ↓wt_nil, ↓wt_cons, ↓we_dispT, ↓we_make, ↓ws_lsSet1, ↓ws_lsSet2, ↓ws_for, ↓wl_lc, ↓wl_rng1', ↓wl_rng2', ↓wl_enumT', List.getElem?_cons_zero, List.getElem?_cons_succ, List.set_cons_zero, List.set_cons_succ, Option.bind_some, id, rdV_av, rdV_d, rdV_lp, rdV_fn, rdV_ft, rdV_fd, rdV_ml, rdV_md, lenOf_ml, lenOf_l, lenOf_t, datOf_d, mlOf_ml, lstOf_l, intOf_i, seqOf_t, seqOf_l, dCmp_i, isLp_lp, avIx_ml, avIx_l, avIx_t, wv_map, dMod_p, dDiv_p, dAdd_t, dAdd_l, enumOf_t, rngOf_1, rngOf_2, Option.isSome_some, ↓reduceIte, true_and, and_true, rng_nat', Int.toNat_natCast, wipeG_n, wipeG_c, wif_dec, dats_nil, dats_d, dAdd_i, dSub_i, dMul_i, dIx_t, dIx_l, at0, at1, at2, dNeg_i, dTuple_l, dTuple_t, dList_l, dList_t, dInt_i, dLen_l, dLen_t, dPr_sz, dPr_pa, dPr_tk, dPr_lv, dPr_sk, ws_ls1', ws_ls2', wg_tp', ws_app', ws_ext', rdV_non, Option.map_some, List.length_cons, List.length_nil, reading_wc h hv, dEq_str (kW_ok _) ok_stale, kW_eq]
  cases k with
  | true =>
    simp only [↓ws_seq, ↓ws_set, ↓ws_setL, ↓ws_setD, ↓ws_asg, ↓ws_ret, ↓ws_retN, ↓ws_if, ↓ws_skip, ↓ws_break, ↓ws_cont, ↓ws_never, ↓we_var, ↓we_C, ↓we_fn, ↓we_f2, ↓we_f1, ↓we_chain, ↓wb_tst, ↓wb_tru, ↓wb_and, ↓wb_or, ↓wb_not, ↓wb_yes, ↓we_andV, ↓we_orV, ↓we_notV, ↓we_if, ↓wa_nil, ↓wa_cons, ↓we_tup, ↓wl_lst, ↓we_ofL, ↓wl_it, ↓we_CB, ↓wl_CL, ↓we_call, ↓wg_nm, ↓wgs_nil, ↓wgs_cons, ↓ks_nx, ↓ks_rt, ↓ks_bk, ↓ks_ct, ↓kr_rt, ↓kr_nx, ↓kt_nx, ↓kt_ct, ↓kt_bk, ↓kt_rt, ↓wv_some, ↓wtst_b, ↓wif_t, ↓wif_f, ↓wif_not, ↓we_lenV, ↓we_ixV, ↓we_inV, ↓ws_setIx, ↓wo_none, ↓wo_some, ↓we_sl, ↓wd_disp1, ↓wt_nil, ↓wt_cons, ↓we_dispT, ↓we_make, ↓ws_lsSet1, ↓ws_lsSet2, ↓ws_for, ↓wl_lc, ↓wl_rng1', ↓wl_rng2', ↓wl_enumT', List.getElem?_cons_zero, List.getElem?_cons_succ, List.set_cons_zero, List.set_cons_succ, Option.bind_some, id, rdV_av, rdV_d, rdV_lp, rdV_fn, rdV_ft, rdV_fd, rdV_ml, rdV_md, lenOf_ml, lenOf_l, lenOf_t, datOf_d, mlOf_ml, lstOf_l, intOf_i, seqOf_t, seqOf_l, dCmp_i, isLp_lp, avIx_ml, avIx_l, avIx_t, wv_map, dMod_p, dDiv_p, dAdd_t, dAdd_l, enumOf_t, rngOf_1, rngOf_2, Option.isSome_some, ↓reduceIte, true_and, and_true, rng_nat', Int.toNat_natCast, wipeG_n, wipeG_c, wif_dec, dats_nil, dats_d, dAdd_i, dSub_i, dMul_i, dIx_t, dIx_l, at0, at1, at2, dNeg_i, dTuple_l, dTuple_t, dList_l, dList_t, dInt_i, dLen_l, dLen_t, dPr_sz, dPr_pa, dPr_tk, dPr_lv, dPr_sk, ws_ls1', ws_ls2', wg_tp', ws_app', ws_ext', rdV_non, Option.map_some, List.length_cons, List.length_nil, eSp_ne]
    cases sp with
    | none => rfl
    | some p =>
      have hp : p.1 < P.pa.length := hsp p rfl
      simp only [↓ws_seq, ↓ws_set, ↓ws_setL, ↓ws_setD, ↓ws_asg, ↓ws_ret, ↓ws_retN, ↓ws_if, ↓ws_skip, ↓ws_break, ↓ws_cont, ↓ws_never, ↓we_var, ↓we_C, ↓we_fn, ↓we_f2, ↓we_f1, ↓we_chain, ↓wb_tst, ↓wb_tru, ↓wb_and, ↓wb_or, ↓wb_not, ↓wb_yes, ↓we_andV, ↓we_orV, ↓we_notV, ↓we_if, ↓wa_nil, ↓wa_cons, ↓we_tup, ↓wl_lst, ↓we_ofL, ↓wl_it, ↓we_CB, ↓wl_CL, ↓we_call, ↓wg_nm, ↓wgs_nil, ↓wgs_cons, ↓ks_nx, ↓ks_rt, ↓ks_bk, ↓ks_ct, ↓kr_rt, ↓kr_nx, ↓kt_nx, ↓kt_ct, ↓kt_bk, ↓kt_rt, ↓wv_some, ↓wtst_b, ↓wif_t, ↓wif_f, ↓wif_not, ↓we_lenV, ↓we_ixV, ↓we_inV, ↓ws_setIx, ↓wo_none, ↓wo_some, ↓we_sl, ↓wd_disp1, ↓wt_nil, ↓wt_cons, ↓we_dispT, ↓we_make, ↓ws_lsSet1, ↓ws_lsSet2, ↓ws_for, ↓wl_lc, ↓wl_rng1', ↓wl_rng2', ↓wl_enumT', List.getElem?_cons_zero, List.getElem?_cons_succ, List.set_cons_zero, List.set_cons_succ, Option.bind_some, id, rdV_av, rdV_d, rdV_lp, rdV_fn, rdV_ft, rdV_fd, rdV_ml, rdV_md, lenOf_ml, lenOf_l, lenOf_t, datOf_d, mlOf_ml, lstOf_l, intOf_i, seqOf_t, seqOf_l, dCmp_i, isLp_lp, avIx_ml, avIx_l, avIx_t, wv_map, dMod_p, dDiv_p, dAdd_t, dAdd_l, enumOf_t, rngOf_1, rngOf_2, Option.isSome_some, ↓reduceIte, true_and, and_true, rng_nat', Int.toNat_natCast, wipeG_n, wipeG_c, wif_dec, dats_nil, dats_d, dAdd_i, dSub_i, dMul_i, dIx_t, dIx_l, at0, at1, at2, dNeg_i, dTuple_l, dTuple_t, dList_l, dList_t, dInt_i, dLen_l, dLen_t, dPr_sz, dPr_pa, dPr_tk, dPr_lv, dPr_sk, ws_ls1', ws_ls2', wg_tp', ws_app', ws_ext', rdV_non, Option.map_some, List.length_cons, List.length_nil, Option.isSome_some, eSp]
      refine wv_atN (by omega) ?_
      rw [nth_app (by rw [words_len]; exact hp)]
      simp only [↓ws_seq, ↓ws_set, ↓ws_setL, ↓ws_setD, ↓ws_asg, ↓ws_ret, ↓ws_retN, ↓ws_if, ↓ws_skip, ↓ws_break, ↓ws_cont, ↓ws_never, ↓we_var, ↓we_C, ↓we_fn, ↓we_f2, ↓we_f1, ↓we_chain, ↓wb_tst, ↓wb_tru, ↓wb_and, ↓wb_or, ↓wb_not, ↓wb_yes, ↓we_andV, ↓we_orV, ↓we_notV, ↓we_if, ↓wa_nil, ↓wa_cons, ↓we_tup, ↓wl_lst, ↓we_ofL, ↓wl_it, ↓we_CB, ↓wl_CL, ↓we_call, ↓wg_nm, ↓wgs_nil, ↓wgs_cons, ↓ks_nx, ↓ks_rt, ↓ks_bk, ↓ks_ct, ↓kr_rt, ↓kr_nx, ↓kt_nx, ↓kt_ct, ↓kt_bk, ↓kt_rt, ↓wv_some, ↓wtst_b, ↓wif_t, ↓wif_f, ↓wif_not, ↓we_lenV, ↓we_ixV, ↓we_inV, ↓ws_setIx, ↓wo_none, ↓wo_some, ↓we_sl, ↓wd_disp1, ↓wt_nil, ↓wt_cons, ↓we_dispT, ↓we_make, ↓ws_lsSet1, ↓ws_lsSet2, ↓ws_for, ↓wl_lc, ↓wl_rng1', ↓wl_rng2', ↓wl_enumT', List.getElem?_cons_zero, List.getElem?_cons_succ, List.set_cons_zero, List.set_cons_succ, Option.bind_some, id, rdV_av, rdV_d, rdV_lp, rdV_fn, rdV_ft, rdV_fd, rdV_ml, rdV_md, lenOf_ml, lenOf_l, lenOf_t, datOf_d, mlOf_ml, lstOf_l, intOf_i, seqOf_t, seqOf_l, dCmp_i, isLp_lp, avIx_ml, avIx_l, avIx_t, wv_map, dMod_p, dDiv_p, dAdd_t, dAdd_l, enumOf_t, rngOf_1, rngOf_2, Option.isSome_some, ↓reduceIte, true_and, and_true, rng_nat', Int.toNat_natCast, wipeG_n, wipeG_c, wif_dec, dats_nil, dats_d, dAdd_i, dSub_i, dMul_i, dIx_t, dIx_l, at0, at1, at2, dNeg_i, dTuple_l, dTuple_t, dList_l, dList_t, dInt_i, dLen_l, dLen_t, dPr_sz, dPr_pa, dPr_tk, dPr_lv, dPr_sk, ws_ls1', ws_ls2', wg_tp', ws_app', ws_ext', rdV_non, Option.map_some, List.length_cons, List.length_nil, dNe_i, natNe]
      rfl
  | false =>
    rw [show want P false s b sp = unsaid P s b from rfl, unsaid_eq]
    simp only [↓ws_seq, ↓ws_set, ↓ws_setL, ↓ws_setD, ↓ws_asg, ↓ws_ret, ↓ws_retN, ↓ws_if, ↓ws_skip, ↓ws_break, ↓ws_cont, ↓ws_never, ↓we_var, ↓we_C, ↓we_fn, ↓we_f2, ↓we_f1, ↓we_chain, ↓wb_tst, ↓wb_tru, ↓wb_and, ↓wb_or, ↓wb_not, ↓wb_yes, ↓we_andV, ↓we_orV, ↓we_notV, ↓we_if, ↓wa_nil, ↓wa_cons, ↓we_tup, ↓wl_lst, ↓we_ofL, ↓wl_it, ↓we_CB, ↓wl_CL, ↓we_call, ↓wg_nm, ↓wgs_nil, ↓wgs_cons, ↓ks_nx, ↓ks_rt, ↓ks_bk, ↓ks_ct, ↓kr_rt, ↓kr_nx, ↓kt_nx, ↓kt_ct, ↓kt_bk, ↓kt_rt, ↓wv_some, ↓wtst_b, ↓wif_t, ↓wif_f, ↓wif_not, ↓we_lenV, ↓we_ixV, ↓we_inV, ↓ws_setIx, ↓wo_none, ↓wo_some, ↓we_sl, ↓wd_disp1, ↓wt_nil, ↓wt_cons, ↓we_dispT, ↓we_make, ↓ws_lsSet1, ↓ws_lsSet2, ↓ws_for, ↓wl_lc, ↓wl_rng1', ↓wl_rng2', ↓wl_enumT', List.getElem?_cons_zero, List.getElem?_cons_succ, List.set_cons_zero, List.set_cons_succ, Option.bind_some, id, rdV_av, rdV_d, rdV_lp, rdV_fn, rdV_ft, rdV_fd, rdV_ml, rdV_md, lenOf_ml, lenOf_l, lenOf_t, datOf_d, mlOf_ml, lstOf_l, intOf_i, seqOf_t, seqOf_l, dCmp_i, isLp_lp, avIx_ml, avIx_l, avIx_t, wv_map, dMod_p, dDiv_p, dAdd_t, dAdd_l, enumOf_t, rngOf_1, rngOf_2, Option.isSome_some, ↓reduceIte, true_and, and_true, rng_nat', Int.toNat_natCast, wipeG_n, wipeG_c, wif_dec, dats_nil, dats_d, dAdd_i, dSub_i, dMul_i, dIx_t, dIx_l, at0, at1, at2, dNeg_i, dTuple_l, dTuple_t, dList_l, dList_t, dInt_i, dLen_l, dLen_t, dPr_sz, dPr_pa, dPr_tk, dPr_lv, dPr_sk, ws_ls1', ws_ls2', wg_tp', ws_app', ws_ext', rdV_non, Option.map_some, List.length_cons, List.length_nil, sight_wc h hs, sight_wc h hv, List.length_map]
    refine ⟨inB_of (by omega) (by omega), ?_⟩
    refine ws_forGo eN (fun done rest t => done ++ rest = List.range P.pa.length ∧ done.any (unsaidAt P s b) = false ∧ ∃ o1, t = ⟨[some P.av, some (.d (.str (kW false))), some (.d (eS s)), some (.d (eA a)), some (.d (eS b)), some (.d (eSp sp)), some (.d (eNs (words P b.v ++ [b.f]))), some (.d (eNs (looks P s.v ++ [s.f]))), some (.d (eNs (looks P b.v ++ [b.f]))), o1], l⟩) (List.range P.pa.length) [] _ ⟨rfl, rfl, none, rfl⟩ ?_ ?_
    · rintro done x rest t ⟨e1, e2, o1, rfl⟩
      have hx : x < P.pa.length := by
        have : x ∈ List.range P.pa.length := by rw [← e1]; simp
        simpa using this
      have hin : dNotIn (.d (eP (x, nth (words P b.v) x))) (.d (ePs b.q)) = some (.d (.bool (!decide ((x, nth (words P b.v) x) ∈ b.q)))) := dNotIn_t eP_gd eP_inj' _ _
      simp only [↓ws_seq, ↓ws_set, ↓ws_setL, ↓ws_setD, ↓ws_asg, ↓ws_ret, ↓ws_retN, ↓ws_if, ↓ws_skip, ↓ws_break, ↓ws_cont, ↓ws_never, ↓we_var, ↓we_C, ↓we_fn, ↓we_f2, ↓we_f1, ↓we_chain, ↓wb_tst, ↓wb_tru, ↓wb_and, ↓wb_or, ↓wb_not, ↓wb_yes, ↓we_andV, ↓we_orV, ↓we_notV, ↓we_if, ↓wa_nil, ↓wa_cons, ↓we_tup, ↓wl_lst, ↓we_ofL, ↓wl_it, ↓we_CB, ↓wl_CL, ↓we_call, ↓wg_nm, ↓wgs_nil, ↓wgs_cons, ↓ks_nx, ↓ks_rt, ↓ks_bk, ↓ks_ct, ↓kr_rt, ↓kr_nx, ↓kt_nx, ↓kt_ct, ↓kt_bk, ↓kt_rt, ↓wv_some, ↓wtst_b, ↓wif_t, ↓wif_f, ↓wif_not, ↓we_lenV, ↓we_ixV, ↓we_inV, ↓ws_setIx, ↓wo_none, ↓wo_some, ↓we_sl, ↓wd_disp1, ↓wt_nil, ↓wt_cons, ↓we_dispT, ↓we_make, ↓ws_lsSet1, ↓ws_lsSet2, ↓ws_for, ↓wl_lc, ↓wl_rng1', ↓wl_rng2', ↓wl_enumT', List.getElem?_cons_zero, List.getElem?_cons_succ, List.set_cons_zero, List.set_cons_succ, Option.bind_some, id, rdV_av, rdV_d, rdV_lp, rdV_fn, rdV_ft, rdV_fd, rdV_ml, rdV_md, lenOf_ml, lenOf_l, lenOf_t, datOf_d, mlOf_ml, lstOf_l, intOf_i, seqOf_t, seqOf_l, dCmp_i, isLp_lp, avIx_ml, avIx_l, avIx_t, wv_map, dMod_p, dDiv_p, dAdd_t, dAdd_l, enumOf_t, rngOf_1, rngOf_2, Option.isSome_some, ↓reduceIte, true_and, and_true, rng_nat', Int.toNat_natCast, wipeG_n, wipeG_c, wif_dec, dats_nil, dats_d, dAdd_i, dSub_i, dMul_i, dIx_t, dIx_l, at0, at1, at2, dNeg_i, dTuple_l, dTuple_t, dList_l, dList_t, dInt_i, dLen_l, dLen_t, dPr_sz, dPr_pa, dPr_tk, dPr_lv, dPr_sk, ws_ls1', ws_ls2', wg_tp', ws_app', ws_ext', rdV_non, Option.map_some, List.length_cons, List.length_nil]
      refine wv_atN (by omega) ?_
      refine wv_atN (by omega) ?_
      rw [nth_app (by rw [looks_len]; exact hx), nth_app (by rw [looks_len]; exact hx)]
      simp only [↓ws_seq, ↓ws_set, ↓ws_setL, ↓ws_setD, ↓ws_asg, ↓ws_ret, ↓ws_retN, ↓ws_if, ↓ws_skip, ↓ws_break, ↓ws_cont, ↓ws_never, ↓we_var, ↓we_C, ↓we_fn, ↓we_f2, ↓we_f1, ↓we_chain, ↓wb_tst, ↓wb_tru, ↓wb_and, ↓wb_or, ↓wb_not, ↓wb_yes, ↓we_andV, ↓we_orV, ↓we_notV, ↓we_if, ↓wa_nil, ↓wa_cons, ↓we_tup, ↓wl_lst, ↓we_ofL, ↓wl_it, ↓we_CB, ↓wl_CL, ↓we_call, ↓wg_nm, ↓wgs_nil, ↓wgs_cons, ↓ks_nx, ↓ks_rt, ↓ks_bk, ↓ks_ct, ↓kr_rt, ↓kr_nx, ↓kt_nx, ↓kt_ct, ↓kt_bk, ↓kt_rt, ↓wv_some, ↓wtst_b, ↓wif_t, ↓wif_f, ↓wif_not, ↓we_lenV, ↓we_ixV, ↓we_inV, ↓ws_setIx, ↓wo_none, ↓wo_some, ↓we_sl, ↓wd_disp1, ↓wt_nil, ↓wt_cons, ↓we_dispT, ↓we_make, ↓ws_lsSet1, ↓ws_lsSet2, ↓ws_for, ↓wl_lc, ↓wl_rng1', ↓wl_rng2', ↓wl_enumT', List.getElem?_cons_zero, List.getElem?_cons_succ, List.set_cons_zero, List.set_cons_succ, Option.bind_some, id, rdV_av, rdV_d, rdV_lp, rdV_fn, rdV_ft, rdV_fd, rdV_ml, rdV_md, lenOf_ml, lenOf_l, lenOf_t, datOf_d, mlOf_ml, lstOf_l, intOf_i, seqOf_t, seqOf_l, dCmp_i, isLp_lp, avIx_ml, avIx_l, avIx_t, wv_map, dMod_p, dDiv_p, dAdd_t, dAdd_l, enumOf_t, rngOf_1, rngOf_2, Option.isSome_some, ↓reduceIte, true_and, and_true, rng_nat', Int.toNat_natCast, wipeG_n, wipeG_c, wif_dec, dats_nil, dats_d, dAdd_i, dSub_i, dMul_i, dIx_t, dIx_l, at0, at1, at2, dNeg_i, dTuple_l, dTuple_t, dList_l, dList_t, dInt_i, dLen_l, dLen_t, dPr_sz, dPr_pa, dPr_tk, dPr_lv, dPr_sk, ws_ls1', ws_ls2', wg_tp', ws_app', ws_ext', rdV_non, Option.map_some, List.length_cons, List.length_nil, dNe_i, natNe]
      by_cases c : nth (looks P s.v) x ≠ nth (looks P b.v) x
      · rw [if_pos c]
        refine wv_atN (by omega) ?_
        rw [nth_app (by rw [words_len]; exact hx)]
        simp only [↓ws_seq, ↓ws_set, ↓ws_setL, ↓ws_setD, ↓ws_asg, ↓ws_ret, ↓ws_retN, ↓ws_if, ↓ws_skip, ↓ws_break, ↓ws_cont, ↓ws_never, ↓we_var, ↓we_C, ↓we_fn, ↓we_f2, ↓we_f1, ↓we_chain, ↓wb_tst, ↓wb_tru, ↓wb_and, ↓wb_or, ↓wb_not, ↓wb_yes, ↓we_andV, ↓we_orV, ↓we_notV, ↓we_if, ↓wa_nil, ↓wa_cons, ↓we_tup, ↓wl_lst, ↓we_ofL, ↓wl_it, ↓we_CB, ↓wl_CL, ↓we_call, ↓wg_nm, ↓wgs_nil, ↓wgs_cons, ↓ks_nx, ↓ks_rt, ↓ks_bk, ↓ks_ct, ↓kr_rt, ↓kr_nx, ↓kt_nx, ↓kt_ct, ↓kt_bk, ↓kt_rt, ↓wv_some, ↓wtst_b, ↓wif_t, ↓wif_f, ↓wif_not, ↓we_lenV, ↓we_ixV, ↓we_inV, ↓ws_setIx, ↓wo_none, ↓wo_some, ↓we_sl, ↓wd_disp1, ↓wt_nil, ↓wt_cons, ↓we_dispT, ↓we_make, ↓ws_lsSet1, ↓ws_lsSet2, ↓ws_for, ↓wl_lc, ↓wl_rng1', ↓wl_rng2', ↓wl_enumT', List.getElem?_cons_zero, List.getElem?_cons_succ, List.set_cons_zero, List.set_cons_succ, Option.bind_some, id, rdV_av, rdV_d, rdV_lp, rdV_fn, rdV_ft, rdV_fd, rdV_ml, rdV_md, lenOf_ml, lenOf_l, lenOf_t, datOf_d, mlOf_ml, lstOf_l, intOf_i, seqOf_t, seqOf_l, dCmp_i, isLp_lp, avIx_ml, avIx_l, avIx_t, wv_map, dMod_p, dDiv_p, dAdd_t, dAdd_l, enumOf_t, rngOf_1, rngOf_2, Option.isSome_some, ↓reduceIte, true_and, and_true, rng_nat', Int.toNat_natCast, wipeG_n, wipeG_c, wif_dec, dats_nil, dats_d, dAdd_i, dSub_i, dMul_i, dIx_t, dIx_l, at0, at1, at2, dNeg_i, dTuple_l, dTuple_t, dList_l, dList_t, dInt_i, dLen_l, dLen_t, dPr_sz, dPr_pa, dPr_tk, dPr_lv, dPr_sk, ws_ls1', ws_ls2', wg_tp', ws_app', ws_ext', rdV_non, Option.map_some, List.length_cons, List.length_nil, hin]
        split
        · rename_i c2
          refine ⟨by rw [← e1]; simp, ?_, _, rfl⟩
          rw [any_snoc, e2]
          simp [unsaidAt, c2]
        · rename_i c2
          have : (List.range P.pa.length).any (unsaidAt P s b) = true := by
            rw [← e1]
            simp [unsaidAt, Ne.symm c, c2]
          simp only [this]
      · rw [if_neg c]
        refine ⟨by rw [← e1]; simp, ?_, _, rfl⟩
        rw [any_snoc, e2]
        have c' : ¬ nth (looks P b.v) x ≠ nth (looks P s.v) x := fun z => c (Ne.symm z)
        simp only [unsaidAt, c', decide_false, Bool.false_and, Bool.or_false]
    · rintro t ⟨e1, e2, o1, rfl⟩
      simp only [↓ws_seq, ↓ws_set, ↓ws_setL, ↓ws_setD, ↓ws_asg, ↓ws_ret, ↓ws_retN, ↓ws_if, ↓ws_skip, ↓ws_break, ↓ws_cont, ↓ws_never, ↓we_var, ↓we_C, ↓we_fn, ↓we_f2, ↓we_f1, ↓we_chain, ↓wb_tst, ↓wb_tru, ↓wb_and, ↓wb_or, ↓wb_not, ↓wb_yes, ↓we_andV, ↓we_orV, ↓we_notV, ↓we_if, ↓wa_nil, ↓wa_cons, ↓we_tup, ↓wl_lst, ↓we_ofL, ↓wl_it, ↓we_CB, ↓wl_CL, ↓we_call, ↓wg_nm, ↓wgs_nil, ↓wgs_cons, ↓ks_nx, ↓ks_rt, ↓ks_bk, ↓ks_ct, ↓kr_rt, ↓kr_nx, ↓kt_nx, ↓kt_ct, ↓kt_bk, ↓kt_rt, ↓wv_some, ↓wtst_b, ↓wif_t, ↓wif_f, ↓wif_not, ↓we_lenV, ↓we_ixV, ↓we_inV, ↓ws_setIx, ↓wo_none, ↓wo_some, ↓we_sl, ↓wd_disp1, ↓wt_nil, ↓wt_cons, ↓we_dispT, ↓we_make, ↓ws_lsSet1, ↓ws_lsSet2, ↓ws_for, ↓wl_lc, ↓wl_rng1', ↓wl_rng2', ↓wl_enumT', List.getElem?_cons_zero, List.getElem?_cons_succ, List.set_cons_zero, List.set_cons_succ, Option.bind_some, id, rdV_av, rdV_d, rdV_lp, rdV_fn, rdV_ft, rdV_fd, rdV_ml, rdV_md, lenOf_ml, lenOf_l, lenOf_t, datOf_d, mlOf_ml, lstOf_l, intOf_i, seqOf_t, seqOf_l, dCmp_i, isLp_lp, avIx_ml, avIx_l, avIx_t, wv_map, dMod_p, dDiv_p, dAdd_t, dAdd_l, enumOf_t, rngOf_1, rngOf_2, Option.isSome_some, ↓reduceIte, true_and, and_true, rng_nat', Int.toNat_natCast, wipeG_n, wipeG_c, wif_dec, dats_nil, dats_d, dAdd_i, dSub_i, dMul_i, dIx_t, dIx_l, at0, at1, at2, dNeg_i, dTuple_l, dTuple_t, dList_l, dList_t, dInt_i, dLen_l, dLen_t, dPr_sz, dPr_pa, dPr_tk, dPr_lv, dPr_sk, ws_ls1', ws_ls2', wg_tp', ws_app', ws_ext', rdV_non, Option.map_some, List.length_cons, List.length_nil]
      rw [List.append_nil] at e1
      rw [List.nil_append] at e2
      rw [e2]
end Pu

set_option Elab.async false
set_option linter.all false
set_option maxRecDepth 100000
set_option maxHeartbeats 1000000
/-! Pu, part P: a search in breadth. -/
namespace Pu
section
variable {α β : Type} [DecidableEq α] (acts : α → List β) (succ : α → β → α) (w : α → β → Bool)
/-- a run none of whose acts is wanted -/
def Way (s : α) : List β → α → Prop
  | [], t => s = t
  | a :: r, t => a ∈ acts s ∧ w s a = false ∧ Way (succ s a) r t
variable {acts succ w}
theorem Way.snoc : ∀ {s t : α} {r : List β} {a : β}, Way acts succ w s r t → a ∈ acts t → w t a = false → Way acts succ w s (r ++ [a]) (succ t a)
  | s, t, [], a, h, h1, h2 => by cases h; exact ⟨h1, h2, rfl⟩
  | s, t, b :: r, a, h, h1, h2 => ⟨h.1, h.2.1, Way.snoc h.2.2 h1 h2⟩
theorem Way.split : ∀ {s t : α} {r : List β} {a : β}, Way acts succ w s (r ++ [a]) t → ∃ u, Way acts succ w s r u ∧ a ∈ acts u ∧ w u a = false ∧ t = succ u a
  | s, t, [], a, h => ⟨s, rfl, h.1, h.2.1, h.2.2.symm⟩
  | s, t, b :: r, a, h => by
    obtain ⟨u, h1, h2⟩ := Way.split (r := r) (a := a) h.2.2
    exact ⟨u, ⟨h.1, h.2.1, h1⟩, h2⟩
variable (acts succ w)
/-- what is known between two acts of state number i -/
structure Bfs (st : α) (i : Nat) (done : List β) (found : List α) (ways : List (α × Option (α × β))) (d : α → Nat) : Prop where
  keys : ways.map (·.1) = found
  nd : found.Nodup
  h0 : st ∈ found
  d0 : d st = 0
  mono : found.Pairwise fun x y => d x ≤ d y
  close : ∀ (j : Nat) s, j < i → found[j]? = some s → ∀ a ∈ acts s, w s a = false ∧ succ s a ∈ found ∧ d (succ s a) ≤ d s + 1
  part : ∀ s, found[i]? = some s → ∀ a ∈ done, w s a = false ∧ succ s a ∈ found ∧ d (succ s a) ≤ d s + 1
  last : ∀ s, found[i]? = some s → ∀ x ∈ found, d x ≤ d s + 1
  way : ∀ q ∈ ways, (q.2 = none ∧ q.1 = st ∧ d q.1 = 0) ∨ ∃ s a, q.2 = some (s, a) ∧ q.1 = succ s a ∧ a ∈ acts s ∧ w s a = false ∧ s ∈ found ∧ d q.1 = d s + 1
  dlt : ∀ x ∈ found, d x < found.length
variable {acts succ w}
theorem Bfs.start (st : α) : Bfs acts succ w st 0 [] [st] [(st, none)] fun _ => 0 := by
  refine ⟨rfl, by simp, by simp, rfl, by simp, fun j s h => absurd h (by omega), fun s _ a ha => (by cases ha), fun s _ x _ => by omega, fun q hq => ?_, fun x _ => by simp⟩
  simp at hq
  subst hq
  exact .inl ⟨rfl, rfl, rfl⟩
theorem Bfs.old {st : α} {i : Nat} {done : List β} {found : List α} {ways : List (α × Option (α × β))} {d : α → Nat} (B : Bfs acts succ w st i done found ways d) {s : α} {a : β} (hs : found[i]? = some s) (hw : w s a = false) (hm : succ s a ∈ found) :
    Bfs acts succ w st i (done ++ [a]) found ways d :=
  ⟨B.keys, B.nd, B.h0, B.d0, B.mono, B.close, fun u hu b hb => by
    rw [hs] at hu; cases hu
    rcases List.mem_append.mp hb with hb | hb
    · exact B.part s hs b hb
    · simp at hb; subst hb
      exact ⟨hw, hm, B.last s hs _ hm⟩, B.last, B.way, B.dlt⟩
theorem Bfs.new {st : α} {i : Nat} {done : List β} {found : List α} {ways : List (α × Option (α × β))} {d : α → Nat} (B : Bfs acts succ w st i done found ways d) {s : α} {a : β} (hs : found[i]? = some s) (ha : a ∈ acts s) (hw : w s a = false) (hm : succ s a ∉ found) :
    Bfs acts succ w st i (done ++ [a]) (found ++ [succ s a]) (ways ++ [(succ s a, some (s, a))]) fun x => if x = succ s a then d s + 1 else d x := by
  have hsf : s ∈ found := List.mem_of_getElem? hs
  have hi : i < found.length := (List.getElem?_eq_some_iff.mp hs).1
  have ne : ∀ x ∈ found, x ≠ succ s a := fun x hx e => hm (e ▸ hx)
  have dx : ∀ x ∈ found, (if x = succ s a then d s + 1 else d x) = d x := fun x hx => if_neg (ne x hx)
  have get : ∀ j x, j ≤ i → (found ++ [succ s a])[j]? = some x → found[j]? = some x := fun j x hj e => by
    rw [List.getElem?_append_left (by omega)] at e; exact e
  have hl : ∀ x ∈ found, d x ≤ d s + 1 := B.last s hs
  refine ⟨by rw [List.map_append, B.keys]; rfl, ?_, List.mem_append_left _ B.h0, by show (if _ then _ else _) = 0; rw [dx st B.h0, B.d0], ?_, fun j u hj hu b hb => ?_, fun u hu b hb => ?_, fun u hu x hx => ?_, fun q hq => ?_, fun x hx => ?_⟩
  · exact List.nodup_append.mpr ⟨B.nd, by simp, fun x hx y hy => by simp at hy; subst hy; exact ne x hx⟩
  · refine List.pairwise_append.mpr ⟨B.mono.imp_of_mem fun {x y} hx hy h => ?_, by simp, fun x hx y hy => ?_⟩
    · rw [dx x hx, dx y hy]; exact h
    · simp at hy; subst hy
      rw [dx x hx, if_pos rfl]; exact hl x hx
  · have hu' := get j u (by omega) hu
    obtain ⟨h1, h2, h3⟩ := B.close j u hj hu' b hb
    refine ⟨h1, List.mem_append_left _ h2, ?_⟩
    show (if _ then _ else _) ≤ (if _ then _ else _) + 1
    rw [dx _ h2, dx _ (List.mem_of_getElem? hu')]; exact h3
  · have hu' := get i u (Nat.le_refl _) hu
    rw [hs] at hu'; cases hu'
    show _ ∧ _ ∧ (if _ then _ else _) ≤ (if _ then _ else _) + 1
    rw [dx s hsf]
    rcases List.mem_append.mp hb with hb | hb
    · obtain ⟨h1, h2, h3⟩ := B.part s hs b hb
      exact ⟨h1, List.mem_append_left _ h2, by rw [dx _ h2]; exact h3⟩
    · simp at hb; subst hb
      exact ⟨hw, by simp, by rw [if_pos rfl]; exact Nat.le_refl _⟩
  · have hu' := get i u (Nat.le_refl _) hu
    rw [hs] at hu'; cases hu'
    show (if _ then _ else _) ≤ (if _ then _ else _) + 1
    rw [dx s hsf]
    rcases List.mem_append.mp hx with hx | hx
    · rw [dx x hx]; exact hl x hx
    · simp at hx; subst hx; rw [if_pos rfl]; exact Nat.le_refl _
  · rcases List.mem_append.mp hq with hq | hq
    · have hqf : q.1 ∈ found := by rw [← B.keys]; exact List.mem_map.mpr ⟨q, hq, rfl⟩
      rcases B.way q hq with h | ⟨u, b, h1, h2, h3, h4, h5, h6⟩
      · exact .inl ⟨h.1, h.2.1, (dx _ hqf).trans h.2.2⟩
      · exact .inr ⟨u, b, h1, h2, h3, h4, List.mem_append_left _ h5, (dx _ hqf).trans (h6.trans (congrArg (· + 1) (dx u h5).symm))⟩
    · simp at hq; subst hq
      exact .inr ⟨s, a, rfl, rfl, ha, hw, List.mem_append_left _ hsf, (if_pos rfl).trans (congrArg (· + 1) (dx s hsf).symm)⟩
  · show (if _ then _ else _) < (found ++ [succ s a]).length
    rw [List.length_append, List.length_singleton]
    rcases List.mem_append.mp hx with hx | hx
    · rw [dx x hx]; have := B.dlt x hx; omega
    · simp at hx; subst hx
      rw [if_pos rfl]; have := B.dlt s hsf; omega
theorem Bfs.step {st : α} {i : Nat} {found : List α} {ways : List (α × Option (α × β))} {d : α → Nat} {s : α} (hs : found[i]? = some s) (B : Bfs acts succ w st i (acts s) found ways d) : Bfs acts succ w st (i + 1) [] found ways d :=
  ⟨B.keys, B.nd, B.h0, B.d0, B.mono, fun j u hj hu b hb => by
      rcases Nat.lt_or_eq_of_le (Nat.le_of_lt_succ hj) with c | rfl
      · exact B.close j u c hu b hb
      · rw [hs] at hu; cases hu; exact B.part s hs b hb,
    fun u hu b hb => (by cases hb), fun u hu x hx => by
      have h1 := B.last s hs x hx
      have h2 : d s ≤ d u := by
        obtain ⟨l1, e1⟩ := List.getElem?_eq_some_iff.mp hs
        obtain ⟨l2, e2⟩ := List.getElem?_eq_some_iff.mp hu
        have := List.pairwise_iff_getElem.mp B.mono i (i + 1) l1 l2 (by omega)
        rw [e1, e2] at this; exact this
      omega, B.way, B.dlt⟩
/-- a short run ends in a state that was met -/
theorem Bfs.near {st : α} {i : Nat} {done : List β} {found : List α} {ways : List (α × Option (α × β))} {d : α → Nat} (B : Bfs acts succ w st i done found ways d) {n : Nat} (hn : ∀ j s, found[j]? = some s → d s < n → j < i) :
    ∀ (k : Nat) (q : List β) (t : α), q.length = k → Way acts succ w st q t → k ≤ n → t ∈ found ∧ d t ≤ k := by
  intro k
  induction k with
  | zero =>
    intro q t hk hq _
    cases q with
    | nil => cases hq; exact ⟨B.h0, by rw [B.d0]; exact Nat.le_refl _⟩
    | cons a q => cases hk
  | succ k ih =>
    intro q t hk hq hle
    obtain ⟨q', a, rfl⟩ : ∃ q' a, q = q' ++ [a] := by
      have hne : q ≠ [] := by intro e; rw [e] at hk; cases hk
      exact ⟨q.dropLast, q.getLast hne, (List.dropLast_concat_getLast hne).symm⟩
    obtain ⟨u, h1, h2, h3, rfl⟩ := hq.split
    obtain ⟨g1, g2⟩ := ih q' u (by simpa using hk) h1 (by omega)
    obtain ⟨j, hj, ej⟩ := List.getElem_of_mem g1
    have hj' : found[j]? = some u := by rw [List.getElem?_eq_getElem hj, ej]
    have := hn j u hj' (by omega)
    obtain ⟨_, h5, h6⟩ := B.close j u this hj' a h2
    exact ⟨h5, by omega⟩
/-- no shorter run ends with a wanted act -/
theorem Bfs.least {st : α} {i : Nat} {done : List β} {found : List α} {ways : List (α × Option (α × β))} {d : α → Nat} (B : Bfs acts succ w st i done found ways d) {s : α} (hs : found[i]? = some s) {q : List β} {t : α} {a : β} (hq : Way acts succ w st q t) (ha : a ∈ acts t) (hw : w t a = true) : d s ≤ q.length := by
  rcases Nat.lt_or_ge q.length (d s) with c | c
  · exfalso
    have hn : ∀ j u, found[j]? = some u → d u < d s → j < i := fun j u hu hd => by
      rcases Nat.lt_or_ge j i with e | e
      · exact e
      · exfalso
        rcases Nat.lt_or_eq_of_le e with e | rfl
        · obtain ⟨l1, e1⟩ := List.getElem?_eq_some_iff.mp hs
          obtain ⟨l2, e2⟩ := List.getElem?_eq_some_iff.mp hu
          have := List.pairwise_iff_getElem.mp B.mono i j l1 l2 e
          rw [e1, e2] at this; omega
        · rw [hs] at hu; cases hu; omega
    obtain ⟨h1, h2⟩ := B.near hn q.length q t rfl hq (by omega)
    obtain ⟨j, hj, ej⟩ := List.getElem_of_mem h1
    have hj' : found[j]? = some t := by rw [List.getElem?_eq_getElem hj, ej]
    have := (B.close j t (hn j t hj' (by omega)) hj' a ha).1
    rw [hw] at this; cases this
  · exact c
/-- behind the search no run ends with a wanted act -/
theorem Bfs.never {st : α} {done : List β} {found : List α} {ways : List (α × Option (α × β))} {d : α → Nat} (B : Bfs acts succ w st found.length done found ways d) {q : List β} {t : α} {a : β} (hq : Way acts succ w st q t) (ha : a ∈ acts t) : w t a = false := by
  have hn : ∀ j u, found[j]? = some u → d u < q.length → j < found.length := fun j u hu _ => (List.getElem?_eq_some_iff.mp hu).1
  obtain ⟨h1, _⟩ := B.near hn q.length q t rfl hq (Nat.le_refl _)
  obtain ⟨j, hj, ej⟩ := List.getElem_of_mem h1
  have hj' : found[j]? = some t := by rw [List.getElem?_eq_getElem hj, ej]
  exact (B.close j t hj hj' a ha).1
/-- the way of a state that was met -/
theorem Bfs.get {st : α} {i : Nat} {done : List β} {found : List α} {ways : List (α × Option (α × β))} {d : α → Nat} (B : Bfs acts succ w st i done found ways d) {x : α} (hx : x ∈ found) : ∃ o, ways.find? (fun q => decide (q.1 = x)) = some (x, o) ∧ (x, o) ∈ ways := by
  rw [← B.keys] at hx
  obtain ⟨q, hq, rfl⟩ := List.mem_map.mp hx
  cases e : ways.find? (fun p => decide (p.1 = q.1)) with
  | none => exact absurd (List.find?_eq_none.mp e q hq) (by simp)
  | some r =>
    have h1 := List.find?_some e
    rw [decide_eq_true_eq] at h1
    have h2 := List.mem_of_find?_eq_some e
    obtain ⟨r1, r2⟩ := r
    simp only at h1
    subst h1
    exact ⟨r2, rfl, h2⟩
theorem Bfs.get_none {st : α} {i : Nat} {done : List β} {found : List α} {ways : List (α × Option (α × β))} {d : α → Nat} (B : Bfs acts succ w st i done found ways d) {x : α} (hx : x ∉ found) : ways.find? (fun q => decide (q.1 = x)) = none := by
  rw [List.find?_eq_none]
  intro q hq
  rw [decide_eq_true_eq]
  rintro rfl
  exact hx (by rw [← B.keys]; exact List.mem_map.mpr ⟨q, hq, rfl⟩)
end
end Pu

set_option Elab.async false
set_option linter.all false
set_option maxRecDepth 100000
set_option maxHeartbeats 1000000
/-! Pu, part Q: the search of the text. -/
namespace Pu
open PySem Tk Tk.W
theorem eNs_inj {a b : List Nat} (h : eNs a = eNs b) : a = b := by
  have h1 := PyData.tuple.inj h
  exact (List.map_inj_right fun x y e => eN_inj e).mp h1
theorem ePs_inj {a b : Ch} (h : ePs a = ePs b) : a = b := by
  have h1 := PyData.tuple.inj h
  exact (List.map_inj_right fun x y e => eP_inj' _ _ e).mp h1
theorem eS_inj {a b : St} (h : eS a = eS b) : a = b := by
  have h1 := PyData.tuple.inj h
  simp only [List.cons.injEq, and_true] at h1
  obtain ⟨h1, h2, h3⟩ := h1
  cases a; cases b
  simp only [St.mk.injEq]
  exact ⟨eNs_inj h1, eN_inj h2, ePs_inj h3⟩
theorem kds_map {α : Type} {n : Nat} {f : α → PyData} (h : ∀ x, kd n (f x) = true) : ∀ xs : List α, kds n (xs.map f) = true
  | [] => rfl
  | x :: xs => by rw [List.map_cons, kds, h x, kds_map h xs]; rfl
theorem eS_kd (s : St) : kds 5 [eNs s.v, eN s.f, ePs s.q] = true := by
  have h1 : kd 5 (eNs s.v) = true := kds_map (n := 4) (fun x => rfl) s.v
  have h2 : kd 5 (ePs s.q) = true := kds_map (n := 4) (fun x => rfl) s.q
  simp only [kds, h1, h2]
  rfl
theorem eS_key (s : St) : (keyOf (eS s)).isSome = true := key_kd (eS_kd s) (by decide)
theorem eS_gd (s : St) : gd 50 (eS s) = true := by
  have h1 : gd 49 (eNs s.v) = true := gds_map (n := 48) fun x _ => rfl
  have h2 : gd 49 (ePs s.q) = true := gds_map (n := 48) fun x _ => rfl
  simp only [gd] at h1 h2
  simp only [gd, gds, h1, h2, Bool.and_self]
def eWay : Option (St × Act) → PyData
  | none => .none
  | some p => .tuple [eS p.1, eA p.2]
abbrev eW (q : St × Option (St × Act)) : PyData × PyData := (eS q.1, eWay q.2)
abbrev Ways := List (St × Option (St × Act))
theorem kget_ways (x : St) : ∀ ws : Ways, kget (ws.map eW) (eS x) = (ws.find? fun q => decide (q.1 = x)).map fun q => eWay q.2
  | [] => rfl
  | q :: ws => by
    have ih := kget_ways x ws
    unfold kget at ih ⊢
    rw [List.map_cons, List.find?_cons, List.find?_cons]
    by_cases c : q.1 = x
    · subst c
      simp
    · have c' : ¬ eS q.1 = eS x := fun e => c (eS_inj e)
      simp only [decide_eq_false c, decide_eq_false c']
      exact ih
section
variable {A : Ad} {l : LS} {P : Pg}
/-- the acts that are wanted -/
abbrev wnt (P : Pg) (k : Bool) (s : St) (a : Act) : Bool := want P k s (after P s a).1 (after P s a).2
abbrev scc (P : Pg) (s : St) (a : Act) : St := (after P s a).1
abbrev PB (P : Pg) (k : Bool) := Bfs (acts P) (scc P) (wnt P k) (start P)
abbrev PW (P : Pg) (k : Bool) := Way (acts P) (scc P) (wnt P k) (start P)
theorem runTo_wc {k : Bool} {i : Nat} {done : List Act} {found : List St} {ways : Ways} {d : St → Nat} {x : St} {Q : AV → LS → Prop} (B : PB P k i done found ways d) (hx : x ∈ found) (hl : found.length ≤ 1000) (q : ∀ r, PW P k r x → r.length = d x → Q (.d (eAs r)) l) :
    WC (g_run_to A) [.fd (ways.map eW), .d (eS x)] l Q := by
  have hb := line_big
  unfold g_run_to b_run_to
  rw [wc_den, enter_eq]
  simp only [List.map_cons, List.map_nil, List.length_cons, List.length_nil, List.replicate, List.cons_append, List.nil_append, Nat.reduceAdd, Nat.reduceSub]
  have key : ∀ y : St, avIx (.fd (ways.map eW)) (.d (eS y)) = (ways.find? fun q => decide (q.1 = y)).map fun q => eWay q.2 := fun y => by
    show (if (keyOf (eS y)).isSome then kget (ways.map eW) (eS y) else none) = _
    rw [if_pos (eS_key y), kget_ways]
  simp only [↓ws_seq, ↓ws_set, ↓ws_setL, ↓ws_setD, ↓ws_asg, ↓ws_ret, ↓ws_retN, ↓ws_if, ↓ws_skip, ↓ws_break, ↓ws_cont, ↓ws_never, ↓we_var, ↓we_C, ↓we_fn, ↓we_f2, ↓we_f1, ↓we_chain, ↓wb_tst, ↓wb_tru, ↓wb_and, ↓wb_or, ↓wb_not, ↓wb_yes, ↓we_andV, ↓we_orV, ↓we_notV, ↓we_if, ↓wa_nil, ↓wa_cons, ↓we_tup, ↓wl_lst, ↓we_ofL, ↓wl_it, ↓we_CB, ↓wl_CL, ↓we_call, ↓wg_nm, ↓wgs_nil, ↓wgs_cons, ↓ks_nx, ↓ks_rt, ↓ks_bk, ↓ks_ct, ↓kr_rt, ↓kr_nx, ↓kt_nx, ↓kt_ct, ↓kt_bk, ↓kt_rt, ↓wv_some, ↓wtst_b, ↓wif_t, ↓wif_f, ↓wif_not, ↓we_lenV, ↓we_ixV, ↓we_inV, ↓ws_setIx, ↓wo_none, ↓wo_some, ↓we_sl, ↓wd_disp1, ↓wt_nil, ↓wt_cons, ↓we_dispT, ↓we_make, ↓ws_lsSet1, ↓ws_lsSet2, ↓ws_for, ↓wl_lc, ↓wl_rng1', ↓wl_rng2', ↓wl_enumT', List.getElem?_cons_zero, List.getElem?_cons_succ, List.set_cons_zero, List.set_cons_succ, Option.bind_some, id, rdV_av, rdV_d, rdV_lp, rdV_fn, rdV_ft, rdV_fd, rdV_ml, rdV_md, lenOf_ml, lenOf_l, lenOf_t, datOf_d, mlOf_ml, lstOf_l, intOf_i, seqOf_t, seqOf_l, dCmp_i, isLp_lp, avIx_ml, avIx_l, avIx_t, wv_map, dMod_p, dDiv_p, dAdd_t, dAdd_l, enumOf_t, rngOf_1, rngOf_2, Option.isSome_some, ↓reduceIte, true_and, and_true, rng_nat', Int.toNat_natCast, wipeG_n, wipeG_c, wif_dec, dats_nil, dats_d, dAdd_i, dSub_i, dMul_i, dIx_t, dIx_l, at0, at1, at2, dNeg_i, dTuple_l, dTuple_t, dList_l, dList_t, dInt_i, dLen_l, dLen_t, dPr_sz, dPr_pa, dPr_tk, dPr_lv, dPr_sk, ws_ls1', ws_ls2', wg_tp', ws_app', ws_ext', rdV_non, Option.map_some, List.length_cons, List.length_nil]
  have e0 : (AV.ml []) = AV.ml (([] : List Act).map eA) := rfl
  refine ws_while (fun t => ∃ (y : St) (acc : List Act) (o : Option AV), y ∈ found ∧ Way (acts P) (scc P) (wnt P k) y acc.reverse x ∧ d y + acc.length = d x ∧ t = ⟨[some (.fd (ways.map eW)), some (.d (eS y)), some (.ml (acc.map eA)), o], l⟩)
    (fun t => match mlOf t.Γ[2]? with | some xs => d x - xs.length | none => 0) ⟨x, [], none, hx, rfl, rfl, rfl⟩ ?_
  rintro t ⟨y, acc, o, hy, h1, h2, rfl⟩
  obtain ⟨w, e1, e2⟩ := B.get hy
  simp only [↓ws_seq, ↓ws_set, ↓ws_setL, ↓ws_setD, ↓ws_asg, ↓ws_ret, ↓ws_retN, ↓ws_if, ↓ws_skip, ↓ws_break, ↓ws_cont, ↓ws_never, ↓we_var, ↓we_C, ↓we_fn, ↓we_f2, ↓we_f1, ↓we_chain, ↓wb_tst, ↓wb_tru, ↓wb_and, ↓wb_or, ↓wb_not, ↓wb_yes, ↓we_andV, ↓we_orV, ↓we_notV, ↓we_if, ↓wa_nil, ↓wa_cons, ↓we_tup, ↓wl_lst, ↓we_ofL, ↓wl_it, ↓we_CB, ↓wl_CL, ↓we_call, ↓wg_nm, ↓wgs_nil, ↓wgs_cons, ↓ks_nx, ↓ks_rt, ↓ks_bk, ↓ks_ct, ↓kr_rt, ↓kr_nx, ↓kt_nx, ↓kt_ct, ↓kt_bk, ↓kt_rt, ↓wv_some, ↓wtst_b, ↓wif_t, ↓wif_f, ↓wif_not, ↓we_lenV, ↓we_ixV, ↓we_inV, ↓ws_setIx, ↓wo_none, ↓wo_some, ↓we_sl, ↓wd_disp1, ↓wt_nil, ↓wt_cons, ↓we_dispT, ↓we_make, ↓ws_lsSet1, ↓ws_lsSet2, ↓ws_for, ↓wl_lc, ↓wl_rng1', ↓wl_rng2', ↓wl_enumT', List.getElem?_cons_zero, List.getElem?_cons_succ, List.set_cons_zero, List.set_cons_succ, Option.bind_some, id, rdV_av, rdV_d, rdV_lp, rdV_fn, rdV_ft, rdV_fd, rdV_ml, rdV_md, lenOf_ml, lenOf_l, lenOf_t, datOf_d, mlOf_ml, lstOf_l, intOf_i, seqOf_t, seqOf_l, dCmp_i, isLp_lp, avIx_ml, avIx_l, avIx_t, wv_map, dMod_p, dDiv_p, dAdd_t, dAdd_l, enumOf_t, rngOf_1, rngOf_2, Option.isSome_some, ↓reduceIte, true_and, and_true, rng_nat', Int.toNat_natCast, wipeG_n, wipeG_c, wif_dec, dats_nil, dats_d, dAdd_i, dSub_i, dMul_i, dIx_t, dIx_l, at0, at1, at2, dNeg_i, dTuple_l, dTuple_t, dList_l, dList_t, dInt_i, dLen_l, dLen_t, dPr_sz, dPr_pa, dPr_tk, dPr_lv, dPr_sk, ws_ls1', ws_ls2', wg_tp', ws_app', ws_ext', rdV_non, Option.map_some, List.length_cons, List.length_nil, key, e1]
  rcases B.way _ e2 with ⟨h3, h4, h5⟩ | ⟨u, a, h3, h4, h5, h6, h7, h8⟩
  · simp only at h3 h4 h5
    subst h3
    have : dIsNot (.d (eWay none)) (.d .none) = some (.d (.bool false)) := rfl
    simp only [↓ws_seq, ↓ws_set, ↓ws_setL, ↓ws_setD, ↓ws_asg, ↓ws_ret, ↓ws_retN, ↓ws_if, ↓ws_skip, ↓ws_break, ↓ws_cont, ↓ws_never, ↓we_var, ↓we_C, ↓we_fn, ↓we_f2, ↓we_f1, ↓we_chain, ↓wb_tst, ↓wb_tru, ↓wb_and, ↓wb_or, ↓wb_not, ↓wb_yes, ↓we_andV, ↓we_orV, ↓we_notV, ↓we_if, ↓wa_nil, ↓wa_cons, ↓we_tup, ↓wl_lst, ↓we_ofL, ↓wl_it, ↓we_CB, ↓wl_CL, ↓we_call, ↓wg_nm, ↓wgs_nil, ↓wgs_cons, ↓ks_nx, ↓ks_rt, ↓ks_bk, ↓ks_ct, ↓kr_rt, ↓kr_nx, ↓kt_nx, ↓kt_ct, ↓kt_bk, ↓kt_rt, ↓wv_some, ↓wtst_b, ↓wif_t, ↓wif_f, ↓wif_not, ↓we_lenV, ↓we_ixV, ↓we_inV, ↓ws_setIx, ↓wo_none, ↓wo_some, ↓we_sl, ↓wd_disp1, ↓wt_nil, ↓wt_cons, ↓we_dispT, ↓we_make, ↓ws_lsSet1, ↓ws_lsSet2, ↓ws_for, ↓wl_lc, ↓wl_rng1', ↓wl_rng2', ↓wl_enumT', List.getElem?_cons_zero, List.getElem?_cons_succ, List.set_cons_zero, List.set_cons_succ, Option.bind_some, id, rdV_av, rdV_d, rdV_lp, rdV_fn, rdV_ft, rdV_fd, rdV_ml, rdV_md, lenOf_ml, lenOf_l, lenOf_t, datOf_d, mlOf_ml, lstOf_l, intOf_i, seqOf_t, seqOf_l, dCmp_i, isLp_lp, avIx_ml, avIx_l, avIx_t, wv_map, dMod_p, dDiv_p, dAdd_t, dAdd_l, enumOf_t, rngOf_1, rngOf_2, Option.isSome_some, ↓reduceIte, true_and, and_true, rng_nat', Int.toNat_natCast, wipeG_n, wipeG_c, wif_dec, dats_nil, dats_d, dAdd_i, dSub_i, dMul_i, dIx_t, dIx_l, at0, at1, at2, dNeg_i, dTuple_l, dTuple_t, dList_l, dList_t, dInt_i, dLen_l, dLen_t, dPr_sz, dPr_pa, dPr_tk, dPr_lv, dPr_sk, ws_ls1', ws_ls2', wg_tp', ws_app', ws_ext', rdV_non, Option.map_some, List.length_cons, List.length_nil, this, dRev]
    have hr : (acc.map eA).reverse = acc.reverse.map eA := by rw [List.map_reverse]
    rw [hr]
    subst h4
    exact q acc.reverse h1 (by rw [List.length_reverse]; omega)
  · simp only at h3 h4 h8
    subst h3
    have : dIsNot (.d (.tuple [eS u, eA a])) (.d .none) = some (.d (.bool true)) := rfl
    simp only [↓ws_seq, ↓ws_set, ↓ws_setL, ↓ws_setD, ↓ws_asg, ↓ws_ret, ↓ws_retN, ↓ws_if, ↓ws_skip, ↓ws_break, ↓ws_cont, ↓ws_never, ↓we_var, ↓we_C, ↓we_fn, ↓we_f2, ↓we_f1, ↓we_chain, ↓wb_tst, ↓wb_tru, ↓wb_and, ↓wb_or, ↓wb_not, ↓wb_yes, ↓we_andV, ↓we_orV, ↓we_notV, ↓we_if, ↓wa_nil, ↓wa_cons, ↓we_tup, ↓wl_lst, ↓we_ofL, ↓wl_it, ↓we_CB, ↓wl_CL, ↓we_call, ↓wg_nm, ↓wgs_nil, ↓wgs_cons, ↓ks_nx, ↓ks_rt, ↓ks_bk, ↓ks_ct, ↓kr_rt, ↓kr_nx, ↓kt_nx, ↓kt_ct, ↓kt_bk, ↓kt_rt, ↓wv_some, ↓wtst_b, ↓wif_t, ↓wif_f, ↓wif_not, ↓we_lenV, ↓we_ixV, ↓we_inV, ↓ws_setIx, ↓wo_none, ↓wo_some, ↓we_sl, ↓wd_disp1, ↓wt_nil, ↓wt_cons, ↓we_dispT, ↓we_make, ↓ws_lsSet1, ↓ws_lsSet2, ↓ws_for, ↓wl_lc, ↓wl_rng1', ↓wl_rng2', ↓wl_enumT', List.getElem?_cons_zero, List.getElem?_cons_succ, List.set_cons_zero, List.set_cons_succ, Option.bind_some, id, rdV_av, rdV_d, rdV_lp, rdV_fn, rdV_ft, rdV_fd, rdV_ml, rdV_md, lenOf_ml, lenOf_l, lenOf_t, datOf_d, mlOf_ml, lstOf_l, intOf_i, seqOf_t, seqOf_l, dCmp_i, isLp_lp, avIx_ml, avIx_l, avIx_t, wv_map, dMod_p, dDiv_p, dAdd_t, dAdd_l, enumOf_t, rngOf_1, rngOf_2, Option.isSome_some, ↓reduceIte, true_and, and_true, rng_nat', Int.toNat_natCast, wipeG_n, wipeG_c, wif_dec, dats_nil, dats_d, dAdd_i, dSub_i, dMul_i, dIx_t, dIx_l, at0, at1, at2, dNeg_i, dTuple_l, dTuple_t, dList_l, dList_t, dInt_i, dLen_l, dLen_t, dPr_sz, dPr_pa, dPr_tk, dPr_lv, dPr_sk, ws_ls1', ws_ls2', wg_tp', ws_app', ws_ext', rdV_non, Option.map_some, List.length_cons, List.length_nil, this, eWay, List.length_map]
    have := B.dlt x hx
    refine ⟨by omega, ⟨u, acc ++ [a], some (.d (eA a)), h7, ?_, by rw [List.length_append, List.length_singleton]; omega, ?_⟩, ?_⟩
    · rw [List.reverse_append]
      exact ⟨h5, h6, by rw [← h4]; exact h1⟩
    · rw [List.map_append]
      rfl
    · simp only [List.length_append, List.length_map, List.length_cons, List.length_nil]
      omega
end
end Pu

set_option Elab.async false
set_option linter.all false
set_option maxRecDepth 100000
set_option maxHeartbeats 1000000
/-! Pu, part R: first_run. -/
namespace Pu
open PySem Tk Tk.W
def fnAt (T : Addr → Option Den) : Option (Option AV) → Option Den
  | some (some (.fn a)) => T a
  | _ => none
theorem we_callV' {s : S} {Q : AV → S → Prop} {i : Nat} {T : Addr → Option Den} {f : FA} : WE (fCallV i T f) s Q = WV (fnAt T s.Γ[i]?) fun g => WE (fCall g f) s Q := by
  unfold WE fCallV
  generalize s.Γ[i]? = o
  cases o with
  | none => simp [fnAt]
  | some o =>
    cases o with
    | none => simp [fnAt]
    | some a =>
      cases a with
      | fn a =>
        simp only [fnAt]
        cases T a <;> simp
      | _ => simp [fnAt]
def slotI (i : Nat) (t : S) : Int := match t.Γ[i]? with
  | some (some (.d (.int n))) => n
  | _ => 0
theorem ways_in {P : Pg} {k : Bool} {i : Nat} {done : List Act} {found : List St} {ways : Ways} {d : St → Nat} (B : PB P k i done found ways d) (b : St) : avIn (.d (eS b)) (.md (ways.map eW)) = some (decide (b ∈ found)) := by
  have h : (if (keyOf (eS b)).isSome then some (kget (ways.map eW) (eS b)).isSome else none) = some (decide (b ∈ found)) := by
    rw [if_pos (eS_key b), kget_ways]
    by_cases c : b ∈ found
    · obtain ⟨o, e, _⟩ := B.get c
      simp [e, c]
    · simp [B.get_none c, c]
  exact h
theorem ways_put {P : Pg} {k : Bool} {i : Nat} {done : List Act} {found : List St} {ways : Ways} {d : St → Nat} (B : PB P k i done found ways d) {b : St} (hb : b ∉ found) (hl : ways.length < sizeLine) (s : St) (a : Act) :
    avSet (.md (ways.map eW)) (.d (eS b)) (.tuple [eS s, eA a]) = some (.md ((ways ++ [(b, some (s, a))]).map eW)) := by
  have h : (if (keyOf (eS b)).isSome = true ∧ (ways.map eW).length < sizeLine then some (AV.md (kput (ways.map eW) (eS b) (.tuple [eS s, eA a]))) else none) = some (.md ((ways ++ [(b, some (s, a))]).map eW)) := by
    rw [if_pos ⟨eS_key b, by rw [List.length_map]; exact hl⟩]
    unfold kput
    rw [kget_ways, B.get_none hb, List.map_append]
    rfl
  exact h
theorem firstRun_wc {A : Ad} {l : LS} {P : Pg} {k : Bool} {m : Nat} {f : Addr} {g : Den} {Q : AV → LS → Prop} (h : PgOk P) (hm : 1 ≤ m) (hm2 : m ≤ 1000) (hf : S_fns A f = some g)
    (hg : ∀ (s b : St) (a : Act) (sp : Option (Nat × Nat)) (l : LS) (Q : AV → LS → Prop), VOk P s.v → VOk P b.v → SpOk P sp → WC g [P.av, .d (eS s), .d (eA a), .d (eS b), .d (eSp sp)] l Q = Q (.d (.bool (want P k s b sp))) l)
    (qn : ∀ n : Nat, 1 ≤ n → n ≤ m → (∀ q t a, PW P k q t → a ∈ acts P t → wnt P k t a = false) → Q (.d (.tuple [.str "never", eN n])) l)
    (qm : Q (.d (.tuple [.str "many"])) l)
    (qr : ∀ r a s, PW P k r s → a ∈ acts P s → wnt P k s a = true → r.length ≤ 1000 → (∀ q t b, PW P k q t → b ∈ acts P t → wnt P k t b = true → r.length ≤ q.length) → Q (.d (.tuple [.str "run", eAs (r ++ [a])])) l) :
    WC (g_first_run A) [P.av, .d (eN m), .fn f] l Q := by
  have hb := line_big
  unfold g_first_run b_first_run
  rw [wc_den, enter_eq]
  simp only [List.map_cons, List.map_nil, List.length_cons, List.length_nil, List.replicate, List.cons_append, List.nil_append, Nat.reduceAdd, Nat.reduceSub, List.append_nil]
  simp only [↓ws_seq, ↓ws_set, ↓ws_setL, ↓ws_setD, ↓ws_asg, ↓ws_ret, ↓ws_retN, ↓ws_if, ↓ws_skip, ↓ws_break, ↓ws_cont, ↓ws_never, ↓we_var, ↓we_C, ↓we_fn, ↓we_f2, ↓we_f1, ↓we_chain, ↓wb_tst, ↓wb_tru, ↓wb_and, ↓wb_or, ↓wb_not, ↓wb_yes, ↓we_andV, ↓we_orV, ↓we_notV, ↓we_if, ↓wa_nil, ↓wa_cons, ↓we_tup, ↓wl_lst, ↓we_ofL, ↓wl_it, ↓we_CB, ↓wl_CL, ↓we_call, ↓wg_nm, ↓wgs_nil, ↓wgs_cons, ↓ks_nx, ↓ks_rt, ↓ks_bk, ↓ks_ct, ↓kr_rt, ↓kr_nx, ↓kt_nx, ↓kt_ct, ↓kt_bk, ↓kt_rt, ↓wv_some, ↓wtst_b, ↓wif_t, ↓wif_f, ↓wif_not, ↓we_lenV, ↓we_ixV, ↓we_inV, ↓ws_setIx, ↓wo_none, ↓wo_some, ↓we_sl, ↓wd_disp1, ↓wt_nil, ↓wt_cons, ↓we_dispT, ↓we_make, ↓ws_lsSet1, ↓ws_lsSet2, ↓ws_for, ↓wl_lc, ↓wl_rng1', ↓wl_rng2', ↓wl_enumT', List.getElem?_cons_zero, List.getElem?_cons_succ, List.set_cons_zero, List.set_cons_succ, Option.bind_some, id, rdV_av, rdV_d, rdV_lp, rdV_fn, rdV_ft, rdV_fd, rdV_ml, rdV_md, lenOf_ml, lenOf_l, lenOf_t, datOf_d, mlOf_ml, lstOf_l, intOf_i, seqOf_t, seqOf_l, dCmp_i, isLp_lp, avIx_ml, avIx_l, avIx_t, wv_map, dMod_p, dDiv_p, dAdd_t, dAdd_l, enumOf_t, rngOf_1, rngOf_2, Option.isSome_some, ↓reduceIte, true_and, and_true, rng_nat', Int.toNat_natCast, wipeG_n, wipeG_c, wif_dec, dats_nil, dats_d, dAdd_i, dSub_i, dMul_i, dIx_t, dIx_l, at0, at1, at2, dNeg_i, dTuple_l, dTuple_t, dList_l, dList_t, dInt_i, dLen_l, dLen_t, dPr_sz, dPr_pa, dPr_tk, dPr_lv, dPr_sk, ws_ls1', ws_ls2', wg_tp', ws_app', ws_ext', rdV_non, Option.map_some, List.length_cons, List.length_nil, start_wc h, eS_key]
  have e0 : (AV.ml [eS (start P)]) = AV.ml ([start P].map eS) := rfl
  have e1 : (AV.md [(eS (start P), PyData.none)]) = AV.md ([(start P, (none : Option (St × Act)))].map eW) := rfl
  rw [e0, e1]
  refine ws_while (fun t => ∃ (i : Nat) (found : List St) (ways : Ways) (d : St → Nat) (o6 o7 o8 o9 : Option AV), PB P k i [] found ways d ∧ (∀ x ∈ found, StOk P x) ∧ 1 ≤ found.length ∧ found.length ≤ m ∧ i ≤ found.length ∧
      t = ⟨[some P.av, some (.d (eN m)), some (.fn f), some (.ml (found.map eS)), some (.md (ways.map eW)), some (.d (eN i)), o6, o7, o8, o9], l⟩)
    (fun t => m - (slotI 5 t).toNat) ⟨0, [start P], [(start P, none)], fun _ => 0, none, none, none, none, Bfs.start _, fun x hx => by simp at hx; subst hx; exact StOk.start h, by simp, by simpa using hm, by simp, rfl⟩ ?_
  rintro t ⟨i, found, ways, d, o6, o7, o8, o9, B, hok, h1, h2, h3, rfl⟩
  simp only [↓ws_seq, ↓ws_set, ↓ws_setL, ↓ws_setD, ↓ws_asg, ↓ws_ret, ↓ws_retN, ↓ws_if, ↓ws_skip, ↓ws_break, ↓ws_cont, ↓ws_never, ↓we_var, ↓we_C, ↓we_fn, ↓we_f2, ↓we_f1, ↓we_chain, ↓wb_tst, ↓wb_tru, ↓wb_and, ↓wb_or, ↓wb_not, ↓wb_yes, ↓we_andV, ↓we_orV, ↓we_notV, ↓we_if, ↓wa_nil, ↓wa_cons, ↓we_tup, ↓wl_lst, ↓we_ofL, ↓wl_it, ↓we_CB, ↓wl_CL, ↓we_call, ↓wg_nm, ↓wgs_nil, ↓wgs_cons, ↓ks_nx, ↓ks_rt, ↓ks_bk, ↓ks_ct, ↓kr_rt, ↓kr_nx, ↓kt_nx, ↓kt_ct, ↓kt_bk, ↓kt_rt, ↓wv_some, ↓wtst_b, ↓wif_t, ↓wif_f, ↓wif_not, ↓we_lenV, ↓we_ixV, ↓we_inV, ↓ws_setIx, ↓wo_none, ↓wo_some, ↓we_sl, ↓wd_disp1, ↓wt_nil, ↓wt_cons, ↓we_dispT, ↓we_make, ↓ws_lsSet1, ↓ws_lsSet2, ↓ws_for, ↓wl_lc, ↓wl_rng1', ↓wl_rng2', ↓wl_enumT', List.getElem?_cons_zero, List.getElem?_cons_succ, List.set_cons_zero, List.set_cons_succ, Option.bind_some, id, rdV_av, rdV_d, rdV_lp, rdV_fn, rdV_ft, rdV_fd, rdV_ml, rdV_md, lenOf_ml, lenOf_l, lenOf_t, datOf_d, mlOf_ml, lstOf_l, intOf_i, seqOf_t, seqOf_l, dCmp_i, isLp_lp, avIx_ml, avIx_l, avIx_t, wv_map, dMod_p, dDiv_p, dAdd_t, dAdd_l, enumOf_t, rngOf_1, rngOf_2, Option.isSome_some, ↓reduceIte, true_and, and_true, rng_nat', Int.toNat_natCast, wipeG_n, wipeG_c, wif_dec, dats_nil, dats_d, dAdd_i, dSub_i, dMul_i, dIx_t, dIx_l, at0, at1, at2, dNeg_i, dTuple_l, dTuple_t, dList_l, dList_t, dInt_i, dLen_l, dLen_t, dPr_sz, dPr_pa, dPr_tk, dPr_lv, dPr_sk, ws_ls1', ws_ls2', wg_tp', ws_app', ws_ext', rdV_non, Option.map_some, List.length_cons, List.length_nil, List.length_map]
  split
  · rename_i hi
    have hi' : i < found.length := by omega
    have hs : found[i]? = some found[i] := List.getElem?_eq_getElem hi'
    generalize found[i] = s at hs
    have hso : StOk P s := hok s (List.mem_of_getElem? hs)
    refine wv_atM hs ?_
    simp only [↓ws_seq, ↓ws_set, ↓ws_setL, ↓ws_setD, ↓ws_asg, ↓ws_ret, ↓ws_retN, ↓ws_if, ↓ws_skip, ↓ws_break, ↓ws_cont, ↓ws_never, ↓we_var, ↓we_C, ↓we_fn, ↓we_f2, ↓we_f1, ↓we_chain, ↓wb_tst, ↓wb_tru, ↓wb_and, ↓wb_or, ↓wb_not, ↓wb_yes, ↓we_andV, ↓we_orV, ↓we_notV, ↓we_if, ↓wa_nil, ↓wa_cons, ↓we_tup, ↓wl_lst, ↓we_ofL, ↓wl_it, ↓we_CB, ↓wl_CL, ↓we_call, ↓wg_nm, ↓wgs_nil, ↓wgs_cons, ↓ks_nx, ↓ks_rt, ↓ks_bk, ↓ks_ct, ↓kr_rt, ↓kr_nx, ↓kt_nx, ↓kt_ct, ↓kt_bk, ↓kt_rt, ↓wv_some, ↓wtst_b, ↓wif_t, ↓wif_f, ↓wif_not, ↓we_lenV, ↓we_ixV, ↓we_inV, ↓ws_setIx, ↓wo_none, ↓wo_some, ↓we_sl, ↓wd_disp1, ↓wt_nil, ↓wt_cons, ↓we_dispT, ↓we_make, ↓ws_lsSet1, ↓ws_lsSet2, ↓ws_for, ↓wl_lc, ↓wl_rng1', ↓wl_rng2', ↓wl_enumT', List.getElem?_cons_zero, List.getElem?_cons_succ, List.set_cons_zero, List.set_cons_succ, Option.bind_some, id, rdV_av, rdV_d, rdV_lp, rdV_fn, rdV_ft, rdV_fd, rdV_ml, rdV_md, lenOf_ml, lenOf_l, lenOf_t, datOf_d, mlOf_ml, lstOf_l, intOf_i, seqOf_t, seqOf_l, dCmp_i, isLp_lp, avIx_ml, avIx_l, avIx_t, wv_map, dMod_p, dDiv_p, dAdd_t, dAdd_l, enumOf_t, rngOf_1, rngOf_2, Option.isSome_some, ↓reduceIte, true_and, and_true, rng_nat', Int.toNat_natCast, wipeG_n, wipeG_c, wif_dec, dats_nil, dats_d, dAdd_i, dSub_i, dMul_i, dIx_t, dIx_l, at0, at1, at2, dNeg_i, dTuple_l, dTuple_t, dList_l, dList_t, dInt_i, dLen_l, dLen_t, dPr_sz, dPr_pa, dPr_tk, dPr_lv, dPr_sk, ws_ls1', ws_ls2', wg_tp', ws_app', ws_ext', rdV_non, Option.map_some, List.length_cons, List.length_nil, acts_wc h hso.f]
    refine ws_forGo eA (fun done rest t => done ++ rest = acts P s ∧ ∃ (found : List St) (ways : Ways) (d : St → Nat) (o7 o8 o9 : Option AV), PB P k i done found ways d ∧ found[i]? = some s ∧ (∀ x ∈ found, StOk P x) ∧ 1 ≤ found.length ∧ found.length ≤ m ∧
      t = ⟨[some P.av, some (.d (eN m)), some (.fn f), some (.ml (found.map eS)), some (.md (ways.map eW)), some (.d (eN i)), some (.d (eS s)), o7, o8, o9], l⟩) (acts P s) [] _ ⟨rfl, found, ways, d, o7, o8, o9, B, hs, hok, h1, h2, rfl⟩ ?_ ?_
    · rintro done a rest t ⟨e1, found, ways, d, o7, o8, o9, B, hs, hok, h1, h2, rfl⟩
      have ha : a ∈ acts P s := by rw [← e1]; simp
      have hbo := StOk.after h hso ha
      have hsp := after_sp hso a
      have hlw : ways.length = found.length := by rw [← B.keys, List.length_map]
      simp only [↓ws_seq, ↓ws_set, ↓ws_setL, ↓ws_setD, ↓ws_asg, ↓ws_ret, ↓ws_retN, ↓ws_if, ↓ws_skip, ↓ws_break, ↓ws_cont, ↓ws_never, ↓we_var, ↓we_C, ↓we_fn, ↓we_f2, ↓we_f1, ↓we_chain, ↓wb_tst, ↓wb_tru, ↓wb_and, ↓wb_or, ↓wb_not, ↓wb_yes, ↓we_andV, ↓we_orV, ↓we_notV, ↓we_if, ↓wa_nil, ↓wa_cons, ↓we_tup, ↓wl_lst, ↓we_ofL, ↓wl_it, ↓we_CB, ↓wl_CL, ↓we_call, ↓wg_nm, ↓wgs_nil, ↓wgs_cons, ↓ks_nx, ↓ks_rt, ↓ks_bk, ↓ks_ct, ↓kr_rt, ↓kr_nx, ↓kt_nx, ↓kt_ct, ↓kt_bk, ↓kt_rt, ↓wv_some, ↓wtst_b, ↓wif_t, ↓wif_f, ↓wif_not, ↓we_lenV, ↓we_ixV, ↓we_inV, ↓ws_setIx, ↓wo_none, ↓wo_some, ↓we_sl, ↓wd_disp1, ↓wt_nil, ↓wt_cons, ↓we_dispT, ↓we_make, ↓ws_lsSet1, ↓ws_lsSet2, ↓ws_for, ↓wl_lc, ↓wl_rng1', ↓wl_rng2', ↓wl_enumT', List.getElem?_cons_zero, List.getElem?_cons_succ, List.set_cons_zero, List.set_cons_succ, Option.bind_some, id, rdV_av, rdV_d, rdV_lp, rdV_fn, rdV_ft, rdV_fd, rdV_ml, rdV_md, lenOf_ml, lenOf_l, lenOf_t, datOf_d, mlOf_ml, lstOf_l, intOf_i, seqOf_t, seqOf_l, dCmp_i, isLp_lp, avIx_ml, avIx_l, avIx_t, wv_map, dMod_p, dDiv_p, dAdd_t, dAdd_l, enumOf_t, rngOf_1, rngOf_2, Option.isSome_some, ↓reduceIte, true_and, and_true, rng_nat', Int.toNat_natCast, wipeG_n, wipeG_c, wif_dec, dats_nil, dats_d, dAdd_i, dSub_i, dMul_i, dIx_t, dIx_l, at0, at1, at2, dNeg_i, dTuple_l, dTuple_t, dList_l, dList_t, dInt_i, dLen_l, dLen_t, dPr_sz, dPr_pa, dPr_tk, dPr_lv, dPr_sk, ws_ls1', ws_ls2', wg_tp', ws_app', ws_ext', rdV_non, Option.map_some, List.length_cons, List.length_nil, after_wc h hso ha, we_callV', fnAt, hf, hg _ _ _ _ _ _ hso.vok hbo.vok hsp]
      have hfin : ∀ {p q : Prop} (c : Bool), (c = true → p) → (c = false → q) → WIf c p q := fun c x y => WIf.of x y
      refine WIf.of (fun c => ?_) fun c => ?_
      · refine runTo_wc B (List.mem_of_getElem? hs) (by omega) fun r hr hrl => ?_
        have hl := B.dlt s (List.mem_of_getElem? hs)
        simp only [↓ws_seq, ↓ws_set, ↓ws_setL, ↓ws_setD, ↓ws_asg, ↓ws_ret, ↓ws_retN, ↓ws_if, ↓ws_skip, ↓ws_break, ↓ws_cont, ↓ws_never, ↓we_var, ↓we_C, ↓we_fn, ↓we_f2, ↓we_f1, ↓we_chain, ↓wb_tst, ↓wb_tru, ↓wb_and, ↓wb_or, ↓wb_not, ↓wb_yes, ↓we_andV, ↓we_orV, ↓we_notV, ↓we_if, ↓wa_nil, ↓wa_cons, ↓we_tup, ↓wl_lst, ↓we_ofL, ↓wl_it, ↓we_CB, ↓wl_CL, ↓we_call, ↓wg_nm, ↓wgs_nil, ↓wgs_cons, ↓ks_nx, ↓ks_rt, ↓ks_bk, ↓ks_ct, ↓kr_rt, ↓kr_nx, ↓kt_nx, ↓kt_ct, ↓kt_bk, ↓kt_rt, ↓wv_some, ↓wtst_b, ↓wif_t, ↓wif_f, ↓wif_not, ↓we_lenV, ↓we_ixV, ↓we_inV, ↓ws_setIx, ↓wo_none, ↓wo_some, ↓we_sl, ↓wd_disp1, ↓wt_nil, ↓wt_cons, ↓we_dispT, ↓we_make, ↓ws_lsSet1, ↓ws_lsSet2, ↓ws_for, ↓wl_lc, ↓wl_rng1', ↓wl_rng2', ↓wl_enumT', List.getElem?_cons_zero, List.getElem?_cons_succ, List.set_cons_zero, List.set_cons_succ, Option.bind_some, id, rdV_av, rdV_d, rdV_lp, rdV_fn, rdV_ft, rdV_fd, rdV_ml, rdV_md, lenOf_ml, lenOf_l, lenOf_t, datOf_d, mlOf_ml, lstOf_l, intOf_i, seqOf_t, seqOf_l, dCmp_i, isLp_lp, avIx_ml, avIx_l, avIx_t, wv_map, dMod_p, dDiv_p, dAdd_t, dAdd_l, enumOf_t, rngOf_1, rngOf_2, Option.isSome_some, ↓reduceIte, true_and, and_true, rng_nat', Int.toNat_natCast, wipeG_n, wipeG_c, wif_dec, dats_nil, dats_d, dAdd_i, dSub_i, dMul_i, dIx_t, dIx_l, at0, at1, at2, dNeg_i, dTuple_l, dTuple_t, dList_l, dList_t, dInt_i, dLen_l, dLen_t, dPr_sz, dPr_pa, dPr_tk, dPr_lv, dPr_sk, ws_ls1', ws_ls2', wg_tp', ws_app', ws_ext', rdV_non, Option.map_some, List.length_cons, List.length_nil, List.length_map]
        refine ⟨by omega, ?_⟩
        have e : r.map eA ++ [eA a] = (r ++ [a]).map eA := by rw [List.map_append]; rfl
        rw [e]
        exact qr r a s hr ha c (by omega) fun q t b hq hb hw => by rw [hrl]; exact B.least hs hq hb hw
      · simp only [↓ws_seq, ↓ws_set, ↓ws_setL, ↓ws_setD, ↓ws_asg, ↓ws_ret, ↓ws_retN, ↓ws_if, ↓ws_skip, ↓ws_break, ↓ws_cont, ↓ws_never, ↓we_var, ↓we_C, ↓we_fn, ↓we_f2, ↓we_f1, ↓we_chain, ↓wb_tst, ↓wb_tru, ↓wb_and, ↓wb_or, ↓wb_not, ↓wb_yes, ↓we_andV, ↓we_orV, ↓we_notV, ↓we_if, ↓wa_nil, ↓wa_cons, ↓we_tup, ↓wl_lst, ↓we_ofL, ↓wl_it, ↓we_CB, ↓wl_CL, ↓we_call, ↓wg_nm, ↓wgs_nil, ↓wgs_cons, ↓ks_nx, ↓ks_rt, ↓ks_bk, ↓ks_ct, ↓kr_rt, ↓kr_nx, ↓kt_nx, ↓kt_ct, ↓kt_bk, ↓kt_rt, ↓wv_some, ↓wtst_b, ↓wif_t, ↓wif_f, ↓wif_not, ↓we_lenV, ↓we_ixV, ↓we_inV, ↓ws_setIx, ↓wo_none, ↓wo_some, ↓we_sl, ↓wd_disp1, ↓wt_nil, ↓wt_cons, ↓we_dispT, ↓we_make, ↓ws_lsSet1, ↓ws_lsSet2, ↓ws_for, ↓wl_lc, ↓wl_rng1', ↓wl_rng2', ↓wl_enumT', List.getElem?_cons_zero, List.getElem?_cons_succ, List.set_cons_zero, List.set_cons_succ, Option.bind_some, id, rdV_av, rdV_d, rdV_lp, rdV_fn, rdV_ft, rdV_fd, rdV_ml, rdV_md, lenOf_ml, lenOf_l, lenOf_t, datOf_d, mlOf_ml, lstOf_l, intOf_i, seqOf_t, seqOf_l, dCmp_i, isLp_lp, avIx_ml, avIx_l, avIx_t, wv_map, dMod_p, dDiv_p, dAdd_t, dAdd_l, enumOf_t, rngOf_1, rngOf_2, Option.isSome_some, ↓reduceIte, true_and, and_true, rng_nat', Int.toNat_natCast, wipeG_n, wipeG_c, wif_dec, dats_nil, dats_d, dAdd_i, dSub_i, dMul_i, dIx_t, dIx_l, at0, at1, at2, dNeg_i, dTuple_l, dTuple_t, dList_l, dList_t, dInt_i, dLen_l, dLen_t, dPr_sz, dPr_pa, dPr_tk, dPr_lv, dPr_sk, ws_ls1', ws_ls2', wg_tp', ws_app', ws_ext', rdV_non, Option.map_some, List.length_cons, List.length_nil, ways_in B, List.length_map]
        by_cases hin : (after P s a).1 ∈ found
        · simp only [↓ws_seq, ↓ws_set, ↓ws_setL, ↓ws_setD, ↓ws_asg, ↓ws_ret, ↓ws_retN, ↓ws_if, ↓ws_skip, ↓ws_break, ↓ws_cont, ↓ws_never, ↓we_var, ↓we_C, ↓we_fn, ↓we_f2, ↓we_f1, ↓we_chain, ↓wb_tst, ↓wb_tru, ↓wb_and, ↓wb_or, ↓wb_not, ↓wb_yes, ↓we_andV, ↓we_orV, ↓we_notV, ↓we_if, ↓wa_nil, ↓wa_cons, ↓we_tup, ↓wl_lst, ↓we_ofL, ↓wl_it, ↓we_CB, ↓wl_CL, ↓we_call, ↓wg_nm, ↓wgs_nil, ↓wgs_cons, ↓ks_nx, ↓ks_rt, ↓ks_bk, ↓ks_ct, ↓kr_rt, ↓kr_nx, ↓kt_nx, ↓kt_ct, ↓kt_bk, ↓kt_rt, ↓wv_some, ↓wtst_b, ↓wif_t, ↓wif_f, ↓wif_not, ↓we_lenV, ↓we_ixV, ↓we_inV, ↓ws_setIx, ↓wo_none, ↓wo_some, ↓we_sl, ↓wd_disp1, ↓wt_nil, ↓wt_cons, ↓we_dispT, ↓we_make, ↓ws_lsSet1, ↓ws_lsSet2, ↓ws_for, ↓wl_lc, ↓wl_rng1', ↓wl_rng2', ↓wl_enumT', List.getElem?_cons_zero, List.getElem?_cons_succ, List.set_cons_zero, List.set_cons_succ, Option.bind_some, id, rdV_av, rdV_d, rdV_lp, rdV_fn, rdV_ft, rdV_fd, rdV_ml, rdV_md, lenOf_ml, lenOf_l, lenOf_t, datOf_d, mlOf_ml, lstOf_l, intOf_i, seqOf_t, seqOf_l, dCmp_i, isLp_lp, avIx_ml, avIx_l, avIx_t, wv_map, dMod_p, dDiv_p, dAdd_t, dAdd_l, enumOf_t, rngOf_1, rngOf_2, Option.isSome_some, ↓reduceIte, true_and, and_true, rng_nat', Int.toNat_natCast, wipeG_n, wipeG_c, wif_dec, dats_nil, dats_d, dAdd_i, dSub_i, dMul_i, dIx_t, dIx_l, at0, at1, at2, dNeg_i, dTuple_l, dTuple_t, dList_l, dList_t, dInt_i, dLen_l, dLen_t, dPr_sz, dPr_pa, dPr_tk, dPr_lv, dPr_sk, ws_ls1', ws_ls2', wg_tp', ws_app', ws_ext', rdV_non, Option.map_some, List.length_cons, List.length_nil, hin, decide_true, Bool.not_true]
          exact ⟨by rw [← e1]; simp, found, ways, d, _, _, _, B.old hs c hin, hs, hok, h1, h2, rfl⟩
        · simp only [↓ws_seq, ↓ws_set, ↓ws_setL, ↓ws_setD, ↓ws_asg, ↓ws_ret, ↓ws_retN, ↓ws_if, ↓ws_skip, ↓ws_break, ↓ws_cont, ↓ws_never, ↓we_var, ↓we_C, ↓we_fn, ↓we_f2, ↓we_f1, ↓we_chain, ↓wb_tst, ↓wb_tru, ↓wb_and, ↓wb_or, ↓wb_not, ↓wb_yes, ↓we_andV, ↓we_orV, ↓we_notV, ↓we_if, ↓wa_nil, ↓wa_cons, ↓we_tup, ↓wl_lst, ↓we_ofL, ↓wl_it, ↓we_CB, ↓wl_CL, ↓we_call, ↓wg_nm, ↓wgs_nil, ↓wgs_cons, ↓ks_nx, ↓ks_rt, ↓ks_bk, ↓ks_ct, ↓kr_rt, ↓kr_nx, ↓kt_nx, ↓kt_ct, ↓kt_bk, ↓kt_rt, ↓wv_some, ↓wtst_b, ↓wif_t, ↓wif_f, ↓wif_not, ↓we_lenV, ↓we_ixV, ↓we_inV, ↓ws_setIx, ↓wo_none, ↓wo_some, ↓we_sl, ↓wd_disp1, ↓wt_nil, ↓wt_cons, ↓we_dispT, ↓we_make, ↓ws_lsSet1, ↓ws_lsSet2, ↓ws_for, ↓wl_lc, ↓wl_rng1', ↓wl_rng2', ↓wl_enumT', List.getElem?_cons_zero, List.getElem?_cons_succ, List.set_cons_zero, List.set_cons_succ, Option.bind_some, id, rdV_av, rdV_d, rdV_lp, rdV_fn, rdV_ft, rdV_fd, rdV_ml, rdV_md, lenOf_ml, lenOf_l, lenOf_t, datOf_d, mlOf_ml, lstOf_l, intOf_i, seqOf_t, seqOf_l, dCmp_i, isLp_lp, avIx_ml, avIx_l, avIx_t, wv_map, dMod_p, dDiv_p, dAdd_t, dAdd_l, enumOf_t, rngOf_1, rngOf_2, Option.isSome_some, ↓reduceIte, true_and, and_true, rng_nat', Int.toNat_natCast, wipeG_n, wipeG_c, wif_dec, dats_nil, dats_d, dAdd_i, dSub_i, dMul_i, dIx_t, dIx_l, at0, at1, at2, dNeg_i, dTuple_l, dTuple_t, dList_l, dList_t, dInt_i, dLen_l, dLen_t, dPr_sz, dPr_pa, dPr_tk, dPr_lv, dPr_sk, ws_ls1', ws_ls2', wg_tp', ws_app', ws_ext', rdV_non, Option.map_some, List.length_cons, List.length_nil, hin, decide_false, Bool.not_false, dEq_i]
          split
          · exact qm
          · rename_i hne
            simp only [↓ws_seq, ↓ws_set, ↓ws_setL, ↓ws_setD, ↓ws_asg, ↓ws_ret, ↓ws_retN, ↓ws_if, ↓ws_skip, ↓ws_break, ↓ws_cont, ↓ws_never, ↓we_var, ↓we_C, ↓we_fn, ↓we_f2, ↓we_f1, ↓we_chain, ↓wb_tst, ↓wb_tru, ↓wb_and, ↓wb_or, ↓wb_not, ↓wb_yes, ↓we_andV, ↓we_orV, ↓we_notV, ↓we_if, ↓wa_nil, ↓wa_cons, ↓we_tup, ↓wl_lst, ↓we_ofL, ↓wl_it, ↓we_CB, ↓wl_CL, ↓we_call, ↓wg_nm, ↓wgs_nil, ↓wgs_cons, ↓ks_nx, ↓ks_rt, ↓ks_bk, ↓ks_ct, ↓kr_rt, ↓kr_nx, ↓kt_nx, ↓kt_ct, ↓kt_bk, ↓kt_rt, ↓wv_some, ↓wtst_b, ↓wif_t, ↓wif_f, ↓wif_not, ↓we_lenV, ↓we_ixV, ↓we_inV, ↓ws_setIx, ↓wo_none, ↓wo_some, ↓we_sl, ↓wd_disp1, ↓wt_nil, ↓wt_cons, ↓we_dispT, ↓we_make, ↓ws_lsSet1, ↓ws_lsSet2, ↓ws_for, ↓wl_lc, ↓wl_rng1', ↓wl_rng2', ↓wl_enumT', List.getElem?_cons_zero, List.getElem?_cons_succ, List.set_cons_zero, List.set_cons_succ, Option.bind_some, id, rdV_av, rdV_d, rdV_lp, rdV_fn, rdV_ft, rdV_fd, rdV_ml, rdV_md, lenOf_ml, lenOf_l, lenOf_t, datOf_d, mlOf_ml, lstOf_l, intOf_i, seqOf_t, seqOf_l, dCmp_i, isLp_lp, avIx_ml, avIx_l, avIx_t, wv_map, dMod_p, dDiv_p, dAdd_t, dAdd_l, enumOf_t, rngOf_1, rngOf_2, Option.isSome_some, ↓reduceIte, true_and, and_true, rng_nat', Int.toNat_natCast, wipeG_n, wipeG_c, wif_dec, dats_nil, dats_d, dAdd_i, dSub_i, dMul_i, dIx_t, dIx_l, at0, at1, at2, dNeg_i, dTuple_l, dTuple_t, dList_l, dList_t, dInt_i, dLen_l, dLen_t, dPr_sz, dPr_pa, dPr_tk, dPr_lv, dPr_sk, ws_ls1', ws_ls2', wg_tp', ws_app', ws_ext', rdV_non, Option.map_some, List.length_cons, List.length_nil, ways_put B hin (by omega : ways.length < sizeLine), List.length_map]
            refine ⟨by omega, by rw [← e1]; simp, found ++ [scc P s a], ways ++ [(scc P s a, some (s, a))], _, some (.d (eA a)), some (.d (eS (after P s a).1)), some (.d (eSp (after P s a).2)), B.new hs ha c hin, ?_, ?_, ?_, ?_, ?_⟩
            · rw [List.getElem?_append_left (List.getElem?_eq_some_iff.mp hs).1]; exact hs
            · intro x hx
              rcases List.mem_append.mp hx with hx | hx
              · exact hok x hx
              · simp at hx; subst hx; exact hbo
            · simp
            · rw [List.length_append, List.length_singleton]; omega
            · simp only [List.map_append]
              rfl
    · rintro t ⟨e1, found, ways, d, o7, o8, o9, B, hs, hok, h1, h2, rfl⟩
      rw [List.append_nil] at e1
      rw [List.nil_append] at B
      have hi2 := (List.getElem?_eq_some_iff.mp hs).1
      rw [ks_nx, ws_aug rfl]
      simp only [↓ws_seq, ↓ws_set, ↓ws_setL, ↓ws_setD, ↓ws_asg, ↓ws_ret, ↓ws_retN, ↓ws_if, ↓ws_skip, ↓ws_break, ↓ws_cont, ↓ws_never, ↓we_var, ↓we_C, ↓we_fn, ↓we_f2, ↓we_f1, ↓we_chain, ↓wb_tst, ↓wb_tru, ↓wb_and, ↓wb_or, ↓wb_not, ↓wb_yes, ↓we_andV, ↓we_orV, ↓we_notV, ↓we_if, ↓wa_nil, ↓wa_cons, ↓we_tup, ↓wl_lst, ↓we_ofL, ↓wl_it, ↓we_CB, ↓wl_CL, ↓we_call, ↓wg_nm, ↓wgs_nil, ↓wgs_cons, ↓ks_nx, ↓ks_rt, ↓ks_bk, ↓ks_ct, ↓kr_rt, ↓kr_nx, ↓kt_nx, ↓kt_ct, ↓kt_bk, ↓kt_rt, ↓wv_some, ↓wtst_b, ↓wif_t, ↓wif_f, ↓wif_not, ↓we_lenV, ↓we_ixV, ↓we_inV, ↓ws_setIx, ↓wo_none, ↓wo_some, ↓we_sl, ↓wd_disp1, ↓wt_nil, ↓wt_cons, ↓we_dispT, ↓we_make, ↓ws_lsSet1, ↓ws_lsSet2, ↓ws_for, ↓wl_lc, ↓wl_rng1', ↓wl_rng2', ↓wl_enumT', List.getElem?_cons_zero, List.getElem?_cons_succ, List.set_cons_zero, List.set_cons_succ, Option.bind_some, id, rdV_av, rdV_d, rdV_lp, rdV_fn, rdV_ft, rdV_fd, rdV_ml, rdV_md, lenOf_ml, lenOf_l, lenOf_t, datOf_d, mlOf_ml, lstOf_l, intOf_i, seqOf_t, seqOf_l, dCmp_i, isLp_lp, avIx_ml, avIx_l, avIx_t, wv_map, dMod_p, dDiv_p, dAdd_t, dAdd_l, enumOf_t, rngOf_1, rngOf_2, Option.isSome_some, ↓reduceIte, true_and, and_true, rng_nat', Int.toNat_natCast, wipeG_n, wipeG_c, wif_dec, dats_nil, dats_d, dAdd_i, dSub_i, dMul_i, dIx_t, dIx_l, at0, at1, at2, dNeg_i, dTuple_l, dTuple_t, dList_l, dList_t, dInt_i, dLen_l, dLen_t, dPr_sz, dPr_pa, dPr_tk, dPr_lv, dPr_sk, ws_ls1', ws_ls2', wg_tp', ws_app', ws_ext', rdV_non, Option.map_some, List.length_cons, List.length_nil]
      refine ⟨⟨i + 1, found, ways, d, _, _, _, _, Bfs.step hs B, hok, h1, h2, hi2, rfl⟩, ?_⟩
      simp only [slotI, List.getElem?_cons_succ, List.getElem?_cons_zero]
      omega
  · rename_i hi
    have : i = found.length := by omega
    subst this
    try simp only [↓ws_seq, ↓ws_set, ↓ws_setL, ↓ws_setD, ↓ws_asg, ↓ws_ret, ↓ws_retN, ↓ws_if, ↓ws_skip, ↓ws_break, ↓ws_cont, ↓ws_never, ↓we_var, ↓we_C, ↓we_fn, ↓we_f2, ↓we_f1, ↓we_chain, ↓wb_tst, ↓wb_tru, ↓wb_and, ↓wb_or, ↓wb_not, ↓wb_yes, ↓we_andV, ↓we_orV, ↓we_notV, ↓we_if, ↓wa_nil, ↓wa_cons, ↓we_tup, ↓wl_lst, ↓we_ofL, ↓wl_it, ↓we_CB, ↓wl_CL, ↓we_call, ↓wg_nm, ↓wgs_nil, ↓wgs_cons, ↓ks_nx, ↓ks_rt, ↓ks_bk, ↓ks_ct, ↓kr_rt, ↓kr_nx, ↓kt_nx, ↓kt_ct, ↓kt_bk, ↓kt_rt, ↓wv_some, ↓wtst_b, ↓wif_t, ↓wif_f, ↓wif_not, ↓we_lenV, ↓we_ixV, ↓we_inV, ↓ws_setIx, ↓wo_none, ↓wo_some, ↓we_sl, ↓wd_disp1, ↓wt_nil, ↓wt_cons, ↓we_dispT, ↓we_make, ↓ws_lsSet1, ↓ws_lsSet2, ↓ws_for, ↓wl_lc, ↓wl_rng1', ↓wl_rng2', ↓wl_enumT', List.getElem?_cons_zero, List.getElem?_cons_succ, List.set_cons_zero, List.set_cons_succ, Option.bind_some, id, rdV_av, rdV_d, rdV_lp, rdV_fn, rdV_ft, rdV_fd, rdV_ml, rdV_md, lenOf_ml, lenOf_l, lenOf_t, datOf_d, mlOf_ml, lstOf_l, intOf_i, seqOf_t, seqOf_l, dCmp_i, isLp_lp, avIx_ml, avIx_l, avIx_t, wv_map, dMod_p, dDiv_p, dAdd_t, dAdd_l, enumOf_t, rngOf_1, rngOf_2, Option.isSome_some, ↓reduceIte, true_and, and_true, rng_nat', Int.toNat_natCast, wipeG_n, wipeG_c, wif_dec, dats_nil, dats_d, dAdd_i, dSub_i, dMul_i, dIx_t, dIx_l, at0, at1, at2, dNeg_i, dTuple_l, dTuple_t, dList_l, dList_t, dInt_i, dLen_l, dLen_t, dPr_sz, dPr_pa, dPr_tk, dPr_lv, dPr_sk, ws_ls1', ws_ls2', wg_tp', ws_app', ws_ext', rdV_non, Option.map_some, List.length_cons, List.length_nil, List.length_map]
    exact qn found.length h1 h2 fun q t a hq ha => B.never hq ha
end Pu

set_option Elab.async false
set_option linter.all false
set_option maxRecDepth 100000
set_option maxHeartbeats 1000000
/-! Pu, part S: the law's own run, and the law. -/
namespace Pu
open PySem Tk Tk.W
theorem dNe_b (b c : Bool) : dNe (.d (.bool b)) (.d (.bool c)) = some (.d (.bool (b != c))) := by cases b <;> cases c <;> rfl
theorem lawFirst_wc {A : Ad} {l : LS} {P : Pg} {k : Bool} {Q : AV → LS → Prop} (h : PgOk P) (hl : LsOk l) (q : ∀ (c : Nat) l', LsOk l' → (c = 0 ∨ ∃ r t a, PW P k r t ∧ a ∈ acts P t ∧ wnt P k t a = true ∧ c = r.length + 1) → Q (.d (eN c)) l') :
    WC (g__law_first A) [P.av, .d (.str (kW k)), .lp] l Q := by
  unfold g__law_first b__law_first
  rw [wc_den, enter_eq]
  simp only [List.map_cons, List.map_nil, List.length_cons, List.length_nil, List.replicate, List.cons_append, List.nil_append, Nat.reduceAdd, Nat.reduceSub, List.append_nil]
  simp only [↓ws_seq, ↓ws_set, ↓ws_setL, ↓ws_setD, ↓ws_asg, ↓ws_ret, ↓ws_retN, ↓ws_if, ↓ws_skip, ↓ws_break, ↓ws_cont, ↓ws_never, ↓we_var, ↓we_C, ↓we_fn, ↓we_f2, ↓we_f1, ↓we_chain, ↓wb_tst, ↓wb_tru, ↓wb_and, ↓wb_or, ↓wb_not, ↓wb_yes, ↓we_andV, ↓we_orV, ↓we_notV, ↓we_if, ↓wa_nil, ↓wa_cons, ↓we_tup, ↓wl_lst, ↓we_ofL, ↓wl_it, ↓we_CB, ↓wl_CL, ↓we_call, ↓wg_nm, ↓wgs_nil, ↓wgs_cons, ↓ks_nx, ↓ks_rt, ↓ks_bk, ↓ks_ct, ↓kr_rt, ↓kr_nx, ↓kt_nx, ↓kt_ct, ↓kt_bk, ↓kt_rt, ↓wv_some, ↓wtst_b, ↓wif_t, ↓wif_f, ↓wif_not, ↓we_lenV, ↓we_ixV, ↓we_inV, ↓ws_setIx, ↓wo_none, ↓wo_some, ↓we_sl, ↓wd_disp1, ↓wt_nil, ↓wt_cons, ↓we_dispT, ↓we_make, ↓ws_lsSet1, ↓ws_lsSet2, ↓ws_for, ↓wl_lc, ↓wl_rng1', ↓wl_rng2', ↓wl_enumT', List.getElem?_cons_zero, List.getElem?_cons_succ, List.set_cons_zero, List.set_cons_succ, Option.bind_some, id, rdV_av, rdV_d, rdV_lp, rdV_fn, rdV_ft, rdV_fd, rdV_ml, rdV_md, lenOf_ml, lenOf_l, lenOf_t, datOf_d, mlOf_ml, lstOf_l, intOf_i, seqOf_t, seqOf_l, dCmp_i, isLp_lp, avIx_ml, avIx_l, avIx_t, wv_map, dMod_p, dDiv_p, dAdd_t, dAdd_l, enumOf_t, rngOf_1, rngOf_2, Option.isSome_some, ↓reduceIte, true_and, and_true, rng_nat', Int.toNat_natCast, wipeG_n, wipeG_c, wif_dec, dats_nil, dats_d, dAdd_i, dSub_i, dMul_i, dIx_t, dIx_l, at0, at1, at2, dNeg_i, dTuple_l, dTuple_t, dList_l, dList_t, dInt_i, dLen_l, dLen_t, dPr_sz, dPr_pa, dPr_tk, dPr_lv, dPr_sk, ws_ls1', ws_ls2', wg_tp', ws_app', ws_ext', rdV_non, Option.map_some, List.length_cons, List.length_nil, start_wc h]
  refine ⟨inB_of (by omega) (by omega), ?_⟩
  refine ws_forGo eN (fun done rest t => done ++ rest = List.range 40 ∧ ∃ (u : St) (r : List Act) (l : LS) (o4 o5 o6 o7 o8 : Option AV), LsOk l ∧ StOk P u ∧ PW P k r u ∧ done.length = r.length ∧ t = ⟨[some P.av, some (.d (.str (kW k))), some .lp, some (.d (eS u)), o4, o5, o6, o7, o8], l⟩) (List.range 40) [] _ ⟨rfl, start P, [], l, none, none, none, none, none, hl, StOk.start h, rfl, rfl, rfl⟩ ?_ ?_
  · rintro done x rest t ⟨e1, u, r, l, o4, o5, o6, o7, o8, hl, hu, hr, e2, rfl⟩
    have hx : x = done.length := by
      have h1 : (List.range 40)[done.length]? = some x := by rw [← e1]; simp
      rw [List.getElem?_range (by
        have := congrArg List.length e1
        simp at this
        omega)] at h1
      exact (Option.some.inj h1).symm
    have hal := acts_len P u h
    have hne : 1 ≤ (acts P u).length := by rw [acts_eq]; simp; omega
    simp only [↓ws_seq, ↓ws_set, ↓ws_setL, ↓ws_setD, ↓ws_asg, ↓ws_ret, ↓ws_retN, ↓ws_if, ↓ws_skip, ↓ws_break, ↓ws_cont, ↓ws_never, ↓we_var, ↓we_C, ↓we_fn, ↓we_f2, ↓we_f1, ↓we_chain, ↓wb_tst, ↓wb_tru, ↓wb_and, ↓wb_or, ↓wb_not, ↓wb_yes, ↓we_andV, ↓we_orV, ↓we_notV, ↓we_if, ↓wa_nil, ↓wa_cons, ↓we_tup, ↓wl_lst, ↓we_ofL, ↓wl_it, ↓we_CB, ↓wl_CL, ↓we_call, ↓wg_nm, ↓wgs_nil, ↓wgs_cons, ↓ks_nx, ↓ks_rt, ↓ks_bk, ↓ks_ct, ↓kr_rt, ↓kr_nx, ↓kt_nx, ↓kt_ct, ↓kt_bk, ↓kt_rt, ↓wv_some, ↓wtst_b, ↓wif_t, ↓wif_f, ↓wif_not, ↓we_lenV, ↓we_ixV, ↓we_inV, ↓ws_setIx, ↓wo_none, ↓wo_some, ↓we_sl, ↓wd_disp1, ↓wt_nil, ↓wt_cons, ↓we_dispT, ↓we_make, ↓ws_lsSet1, ↓ws_lsSet2, ↓ws_for, ↓wl_lc, ↓wl_rng1', ↓wl_rng2', ↓wl_enumT', List.getElem?_cons_zero, List.getElem?_cons_succ, List.set_cons_zero, List.set_cons_succ, Option.bind_some, id, rdV_av, rdV_d, rdV_lp, rdV_fn, rdV_ft, rdV_fd, rdV_ml, rdV_md, lenOf_ml, lenOf_l, lenOf_t, datOf_d, mlOf_ml, lstOf_l, intOf_i, seqOf_t, seqOf_l, dCmp_i, isLp_lp, avIx_ml, avIx_l, avIx_t, wv_map, dMod_p, dDiv_p, dAdd_t, dAdd_l, enumOf_t, rngOf_1, rngOf_2, Option.isSome_some, ↓reduceIte, true_and, and_true, rng_nat', Int.toNat_natCast, wipeG_n, wipeG_c, wif_dec, dats_nil, dats_d, dAdd_i, dSub_i, dMul_i, dIx_t, dIx_l, at0, at1, at2, dNeg_i, dTuple_l, dTuple_t, dList_l, dList_t, dInt_i, dLen_l, dLen_t, dPr_sz, dPr_pa, dPr_tk, dPr_lv, dPr_sk, ws_ls1', ws_ls2', wg_tp', ws_app', ws_ext', rdV_non, Option.map_some, List.length_cons, List.length_nil, acts_wc h hu.f, List.length_map]
    refine next_wc hl (by omega) (by omega) fun i l' hi hl' => ?_
    have hi' : i < (acts P u).length := by omega
    have hs : (acts P u)[i]? = some (acts P u)[i] := List.getElem?_eq_getElem hi'
    generalize (acts P u)[i] = a at hs
    have ha : a ∈ acts P u := List.mem_of_getElem? hs
    have hbo := StOk.after h hu ha
    have hsp := after_sp hu a
    try simp only [↓ws_seq, ↓ws_set, ↓ws_setL, ↓ws_setD, ↓ws_asg, ↓ws_ret, ↓ws_retN, ↓ws_if, ↓ws_skip, ↓ws_break, ↓ws_cont, ↓ws_never, ↓we_var, ↓we_C, ↓we_fn, ↓we_f2, ↓we_f1, ↓we_chain, ↓wb_tst, ↓wb_tru, ↓wb_and, ↓wb_or, ↓wb_not, ↓wb_yes, ↓we_andV, ↓we_orV, ↓we_notV, ↓we_if, ↓wa_nil, ↓wa_cons, ↓we_tup, ↓wl_lst, ↓we_ofL, ↓wl_it, ↓we_CB, ↓wl_CL, ↓we_call, ↓wg_nm, ↓wgs_nil, ↓wgs_cons, ↓ks_nx, ↓ks_rt, ↓ks_bk, ↓ks_ct, ↓kr_rt, ↓kr_nx, ↓kt_nx, ↓kt_ct, ↓kt_bk, ↓kt_rt, ↓wv_some, ↓wtst_b, ↓wif_t, ↓wif_f, ↓wif_not, ↓we_lenV, ↓we_ixV, ↓we_inV, ↓ws_setIx, ↓wo_none, ↓wo_some, ↓we_sl, ↓wd_disp1, ↓wt_nil, ↓wt_cons, ↓we_dispT, ↓we_make, ↓ws_lsSet1, ↓ws_lsSet2, ↓ws_for, ↓wl_lc, ↓wl_rng1', ↓wl_rng2', ↓wl_enumT', List.getElem?_cons_zero, List.getElem?_cons_succ, List.set_cons_zero, List.set_cons_succ, Option.bind_some, id, rdV_av, rdV_d, rdV_lp, rdV_fn, rdV_ft, rdV_fd, rdV_ml, rdV_md, lenOf_ml, lenOf_l, lenOf_t, datOf_d, mlOf_ml, lstOf_l, intOf_i, seqOf_t, seqOf_l, dCmp_i, isLp_lp, avIx_ml, avIx_l, avIx_t, wv_map, dMod_p, dDiv_p, dAdd_t, dAdd_l, enumOf_t, rngOf_1, rngOf_2, Option.isSome_some, ↓reduceIte, true_and, and_true, rng_nat', Int.toNat_natCast, wipeG_n, wipeG_c, wif_dec, dats_nil, dats_d, dAdd_i, dSub_i, dMul_i, dIx_t, dIx_l, at0, at1, at2, dNeg_i, dTuple_l, dTuple_t, dList_l, dList_t, dInt_i, dLen_l, dLen_t, dPr_sz, dPr_pa, dPr_tk, dPr_lv, dPr_sk, ws_ls1', ws_ls2', wg_tp', ws_app', ws_ext', rdV_non, Option.map_some, List.length_cons, List.length_nil]
    refine wv_atM hs ?_
    simp only [↓ws_seq, ↓ws_set, ↓ws_setL, ↓ws_setD, ↓ws_asg, ↓ws_ret, ↓ws_retN, ↓ws_if, ↓ws_skip, ↓ws_break, ↓ws_cont, ↓ws_never, ↓we_var, ↓we_C, ↓we_fn, ↓we_f2, ↓we_f1, ↓we_chain, ↓wb_tst, ↓wb_tru, ↓wb_and, ↓wb_or, ↓wb_not, ↓wb_yes, ↓we_andV, ↓we_orV, ↓we_notV, ↓we_if, ↓wa_nil, ↓wa_cons, ↓we_tup, ↓wl_lst, ↓we_ofL, ↓wl_it, ↓we_CB, ↓wl_CL, ↓we_call, ↓wg_nm, ↓wgs_nil, ↓wgs_cons, ↓ks_nx, ↓ks_rt, ↓ks_bk, ↓ks_ct, ↓kr_rt, ↓kr_nx, ↓kt_nx, ↓kt_ct, ↓kt_bk, ↓kt_rt, ↓wv_some, ↓wtst_b, ↓wif_t, ↓wif_f, ↓wif_not, ↓we_lenV, ↓we_ixV, ↓we_inV, ↓ws_setIx, ↓wo_none, ↓wo_some, ↓we_sl, ↓wd_disp1, ↓wt_nil, ↓wt_cons, ↓we_dispT, ↓we_make, ↓ws_lsSet1, ↓ws_lsSet2, ↓ws_for, ↓wl_lc, ↓wl_rng1', ↓wl_rng2', ↓wl_enumT', List.getElem?_cons_zero, List.getElem?_cons_succ, List.set_cons_zero, List.set_cons_succ, Option.bind_some, id, rdV_av, rdV_d, rdV_lp, rdV_fn, rdV_ft, rdV_fd, rdV_ml, rdV_md, lenOf_ml, lenOf_l, lenOf_t, datOf_d, mlOf_ml, lstOf_l, intOf_i, seqOf_t, seqOf_l, dCmp_i, isLp_lp, avIx_ml, avIx_l, avIx_t, wv_map, dMod_p, dDiv_p, dAdd_t, dAdd_l, enumOf_t, rngOf_1, rngOf_2, Option.isSome_some, ↓reduceIte, true_and, and_true, rng_nat', Int.toNat_natCast, wipeG_n, wipeG_c, wif_dec, dats_nil, dats_d, dAdd_i, dSub_i, dMul_i, dIx_t, dIx_l, at0, at1, at2, dNeg_i, dTuple_l, dTuple_t, dList_l, dList_t, dInt_i, dLen_l, dLen_t, dPr_sz, dPr_pa, dPr_tk, dPr_lv, dPr_sk, ws_ls1', ws_ls2', wg_tp', ws_app', ws_ext', rdV_non, Option.map_some, List.length_cons, List.length_nil, after_wc h hu ha, lawWanted_wc h hu.vok hbo.vok hsp]
    refine WIf.of (fun c => ?_) fun c => ?_
    · exact q (x + 1) l' hl' (.inr ⟨r, u, a, hr, ha, c, by omega⟩)
    · exact ⟨by rw [← e1]; simp, (after P u a).1, r ++ [a], l', _, _, _, _, _, hl', hbo, hr.snoc ha c, by simp [e2], rfl⟩
  · rintro t ⟨e1, u, r, l, o4, o5, o6, o7, o8, hl, hu, hr, e2, rfl⟩
    try simp only [↓ws_seq, ↓ws_set, ↓ws_setL, ↓ws_setD, ↓ws_asg, ↓ws_ret, ↓ws_retN, ↓ws_if, ↓ws_skip, ↓ws_break, ↓ws_cont, ↓ws_never, ↓we_var, ↓we_C, ↓we_fn, ↓we_f2, ↓we_f1, ↓we_chain, ↓wb_tst, ↓wb_tru, ↓wb_and, ↓wb_or, ↓wb_not, ↓wb_yes, ↓we_andV, ↓we_orV, ↓we_notV, ↓we_if, ↓wa_nil, ↓wa_cons, ↓we_tup, ↓wl_lst, ↓we_ofL, ↓wl_it, ↓we_CB, ↓wl_CL, ↓we_call, ↓wg_nm, ↓wgs_nil, ↓wgs_cons, ↓ks_nx, ↓ks_rt, ↓ks_bk, ↓ks_ct, ↓kr_rt, ↓kr_nx, ↓kt_nx, ↓kt_ct, ↓kt_bk, ↓kt_rt, ↓wv_some, ↓wtst_b, ↓wif_t, ↓wif_f, ↓wif_not, ↓we_lenV, ↓we_ixV, ↓we_inV, ↓ws_setIx, ↓wo_none, ↓wo_some, ↓we_sl, ↓wd_disp1, ↓wt_nil, ↓wt_cons, ↓we_dispT, ↓we_make, ↓ws_lsSet1, ↓ws_lsSet2, ↓ws_for, ↓wl_lc, ↓wl_rng1', ↓wl_rng2', ↓wl_enumT', List.getElem?_cons_zero, List.getElem?_cons_succ, List.set_cons_zero, List.set_cons_succ, Option.bind_some, id, rdV_av, rdV_d, rdV_lp, rdV_fn, rdV_ft, rdV_fd, rdV_ml, rdV_md, lenOf_ml, lenOf_l, lenOf_t, datOf_d, mlOf_ml, lstOf_l, intOf_i, seqOf_t, seqOf_l, dCmp_i, isLp_lp, avIx_ml, avIx_l, avIx_t, wv_map, dMod_p, dDiv_p, dAdd_t, dAdd_l, enumOf_t, rngOf_1, rngOf_2, Option.isSome_some, ↓reduceIte, true_and, and_true, rng_nat', Int.toNat_natCast, wipeG_n, wipeG_c, wif_dec, dats_nil, dats_d, dAdd_i, dSub_i, dMul_i, dIx_t, dIx_l, at0, at1, at2, dNeg_i, dTuple_l, dTuple_t, dList_l, dList_t, dInt_i, dLen_l, dLen_t, dPr_sz, dPr_pa, dPr_tk, dPr_lv, dPr_sk, ws_ls1', ws_ls2', wg_tp', ws_app', ws_ext', rdV_non, Option.map_some, List.length_cons, List.length_nil]
    exact q 0 l hl (.inl rfl)
theorem lawTold_wc {A : Ad} {l : LS} {P : Pg} {k : Bool} {r : List Act} {a : Act} {s : St} {Q : AV → LS → Prop} (h : PgOk P) (hr : PW P k r s) (ha : a ∈ acts P s) (hw : wnt P k s a = true) (hl : r.length ≤ 1000) (q : Q (.d (.bool true)) l) :
    WC (g__law_told A) [P.av, .d (.str (kW k)), .d (eAs (r ++ [a]))] l Q := by
  unfold g__law_told b__law_told
  rw [wc_den, enter_eq]
  simp only [List.map_cons, List.map_nil, List.length_cons, List.length_nil, List.replicate, List.cons_append, List.nil_append, Nat.reduceAdd, Nat.reduceSub, List.append_nil]
  simp only [↓ws_seq, ↓ws_set, ↓ws_setL, ↓ws_setD, ↓ws_asg, ↓ws_ret, ↓ws_retN, ↓ws_if, ↓ws_skip, ↓ws_break, ↓ws_cont, ↓ws_never, ↓we_var, ↓we_C, ↓we_fn, ↓we_f2, ↓we_f1, ↓we_chain, ↓wb_tst, ↓wb_tru, ↓wb_and, ↓wb_or, ↓wb_not, ↓wb_yes, ↓we_andV, ↓we_orV, ↓we_notV, ↓we_if, ↓wa_nil, ↓wa_cons, ↓we_tup, ↓wl_lst, ↓we_ofL, ↓wl_it, ↓we_CB, ↓wl_CL, ↓we_call, ↓wg_nm, ↓wgs_nil, ↓wgs_cons, ↓ks_nx, ↓ks_rt, ↓ks_bk, ↓ks_ct, ↓kr_rt, ↓kr_nx, ↓kt_nx, ↓kt_ct, ↓kt_bk, ↓kt_rt, ↓wv_some, ↓wtst_b, ↓wif_t, ↓wif_f, ↓wif_not, ↓we_lenV, ↓we_ixV, ↓we_inV, ↓ws_setIx, ↓wo_none, ↓wo_some, ↓we_sl, ↓wd_disp1, ↓wt_nil, ↓wt_cons, ↓we_dispT, ↓we_make, ↓ws_lsSet1, ↓ws_lsSet2, ↓ws_for, ↓wl_lc, ↓wl_rng1', ↓wl_rng2', ↓wl_enumT', List.getElem?_cons_zero, List.getElem?_cons_succ, List.set_cons_zero, List.set_cons_succ, Option.bind_some, id, rdV_av, rdV_d, rdV_lp, rdV_fn, rdV_ft, rdV_fd, rdV_ml, rdV_md, lenOf_ml, lenOf_l, lenOf_t, datOf_d, mlOf_ml, lstOf_l, intOf_i, seqOf_t, seqOf_l, dCmp_i, isLp_lp, avIx_ml, avIx_l, avIx_t, wv_map, dMod_p, dDiv_p, dAdd_t, dAdd_l, enumOf_t, rngOf_1, rngOf_2, Option.isSome_some, ↓reduceIte, true_and, and_true, rng_nat', Int.toNat_natCast, wipeG_n, wipeG_c, wif_dec, dats_nil, dats_d, dAdd_i, dSub_i, dMul_i, dIx_t, dIx_l, at0, at1, at2, dNeg_i, dTuple_l, dTuple_t, dList_l, dList_t, dInt_i, dLen_l, dLen_t, dPr_sz, dPr_pa, dPr_tk, dPr_lv, dPr_sk, ws_ls1', ws_ls2', wg_tp', ws_app', ws_ext', rdV_non, Option.map_some, List.length_cons, List.length_nil, start_wc h, List.length_map]
  have hlen : (r ++ [a]).length = r.length + 1 := by simp
  refine ⟨inB_of (by omega) (by omega), ?_⟩
  refine ws_forGo eN (fun done rest t => done ++ rest = List.range (r ++ [a]).length ∧ ∃ (u : St) (r1 r2 : List Act) (o4 o5 o6 : Option AV), (done.length ≤ r.length → StOk P u ∧ r = r1 ++ r2 ∧ Way (acts P) (scc P) (wnt P k) u r2 s ∧ done.length = r1.length) ∧ t = ⟨[some P.av, some (.d (.str (kW k))), some (.d (eAs (r ++ [a]))), some (.d (eS u)), o4, o5, o6], l⟩) (List.range (r ++ [a]).length) [] _ ⟨rfl, start P, [], r, none, none, none, fun _ => ⟨StOk.start h, rfl, hr, rfl⟩, rfl⟩ ?_ ?_
  · rintro done x rest t ⟨e1, u, r1, r2, o4, o5, o6, e2, rfl⟩
    have hd : done.length < r.length + 1 := by
      have := congrArg List.length e1
      simp at this
      omega
    have hx : x = done.length := by
      have h1 : (List.range (r ++ [a]).length)[done.length]? = some x := by rw [← e1]; simp
      rw [List.getElem?_range (by omega)] at h1
      exact (Option.some.inj h1).symm
    obtain ⟨hu, e3, hway, e4⟩ := e2 (by omega)
    have hdd : (done ++ [x]).length = done.length + 1 := by simp
    cases r2 with
    | nil =>
      cases hway
      rw [List.append_nil] at e3
      subst e3
      have hs : (r ++ [a])[x]? = some a := by rw [hx, e4]; simp
      have hbo := StOk.after h hu ha
      have hsp := after_sp hu a
      have e1' : dNotIn (.d (eA a)) (.d (eAs (acts P s))) = some (.d (.bool (!decide (a ∈ acts P s)))) := dNotIn_l eA_gd eA_inj _ _
      have e5 : ((x : Int) = ((r ++ [a]).length : Nat) - 1) := by rw [hlen]; omega
      simp only [↓ws_seq, ↓ws_set, ↓ws_setL, ↓ws_setD, ↓ws_asg, ↓ws_ret, ↓ws_retN, ↓ws_if, ↓ws_skip, ↓ws_break, ↓ws_cont, ↓ws_never, ↓we_var, ↓we_C, ↓we_fn, ↓we_f2, ↓we_f1, ↓we_chain, ↓wb_tst, ↓wb_tru, ↓wb_and, ↓wb_or, ↓wb_not, ↓wb_yes, ↓we_andV, ↓we_orV, ↓we_notV, ↓we_if, ↓wa_nil, ↓wa_cons, ↓we_tup, ↓wl_lst, ↓we_ofL, ↓wl_it, ↓we_CB, ↓wl_CL, ↓we_call, ↓wg_nm, ↓wgs_nil, ↓wgs_cons, ↓ks_nx, ↓ks_rt, ↓ks_bk, ↓ks_ct, ↓kr_rt, ↓kr_nx, ↓kt_nx, ↓kt_ct, ↓kt_bk, ↓kt_rt, ↓wv_some, ↓wtst_b, ↓wif_t, ↓wif_f, ↓wif_not, ↓we_lenV, ↓we_ixV, ↓we_inV, ↓ws_setIx, ↓wo_none, ↓wo_some, ↓we_sl, ↓wd_disp1, ↓wt_nil, ↓wt_cons, ↓we_dispT, ↓we_make, ↓ws_lsSet1, ↓ws_lsSet2, ↓ws_for, ↓wl_lc, ↓wl_rng1', ↓wl_rng2', ↓wl_enumT', List.getElem?_cons_zero, List.getElem?_cons_succ, List.set_cons_zero, List.set_cons_succ, Option.bind_some, id, rdV_av, rdV_d, rdV_lp, rdV_fn, rdV_ft, rdV_fd, rdV_ml, rdV_md, lenOf_ml, lenOf_l, lenOf_t, datOf_d, mlOf_ml, lstOf_l, intOf_i, seqOf_t, seqOf_l, dCmp_i, isLp_lp, avIx_ml, avIx_l, avIx_t, wv_map, dMod_p, dDiv_p, dAdd_t, dAdd_l, enumOf_t, rngOf_1, rngOf_2, Option.isSome_some, ↓reduceIte, true_and, and_true, rng_nat', Int.toNat_natCast, wipeG_n, wipeG_c, wif_dec, dats_nil, dats_d, dAdd_i, dSub_i, dMul_i, dIx_t, dIx_l, at0, at1, at2, dNeg_i, dTuple_l, dTuple_t, dList_l, dList_t, dInt_i, dLen_l, dLen_t, dPr_sz, dPr_pa, dPr_tk, dPr_lv, dPr_sk, ws_ls1', ws_ls2', wg_tp', ws_app', ws_ext', rdV_non, Option.map_some, List.length_cons, List.length_nil]
      refine wv_atM hs ?_
      simp only [↓ws_seq, ↓ws_set, ↓ws_setL, ↓ws_setD, ↓ws_asg, ↓ws_ret, ↓ws_retN, ↓ws_if, ↓ws_skip, ↓ws_break, ↓ws_cont, ↓ws_never, ↓we_var, ↓we_C, ↓we_fn, ↓we_f2, ↓we_f1, ↓we_chain, ↓wb_tst, ↓wb_tru, ↓wb_and, ↓wb_or, ↓wb_not, ↓wb_yes, ↓we_andV, ↓we_orV, ↓we_notV, ↓we_if, ↓wa_nil, ↓wa_cons, ↓we_tup, ↓wl_lst, ↓we_ofL, ↓wl_it, ↓we_CB, ↓wl_CL, ↓we_call, ↓wg_nm, ↓wgs_nil, ↓wgs_cons, ↓ks_nx, ↓ks_rt, ↓ks_bk, ↓ks_ct, ↓kr_rt, ↓kr_nx, ↓kt_nx, ↓kt_ct, ↓kt_bk, ↓kt_rt, ↓wv_some, ↓wtst_b, ↓wif_t, ↓wif_f, ↓wif_not, ↓we_lenV, ↓we_ixV, ↓we_inV, ↓ws_setIx, ↓wo_none, ↓wo_some, ↓we_sl, ↓wd_disp1, ↓wt_nil, ↓wt_cons, ↓we_dispT, ↓we_make, ↓ws_lsSet1, ↓ws_lsSet2, ↓ws_for, ↓wl_lc, ↓wl_rng1', ↓wl_rng2', ↓wl_enumT', List.getElem?_cons_zero, List.getElem?_cons_succ, List.set_cons_zero, List.set_cons_succ, Option.bind_some, id, rdV_av, rdV_d, rdV_lp, rdV_fn, rdV_ft, rdV_fd, rdV_ml, rdV_md, lenOf_ml, lenOf_l, lenOf_t, datOf_d, mlOf_ml, lstOf_l, intOf_i, seqOf_t, seqOf_l, dCmp_i, isLp_lp, avIx_ml, avIx_l, avIx_t, wv_map, dMod_p, dDiv_p, dAdd_t, dAdd_l, enumOf_t, rngOf_1, rngOf_2, Option.isSome_some, ↓reduceIte, true_and, and_true, rng_nat', Int.toNat_natCast, wipeG_n, wipeG_c, wif_dec, dats_nil, dats_d, dAdd_i, dSub_i, dMul_i, dIx_t, dIx_l, at0, at1, at2, dNeg_i, dTuple_l, dTuple_t, dList_l, dList_t, dInt_i, dLen_l, dLen_t, dPr_sz, dPr_pa, dPr_tk, dPr_lv, dPr_sk, ws_ls1', ws_ls2', wg_tp', ws_app', ws_ext', rdV_non, Option.map_some, List.length_cons, List.length_nil, acts_wc h hu.f, e1', ha, decide_true, Bool.not_true]
      refine wv_atM hs ?_
      simp only [↓ws_seq, ↓ws_set, ↓ws_setL, ↓ws_setD, ↓ws_asg, ↓ws_ret, ↓ws_retN, ↓ws_if, ↓ws_skip, ↓ws_break, ↓ws_cont, ↓ws_never, ↓we_var, ↓we_C, ↓we_fn, ↓we_f2, ↓we_f1, ↓we_chain, ↓wb_tst, ↓wb_tru, ↓wb_and, ↓wb_or, ↓wb_not, ↓wb_yes, ↓we_andV, ↓we_orV, ↓we_notV, ↓we_if, ↓wa_nil, ↓wa_cons, ↓we_tup, ↓wl_lst, ↓we_ofL, ↓wl_it, ↓we_CB, ↓wl_CL, ↓we_call, ↓wg_nm, ↓wgs_nil, ↓wgs_cons, ↓ks_nx, ↓ks_rt, ↓ks_bk, ↓ks_ct, ↓kr_rt, ↓kr_nx, ↓kt_nx, ↓kt_ct, ↓kt_bk, ↓kt_rt, ↓wv_some, ↓wtst_b, ↓wif_t, ↓wif_f, ↓wif_not, ↓we_lenV, ↓we_ixV, ↓we_inV, ↓ws_setIx, ↓wo_none, ↓wo_some, ↓we_sl, ↓wd_disp1, ↓wt_nil, ↓wt_cons, ↓we_dispT, ↓we_make, ↓ws_lsSet1, ↓ws_lsSet2, ↓ws_for, ↓wl_lc, ↓wl_rng1', ↓wl_rng2', ↓wl_enumT', List.getElem?_cons_zero, List.getElem?_cons_succ, List.set_cons_zero, List.set_cons_succ, Option.bind_some, id, rdV_av, rdV_d, rdV_lp, rdV_fn, rdV_ft, rdV_fd, rdV_ml, rdV_md, lenOf_ml, lenOf_l, lenOf_t, datOf_d, mlOf_ml, lstOf_l, intOf_i, seqOf_t, seqOf_l, dCmp_i, isLp_lp, avIx_ml, avIx_l, avIx_t, wv_map, dMod_p, dDiv_p, dAdd_t, dAdd_l, enumOf_t, rngOf_1, rngOf_2, Option.isSome_some, ↓reduceIte, true_and, and_true, rng_nat', Int.toNat_natCast, wipeG_n, wipeG_c, wif_dec, dats_nil, dats_d, dAdd_i, dSub_i, dMul_i, dIx_t, dIx_l, at0, at1, at2, dNeg_i, dTuple_l, dTuple_t, dList_l, dList_t, dInt_i, dLen_l, dLen_t, dPr_sz, dPr_pa, dPr_tk, dPr_lv, dPr_sk, ws_ls1', ws_ls2', wg_tp', ws_app', ws_ext', rdV_non, Option.map_some, List.length_cons, List.length_nil, after_wc h hu ha]
      refine wv_atM hs ?_
      have hw' : want P k s (after P s a).1 (after P s a).2 = true := hw
      simp only [↓ws_seq, ↓ws_set, ↓ws_setL, ↓ws_setD, ↓ws_asg, ↓ws_ret, ↓ws_retN, ↓ws_if, ↓ws_skip, ↓ws_break, ↓ws_cont, ↓ws_never, ↓we_var, ↓we_C, ↓we_fn, ↓we_f2, ↓we_f1, ↓we_chain, ↓wb_tst, ↓wb_tru, ↓wb_and, ↓wb_or, ↓wb_not, ↓wb_yes, ↓we_andV, ↓we_orV, ↓we_notV, ↓we_if, ↓wa_nil, ↓wa_cons, ↓we_tup, ↓wl_lst, ↓we_ofL, ↓wl_it, ↓we_CB, ↓wl_CL, ↓we_call, ↓wg_nm, ↓wgs_nil, ↓wgs_cons, ↓ks_nx, ↓ks_rt, ↓ks_bk, ↓ks_ct, ↓kr_rt, ↓kr_nx, ↓kt_nx, ↓kt_ct, ↓kt_bk, ↓kt_rt, ↓wv_some, ↓wtst_b, ↓wif_t, ↓wif_f, ↓wif_not, ↓we_lenV, ↓we_ixV, ↓we_inV, ↓ws_setIx, ↓wo_none, ↓wo_some, ↓we_sl, ↓wd_disp1, ↓wt_nil, ↓wt_cons, ↓we_dispT, ↓we_make, ↓ws_lsSet1, ↓ws_lsSet2, ↓ws_for, ↓wl_lc, ↓wl_rng1', ↓wl_rng2', ↓wl_enumT', List.getElem?_cons_zero, List.getElem?_cons_succ, List.set_cons_zero, List.set_cons_succ, Option.bind_some, id, rdV_av, rdV_d, rdV_lp, rdV_fn, rdV_ft, rdV_fd, rdV_ml, rdV_md, lenOf_ml, lenOf_l, lenOf_t, datOf_d, mlOf_ml, lstOf_l, intOf_i, seqOf_t, seqOf_l, dCmp_i, isLp_lp, avIx_ml, avIx_l, avIx_t, wv_map, dMod_p, dDiv_p, dAdd_t, dAdd_l, enumOf_t, rngOf_1, rngOf_2, Option.isSome_some, ↓reduceIte, true_and, and_true, rng_nat', Int.toNat_natCast, wipeG_n, wipeG_c, wif_dec, dats_nil, dats_d, dAdd_i, dSub_i, dMul_i, dIx_t, dIx_l, at0, at1, at2, dNeg_i, dTuple_l, dTuple_t, dList_l, dList_t, dInt_i, dLen_l, dLen_t, dPr_sz, dPr_pa, dPr_tk, dPr_lv, dPr_sk, ws_ls1', ws_ls2', wg_tp', ws_app', ws_ext', rdV_non, Option.map_some, List.length_cons, List.length_nil, lawWanted_wc h hu.vok hbo.vok hsp, hw', List.length_map, dEq_i, e5, decide_true, dNe_b, bne_self_eq_false]
      exact ⟨by rw [← e1]; simp, (after P s a).1, [], [], _, _, _, fun c => absurd c (by omega), rfl⟩
    | cons b r2 =>
      obtain ⟨hb, hwb, hway'⟩ := hway
      have hs : (r ++ [a])[x]? = some b := by rw [hx, e4, e3]; simp
      have hbo := StOk.after h hu hb
      have hsp := after_sp hu b
      have e1' : dNotIn (.d (eA b)) (.d (eAs (acts P u))) = some (.d (.bool (!decide (b ∈ acts P u)))) := dNotIn_l eA_gd eA_inj _ _
      have hrl : r.length = r1.length + (r2.length + 1) := by rw [e3]; simp
      have e5 : ¬ ((x : Int) = ((r ++ [a]).length : Nat) - 1) := by rw [hlen]; omega
      simp only [↓ws_seq, ↓ws_set, ↓ws_setL, ↓ws_setD, ↓ws_asg, ↓ws_ret, ↓ws_retN, ↓ws_if, ↓ws_skip, ↓ws_break, ↓ws_cont, ↓ws_never, ↓we_var, ↓we_C, ↓we_fn, ↓we_f2, ↓we_f1, ↓we_chain, ↓wb_tst, ↓wb_tru, ↓wb_and, ↓wb_or, ↓wb_not, ↓wb_yes, ↓we_andV, ↓we_orV, ↓we_notV, ↓we_if, ↓wa_nil, ↓wa_cons, ↓we_tup, ↓wl_lst, ↓we_ofL, ↓wl_it, ↓we_CB, ↓wl_CL, ↓we_call, ↓wg_nm, ↓wgs_nil, ↓wgs_cons, ↓ks_nx, ↓ks_rt, ↓ks_bk, ↓ks_ct, ↓kr_rt, ↓kr_nx, ↓kt_nx, ↓kt_ct, ↓kt_bk, ↓kt_rt, ↓wv_some, ↓wtst_b, ↓wif_t, ↓wif_f, ↓wif_not, ↓we_lenV, ↓we_ixV, ↓we_inV, ↓ws_setIx, ↓wo_none, ↓wo_some, ↓we_sl, ↓wd_disp1, ↓wt_nil, ↓wt_cons, ↓we_dispT, ↓we_make, ↓ws_lsSet1, ↓ws_lsSet2, ↓ws_for, ↓wl_lc, ↓wl_rng1', ↓wl_rng2', ↓wl_enumT', List.getElem?_cons_zero, List.getElem?_cons_succ, List.set_cons_zero, List.set_cons_succ, Option.bind_some, id, rdV_av, rdV_d, rdV_lp, rdV_fn, rdV_ft, rdV_fd, rdV_ml, rdV_md, lenOf_ml, lenOf_l, lenOf_t, datOf_d, mlOf_ml, lstOf_l, intOf_i, seqOf_t, seqOf_l, dCmp_i, isLp_lp, avIx_ml, avIx_l, avIx_t, wv_map, dMod_p, dDiv_p, dAdd_t, dAdd_l, enumOf_t, rngOf_1, rngOf_2, Option.isSome_some, ↓reduceIte, true_and, and_true, rng_nat', Int.toNat_natCast, wipeG_n, wipeG_c, wif_dec, dats_nil, dats_d, dAdd_i, dSub_i, dMul_i, dIx_t, dIx_l, at0, at1, at2, dNeg_i, dTuple_l, dTuple_t, dList_l, dList_t, dInt_i, dLen_l, dLen_t, dPr_sz, dPr_pa, dPr_tk, dPr_lv, dPr_sk, ws_ls1', ws_ls2', wg_tp', ws_app', ws_ext', rdV_non, Option.map_some, List.length_cons, List.length_nil]
      refine wv_atM hs ?_
      simp only [↓ws_seq, ↓ws_set, ↓ws_setL, ↓ws_setD, ↓ws_asg, ↓ws_ret, ↓ws_retN, ↓ws_if, ↓ws_skip, ↓ws_break, ↓ws_cont, ↓ws_never, ↓we_var, ↓we_C, ↓we_fn, ↓we_f2, ↓we_f1, ↓we_chain, ↓wb_tst, ↓wb_tru, ↓wb_and, ↓wb_or, ↓wb_not, ↓wb_yes, ↓we_andV, ↓we_orV, ↓we_notV, ↓we_if, ↓wa_nil, ↓wa_cons, ↓we_tup, ↓wl_lst, ↓we_ofL, ↓wl_it, ↓we_CB, ↓wl_CL, ↓we_call, ↓wg_nm, ↓wgs_nil, ↓wgs_cons, ↓ks_nx, ↓ks_rt, ↓ks_bk, ↓ks_ct, ↓kr_rt, ↓kr_nx, ↓kt_nx, ↓kt_ct, ↓kt_bk, ↓kt_rt, ↓wv_some, ↓wtst_b, ↓wif_t, ↓wif_f, ↓wif_not, ↓we_lenV, ↓we_ixV, ↓we_inV, ↓ws_setIx, ↓wo_none, ↓wo_some, ↓we_sl, ↓wd_disp1, ↓wt_nil, ↓wt_cons, ↓we_dispT, ↓we_make, ↓ws_lsSet1, ↓ws_lsSet2, ↓ws_for, ↓wl_lc, ↓wl_rng1', ↓wl_rng2', ↓wl_enumT', List.getElem?_cons_zero, List.getElem?_cons_succ, List.set_cons_zero, List.set_cons_succ, Option.bind_some, id, rdV_av, rdV_d, rdV_lp, rdV_fn, rdV_ft, rdV_fd, rdV_ml, rdV_md, lenOf_ml, lenOf_l, lenOf_t, datOf_d, mlOf_ml, lstOf_l, intOf_i, seqOf_t, seqOf_l, dCmp_i, isLp_lp, avIx_ml, avIx_l, avIx_t, wv_map, dMod_p, dDiv_p, dAdd_t, dAdd_l, enumOf_t, rngOf_1, rngOf_2, Option.isSome_some, ↓reduceIte, true_and, and_true, rng_nat', Int.toNat_natCast, wipeG_n, wipeG_c, wif_dec, dats_nil, dats_d, dAdd_i, dSub_i, dMul_i, dIx_t, dIx_l, at0, at1, at2, dNeg_i, dTuple_l, dTuple_t, dList_l, dList_t, dInt_i, dLen_l, dLen_t, dPr_sz, dPr_pa, dPr_tk, dPr_lv, dPr_sk, ws_ls1', ws_ls2', wg_tp', ws_app', ws_ext', rdV_non, Option.map_some, List.length_cons, List.length_nil, acts_wc h hu.f, e1', hb, decide_true, Bool.not_true]
      refine wv_atM hs ?_
      simp only [↓ws_seq, ↓ws_set, ↓ws_setL, ↓ws_setD, ↓ws_asg, ↓ws_ret, ↓ws_retN, ↓ws_if, ↓ws_skip, ↓ws_break, ↓ws_cont, ↓ws_never, ↓we_var, ↓we_C, ↓we_fn, ↓we_f2, ↓we_f1, ↓we_chain, ↓wb_tst, ↓wb_tru, ↓wb_and, ↓wb_or, ↓wb_not, ↓wb_yes, ↓we_andV, ↓we_orV, ↓we_notV, ↓we_if, ↓wa_nil, ↓wa_cons, ↓we_tup, ↓wl_lst, ↓we_ofL, ↓wl_it, ↓we_CB, ↓wl_CL, ↓we_call, ↓wg_nm, ↓wgs_nil, ↓wgs_cons, ↓ks_nx, ↓ks_rt, ↓ks_bk, ↓ks_ct, ↓kr_rt, ↓kr_nx, ↓kt_nx, ↓kt_ct, ↓kt_bk, ↓kt_rt, ↓wv_some, ↓wtst_b, ↓wif_t, ↓wif_f, ↓wif_not, ↓we_lenV, ↓we_ixV, ↓we_inV, ↓ws_setIx, ↓wo_none, ↓wo_some, ↓we_sl, ↓wd_disp1, ↓wt_nil, ↓wt_cons, ↓we_dispT, ↓we_make, ↓ws_lsSet1, ↓ws_lsSet2, ↓ws_for, ↓wl_lc, ↓wl_rng1', ↓wl_rng2', ↓wl_enumT', List.getElem?_cons_zero, List.getElem?_cons_succ, List.set_cons_zero, List.set_cons_succ, Option.bind_some, id, rdV_av, rdV_d, rdV_lp, rdV_fn, rdV_ft, rdV_fd, rdV_ml, rdV_md, lenOf_ml, lenOf_l, lenOf_t, datOf_d, mlOf_ml, lstOf_l, intOf_i, seqOf_t, seqOf_l, dCmp_i, isLp_lp, avIx_ml, avIx_l, avIx_t, wv_map, dMod_p, dDiv_p, dAdd_t, dAdd_l, enumOf_t, rngOf_1, rngOf_2, Option.isSome_some, ↓reduceIte, true_and, and_true, rng_nat', Int.toNat_natCast, wipeG_n, wipeG_c, wif_dec, dats_nil, dats_d, dAdd_i, dSub_i, dMul_i, dIx_t, dIx_l, at0, at1, at2, dNeg_i, dTuple_l, dTuple_t, dList_l, dList_t, dInt_i, dLen_l, dLen_t, dPr_sz, dPr_pa, dPr_tk, dPr_lv, dPr_sk, ws_ls1', ws_ls2', wg_tp', ws_app', ws_ext', rdV_non, Option.map_some, List.length_cons, List.length_nil, after_wc h hu hb]
      refine wv_atM hs ?_
      have hw' : want P k u (after P u b).1 (after P u b).2 = false := hwb
      simp only [↓ws_seq, ↓ws_set, ↓ws_setL, ↓ws_setD, ↓ws_asg, ↓ws_ret, ↓ws_retN, ↓ws_if, ↓ws_skip, ↓ws_break, ↓ws_cont, ↓ws_never, ↓we_var, ↓we_C, ↓we_fn, ↓we_f2, ↓we_f1, ↓we_chain, ↓wb_tst, ↓wb_tru, ↓wb_and, ↓wb_or, ↓wb_not, ↓wb_yes, ↓we_andV, ↓we_orV, ↓we_notV, ↓we_if, ↓wa_nil, ↓wa_cons, ↓we_tup, ↓wl_lst, ↓we_ofL, ↓wl_it, ↓we_CB, ↓wl_CL, ↓we_call, ↓wg_nm, ↓wgs_nil, ↓wgs_cons, ↓ks_nx, ↓ks_rt, ↓ks_bk, ↓ks_ct, ↓kr_rt, ↓kr_nx, ↓kt_nx, ↓kt_ct, ↓kt_bk, ↓kt_rt, ↓wv_some, ↓wtst_b, ↓wif_t, ↓wif_f, ↓wif_not, ↓we_lenV, ↓we_ixV, ↓we_inV, ↓ws_setIx, ↓wo_none, ↓wo_some, ↓we_sl, ↓wd_disp1, ↓wt_nil, ↓wt_cons, ↓we_dispT, ↓we_make, ↓ws_lsSet1, ↓ws_lsSet2, ↓ws_for, ↓wl_lc, ↓wl_rng1', ↓wl_rng2', ↓wl_enumT', List.getElem?_cons_zero, List.getElem?_cons_succ, List.set_cons_zero, List.set_cons_succ, Option.bind_some, id, rdV_av, rdV_d, rdV_lp, rdV_fn, rdV_ft, rdV_fd, rdV_ml, rdV_md, lenOf_ml, lenOf_l, lenOf_t, datOf_d, mlOf_ml, lstOf_l, intOf_i, seqOf_t, seqOf_l, dCmp_i, isLp_lp, avIx_ml, avIx_l, avIx_t, wv_map, dMod_p, dDiv_p, dAdd_t, dAdd_l, enumOf_t, rngOf_1, rngOf_2, Option.isSome_some, ↓reduceIte, true_and, and_true, rng_nat', Int.toNat_natCast, wipeG_n, wipeG_c, wif_dec, dats_nil, dats_d, dAdd_i, dSub_i, dMul_i, dIx_t, dIx_l, at0, at1, at2, dNeg_i, dTuple_l, dTuple_t, dList_l, dList_t, dInt_i, dLen_l, dLen_t, dPr_sz, dPr_pa, dPr_tk, dPr_lv, dPr_sk, ws_ls1', ws_ls2', wg_tp', ws_app', ws_ext', rdV_non, Option.map_some, List.length_cons, List.length_nil, lawWanted_wc h hu.vok hbo.vok hsp, hw', List.length_map, dEq_i, e5, decide_false, dNe_b, bne_self_eq_false]
      exact ⟨by rw [← e1]; simp, (after P u b).1, r1 ++ [b], r2, _, _, _, fun _ => ⟨hbo, by rw [e3]; simp, hway', by simp [e4]⟩, rfl⟩
  · rintro t ⟨e1, u, r1, r2, o4, o5, o6, e2, rfl⟩
    have e5 : (0 : Int) < ((r ++ [a]).length : Nat) := by rw [hlen]; omega
    simp only [↓ws_seq, ↓ws_set, ↓ws_setL, ↓ws_setD, ↓ws_asg, ↓ws_ret, ↓ws_retN, ↓ws_if, ↓ws_skip, ↓ws_break, ↓ws_cont, ↓ws_never, ↓we_var, ↓we_C, ↓we_fn, ↓we_f2, ↓we_f1, ↓we_chain, ↓wb_tst, ↓wb_tru, ↓wb_and, ↓wb_or, ↓wb_not, ↓wb_yes, ↓we_andV, ↓we_orV, ↓we_notV, ↓we_if, ↓wa_nil, ↓wa_cons, ↓we_tup, ↓wl_lst, ↓we_ofL, ↓wl_it, ↓we_CB, ↓wl_CL, ↓we_call, ↓wg_nm, ↓wgs_nil, ↓wgs_cons, ↓ks_nx, ↓ks_rt, ↓ks_bk, ↓ks_ct, ↓kr_rt, ↓kr_nx, ↓kt_nx, ↓kt_ct, ↓kt_bk, ↓kt_rt, ↓wv_some, ↓wtst_b, ↓wif_t, ↓wif_f, ↓wif_not, ↓we_lenV, ↓we_ixV, ↓we_inV, ↓ws_setIx, ↓wo_none, ↓wo_some, ↓we_sl, ↓wd_disp1, ↓wt_nil, ↓wt_cons, ↓we_dispT, ↓we_make, ↓ws_lsSet1, ↓ws_lsSet2, ↓ws_for, ↓wl_lc, ↓wl_rng1', ↓wl_rng2', ↓wl_enumT', List.getElem?_cons_zero, List.getElem?_cons_succ, List.set_cons_zero, List.set_cons_succ, Option.bind_some, id, rdV_av, rdV_d, rdV_lp, rdV_fn, rdV_ft, rdV_fd, rdV_ml, rdV_md, lenOf_ml, lenOf_l, lenOf_t, datOf_d, mlOf_ml, lstOf_l, intOf_i, seqOf_t, seqOf_l, dCmp_i, isLp_lp, avIx_ml, avIx_l, avIx_t, wv_map, dMod_p, dDiv_p, dAdd_t, dAdd_l, enumOf_t, rngOf_1, rngOf_2, Option.isSome_some, ↓reduceIte, true_and, and_true, rng_nat', Int.toNat_natCast, wipeG_n, wipeG_c, wif_dec, dats_nil, dats_d, dAdd_i, dSub_i, dMul_i, dIx_t, dIx_l, at0, at1, at2, dNeg_i, dTuple_l, dTuple_t, dList_l, dList_t, dInt_i, dLen_l, dLen_t, dPr_sz, dPr_pa, dPr_tk, dPr_lv, dPr_sk, ws_ls1', ws_ls2', wg_tp', ws_app', ws_ext', rdV_non, Option.map_some, List.length_cons, List.length_nil, List.length_map, e5, decide_true]
    exact q
end Pu

set_option Elab.async false
set_option linter.all false
set_option maxRecDepth 100000
set_option maxHeartbeats 1000000
/-! Pu, part T: the law. -/
namespace Pu
open PySem Tk Tk.W
theorem ok_never : PyData.strOk "never" = true := by decide +kernel
theorem ok_run : PyData.strOk "run" = true := by decide +kernel
theorem ok_many : PyData.strOk "many" = true := by decide +kernel
theorem firstK_wc {A : Ad} {l : LS} {P : Pg} {k : Bool} {m : Nat} {Q : AV → LS → Prop} (h : PgOk P) (hm : 1 ≤ m) (hm2 : m ≤ 1000) (hne : A.is_stale ≠ A.is_unsaid)
    (qn : ∀ n : Nat, 1 ≤ n → n ≤ m → (∀ q t a, PW P k q t → a ∈ acts P t → wnt P k t a = false) → Q (.d (.tuple [.str "never", eN n])) l)
    (qm : Q (.d (.tuple [.str "many"])) l)
    (qr : ∀ r a s, PW P k r s → a ∈ acts P s → wnt P k s a = true → r.length ≤ 1000 → (∀ q t b, PW P k q t → b ∈ acts P t → wnt P k t b = true → r.length ≤ q.length) → Q (.d (.tuple [.str "run", eAs (r ++ [a])])) l) :
    WIf k (WC (g_first_stale A) [P.av, .d (eN m)] l Q) (WC (g_first_unsaid A) [P.av, .d (eN m)] l Q) := by
  cases k with
  | true =>
    unfold g_first_stale b_first_stale
    rw [wif_t, wc_den, enter_eq]
    simp only [List.map_cons, List.map_nil, List.length_cons, List.length_nil, List.replicate, List.cons_append, List.nil_append, Nat.reduceAdd, Nat.reduceSub, List.append_nil]
    simp only [↓ws_seq, ↓ws_set, ↓ws_setL, ↓ws_setD, ↓ws_asg, ↓ws_ret, ↓ws_retN, ↓ws_if, ↓ws_skip, ↓ws_break, ↓ws_cont, ↓ws_never, ↓we_var, ↓we_C, ↓we_fn, ↓we_f2, ↓we_f1, ↓we_chain, ↓wb_tst, ↓wb_tru, ↓wb_and, ↓wb_or, ↓wb_not, ↓wb_yes, ↓we_andV, ↓we_orV, ↓we_notV, ↓we_if, ↓wa_nil, ↓wa_cons, ↓we_tup, ↓wl_lst, ↓we_ofL, ↓wl_it, ↓we_CB, ↓wl_CL, ↓we_call, ↓wg_nm, ↓wgs_nil, ↓wgs_cons, ↓ks_nx, ↓ks_rt, ↓ks_bk, ↓ks_ct, ↓kr_rt, ↓kr_nx, ↓kt_nx, ↓kt_ct, ↓kt_bk, ↓kt_rt, ↓wv_some, ↓wtst_b, ↓wif_t, ↓wif_f, ↓wif_not, ↓we_lenV, ↓we_ixV, ↓we_inV, ↓ws_setIx, ↓wo_none, ↓wo_some, ↓we_sl, ↓wd_disp1, ↓wt_nil, ↓wt_cons, ↓we_dispT, ↓we_make, ↓ws_lsSet1, ↓ws_lsSet2, ↓ws_for, ↓wl_lc, ↓wl_rng1', ↓wl_rng2', ↓wl_enumT', List.getElem?_cons_zero, List.getElem?_cons_succ, List.set_cons_zero, List.set_cons_succ, Option.bind_some, id, rdV_av, rdV_d, rdV_lp, rdV_fn, rdV_ft, rdV_fd, rdV_ml, rdV_md, lenOf_ml, lenOf_l, lenOf_t, datOf_d, mlOf_ml, lstOf_l, intOf_i, seqOf_t, seqOf_l, dCmp_i, isLp_lp, avIx_ml, avIx_l, avIx_t, wv_map, dMod_p, dDiv_p, dAdd_t, dAdd_l, enumOf_t, rngOf_1, rngOf_2, Option.isSome_some, ↓reduceIte, true_and, and_true, rng_nat', Int.toNat_natCast, wipeG_n, wipeG_c, wif_dec, dats_nil, dats_d, dAdd_i, dSub_i, dMul_i, dIx_t, dIx_l, at0, at1, at2, dNeg_i, dTuple_l, dTuple_t, dList_l, dList_t, dInt_i, dLen_l, dLen_t, dPr_sz, dPr_pa, dPr_tk, dPr_lv, dPr_sk, ws_ls1', ws_ls2', wg_tp', ws_app', ws_ext', rdV_non, Option.map_some, List.length_cons, List.length_nil]
    exact firstRun_wc (k := true) (g := g_is_stale A) h hm hm2 (if_pos rfl) (fun s b a sp l Q hs hb hsp => isStale_wc h hb hsp) qn qm qr
  | false =>
    unfold g_first_unsaid b_first_unsaid
    rw [wif_f, wc_den, enter_eq]
    simp only [List.map_cons, List.map_nil, List.length_cons, List.length_nil, List.replicate, List.cons_append, List.nil_append, Nat.reduceAdd, Nat.reduceSub, List.append_nil]
    simp only [↓ws_seq, ↓ws_set, ↓ws_setL, ↓ws_setD, ↓ws_asg, ↓ws_ret, ↓ws_retN, ↓ws_if, ↓ws_skip, ↓ws_break, ↓ws_cont, ↓ws_never, ↓we_var, ↓we_C, ↓we_fn, ↓we_f2, ↓we_f1, ↓we_chain, ↓wb_tst, ↓wb_tru, ↓wb_and, ↓wb_or, ↓wb_not, ↓wb_yes, ↓we_andV, ↓we_orV, ↓we_notV, ↓we_if, ↓wa_nil, ↓wa_cons, ↓we_tup, ↓wl_lst, ↓we_ofL, ↓wl_it, ↓we_CB, ↓wl_CL, ↓we_call, ↓wg_nm, ↓wgs_nil, ↓wgs_cons, ↓ks_nx, ↓ks_rt, ↓ks_bk, ↓ks_ct, ↓kr_rt, ↓kr_nx, ↓kt_nx, ↓kt_ct, ↓kt_bk, ↓kt_rt, ↓wv_some, ↓wtst_b, ↓wif_t, ↓wif_f, ↓wif_not, ↓we_lenV, ↓we_ixV, ↓we_inV, ↓ws_setIx, ↓wo_none, ↓wo_some, ↓we_sl, ↓wd_disp1, ↓wt_nil, ↓wt_cons, ↓we_dispT, ↓we_make, ↓ws_lsSet1, ↓ws_lsSet2, ↓ws_for, ↓wl_lc, ↓wl_rng1', ↓wl_rng2', ↓wl_enumT', List.getElem?_cons_zero, List.getElem?_cons_succ, List.set_cons_zero, List.set_cons_succ, Option.bind_some, id, rdV_av, rdV_d, rdV_lp, rdV_fn, rdV_ft, rdV_fd, rdV_ml, rdV_md, lenOf_ml, lenOf_l, lenOf_t, datOf_d, mlOf_ml, lstOf_l, intOf_i, seqOf_t, seqOf_l, dCmp_i, isLp_lp, avIx_ml, avIx_l, avIx_t, wv_map, dMod_p, dDiv_p, dAdd_t, dAdd_l, enumOf_t, rngOf_1, rngOf_2, Option.isSome_some, ↓reduceIte, true_and, and_true, rng_nat', Int.toNat_natCast, wipeG_n, wipeG_c, wif_dec, dats_nil, dats_d, dAdd_i, dSub_i, dMul_i, dIx_t, dIx_l, at0, at1, at2, dNeg_i, dTuple_l, dTuple_t, dList_l, dList_t, dInt_i, dLen_l, dLen_t, dPr_sz, dPr_pa, dPr_tk, dPr_lv, dPr_sk, ws_ls1', ws_ls2', wg_tp', ws_app', ws_ext', rdV_non, Option.map_some, List.length_cons, List.length_nil]
    exact firstRun_wc (k := false) (g := g_is_unsaid A) h hm hm2 ((if_neg hne.symm).trans (if_pos rfl)) (fun s b a sp l Q hs hb hsp => isUnsaid_wc h hs hb) qn qm qr
theorem law_true {A : Ad} (hne : A.is_stale ≠ A.is_unsaid) (ns : List Int) (hl : ns.length ≤ 63) : ∃ s', b_law A ⟨none :: some .lp :: List.replicate 5 none, (ns, 0, 1)⟩ = some (.rt (.d (.bool true)) s') := by
  have hz := line_big
  suffices H : WS (b_law A) ⟨[none, some .lp, none, none, none, none, none], (ns, 0, 1)⟩ fun o => ∃ s', o = .rt (.d (.bool true)) s' by
    obtain ⟨o, e, s', rfl⟩ := H
    exact ⟨s', e⟩
  unfold b_law
  simp only [↓ws_seq, ↓ws_set, ↓ws_setL, ↓ws_setD, ↓ws_asg, ↓ws_ret, ↓ws_retN, ↓ws_if, ↓ws_skip, ↓ws_break, ↓ws_cont, ↓ws_never, ↓we_var, ↓we_C, ↓we_fn, ↓we_f2, ↓we_f1, ↓we_chain, ↓wb_tst, ↓wb_tru, ↓wb_and, ↓wb_or, ↓wb_not, ↓wb_yes, ↓we_andV, ↓we_orV, ↓we_notV, ↓we_if, ↓wa_nil, ↓wa_cons, ↓we_tup, ↓wl_lst, ↓we_ofL, ↓wl_it, ↓we_CB, ↓wl_CL, ↓we_call, ↓wg_nm, ↓wgs_nil, ↓wgs_cons, ↓ks_nx, ↓ks_rt, ↓ks_bk, ↓ks_ct, ↓kr_rt, ↓kr_nx, ↓kt_nx, ↓kt_ct, ↓kt_bk, ↓kt_rt, ↓wv_some, ↓wtst_b, ↓wif_t, ↓wif_f, ↓wif_not, ↓we_lenV, ↓we_ixV, ↓we_inV, ↓ws_setIx, ↓wo_none, ↓wo_some, ↓we_sl, ↓wd_disp1, ↓wt_nil, ↓wt_cons, ↓we_dispT, ↓we_make, ↓ws_lsSet1, ↓ws_lsSet2, ↓ws_for, ↓wl_lc, ↓wl_rng1', ↓wl_rng2', ↓wl_enumT', List.getElem?_cons_zero, List.getElem?_cons_succ, List.set_cons_zero, List.set_cons_succ, Option.bind_some, id, rdV_av, rdV_d, rdV_lp, rdV_fn, rdV_ft, rdV_fd, rdV_ml, rdV_md, lenOf_ml, lenOf_l, lenOf_t, datOf_d, mlOf_ml, lstOf_l, intOf_i, seqOf_t, seqOf_l, dCmp_i, isLp_lp, avIx_ml, avIx_l, avIx_t, wv_map, dMod_p, dDiv_p, dAdd_t, dAdd_l, enumOf_t, rngOf_1, rngOf_2, Option.isSome_some, ↓reduceIte, true_and, and_true, rng_nat', Int.toNat_natCast, wipeG_n, wipeG_c, wif_dec, dats_nil, dats_d, dAdd_i, dSub_i, dMul_i, dIx_t, dIx_l, at0, at1, at2, dNeg_i, dTuple_l, dTuple_t, dList_l, dList_t, dInt_i, dLen_l, dLen_t, dPr_sz, dPr_pa, dPr_tk, dPr_lv, dPr_sk, ws_ls1', ws_ls2', wg_tp', ws_app', ws_ext', rdV_non, Option.map_some, List.length_cons, List.length_nil]
  refine data_wc ⟨hl, Int.le_refl 0⟩ fun P l1 hP hl1 => ?_
  try simp only [↓ws_seq, ↓ws_set, ↓ws_setL, ↓ws_setD, ↓ws_asg, ↓ws_ret, ↓ws_retN, ↓ws_if, ↓ws_skip, ↓ws_break, ↓ws_cont, ↓ws_never, ↓we_var, ↓we_C, ↓we_fn, ↓we_f2, ↓we_f1, ↓we_chain, ↓wb_tst, ↓wb_tru, ↓wb_and, ↓wb_or, ↓wb_not, ↓wb_yes, ↓we_andV, ↓we_orV, ↓we_notV, ↓we_if, ↓wa_nil, ↓wa_cons, ↓we_tup, ↓wl_lst, ↓we_ofL, ↓wl_it, ↓we_CB, ↓wl_CL, ↓we_call, ↓wg_nm, ↓wgs_nil, ↓wgs_cons, ↓ks_nx, ↓ks_rt, ↓ks_bk, ↓ks_ct, ↓kr_rt, ↓kr_nx, ↓kt_nx, ↓kt_ct, ↓kt_bk, ↓kt_rt, ↓wv_some, ↓wtst_b, ↓wif_t, ↓wif_f, ↓wif_not, ↓we_lenV, ↓we_ixV, ↓we_inV, ↓ws_setIx, ↓wo_none, ↓wo_some, ↓we_sl, ↓wd_disp1, ↓wt_nil, ↓wt_cons, ↓we_dispT, ↓we_make, ↓ws_lsSet1, ↓ws_lsSet2, ↓ws_for, ↓wl_lc, ↓wl_rng1', ↓wl_rng2', ↓wl_enumT', List.getElem?_cons_zero, List.getElem?_cons_succ, List.set_cons_zero, List.set_cons_succ, Option.bind_some, id, rdV_av, rdV_d, rdV_lp, rdV_fn, rdV_ft, rdV_fd, rdV_ml, rdV_md, lenOf_ml, lenOf_l, lenOf_t, datOf_d, mlOf_ml, lstOf_l, intOf_i, seqOf_t, seqOf_l, dCmp_i, isLp_lp, avIx_ml, avIx_l, avIx_t, wv_map, dMod_p, dDiv_p, dAdd_t, dAdd_l, enumOf_t, rngOf_1, rngOf_2, Option.isSome_some, ↓reduceIte, true_and, and_true, rng_nat', Int.toNat_natCast, wipeG_n, wipeG_c, wif_dec, dats_nil, dats_d, dAdd_i, dSub_i, dMul_i, dIx_t, dIx_l, at0, at1, at2, dNeg_i, dTuple_l, dTuple_t, dList_l, dList_t, dInt_i, dLen_l, dLen_t, dPr_sz, dPr_pa, dPr_tk, dPr_lv, dPr_sk, ws_ls1', ws_ls2', wg_tp', ws_app', ws_ext', rdV_non, Option.map_some, List.length_cons, List.length_nil]
  refine made_wc hP ?_
  try simp only [↓ws_seq, ↓ws_set, ↓ws_setL, ↓ws_setD, ↓ws_asg, ↓ws_ret, ↓ws_retN, ↓ws_if, ↓ws_skip, ↓ws_break, ↓ws_cont, ↓ws_never, ↓we_var, ↓we_C, ↓we_fn, ↓we_f2, ↓we_f1, ↓we_chain, ↓wb_tst, ↓wb_tru, ↓wb_and, ↓wb_or, ↓wb_not, ↓wb_yes, ↓we_andV, ↓we_orV, ↓we_notV, ↓we_if, ↓wa_nil, ↓wa_cons, ↓we_tup, ↓wl_lst, ↓we_ofL, ↓wl_it, ↓we_CB, ↓wl_CL, ↓we_call, ↓wg_nm, ↓wgs_nil, ↓wgs_cons, ↓ks_nx, ↓ks_rt, ↓ks_bk, ↓ks_ct, ↓kr_rt, ↓kr_nx, ↓kt_nx, ↓kt_ct, ↓kt_bk, ↓kt_rt, ↓wv_some, ↓wtst_b, ↓wif_t, ↓wif_f, ↓wif_not, ↓we_lenV, ↓we_ixV, ↓we_inV, ↓ws_setIx, ↓wo_none, ↓wo_some, ↓we_sl, ↓wd_disp1, ↓wt_nil, ↓wt_cons, ↓we_dispT, ↓we_make, ↓ws_lsSet1, ↓ws_lsSet2, ↓ws_for, ↓wl_lc, ↓wl_rng1', ↓wl_rng2', ↓wl_enumT', List.getElem?_cons_zero, List.getElem?_cons_succ, List.set_cons_zero, List.set_cons_succ, Option.bind_some, id, rdV_av, rdV_d, rdV_lp, rdV_fn, rdV_ft, rdV_fd, rdV_ml, rdV_md, lenOf_ml, lenOf_l, lenOf_t, datOf_d, mlOf_ml, lstOf_l, intOf_i, seqOf_t, seqOf_l, dCmp_i, isLp_lp, avIx_ml, avIx_l, avIx_t, wv_map, dMod_p, dDiv_p, dAdd_t, dAdd_l, enumOf_t, rngOf_1, rngOf_2, Option.isSome_some, ↓reduceIte, true_and, and_true, rng_nat', Int.toNat_natCast, wipeG_n, wipeG_c, wif_dec, dats_nil, dats_d, dAdd_i, dSub_i, dMul_i, dIx_t, dIx_l, at0, at1, at2, dNeg_i, dTuple_l, dTuple_t, dList_l, dList_t, dInt_i, dLen_l, dLen_t, dPr_sz, dPr_pa, dPr_tk, dPr_lv, dPr_sk, ws_ls1', ws_ls2', wg_tp', ws_app', ws_ext', rdV_non, Option.map_some, List.length_cons, List.length_nil]
  refine next_wc hl1 (by omega) (by omega) fun x l2 hx hl2 => ?_
  try simp only [↓ws_seq, ↓ws_set, ↓ws_setL, ↓ws_setD, ↓ws_asg, ↓ws_ret, ↓ws_retN, ↓ws_if, ↓ws_skip, ↓ws_break, ↓ws_cont, ↓ws_never, ↓we_var, ↓we_C, ↓we_fn, ↓we_f2, ↓we_f1, ↓we_chain, ↓wb_tst, ↓wb_tru, ↓wb_and, ↓wb_or, ↓wb_not, ↓wb_yes, ↓we_andV, ↓we_orV, ↓we_notV, ↓we_if, ↓wa_nil, ↓wa_cons, ↓we_tup, ↓wl_lst, ↓we_ofL, ↓wl_it, ↓we_CB, ↓wl_CL, ↓we_call, ↓wg_nm, ↓wgs_nil, ↓wgs_cons, ↓ks_nx, ↓ks_rt, ↓ks_bk, ↓ks_ct, ↓kr_rt, ↓kr_nx, ↓kt_nx, ↓kt_ct, ↓kt_bk, ↓kt_rt, ↓wv_some, ↓wtst_b, ↓wif_t, ↓wif_f, ↓wif_not, ↓we_lenV, ↓we_ixV, ↓we_inV, ↓ws_setIx, ↓wo_none, ↓wo_some, ↓we_sl, ↓wd_disp1, ↓wt_nil, ↓wt_cons, ↓we_dispT, ↓we_make, ↓ws_lsSet1, ↓ws_lsSet2, ↓ws_for, ↓wl_lc, ↓wl_rng1', ↓wl_rng2', ↓wl_enumT', List.getElem?_cons_zero, List.getElem?_cons_succ, List.set_cons_zero, List.set_cons_succ, Option.bind_some, id, rdV_av, rdV_d, rdV_lp, rdV_fn, rdV_ft, rdV_fd, rdV_ml, rdV_md, lenOf_ml, lenOf_l, lenOf_t, datOf_d, mlOf_ml, lstOf_l, intOf_i, seqOf_t, seqOf_l, dCmp_i, isLp_lp, avIx_ml, avIx_l, avIx_t, wv_map, dMod_p, dDiv_p, dAdd_t, dAdd_l, enumOf_t, rngOf_1, rngOf_2, Option.isSome_some, ↓reduceIte, true_and, and_true, rng_nat', Int.toNat_natCast, wipeG_n, wipeG_c, wif_dec, dats_nil, dats_d, dAdd_i, dSub_i, dMul_i, dIx_t, dIx_l, at0, at1, at2, dNeg_i, dTuple_l, dTuple_t, dList_l, dList_t, dInt_i, dLen_l, dLen_t, dPr_sz, dPr_pa, dPr_tk, dPr_lv, dPr_sk, ws_ls1', ws_ls2', wg_tp', ws_app', ws_ext', rdV_non, Option.map_some, List.length_cons, List.length_nil]
  refine next_wc hl2 (by omega) (by omega) fun y l3 hy hl3 => ?_
  try simp only [↓ws_seq, ↓ws_set, ↓ws_setL, ↓ws_setD, ↓ws_asg, ↓ws_ret, ↓ws_retN, ↓ws_if, ↓ws_skip, ↓ws_break, ↓ws_cont, ↓ws_never, ↓we_var, ↓we_C, ↓we_fn, ↓we_f2, ↓we_f1, ↓we_chain, ↓wb_tst, ↓wb_tru, ↓wb_and, ↓wb_or, ↓wb_not, ↓wb_yes, ↓we_andV, ↓we_orV, ↓we_notV, ↓we_if, ↓wa_nil, ↓wa_cons, ↓we_tup, ↓wl_lst, ↓we_ofL, ↓wl_it, ↓we_CB, ↓wl_CL, ↓we_call, ↓wg_nm, ↓wgs_nil, ↓wgs_cons, ↓ks_nx, ↓ks_rt, ↓ks_bk, ↓ks_ct, ↓kr_rt, ↓kr_nx, ↓kt_nx, ↓kt_ct, ↓kt_bk, ↓kt_rt, ↓wv_some, ↓wtst_b, ↓wif_t, ↓wif_f, ↓wif_not, ↓we_lenV, ↓we_ixV, ↓we_inV, ↓ws_setIx, ↓wo_none, ↓wo_some, ↓we_sl, ↓wd_disp1, ↓wt_nil, ↓wt_cons, ↓we_dispT, ↓we_make, ↓ws_lsSet1, ↓ws_lsSet2, ↓ws_for, ↓wl_lc, ↓wl_rng1', ↓wl_rng2', ↓wl_enumT', List.getElem?_cons_zero, List.getElem?_cons_succ, List.set_cons_zero, List.set_cons_succ, Option.bind_some, id, rdV_av, rdV_d, rdV_lp, rdV_fn, rdV_ft, rdV_fd, rdV_ml, rdV_md, lenOf_ml, lenOf_l, lenOf_t, datOf_d, mlOf_ml, lstOf_l, intOf_i, seqOf_t, seqOf_l, dCmp_i, isLp_lp, avIx_ml, avIx_l, avIx_t, wv_map, dMod_p, dDiv_p, dAdd_t, dAdd_l, enumOf_t, rngOf_1, rngOf_2, Option.isSome_some, ↓reduceIte, true_and, and_true, rng_nat', Int.toNat_natCast, wipeG_n, wipeG_c, wif_dec, dats_nil, dats_d, dAdd_i, dSub_i, dMul_i, dIx_t, dIx_l, at0, at1, at2, dNeg_i, dTuple_l, dTuple_t, dList_l, dList_t, dInt_i, dLen_l, dLen_t, dPr_sz, dPr_pa, dPr_tk, dPr_lv, dPr_sk, ws_ls1', ws_ls2', wg_tp', ws_app', ws_ext', rdV_non, Option.map_some, List.length_cons, List.length_nil]
  refine wv_at (by simp; omega) fun m hm => ?_
  obtain ⟨k, rfl⟩ : ∃ k : Bool, m = .str (kW k) := by
    simp only [List.mem_cons, List.not_mem_nil, or_false] at hm
    rcases hm with rfl | rfl
    · exact ⟨true, rfl⟩
    · exact ⟨false, rfl⟩
  have em : ((1 : Int) + (x : Nat)) = ((1 + x : Nat) : Int) := by omega
  rw [em]
  generalize hmm : 1 + x = m
  have s1 : (("never" : Str) == "never") = true := by decide +kernel
  have s2 : (("run" : Str) == "never") = false := by decide +kernel
  have s3 : (("run" : Str) == "run") = true := by decide +kernel
  have s4 : (("many" : Str) == "never") = false := by decide +kernel
  have s5 : (("many" : Str) == "run") = false := by decide +kernel
  have s6 : dEq (.d (.tuple [.str "many"])) (.d (.tuple [.str "many"])) = some (.d (.bool true)) := by
    have h : WV (dEq (.d (.tuple [.str "many"])) (.d (.tuple [.str "many"]))) fun r => r = .d (.bool true) := by
      rw [dEq_gd (by simp [gd, gds, ok_many]) (by simp [gd, gds, ok_many])]
      simp
    obtain ⟨r, h1, h2⟩ := h
    rw [h1, h2]
  simp only [↓ws_seq, ↓ws_set, ↓ws_setL, ↓ws_setD, ↓ws_asg, ↓ws_ret, ↓ws_retN, ↓ws_if, ↓ws_skip, ↓ws_break, ↓ws_cont, ↓ws_never, ↓we_var, ↓we_C, ↓we_fn, ↓we_f2, ↓we_f1, ↓we_chain, ↓wb_tst, ↓wb_tru, ↓wb_and, ↓wb_or, ↓wb_not, ↓wb_yes, ↓we_andV, ↓we_orV, ↓we_notV, ↓we_if, ↓wa_nil, ↓wa_cons, ↓we_tup, ↓wl_lst, ↓we_ofL, ↓wl_it, ↓we_CB, ↓wl_CL, ↓we_call, ↓wg_nm, ↓wgs_nil, ↓wgs_cons, ↓ks_nx, ↓ks_rt, ↓ks_bk, ↓ks_ct, ↓kr_rt, ↓kr_nx, ↓kt_nx, ↓kt_ct, ↓kt_bk, ↓kt_rt, ↓wv_some, ↓wtst_b, ↓wif_t, ↓wif_f, ↓wif_not, ↓we_lenV, ↓we_ixV, ↓we_inV, ↓ws_setIx, ↓wo_none, ↓wo_some, ↓we_sl, ↓wd_disp1, ↓wt_nil, ↓wt_cons, ↓we_dispT, ↓we_make, ↓ws_lsSet1, ↓ws_lsSet2, ↓ws_for, ↓wl_lc, ↓wl_rng1', ↓wl_rng2', ↓wl_enumT', List.getElem?_cons_zero, List.getElem?_cons_succ, List.set_cons_zero, List.set_cons_succ, Option.bind_some, id, rdV_av, rdV_d, rdV_lp, rdV_fn, rdV_ft, rdV_fd, rdV_ml, rdV_md, lenOf_ml, lenOf_l, lenOf_t, datOf_d, mlOf_ml, lstOf_l, intOf_i, seqOf_t, seqOf_l, dCmp_i, isLp_lp, avIx_ml, avIx_l, avIx_t, wv_map, dMod_p, dDiv_p, dAdd_t, dAdd_l, enumOf_t, rngOf_1, rngOf_2, Option.isSome_some, ↓reduceIte, true_and, and_true, rng_nat', Int.toNat_natCast, wipeG_n, wipeG_c, wif_dec, dats_nil, dats_d, dAdd_i, dSub_i, dMul_i, dIx_t, dIx_l, at0, at1, at2, dNeg_i, dTuple_l, dTuple_t, dList_l, dList_t, dInt_i, dLen_l, dLen_t, dPr_sz, dPr_pa, dPr_tk, dPr_lv, dPr_sk, ws_ls1', ws_ls2', wg_tp', ws_app', ws_ext', rdV_non, Option.map_some, List.length_cons, List.length_nil, dEq_str (kW_ok _) ok_stale, kW_eq]
  refine firstK_wc hP (by omega) (by omega) hne ?_ ?_ ?_
  · intro n h1 h2 hnv
    refine lawFirst_wc hP hl3 fun c l4 hl4 hc => ?_
    have hc0 : c = 0 := by
      rcases hc with hc | ⟨r, t, a, hr, ha, hw, _⟩
      · exact hc
      · rw [hnv r t a hr ha] at hw; cases hw
    have e2 : (1 : Int) ≤ (n : Nat) := by omega
    have e3 : ((n : Nat) : Int) ≤ (m : Nat) := by omega
    subst hc0
    have e4 : ((0 : Nat) : Int) = 0 := rfl
    simp only [↓ws_seq, ↓ws_set, ↓ws_setL, ↓ws_setD, ↓ws_asg, ↓ws_ret, ↓ws_retN, ↓ws_if, ↓ws_skip, ↓ws_break, ↓ws_cont, ↓ws_never, ↓we_var, ↓we_C, ↓we_fn, ↓we_f2, ↓we_f1, ↓we_chain, ↓wb_tst, ↓wb_tru, ↓wb_and, ↓wb_or, ↓wb_not, ↓wb_yes, ↓we_andV, ↓we_orV, ↓we_notV, ↓we_if, ↓wa_nil, ↓wa_cons, ↓we_tup, ↓wl_lst, ↓we_ofL, ↓wl_it, ↓we_CB, ↓wl_CL, ↓we_call, ↓wg_nm, ↓wgs_nil, ↓wgs_cons, ↓ks_nx, ↓ks_rt, ↓ks_bk, ↓ks_ct, ↓kr_rt, ↓kr_nx, ↓kt_nx, ↓kt_ct, ↓kt_bk, ↓kt_rt, ↓wv_some, ↓wtst_b, ↓wif_t, ↓wif_f, ↓wif_not, ↓we_lenV, ↓we_ixV, ↓we_inV, ↓ws_setIx, ↓wo_none, ↓wo_some, ↓we_sl, ↓wd_disp1, ↓wt_nil, ↓wt_cons, ↓we_dispT, ↓we_make, ↓ws_lsSet1, ↓ws_lsSet2, ↓ws_for, ↓wl_lc, ↓wl_rng1', ↓wl_rng2', ↓wl_enumT', List.getElem?_cons_zero, List.getElem?_cons_succ, List.set_cons_zero, List.set_cons_succ, Option.bind_some, id, rdV_av, rdV_d, rdV_lp, rdV_fn, rdV_ft, rdV_fd, rdV_ml, rdV_md, lenOf_ml, lenOf_l, lenOf_t, datOf_d, mlOf_ml, lstOf_l, intOf_i, seqOf_t, seqOf_l, dCmp_i, isLp_lp, avIx_ml, avIx_l, avIx_t, wv_map, dMod_p, dDiv_p, dAdd_t, dAdd_l, enumOf_t, rngOf_1, rngOf_2, Option.isSome_some, ↓reduceIte, true_and, and_true, rng_nat', Int.toNat_natCast, wipeG_n, wipeG_c, wif_dec, dats_nil, dats_d, dAdd_i, dSub_i, dMul_i, dIx_t, dIx_l, at0, at1, at2, dNeg_i, dTuple_l, dTuple_t, dList_l, dList_t, dInt_i, dLen_l, dLen_t, dPr_sz, dPr_pa, dPr_tk, dPr_lv, dPr_sk, ws_ls1', ws_ls2', wg_tp', ws_app', ws_ext', rdV_non, Option.map_some, List.length_cons, List.length_nil, dEq_str ok_never ok_never, s1, dEq_i, e4, e2, e3, decide_true]
    exact ⟨_, rfl⟩
  · refine lawFirst_wc hP hl3 fun c l4 hl4 hc => ?_
    simp only [↓ws_seq, ↓ws_set, ↓ws_setL, ↓ws_setD, ↓ws_asg, ↓ws_ret, ↓ws_retN, ↓ws_if, ↓ws_skip, ↓ws_break, ↓ws_cont, ↓ws_never, ↓we_var, ↓we_C, ↓we_fn, ↓we_f2, ↓we_f1, ↓we_chain, ↓wb_tst, ↓wb_tru, ↓wb_and, ↓wb_or, ↓wb_not, ↓wb_yes, ↓we_andV, ↓we_orV, ↓we_notV, ↓we_if, ↓wa_nil, ↓wa_cons, ↓we_tup, ↓wl_lst, ↓we_ofL, ↓wl_it, ↓we_CB, ↓wl_CL, ↓we_call, ↓wg_nm, ↓wgs_nil, ↓wgs_cons, ↓ks_nx, ↓ks_rt, ↓ks_bk, ↓ks_ct, ↓kr_rt, ↓kr_nx, ↓kt_nx, ↓kt_ct, ↓kt_bk, ↓kt_rt, ↓wv_some, ↓wtst_b, ↓wif_t, ↓wif_f, ↓wif_not, ↓we_lenV, ↓we_ixV, ↓we_inV, ↓ws_setIx, ↓wo_none, ↓wo_some, ↓we_sl, ↓wd_disp1, ↓wt_nil, ↓wt_cons, ↓we_dispT, ↓we_make, ↓ws_lsSet1, ↓ws_lsSet2, ↓ws_for, ↓wl_lc, ↓wl_rng1', ↓wl_rng2', ↓wl_enumT', List.getElem?_cons_zero, List.getElem?_cons_succ, List.set_cons_zero, List.set_cons_succ, Option.bind_some, id, rdV_av, rdV_d, rdV_lp, rdV_fn, rdV_ft, rdV_fd, rdV_ml, rdV_md, lenOf_ml, lenOf_l, lenOf_t, datOf_d, mlOf_ml, lstOf_l, intOf_i, seqOf_t, seqOf_l, dCmp_i, isLp_lp, avIx_ml, avIx_l, avIx_t, wv_map, dMod_p, dDiv_p, dAdd_t, dAdd_l, enumOf_t, rngOf_1, rngOf_2, Option.isSome_some, ↓reduceIte, true_and, and_true, rng_nat', Int.toNat_natCast, wipeG_n, wipeG_c, wif_dec, dats_nil, dats_d, dAdd_i, dSub_i, dMul_i, dIx_t, dIx_l, at0, at1, at2, dNeg_i, dTuple_l, dTuple_t, dList_l, dList_t, dInt_i, dLen_l, dLen_t, dPr_sz, dPr_pa, dPr_tk, dPr_lv, dPr_sk, ws_ls1', ws_ls2', wg_tp', ws_app', ws_ext', rdV_non, Option.map_some, List.length_cons, List.length_nil, dEq_str ok_many ok_never, dEq_str ok_many ok_run, s4, s5, s6]
    exact ⟨_, rfl⟩
  · intro r a s hr ha hw hlen hleast
    refine lawFirst_wc hP hl3 fun c l4 hl4 hc => ?_
    simp only [↓ws_seq, ↓ws_set, ↓ws_setL, ↓ws_setD, ↓ws_asg, ↓ws_ret, ↓ws_retN, ↓ws_if, ↓ws_skip, ↓ws_break, ↓ws_cont, ↓ws_never, ↓we_var, ↓we_C, ↓we_fn, ↓we_f2, ↓we_f1, ↓we_chain, ↓wb_tst, ↓wb_tru, ↓wb_and, ↓wb_or, ↓wb_not, ↓wb_yes, ↓we_andV, ↓we_orV, ↓we_notV, ↓we_if, ↓wa_nil, ↓wa_cons, ↓we_tup, ↓wl_lst, ↓we_ofL, ↓wl_it, ↓we_CB, ↓wl_CL, ↓we_call, ↓wg_nm, ↓wgs_nil, ↓wgs_cons, ↓ks_nx, ↓ks_rt, ↓ks_bk, ↓ks_ct, ↓kr_rt, ↓kr_nx, ↓kt_nx, ↓kt_ct, ↓kt_bk, ↓kt_rt, ↓wv_some, ↓wtst_b, ↓wif_t, ↓wif_f, ↓wif_not, ↓we_lenV, ↓we_ixV, ↓we_inV, ↓ws_setIx, ↓wo_none, ↓wo_some, ↓we_sl, ↓wd_disp1, ↓wt_nil, ↓wt_cons, ↓we_dispT, ↓we_make, ↓ws_lsSet1, ↓ws_lsSet2, ↓ws_for, ↓wl_lc, ↓wl_rng1', ↓wl_rng2', ↓wl_enumT', List.getElem?_cons_zero, List.getElem?_cons_succ, List.set_cons_zero, List.set_cons_succ, Option.bind_some, id, rdV_av, rdV_d, rdV_lp, rdV_fn, rdV_ft, rdV_fd, rdV_ml, rdV_md, lenOf_ml, lenOf_l, lenOf_t, datOf_d, mlOf_ml, lstOf_l, intOf_i, seqOf_t, seqOf_l, dCmp_i, isLp_lp, avIx_ml, avIx_l, avIx_t, wv_map, dMod_p, dDiv_p, dAdd_t, dAdd_l, enumOf_t, rngOf_1, rngOf_2, Option.isSome_some, ↓reduceIte, true_and, and_true, rng_nat', Int.toNat_natCast, wipeG_n, wipeG_c, wif_dec, dats_nil, dats_d, dAdd_i, dSub_i, dMul_i, dIx_t, dIx_l, at0, at1, at2, dNeg_i, dTuple_l, dTuple_t, dList_l, dList_t, dInt_i, dLen_l, dLen_t, dPr_sz, dPr_pa, dPr_tk, dPr_lv, dPr_sk, ws_ls1', ws_ls2', wg_tp', ws_app', ws_ext', rdV_non, Option.map_some, List.length_cons, List.length_nil, dEq_str ok_run ok_never, dEq_str ok_run ok_run, s2, s3]
    refine lawTold_wc hP hr ha hw hlen ?_
    simp only [↓ws_seq, ↓ws_set, ↓ws_setL, ↓ws_setD, ↓ws_asg, ↓ws_ret, ↓ws_retN, ↓ws_if, ↓ws_skip, ↓ws_break, ↓ws_cont, ↓ws_never, ↓we_var, ↓we_C, ↓we_fn, ↓we_f2, ↓we_f1, ↓we_chain, ↓wb_tst, ↓wb_tru, ↓wb_and, ↓wb_or, ↓wb_not, ↓wb_yes, ↓we_andV, ↓we_orV, ↓we_notV, ↓we_if, ↓wa_nil, ↓wa_cons, ↓we_tup, ↓wl_lst, ↓we_ofL, ↓wl_it, ↓we_CB, ↓wl_CL, ↓we_call, ↓wg_nm, ↓wgs_nil, ↓wgs_cons, ↓ks_nx, ↓ks_rt, ↓ks_bk, ↓ks_ct, ↓kr_rt, ↓kr_nx, ↓kt_nx, ↓kt_ct, ↓kt_bk, ↓kt_rt, ↓wv_some, ↓wtst_b, ↓wif_t, ↓wif_f, ↓wif_not, ↓we_lenV, ↓we_ixV, ↓we_inV, ↓ws_setIx, ↓wo_none, ↓wo_some, ↓we_sl, ↓wd_disp1, ↓wt_nil, ↓wt_cons, ↓we_dispT, ↓we_make, ↓ws_lsSet1, ↓ws_lsSet2, ↓ws_for, ↓wl_lc, ↓wl_rng1', ↓wl_rng2', ↓wl_enumT', List.getElem?_cons_zero, List.getElem?_cons_succ, List.set_cons_zero, List.set_cons_succ, Option.bind_some, id, rdV_av, rdV_d, rdV_lp, rdV_fn, rdV_ft, rdV_fd, rdV_ml, rdV_md, lenOf_ml, lenOf_l, lenOf_t, datOf_d, mlOf_ml, lstOf_l, intOf_i, seqOf_t, seqOf_l, dCmp_i, isLp_lp, avIx_ml, avIx_l, avIx_t, wv_map, dMod_p, dDiv_p, dAdd_t, dAdd_l, enumOf_t, rngOf_1, rngOf_2, Option.isSome_some, ↓reduceIte, true_and, and_true, rng_nat', Int.toNat_natCast, wipeG_n, wipeG_c, wif_dec, dats_nil, dats_d, dAdd_i, dSub_i, dMul_i, dIx_t, dIx_l, at0, at1, at2, dNeg_i, dTuple_l, dTuple_t, dList_l, dList_t, dInt_i, dLen_l, dLen_t, dPr_sz, dPr_pa, dPr_tk, dPr_lv, dPr_sk, ws_ls1', ws_ls2', wg_tp', ws_app', ws_ext', rdV_non, Option.map_some, List.length_cons, List.length_nil, dEq_i, List.length_map]
    split
    · exact ⟨_, rfl⟩
    · rename_i c0
      have e5 : (((r ++ [a]).length : Nat) : Int) ≤ (c : Nat) := by
        rcases hc with hc | ⟨q, t, b, hq, hb, hwb, hc⟩
        · exact absurd (by rw [hc]; rfl) c0
        · have := hleast q t b hq hb hwb
          rw [List.length_append, List.length_singleton]
          omega
      simp only [e5, decide_true]
      exact ⟨_, rfl⟩
end Pu

set_option Elab.async false
set_option linter.all false
set_option maxRecDepth 100000
set_option maxHeartbeats 4000000
namespace Tk.W
open PySem PySem.Spec PyProof.Rows L2 Tk
theorem andL {a b : Bool} (h : (a && b) = true) : a = true := by revert h; cases a <;> simp
theorem andR {a b : Bool} (h : (a && b) = true) : b = true := by revert h; cases a <;> simp
theorem all_mk {l : PySem.W.OpenLaw} {w : World} {K : PySem.W.Frag} {h : Heap} {mg : Str → Option Value} {fa : Addr} (X : K.In h) (G : h.Ns mainGlobals mg) (hfa : mg "law" = some (.ref fa)) (hn : l.most = some 63)
    {C0 D_init f_init c_init t_init f__law_start f_is_number f_are_numbers f_is_table f_are_changes f_are_parts f_are_indexes f__law_made f_start f_acts f_changed f_words f_next_focus f_changes_of f_put f_after f_reading f_looks f_sight f__law_wanted f__law_next f__law_first f__law_table f__law_changes f__law_part f__law_data f_is_stale f_is_unsaid f_run_to f_first_run f_first_stale f_first_unsaid f__law_told f_law c_are_numbers t_are_numbers : Addr}
    {vs_init : Array Value}
    {vs_are_numbers : Array Value}
    {oc__law_start kV__law_start dc__law_start pm__law_start ct__law_start cd__law_start oc_is_number kV_is_number dc_is_number pm_is_number ct_is_number cd_is_number oc_are_numbers kV_are_numbers dc_are_numbers pm_are_numbers ct_are_numbers oc_is_table kV_is_table dc_is_table pm_is_table ct_is_table cd_is_table oc_are_changes kV_are_changes dc_are_changes pm_are_changes ct_are_changes cd_are_changes oc_are_parts kV_are_parts dc_are_parts pm_are_parts ct_are_parts cd_are_parts oc_are_indexes kV_are_indexes dc_are_indexes pm_are_indexes ct_are_indexes cd_are_indexes oc__law_made kV__law_made dc__law_made pm__law_made ct__law_made cd__law_made oc_start kV_start dc_start pm_start ct_start cd_start oc_acts kV_acts dc_acts pm_acts ct_acts cd_acts oc_changed kV_changed dc_changed pm_changed ct_changed cd_changed oc_words kV_words dc_words pm_words ct_words cd_words oc_next_focus kV_next_focus dc_next_focus pm_next_focus ct_next_focus cd_next_focus oc_changes_of kV_changes_of dc_changes_of pm_changes_of ct_changes_of cd_changes_of oc_put kV_put dc_put pm_put ct_put cd_put oc_after kV_after dc_after pm_after ct_after cd_after oc_reading kV_reading dc_reading pm_reading ct_reading cd_reading oc_looks kV_looks dc_looks pm_looks ct_looks cd_looks oc_sight kV_sight dc_sight pm_sight ct_sight cd_sight oc__law_wanted kV__law_wanted dc__law_wanted pm__law_wanted ct__law_wanted cd__law_wanted oc__law_next kV__law_next dc__law_next pm__law_next ct__law_next cd__law_next oc__law_first kV__law_first dc__law_first pm__law_first ct__law_first cd__law_first oc__law_table kV__law_table dc__law_table pm__law_table ct__law_table cd__law_table oc__law_changes kV__law_changes dc__law_changes pm__law_changes ct__law_changes cd__law_changes oc__law_part kV__law_part dc__law_part pm__law_part ct__law_part cd__law_part oc__law_data kV__law_data dc__law_data pm__law_data ct__law_data cd__law_data oc_is_stale kV_is_stale dc_is_stale pm_is_stale ct_is_stale cd_is_stale oc_is_unsaid kV_is_unsaid dc_is_unsaid pm_is_unsaid ct_is_unsaid cd_is_unsaid oc_run_to kV_run_to dc_run_to pm_run_to ct_run_to cd_run_to oc_first_run kV_first_run dc_first_run pm_first_run ct_first_run cd_first_run oc_first_stale kV_first_stale dc_first_stale pm_first_stale ct_first_stale cd_first_stale oc_first_unsaid kV_first_unsaid dc_first_unsaid pm_first_unsaid ct_first_unsaid cd_first_unsaid oc__law_told kV__law_told dc__law_told pm__law_told ct__law_told cd__law_told oc_law kV_law dc_law pm_law ct_law cd_law oc_init dc_init pm_init ct_init ec_init ec_are_numbers : Value}
    {od__law_start an__law_start od_is_number an_is_number od_are_numbers an_are_numbers od_is_table an_is_table od_are_changes an_are_changes od_are_parts an_are_parts od_are_indexes an_are_indexes od__law_made an__law_made od_start an_start od_acts an_acts od_changed an_changed od_words an_words od_next_focus an_next_focus od_changes_of an_changes_of od_put an_put od_after an_after od_reading an_reading od_looks an_looks od_sight an_sight od__law_wanted an__law_wanted od__law_next an__law_next od__law_first an__law_first od__law_table an__law_table od__law_changes an__law_changes od__law_part an__law_part od__law_data an__law_data od_is_stale an_is_stale od_is_unsaid an_is_unsaid od_run_to an_run_to od_first_run an_first_run od_first_stale an_first_stale od_first_unsaid an_first_unsaid od__law_told an__law_told od_law an_law od_init an_init dd_init dd_are_numbers : Option Addr}
    {sl__law_start sl_is_number sl_are_numbers sl_is_table sl_are_changes sl_are_parts sl_are_indexes sl__law_made sl_start sl_acts sl_changed sl_words sl_next_focus sl_changes_of sl_put sl_after sl_reading sl_looks sl_sight sl__law_wanted sl__law_next sl__law_first sl__law_table sl__law_changes sl__law_part sl__law_data sl_is_stale sl_is_unsaid sl_run_to sl_first_run sl_first_stale sl_first_unsaid sl__law_told sl_law sl_init sc_init sc_are_numbers : Array (Option Value)}
    {tk_MOST_NUMBER : Tok}
    (tt : tabsOut K = true)
    (a__law_start : PySem.W.nsIn K mainGlobals "_law_start" = some (some (.ref f__law_start)))
    (l__law_start : K.lookup f__law_start = some ⟨oc__law_start, od__law_start, .func (PySem.W.fnOf "_law_start" "_law_start" (defArgs s__law_start) (defBody s__law_start) (defScope s__law_start) .none kV__law_start dc__law_start pm__law_start an__law_start cd__law_start ct__law_start), sl__law_start⟩)
    (e__law_start : (PySem.W.codeIn (noTab K) cd__law_start "_law_start" && PySem.W.keepIn (noTab K) (.ref f__law_start)) = true)
    (a_is_number : PySem.W.nsIn K mainGlobals "is_number" = some (some (.ref f_is_number)))
    (l_is_number : K.lookup f_is_number = some ⟨oc_is_number, od_is_number, .func (PySem.W.fnOf "is_number" "is_number" (defArgs s_is_number) (defBody s_is_number) (defScope s_is_number) .none kV_is_number dc_is_number pm_is_number an_is_number cd_is_number ct_is_number), sl_is_number⟩)
    (e_is_number : (PySem.W.codeIn (noTab K) cd_is_number "is_number" && PySem.W.keepIn (noTab K) (.ref f_is_number)) = true)
    (a_are_numbers : PySem.W.nsIn K mainGlobals "are_numbers" = some (some (.ref f_are_numbers)))
    (l_are_numbers : K.lookup f_are_numbers = some ⟨oc_are_numbers, od_are_numbers, .func (PySem.W.fnOf "are_numbers" "are_numbers" (defArgs s_are_numbers) (defBody s_are_numbers) (defScope s_are_numbers) .none kV_are_numbers dc_are_numbers pm_are_numbers an_are_numbers (.ref c_are_numbers) ct_are_numbers), sl_are_numbers⟩)
    (e_are_numbers : (PySem.W.codeIn (noTab K) (.ref c_are_numbers) "are_numbers" && PySem.W.keepIn (noTab K) (.ref f_are_numbers)) = true)
    (a_is_table : PySem.W.nsIn K mainGlobals "is_table" = some (some (.ref f_is_table)))
    (l_is_table : K.lookup f_is_table = some ⟨oc_is_table, od_is_table, .func (PySem.W.fnOf "is_table" "is_table" (defArgs s_is_table) (defBody s_is_table) (defScope s_is_table) .none kV_is_table dc_is_table pm_is_table an_is_table cd_is_table ct_is_table), sl_is_table⟩)
    (e_is_table : (PySem.W.codeIn (noTab K) cd_is_table "is_table" && PySem.W.keepIn (noTab K) (.ref f_is_table)) = true)
    (a_are_changes : PySem.W.nsIn K mainGlobals "are_changes" = some (some (.ref f_are_changes)))
    (l_are_changes : K.lookup f_are_changes = some ⟨oc_are_changes, od_are_changes, .func (PySem.W.fnOf "are_changes" "are_changes" (defArgs s_are_changes) (defBody s_are_changes) (defScope s_are_changes) .none kV_are_changes dc_are_changes pm_are_changes an_are_changes cd_are_changes ct_are_changes), sl_are_changes⟩)
    (e_are_changes : (PySem.W.codeIn (noTab K) cd_are_changes "are_changes" && PySem.W.keepIn (noTab K) (.ref f_are_changes)) = true)
    (a_are_parts : PySem.W.nsIn K mainGlobals "are_parts" = some (some (.ref f_are_parts)))
    (l_are_parts : K.lookup f_are_parts = some ⟨oc_are_parts, od_are_parts, .func (PySem.W.fnOf "are_parts" "are_parts" (defArgs s_are_parts) (defBody s_are_parts) (defScope s_are_parts) .none kV_are_parts dc_are_parts pm_are_parts an_are_parts cd_are_parts ct_are_parts), sl_are_parts⟩)
    (e_are_parts : (PySem.W.codeIn (noTab K) cd_are_parts "are_parts" && PySem.W.keepIn (noTab K) (.ref f_are_parts)) = true)
    (a_are_indexes : PySem.W.nsIn K mainGlobals "are_indexes" = some (some (.ref f_are_indexes)))
    (l_are_indexes : K.lookup f_are_indexes = some ⟨oc_are_indexes, od_are_indexes, .func (PySem.W.fnOf "are_indexes" "are_indexes" (defArgs s_are_indexes) (defBody s_are_indexes) (defScope s_are_indexes) .none kV_are_indexes dc_are_indexes pm_are_indexes an_are_indexes cd_are_indexes ct_are_indexes), sl_are_indexes⟩)
    (e_are_indexes : (PySem.W.codeIn (noTab K) cd_are_indexes "are_indexes" && PySem.W.keepIn (noTab K) (.ref f_are_indexes)) = true)
    (a__law_made : PySem.W.nsIn K mainGlobals "_law_made" = some (some (.ref f__law_made)))
    (l__law_made : K.lookup f__law_made = some ⟨oc__law_made, od__law_made, .func (PySem.W.fnOf "_law_made" "_law_made" (defArgs s__law_made) (defBody s__law_made) (defScope s__law_made) .none kV__law_made dc__law_made pm__law_made an__law_made cd__law_made ct__law_made), sl__law_made⟩)
    (e__law_made : (PySem.W.codeIn (noTab K) cd__law_made "_law_made" && PySem.W.keepIn (noTab K) (.ref f__law_made)) = true)
    (a_start : PySem.W.nsIn K mainGlobals "start" = some (some (.ref f_start)))
    (l_start : K.lookup f_start = some ⟨oc_start, od_start, .func (PySem.W.fnOf "start" "start" (defArgs s_start) (defBody s_start) (defScope s_start) .none kV_start dc_start pm_start an_start cd_start ct_start), sl_start⟩)
    (e_start : (PySem.W.codeIn (noTab K) cd_start "start" && PySem.W.keepIn (noTab K) (.ref f_start)) = true)
    (a_acts : PySem.W.nsIn K mainGlobals "acts" = some (some (.ref f_acts)))
    (l_acts : K.lookup f_acts = some ⟨oc_acts, od_acts, .func (PySem.W.fnOf "acts" "acts" (defArgs s_acts) (defBody s_acts) (defScope s_acts) .none kV_acts dc_acts pm_acts an_acts cd_acts ct_acts), sl_acts⟩)
    (e_acts : (PySem.W.codeIn (noTab K) cd_acts "acts" && PySem.W.keepIn (noTab K) (.ref f_acts)) = true)
    (a_changed : PySem.W.nsIn K mainGlobals "changed" = some (some (.ref f_changed)))
    (l_changed : K.lookup f_changed = some ⟨oc_changed, od_changed, .func (PySem.W.fnOf "changed" "changed" (defArgs s_changed) (defBody s_changed) (defScope s_changed) .none kV_changed dc_changed pm_changed an_changed cd_changed ct_changed), sl_changed⟩)
    (e_changed : (PySem.W.codeIn (noTab K) cd_changed "changed" && PySem.W.keepIn (noTab K) (.ref f_changed)) = true)
    (a_words : PySem.W.nsIn K mainGlobals "words" = some (some (.ref f_words)))
    (l_words : K.lookup f_words = some ⟨oc_words, od_words, .func (PySem.W.fnOf "words" "words" (defArgs s_words) (defBody s_words) (defScope s_words) .none kV_words dc_words pm_words an_words cd_words ct_words), sl_words⟩)
    (e_words : (PySem.W.codeIn (noTab K) cd_words "words" && PySem.W.keepIn (noTab K) (.ref f_words)) = true)
    (a_next_focus : PySem.W.nsIn K mainGlobals "next_focus" = some (some (.ref f_next_focus)))
    (l_next_focus : K.lookup f_next_focus = some ⟨oc_next_focus, od_next_focus, .func (PySem.W.fnOf "next_focus" "next_focus" (defArgs s_next_focus) (defBody s_next_focus) (defScope s_next_focus) .none kV_next_focus dc_next_focus pm_next_focus an_next_focus cd_next_focus ct_next_focus), sl_next_focus⟩)
    (e_next_focus : (PySem.W.codeIn (noTab K) cd_next_focus "next_focus" && PySem.W.keepIn (noTab K) (.ref f_next_focus)) = true)
    (a_changes_of : PySem.W.nsIn K mainGlobals "changes_of" = some (some (.ref f_changes_of)))
    (l_changes_of : K.lookup f_changes_of = some ⟨oc_changes_of, od_changes_of, .func (PySem.W.fnOf "changes_of" "changes_of" (defArgs s_changes_of) (defBody s_changes_of) (defScope s_changes_of) .none kV_changes_of dc_changes_of pm_changes_of an_changes_of cd_changes_of ct_changes_of), sl_changes_of⟩)
    (e_changes_of : (PySem.W.codeIn (noTab K) cd_changes_of "changes_of" && PySem.W.keepIn (noTab K) (.ref f_changes_of)) = true)
    (a_put : PySem.W.nsIn K mainGlobals "put" = some (some (.ref f_put)))
    (l_put : K.lookup f_put = some ⟨oc_put, od_put, .func (PySem.W.fnOf "put" "put" (defArgs s_put) (defBody s_put) (defScope s_put) .none kV_put dc_put pm_put an_put cd_put ct_put), sl_put⟩)
    (e_put : (PySem.W.codeIn (noTab K) cd_put "put" && PySem.W.keepIn (noTab K) (.ref f_put)) = true)
    (a_after : PySem.W.nsIn K mainGlobals "after" = some (some (.ref f_after)))
    (l_after : K.lookup f_after = some ⟨oc_after, od_after, .func (PySem.W.fnOf "after" "after" (defArgs s_after) (defBody s_after) (defScope s_after) .none kV_after dc_after pm_after an_after cd_after ct_after), sl_after⟩)
    (e_after : (PySem.W.codeIn (noTab K) cd_after "after" && PySem.W.keepIn (noTab K) (.ref f_after)) = true)
    (a_reading : PySem.W.nsIn K mainGlobals "reading" = some (some (.ref f_reading)))
    (l_reading : K.lookup f_reading = some ⟨oc_reading, od_reading, .func (PySem.W.fnOf "reading" "reading" (defArgs s_reading) (defBody s_reading) (defScope s_reading) .none kV_reading dc_reading pm_reading an_reading cd_reading ct_reading), sl_reading⟩)
    (e_reading : (PySem.W.codeIn (noTab K) cd_reading "reading" && PySem.W.keepIn (noTab K) (.ref f_reading)) = true)
    (a_looks : PySem.W.nsIn K mainGlobals "looks" = some (some (.ref f_looks)))
    (l_looks : K.lookup f_looks = some ⟨oc_looks, od_looks, .func (PySem.W.fnOf "looks" "looks" (defArgs s_looks) (defBody s_looks) (defScope s_looks) .none kV_looks dc_looks pm_looks an_looks cd_looks ct_looks), sl_looks⟩)
    (e_looks : (PySem.W.codeIn (noTab K) cd_looks "looks" && PySem.W.keepIn (noTab K) (.ref f_looks)) = true)
    (a_sight : PySem.W.nsIn K mainGlobals "sight" = some (some (.ref f_sight)))
    (l_sight : K.lookup f_sight = some ⟨oc_sight, od_sight, .func (PySem.W.fnOf "sight" "sight" (defArgs s_sight) (defBody s_sight) (defScope s_sight) .none kV_sight dc_sight pm_sight an_sight cd_sight ct_sight), sl_sight⟩)
    (e_sight : (PySem.W.codeIn (noTab K) cd_sight "sight" && PySem.W.keepIn (noTab K) (.ref f_sight)) = true)
    (a__law_wanted : PySem.W.nsIn K mainGlobals "_law_wanted" = some (some (.ref f__law_wanted)))
    (l__law_wanted : K.lookup f__law_wanted = some ⟨oc__law_wanted, od__law_wanted, .func (PySem.W.fnOf "_law_wanted" "_law_wanted" (defArgs s__law_wanted) (defBody s__law_wanted) (defScope s__law_wanted) .none kV__law_wanted dc__law_wanted pm__law_wanted an__law_wanted cd__law_wanted ct__law_wanted), sl__law_wanted⟩)
    (e__law_wanted : (PySem.W.codeIn (noTab K) cd__law_wanted "_law_wanted" && PySem.W.keepIn (noTab K) (.ref f__law_wanted)) = true)
    (a__law_next : PySem.W.nsIn K mainGlobals "_law_next" = some (some (.ref f__law_next)))
    (l__law_next : K.lookup f__law_next = some ⟨oc__law_next, od__law_next, .func (PySem.W.fnOf "_law_next" "_law_next" (defArgs s__law_next) (defBody s__law_next) (defScope s__law_next) .none kV__law_next dc__law_next pm__law_next an__law_next cd__law_next ct__law_next), sl__law_next⟩)
    (e__law_next : (PySem.W.codeIn (noTab K) cd__law_next "_law_next" && PySem.W.keepIn (noTab K) (.ref f__law_next)) = true)
    (a__law_first : PySem.W.nsIn K mainGlobals "_law_first" = some (some (.ref f__law_first)))
    (l__law_first : K.lookup f__law_first = some ⟨oc__law_first, od__law_first, .func (PySem.W.fnOf "_law_first" "_law_first" (defArgs s__law_first) (defBody s__law_first) (defScope s__law_first) .none kV__law_first dc__law_first pm__law_first an__law_first cd__law_first ct__law_first), sl__law_first⟩)
    (e__law_first : (PySem.W.codeIn (noTab K) cd__law_first "_law_first" && PySem.W.keepIn (noTab K) (.ref f__law_first)) = true)
    (a__law_table : PySem.W.nsIn K mainGlobals "_law_table" = some (some (.ref f__law_table)))
    (l__law_table : K.lookup f__law_table = some ⟨oc__law_table, od__law_table, .func (PySem.W.fnOf "_law_table" "_law_table" (defArgs s__law_table) (defBody s__law_table) (defScope s__law_table) .none kV__law_table dc__law_table pm__law_table an__law_table cd__law_table ct__law_table), sl__law_table⟩)
    (e__law_table : (PySem.W.codeIn (noTab K) cd__law_table "_law_table" && PySem.W.keepIn (noTab K) (.ref f__law_table)) = true)
    (a__law_changes : PySem.W.nsIn K mainGlobals "_law_changes" = some (some (.ref f__law_changes)))
    (l__law_changes : K.lookup f__law_changes = some ⟨oc__law_changes, od__law_changes, .func (PySem.W.fnOf "_law_changes" "_law_changes" (defArgs s__law_changes) (defBody s__law_changes) (defScope s__law_changes) .none kV__law_changes dc__law_changes pm__law_changes an__law_changes cd__law_changes ct__law_changes), sl__law_changes⟩)
    (e__law_changes : (PySem.W.codeIn (noTab K) cd__law_changes "_law_changes" && PySem.W.keepIn (noTab K) (.ref f__law_changes)) = true)
    (a__law_part : PySem.W.nsIn K mainGlobals "_law_part" = some (some (.ref f__law_part)))
    (l__law_part : K.lookup f__law_part = some ⟨oc__law_part, od__law_part, .func (PySem.W.fnOf "_law_part" "_law_part" (defArgs s__law_part) (defBody s__law_part) (defScope s__law_part) .none kV__law_part dc__law_part pm__law_part an__law_part cd__law_part ct__law_part), sl__law_part⟩)
    (e__law_part : (PySem.W.codeIn (noTab K) cd__law_part "_law_part" && PySem.W.keepIn (noTab K) (.ref f__law_part)) = true)
    (a__law_data : PySem.W.nsIn K mainGlobals "_law_data" = some (some (.ref f__law_data)))
    (l__law_data : K.lookup f__law_data = some ⟨oc__law_data, od__law_data, .func (PySem.W.fnOf "_law_data" "_law_data" (defArgs s__law_data) (defBody s__law_data) (defScope s__law_data) .none kV__law_data dc__law_data pm__law_data an__law_data cd__law_data ct__law_data), sl__law_data⟩)
    (e__law_data : (PySem.W.codeIn (noTab K) cd__law_data "_law_data" && PySem.W.keepIn (noTab K) (.ref f__law_data)) = true)
    (a_is_stale : PySem.W.nsIn K mainGlobals "is_stale" = some (some (.ref f_is_stale)))
    (l_is_stale : K.lookup f_is_stale = some ⟨oc_is_stale, od_is_stale, .func (PySem.W.fnOf "is_stale" "is_stale" (defArgs s_is_stale) (defBody s_is_stale) (defScope s_is_stale) .none kV_is_stale dc_is_stale pm_is_stale an_is_stale cd_is_stale ct_is_stale), sl_is_stale⟩)
    (e_is_stale : (PySem.W.codeIn (noTab K) cd_is_stale "is_stale" && PySem.W.keepIn (noTab K) (.ref f_is_stale)) = true)
    (a_is_unsaid : PySem.W.nsIn K mainGlobals "is_unsaid" = some (some (.ref f_is_unsaid)))
    (l_is_unsaid : K.lookup f_is_unsaid = some ⟨oc_is_unsaid, od_is_unsaid, .func (PySem.W.fnOf "is_unsaid" "is_unsaid" (defArgs s_is_unsaid) (defBody s_is_unsaid) (defScope s_is_unsaid) .none kV_is_unsaid dc_is_unsaid pm_is_unsaid an_is_unsaid cd_is_unsaid ct_is_unsaid), sl_is_unsaid⟩)
    (e_is_unsaid : (PySem.W.codeIn (noTab K) cd_is_unsaid "is_unsaid" && PySem.W.keepIn (noTab K) (.ref f_is_unsaid)) = true)
    (a_run_to : PySem.W.nsIn K mainGlobals "run_to" = some (some (.ref f_run_to)))
    (l_run_to : K.lookup f_run_to = some ⟨oc_run_to, od_run_to, .func (PySem.W.fnOf "run_to" "run_to" (defArgs s_run_to) (defBody s_run_to) (defScope s_run_to) .none kV_run_to dc_run_to pm_run_to an_run_to cd_run_to ct_run_to), sl_run_to⟩)
    (e_run_to : (PySem.W.codeIn (noTab K) cd_run_to "run_to" && PySem.W.keepIn (noTab K) (.ref f_run_to)) = true)
    (a_first_run : PySem.W.nsIn K mainGlobals "first_run" = some (some (.ref f_first_run)))
    (l_first_run : K.lookup f_first_run = some ⟨oc_first_run, od_first_run, .func (PySem.W.fnOf "first_run" "first_run" (defArgs s_first_run) (defBody s_first_run) (defScope s_first_run) .none kV_first_run dc_first_run pm_first_run an_first_run cd_first_run ct_first_run), sl_first_run⟩)
    (e_first_run : (PySem.W.codeIn (noTab K) cd_first_run "first_run" && PySem.W.keepIn (noTab K) (.ref f_first_run)) = true)
    (a_first_stale : PySem.W.nsIn K mainGlobals "first_stale" = some (some (.ref f_first_stale)))
    (l_first_stale : K.lookup f_first_stale = some ⟨oc_first_stale, od_first_stale, .func (PySem.W.fnOf "first_stale" "first_stale" (defArgs s_first_stale) (defBody s_first_stale) (defScope s_first_stale) .none kV_first_stale dc_first_stale pm_first_stale an_first_stale cd_first_stale ct_first_stale), sl_first_stale⟩)
    (e_first_stale : (PySem.W.codeIn (noTab K) cd_first_stale "first_stale" && PySem.W.keepIn (noTab K) (.ref f_first_stale)) = true)
    (a_first_unsaid : PySem.W.nsIn K mainGlobals "first_unsaid" = some (some (.ref f_first_unsaid)))
    (l_first_unsaid : K.lookup f_first_unsaid = some ⟨oc_first_unsaid, od_first_unsaid, .func (PySem.W.fnOf "first_unsaid" "first_unsaid" (defArgs s_first_unsaid) (defBody s_first_unsaid) (defScope s_first_unsaid) .none kV_first_unsaid dc_first_unsaid pm_first_unsaid an_first_unsaid cd_first_unsaid ct_first_unsaid), sl_first_unsaid⟩)
    (e_first_unsaid : (PySem.W.codeIn (noTab K) cd_first_unsaid "first_unsaid" && PySem.W.keepIn (noTab K) (.ref f_first_unsaid)) = true)
    (a__law_told : PySem.W.nsIn K mainGlobals "_law_told" = some (some (.ref f__law_told)))
    (l__law_told : K.lookup f__law_told = some ⟨oc__law_told, od__law_told, .func (PySem.W.fnOf "_law_told" "_law_told" (defArgs s__law_told) (defBody s__law_told) (defScope s__law_told) .none kV__law_told dc__law_told pm__law_told an__law_told cd__law_told ct__law_told), sl__law_told⟩)
    (e__law_told : (PySem.W.codeIn (noTab K) cd__law_told "_law_told" && PySem.W.keepIn (noTab K) (.ref f__law_told)) = true)
    (a_law : PySem.W.nsIn K mainGlobals "law" = some (some (.ref f_law)))
    (l_law : K.lookup f_law = some ⟨oc_law, od_law, .func (PySem.W.fnOf "law" "law" (defArgs s_law) (defBody s_law) (defScope s_law) .none kV_law dc_law pm_law an_law cd_law ct_law), sl_law⟩)
    (e_law : (PySem.W.codeIn (noTab K) cd_law "law" && PySem.W.keepIn (noTab K) (.ref f_law)) = true)
    (z_all : PySem.W.nsIn K mainGlobals "all" = some none)
    (z_bool : PySem.W.nsIn K mainGlobals "bool" = some none)
    (z_enumerate : PySem.W.nsIn K mainGlobals "enumerate" = some none)
    (z_int : PySem.W.nsIn K mainGlobals "int" = some none)
    (z_isinstance : PySem.W.nsIn K mainGlobals "isinstance" = some none)
    (z_len : PySem.W.nsIn K mainGlobals "len" = some none)
    (z_list : PySem.W.nsIn K mainGlobals "list" = some none)
    (z_range : PySem.W.nsIn K mainGlobals "range" = some none)
    (z_tuple : PySem.W.nsIn K mainGlobals "tuple" = some none)
    (k_MOST_NUMBER : PySem.W.nsIn K mainGlobals "MOST_NUMBER" = some (some (.int 7 tk_MOST_NUMBER)))
    (aP : PySem.W.nsIn K mainGlobals "Program" = some (some (.ref C0)))
    (ai : PySem.W.findIn K (.ref C0) "__init__" = some (some (.ref f_init)))
    (l_init : K.lookup f_init = some ⟨oc_init, od_init, .func (PySem.W.fnOf "__init__" "Program.__init__" (defArgs s_init) (defBody s_init) (defScope s_init) .none (.ref D_init) dc_init pm_init an_init (.ref c_init) ct_init), sl_init⟩)
    (e_init : (PySem.W.codeIn (noTab K) (.ref c_init) "Program.__init__" && PySem.W.makesIn (noTab K) C0 && PySem.W.isFn (noTab K) (.ref f_init) && PySem.W.keepIn (noTab K) (.ref C0) && PySem.W.plainGet (noTab K) C0 Str.empty && PySem.W.hasDictIn (noTab K) C0 && PySem.W.plainOver (noTab K) C0) = true)
    (i_init : PySem.W.findIn (noTab K) (.ref C0) "__init__" = some (some (.ref f_init)))
    (sa : PySem.W.findIn (noTab K) (.ref C0) "__setattr__" = some (some (.builtin "object.__setattr__")))
    (n_sizes : PySem.W.findIn (noTab K) (.ref C0) "sizes" = some none)
    (n_parts : PySem.W.findIn (noTab K) (.ref C0) "parts" = some none)
    (n_ticks : PySem.W.findIn (noTab K) (.ref C0) "ticks" = some none)
    (n_live : PySem.W.findIn (noTab K) (.ref C0) "live" = some none)
    (n_skips : PySem.W.findIn (noTab K) (.ref C0) "skips" = some none)
    (lc_init : K.lookup c_init = some ⟨ec_init, dd_init, .fields vs_init, sc_init⟩)
    (v_init : vs_init[11]? = some (.ref t_init))
    (lt_init : K.lookup t_init = some ⟨.none, none, .fields #[], #[]⟩)
    (nt_init : (noTab K).lookup t_init = none)
    (ch_init : PySem.W.codeHdIn K c_init t_init = true)
    (lc_are_numbers : K.lookup c_are_numbers = some ⟨ec_are_numbers, dd_are_numbers, .fields vs_are_numbers, sc_are_numbers⟩)
    (v_are_numbers : vs_are_numbers[11]? = some (.ref t_are_numbers))
    (lt_are_numbers : K.lookup t_are_numbers = some ⟨.none, none, .fields #[], #[]⟩)
    (nt_are_numbers : (noTab K).lookup t_are_numbers = none)
    (ch_are_numbers : PySem.W.codeHdIn K c_are_numbers t_are_numbers = true)
    (hne : f_is_stale ≠ f_is_unsaid) :
    LamX.LawAtS l w (noTab K) CX0 9 63 "_law_script" mg fa h := by
  have e : f_law = fa := (Value.ref.inj (Option.some.inj (hfa.symm.trans (PySem.W.mg_of X G a_law)))).symm
  subst e
  have X' : (noTab K).In h := noTab_in X tt
  have ei := e_init
  simp only [Bool.and_eq_true, and_assoc] at ei
  have mk : ∀ base : Heap, GxR.TabB base mg c_init t_init → GxR.TabB base mg c_are_numbers t_are_numbers → Tx (noTab K) mg base ⟨C0, [t_init, t_are_numbers]⟩ ⟨f__law_start, f_is_number, f_are_numbers, f_is_table, f_are_changes, f_are_parts, f_are_indexes, f__law_made, f_start, f_acts, f_changed, f_words, f_next_focus, f_changes_of, f_put, f_after, f_reading, f_looks, f_sight, f__law_wanted, f__law_next, f__law_first, f__law_table, f__law_changes, f__law_part, f__law_data, f_is_stale, f_is_unsaid, f_run_to, f_first_run, f_first_stale, f_first_unsaid, f__law_told, f_law, f_init, c_init, t_init, c_are_numbers, t_are_numbers⟩ := fun base tb1 tb2 =>
    { _law_start := ⟨⟨_, (fun_mk (st := s__law_start) (noTab_look l__law_start rfl) (andL e__law_start) (andR e__law_start))⟩, PySem.W.mg_of X G a__law_start⟩, is_number := ⟨⟨_, (fun_mk (st := s_is_number) (noTab_look l_is_number rfl) (andL e_is_number) (andR e_is_number))⟩, PySem.W.mg_of X G a_is_number⟩, are_numbers := ⟨⟨_, (fun_mk (st := s_are_numbers) (noTab_look l_are_numbers rfl) (andL e_are_numbers) (andR e_are_numbers))⟩, PySem.W.mg_of X G a_are_numbers⟩, is_table := ⟨⟨_, (fun_mk (st := s_is_table) (noTab_look l_is_table rfl) (andL e_is_table) (andR e_is_table))⟩, PySem.W.mg_of X G a_is_table⟩, are_changes := ⟨⟨_, (fun_mk (st := s_are_changes) (noTab_look l_are_changes rfl) (andL e_are_changes) (andR e_are_changes))⟩, PySem.W.mg_of X G a_are_changes⟩, are_parts := ⟨⟨_, (fun_mk (st := s_are_parts) (noTab_look l_are_parts rfl) (andL e_are_parts) (andR e_are_parts))⟩, PySem.W.mg_of X G a_are_parts⟩, are_indexes := ⟨⟨_, (fun_mk (st := s_are_indexes) (noTab_look l_are_indexes rfl) (andL e_are_indexes) (andR e_are_indexes))⟩, PySem.W.mg_of X G a_are_indexes⟩, _law_made := ⟨⟨_, (fun_mk (st := s__law_made) (noTab_look l__law_made rfl) (andL e__law_made) (andR e__law_made))⟩, PySem.W.mg_of X G a__law_made⟩, start := ⟨⟨_, (fun_mk (st := s_start) (noTab_look l_start rfl) (andL e_start) (andR e_start))⟩, PySem.W.mg_of X G a_start⟩, acts := ⟨⟨_, (fun_mk (st := s_acts) (noTab_look l_acts rfl) (andL e_acts) (andR e_acts))⟩, PySem.W.mg_of X G a_acts⟩, changed := ⟨⟨_, (fun_mk (st := s_changed) (noTab_look l_changed rfl) (andL e_changed) (andR e_changed))⟩, PySem.W.mg_of X G a_changed⟩, words := ⟨⟨_, (fun_mk (st := s_words) (noTab_look l_words rfl) (andL e_words) (andR e_words))⟩, PySem.W.mg_of X G a_words⟩, next_focus := ⟨⟨_, (fun_mk (st := s_next_focus) (noTab_look l_next_focus rfl) (andL e_next_focus) (andR e_next_focus))⟩, PySem.W.mg_of X G a_next_focus⟩, changes_of := ⟨⟨_, (fun_mk (st := s_changes_of) (noTab_look l_changes_of rfl) (andL e_changes_of) (andR e_changes_of))⟩, PySem.W.mg_of X G a_changes_of⟩, put := ⟨⟨_, (fun_mk (st := s_put) (noTab_look l_put rfl) (andL e_put) (andR e_put))⟩, PySem.W.mg_of X G a_put⟩, after := ⟨⟨_, (fun_mk (st := s_after) (noTab_look l_after rfl) (andL e_after) (andR e_after))⟩, PySem.W.mg_of X G a_after⟩, reading := ⟨⟨_, (fun_mk (st := s_reading) (noTab_look l_reading rfl) (andL e_reading) (andR e_reading))⟩, PySem.W.mg_of X G a_reading⟩, looks := ⟨⟨_, (fun_mk (st := s_looks) (noTab_look l_looks rfl) (andL e_looks) (andR e_looks))⟩, PySem.W.mg_of X G a_looks⟩, sight := ⟨⟨_, (fun_mk (st := s_sight) (noTab_look l_sight rfl) (andL e_sight) (andR e_sight))⟩, PySem.W.mg_of X G a_sight⟩, _law_wanted := ⟨⟨_, (fun_mk (st := s__law_wanted) (noTab_look l__law_wanted rfl) (andL e__law_wanted) (andR e__law_wanted))⟩, PySem.W.mg_of X G a__law_wanted⟩, _law_next := ⟨⟨_, (fun_mk (st := s__law_next) (noTab_look l__law_next rfl) (andL e__law_next) (andR e__law_next))⟩, PySem.W.mg_of X G a__law_next⟩, _law_first := ⟨⟨_, (fun_mk (st := s__law_first) (noTab_look l__law_first rfl) (andL e__law_first) (andR e__law_first))⟩, PySem.W.mg_of X G a__law_first⟩, _law_table := ⟨⟨_, (fun_mk (st := s__law_table) (noTab_look l__law_table rfl) (andL e__law_table) (andR e__law_table))⟩, PySem.W.mg_of X G a__law_table⟩, _law_changes := ⟨⟨_, (fun_mk (st := s__law_changes) (noTab_look l__law_changes rfl) (andL e__law_changes) (andR e__law_changes))⟩, PySem.W.mg_of X G a__law_changes⟩, _law_part := ⟨⟨_, (fun_mk (st := s__law_part) (noTab_look l__law_part rfl) (andL e__law_part) (andR e__law_part))⟩, PySem.W.mg_of X G a__law_part⟩, _law_data := ⟨⟨_, (fun_mk (st := s__law_data) (noTab_look l__law_data rfl) (andL e__law_data) (andR e__law_data))⟩, PySem.W.mg_of X G a__law_data⟩, is_stale := ⟨⟨_, (fun_mk (st := s_is_stale) (noTab_look l_is_stale rfl) (andL e_is_stale) (andR e_is_stale))⟩, PySem.W.mg_of X G a_is_stale⟩, is_unsaid := ⟨⟨_, (fun_mk (st := s_is_unsaid) (noTab_look l_is_unsaid rfl) (andL e_is_unsaid) (andR e_is_unsaid))⟩, PySem.W.mg_of X G a_is_unsaid⟩, run_to := ⟨⟨_, (fun_mk (st := s_run_to) (noTab_look l_run_to rfl) (andL e_run_to) (andR e_run_to))⟩, PySem.W.mg_of X G a_run_to⟩, first_run := ⟨⟨_, (fun_mk (st := s_first_run) (noTab_look l_first_run rfl) (andL e_first_run) (andR e_first_run))⟩, PySem.W.mg_of X G a_first_run⟩, first_stale := ⟨⟨_, (fun_mk (st := s_first_stale) (noTab_look l_first_stale rfl) (andL e_first_stale) (andR e_first_stale))⟩, PySem.W.mg_of X G a_first_stale⟩, first_unsaid := ⟨⟨_, (fun_mk (st := s_first_unsaid) (noTab_look l_first_unsaid rfl) (andL e_first_unsaid) (andR e_first_unsaid))⟩, PySem.W.mg_of X G a_first_unsaid⟩, _law_told := ⟨⟨_, (fun_mk (st := s__law_told) (noTab_look l__law_told rfl) (andL e__law_told) (andR e__law_told))⟩, PySem.W.mg_of X G a__law_told⟩, law := ⟨⟨_, (fun_mk (st := s_law) (noTab_look l_law rfl) (andL e_law) (andR e_law))⟩, PySem.W.mg_of X G a_law⟩, code_are_numbers := ⟨_, ⟨_, _, _, _, _, _, _, _, _, rfl, noTab_look l_are_numbers rfl, andL e_are_numbers⟩, andR e_are_numbers, (fun_mk (st := s_are_numbers) (noTab_look l_are_numbers rfl) (andL e_are_numbers) (andR e_are_numbers)).binds (fun _ _ _ _ _ _ us hl => match us, hl with | [_, _, _], _ => rfl)⟩, tabB_are_numbers := tb2, ptab_are_numbers := List.mem_cons_of_mem _ List.mem_cons_self, z_all := PySem.W.mg_none_of X G z_all, z_bool := PySem.W.mg_none_of X G z_bool, z_enumerate := PySem.W.mg_none_of X G z_enumerate, z_int := PySem.W.mg_none_of X G z_int, z_isinstance := PySem.W.mg_none_of X G z_isinstance, z_len := PySem.W.mg_none_of X G z_len, z_list := PySem.W.mg_none_of X G z_list, z_range := PySem.W.mg_none_of X G z_range, z_tuple := PySem.W.mg_none_of X G z_tuple, c_MOST_NUMBER := ⟨⟨.int 7, _, PySem.W.mg_of X G k_MOST_NUMBER, ⟨_, rfl⟩, fun _ => .int _⟩⟩, cls := ⟨ei.2.2.2.2.1, ei.2.2.2.2.2.1, ei.2.2.2.2.2.2, sa⟩, n_sizes := n_sizes, n_parts := n_parts, n_ticks := n_ticks, n_live := n_live, n_skips := n_skips, mgP := PySem.W.mg_of X G aP, tabB_init := tb1, ptab_init := List.mem_cons_self, init := ⟨_, fun us ws => us ++ ws, ⟨_, _, _, _, _, _, _, _, _, rfl, noTab_look l_init rfl, ei.1⟩, ⟨ei.2.1, i_init, ei.2.2.1, ei.2.2.2.1⟩, ⟨fun s us ws _ l1 l2 => match us, ws, l1, l2 with | [_], [_, _, _, _, _], _, _ => .of_eq rfl, fun r1 r2 => r1.append r2⟩⟩ }
  obtain ⟨fd, F0⟩ : ∃ fd, Fun (noTab K) "law" "law" s_law f_law fd := ⟨_, (fun_mk (st := s_law) (noTab_look l_law rfl) (andL e_law) (andR e_law))⟩
  have hF : ∀ base : Heap, GxR.TabB base mg c_init t_init → GxR.TabB base mg c_are_numbers t_are_numbers → FnOk l.prog w (noTab K) mg base CX0 9 f_law fd ["_law_script"] (spLaw (noTab K) ⟨C0, [t_init, t_are_numbers]⟩ ⟨f__law_start, f_is_number, f_are_numbers, f_is_table, f_are_changes, f_are_parts, f_are_indexes, f__law_made, f_start, f_acts, f_changed, f_words, f_next_focus, f_changes_of, f_put, f_after, f_reading, f_looks, f_sight, f__law_wanted, f__law_next, f__law_first, f__law_table, f__law_changes, f__law_part, f__law_data, f_is_stale, f_is_unsaid, f_run_to, f_first_run, f_first_stale, f_first_unsaid, f__law_told, f_law, f_init, c_init, t_init, c_are_numbers, t_are_numbers⟩) := fun base tb1 tb2 => ok_law (mk base tb1 tb2) F0
  refine ⟨fd, [(c_init, t_init), (c_are_numbers, t_are_numbers)], spLaw (noTab K) ⟨C0, [t_init, t_are_numbers]⟩ ⟨f__law_start, f_is_number, f_are_numbers, f_is_table, f_are_changes, f_are_parts, f_are_indexes, f__law_made, f_start, f_acts, f_changed, f_words, f_next_focus, f_changes_of, f_put, f_after, f_reading, f_looks, f_sight, f__law_wanted, f__law_next, f__law_first, f__law_table, f__law_changes, f__law_part, f__law_data, f_is_stale, f_is_unsaid, f_run_to, f_first_run, f_first_stale, f_first_unsaid, f__law_told, f_law, f_init, c_init, t_init, c_are_numbers, t_are_numbers⟩, ?_, ?_, ?_, ?_, ?_, ?_⟩
  · intro p hp
    simp only [List.mem_cons, List.not_mem_nil, or_false] at hp
    rcases hp with rfl | rfl
    · exact X _ _ lt_init
    · exact X _ _ lt_are_numbers
  · intro p hp
    simp only [List.mem_cons, List.not_mem_nil, or_false] at hp
    rcases hp with rfl | rfl
    · exact nt_init
    · exact nt_are_numbers
  · intro p hp
    simp only [List.mem_cons, List.not_mem_nil, or_false] at hp
    rcases hp with rfl | rfl
    · exact PySem.W.codeHd_of_K X ch_init
    · exact PySem.W.codeHd_of_K X ch_are_numbers
  · intro s u
    obtain ⟨oc, od, kV, doc, pm, an, cdv, ct, osl, rfl, lk, hcd⟩ := F0.ex
    exact .of_eq rfl
  · intro H a ns hl hb hT hS
    refine ⟨a, ns, rfl, hS, fun P hP => ?_, Pu.law_true hne ns hl, fun _ => rfl⟩
    simp only [List.mem_cons, List.not_mem_nil, or_false] at hP
    rcases hP with e | e <;> rw [e]
    · exact ⟨#[], hT (c_init, t_init) (by simp), True.intro⟩
    · exact ⟨#[], hT (c_are_numbers, t_are_numbers) (by simp), True.intro⟩
  · intro base _ _ tb
    have t1 := tb (c_init, t_init) (by simp)
    have t2 := tb (c_are_numbers, t_are_numbers) (by simp)
    exact hF base ⟨t1.code, t1.bm, t1.gP⟩ ⟨t2.code, t2.bm, t2.gP⟩
theorem walk {l : PySem.W.OpenLaw} {q : Program} {loose : List Str} {XP : (Str → Option Value) → Heap → Prop} {YP : World → Heap → Prop} {d : DefRec} {K : Params → PySem.W.Frag} (hn : l.most = some 63) (hdf : d.params.defaults = []) (hd : d.name = "law")
    (hY : ∀ (w : World) (h : Heap), YP w h → (K w.params).In h) (ht : ∀ w : World, tabsOut (K w.params) = true)
    (F : ∀ (w : World) (mg : Str → Option Value) (fa : Addr) (h : Heap), (K w.params).In h → h.Ns mainGlobals mg → mg "law" = some (.ref fa) → LamX.LawAtS l w (noTab (K w.params)) CX0 9 63 "_law_script" mg fa h) :
    PySem.W.WalkO q loose XP YP l.row.toRowW d [] (fun f vs => PySem.call f vs) :=
  LamX.walk_ofTsE (CX := fun _ => CX0) hn (by decide) hdf ⟨rfl, by decide, by decide⟩ (fun w mg fa h Y G hmg => ⟨noTab (K w.params), noTab_in (hY w h Y) (ht w), F w mg fa h (hY w h Y) G (by rw [← hd]; exact hmg)⟩) fun _ _ _ _ _ z => z
end Tk.W

open PySem PySem.W PyProof.Rows in
set_option maxRecDepth 100000 in
set_option maxHeartbeats 0 in
theorem PySem.Challenge.cw_twoknowers_k31_whole_what_is_never_said_holds : PySem.Challenge.rw_twoknowers_k31_whole_what_is_never_said.Holds := by
  w_on; o_law; x_head; (case hw => w_witness2)
  k_fill
  refine Tk.W.walk (l := PySem.Challenge.rw_twoknowers_k31_whole_what_is_never_said) rfl rfl rfl (fun w h Y => PySem.W.kIn_of Y) ?T ?F
  case T =>
    intro w
    kernel_rfl
  case F =>
    intro w mg fa h KX G hmg
    refine' Tk.W.all_mk KX G hmg rfl ?tt ?a__law_start ?l__law_start ?e__law_start ?a_is_number ?l_is_number ?e_is_number ?a_are_numbers ?l_are_numbers ?e_are_numbers ?a_is_table ?l_is_table ?e_is_table ?a_are_changes ?l_are_changes ?e_are_changes ?a_are_parts ?l_are_parts ?e_are_parts ?a_are_indexes ?l_are_indexes ?e_are_indexes ?a__law_made ?l__law_made ?e__law_made ?a_start ?l_start ?e_start ?a_acts ?l_acts ?e_acts ?a_changed ?l_changed ?e_changed ?a_words ?l_words ?e_words ?a_next_focus ?l_next_focus ?e_next_focus ?a_changes_of ?l_changes_of ?e_changes_of ?a_put ?l_put ?e_put ?a_after ?l_after ?e_after ?a_reading ?l_reading ?e_reading ?a_looks ?l_looks ?e_looks ?a_sight ?l_sight ?e_sight ?a__law_wanted ?l__law_wanted ?e__law_wanted ?a__law_next ?l__law_next ?e__law_next ?a__law_first ?l__law_first ?e__law_first ?a__law_table ?l__law_table ?e__law_table ?a__law_changes ?l__law_changes ?e__law_changes ?a__law_part ?l__law_part ?e__law_part ?a__law_data ?l__law_data ?e__law_data ?a_is_stale ?l_is_stale ?e_is_stale ?a_is_unsaid ?l_is_unsaid ?e_is_unsaid ?a_run_to ?l_run_to ?e_run_to ?a_first_run ?l_first_run ?e_first_run ?a_first_stale ?l_first_stale ?e_first_stale ?a_first_unsaid ?l_first_unsaid ?e_first_unsaid ?a__law_told ?l__law_told ?e__law_told ?a_law ?l_law ?e_law ?z_all ?z_bool ?z_enumerate ?z_int ?z_isinstance ?z_len ?z_list ?z_range ?z_tuple ?k_MOST_NUMBER ?aP ?ai ?l_init ?e_init ?i_init ?sa ?n_sizes ?n_parts ?n_ticks ?n_live ?n_skips ?lc_init ?v_init ?lt_init ?nt_init ?ch_init ?lc_are_numbers ?v_are_numbers ?lt_are_numbers ?nt_are_numbers ?ch_are_numbers ?hne
    (case tt => kernel_rfl)
    (case a__law_start => k_is)
    (case l__law_start => k_is)
    (case e__law_start => kernel_rfl)
    (case a_is_number => k_is)
    (case l_is_number => k_is)
    (case e_is_number => kernel_rfl)
    (case a_are_numbers => k_is)
    (case l_are_numbers => k_is)
    (case e_are_numbers => kernel_rfl)
    (case a_is_table => k_is)
    (case l_is_table => k_is)
    (case e_is_table => kernel_rfl)
    (case a_are_changes => k_is)
    (case l_are_changes => k_is)
    (case e_are_changes => kernel_rfl)
    (case a_are_parts => k_is)
    (case l_are_parts => k_is)
    (case e_are_parts => kernel_rfl)
    (case a_are_indexes => k_is)
    (case l_are_indexes => k_is)
    (case e_are_indexes => kernel_rfl)
    (case a__law_made => k_is)
    (case l__law_made => k_is)
    (case e__law_made => kernel_rfl)
    (case a_start => k_is)
    (case l_start => k_is)
    (case e_start => kernel_rfl)
    (case a_acts => k_is)
    (case l_acts => k_is)
    (case e_acts => kernel_rfl)
    (case a_changed => k_is)
    (case l_changed => k_is)
    (case e_changed => kernel_rfl)
    (case a_words => k_is)
    (case l_words => k_is)
    (case e_words => kernel_rfl)
    (case a_next_focus => k_is)
    (case l_next_focus => k_is)
    (case e_next_focus => kernel_rfl)
    (case a_changes_of => k_is)
    (case l_changes_of => k_is)
    (case e_changes_of => kernel_rfl)
    (case a_put => k_is)
    (case l_put => k_is)
    (case e_put => kernel_rfl)
    (case a_after => k_is)
    (case l_after => k_is)
    (case e_after => kernel_rfl)
    (case a_reading => k_is)
    (case l_reading => k_is)
    (case e_reading => kernel_rfl)
    (case a_looks => k_is)
    (case l_looks => k_is)
    (case e_looks => kernel_rfl)
    (case a_sight => k_is)
    (case l_sight => k_is)
    (case e_sight => kernel_rfl)
    (case a__law_wanted => k_is)
    (case l__law_wanted => k_is)
    (case e__law_wanted => kernel_rfl)
    (case a__law_next => k_is)
    (case l__law_next => k_is)
    (case e__law_next => kernel_rfl)
    (case a__law_first => k_is)
    (case l__law_first => k_is)
    (case e__law_first => kernel_rfl)
    (case a__law_table => k_is)
    (case l__law_table => k_is)
    (case e__law_table => kernel_rfl)
    (case a__law_changes => k_is)
    (case l__law_changes => k_is)
    (case e__law_changes => kernel_rfl)
    (case a__law_part => k_is)
    (case l__law_part => k_is)
    (case e__law_part => kernel_rfl)
    (case a__law_data => k_is)
    (case l__law_data => k_is)
    (case e__law_data => kernel_rfl)
    (case a_is_stale => k_is)
    (case l_is_stale => k_is)
    (case e_is_stale => kernel_rfl)
    (case a_is_unsaid => k_is)
    (case l_is_unsaid => k_is)
    (case e_is_unsaid => kernel_rfl)
    (case a_run_to => k_is)
    (case l_run_to => k_is)
    (case e_run_to => kernel_rfl)
    (case a_first_run => k_is)
    (case l_first_run => k_is)
    (case e_first_run => kernel_rfl)
    (case a_first_stale => k_is)
    (case l_first_stale => k_is)
    (case e_first_stale => kernel_rfl)
    (case a_first_unsaid => k_is)
    (case l_first_unsaid => k_is)
    (case e_first_unsaid => kernel_rfl)
    (case a__law_told => k_is)
    (case l__law_told => k_is)
    (case e__law_told => kernel_rfl)
    (case a_law => k_is)
    (case l_law => k_is)
    (case e_law => kernel_rfl)
    (case z_all => k_is)
    (case z_bool => k_is)
    (case z_enumerate => k_is)
    (case z_int => k_is)
    (case z_isinstance => k_is)
    (case z_len => k_is)
    (case z_list => k_is)
    (case z_range => k_is)
    (case z_tuple => k_is)
    (case k_MOST_NUMBER => k_is)
    (case aP => k_is)
    (case ai => k_is)
    (case l_init => k_is)
    (case e_init => kernel_rfl)
    (case i_init => kernel_rfl)
    (case sa => kernel_rfl)
    (case n_sizes => kernel_rfl)
    (case n_parts => kernel_rfl)
    (case n_ticks => kernel_rfl)
    (case n_live => kernel_rfl)
    (case n_skips => kernel_rfl)
    (case lc_init => k_is)
    (case v_init => rfl)
    (case lt_init => k_is)
    (case nt_init => kernel_rfl)
    (case ch_init => kernel_rfl)
    (case lc_are_numbers => k_is)
    (case v_are_numbers => rfl)
    (case lt_are_numbers => k_is)
    (case nt_are_numbers => kernel_rfl)
    (case ch_are_numbers => kernel_rfl)
    (case hne => decide)

